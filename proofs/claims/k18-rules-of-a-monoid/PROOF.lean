import PyProof.Rows.All
import Wide.All
import OpenK.AllK
import Wide.FinOn
import HandS.ForMost
import HandS.Evl
import HandS.Walk
import KE.GoesEnum
import KE.GoesZip
import KE.GoesMore
import HandS.Conv
import HandS.IsInst
import HandS.Style
import HandS.TupAny
import HandS.SetFor
import HandS.SortInts
import HandS.Dict
import PyProof.Rows.TupDisplay
import HandS.Small
import HandS.HeadEnd
import HandS.HeadHook2
import HandS.Head2
import PyProof.ReprRoads
import PyProof.Rows.RegFStrParts
import PyProof.P3In
import HandS.Replace
import HandS.Deep
import HandS.WordsDict
import HandS.RaiseMore
import HandS.Wide
import HandS.Codes
import KE.SortKeyHeap
import KE.KDictSum
import HandS.Exc
import HandS.TryMany
import HandS.ExcInit
import HandS.ExcField
import HandS.WordsExc
import HandS.ExcOwn
import HandS.HeadHook4
import KE.KDictZip
import HandS.SetKeys
import HandS.TupMul
import HandS.TryOnly
import HandS.Iter
import HandS.TupSets
import HandS.More
import KE.KIndexOf
import HandS.Lambda
import HandS.HeadWalk
import PySem.Challenge.RW_letterfolds_k18_rules_of_a_monoid
import KE.KStateDown
import HandS.Defaults
import HandS.Head0
import HandS.Head1
import HandS.HeadHook1
import KE.OsScanText
import PyProof.ListStr
import PyProof.StrOps2
set_option Elab.async false
set_option linter.all false
set_option maxRecDepth 100000
/-! SL: values by frozen data and owned objects; what a reading does, told by descriptions of the slots. -/
namespace SL
open PySem L2 Evl

mutual
/-- frozen data: a value and what it is, by the frozen heap -/
inductive Dp (K : PySem.W.Frag) (G : Hp) : V → PyData → Prop
  | non : Dp K G .non .none
  | bl (b : Bool) : Dp K G (.bl b) (.bool b)
  | int (i : Int) : Dp K G (.int i) (.int i)
  | str (x : Str) : Dp K G (.str x) (.str x)
  | lst {a : Addr} {xs : List V} {ds : List PyData} : Rd G a (.lst xs) → DpAll K G xs ds → Dp K G (.ref a) (.list ds)
  | tup {a : Addr} {xs : List V} {ds : List PyData} : G a = some (.tup xs) → DpAll K G xs ds → Dp K G (.ref a) (.tuple ds)
inductive DpAll (K : PySem.W.Frag) (G : Hp) : List V → List PyData → Prop
  | nil : DpAll K G [] []
  | cons {v : V} {vs : List V} {d : PyData} {ds : List PyData} : Dp K G v d → DpAll K G vs ds → DpAll K G (v :: vs) (d :: ds)
end
section
variable {K : PySem.W.Frag}
mutual
theorem dpMono {G G' : Hp} (e : Ex G G') : ∀ (d : PyData) (v : V), Dp K G v d → Dp K G' v d
  | .none, _, h => by cases h; exact .non
  | .bool _, _, h => by cases h; exact .bl _
  | .int _, _, h => by cases h; exact .int _
  | .str _, _, h => by cases h; exact .str _
  | .list ds, _, h => by
    cases h with
    | lst s a => exact .lst (ex_rd e s) (dpAllMono e ds _ a)
  | .tuple ds, _, h => by
    cases h with
    | tup s a => exact .tup (e _ _ s) (dpAllMono e ds _ a)
  | .dict _, _, h => by cases h
theorem dpAllMono {G G' : Hp} (e : Ex G G') : ∀ (ds : List PyData) (vs : List V), DpAll K G vs ds → DpAll K G' vs ds
  | [], _, h => by cases h; exact .nil
  | d :: ds, _, h => by
    cases h with
    | cons a b => exact .cons (dpMono e d _ a) (dpAllMono e ds _ b)
end
mutual
theorem dpTo {G : Hp} : ∀ (d : PyData) (v : V), Dp K G v d → L2.Dp K G v d
  | .none, _, h => by cases h; exact .non
  | .bool _, _, h => by cases h; exact .bl _
  | .int _, _, h => by cases h; exact .int _
  | .str _, _, h => by cases h; exact .str _
  | .list ds, _, h => by
    cases h with
    | lst s a => exact .lst (.inl s) (dpAllTo ds _ a)
  | .tuple ds, _, h => by
    cases h with
    | tup s a => exact .tup (.inl (.inl s)) (dpAllTo ds _ a)
  | .dict _, _, h => by cases h
theorem dpAllTo {G : Hp} : ∀ (ds : List PyData) (vs : List V), DpAll K G vs ds → L2.DpAll K G vs ds
  | [], _, h => by cases h; exact .nil
  | d :: ds, _, h => by
    cases h with
    | cons a b => exact .cons (dpTo d _ a) (dpAllTo ds _ b)
end
theorem DpAll.len {G : Hp} : ∀ {vs : List V} {ds : List PyData}, DpAll K G vs ds → vs.length = ds.length
  | _, _, .nil => rfl
  | _, _, .cons _ b => by simp [DpAll.len b]
theorem DpAll.get {G : Hp} : ∀ {vs : List V} {ds : List PyData} {i : Nat} {v : V}, DpAll K G vs ds → vs[i]? = some v → ∃ d, ds[i]? = some d ∧ Dp K G v d
  | _, _, _, _, .nil, e => by simp at e
  | _, _, 0, _, .cons a _, e => by simp at e; subst e; exact ⟨_, rfl, a⟩
  | _, _, i + 1, v, .cons _ b, e => by
    obtain ⟨d, h1, h2⟩ := DpAll.get (i := i) (v := v) b (by simpa using e)
    exact ⟨d, by simpa using h1, h2⟩
theorem DpAll.get' {G : Hp} : ∀ {vs : List V} {ds : List PyData} {i : Nat} {d : PyData}, DpAll K G vs ds → ds[i]? = some d → ∃ v, vs[i]? = some v ∧ Dp K G v d
  | _, _, _, _, .nil, e => by simp at e
  | _, _, 0, _, .cons a _, e => by simp at e; subst e; exact ⟨_, rfl, a⟩
  | _, _, i + 1, d, .cons _ b, e => by
    obtain ⟨v, h1, h2⟩ := DpAll.get' (i := i) (d := d) b (by simpa using e)
    exact ⟨v, by simpa using h1, h2⟩
theorem DpAll.app {G : Hp} : ∀ {vs ws : List V} {ds es : List PyData}, DpAll K G vs ds → DpAll K G ws es → DpAll K G (vs ++ ws) (ds ++ es)
  | _, _, _, _, .nil, h => h
  | _, _, _, _, .cons a b, h => .cons a (DpAll.app b h)
theorem DpAll.one {G : Hp} {v : V} {d : PyData} (h : Dp K G v d) : DpAll K G [v] [d] := .cons h .nil
theorem DpAll.set {G : Hp} {v : V} {d : PyData} (h : Dp K G v d) : ∀ {vs : List V} {ds : List PyData} (i : Nat), DpAll K G vs ds → DpAll K G (vs.set i v) (ds.set i d)
  | _, _, _, .nil => .nil
  | _, _, 0, .cons _ b => .cons h b
  | _, _, i + 1, .cons a b => .cons a (DpAll.set h i b)
theorem DpAll.take {G : Hp} : ∀ {vs : List V} {ds : List PyData} (n : Nat), DpAll K G vs ds → DpAll K G (vs.take n) (ds.take n)
  | _, _, 0, _ => .nil
  | _, _, _ + 1, .nil => .nil
  | _, _, n + 1, .cons a b => .cons a (DpAll.take n b)
theorem DpAll.drop {G : Hp} : ∀ {vs : List V} {ds : List PyData} (n : Nat), DpAll K G vs ds → DpAll K G (vs.drop n) (ds.drop n)
  | _, _, 0, h => h
  | _, _, _ + 1, .nil => .nil
  | _, _, n + 1, .cons _ b => DpAll.drop n b
theorem DpAll.ints {G : Hp} : ∀ {vs : List V} {ns : List Int}, DpAll K G vs (ns.map PyData.int) → vs = ns.map V.int
  | [], [], _ => rfl
  | _ :: _, [], h => by cases h
  | [], _ :: _, h => by cases h
  | v :: vs, n :: ns, h => by
    cases h with
    | cons a b =>
      cases a
      simp [DpAll.ints b]
theorem DpAll.ofInts {G : Hp} : ∀ (ns : List Int), DpAll K G (ns.map V.int) (ns.map PyData.int)
  | [] => .nil
  | n :: ns => .cons (.int n) (DpAll.ofInts ns)
theorem DpAll.strs {G : Hp} : ∀ {vs : List V} {ns : List Str}, DpAll K G vs (ns.map PyData.str) → vs = ns.map V.str
  | [], [], _ => rfl
  | _ :: _, [], h => by cases h
  | [], _ :: _, h => by cases h
  | v :: vs, n :: ns, h => by
    cases h with
    | cons a b =>
      cases a
      simp [DpAll.strs b]
theorem DpAll.ofStrs {G : Hp} : ∀ (ns : List Str), DpAll K G (ns.map V.str) (ns.map PyData.str)
  | [] => .nil
  | n :: ns => .cons (.str n) (DpAll.ofStrs ns)
theorem DpAll.bls {G : Hp} : ∀ {vs : List V} {ns : List Bool}, DpAll K G vs (ns.map PyData.bool) → vs = ns.map V.bl
  | [], [], _ => rfl
  | _ :: _, [], h => by cases h
  | [], _ :: _, h => by cases h
  | v :: vs, n :: ns, h => by
    cases h with
    | cons a b =>
      cases a
      simp [DpAll.bls b]
end

/-- an owned thing of any other kind: its addresses, what holds of it -/
structure Ow where
  fp : List Addr
  R : Hp → Hp → V → Prop
  loc : ∀ {G G' H H' : Hp} {v : V}, Ex G G' → (∀ a ∈ fp, H' a = H a) → R G H v → R G' H' v

/-- what is known of a slot -/
inductive SD where
  | no
  | fz (d : PyData)
  | al (p : Addr)
  | ol (p : Addr) (ds : List PyData)
  | od (p : Addr) (kvs : List (Key × PyData))
  | ot (p : Addr) (kvs : List (List Key × PyData))
  | ow (o : Ow)
def SD.fp : SD → List Addr
  | .ol p _ => [p]
  | .od p _ => [p]
  | .ot p _ => [p]
  | .ow o => o.fp
  | _ => []
def fps : List SD → List Addr
  | [] => []
  | s :: r => s.fp ++ fps r

/-- pairs of keys and values, and of the same keys and data -/
inductive KD (K : PySem.W.Frag) (G : Hp) {κ : Type} : List (κ × V) → List (κ × PyData) → Prop
  | nil : KD K G [] []
  | cons {k : κ} {v : V} {d : PyData} {vs : List (κ × V)} {ds : List (κ × PyData)} : Dp K G v d → KD K G vs ds → KD K G ((k, v) :: vs) ((k, d) :: ds)

def SD.ok (K : PySem.W.Frag) (G H : Hp) : Option V → SD → Prop
  | _, .no => True
  | some v, .fz d => Dp K G v d
  | some v, .al p => v = .ref p
  | some v, .ol p ds => v = .ref p ∧ ∃ xs, H p = some (.lst xs) ∧ DpAll K G xs ds
  | some v, .od p ks => v = .ref p ∧ ∃ xs, H p = some (.dK xs) ∧ KD K G xs ks
  | some v, .ot p ks => v = .ref p ∧ ∃ xs, H p = some (.dT xs) ∧ KD K G xs ks
  | some v, .ow o => o.R G H v
  | none, _ => False
def Oks (K : PySem.W.Frag) (G H : Hp) : List (Option V) → List SD → Prop
  | [], [] => True
  | v :: vs, s :: r => SD.ok K G H v s ∧ Oks K G H vs r
  | _, _ => False

/-- the frame of a def's run: the frozen and the whole heap at its start, the owned things that were handed in -/
structure Fm where
  K : PySem.W.Frag
  G0 : Hp
  H0 : Hp
  io : List Addr

structure Wd (F : Fm) (G H : Hp) (fs : List Addr) : Prop where
  gh : Ex G H
  own : ∀ a ∈ fs, G a = none ∧ ∃ o, H a = some o
  nd : fs.Nodup
  g0 : Ex F.G0 G
  fr : ∀ a o, F.H0 a = some o → a ∉ F.io → H a = some o
  nw : ∀ a o, G a = some o → F.G0 a = some o ∨ F.H0 a = none
  of : ∀ a ∈ fs, a ∈ F.io ∨ F.H0 a = none
  io : ∀ a ∈ F.io, ∃ o, H a = some o

structure S2 (F : Fm) (G H : Hp) (τ : List (Option V)) (ε : List SD) (σ : List (Option V)) (δ : List SD) : Prop where
  w : Wd F G H (fps ε ++ fps δ)
  t : Oks F.K G H τ ε
  s : Oks F.K G H σ δ

section
variable {K : PySem.W.Frag} {F : Fm} {G G' H H' : Hp} {τ σ : List (Option V)} {ε δ : List SD} {v : V} {o : HO} {p : Addr} {sd : SD}
theorem KD.mono {κ : Type} (e : Ex G G') : ∀ {xs : List (κ × V)} {ks : List (κ × PyData)}, KD K G xs ks → KD K G' xs ks
  | _, _, .nil => .nil
  | _, _, .cons a b => .cons (dpMono e _ _ a) (KD.mono e b)
theorem ok_mono (e : Ex G G') (k : ∀ a ∈ sd.fp, H' a = H a) : ∀ {ov : Option V}, SD.ok K G H ov sd → SD.ok K G' H' ov sd := by
  intro ov h
  cases sd with
  | no => trivial
  | fz d =>
    cases ov with
    | none => exact h
    | some v => exact dpMono e _ _ h
  | al q => cases ov <;> exact h
  | ol q ds =>
    cases ov with
    | none => exact h
    | some v =>
      obtain ⟨h1, xs, h2, h3⟩ := h
      exact ⟨h1, xs, by rw [k q (by simp [SD.fp])]; exact h2, dpAllMono e _ _ h3⟩
  | od q ds =>
    cases ov with
    | none => exact h
    | some v =>
      obtain ⟨h1, xs, h2, h3⟩ := h
      exact ⟨h1, xs, by rw [k q (by simp [SD.fp])]; exact h2, h3.mono e⟩
  | ot q ds =>
    cases ov with
    | none => exact h
    | some v =>
      obtain ⟨h1, xs, h2, h3⟩ := h
      exact ⟨h1, xs, by rw [k q (by simp [SD.fp])]; exact h2, h3.mono e⟩
  | ow o =>
    cases ov with
    | none => exact h
    | some v => exact o.loc e k h
theorem oks_mono (e : Ex G G') : ∀ {τ : List (Option V)} {ε : List SD}, (∀ a ∈ fps ε, H' a = H a) → Oks K G H τ ε → Oks K G' H' τ ε
  | [], [], _, h => h
  | [], _ :: _, _, h => h
  | _ :: _, [], _, h => h
  | _ :: _, s :: r, k, h => ⟨ok_mono e (fun a ha => k a (by simp [fps, ha])) h.1, oks_mono e (fun a ha => k a (by simp [fps, ha])) h.2⟩
theorem Oks.len : ∀ {τ : List (Option V)} {ε : List SD}, Oks K G H τ ε → τ.length = ε.length
  | [], [], _ => rfl
  | [], _ :: _, h => h.elim
  | _ :: _, [], h => h.elim
  | _ :: _, s :: r, h => by simp [Oks.len h.2]
theorem Oks.get : ∀ {τ : List (Option V)} {ε : List SD} {i : Nat} {s : SD}, Oks K G H τ ε → ε[i]? = some s → ∃ ov, τ[i]? = some ov ∧ SD.ok K G H ov s
  | [], [], _, _, _, e => by simp at e
  | [], _ :: _, _, _, h, _ => h.elim
  | _ :: _, [], _, _, h, _ => h.elim
  | v :: _, s :: r, 0, _, h, e => by simp at e; subst e; exact ⟨v, rfl, h.1⟩
  | _ :: _, s :: r, i + 1, _, h, e => by
    obtain ⟨ov, h1, h2⟩ := Oks.get (i := i) h.2 (by simpa using e)
    exact ⟨ov, by simpa using h1, h2⟩
theorem Oks.set {ov : Option V} {s : SD} (hs : SD.ok K G H ov s) : ∀ {τ : List (Option V)} {ε : List SD} (i : Nat), Oks K G H τ ε → Oks K G H (τ.set i ov) (ε.set i s)
  | [], [], _, h => h
  | [], _ :: _, _, h => h.elim
  | _ :: _, [], _, h => h.elim
  | _ :: _, _ :: _, 0, h => ⟨hs, h.2⟩
  | _ :: _, _ :: _, i + 1, h => ⟨h.1, Oks.set hs i h.2⟩
theorem Oks.setD {s : SD} : ∀ {τ : List (Option V)} {ε : List SD} {i : Nat}, (∀ ov, τ[i]? = some ov → SD.ok K G H ov s) → Oks K G H τ ε → Oks K G H τ (ε.set i s)
  | [], [], _, _, h => h
  | [], _ :: _, _, _, h => h.elim
  | _ :: _, [], _, _, h => h.elim
  | v :: _, _ :: _, 0, hs, h => ⟨hs v rfl, h.2⟩
  | _ :: _, _ :: _, i + 1, hs, h => ⟨h.1, Oks.setD (i := i) (fun ov e => hs ov (by simpa using e)) h.2⟩
theorem fps_app (a b : List SD) : fps (a ++ b) = fps a ++ fps b := by
  induction a with
  | nil => rfl
  | cons s r ih => simp [fps, ih]
/-- the addresses of a list of which one slot is taken out -/
theorem fps_mem {δ : List SD} {i : Nat} {s : SD} (h : δ[i]? = some s) {a : Addr} (ha : a ∈ s.fp) : a ∈ fps δ := by
  induction δ generalizing i with
  | nil => simp at h
  | cons x r ih =>
    cases i with
    | zero => simp at h; subst h; simp [fps, ha]
    | succ j => simp [fps, ih (i := j) (by simpa using h)]
theorem fps_set_perm {δ : List SD} {i : Nat} {s s' : SD} (h : δ[i]? = some s) : ∃ l, (fps δ).Perm (s.fp ++ l) ∧ (fps (δ.set i s')).Perm (s'.fp ++ l) := by
  induction δ generalizing i with
  | nil => simp at h
  | cons x r ih =>
    cases i with
    | zero => simp at h; subst h; exact ⟨fps r, List.Perm.refl _, List.Perm.refl _⟩
    | succ j =>
      obtain ⟨l, h1, h2⟩ := ih (i := j) (by simpa using h)
      refine ⟨x.fp ++ l, ?_, ?_⟩
      · show (x.fp ++ fps r).Perm _
        refine (List.Perm.append_left x.fp h1).trans ?_
        rw [← List.append_assoc, ← List.append_assoc]
        exact List.Perm.append_right l List.perm_append_comm
      · show (x.fp ++ fps (r.set j s')).Perm _
        refine (List.Perm.append_left x.fp h2).trans ?_
        rw [← List.append_assoc, ← List.append_assoc]
        exact List.Perm.append_right l List.perm_append_comm
theorem Wd.perm {fs fs' : List Addr} (h : Wd F G H fs) (p : fs'.Perm fs) : Wd F G H fs' :=
  { h with own := fun a ha => h.own a (p.mem_iff.mp ha), nd := p.nodup_iff.mpr h.nd, of := fun a ha => h.of a (p.mem_iff.mp ha) }
theorem Wd.sub {fs fs' : List Addr} (h : Wd F G H fs) (p : fs'.Sublist fs) : Wd F G H fs' :=
  { h with own := fun a ha => h.own a (p.subset ha), nd := p.nodup h.nd, of := fun a ha => h.of a (p.subset ha) }
theorem Wd.gnone {fs : List Addr} (h : Wd F G H fs) (hp : H p = none) : G p = none := fresh_back h.gh hp
theorem Wd.pnotin {fs : List Addr} (h : Wd F G H fs) (hp : H p = none) : p ∉ fs := fun hm => by
  obtain ⟨_, o, e⟩ := h.own p hm
  rw [hp] at e; cases e
theorem Wd.h0none {fs : List Addr} (h : Wd F G H fs) (hp : H p = none) : F.H0 p = none := by
  cases e : F.H0 p with
  | none => rfl
  | some o =>
    by_cases hi : p ∈ F.io
    · obtain ⟨o', e'⟩ := h.io p hi
      rw [hp] at e'; cases e'
    · rw [h.fr p o e hi] at hp; cases hp
/-- a new frozen object -/
theorem Wd.newF {fs : List Addr} (h : Wd F G H fs) (hp : H p = none) : Wd F (upd G p o) (upd H p o) fs where
  gh := fun a u e => by
    by_cases ha : a = p
    · subst ha; rw [upd_same] at e ⊢; exact e
    · rw [upd_ne ha] at e ⊢; exact h.gh a u e
  own := fun a ha => by
    have hne : a ≠ p := fun e => h.pnotin hp (e ▸ ha)
    rw [upd_ne hne, upd_ne hne]; exact h.own a ha
  nd := h.nd
  g0 := fun a u e => by
    have hne : a ≠ p := fun z => by
      have := h.g0 a u e
      rw [z, h.gnone hp] at this; cases this
    rw [upd_ne hne]; exact h.g0 a u e
  fr := fun a u e hi => by
    have q := h.fr a u e hi
    rw [upd_ne (ne_of_none q hp)]; exact q
  nw := fun a u e => by
    by_cases ha : a = p
    · subst ha; exact .inr (h.h0none hp)
    · rw [upd_ne ha] at e; exact h.nw a u e
  of := h.of
  io := fun a ha => by
    obtain ⟨u, e⟩ := h.io a ha
    exact ⟨u, by rw [upd_ne (ne_of_none e hp)]; exact e⟩
/-- a new owned object -/
theorem Wd.newO {fs : List Addr} (h : Wd F G H fs) (hp : H p = none) : Wd F G (upd H p o) (p :: fs) where
  gh := Ex.mut h.gh (h.gnone hp)
  own := fun a ha => by
    rcases List.mem_cons.mp ha with e | ha
    · subst e; exact ⟨h.gnone hp, o, upd_same⟩
    · have hne : a ≠ p := fun e => h.pnotin hp (e ▸ ha)
      rw [upd_ne hne]; exact h.own a ha
  nd := List.nodup_cons.mpr ⟨h.pnotin hp, h.nd⟩
  g0 := h.g0
  fr := fun a u e hi => by
    have q := h.fr a u e hi
    rw [upd_ne (ne_of_none q hp)]; exact q
  nw := h.nw
  of := fun a ha => by
    rcases List.mem_cons.mp ha with e | ha
    · subst e; exact .inr (h.h0none hp)
    · exact h.of a ha
  io := fun a ha => by
    obtain ⟨u, e⟩ := h.io a ha
    exact ⟨u, by rw [upd_ne (ne_of_none e hp)]; exact e⟩
/-- an owned object is changed -/
theorem Wd.mut {fs : List Addr} (h : Wd F G H fs) (hp : p ∈ fs) : Wd F G (upd H p o) fs where
  gh := Ex.mut h.gh (h.own p hp).1
  own := fun a ha => by
    by_cases e : a = p
    · subst e; exact ⟨(h.own a ha).1, o, upd_same⟩
    · rw [upd_ne e]; exact h.own a ha
  nd := h.nd
  g0 := h.g0
  fr := fun a u e hi => by
    have hne : a ≠ p := fun z => by
      rcases h.of p hp with q | q
      · exact hi (z ▸ q)
      · rw [z, q] at e; cases e
    rw [upd_ne hne]; exact h.fr a u e hi
  nw := h.nw
  of := h.of
  io := fun a ha => by
    by_cases e : a = p
    · subst e; exact ⟨o, upd_same⟩
    · rw [upd_ne e]; exact h.io a ha
/-- an owned object is frozen (one that was not handed in) -/
theorem Wd.freeze {fs : List Addr} (h : Wd F G H (p :: fs)) (hp : H p = some o) (hio : p ∉ F.io) : Wd F (upd G p o) H fs where
  gh := fun a u e => by
    by_cases ha : a = p
    · subst ha; rw [upd_same] at e; cases e; exact hp
    · rw [upd_ne ha] at e; exact h.gh a u e
  own := fun a ha => by
    have hne : a ≠ p := fun e => (List.nodup_cons.mp h.nd).1 (e ▸ ha)
    rw [upd_ne hne]; exact h.own a (List.mem_cons_of_mem _ ha)
  nd := (List.nodup_cons.mp h.nd).2
  g0 := fun a u e => by
    have hne : a ≠ p := fun z => by
      have := h.g0 a u e
      rw [z, (h.own p List.mem_cons_self).1] at this; cases this
    rw [upd_ne hne]; exact h.g0 a u e
  fr := h.fr
  nw := fun a u e => by
    by_cases ha : a = p
    · subst ha
      rcases h.of a List.mem_cons_self with q | q
      · exact (hio q).elim
      · exact .inr q
    · rw [upd_ne ha] at e; exact h.nw a u e
  of := fun a ha => h.of a (List.mem_cons_of_mem _ ha)
  io := h.io
theorem Ex.upd (hp : G p = none) : Ex G (upd G p o) := Ex.new hp
theorem S2.newF (h : S2 F G H τ ε σ δ) (hp : H p = none) : S2 F (upd G p o) (upd H p o) τ ε σ δ := by
  have k : ∀ a ∈ fps ε ++ fps δ, upd H p o a = H a := fun a ha => upd_ne fun e => h.w.pnotin hp (e ▸ ha)
  exact ⟨h.w.newF hp, oks_mono (Ex.new (h.w.gnone hp)) (fun a ha => k a (List.mem_append_left _ ha)) h.t, oks_mono (Ex.new (h.w.gnone hp)) (fun a ha => k a (List.mem_append_right _ ha)) h.s⟩
/-- a new owned object, on the stack -/
theorem S2.newO (h : S2 F G H τ ε σ δ) (hp : H p = none) (hf : sd.fp = [p]) (hok : SD.ok F.K G (upd H p o) (some v) sd) : S2 F G (upd H p o) (some v :: τ) (sd :: ε) σ δ := by
  have k : ∀ a ∈ fps ε ++ fps δ, upd H p o a = H a := fun a ha => upd_ne fun e => h.w.pnotin hp (e ▸ ha)
  refine ⟨?_, ⟨hok, oks_mono (Ex.refl _) (fun a ha => k a (List.mem_append_left _ ha)) h.t⟩, oks_mono (Ex.refl _) (fun a ha => k a (List.mem_append_right _ ha)) h.s⟩
  have := h.w.newO (o := o) hp
  show Wd F G _ ((sd.fp ++ fps ε) ++ fps δ)
  rw [hf]
  exact this
theorem S2.push (h : S2 F G H τ ε σ δ) (hf : sd.fp = []) (hok : SD.ok F.K G H (some v) sd) : S2 F G H (some v :: τ) (sd :: ε) σ δ := by
  refine ⟨?_, ⟨hok, h.t⟩, h.s⟩
  show Wd F G H ((sd.fp ++ fps ε) ++ fps δ)
  rw [hf]
  exact h.w
theorem S2.pop {ov : Option V} (h : S2 F G H (ov :: τ) (sd :: ε) σ δ) : S2 F G H τ ε σ δ :=
  ⟨h.w.sub (by show ((fps ε) ++ fps δ).Sublist ((sd.fp ++ fps ε) ++ fps δ); rw [List.append_assoc]; exact List.sublist_append_right _ _), h.t.2, h.s⟩
theorem S2.top {ov : Option V} (h : S2 F G H (ov :: τ) (sd :: ε) σ δ) : SD.ok F.K G H ov sd := h.t.1
theorem S2.slot {i : Nat} (h : S2 F G H τ ε σ δ) (e : δ[i]? = some sd) : ∃ ov, σ[i]? = some ov ∧ SD.ok F.K G H ov sd := h.s.get e
theorem sd_some {G H : Hp} {ov : Option V} {sd : SD} (hn : sd ≠ .no) (h : SD.ok K G H ov sd) : ∃ v, ov = some v := by
  cases ov with
  | some v => exact ⟨v, rfl⟩
  | none => cases sd <;> first | exact (hn rfl).elim | exact h.elim
/-- the top of the stack goes into a slot that owns nothing -/
theorem S2.store {i : Nat} {old : SD} (h : S2 F G H (some v :: τ) (sd :: ε) σ δ) (e : δ[i]? = some old) : S2 F G H τ ε (σ.set i (some v)) (δ.set i sd) := by
  refine ⟨?_, h.t.2, Oks.set h.t.1 i h.s⟩
  obtain ⟨l, h1, h2⟩ := fps_set_perm (s' := sd) e
  have w := h.w
  have w1 : Wd F G H ((sd.fp ++ fps ε) ++ fps δ) := w
  have p1 : ((sd.fp ++ fps ε) ++ (old.fp ++ l)).Perm ((sd.fp ++ fps ε) ++ fps δ) := List.Perm.append_left _ h1.symm
  have w2 := w1.perm p1
  have s1 : ((sd.fp ++ fps ε) ++ l).Sublist ((sd.fp ++ fps ε) ++ (old.fp ++ l)) := List.Sublist.append_left (List.sublist_append_right _ _) _
  have w3 := w2.sub s1
  refine w3.perm ?_
  refine (List.Perm.append_left (fps ε) h2).trans ?_
  rw [← List.append_assoc]
  exact List.Perm.append_right l List.perm_append_comm
/-- a slot is forgotten -/
theorem S2.drop {i : Nat} {old : SD} (h : S2 F G H τ ε σ δ) (e : δ[i]? = some old) : S2 F G H τ ε σ (δ.set i .no) := by
  refine ⟨?_, h.t, Oks.setD (fun _ _ => trivial) h.s⟩
  obtain ⟨l, h1, h2⟩ := fps_set_perm (s' := SD.no) e
  have w1 := h.w.perm (List.Perm.append_left (fps ε) h1.symm)
  have w2 := w1.sub (List.Sublist.append_left (List.sublist_append_right old.fp l) (fps ε))
  exact w2.perm (List.Perm.append_left (fps ε) h2)
theorem oks_mut {old new : SD} : ∀ {σ : List (Option V)} {δ : List SD} {i : Nat}, Oks K G H σ δ → (fps δ).Nodup → δ[i]? = some old → (∀ a ∈ fps δ, a ∉ old.fp → H' a = H a) →
    (∀ ov, σ[i]? = some ov → SD.ok K G H' ov new) → Oks K G H' σ (δ.set i new)
  | [], [], _, _, _, e, _, _ => by simp at e
  | [], _ :: _, _, h, _, _, _, _ => h.elim
  | _ :: _, [], _, h, _, _, _, _ => h.elim
  | v :: σ, x :: r, 0, h, nd, e, hk, hok => by
    simp at e
    subst e
    have n := List.nodup_append.mp (show (x.fp ++ fps r).Nodup from nd)
    refine ⟨hok v rfl, oks_mono (Ex.refl _) (fun a ha => hk a (List.mem_append_right _ ha) fun z => n.2.2 a z a ha rfl) h.2⟩
  | v :: σ, x :: r, i + 1, h, nd, e, hk, hok => by
    have n := List.nodup_append.mp (show (x.fp ++ fps r).Nodup from nd)
    have e' : r[i]? = some old := by simpa using e
    refine ⟨ok_mono (Ex.refl _) (fun a ha => hk a (List.mem_append_left _ ha) fun z => n.2.2 a ha a (fps_mem e' z) rfl) h.1, oks_mut (i := i) h.2 n.2.1 e' (fun a ha => hk a (List.mem_append_right _ ha)) fun ov q => hok ov (by simpa using q)⟩
/-- the object of a slot's is changed -/
theorem S2.mut {i : Nat} {old new : SD} (h : S2 F G H τ ε σ δ) (e : δ[i]? = some old) (h1 : old.fp = [p]) (h2 : new.fp = [p]) (hok : ∀ ov, σ[i]? = some ov → SD.ok F.K G (upd H p o) ov new) : S2 F G (upd H p o) τ ε σ (δ.set i new) := by
  obtain ⟨l, q1, q2⟩ := fps_set_perm (s' := new) e
  rw [h1] at q1
  rw [h2] at q2
  have hp : p ∈ fps δ := q1.mem_iff.mpr (by simp)
  have wm := h.w.mut (o := o) (List.mem_append_right (fps ε) hp)
  have n := List.nodup_append.mp h.w.nd
  refine ⟨wm.perm ((List.Perm.append_left (fps ε) (q2.trans q1.symm))), oks_mono (Ex.refl _) (fun a ha => upd_ne fun z => n.2.2 a ha p hp z) h.t, ?_⟩
  exact oks_mut h.s n.2.1 e (fun a _ ha => upd_ne fun z => ha (by rw [h1, z]; simp)) hok
/-- a slot's list is frozen -/
theorem S2.freezeL {i : Nat} {ds : List PyData} (h : S2 F G H τ ε σ δ) (e : δ[i]? = some (.ol p ds)) (hio : p ∉ F.io) : ∃ o, G p = none ∧ S2 F (upd G p o) H τ ε σ (δ.set i (.fz (.list ds))) := by
  obtain ⟨ov, e1, ok1⟩ := h.slot e
  obtain ⟨v, rfl⟩ := sd_some (by intro z; cases z) ok1
  obtain ⟨rfl, xs, hx, hd⟩ := ok1
  obtain ⟨l, q1, q2⟩ := fps_set_perm (s' := SD.fz (.list ds)) e
  have q1' : (fps δ).Perm (p :: l) := q1
  have q2' : (fps (δ.set i (.fz (.list ds)))).Perm l := q2
  have w1 : Wd F G H (p :: (fps ε ++ l)) := h.w.perm (by
    refine List.Perm.trans ?_ (List.Perm.append_left (fps ε) q1'.symm)
    exact (List.perm_middle (l₁ := fps ε) (a := p) (l₂ := l)).symm)
  have gp : G p = none := (w1.own p List.mem_cons_self).1
  have ex : Ex G (upd G p (.lst xs)) := Ex.new gp
  have w2 := w1.freeze hx hio
  refine ⟨.lst xs, gp, w2.perm (List.Perm.append_left (fps ε) q2'), oks_mono ex (fun _ _ => rfl) h.t, ?_⟩
  refine Oks.setD (fun ov q => ?_) (oks_mono ex (fun _ _ => rfl) h.s)
  rw [e1] at q
  cases q
  exact Dp.lst (Rd.of upd_same) (dpAllMono ex _ _ hd)
/-- the list on top of the stack is frozen -/
theorem S2.freezeT {ov : Option V} {ds : List PyData} (h : S2 F G H (ov :: τ) (.ol p ds :: ε) σ δ) (hio : p ∉ F.io) : ∃ o, G p = none ∧ S2 F (upd G p o) H (ov :: τ) (.fz (.list ds) :: ε) σ δ := by
  obtain ⟨v, rfl⟩ := sd_some (by intro z; cases z) h.top
  obtain ⟨rfl, xs, hx, hd⟩ := h.top
  have w1 : Wd F G H (p :: (fps ε ++ fps δ)) := h.w
  have gp : G p = none := (w1.own p List.mem_cons_self).1
  have ex : Ex G (upd G p (.lst xs)) := Ex.new gp
  exact ⟨.lst xs, gp, w1.freeze hx hio, ⟨Dp.lst (Rd.of upd_same) (dpAllMono ex _ _ hd), oks_mono ex (fun _ _ => rfl) h.t.2⟩, oks_mono ex (fun _ _ => rfl) h.s⟩
end

/-! ### the judgements -/
/-- what is wanted of a value and of the slots -/
abbrev PV := SD → List SD → Prop
section
variable (F : Fm)
/-- te, from the slots δ, gives a value and slots of which P holds -/
def E (te : TE) (δ : List SD) (P : PV) : Prop := ∀ τ ε G H σ Q, S2 F G H τ ε σ δ → (∀ v r δ' G' H', P r δ' → Ex G G' → S2 F G' H' (some v :: τ) (r :: ε) σ δ' → Q v H') → te σ H Q
def T (tt : TT) (δ : List SD) (P : Bool → List SD → Prop) : Prop := ∀ τ ε G H σ Q, S2 F G H τ ε σ δ → (∀ b δ' G' H', P b δ' → Ex G G' → S2 F G' H' τ ε σ δ' → Q b H') → tt σ H Q
/-- an argument list: the values on the stack, the first one on top -/
def EA (ta : TA) (δ : List SD) (P : List SD → List SD → Prop) : Prop := ∀ τ ε G H σ Q, S2 F G H τ ε σ δ → (∀ vs rs δ' G' H', P rs δ' → Ex G G' → vs.length = rs.length → S2 F G' H' (vs.map some ++ τ) (rs ++ ε) σ δ' → Q vs H') → ta σ H Q
/-- a statement -/
def Rn (ts : TS) (δ : List SD) (D : Ends) : Prop := ∀ G H σ, S2 F G H [] [] σ δ → ts D σ H
/-- what follows, from the slots δ -/
def Nx (n : St → Hp → Prop) (δ : List SD) : Prop := ∀ G H σ, S2 F G H [] [] σ δ → n σ H
/-- a return -/
def Rt (rt : VK) (P : PV) : Prop := ∀ v r δ G H σ, P r δ → S2 F G H [some v] [r] σ δ → rt v H
end
/-- a later frame -/
structure Le (F F' : Fm) : Prop where
  k : F'.K = F.K
  g : Ex F.G0 F'.G0
  io : F'.io = F.io
  up : ∀ {G H fs}, Wd F' G H fs → Wd F G H fs
section
variable {F F' : Fm} {G H : Hp} {τ σ : List (Option V)} {ε δ : List SD}
theorem Le.refl (F : Fm) : Le F F := ⟨rfl, Ex.refl _, rfl, fun w => w⟩
theorem Le.trans {F1 F2 F3 : Fm} (a : Le F1 F2) (b : Le F2 F3) : Le F1 F3 := ⟨b.k.trans a.k, Ex.trans a.g b.g, b.io.trans a.io, fun w => a.up (b.up w)⟩
theorem S2.up (l : Le F F') (h : S2 F' G H τ ε σ δ) : S2 F G H τ ε σ δ := ⟨l.up h.w, l.k ▸ h.t, l.k ▸ h.s⟩
/-- the frame as it is now -/
theorem S2.rebase (h : S2 F G H τ ε σ δ) : Le F { F with G0 := G } ∧ S2 { F with G0 := G } G H τ ε σ δ := by
  refine ⟨⟨rfl, h.w.g0, rfl, fun {G' H' fs} w => ?_⟩, ⟨{ h.w with g0 := Ex.refl _, nw := fun a o e => .inl e }, h.t, h.s⟩⟩
  have q : ∀ a o, G' a = some o → F.G0 a = some o ∨ F.H0 a = none := fun a o e => by
    rcases w.nw a o e with q | q
    · exact h.w.nw a o q
    · exact .inr q
  exact { w with g0 := Ex.trans h.w.g0 w.g0, nw := q }
end
end SL

namespace SL
open PySem L2 Evl
section
variable {F F' : Fm} {G G' H H' : Hp} {τ σ : List (Option V)} {ε δ : List SD} {v : V} {P : PV} {te ta tb : TE} {tt tu : TT}

theorem fz_sc {d : PyData} {ov : Option V} (h : SD.ok F.K G H ov (.fz d)) : ∃ v, ov = some v ∧ Dp F.K G v d := by
  obtain ⟨v, rfl⟩ := sd_some (by intro z; cases z) h
  exact ⟨v, rfl, h⟩
theorem dp_int {K : PySem.W.Frag} {i : Int} (h : Dp K G v (.int i)) : v = .int i := by cases h; rfl
theorem dp_bl {K : PySem.W.Frag} {i : Bool} (h : Dp K G v (.bool i)) : v = .bl i := by cases h; rfl
theorem dp_str {K : PySem.W.Frag} {i : Str} (h : Dp K G v (.str i)) : v = .str i := by cases h; rfl
theorem dp_non {K : PySem.W.Frag} (h : Dp K G v .none) : v = .non := by cases h; rfl
theorem dp_lst {K : PySem.W.Frag} {ds : List PyData} (h : Dp K G v (.list ds)) : ∃ a xs, v = .ref a ∧ SqL K G a xs ∧ DpAll K G xs ds := by
  cases h with
  | lst s a => exact ⟨_, _, rfl, .inl s, a⟩
theorem dp_tup {K : PySem.W.Frag} {ds : List PyData} (h : Dp K G v (.tuple ds)) : ∃ a xs, v = .ref a ∧ SqT K G a xs ∧ DpAll K G xs ds := by
  cases h with
  | tup s a => exact ⟨_, _, rfl, .inl (.inl s), a⟩
theorem dp_tupH {K : PySem.W.Frag} {ds : List PyData} (h : Dp K G v (.tuple ds)) : ∃ a xs, v = .ref a ∧ G a = some (.tup xs) ∧ DpAll K G xs ds := by
  cases h with
  | tup s a => exact ⟨_, _, rfl, s, a⟩
theorem dp_lstR {K : PySem.W.Frag} {ds : List PyData} (h : Dp K G v (.list ds)) : ∃ a xs, v = .ref a ∧ Rd G a (.lst xs) ∧ DpAll K G xs ds := by
  cases h with
  | lst s a => exact ⟨_, _, rfl, s, a⟩

/-! ### expressions -/
theorem E.mono {P' : PV} (h : E F te δ P) (k : ∀ r δ', P r δ' → P' r δ') : E F te δ P' := fun τ ε G H σ Q s q => h τ ε G H σ Q s fun v r δ' G' H' p => q v r δ' G' H' (k r δ' p)
theorem ev_fz {i : Nat} {d : PyData} (h : δ[i]? = some (.fz d)) (k : P (.fz d) δ) : E F (tVar i) δ P := fun τ ε G H σ Q s q => by
  obtain ⟨ov, e, ok⟩ := s.slot h
  obtain ⟨v, rfl, hd⟩ := fz_sc ok
  exact ⟨v, e, q v _ δ G H k (Ex.refl _) (s.push rfl hd)⟩
theorem ev_al {i : Nat} {p : Addr} (h : δ[i]? = some (.al p)) (k : P (.al p) δ) : E F (tVar i) δ P := fun τ ε G H σ Q s q => by
  obtain ⟨ov, e, ok⟩ := s.slot h
  obtain ⟨v, rfl⟩ := sd_some (by intro z; cases z) ok
  exact ⟨v, e, q v _ δ G H k (Ex.refl _) (s.push rfl ok)⟩
theorem ev_ol {i : Nat} {p : Addr} {ds : List PyData} (h : δ[i]? = some (.ol p ds)) (k : P (.al p) δ) : E F (tVar i) δ P := fun τ ε G H σ Q s q => by
  obtain ⟨ov, e, ok⟩ := s.slot h
  obtain ⟨v, rfl⟩ := sd_some (by intro z; cases z) ok
  exact ⟨v, e, q v _ δ G H k (Ex.refl _) (s.push rfl ok.1)⟩
theorem ev_od {i : Nat} {p : Addr} {ds : List (Key × PyData)} (h : δ[i]? = some (.od p ds)) (k : P (.al p) δ) : E F (tVar i) δ P := fun τ ε G H σ Q s q => by
  obtain ⟨ov, e, ok⟩ := s.slot h
  obtain ⟨v, rfl⟩ := sd_some (by intro z; cases z) ok
  exact ⟨v, e, q v _ δ G H k (Ex.refl _) (s.push rfl ok.1)⟩
theorem ev_ot {i : Nat} {p : Addr} {ds : List (List Key × PyData)} (h : δ[i]? = some (.ot p ds)) (k : P (.al p) δ) : E F (tVar i) δ P := fun τ ε G H σ Q s q => by
  obtain ⟨ov, e, ok⟩ := s.slot h
  obtain ⟨v, rfl⟩ := sd_some (by intro z; cases z) ok
  exact ⟨v, e, q v _ δ G H k (Ex.refl _) (s.push rfl ok.1)⟩
/-- a slot's thing moves to the stack -/
theorem ev_mv {i : Nat} {r : SD} (h : δ[i]? = some r) (hn : r ≠ .no) (k : P r (δ.set i .no)) : E F (tVar i) δ P := fun τ ε G H σ Q s q => by
  obtain ⟨ov, e, ok⟩ := s.slot h
  obtain ⟨v, rfl⟩ := sd_some hn ok
  refine ⟨v, e, q v _ _ G H k (Ex.refl _) ⟨?_, ⟨ok, s.t⟩, Oks.setD (fun _ _ => trivial) s.s⟩⟩
  obtain ⟨l, q1, q2⟩ := fps_set_perm (s' := SD.no) h
  refine s.w.perm ?_
  show ((r.fp ++ fps ε) ++ fps (δ.set i .no)).Perm (fps ε ++ fps δ)
  refine (List.Perm.append_left _ q2).trans (List.Perm.trans ?_ (List.Perm.append_left _ q1.symm))
  show ((r.fp ++ fps ε) ++ l).Perm _
  rw [← List.append_assoc]
  exact List.Perm.append_right l List.perm_append_comm
theorem ev_int {n : Int} (k : P (.fz (.int n)) δ) : E F (tC (.int n)) δ P := fun τ ε G H σ Q s q => q _ _ δ G H k (Ex.refl _) (s.push rfl (.int n))
theorem ev_bl {n : Bool} (k : P (.fz (.bool n)) δ) : E F (tC (.bl n)) δ P := fun τ ε G H σ Q s q => q _ _ δ G H k (Ex.refl _) (s.push rfl (.bl n))
theorem ev_str {n : Str} (k : P (.fz (.str n)) δ) : E F (tC (.str n)) δ P := fun τ ε G H σ Q s q => q _ _ δ G H k (Ex.refl _) (s.push rfl (.str n))
theorem ev_non (k : P (.fz .none) δ) : E F (tC .non) δ P := fun τ ε G H σ Q s q => q _ _ δ G H k (Ex.refl _) (s.push rfl .non)

/-- two operands on the stack, the second on top -/
def O2 (F : Fm) (r : R2) (ra rb : SD) (δ : List SD) (P : PV) : Prop := ∀ τ ε G H σ Q x y, S2 F G H (some y :: some x :: τ) (rb :: ra :: ε) σ δ → (∀ v r δ' G' H', P r δ' → Ex G G' → S2 F G' H' (some v :: τ) (r :: ε) σ δ' → Q v H') → r x y H Q
def O1 (F : Fm) (r : V → Hp → VK → Prop) (ra : SD) (δ : List SD) (P : PV) : Prop := ∀ τ ε G H σ Q x, S2 F G H (some x :: τ) (ra :: ε) σ δ → (∀ v r δ' G' H', P r δ' → Ex G G' → S2 F G' H' (some v :: τ) (r :: ε) σ δ' → Q v H') → r x H Q
theorem ev_op {r : R2} (h : E F ta δ fun ra δ1 => E F tb δ1 fun rb δ2 => O2 F r ra rb δ2 P) : E F (tOp r ta tb) δ P := fun τ ε G H σ Q s q =>
  h τ ε G H σ _ s fun x ra δ1 G1 H1 h1 e1 s1 => h1 _ _ G1 H1 σ _ s1 fun y rb δ2 G2 H2 h2 e2 s2 => h2 τ ε G2 H2 σ Q x y s2 fun z rc δ3 G3 H3 p e3 s3 => q z rc δ3 G3 H3 p (Ex.trans e1 (Ex.trans e2 e3)) s3
theorem ev_un {r : V → Hp → VK → Prop} (h : E F ta δ fun ra δ1 => O1 F r ra δ1 P) : E F (tUn r ta) δ P := fun τ ε G H σ Q s q =>
  h τ ε G H σ _ s fun x ra δ1 G1 H1 h1 e1 s1 => h1 τ ε G1 H1 σ Q x s1 fun z rc δ3 G3 H3 p e3 s3 => q z rc δ3 G3 H3 p (Ex.trans e1 e3) s3
theorem S2.pop2 {a b : Option V} {r1 r2 : SD} (s : S2 F G H (a :: b :: τ) (r1 :: r2 :: ε) σ δ) : S2 F G H τ ε σ δ := s.pop.pop
theorem fz_top {x : V} {d : PyData} (s : S2 F G H (some x :: τ) (.fz d :: ε) σ δ) : Dp F.K G x d := s.top
theorem fz_top2 {x y : V} {d : PyData} {r : SD} (s : S2 F G H (some y :: some x :: τ) (r :: .fz d :: ε) σ δ) : Dp F.K G x d := s.pop.top
theorem o_int {f : Int → Int → Int} {i j : Int} (k : P (.fz (.int (f i j))) δ) : O2 F (rI0 fun i j => .int (f i j)) (.fz (.int i)) (.fz (.int j)) δ P := fun τ ε G H σ Q x y s q =>
  ⟨i, j, dp_int (fz_top2 s), dp_int (fz_top s), q _ _ δ G H k (Ex.refl _) (s.pop2.push rfl (.int _))⟩
theorem o_bl {f : Int → Int → Bool} {i j : Int} (k : P (.fz (.bool (f i j))) δ) : O2 F (rI0 fun i j => .bl (f i j)) (.fz (.int i)) (.fz (.int j)) δ P := fun τ ε G H σ Q x y s q =>
  ⟨i, j, dp_int (fz_top2 s), dp_int (fz_top s), q _ _ δ G H k (Ex.refl _) (s.pop2.push rfl (.bl _))⟩
theorem o_intC {C : Int → Int → Prop} {f : Int → Int → Int} {i j : Int} (hc : C i j) (k : P (.fz (.int (f i j))) δ) : O2 F (rI C fun i j => .int (f i j)) (.fz (.int i)) (.fz (.int j)) δ P := fun τ ε G H σ Q x y s q =>
  ⟨i, j, dp_int (fz_top2 s), dp_int (fz_top s), hc, q _ _ δ G H k (Ex.refl _) (s.pop2.push rfl (.int _))⟩
theorem u_int {f : Int → Int} {i : Int} (k : P (.fz (.int (f i))) δ) : O1 F (rU fun i => .int (f i)) (.fz (.int i)) δ P := fun τ ε G H σ Q x s q =>
  ⟨i, dp_int (fz_top s), q _ _ δ G H k (Ex.refl _) (s.pop.push rfl (.int _))⟩
theorem o_eqI {i j : Int} (k : P (.fz (.bool (decide (i = j)))) δ) : O2 F rEq (.fz (.int i)) (.fz (.int j)) δ P := fun τ ε G H σ Q x y s q => by
  obtain rfl := dp_int (fz_top2 s)
  obtain rfl := dp_int (fz_top s)
  refine ⟨rfl, q _ _ δ G H k (Ex.refl _) (s.pop2.push rfl ?_)⟩
  have e : (decide (V.int i = V.int j)) = decide (i = j) := by
    by_cases h : i = j
    · subst h; simp
    · rw [decide_eq_false h, decide_eq_false (fun z => h (by injection z))]
  rw [e]; exact .bl _
theorem o_neI {i j : Int} (k : P (.fz (.bool (!decide (i = j)))) δ) : O2 F rNe (.fz (.int i)) (.fz (.int j)) δ P := fun τ ε G H σ Q x y s q => by
  obtain rfl := dp_int (fz_top2 s)
  obtain rfl := dp_int (fz_top s)
  refine ⟨rfl, q _ _ δ G H k (Ex.refl _) (s.pop2.push rfl ?_)⟩
  have e : (decide (V.int i = V.int j)) = decide (i = j) := by
    by_cases h : i = j
    · subst h; simp
    · rw [decide_eq_false h, decide_eq_false (fun z => h (by injection z))]
  rw [e]; exact .bl _
theorem o_eqS {i j : Str} (k : P (.fz (.bool (decide (i = j)))) δ) : O2 F rEq (.fz (.str i)) (.fz (.str j)) δ P := fun τ ε G H σ Q x y s q => by
  obtain rfl := dp_str (fz_top2 s)
  obtain rfl := dp_str (fz_top s)
  refine ⟨rfl, q _ _ δ G H k (Ex.refl _) (s.pop2.push rfl ?_)⟩
  have e : (decide (V.str i = V.str j)) = decide (i = j) := by
    by_cases h : i = j
    · subst h; simp
    · rw [decide_eq_false h, decide_eq_false (fun z => h (by injection z))]
  rw [e]; exact .bl _
theorem o_neS {i j : Str} (k : P (.fz (.bool (!decide (i = j)))) δ) : O2 F rNe (.fz (.str i)) (.fz (.str j)) δ P := fun τ ε G H σ Q x y s q => by
  obtain rfl := dp_str (fz_top2 s)
  obtain rfl := dp_str (fz_top s)
  refine ⟨rfl, q _ _ δ G H k (Ex.refl _) (s.pop2.push rfl ?_)⟩
  have e : (decide (V.str i = V.str j)) = decide (i = j) := by
    by_cases h : i = j
    · subst h; simp
    · rw [decide_eq_false h, decide_eq_false (fun z => h (by injection z))]
  rw [e]; exact .bl _
theorem o_eqD {d e : PyData} (h1 : SeqAt.shaped d = true) (h2 : SeqAt.shaped e = true) (k : P (.fz (.bool (PyData.eqv d e))) δ) : O2 F (rEqD F.K) (.fz d) (.fz e) δ P := fun τ ε G H σ Q x y s q =>
  ⟨d, e, dpTo _ _ (dpMono s.w.gh _ _ (fz_top2 s)), dpTo _ _ (dpMono s.w.gh _ _ (fz_top s)), h1, h2, q _ _ δ G H k (Ex.refl _) (s.pop2.push rfl (.bl _))⟩
theorem o_neD {d e : PyData} (h1 : SeqAt.shaped d = true) (h2 : SeqAt.shaped e = true) (k : P (.fz (.bool (!PyData.eqv d e))) δ) : O2 F (rNeD F.K) (.fz d) (.fz e) δ P := fun τ ε G H σ Q x y s q =>
  ⟨d, e, dpTo _ _ (dpMono s.w.gh _ _ (fz_top2 s)), dpTo _ _ (dpMono s.w.gh _ _ (fz_top s)), h1, h2, q _ _ δ G H k (Ex.refl _) (s.pop2.push rfl (.bl _))⟩
theorem o_addS {i j : Str} (h : i.length + j.length ≤ sizeLine) (k : P (.fz (.str (i ++ j))) δ) : O2 F (fun x y H Q => ∃ i j, x = .str i ∧ y = .str j ∧ i.length + j.length ≤ sizeLine ∧ Q (.str (i ++ j)) H) (.fz (.str i)) (.fz (.str j)) δ P := fun τ ε G H σ Q x y s q =>
  ⟨i, j, dp_str (fz_top2 s), dp_str (fz_top s), h, q _ _ δ G H k (Ex.refl _) (s.pop2.push rfl (.str _))⟩
/-- an item of a frozen list, of a frozen tuple -/
theorem atI_dp {K : PySem.W.Frag} {xs : List V} {ds : List PyData} {i : Int} {d : PyData} (h : DpAll K G xs ds) (e : atI ds i = some d) : ∃ x, atI xs i = some x ∧ Dp K G x d := by
  unfold atI at e ⊢
  have el := DpAll.len h
  rw [el]
  cases q : ixN ds.length i with
  | none => rw [q] at e; cases e
  | some j =>
    rw [q] at e
    obtain ⟨x, h1, h2⟩ := DpAll.get' h (show ds[j]? = some d from e)
    exact ⟨x, h1, h2⟩
theorem o_ixL {ds : List PyData} {i : Int} {d : PyData} (e : atI ds i = some d) (k : P (.fz d) δ) : O2 F (rIxL F.K) (.fz (.list ds)) (.fz (.int i)) δ P := fun τ ε G H σ Q x y s q => by
  obtain ⟨a, xs, rfl, sq, da⟩ := dp_lst (fz_top2 s)
  obtain rfl := dp_int (fz_top s)
  obtain ⟨z, h1, h2⟩ := atI_dp da e
  exact ⟨a, xs, i, z, rfl, rfl, ex_l s.w.gh sq, h1, q _ _ δ G H k (Ex.refl _) (s.pop2.push rfl h2)⟩
theorem o_ixT {ds : List PyData} {i : Int} {d : PyData} (e : atI ds i = some d) (k : P (.fz d) δ) : O2 F (rIxT F.K) (.fz (.tuple ds)) (.fz (.int i)) δ P := fun τ ε G H σ Q x y s q => by
  obtain ⟨a, xs, rfl, sq, da⟩ := dp_tup (fz_top2 s)
  obtain rfl := dp_int (fz_top s)
  obtain ⟨z, h1, h2⟩ := atI_dp da e
  exact ⟨a, xs, i, z, rfl, rfl, ex_t s.w.gh sq, h1, q _ _ δ G H k (Ex.refl _) (s.pop2.push rfl h2)⟩
/-- an item of an owned list that stands in slot j -/
theorem o_ixO {ds : List PyData} {i : Int} {d : PyData} {p : Addr} {j : Nat} (hj : δ[j]? = some (.ol p ds)) (e : atI ds i = some d) (k : P (.fz d) δ) : O2 F (rIxL F.K) (.al p) (.fz (.int i)) δ P := fun τ ε G H σ Q x y s q => by
  obtain ⟨ov, _, ok⟩ := s.slot hj
  obtain ⟨w, rfl⟩ := sd_some (by intro z; cases z) ok
  obtain ⟨rfl, xs, hx, hd⟩ := ok
  have hx' : x = .ref p := s.pop.top
  obtain rfl := dp_int (fz_top s)
  obtain ⟨z, h1, h2⟩ := atI_dp hd e
  exact ⟨p, xs, i, z, hx', rfl, SqL.of hx, h1, q _ _ δ G H k (Ex.refl _) (s.pop2.push rfl h2)⟩
theorem o_ixS {z : Str} {i : Int} {c : Nat} (hz : z.length ≤ sizeLine) (e : atI z.cps.toList i = some c) (k : P (.fz (.str ⟨#[c]⟩)) δ) : O2 F rIxS (.fz (.str z)) (.fz (.int i)) δ P := fun τ ε G H σ Q x y s q =>
  ⟨z, i, c, dp_str (fz_top2 s), dp_int (fz_top s), hz, e, q _ _ δ G H k (Ex.refl _) (s.pop2.push rfl (.str _))⟩

/-! ### and, or, not, if as values; chains -/
theorem ev_and (h : E F ta δ fun ra δ1 => ∃ c, ra = .fz (.bool c) ∧ if c = true then E F tb δ1 P else P (.fz (.bool false)) δ1) : E F (tAndV ta tb) δ P := fun τ ε G H σ Q s q =>
  h τ ε G H σ _ s fun x ra δ1 G1 H1 ⟨c, hr, h1⟩ e1 s1 => by
    subst hr
    refine ⟨c, dp_bl (fz_top s1), ?_⟩
    cases c with
    | true => exact h1 τ ε G1 H1 σ Q s1.pop fun z r δ2 G2 H2 p e2 s2 => q z r δ2 G2 H2 p (Ex.trans e1 e2) s2
    | false => exact q _ _ δ1 G1 H1 h1 e1 (s1.pop.push rfl (.bl _))
theorem ev_or (h : E F ta δ fun ra δ1 => ∃ c, ra = .fz (.bool c) ∧ if c = true then P (.fz (.bool true)) δ1 else E F tb δ1 P) : E F (tOrV ta tb) δ P := fun τ ε G H σ Q s q =>
  h τ ε G H σ _ s fun x ra δ1 G1 H1 ⟨c, hr, h1⟩ e1 s1 => by
    subst hr
    refine ⟨c, dp_bl (fz_top s1), ?_⟩
    cases c with
    | false => exact h1 τ ε G1 H1 σ Q s1.pop fun z r δ2 G2 H2 p e2 s2 => q z r δ2 G2 H2 p (Ex.trans e1 e2) s2
    | true => exact q _ _ δ1 G1 H1 h1 e1 (s1.pop.push rfl (.bl _))
theorem ev_not (h : E F ta δ fun ra δ1 => ∃ c, ra = .fz (.bool c) ∧ P (.fz (.bool (!c))) δ1) : E F (tNotV ta) δ P := fun τ ε G H σ Q s q =>
  h τ ε G H σ _ s fun x ra δ1 G1 H1 ⟨c, hr, h1⟩ e1 s1 => by
    subst hr
    exact ⟨c, dp_bl (fz_top s1), q _ _ δ1 G1 H1 h1 e1 (s1.pop.push rfl (.bl _))⟩
theorem ev_if (h : T F tt δ fun c δ1 => if c = true then E F ta δ1 P else E F tb δ1 P) : E F (tIf tt ta tb) δ P := fun τ ε G H σ Q s q =>
  h τ ε G H σ _ s fun c δ1 G1 H1 h1 e1 s1 => by
    cases c with
    | true => exact h1 τ ε G1 H1 σ Q s1 fun z r δ2 G2 H2 p e2 s2 => q z r δ2 G2 H2 p (Ex.trans e1 e2) s2
    | false => exact h1 τ ε G1 H1 σ Q s1 fun z r δ2 G2 H2 p e2 s2 => q z r δ2 G2 H2 p (Ex.trans e1 e2) s2
/-! ### tests -/
variable {PT : Bool → List SD → Prop}
theorem t_test (h : E F te δ fun r δ1 => ∃ c, r = .fz (.bool c) ∧ PT c δ1) : T F (tTest te) δ PT := fun τ ε G H σ Q s q =>
  h τ ε G H σ _ s fun x ra δ1 G1 H1 ⟨c, hr, h1⟩ e1 s1 => by
    subst hr
    exact ⟨c, dp_bl (fz_top s1), q c δ1 G1 H1 h1 e1 s1.pop⟩
theorem t_B (h : E F te δ fun r δ1 => ∃ c, r = .fz (.bool c) ∧ PT c δ1) : T F (tB te) δ PT := fun τ ε G H σ Q s q =>
  h τ ε G H σ _ s fun x ra δ1 G1 H1 ⟨c, hr, h1⟩ e1 s1 => by
    subst hr
    exact ⟨c, dp_bl (fz_top s1), q c δ1 G1 H1 h1 e1 s1.pop⟩
theorem t_and (h : T F tt δ fun c δ1 => if c = true then T F tu δ1 PT else PT false δ1) : T F (tAnd tt tu) δ PT := fun τ ε G H σ Q s q =>
  h τ ε G H σ _ s fun c δ1 G1 H1 h1 e1 s1 => by
    cases c with
    | true => exact h1 τ ε G1 H1 σ Q s1 fun b δ2 G2 H2 p e2 s2 => q b δ2 G2 H2 p (Ex.trans e1 e2) s2
    | false => exact q false δ1 G1 H1 h1 e1 s1
theorem t_or (h : T F tt δ fun c δ1 => if c = true then PT true δ1 else T F tu δ1 PT) : T F (tOr tt tu) δ PT := fun τ ε G H σ Q s q =>
  h τ ε G H σ _ s fun c δ1 G1 H1 h1 e1 s1 => by
    cases c with
    | false => exact h1 τ ε G1 H1 σ Q s1 fun b δ2 G2 H2 p e2 s2 => q b δ2 G2 H2 p (Ex.trans e1 e2) s2
    | true => exact q true δ1 G1 H1 h1 e1 s1
theorem t_not (h : T F tt δ fun c δ1 => PT (!c) δ1) : T F (tNot tt) δ PT := fun τ ε G H σ Q s q =>
  h τ ε G H σ _ s fun c δ1 G1 H1 h1 e1 s1 => q (!c) δ1 G1 H1 h1 e1 s1
theorem t_yes (h : PT true δ) : T F tYes δ PT := fun τ ε G H σ Q s q => q true δ G H h (Ex.refl _) s
theorem ev_chain {r r' : R2} {tc : TE} (h : E F ta δ fun ra δ1 => E F tb δ1 fun rb δ2 => ∃ d e, ra = .fz d ∧ rb = .fz e ∧ O2 F r (.fz d) (.fz e) δ2 fun rc δ3 => ∃ c, rc = .fz (.bool c) ∧ if c = true then E F tc δ3 fun rd δ4 => O2 F r' (.fz e) rd δ4 P else P (.fz (.bool false)) δ3) :
    E F (tChain r r' ta tb tc) δ P := fun τ ε G H σ Q s q =>
  h τ ε G H σ _ s fun x ra δ1 G1 H1 h1 e1 s1 => h1 _ _ G1 H1 σ _ s1 fun y rb δ2 G2 H2 ⟨d, e, hra, hrb, h2⟩ e2 s2 => by
    subst hra
    subst hrb
    have hy := fz_top s2
    refine h2 τ ε G2 H2 σ _ x y s2 fun z rc δ3 G3 H3 ⟨c, hc, h3⟩ e3 s3 => ?_
    subst hc
    refine ⟨c, dp_bl (fz_top s3), ?_⟩
    cases c with
    | false => exact q _ _ δ3 G3 H3 h3 (Ex.trans e1 (Ex.trans e2 e3)) (s3.pop.push rfl (.bl _))
    | true =>
      exact h3 _ _ G3 H3 σ _ (s3.pop.push (sd := .fz e) rfl (dpMono e3 _ _ hy)) fun w rd δ4 G4 H4 h4 e4 s4 => h4 τ ε G4 H4 σ Q y w s4 fun u ru δ5 G5 H5 p e5 s5 => q u ru δ5 G5 H5 p (Ex.trans e1 (Ex.trans e2 (Ex.trans e3 (Ex.trans e4 e5)))) s5

/-! ### arguments, displays, calls of builtins -/
variable {PL : List SD → List SD → Prop} {tr : TA}
theorem a_nil (k : PL [] δ) : EA F tNil δ PL := fun τ ε G H σ Q s q => q [] [] δ G H k (Ex.refl _) rfl s
/-- one argument -/
theorem a_one (h : E F te δ fun r δ1 => PL [r] δ1) : EA F (tCons te tNil) δ PL := fun τ ε G H σ Q s q =>
  h τ ε G H σ _ s fun x r δ1 G1 H1 h1 e1 s1 => q [x] [r] δ1 G1 H1 h1 e1 rfl s1
theorem Oks.app {K : PySem.W.Frag} : ∀ {τ τ' : List (Option V)} {ε ε' : List SD}, Oks K G H τ ε → Oks K G H τ' ε' → Oks K G H (τ ++ τ') (ε ++ ε')
  | [], _, [], _, _, h => h
  | [], _, _ :: _, _, h, _ => h.elim
  | _ :: _, _, [], _, h, _ => h.elim
  | _ :: _, _, _ :: _, _, h, h' => ⟨h.1, Oks.app h.2 h'⟩
theorem Oks.split {K : PySem.W.Frag} : ∀ {τ τ' : List (Option V)} {ε ε' : List SD}, τ.length = ε.length → Oks K G H (τ ++ τ') (ε ++ ε') → Oks K G H τ ε ∧ Oks K G H τ' ε'
  | [], _, [], _, _, h => ⟨trivial, h⟩
  | [], _, _ :: _, _, e, _ => by simp at e
  | _ :: _, _, [], _, e, _ => by simp at e
  | _ :: _, _, _ :: _, _, e, h => let ⟨a, b⟩ := Oks.split (by simpa using e) h.2; ⟨⟨h.1, a⟩, b⟩
/-- the first argument frozen, then the rest -/
theorem a_cons (h : E F te δ fun r δ1 => EA F tr δ1 fun rs δ2 => PL (r :: rs) δ2) : EA F (tCons te tr) δ PL := fun τ ε G H σ Q s q =>
  h τ ε G H σ _ s fun x r δ1 G1 H1 h1 e1 s1 => h1 _ _ G1 H1 σ _ s1 fun xs rs δ2 G2 H2 h2 e2 el s2 => by
    refine q (x :: xs) (r :: rs) δ2 G2 H2 h2 (Ex.trans e1 e2) (by simp [el]) ?_
    have sp := Oks.split (τ := xs.map some) (ε := rs) (by simpa using el) s2.t
    refine ⟨s2.w.perm ?_, ⟨sp.2.1, Oks.app sp.1 sp.2.2⟩, s2.s⟩
    show ((r.fp ++ fps (rs ++ ε)) ++ fps δ2).Perm (fps (rs ++ r :: ε) ++ fps δ2)
    refine List.Perm.append_right _ ?_
    rw [fps_app, fps_app]
    show (r.fp ++ (fps rs ++ fps ε)).Perm (fps rs ++ (r.fp ++ fps ε))
    rw [← List.append_assoc, ← List.append_assoc]
    exact List.Perm.append_right _ List.perm_append_comm
/-- the values of an argument list -/
def OA (F : Fm) (r : List V → Hp → VK → Prop) (rs : List SD) (δ : List SD) (P : PV) : Prop := ∀ τ ε G H σ Q vs, vs.length = rs.length → S2 F G H (vs.map some ++ τ) (rs ++ ε) σ δ → (∀ v r δ' G' H', P r δ' → Ex G G' → S2 F G' H' (some v :: τ) (r :: ε) σ δ' → Q v H') → r vs H Q
theorem ev_cb {r : List V → Hp → VK → Prop} (h : EA F tr δ fun rs δ1 => OA F r rs δ1 P) : E F (tCB r tr) δ P := fun τ ε G H σ Q s q =>
  h τ ε G H σ _ s fun vs rs δ1 G1 H1 h1 e1 el s1 => h1 τ ε G1 H1 σ Q vs el s1 fun z rc δ3 G3 H3 p e3 s3 => q z rc δ3 G3 H3 p (Ex.trans e1 e3) s3
theorem one_of {vs : List V} {r : SD} (e : vs.length = [r].length) : ∃ x, vs = [x] := by
  match vs, e with
  | [x], _ => exact ⟨x, rfl⟩
theorem two_of {vs : List V} {r r' : SD} (e : vs.length = [r, r'].length) : ∃ x y, vs = [x, y] := by
  match vs, e with
  | [x, y], _ => exact ⟨x, y, rfl⟩
/-- frozen data of a list of slots -/
theorem oks_fz {K : PySem.W.Frag} : ∀ {vs : List V} {ds : List PyData}, Oks K G H (vs.map some) (ds.map SD.fz) → DpAll K G vs ds
  | [], [], _ => .nil
  | [], _ :: _, h => h.elim
  | _ :: _, [], h => h.elim
  | _ :: _, _ :: _, h => .cons h.1 (oks_fz h.2)
theorem fps_fz : ∀ (ds : List PyData), fps (ds.map SD.fz) = []
  | [] => rfl
  | _ :: ds => fps_fz ds
theorem S2.popN {rs : List SD} {vs : List V} (el : vs.length = rs.length) (s : S2 F G H (vs.map some ++ τ) (rs ++ ε) σ δ) : S2 F G H τ ε σ δ :=
  ⟨s.w.sub (by rw [fps_app, List.append_assoc]; exact List.sublist_append_right _ _), (Oks.split (by simpa using el) s.t).2, s.s⟩
/-- a tuple of frozen things -/
theorem ev_tup (h : EA F tr δ fun rs δ1 => ∃ ds, rs = ds.map SD.fz ∧ ds.length ≤ sizeLine ∧ P (.fz (.tuple ds)) δ1) : E F (tTup tr) δ P := fun τ ε G H σ Q s q =>
  h τ ε G H σ _ s fun vs rs δ1 G1 H1 ⟨ds, hr, hl, k⟩ e1 el s1 => by
    subst hr
    have el' : vs.length = ds.length := by simpa using el
    refine ⟨by omega, fun p hp => ?_⟩
    have sp := Oks.split (by simpa using el) s1.t
    have da := oks_fz sp.1
    have s2 := (S2.popN el s1).newF (o := .tup vs) hp
    have ex := Ex.new (o := .tup vs) (s1.w.gnone hp)
    exact q _ _ δ1 _ _ k (Ex.trans e1 ex) (s2.push rfl (Dp.tup upd_same (dpAllMono ex _ _ da)))
/-- a new list of frozen things, owned -/
theorem ev_lst (h : EA F tr δ fun rs δ1 => ∃ ds, rs = ds.map SD.fz ∧ ds.length ≤ sizeLine ∧ ∀ p, p ∉ F.io → P (.ol p ds) δ1) : E F (tLst tr) δ P := fun τ ε G H σ Q s q =>
  h τ ε G H σ _ s fun vs rs δ1 G1 H1 ⟨ds, hr, hl, k⟩ e1 el s1 => by
    subst hr
    have el' : vs.length = ds.length := by simpa using el
    refine ⟨by omega, fun p hp => ?_⟩
    have sp := Oks.split (by simpa using el) s1.t
    have da := oks_fz sp.1
    have hio : p ∉ F.io := fun z => by
      obtain ⟨o, e⟩ := s1.w.io p z
      rw [hp] at e; cases e
    exact q _ _ δ1 _ _ (k p hio) e1 ((S2.popN el s1).newO hp rfl ⟨rfl, vs, upd_same, da⟩)
/-- what is on top is frozen -/
theorem E.freeze (h : E F te δ fun r δ1 => (∃ p ds, p ∉ F.io ∧ r = .ol p ds ∧ P (.fz (.list ds)) δ1)) : E F te δ P := fun τ ε G H σ Q s q =>
  h τ ε G H σ _ s fun v r δ1 G1 H1 ⟨p, ds, hio, hr, k⟩ e1 s1 => by
    subst hr
    obtain ⟨o, gp, s2⟩ := s1.freezeT hio
    exact q v _ δ1 _ _ k (Ex.trans e1 (Ex.new gp)) s2
/-- a slot is frozen -/
theorem E.freezeS {i : Nat} {p : Addr} {ds : List PyData} (e : δ[i]? = some (.ol p ds)) (hio : p ∉ F.io) (h : E F te (δ.set i (.fz (.list ds))) P) : E F te δ P := fun τ ε G H σ Q s q => by
  obtain ⟨o, gp, s2⟩ := s.freezeL e hio
  exact h τ ε _ H σ Q s2 fun v r δ' G' H' p e' s' => q v r δ' G' H' p (Ex.trans (Ex.new gp) e') s'
theorem T.freezeS {i : Nat} {p : Addr} {ds : List PyData} (e : δ[i]? = some (.ol p ds)) (hio : p ∉ F.io) (h : T F tt (δ.set i (.fz (.list ds))) PT) : T F tt δ PT := fun τ ε G H σ Q s q => by
  obtain ⟨o, gp, s2⟩ := s.freezeL e hio
  exact h τ ε _ H σ Q s2 fun b δ' G' H' p e' s' => q b δ' G' H' p (Ex.trans (Ex.new gp) e') s'
end
end SL

namespace SL
open PySem L2 Evl
section
variable {F F' : Fm} {G G' H H' : Hp} {τ σ : List (Option V)} {ε δ : List SD} {v : V} {P : PV} {te ta tb : TE} {tt tu : TT} {ts tw : TS} {D : Ends} {N : St → Hp → Prop} {g : TG} {PT : Bool → List SD → Prop}

/-! ### statements -/
theorem Nx.up (l : Le F F') (h : Nx F N δ) : Nx F' N δ := fun G H σ s => h G H σ (s.up l)
theorem Rn.up (l : Le F F') (h : Rn F ts δ D) : Rn F' ts δ D := fun G H σ s => h G H σ (s.up l)
theorem rn_seq (h : Rn F ts δ { D with nx := tw D }) : Rn F (tSeq ts tw) δ D := h
theorem rn_next (h : Nx F D.nx δ) : Rn F tNext δ D := h
theorem rn_cont (h : Nx F D.ct δ) : Rn F tCont δ D := h
theorem rn_break (h : Nx F D.bk δ) : Rn F tBreak δ D := h
/-- the value on top goes to a target -/
def Ga (F : Fm) (g : TG) (r : SD) (δ : List SD) (N : St → Hp → Prop) : Prop := ∀ G H σ v, S2 F G H [some v] [r] σ δ → g v σ H N
theorem rn_asg (h : E F te δ fun r δ1 => Ga F g r δ1 D.nx) : Rn F (tAsg te g) δ D := fun G H σ s => h [] [] G H σ _ s fun v r δ1 G1 H1 h1 _ s1 => h1 G1 H1 σ v s1
theorem ga_name {i : Nat} {r : SD} (hi : i < δ.length) (h : Nx F N (δ.set i r)) : Ga F (gName i) r δ N := fun G H σ v s => h G H _ (s.store (List.getElem?_eq_getElem hi))
theorem lt_of_get {α : Type} {l : List α} {i : Nat} {x : α} (h : l[i]? = some x) : i < l.length := (List.getElem?_eq_some_iff.mp h).1
theorem rn_set {i : Nat} (h : E F te δ fun r δ1 => ∃ old, δ1[i]? = some old ∧ Nx F D.nx (δ1.set i r)) : Rn F (tAsg te (gName i)) δ D := rn_asg (h.mono fun _ _ ⟨_, k1, k2⟩ => ga_name (lt_of_get k1) k2)
theorem nx_seq (h : Rn F tw δ D) : Nx F (Ends.nx (Ends.mk (tw D) D.rt D.bk D.ct)) δ := h
theorem rn_asgN {i : Nat} {r : SD} {old : SD} (hi : δ[i]? = some old) (h : Nx F N (δ.set i r)) : Ga F (gName i) r δ N := ga_name (lt_of_get hi) h
theorem rn_if (h : T F tt δ fun b δ1 => if b = true then Rn F ts δ1 D else Rn F tw δ1 D) : Rn F (tIfS tt ts tw) δ D := fun G H σ s => h [] [] G H σ _ s fun b δ1 G1 H1 h1 _ s1 => by
  cases b with
  | true => exact h1 G1 H1 σ s1
  | false => exact h1 G1 H1 σ s1
theorem rn_drop (h : E F te δ fun _ δ1 => Nx F D.nx δ1) : Rn F (tDrop te) δ D := fun G H σ s => h [] [] G H σ _ s fun v r δ1 G1 H1 h1 _ s1 => h1 G1 H1 σ s1.pop
/-- a return, the value told by r, the slots by δ -/
def Ro (F : Fm) (rt : VK) (r : SD) (δ : List SD) : Prop := ∀ v G H σ, S2 F G H [some v] [r] σ δ → rt v H
theorem Ro.up {rt : VK} {r : SD} (l : Le F F') (h : Ro F rt r δ) : Ro F' rt r δ := fun v G H σ s => h v G H σ (s.up l)
theorem rn_ret (h : E F te δ fun r δ1 => Ro F D.rt r δ1) : Rn F (tRet te) δ D := fun G H σ s => h [] [] G H σ _ s fun v r δ1 G1 H1 h1 _ s1 => h1 v G1 H1 σ s1
theorem rn_retN (h : Ro F D.rt (.fz .none) δ) : Rn F tRetN δ D := fun G H σ s => h .non G H σ (s.push rfl .non)
theorem Nx.freezeS {i : Nat} {p : Addr} {ds : List PyData} (e : δ[i]? = some (.ol p ds)) (hio : p ∉ F.io) (h : Nx F N (δ.set i (.fz (.list ds)))) : Nx F N δ := fun G H σ s => by
  obtain ⟨o, gp, s2⟩ := s.freezeL e hio
  exact h _ H σ s2
theorem Rn.freezeS {i : Nat} {p : Addr} {ds : List PyData} (e : δ[i]? = some (.ol p ds)) (hio : p ∉ F.io) (h : Rn F ts (δ.set i (.fz (.list ds))) D) : Rn F ts δ D := Nx.freezeS (N := ts D) e hio h
theorem Nx.drop {i : Nat} {r : SD} (e : δ[i]? = some r) (h : Nx F N (δ.set i .no)) : Nx F N δ := fun G H σ s => h G H σ (s.drop e)
theorem Rn.drop {i : Nat} {r : SD} (e : δ[i]? = some r) (h : Rn F ts (δ.set i .no) D) : Rn F ts δ D := Nx.drop (N := ts D) e h
/-- a, b = a frozen tuple -/
def Gas (F : Fm) (u : TGs) (ds : List PyData) (δ : List SD) (N : St → Hp → Prop) : Prop := ∀ G H σ vs, S2 F G H [] [] σ δ → DpAll F.K G vs ds → u vs σ H N
theorem ga_tup {n : Nat} {u : TGs} {ds : List PyData} (hn : ds.length = n) (h : Gas F u ds δ N) : Ga F (gTup F.K n u) (.fz (.tuple ds)) δ N := fun G H σ v s => by
  obtain ⟨a, xs, rfl, sq, da⟩ := dp_tup (fz_top s)
  exact ⟨a, xs, rfl, ex_t s.w.gh sq, by rw [DpAll.len da, hn], h G H σ xs s.pop da⟩
theorem gas_nil (h : Nx F N δ) : Gas F gNil [] δ N := fun G H σ vs s da => by
  cases da
  exact ⟨rfl, h G H σ s⟩
theorem gas_name {i : Nat} {u : TGs} {d : PyData} {ds : List PyData} {old : SD} (hi : δ[i]? = some old) (h : Gas F u ds (δ.set i (.fz d)) N) : Gas F (gCons (gName i) u) (d :: ds) δ N := fun G H σ vs s da => by
  cases da with
  | cons a b => exact ⟨_, _, rfl, h G H _ _ ((s.push (sd := .fz d) rfl a).store hi) b⟩

/-! ### what a loop walks: frozen items -/
def ItOk (K : PySem.W.Frag) (J : It) (G' : Hp) (items : List PyData) : Prop := ∃ Gc Y, Walk J items.length Gc Y ∧ (∀ G H, Ex G' G → Ex G H → Gc H) ∧
  ∀ i H x H2 d, items[i]? = some d → Y i H x H2 → ∀ (F2 : Fm) G τ ε σ δ, F2.K = K → S2 F2 G H τ ε σ δ → Ex G' G → ∃ G2, Ex G G2 ∧ S2 F2 G2 H2 (some x :: τ) (.fz d :: ε) σ δ
def Iw (F : Fm) (wi : TI) (δ : List SD) (P : List PyData → List SD → Prop) : Prop := ∀ τ ε G H σ R, S2 F G H τ ε σ δ → (∀ J items δ' G' H', P items δ' → Ex G G' → S2 F G' H' τ ε σ δ' → ItOk F.K J G' items → R J H') → wi σ H R
variable {PI : List PyData → List SD → Prop} {wi : TI} {tr : TA}
theorem itOk_list {K : PySem.W.Frag} {a : Addr} {xs : List V} {ds : List PyData} (sq : SqL K G a xs) (da : DpAll K G xs ds) : ItOk K (Itl K a) G ds := by
  refine ⟨_, _, by rw [← DpAll.len da]; exact walk_list, fun G1 H1 e1 e2 => ex_l (Ex.trans e1 e2) sq, ?_⟩
  rintro i H x H2 d hd ⟨rfl, hx⟩ F2 G1 τ ε σ δ hK s e
  obtain ⟨d', h1, h2⟩ := DpAll.get da hx
  rw [hd] at h1
  cases h1
  exact ⟨G1, Ex.refl _, s.push rfl (by show Dp F2.K G1 x d; rw [hK]; exact dpMono e _ _ h2)⟩
theorem itOk_tup {K : PySem.W.Frag} {a : Addr} {xs : List V} {ds : List PyData} (sq : SqT K G a xs) (da : DpAll K G xs ds) : ItOk K (Itt K a) G ds := by
  refine ⟨_, _, by rw [← DpAll.len da]; exact walk_tup, fun G1 H1 e1 e2 => ex_t (Ex.trans e1 e2) sq, ?_⟩
  rintro i H x H2 d hd ⟨rfl, hx⟩ F2 G1 τ ε σ δ hK s e
  obtain ⟨d', h1, h2⟩ := DpAll.get da hx
  rw [hd] at h1
  cases h1
  exact ⟨G1, Ex.refl _, s.push rfl (by show Dp F2.K G1 x d; rw [hK]; exact dpMono e _ _ h2)⟩
/-- a new pair of two frozen things -/
theorem S2.pair {T : Addr} {x y : V} {d e : PyData} (s : S2 F G H τ ε σ δ) (hT : H T = none) (hx : Dp F.K G x d) (hy : Dp F.K G y e) : ∃ G2, Ex G G2 ∧ S2 F G2 (upd H T (.tup [x, y])) (some (.ref T) :: τ) (.fz (.tuple [d, e]) :: ε) σ δ := by
  have ex := Ex.new (o := .tup [x, y]) (s.w.gnone hT)
  exact ⟨_, ex, (s.newF hT).push rfl (Dp.tup upd_same (.cons (dpMono ex _ _ hx) (.cons (dpMono ex _ _ hy) .nil)))⟩
def enumD : Nat → List PyData → List PyData
  | _, [] => []
  | i, d :: ds => .tuple [.int (i : Nat), d] :: enumD (i + 1) ds
theorem enumD_len : ∀ (i : Nat) (ds : List PyData), (enumD i ds).length = ds.length
  | _, [] => rfl
  | i, _ :: ds => by simp [enumD, enumD_len (i + 1) ds]
theorem enumD_get : ∀ (k : Nat) (ds : List PyData) (i : Nat), (enumD k ds)[i]? = ds[i]?.map fun d => .tuple [.int ((k + i : Nat) : Int), d]
  | _, [], _ => by simp [enumD]
  | k, d :: ds, 0 => by simp [enumD]
  | k, d :: ds, i + 1 => by
    simp only [enumD, List.getElem?_cons_succ]
    rw [enumD_get (k + 1) ds i]
    have : k + 1 + i = k + (i + 1) := by omega
    rw [this]
theorem itOk_enum {K : PySem.W.Frag} {a : Addr} {xs : List V} {ds : List PyData} (sq : SqL K G a xs) (da : DpAll K G xs ds) : ItOk K (Ite K a) G (enumD 0 ds) := by
  refine ⟨_, _, by rw [enumD_len, ← DpAll.len da]; exact walk_enum, fun G1 H1 e1 e2 => ex_l (Ex.trans e1 e2) sq, ?_⟩
  rintro i H x H2 d hd ⟨T, x1, y1, rfl, hT, rfl, h1, h2⟩ F2 G1 τ ε σ δ hK s e
  rw [enumD_get] at hd
  obtain ⟨d', h3, h4⟩ := DpAll.get da h2
  rw [h3] at hd
  simp only [Option.map_some, Option.some.injEq, Nat.zero_add] at hd
  subst hd
  cases h1
  exact s.pair hT (.int _) (by rw [hK]; exact dpMono e _ _ h4)
def rangeD (lo : Int) (n : Nat) : List PyData := (List.range n).map fun i => .int (lo + (i : Nat))
theorem itOk_range {K : PySem.W.Frag} (lo : Int) (n : Nat) : ItOk K (Itr lo n) G (rangeD lo n) := by
  refine ⟨_, _, by rw [show (rangeD lo n).length = n by simp [rangeD]]; exact walk_range, fun _ _ _ _ => trivial, ?_⟩
  rintro i H x H2 d hd ⟨rfl, rfl⟩ F2 G1 τ ε σ δ hK s e
  have : d = .int (lo + (i : Nat)) := by
    simp only [rangeD, List.getElem?_map] at hd
    cases q : (List.range n)[i]? with
    | none => rw [q] at hd; cases hd
    | some j =>
      rw [q] at hd
      have := List.getElem?_eq_some_iff.mp q
      obtain ⟨h1, h2⟩ := this
      simp at h2
      subst h2
      simpa using hd.symm
  subst this
  exact ⟨G1, Ex.refl _, s.push rfl (.int _)⟩
def signsD (z : Str) : List PyData := z.cps.toList.map fun c => .str ⟨#[c]⟩
theorem itOk_str {K : PySem.W.Frag} (z : Str) : ItOk K (Its z) G (signsD z) := by
  refine ⟨_, _, by rw [show (signsD z).length = z.cps.size by simp [signsD]]; exact walk_str, fun _ _ _ _ => trivial, ?_⟩
  rintro i H x H2 d hd ⟨rfl, c, hc, rfl⟩ F2 G1 τ ε σ δ hK s e
  have : d = .str ⟨#[c]⟩ := by
    simp only [signsD, List.getElem?_map] at hd
    have q : z.cps.toList[i]? = some c := by simpa using hc
    rw [q] at hd
    simpa using hd.symm
  subst this
  exact ⟨G1, Ex.refl _, s.push rfl (.str _)⟩
theorem iw_list (h : E F te δ fun r δ1 => ∃ ds, r = .fz (.list ds) ∧ PI ds δ1) : Iw F (iList F.K te) δ PI := fun τ ε G H σ R s q =>
  h τ ε G H σ _ s fun v r δ1 G1 H1 ⟨ds, hr, k⟩ e1 s1 => by
    subst hr
    obtain ⟨a, xs, rfl, sq, da⟩ := dp_lst (fz_top s1)
    exact ⟨a, rfl, ⟨xs, ex_l s1.w.gh sq⟩, q _ ds δ1 G1 H1 k e1 s1.pop (itOk_list sq da)⟩
theorem iw_tup (h : E F te δ fun r δ1 => ∃ ds, r = .fz (.tuple ds) ∧ PI ds δ1) : Iw F (iTup F.K te) δ PI := fun τ ε G H σ R s q =>
  h τ ε G H σ _ s fun v r δ1 G1 H1 ⟨ds, hr, k⟩ e1 s1 => by
    subst hr
    obtain ⟨a, xs, rfl, sq, da⟩ := dp_tup (fz_top s1)
    exact ⟨a, rfl, ⟨xs, ex_t s1.w.gh sq⟩, q _ ds δ1 G1 H1 k e1 s1.pop (itOk_tup sq da)⟩
theorem iw_str (h : E F te δ fun r δ1 => ∃ z, r = .fz (.str z) ∧ PI (signsD z) δ1) : Iw F (iStr te) δ PI := fun τ ε G H σ R s q =>
  h τ ε G H σ _ s fun v r δ1 G1 H1 ⟨z, hr, k⟩ e1 s1 => by
    subst hr
    exact ⟨z, dp_str (fz_top s1), q _ _ δ1 G1 H1 k e1 s1.pop (itOk_str z)⟩
theorem iw_enum (h : EA F tr δ fun rs δ1 => ∃ ds, rs = [.fz (.list ds)] ∧ PI (enumD 0 ds) δ1) : Iw F (iEnum F.K tr) δ PI := fun τ ε G H σ R s q =>
  h τ ε G H σ _ s fun vs rs δ1 G1 H1 ⟨ds, hr, k⟩ e1 el s1 => by
    subst hr
    obtain ⟨x, rfl⟩ := one_of el
    obtain ⟨a, xs, rfl, sq, da⟩ := dp_lst (fz_top s1)
    exact ⟨a, xs, rfl, ex_l s1.w.gh sq, q _ _ δ1 G1 H1 k e1 s1.pop (itOk_enum sq da)⟩
theorem iw_range1 (h : EA F tr δ fun rs δ1 => ∃ j : Int, rs = [.fz (.int j)] ∧ -(2 ^ 62) ≤ j ∧ j < 2 ^ 62 ∧ PI (rangeD 0 j.toNat) δ1) : Iw F (iRng1 tr) δ PI := fun τ ε G H σ R s q =>
  h τ ε G H σ _ s fun vs rs δ1 G1 H1 ⟨j, hr, h1, h2, k⟩ e1 el s1 => by
    subst hr
    obtain ⟨x, rfl⟩ := one_of el
    obtain rfl := dp_int (fz_top s1)
    exact ⟨j, rfl, h1, h2, q _ _ δ1 G1 H1 k e1 s1.pop (itOk_range 0 _)⟩
theorem iw_range2 (h : EA F tr δ fun rs δ1 => ∃ i j : Int, rs = [.fz (.int i), .fz (.int j)] ∧ (-(2 ^ 62) ≤ i ∧ i < 2 ^ 62 ∧ -(2 ^ 62) ≤ j ∧ j < 2 ^ 62) ∧ PI (rangeD i (j - i).toNat) δ1) : Iw F (iRng2 tr) δ PI := fun τ ε G H σ R s q =>
  h τ ε G H σ _ s fun vs rs δ1 G1 H1 ⟨i, j, hr, h1, k⟩ e1 el s1 => by
    subst hr
    obtain ⟨x, y, rfl⟩ := two_of el
    obtain rfl := dp_int (fz_top s1)
    obtain rfl := dp_int (fz_top s1.pop)
    exact ⟨i, j, rfl, h1, q _ _ δ1 G1 H1 k e1 s1.pop.pop (itOk_range i _)⟩

/-! ### for -/
theorem rn_for {tb : TS} (h : Iw F wi δ fun items δ1 => ∃ I : Nat → List SD → Prop, I 0 δ1 ∧
      (∀ F' i d δ' N, Le F F' → items[i]? = some d → I i δ' → (∀ δ'', I (i + 1) δ'' → Nx F' N δ'') → Ga F' g (.fz d) δ' fun σ2 H2 => tb { D with nx := N, ct := N, bk := D.nx } σ2 H2) ∧ (∀ δ', I items.length δ' → Nx F D.nx δ')) :
    Rn F (tFor wi g tb) δ D := fun G H σ s => h [] [] G H σ _ s fun J items δ1 G1 H1 ⟨I, i0, step, fin⟩ e1 s1 ⟨Gc, Y, wk, hg, hy⟩ => by
  refine for_it wk (fun i σ H => ∃ G δ', Ex G1 G ∧ I i δ' ∧ S2 F G H [] [] σ δ') ⟨G1, δ1, Ex.refl _, i0, s1⟩ (fun i σ H _ ⟨G, δ', ex, _, s⟩ => hg G H ex s.w.gh) ?_ (fun σ H ⟨G, δ', _, hi, s⟩ => fin δ' hi G H σ s)
  rintro i x σ H H' hi ⟨G, δ', ex, hI, s⟩ y
  have hd : items[i]? = some items[i] := List.getElem?_eq_getElem hi
  obtain ⟨G2, ex2, s2⟩ := hy i H x H' _ hd y F G [] [] σ δ' rfl s ex
  obtain ⟨l, s3⟩ := s2.rebase
  exact step _ i _ δ' _ l hd hI (fun δ'' hi' G4 H4 σ4 s4 => ⟨G4, δ'', Ex.trans (Ex.trans ex ex2) s4.w.g0, hi', s4.up l⟩) G2 H' σ x s3
/-- while, by a word of the slots and a measure -/
theorem rn_while {tb : TS} (I : Nat → List SD → Prop) (m0 : Nat) (h0 : I m0 δ)
    (hs : ∀ F' m δ', Le F F' → I m δ' → T F' tt δ' fun b δ1 => if b = true then ∀ N, (∀ m' δ'', m' < m → I m' δ'' → Nx F' N δ'') → Rn F' tb δ1 { D with nx := N, ct := N, bk := D.nx } else Nx F' D.nx δ1) : Rn F (tWhile tt tb) δ D := fun G H σ s => by
  refine ⟨fun m σ H => ∃ G δ', I m δ' ∧ S2 F G H [] [] σ δ', ⟨m0, G, δ, h0, s⟩, ?_⟩
  rintro m σ H ⟨G, δ', hI, s⟩
  obtain ⟨l, s3⟩ := s.rebase
  refine hs _ m δ' l hI [] [] G H σ _ s3 fun b δ1 G1 H1 h1 e1 s1 => ?_
  cases b with
  | true =>
    refine ⟨fun σ' H' => ∃ m', m' < m ∧ ∃ G δ', I m' δ' ∧ S2 F G H' [] [] σ' δ', fun σ' H' hh => hh, ?_⟩
    exact h1 _ (fun m' δ'' hm hi G4 H4 σ4 s4 => ⟨m', hm, G4, δ'', hi, s4.up l⟩) G1 H1 σ s1
  | false => exact h1 G1 H1 σ s1

/-! ### comprehensions -/
theorem set_set_none (σ : List (Option V)) (j : Nat) (x : Option V) : (((σ.set j none).set j x).set j none) = σ.set j none := by
  simp
theorem oks_wipe {K : PySem.W.Frag} {j : Nat} (hj : δ[j]? = some .no) : ∀ {σ : List (Option V)}, Oks K G H σ δ → Oks K G H (σ.set j none) δ := by
  intro σ h
  have := Oks.set (ov := none) (s := SD.no) trivial j h
  have e : δ.set j .no = δ := by
    apply List.ext_getElem?
    intro k
    by_cases hk : j = k
    · subst hk
      have hl := (List.getElem?_eq_some_iff.mp hj).1
      rw [List.getElem?_set_self hl, hj]
    · rw [List.getElem?_set_ne hk]
  rw [e] at this
  exact this
theorem oks_unwipe {K : PySem.W.Frag} {j : Nat} : ∀ {σ : List (Option V)} {δ : List SD} {j : Nat}, δ[j]? = some .no → Oks K G H (σ.set j none) δ → Oks K G H σ δ
  | [], [], _, e, _ => by simp at e
  | [], _ :: _, _, _, h => h.elim
  | _ :: _, [], _, e, _ => by simp at e
  | _ :: _, s :: _, 0, e, h => by
    simp at e
    subst e
    exact ⟨trivial, h.2⟩
  | _ :: _, s :: _, j + 1, e, h => ⟨h.1, oks_unwipe (K := K) (j := j) (by simpa using e) h.2⟩
/-- one clause, one name; what is made of the items, told by I (turn, list so far, slots) -/
theorem ev_lc {j : Nat} {te : TE} (h : Iw F wi δ fun items δ1 => δ1[j]? = some .no ∧ items.length < 100000 ∧ ∃ I : Nat → List PyData → List SD → Prop, I 0 [] δ1 ∧ (∀ i acc δ', I i acc δ' → δ'[j]? = some .no ∧ acc.length ≤ i) ∧
      (∀ F' i d acc δ', Le F F' → items[i]? = some d → I i acc δ' → T F' tt (δ'.set j (.fz d)) fun b δ2 => if b = true then E F' te δ2 fun r δ3 => ∃ d', r = .fz d' ∧ ∃ r3, δ3[j]? = some r3 ∧ I (i + 1) (acc ++ [d']) (δ3.set j .no) else ∃ r2, δ2[j]? = some r2 ∧ I (i + 1) acc (δ2.set j .no)) ∧
      (∀ acc δ' p, p ∉ F.io → I items.length acc δ' → P (.ol p acc) δ')) :
    E F (tLc wi (gName j) tt te [j]) δ P := fun τ ε G H σ Q s q => h τ ε G H σ _ s fun J items δ1 G1 H1 ⟨hj, hlen, I, i0, keep, step, fin⟩ e1 s1 ⟨Gc, Y, wk, hg, hy⟩ => by
  intro Dl hD
  have hio : Dl ∉ F.io := fun z => by
    obtain ⟨o, e⟩ := s1.w.io Dl z
    rw [hD] at e; cases e
  have sw : S2 F G1 H1 τ ε (wipe σ [j]) δ1 := ⟨s1.w, s1.t, oks_wipe hj s1.s⟩
  have s0 : S2 F G1 (upd H1 Dl (.lst [])) (some (.ref Dl) :: τ) (.ol Dl [] :: ε) (wipe σ [j]) δ1 := sw.newO hD rfl ⟨rfl, [], upd_same, .nil⟩
  refine lc_it wk (fun i H => ∃ G acc δ', Ex G1 G ∧ I i acc δ' ∧ S2 F G H (some (.ref Dl) :: τ) (.ol Dl acc :: ε) (wipe σ [j]) δ') ⟨G1, [], δ1, Ex.refl _, i0, s0⟩ (fun i H _ ⟨G, acc, δ', ex, _, s⟩ => hg G H ex s.w.gh) ?_ ?_
  · rintro i x H H' hi ⟨G, acc, δ', ex, hI, s⟩ y
    have hd : items[i]? = some items[i] := List.getElem?_eq_getElem hi
    obtain ⟨G2, ex2, s2⟩ := hy i H x H' _ hd y F G _ _ _ δ' rfl s ex
    obtain ⟨l, s3⟩ := s2.rebase
    obtain ⟨k1, k2⟩ := keep i acc δ' hI
    have s4 := s3.store k1
    refine ⟨set_set_none _ _ _, ?_⟩
    have back : ∀ {G5 H5 acc5 δ5 r5}, δ5[j]? = some r5 → S2 { F with G0 := G2 } G5 H5 (some (.ref Dl) :: τ) (.ol Dl acc5 :: ε) ((wipe σ [j]).set j (some x)) δ5 → S2 F G5 H5 (some (.ref Dl) :: τ) (.ol Dl acc5 :: ε) (wipe σ [j]) (δ5.set j .no) := by
      intro G5 H5 acc5 δ5 r5 hr h5
      have h6 := (h5.up l).drop hr
      have hl : (δ5.set j SD.no)[j]? = some SD.no := List.getElem?_set_self (List.getElem?_eq_some_iff.mp hr).1
      have h7 := oks_wipe hl h6.s
      refine ⟨h6.w, h6.t, ?_⟩
      have e : ((wipe σ [j]).set j (some x)).set j none = wipe σ [j] := by
        show (((σ.set j none).set j (some x)).set j none) = σ.set j none
        simp
      rw [e] at h7
      exact h7
    refine step _ i _ acc δ' l hd hI _ _ G2 H' _ _ s4 fun b δ2 G5 H5 h5 e5 s5 => ?_
    cases b with
    | true =>
      refine h5 _ _ G5 H5 _ _ s5 fun w r δ3 G6 H6 ⟨d', hr, r3, hr3, hI'⟩ e6 s6 => ?_
      subst hr
      have hw := fz_top s6
      have s7 := s6.pop
      obtain ⟨_, xs, hx, hda⟩ := s7.top
      have hlx := DpAll.len hda
      refine ⟨xs, hx, ?_, G6, acc ++ [d'], δ3.set j .no, Ex.trans (Ex.trans ex ex2) s6.w.g0, hI', ?_⟩
      · exact Nat.lt_of_lt_of_le (show xs.length < 100000 by omega) (by decide)
      · -- the list has one more
        have wm : Wd { F with G0 := G2 } G6 (upd H6 Dl (.lst (xs ++ [w]))) (Dl :: (fps ε ++ fps δ3)) := s7.w.mut List.mem_cons_self
        have nd := (List.nodup_cons.mp (show (Dl :: (fps ε ++ fps δ3)).Nodup from s7.w.nd)).1
        have s8 : S2 { F with G0 := G2 } G6 (upd H6 Dl (.lst (xs ++ [w]))) (some (.ref Dl) :: τ) (.ol Dl (acc ++ [d']) :: ε) ((wipe σ [j]).set j (some x)) δ3 :=
          ⟨wm, ⟨⟨rfl, _, upd_same, DpAll.app hda (SL.DpAll.one hw)⟩, oks_mono (Ex.refl _) (fun a ha => upd_ne fun z => nd (z ▸ List.mem_append_left _ ha)) s7.t.2⟩, oks_mono (Ex.refl _) (fun a ha => upd_ne fun z => nd (z ▸ List.mem_append_right _ ha)) s7.s⟩
        exact back hr3 s8
    | false =>
      obtain ⟨r2, hr2, hI'⟩ := h5
      exact ⟨G5, acc, δ2.set j .no, Ex.trans (Ex.trans ex ex2) s5.w.g0, hI', back hr2 s5⟩
  · rintro H ⟨G, acc, δ', ex, hI, s⟩
    obtain ⟨k1, k2⟩ := keep _ acc δ' hI
    exact q _ _ δ' G H (fin acc δ' Dl hio hI) (Ex.trans e1 ex) ⟨s.w, s.t, oks_unwipe (K := F.K) (j := j) k1 s.s⟩
end
end SL

namespace SL
open PySem L2 Evl
section
variable {K : PySem.W.Frag} {F F' : Fm} {G G' H H' : Hp} {τ σ : List (Option V)} {ε δ : List SD} {v : V} {P : PV} {te ta tb : TE} {tt tu : TT} {ts tw : TS} {D : Ends} {N : St → Hp → Prop} {g : TG} {PT : Bool → List SD → Prop} {tr : TA}

/-! ### a def whose arguments are frozen -/
abbrev WF := List PyData → (SD → Prop) → Prop
def SpF (K : PySem.W.Frag) (W : WF) : Sp := fun vs H Q _ => ∃ G ds post, Ex G H ∧ DpAll K G vs ds ∧ W ds post ∧ ∀ r, post r → ∀ v G' H', S2 ⟨K, G, H, []⟩ G' H' [some v] [r] [] [] → Q v H'
/-- behind a call: what the callee leaves, in the caller's frame -/
theorem S2.call {G1 H1 : Hp} {r : SD} (s : S2 F G H τ ε σ δ) (c : S2 ⟨F.K, G, H, []⟩ G1 H1 [some v] [r] [] []) : S2 F G1 H1 (some v :: τ) (r :: ε) σ δ := by
  have w := c.w
  have hk : ∀ a ∈ fps ε ++ fps δ, H1 a = H a := fun a ha => by
    obtain ⟨_, o, e⟩ := s.w.own a ha
    rw [e]
    exact w.fr a o e (by simp)
  have new : ∀ a ∈ r.fp, H a = none := fun a ha => by
    rcases w.of a (by simp [fps, ha]) with q | q
    · simp at q
    · exact q
  refine ⟨⟨w.gh, ?_, ?_, Ex.trans s.w.g0 w.g0, ?_, ?_, ?_, ?_⟩, ⟨c.top, oks_mono w.g0 (fun a ha => hk a (List.mem_append_left _ ha)) s.t⟩, oks_mono w.g0 (fun a ha => hk a (List.mem_append_right _ ha)) s.s⟩
  · intro a ha
    have ha' : a ∈ r.fp ++ (fps ε ++ fps δ) := by rw [← List.append_assoc]; exact ha
    rcases List.mem_append.mp ha' with q | q
    · exact w.own a (by simp [fps, q])
    · obtain ⟨gn, o, e⟩ := s.w.own a q
      refine ⟨?_, o, w.fr a o e (by simp)⟩
      cases q1 : G1 a with
      | none => rfl
      | some u =>
        rcases w.nw a u q1 with z | z
        · rw [show G a = some u from z] at gn; cases gn
        · rw [show H a = none from z] at e; cases e
  · show ((r.fp ++ fps ε) ++ fps δ).Nodup
    rw [List.append_assoc]
    refine List.nodup_append.mpr ⟨?_, s.w.nd, ?_⟩
    · have := w.nd
      simp only [fps, List.append_nil] at this
      exact this
    · intro a ha b hb z
      subst z
      obtain ⟨_, o, e⟩ := s.w.own a hb
      rw [new a ha] at e; cases e
  · intro a o e hi
    exact w.fr a o (s.w.fr a o e hi) (by simp)
  · intro a o e
    rcases w.nw a o e with z | z
    · exact s.w.nw a o z
    · exact .inr (s.w.h0none z)
  · intro a ha
    have ha' : a ∈ r.fp ++ (fps ε ++ fps δ) := by rw [← List.append_assoc]; exact ha
    rcases List.mem_append.mp ha' with q | q
    · exact .inr (s.w.h0none (new a q))
    · exact s.w.of a q
  · intro a ha
    obtain ⟨o, e⟩ := s.w.io a ha
    exact ⟨o, w.fr a o e (by simp)⟩
/-- the call of a def whose arguments are frozen -/
theorem ev_callF {W : WF} {X0 : XK} (h : EA F tr δ fun rs δ1 => ∃ ds, rs = ds.map SD.fz ∧ W ds fun r => (∀ a ∈ r.fp, a ∉ F.io) → P r δ1) : E F (tCall (SpF F.K W) [] X0 tr) δ P := fun τ ε G H σ Q s q =>
  h τ ε G H σ _ s fun vs rs δ1 G1 H1 ⟨ds, hr, k⟩ e1 el s1 => by
    subst hr
    rw [List.append_nil]
    have sp := Oks.split (by simpa using el) s1.t
    have s0 := S2.popN el s1
    refine ⟨G1, ds, _, s1.w.gh, oks_fz sp.1, k, fun r p v G' H' c => ?_⟩
    refine q v r δ1 G' H' (p fun a ha hi => ?_) (Ex.trans e1 c.w.g0) (s0.call c)
    obtain ⟨o, e⟩ := s1.w.io a hi
    rcases c.w.of a (by simp [fps, ha]) with z | z
    · simp at z
    · rw [show H1 a = none from z] at e; cases e
theorem fz_map : ∀ {rs : List SD} {ds : List PyData}, rs = ds.map SD.fz → rs = ds.map SD.fz := fun h => h
/-- the slots at a def's start -/
def startD (n : Nat) (δ : List SD) : List SD := δ ++ List.replicate (n - δ.length) .no
theorem oks_nones {K : PySem.W.Frag} : ∀ (n : Nat), Oks K G H (List.replicate n none) (List.replicate n .no)
  | 0 => trivial
  | n + 1 => ⟨trivial, oks_nones n⟩
theorem oks_ofDp {K : PySem.W.Frag} : ∀ {vs : List V} {ds : List PyData}, DpAll K G vs ds → Oks K G H (vs.map some) (ds.map SD.fz)
  | _, _, .nil => trivial
  | _, _, .cons a b => ⟨a, oks_ofDp b⟩
/-- the body of a def whose arguments are frozen: from the frozen data, in a frame of its own -/
theorem bodyF {W : WF} {N : List Str} {vs : List V} {Q : VK} {X0 : XK} {t : TS} (h : SpF K W vs H Q X0)
    (hb : ∀ F ds post, F.K = K → F.io = [] → W ds post → (∀ r δ, post r → Ro F Q r δ) → Rn F t (startD N.length (ds.map SD.fz)) { nx := fun _ H' => Q .non H', rt := Q }) : t { nx := fun _ H' => Q .non H', rt := Q } (start N vs) H := by
  obtain ⟨G, ds, post, ex, da, w, k⟩ := h
  refine hb ⟨K, G, H, []⟩ ds post rfl rfl w (fun r δ p v G' H' σ s => k r p v G' H' ⟨s.w.sub ?_, s.t, trivial⟩) G H _ ?_
  · show (fps [r] ++ fps []).Sublist (fps [r] ++ fps δ)
    exact List.Sublist.append_left (List.nil_sublist _) _
  · have hl : fps (startD N.length (ds.map SD.fz)) = [] := by
      unfold startD
      rw [fps_app, fps_fz]
      have : ∀ n, fps (List.replicate n SD.no) = [] := fun n => by
        induction n with
        | zero => rfl
        | succ n ih => exact ih
      rw [this]
      rfl
    refine ⟨?_, trivial, ?_⟩
    · rw [hl]
      exact ⟨ex, fun a ha => by simp [fps] at ha, by simp [fps], Ex.refl _, fun a o e _ => e, fun a o e => .inl e, fun a ha => by simp [fps] at ha, fun a ha => by simp at ha⟩
    · unfold L2.start startD
      rw [List.length_map, ← DpAll.len da]
      exact Oks.app (oks_ofDp da) (oks_nones _)
end
end SL

/-! Rules of our own over the hand layer. -/
namespace L2
open PySem PySem.Spec PyProof.Rows
section
variable {X : Cx}
/-- list + list, both read -/
def rCatS (K : PySem.W.Frag) : R2 := fun x y H Q => ∃ l b xs zs, x = .ref l ∧ y = .ref b ∧ SqL K H l xs ∧ SqL K H b zs ∧ xs.length + zs.length ≤ sizeLine ∧ ∀ p, H p = none → Q (.ref p) (upd H p (.lst (xs ++ zs)))
theorem op_catS : OpR X (binaryOp .Add) (rCatS X.K) := by
  intro pins s σ H x y v u Q I rx ry h
  obtain ⟨l, b, xs, zs, rfl, rfl, hH, hB, hz, q⟩ := h
  cases rx
  cases ry
  obtain ⟨its, r, p, z⟩ := I.list hH
  obtain ⟨its2, r2, p2, z2⟩ := I.list hB
  have hl := r.length
  have hl2 := r2.length
  obtain ⟨⟨cls, dd, data, sl⟩, ho, hc, n, hd⟩ := p.isList
  obtain ⟨⟨cls2, dd2, data2, sl2⟩, ho2, hc2, n2, hd2⟩ := p2.isList
  simp only at hc hd hc2 hd2
  subst hc hd hc2 hd2
  have ea : its.toArray ++ its2.toArray = (its ++ its2).toArray := by simp
  refine concat_meets ⟨_, ho, rfl⟩ ⟨_, ho2, rfl⟩ noFill_list_add seq_list_add PySem.F.slot_list_add PySem.F.entry_list_add (PySem.F.args_list_add_2 _ _) (list_addW l b its.toArray its2.toArray n n2 dd dd2 sl sl2 (by rw [List.size_toArray, List.size_toArray]; omega)) ⟨ho, ho2, ?_⟩
  rw [ea]
  exact ⟨.ref _, _, I.lnew (t' := s.toks) (r.append r2) (by rw [List.length_append]; omega), rfl, q _ I.fresh⟩
end
end L2

/-! for a, b in enumerate(t), t a tuple. -/
namespace L2
open PySem PySem.Spec PyProof.Rows
def IteT (K : PySem.W.Frag) (a : Addr) : It :=
  ⟨fun i H => ∃ (xs : List V) (x : V), SqT K H a xs ∧ xs[i]? = some x, fun i H v H' => ∃ T x, v = .ref T ∧ H T = none ∧ H' = upd H T (.tup [.int (i : Nat), x]) ∧ ∀ xs, SqT K H a xs → xs[i]? = some x, fun i H => ∃ xs : List V, SqT K H a xs ∧ xs.length = i⟩
end L2
namespace PySem
set_option maxHeartbeats 1000000 in
theorem meets_enum1B {v : Value} {o : Obj} {H : Heap → Prop} (B : Begins v o H) :
    Meets (Builtin.«enumerate.__new__» ⟨[.type "enumerate", v], []⟩) (fun _ R s => H s.heap ∧
      R (.ok (.ret (.ref (s.heap.push o).objs.size))) { s with heap := (s.heap.push o).push { cls := .type "enumerate", data := .fields #[.none, .bool false, .ref s.heap.objs.size, rawInt 0, .none, .none] } }) :=
  .of_wp fun prog w A R s h => by
    obtain ⟨hp, g, d, tk, os⟩ := s; obtain ⟨h1, h⟩ := h
    have hsub := sub_enumerate
    have q1 : ∀ {A' : Around} {E : Value → Shared → Prop} {Q : Value → Shared → Prop}, Q (.ref hp.objs.size) ⟨hp.push o, g, d, tk, os⟩ → wpAny (model prog w) A' (pyIter v) Q E ⟨hp, g, d, tk, os⟩ :=
      fun q => B.iter prog w _ _ ⟨hp, g, d, tk, os⟩ _ h1 q
    wp_walk using q1
    refine wpAny_stack_any fun st => wpAny_pure ?_
    split
    · rename_i c _ _ _ _ _
      cases (c == Value.type "enumerate")
      · wp_walk using q1
        exact ⟨_, rfl, h⟩
      · wp_walk using q1
        exact ⟨_, rfl, h⟩
    · wp_walk using q1
      exact ⟨_, rfl, h⟩
theorem enum_begins1 {prog : Program} {w : World} {A : Around} {E : Value → Shared → Prop} {s : Shared} {v : Value} {o : Obj} {H : Heap → Prop} {Q : Value → Shared → Prop} (B : Begins v o H) (h1 : H s.heap)
    (h : ∀ h', IsEnum h' (s.heap.objs.size + 1) s.heap.objs.size 0 .none → h'.get? s.heap.objs.size = some o → h'.objs.size = s.heap.objs.size + 2 →
      (∀ b o, s.heap.get? b = some o → h'.get? b = some o) → Q (.ref (s.heap.objs.size + 1)) { s with heap := h' }) :
    wpAny (model prog w) A (call (.type "enumerate") [v]) Q E s := by
  refine callType_new F.called_enumerate (by decide) (F.typeCall_enumerate_1 _) (F.newCall_enumerate_1 _) (fun obj => F.args_object_init_2 obj _) F.entry_enumerate_new
    (meets_enum1B B) ⟨h1, ?_⟩
  have hz : (s.heap.push o).objs.size = s.heap.objs.size + 1 := Heap.size_push ..
  show _ ∧ _
  rw [hz]
  have he : IsEnum ((s.heap.push o).push { cls := .type "enumerate", data := .fields #[.none, .bool false, .ref s.heap.objs.size, rawInt 0, .none, .none] }) (s.heap.objs.size + 1) s.heap.objs.size 0 .none := by
    have := Heap.get?_push_size (s.heap.push o) (o := { cls := .type "enumerate", data := .fields #[.none, .bool false, .ref s.heap.objs.size, rawInt 0, .none, .none] }) rfl
    rw [hz] at this; exact this
  refine ⟨⟨_, he, rfl⟩, h _ he (Heap.get?_push_of_some _ (Heap.get?_push_size _ B.free)) (by rw [Heap.size_push, hz]) fun b o x => Heap.get?_push_of_some _ (Heap.get?_push_of_some _ x)⟩
end PySem
namespace L2
open PySem PySem.Spec PyProof.Rows
theorem turn_enumT {P : Program} {w : World} {K : PySem.W.Frag} {elts : List Expr} {kk : Nat} {tpos : Pos} (a e it : Addr) (hai : a ≠ it) :
    Turn P w K (.Tuple elts kk tpos) (IteT K a) [e, it] e (fun i h => (∃ old, IsEnum h e it ((i : Nat) : Int) old) ∧ h.IsTupleIter it a i ∧ e ≠ it ∧ a ≠ e) where
  mem := by simp
  obj := fun i h st b hb => by
    obtain ⟨⟨old, he⟩, ⟨o, ho, hc, hd⟩, _⟩ := st
    have e' : b = e ∨ b = it := by simpa using hb
    rcases e' with z | z
    · rw [z]; exact ⟨_, he, fun v q => nomatch q⟩
    · rw [z]; exact ⟨o, ho, fun v q => by rw [hd] at q; cases q⟩
  keep := fun i h h' st k => let ⟨⟨old, he⟩, hi, hne⟩ := st; ⟨⟨old, k e (by simp) _ he⟩, hi.at fun o q => k it (by simp) o q, hne⟩
  item := by
    intro X hP hw hK hc i pins s σ H E I hf st hg
    subst hP hw hK
    obtain ⟨⟨old, he⟩, hit, hne, hae⟩ := st
    obtain ⟨xs, x, hq, hx⟩ := hg
    obtain ⟨its, rv, p, hz⟩ := I.tuple hq
    obtain ⟨u, hu, ru⟩ := rv.get hx
    have hel : e < s.heap.objs.size := Heap.lt_size he
    have hil : it < s.heap.objs.size := by obtain ⟨_, q, _⟩ := hit; exact Heap.lt_size q
    have hlt : i < its.toArray.size := by
      have := (List.getElem?_eq_some_iff.mp hu).1
      simpa using this
    have hui : its.toArray[i]? = some u := by simpa using hu
    refine wpAny_pyNext_enum_itemD (Draws.tuple (A := X.A.in1) (I.ok.hd hc) it a hai its.toArray) he ⟨hit, p⟩ hlt hne (by simp [hne, hae.symm]) fun x' h' tk hx' ho hit' hT hsz hk => ?_
    rw [hui] at hx'
    cases hx'
    refine ⟨_, rfl, wpAny_letOwnedTupleGo_enum (s := { s with heap := h', toks := tk + 1 }) ho fun h'' he' sb => ?_⟩
    have hT2 : h''.get? s.heap.objs.size = some { cls := .type "tuple", data := .seq #[.int i tk, u] } := (sb.2 _ (Nat.ne_of_gt hel)).trans hT
    have new : ObjOk X.prog X.w (upd H s.heap.objs.size (.tup [.int (i : Nat), x])) h'' s.heap.objs.size (.tup [.int (i : Nat), x]) :=
      ⟨by show 2 ≤ sizeLine; decide, [.int i tk, u], .cons ⟨_, rfl⟩ (.cons ru .nil), ⟨_, hT2, rfl, _, rfl⟩⟩
    have I1 : Inv X pins σ (upd H s.heap.objs.size (.tup [.int (i : Nat), x])) { s with heap := h'', toks := tk + 1 } :=
      I.turnedNew (ch := [e, it]) (fun b ob hb q => (sb.2 b (fun z => hb (by simp [z]))).trans (hk b ob (fun z => hb (by simp [z])) (fun z => hb (by simp [z])) q)) hf (Nat.le_refl _) new
    refine ⟨.ref s.heap.objs.size, _, I1, rfl, ⟨_, x, rfl, I.hok.fresh (Nat.le_refl _), rfl, fun ys hy => by rw [I.tuple_inj hy hq]; exact hx⟩, ⟨⟨u, ?_⟩, hit'.1.at fun o q => (sb.2 it (Ne.symm hne)).trans q, hne, hae⟩, fun b hb => ?_⟩
    · have e1 : ((i + 1 : Nat) : Int) = (i : Int) + 1 := by omega
      rw [e1]; exact he'
    · have hb' : b < s.heap.objs.size := by
        have e' : b = e ∨ b = it := by simpa using hb
        rcases e' with z | z
        · rw [z]; exact hel
        · rw [z]; exact hil
      rw [upd_ne (Nat.ne_of_lt hb')]
      exact (hf b hb).1
  done := by
    intro X hP hw hK hc i pins s σ H E I hf st hg
    subst hP hw hK
    obtain ⟨⟨old, he⟩, hit, hne, hae⟩ := st
    obtain ⟨xs, hq, hx⟩ := hg
    obtain ⟨its, rv, p, hz⟩ := I.tuple hq
    obtain ⟨f0, f1, f2, f3, f4, f5⟩ := hf it (by simp)
    have hl := rv.length
    have ei : its.toArray.size = i := by rw [List.size_toArray]; omega
    exact wpAny_pyNext_enum_endD (Draws.tuple (A := X.A.in1) (I.ok.hd hc) it a hai its.toArray) he ⟨by rw [ei]; exact hit, p⟩ fun h' eb => ⟨rfl, I.turned (t' := s.toks) (fun b o hb q => eb b o hb q) f0 f1 f3 f4 f5⟩
  self := fun A i s Q E st h => let ⟨⟨_, he⟩, _⟩ := st; wpAny_pyIter_enum he h
def iEnumT (K : PySem.W.Frag) (ta : TA) : TI := fun σ H R => ta σ H fun vs H1 => ∃ a xs, vs = [.ref a] ∧ SqT K H1 a xs ∧ R (IteT K a) H1
theorem pi_enumT {X : Cx} {e : Expr} {ta : TA} {p pos tpos : Pos} {elts : List Expr} {kk : Nat} (hg : Gl X "enumerate") (hm : X.mg "enumerate" = none) (ha : PA X [e] ta) (hs : starEach [e] X.env = [(false, eval e X.env)] := by rfl) :
    PI X (.Tuple elts kk tpos) (.Call (.Name "enumerate" p) [e] [] pos) (iEnumT X.K ta) := by
  refine ⟨fun pins s σ H R I h => ?_⟩
  refine Call_ (ld_blt I hg hm boot_enumerate (PyProof.Rows.callWith_type1 (thn (ha.run pos pins s σ H _ I h) fun us s1 ⟨vs, H1, I1, r1, q1⟩ => ?_) hs rfl))
  obtain ⟨a, xs, ex, hq, q⟩ := q1
  subst ex
  cases r1 with
  | cons r rr =>
    cases rr
    cases r
    obtain ⟨its, rv, p', hz⟩ := I1.tuple hq
    have hlt : a < s1.heap.objs.size := p'.lt
    refine enum_begins1 (begins_tuple a its.toArray) p' fun h' he hit hsz hk => wpAny_pyIter_enum he ?_
    have I2 : Inv X pins σ H1 { s1 with heap := h' } := I1.kept (t' := s1.toks) hk
    refine ⟨s1.heap.objs.size + 1, [s1.heap.objs.size + 1, s1.heap.objs.size], _, _, H1, rfl, I2, turn_enumT a (s1.heap.objs.size + 1) s1.heap.objs.size (Nat.ne_of_lt hlt), ⟨⟨.none, he⟩, ⟨_, hit, rfl, rfl⟩, Nat.succ_ne_self _, Nat.ne_of_lt (Nat.lt_succ_of_lt hlt)⟩, fun b hb => ?_, q⟩
    have e' : b = s1.heap.objs.size + 1 ∨ b = s1.heap.objs.size := by simpa using hb
    have hle : s1.heap.objs.size ≤ b := by
      rcases e' with z | z
      · rw [z]; exact Nat.le_add_right _ _
      · rw [z]; exact Nat.le_refl _
    exact I1.fpOk hle (I1.hok.fresh hle)
theorem walk_enumT {K : PySem.W.Frag} {a : Addr} {xs : List V} : Walk (IteT K a) xs.length (fun H => SqT K H a xs) (YPair (fun i => some (.int (i : Nat))) (fun i => xs[i]?)) := by
  refine ⟨fun i _ hi q => ⟨xs, xs[i], q, by simp [hi]⟩, fun _ q => ⟨xs, q, rfl⟩, fun i H v H' _ q y => ?_⟩
  obtain ⟨T, x, h1, h2, h3, h4⟩ := y
  exact ⟨T, .int (i : Nat), x, h1, h2, h3, rfl, h4 xs q⟩
end L2

/-! enumerate and zip over lists, tuples and texts alike. -/
namespace L2
open PySem PySem.Spec PyProof.Rows
inductive Kd | l | t | s
/-- what may be walked: a list, a tuple, a text; its items -/
def SrcK (K : PySem.W.Frag) : Kd → Hp → V → List V → Prop
  | .l, H, v, xs => ∃ a, v = .ref a ∧ SqL K H a xs
  | .t, H, v, xs => ∃ a, v = .ref a ∧ SqT K H a xs
  | .s, _, v, xs => ∃ z : Str, v = .str z ∧ xs = z.cps.toList.map fun c => .str ⟨#[c]⟩
/-- its iterator at it; all else that it reads lies below lim -/
structure Sc (K : PySem.W.Frag) (it lim : Addr) (xs : List V) (Gc : Hp → Prop) (IS : Nat → Heap → Prop) : Prop where
  keep : ∀ i h h', IS i h → (∀ o, h.get? it = some o → h'.get? it = some o) → IS i h'
  obj : ∀ i h, IS i h → ∃ o, h.get? it = some o ∧ ∀ v, o.data ≠ .cell v
  dr : ∀ {X : Cx} {pins : List (Addr × Obj)} {σ : St} {H : Hp} {s : Shared}, X.K = K → X.calm = true → Inv X pins σ H s → Gc H → ∃ (fp : List Addr) (P : Nat → Value → Prop) (St : Nat → Heap → Prop),
    Draws X.prog X.w X.A.in1 it fp xs.length P St ∧ it ∈ fp ∧ (∀ b ∈ fp, b = it ∨ b < lim) ∧ (∀ i, IS i s.heap → St i s.heap) ∧ (∀ i h', St i h' → IS i h') ∧ ∀ i u, P i u → ∃ v, xs[i]? = some v ∧ RelV v u
theorem vals_get' {xs : List V} {its : List Value} (r : Vals xs its) {i : Nat} {u : Value} (h : its.toArray[i]? = some u) : ∃ v, xs[i]? = some v ∧ RelV v u := by
  have h' : its[i]? = some u := by simpa using h
  cases e : xs[i]? with
  | none => rw [r.none_of e] at h'; cases h'
  | some v =>
    obtain ⟨u', h1, h2⟩ := r.get e
    rw [h'] at h1
    cases h1
    exact ⟨v, rfl, h2⟩
theorem sc_list {K : PySem.W.Frag} {a it lim : Addr} {xs : List V} (h1 : a ≠ it) (h2 : a < lim) : Sc K it lim xs (fun H => SqL K H a xs) (fun i h => h.IsListIter it a i) where
  keep := fun i h h' st k => st.at k
  obj := fun i h ⟨o, ho, hc, hd⟩ => ⟨o, ho, fun v q => by rw [hd] at q; cases q⟩
  dr := by
    intro X pins σ H s hK hc I hq
    subst hK
    obtain ⟨its, rv, p, hz⟩ := I.list hq
    have hl := rv.length
    have D := Draws.list (prog := X.prog) (w := X.w) (A := X.A.in1) (I.ok.hd hc) it a h1 its.toArray
    have e : its.toArray.size = xs.length := by rw [List.size_toArray, hl]
    rw [e] at D
    exact ⟨_, _, _, D, by simp, fun b hb => by
      have : b = it ∨ b = a := by simpa using hb
      rcases this with z | z
      · exact .inl z
      · exact .inr (z ▸ h2), fun i st => ⟨st, p.isList⟩, fun i h' st => st.1, fun i u hu => vals_get' rv hu⟩
theorem sc_tup {K : PySem.W.Frag} {a it lim : Addr} {xs : List V} (h1 : a ≠ it) (h2 : a < lim) : Sc K it lim xs (fun H => SqT K H a xs) (fun i h => h.IsTupleIter it a i) where
  keep := fun i h h' st k => st.at k
  obj := fun i h ⟨o, ho, hc, hd⟩ => ⟨o, ho, fun v q => by rw [hd] at q; cases q⟩
  dr := by
    intro X pins σ H s hK hc I hq
    subst hK
    obtain ⟨its, rv, p, hz⟩ := I.tuple hq
    have hl := rv.length
    have D := Draws.tuple (prog := X.prog) (w := X.w) (A := X.A.in1) (I.ok.hd hc) it a h1 its.toArray
    have e : its.toArray.size = xs.length := by rw [List.size_toArray, hl]
    rw [e] at D
    exact ⟨_, _, _, D, by simp, fun b hb => by
      have : b = it ∨ b = a := by simpa using hb
      rcases this with z | z
      · exact .inl z
      · exact .inr (z ▸ h2), fun i st => ⟨st, p⟩, fun i h' st => st.1, fun i u hu => vals_get' rv hu⟩
theorem sc_str {K : PySem.W.Frag} {it lim : Addr} {z : Str} {t : Tok} : Sc K it lim (z.cps.toList.map fun c => V.str ⟨#[c]⟩) (fun H => True) (fun i h => h.IsStrIter it (strIterType z) z t i) where
  keep := fun i h h' ⟨o, ho, r⟩ k => ⟨o, k o ho, r⟩
  obj := fun i h ⟨o, ho, hc, hd⟩ => ⟨o, ho, fun v q => by rw [hd] at q; cases q⟩
  dr := by
    intro X pins σ H s hK hc I hq
    subst hK
    have D := Draws.text (prog := X.prog) (w := X.w) (A := X.A.in1) (I.ok.hd hc) it z t
    have e : z.cps.size = (z.cps.toList.map fun c => V.str ⟨#[c]⟩).length := by simp
    rw [e] at D
    refine ⟨_, _, _, D, by simp, fun b hb => .inl (by simpa using hb), fun i st => st, fun i h' st => st, fun i u ⟨c, tk, hx, hu⟩ => ⟨.str ⟨#[c]⟩, ?_, tk, hu⟩⟩
    have : z.cps.toList[i]? = some c := by simpa using hx
    rw [List.getElem?_map, this]
    rfl
/-- what is walked begins -/
theorem src_begin {X : Cx} {pins : List (Addr × Obj)} {σ : St} {H : Hp} {s : Shared} {k : Kd} {v : V} {u : Value} {xs : List V} (I : Inv X pins σ H s) (h : SrcK X.K k H v xs) (r : RelV v u) :
    ∃ (o : Obj) (C : Heap → Prop) (IS : Addr → Nat → Heap → Prop), Begins u o C ∧ C s.heap ∧ (∀ it h, h.get? it = some o → IS it 0 h) ∧ ∀ it, s.heap.objs.size ≤ it → Sc X.K it s.heap.objs.size xs (fun H' => SrcK X.K k H' v xs) (IS it) := by
  have weak : ∀ {it lim : Addr} {Gc Gc' : Hp → Prop} {IS : Nat → Heap → Prop}, (∀ H', Gc' H' → Gc H') → Sc X.K it lim xs Gc IS → Sc X.K it lim xs Gc' IS := fun {it lim Gc Gc' IS} hw sc =>
    ⟨sc.keep, sc.obj, fun hK hc I hg => sc.dr hK hc I (hw _ hg)⟩
  cases k with
  | l =>
    obtain ⟨a, rfl, hq⟩ := h
    cases r
    obtain ⟨its, rv, p, hz⟩ := I.list hq
    have la : a < s.heap.objs.size := p.lt
    exact ⟨_, _, fun it i h => h.IsListIter it a i, begins_list a its.toArray, p.isList, fun it h e => ⟨_, e, rfl, rfl⟩, fun it hi => weak (fun H' ⟨b, e, q⟩ => by cases e; exact q) (sc_list (Nat.ne_of_lt (Nat.lt_of_lt_of_le la hi)) la)⟩
  | t =>
    obtain ⟨a, rfl, hq⟩ := h
    cases r
    obtain ⟨its, rv, p, hz⟩ := I.tuple hq
    have la : a < s.heap.objs.size := p.lt
    exact ⟨_, _, fun it i h => h.IsTupleIter it a i, begins_tuple a its.toArray, p, fun it h e => ⟨_, e, rfl, rfl⟩, fun it hi => weak (fun H' ⟨b, e, q⟩ => by cases e; exact q) (sc_tup (Nat.ne_of_lt (Nat.lt_of_lt_of_le la hi)) la)⟩
  | s =>
    obtain ⟨z, rfl, rfl⟩ := h
    obtain ⟨t, rfl⟩ := r
    exact ⟨_, _, fun it i h => h.IsStrIter it (strIterType z) z t i, begins_text z t, trivial, fun it h e => ⟨_, e, rfl, rfl⟩, fun it hi => weak (fun _ _ => trivial) sc_str⟩
/-- two sources, the items in new pairs -/
def Itzz (K : PySem.W.Frag) (k1 k2 : Kd) (v1 v2 : V) (xs ys : List V) : It :=
  ⟨fun i H => SrcK K k1 H v1 xs ∧ SrcK K k2 H v2 ys ∧ i < xs.length ∧ i < ys.length,
    fun i H v H' => ∃ T x y, v = .ref T ∧ H T = none ∧ H' = upd H T (.tup [x, y]) ∧ xs[i]? = some x ∧ ys[i]? = some y,
    fun i H => SrcK K k1 H v1 xs ∧ SrcK K k2 H v2 ys ∧ i ≤ xs.length ∧ i ≤ ys.length ∧ (i = xs.length ∨ i = ys.length)⟩
theorem turn_zz {P : Program} {w : World} {K : PySem.W.Frag} {elts : List Expr} {kk : Nat} {tpos : Pos} {k1 k2 : Kd} {v1 v2 : V} {xs ys : List V} {N : Addr} {IS1 IS2 : Nat → Heap → Prop}
    (S1 : Sc K N N xs (fun H => SrcK K k1 H v1 xs) IS1) (S2 : Sc K (N + 1) N ys (fun H => SrcK K k2 H v2 ys) IS2) :
    Turn P w K (.Tuple elts kk tpos) (Itzz K k1 k2 v1 v2 xs ys) [N + 4, N + 2, N + 3, N, N + 1] (N + 4) (fun i h => IsZip h (N + 4) (N + 2) (N + 3) .none ∧ IsTupOf2 h (N + 2) (.ref N) (.ref (N + 1)) ∧ (∃ x y, IsTupOf2 h (N + 3) x y) ∧ IS1 i h ∧ IS2 i h) where
  mem := by simp
  obj := fun i h st c hc => by
    obtain ⟨hz, hTI, ⟨x, y, hTO⟩, st1, st2⟩ := st
    have e' : c = N + 4 ∨ c = N + 2 ∨ c = N + 3 ∨ c = N ∨ c = N + 1 := by simpa using hc
    rcases e' with q | q | q | q | q
    · rw [q]; exact ⟨_, hz, fun v q => nomatch q⟩
    · rw [q]; exact ⟨_, hTI, fun v q => nomatch q⟩
    · rw [q]; exact ⟨_, hTO, fun v q => nomatch q⟩
    · rw [q]; exact S1.obj _ _ st1
    · rw [q]; exact S2.obj _ _ st2
  keep := fun i h h' st k => by
    obtain ⟨hz, hTI, ⟨x, y, hTO⟩, st1, st2⟩ := st
    exact ⟨k _ (by simp) _ hz, k _ (by simp) _ hTI, ⟨x, y, k _ (by simp) _ hTO⟩, S1.keep _ _ _ st1 fun o q => k N (by simp) o q, S2.keep _ _ _ st2 fun o q => k (N + 1) (by simp) o q⟩
  item := by
    intro X hP hw hK hc i pins s σ H E I hf st hg
    subst hP hw hK
    obtain ⟨hz, hTI, ⟨x0, y0, hTO⟩, st1, st2⟩ := st
    obtain ⟨hq1, hq2, hi1, hi2⟩ := hg
    obtain ⟨fp1, P1, St1, D1, m1, l1, to1, of1, p1⟩ := S1.dr rfl hc I hq1
    obtain ⟨fp2, P2, St2, D2, m2, l2, to2, of2, p2⟩ := S2.dr rfl hc I hq2
    have hsep : ZipSep2 (N + 4) (N + 2) (N + 3) N (N + 1) fp1 fp2 := by
      have n1 : ∀ k : Nat, 0 < k → N + k ∉ fp1 := fun k hk hm => by
        rcases l1 _ hm with q | q
        · exact absurd q (Nat.ne_of_gt (Nat.lt_add_of_pos_right hk))
        · exact absurd q (Nat.not_lt_of_le (Nat.le_add_right _ _))
      have n2 : ∀ k : Nat, 1 < k → N + k ∉ fp2 := fun k hk hm => by
        rcases l2 _ hm with q | q
        · exact absurd q (Nat.ne_of_gt (Nat.add_lt_add_left hk N))
        · exact absurd q (Nat.not_lt_of_le (Nat.le_add_right _ _))
      have n3 : N ∉ fp2 := fun hm => by
        rcases l2 _ hm with q | q
        · exact absurd q (Nat.ne_of_lt (Nat.lt_succ_self N))
        · exact absurd q (Nat.lt_irrefl _)
      have ne : ∀ a b : Nat, a ≠ b → N + a ≠ N + b := fun a b h q => h (Nat.add_left_cancel q)
      exact ⟨ne 2 4 (by decide), ne 3 4 (by decide), ne 2 3 (by decide), ne 2 0 (by decide), m1, n1 4 (by decide), n1 3 (by decide), ne 2 1 (by decide), m2, n2 4 (by decide), n2 3 (by decide), n3, n1 1 (by decide)⟩
    have hzl : N + 4 < s.heap.objs.size := Heap.lt_size hz
    refine wpAny_pyNext_zipD2_item hsep D1 D2 hz hTI hTO (to1 i st1) (to2 i st2) hi1 hi2 fun u1 u2 h' tk q1 q2 z' TO' s1' s2' hT hsz hk => ?_
    obtain ⟨x, hx, rx⟩ := p1 i u1 q1
    obtain ⟨y, hy, ry⟩ := p2 i u2 q2
    refine ⟨_, rfl, wpAny_letOwnedTupleGo_zip (s := { s with heap := h', toks := tk }) z' fun h'' z'' sb => ?_⟩
    have hT2 : h''.get? s.heap.objs.size = some { cls := .type "tuple", data := .seq #[u1, u2] } := (sb.2 _ (Nat.ne_of_gt hzl)).trans hT
    have new : ObjOk X.prog X.w (upd H s.heap.objs.size (.tup [x, y])) h'' s.heap.objs.size (.tup [x, y]) :=
      ⟨by show 2 ≤ sizeLine; decide, [u1, u2], .cons rx (.cons ry .nil), ⟨_, hT2, rfl, _, rfl⟩⟩
    have I1 : Inv X pins σ (upd H s.heap.objs.size (.tup [x, y])) { s with heap := h'', toks := tk } :=
      I.turnedNew (t' := tk) (ch := [N + 4, N + 2, N + 3, N, N + 1]) (fun c o hb q => (sb.2 c (fun q' => hb (by simp [q']))).trans (hk c o (fun q' => hb (by simp [q'])) (fun q' => hb (by simp [q'])) (fun q' => hb (by simp [q'])) (fun q' => hb (by simp [q'])) q)) hf (Nat.le_refl _) new
    have sN : h''.get? N = h'.get? N := sb.2 _ hsep.zi1.symm
    have sN1 : h''.get? (N + 1) = h'.get? (N + 1) := sb.2 _ hsep.zi2.symm
    refine ⟨.ref s.heap.objs.size, _, I1, rfl, ⟨_, x, y, rfl, I.hok.fresh (Nat.le_refl _), rfl, hx, hy⟩, ⟨z'', ?_, ⟨u1, u2, ?_⟩, ?_, ?_⟩, fun c hcm => ?_⟩
    · exact (sb.2 _ hsep.TIz).trans (hk _ _ hsep.TIz hsep.TITO hsep.TIi1 hsep.TIi2 hTI)
    · exact (sb.2 _ hsep.TOz).trans TO'
    · exact S1.keep _ _ _ (of1 _ _ s1') fun o q => sN.trans q
    · exact S2.keep _ _ _ (of2 _ _ s2') fun o q => sN1.trans q
    · have hlt : c < s.heap.objs.size := by
        have e' : c = N + 4 ∨ c = N + 2 ∨ c = N + 3 ∨ c = N ∨ c = N + 1 := by simpa using hcm
        have lt : ∀ k : Nat, k ≤ 4 → N + k < s.heap.objs.size := fun k hk => Nat.lt_of_le_of_lt (Nat.add_le_add_left hk N) hzl
        rcases e' with q | q | q | q | q
        · rw [q]; exact hzl
        · rw [q]; exact lt 2 (by decide)
        · rw [q]; exact lt 3 (by decide)
        · rw [q]; exact lt 0 (by decide)
        · rw [q]; exact lt 1 (by decide)
      rw [upd_ne (Nat.ne_of_lt hlt)]
      exact (hf c hcm).1
  done := by
    intro X hP hw hK hc i pins s σ H E I hf st hg
    subst hP hw hK
    obtain ⟨hz, hTI, ⟨x0, y0, hTO⟩, st1, st2⟩ := st
    obtain ⟨hq1, hq2, hi1, hi2, hend⟩ := hg
    obtain ⟨fp1, P1, St1, D1, m1, l1, to1, of1, p1⟩ := S1.dr rfl hc I hq1
    obtain ⟨fp2, P2, St2, D2, m2, l2, to2, of2, p2⟩ := S2.dr rfl hc I hq2
    have hsep : ZipSep2 (N + 4) (N + 2) (N + 3) N (N + 1) fp1 fp2 := by
      have n1 : ∀ k : Nat, 0 < k → N + k ∉ fp1 := fun k hk hm => by
        rcases l1 _ hm with q | q
        · exact absurd q (Nat.ne_of_gt (Nat.lt_add_of_pos_right hk))
        · exact absurd q (Nat.not_lt_of_le (Nat.le_add_right _ _))
      have n2 : ∀ k : Nat, 1 < k → N + k ∉ fp2 := fun k hk hm => by
        rcases l2 _ hm with q | q
        · exact absurd q (Nat.ne_of_gt (Nat.add_lt_add_left hk N))
        · exact absurd q (Nat.not_lt_of_le (Nat.le_add_right _ _))
      have n3 : N ∉ fp2 := fun hm => by
        rcases l2 _ hm with q | q
        · exact absurd q (Nat.ne_of_lt (Nat.lt_succ_self N))
        · exact absurd q (Nat.lt_irrefl _)
      have ne : ∀ a b : Nat, a ≠ b → N + a ≠ N + b := fun a b h q => h (Nat.add_left_cancel q)
      exact ⟨ne 2 4 (by decide), ne 3 4 (by decide), ne 2 3 (by decide), ne 2 0 (by decide), m1, n1 4 (by decide), n1 3 (by decide), ne 2 1 (by decide), m2, n2 4 (by decide), n2 3 (by decide), n3, n1 1 (by decide)⟩
    exact wpAny_pyNext_zipD2_end hsep D1 D2 hz hTI hTO (to1 i st1) (to2 i st2) hi1 hi2 hend fun h' tk hk => ⟨rfl, I.turnedL (t' := tk) (ch := [N + 4, N + 2, N + 3, N, N + 1]) (fun c o hb q =>
      hk c o (fun q' => hb (by simp [q'])) (fun q' => hb (by simp [q'])) (fun q' => hb (by simp [q'])) (fun q' => hb (by simp [q'])) q) hf⟩
  self := fun A i s Q E st h => wpAny_pyIter_zip st.1 h
def iZZ (K : PySem.W.Frag) (ta : TA) : TI := fun σ H R => ta σ H fun vs H1 => ∃ k1 k2 v1 v2 xs ys, vs = [v1, v2] ∧ SrcK K k1 H1 v1 xs ∧ SrcK K k2 H1 v2 ys ∧ R (Itzz K k1 k2 v1 v2 xs ys) H1
theorem pi_zz {X : Cx} {e e2 : Expr} {ta : TA} {p pos tpos : Pos} {elts : List Expr} {kk : Nat} (hg : Gl X "zip") (hm : X.mg "zip" = none) (ha : PA X [e, e2] ta)
    (hs : starEach [e, e2] X.env = (false, eval e X.env) :: starEach [e2] X.env := by rfl) (hpl : (backTo pos (starEach [e2] X.env)).any (·.1) = false := by rfl) :
    PI X (.Tuple elts kk tpos) (.Call (.Name "zip" p) [e, e2] [] pos) (iZZ X.K ta) := by
  refine ⟨fun pins s σ H R I h => ?_⟩
  refine Call_ (ld_blt I hg hm PyProof.Rows.boot_zip (PyProof.Rows.callWith_type1 (thn (ha.run pos pins s σ H _ I h) fun us s1 ⟨vs, H1, I1, r1, q1⟩ => ?_) hs hpl))
  obtain ⟨k1, k2, v1, v2, xs, ys, ex, hq1, hq2, q⟩ := q1
  subst ex
  cases r1 with
  | cons r rr =>
    cases rr with
    | cons r' rr =>
      cases rr
      obtain ⟨o1, C1, IS1, B1, c1, st1, S1⟩ := src_begin I1 hq1 r
      obtain ⟨o2, C2, IS2, B2, c2, st2, S2⟩ := src_begin I1 hq2 r'
      refine zip_begins2 B1 B2 c1 c2 fun h' hz hTI hTO h1 h2 hsz hk => wpAny_pyIter_zip hz ?_
      have I2 : Inv X pins σ H1 { s1 with heap := h' } := I1.kept (t' := s1.toks) hk
      refine ⟨s1.heap.objs.size + 4, [s1.heap.objs.size + 4, s1.heap.objs.size + 2, s1.heap.objs.size + 3, s1.heap.objs.size, s1.heap.objs.size + 1], _, _, H1, rfl, I2, turn_zz (S1 _ (Nat.le_refl _)) (S2 _ (Nat.le_succ _)), ⟨hz, hTI, ⟨_, _, hTO⟩, st1 _ _ h1, st2 _ _ h2⟩, fun c hcm => ?_, q⟩
      have e' : c = s1.heap.objs.size + 4 ∨ c = s1.heap.objs.size + 2 ∨ c = s1.heap.objs.size + 3 ∨ c = s1.heap.objs.size ∨ c = s1.heap.objs.size + 1 := by simpa using hcm
      have hle : s1.heap.objs.size ≤ c := by
        rcases e' with z | z | z | z | z
        · rw [z]; exact Nat.le_add_right _ _
        · rw [z]; exact Nat.le_add_right _ _
        · rw [z]; exact Nat.le_add_right _ _
        · rw [z]; exact Nat.le_refl _
        · rw [z]; exact Nat.le_add_right _ _
      exact I1.fpOk hle (I1.hok.fresh hle)
theorem walk_zz {K : PySem.W.Frag} {k1 k2 : Kd} {v1 v2 : V} {xs ys : List V} : Walk (Itzz K k1 k2 v1 v2 xs ys) (min xs.length ys.length) (fun H => SrcK K k1 H v1 xs ∧ SrcK K k2 H v2 ys) (YPair (fun i => xs[i]?) (fun i => ys[i]?)) := by
  refine ⟨fun i _ hi q => ⟨q.1, q.2, by omega, by omega⟩, fun _ q => ⟨q.1, q.2, by omega, by omega, by omega⟩, fun i H v H' _ q y => ?_⟩
  obtain ⟨T, x, z, h1, h2, h3, h4, h5⟩ := y
  exact ⟨T, x, z, h1, h2, h3, h4, h5⟩
end L2

namespace SL
open PySem L2 Evl
section
variable {K : PySem.W.Frag} {F F' : Fm} {G G' H H' : Hp} {τ σ : List (Option V)} {ε δ : List SD} {v : V} {P : PV} {te ta tb : TE} {tt tu : TT} {ts tw : TS} {D : Ends} {N : St → Hp → Prop} {g : TG} {PT : Bool → List SD → Prop} {tr : TA} {PI : List PyData → List SD → Prop}

/-! ### enumerate of a tuple, zip -/
theorem itOk_enumT {a : Addr} {xs : List V} {ds : List PyData} (sq : SqT K G a xs) (da : DpAll K G xs ds) : ItOk K (IteT K a) G (enumD 0 ds) := by
  refine ⟨_, _, by rw [enumD_len, ← DpAll.len da]; exact walk_enumT, fun G1 H1 e1 e2 => ex_t (Ex.trans e1 e2) sq, ?_⟩
  rintro i H x H2 d hd ⟨T, x1, y1, rfl, hT, rfl, h1, h2⟩ F2 G1 τ ε σ δ hK s e
  rw [enumD_get] at hd
  obtain ⟨d', h3, h4⟩ := DpAll.get da h2
  rw [h3] at hd
  simp only [Option.map_some, Option.some.injEq, Nat.zero_add] at hd
  subst hd
  cases h1
  exact s.pair hT (.int _) (by rw [hK]; exact dpMono e _ _ h4)
theorem iw_enumT (h : EA F tr δ fun rs δ1 => ∃ ds, rs = [.fz (.tuple ds)] ∧ PI (enumD 0 ds) δ1) : Iw F (iEnumT F.K tr) δ PI := fun τ ε G H σ R s q =>
  h τ ε G H σ _ s fun vs rs δ1 G1 H1 ⟨ds, hr, k⟩ e1 el s1 => by
    subst hr
    obtain ⟨x, rfl⟩ := one_of el
    obtain ⟨a, xs, rfl, sq, da⟩ := dp_tup (fz_top s1)
    exact ⟨a, xs, rfl, ex_t s1.w.gh sq, q _ _ δ1 G1 H1 k e1 s1.pop (itOk_enumT sq da)⟩
/-- the items of data that may be walked -/
def itemsD : PyData → Option (List PyData)
  | .list ds => some ds
  | .tuple ds => some ds
  | .str z => some (signsD z)
  | _ => none
theorem src_dp {d : PyData} {ds : List PyData} (h : Dp K G v d) (hi : itemsD d = some ds) : ∃ k xs, SrcK K k G v xs ∧ DpAll K G xs ds := by
  cases d with
  | list es =>
    cases hi
    obtain ⟨a, xs, rfl, sq, da⟩ := dp_lst h
    exact ⟨.l, xs, ⟨a, rfl, sq⟩, da⟩
  | tuple es =>
    cases hi
    obtain ⟨a, xs, rfl, sq, da⟩ := dp_tup h
    exact ⟨.t, xs, ⟨a, rfl, sq⟩, da⟩
  | str z =>
    cases hi
    obtain rfl := dp_str h
    refine ⟨.s, _, ⟨z, rfl, rfl⟩, ?_⟩
    unfold signsD
    generalize z.cps.toList = l
    induction l with
    | nil => exact .nil
    | cons c r ih => exact .cons (.str _) ih
  | _ => cases hi
theorem src_ex {k : Kd} {xs : List V} (e : Ex G G') (h : SrcK K k G v xs) : SrcK K k G' v xs := by
  cases k with
  | l => obtain ⟨a, h1, h2⟩ := h; exact ⟨a, h1, ex_l e h2⟩
  | t => obtain ⟨a, h1, h2⟩ := h; exact ⟨a, h1, ex_t e h2⟩
  | s => exact h
def zipD (ds es : List PyData) : List PyData := List.zipWith (fun d e => .tuple [d, e]) ds es
theorem itOk_zz {k1 k2 : Kd} {v1 v2 : V} {xs ys : List V} {ds es : List PyData} (h1 : SrcK K k1 G v1 xs) (h2 : SrcK K k2 G v2 ys) (da : DpAll K G xs ds) (db : DpAll K G ys es) : ItOk K (Itzz K k1 k2 v1 v2 xs ys) G (zipD ds es) := by
  have el : (zipD ds es).length = min xs.length ys.length := by
    unfold zipD
    rw [List.length_zipWith, DpAll.len da, DpAll.len db]
  refine ⟨fun H => SrcK K k1 H v1 xs ∧ SrcK K k2 H v2 ys, _, by rw [el]; exact walk_zz, fun G1 H1 e1 e2 => ⟨src_ex (Ex.trans e1 e2) h1, src_ex (Ex.trans e1 e2) h2⟩, ?_⟩
  rintro i H x H2 d hd ⟨T, x1, y1, rfl, hT, rfl, q1, q2⟩ F2 G1 τ ε σ δ hK s e
  obtain ⟨d1, a1, b1⟩ := DpAll.get da q1
  obtain ⟨d2, a2, b2⟩ := DpAll.get db q2
  have : d = .tuple [d1, d2] := by
    unfold zipD at hd
    rw [List.getElem?_zipWith, a1, a2] at hd
    simpa using hd.symm
  subst this
  exact s.pair hT (by rw [hK]; exact dpMono e _ _ b1) (by rw [hK]; exact dpMono e _ _ b2)
theorem iw_zip (h : EA F tr δ fun rs δ1 => ∃ d e ds es, rs = [.fz d, .fz e] ∧ itemsD d = some ds ∧ itemsD e = some es ∧ PI (zipD ds es) δ1) : Iw F (iZZ F.K tr) δ PI := fun τ ε G H σ R s q =>
  h τ ε G H σ _ s fun vs rs δ1 G1 H1 ⟨d, e, ds, es, hr, i1, i2, k⟩ e1 el s1 => by
    subst hr
    obtain ⟨x, y, rfl⟩ := two_of el
    obtain ⟨k1, xs, a1, b1⟩ := src_dp (fz_top s1) i1
    obtain ⟨k2, ys, a2, b2⟩ := src_dp (fz_top s1.pop) i2
    exact ⟨k1, k2, x, y, xs, ys, rfl, src_ex s1.w.gh a1, src_ex s1.w.gh a2, q _ _ δ1 G1 H1 k e1 s1.pop.pop (itOk_zz a1 a2 b1 b2)⟩

/-! ### a def whose first argument is an owned list that it may change -/
abbrev WM := List PyData → List PyData → (SD → List PyData → Prop) → Prop
def SpM (K : PySem.W.Frag) (W : WM) : Sp := fun vs H Q _ => ∃ G p xs ds0 ws as post, vs = .ref p :: ws ∧ Ex G H ∧ G p = none ∧ H p = some (.lst xs) ∧ DpAll K G xs ds0 ∧ DpAll K G ws as ∧ W ds0 as post ∧
  ∀ r ds1, post r ds1 → ∀ v G' H', S2 ⟨K, G, H, [p]⟩ G' H' [some v] [r] [some (.ref p)] [.ol p ds1] → Q v H'
theorem S2.callM {G1 H1 : Hp} {r : SD} {p : Addr} {j : Nat} {ds0 ds1 : List PyData} (s : S2 F G H τ ε σ δ) (hj : δ[j]? = some (.ol p ds0)) (c : S2 ⟨F.K, G, H, [p]⟩ G1 H1 [some v] [r] [some (.ref p)] [.ol p ds1]) : S2 F G1 H1 (some v :: τ) (r :: ε) σ (δ.set j (.ol p ds1)) := by
  have w := c.w
  obtain ⟨l, q1, q2⟩ := fps_set_perm (s' := SD.ol p ds1) hj
  have q1' : (fps δ).Perm (p :: l) := q1
  have q2' : (fps (δ.set j (.ol p ds1))).Perm (p :: l) := q2
  have hp : p ∈ fps δ := q1'.mem_iff.mpr List.mem_cons_self
  have nd := List.nodup_append.mp s.w.nd
  have hk : ∀ a ∈ fps ε ++ fps δ, a ≠ p → H1 a = H a := fun a ha hne => by
    obtain ⟨_, o, e⟩ := s.w.own a ha
    rw [e]
    exact w.fr a o e (by simpa using hne)
  have new : ∀ a ∈ r.fp, H a = none := fun a ha => by
    rcases w.of a (by simp [fps, ha]) with q | q
    · have z : a = p := by simpa using q
      have n2 := w.nd
      have n3 : (r.fp ++ [p]).Nodup := by simpa [fps, SD.fp] using n2
      exact absurd rfl ((List.nodup_append.mp n3).2.2 a ha p (by simp) |> fun f => z ▸ f)
    · exact q
  have gnew : ∀ a ∈ fps ε ++ fps δ, G1 a = none := fun a ha => by
    obtain ⟨gn, o, e⟩ := s.w.own a ha
    cases q1 : G1 a with
    | none => rfl
    | some u =>
      rcases w.nw a u q1 with z | z
      · rw [show G a = some u from z] at gn; cases gn
      · rw [show H a = none from z] at e; cases e
  have hq : ∀ a, a ∈ fps (δ.set j (.ol p ds1)) ↔ a ∈ fps δ := fun a => (q2'.trans q1'.symm).mem_iff
  obtain ⟨_, xs1, hx1, hd1⟩ := c.s.1
  have pH1 : ∃ o, H1 p = some o := ⟨_, hx1⟩
  refine ⟨⟨w.gh, ?_, ?_, Ex.trans s.w.g0 w.g0, ?_, ?_, ?_, ?_⟩, ⟨c.top, oks_mono w.g0 (fun a ha => hk a (List.mem_append_left _ ha) (fun z => nd.2.2 a ha p hp z)) s.t⟩, ?_⟩
  · intro a ha
    have ha' : a ∈ r.fp ++ (fps ε ++ fps (δ.set j (.ol p ds1))) := by rw [← List.append_assoc]; exact ha
    rcases List.mem_append.mp ha' with q | q
    · exact w.own a (by simp [fps, q])
    · have q' : a ∈ fps ε ++ fps δ := by
        rcases List.mem_append.mp q with z | z
        · exact List.mem_append_left _ z
        · exact List.mem_append_right _ ((hq a).mp z)
      refine ⟨gnew a q', ?_⟩
      by_cases z : a = p
      · rw [z]; exact pH1
      · rw [hk a q' z]; exact (s.w.own a q').2
  · show ((r.fp ++ fps ε) ++ fps (δ.set j (.ol p ds1))).Nodup
    rw [List.append_assoc]
    have perm : (fps ε ++ fps (δ.set j (.ol p ds1))).Perm (fps ε ++ fps δ) := List.Perm.append_left _ (q2'.trans q1'.symm)
    refine List.nodup_append.mpr ⟨?_, perm.nodup_iff.mpr s.w.nd, ?_⟩
    · have n2 := w.nd
      have n3 : (r.fp ++ [p]).Nodup := by simpa [fps, SD.fp] using n2
      exact (List.nodup_append.mp n3).1
    · intro a ha b hb z
      subst z
      obtain ⟨_, o, e⟩ := s.w.own a (perm.mem_iff.mp hb)
      rw [new a ha] at e; cases e
  · intro a o e hi
    have e2 := s.w.fr a o e hi
    by_cases z : a = p
    · subst z
      rcases s.w.of a (List.mem_append_right _ hp) with q | q
      · exact (hi q).elim
      · rw [q] at e; cases e
    · exact w.fr a o e2 (by simpa using z)
  · intro a o e
    rcases w.nw a o e with z | z
    · exact s.w.nw a o z
    · exact .inr (s.w.h0none z)
  · intro a ha
    have ha' : a ∈ r.fp ++ (fps ε ++ fps (δ.set j (.ol p ds1))) := by rw [← List.append_assoc]; exact ha
    rcases List.mem_append.mp ha' with q | q
    · exact .inr (s.w.h0none (new a q))
    · refine s.w.of a ?_
      rcases List.mem_append.mp q with z | z
      · exact List.mem_append_left _ z
      · exact List.mem_append_right _ ((hq a).mp z)
  · intro a ha
    obtain ⟨o, e⟩ := s.w.io a ha
    by_cases z : a = p
    · rw [z]; exact pH1
    · exact ⟨o, w.fr a o e (by simpa using z)⟩
  · have s1 : Oks F.K G1 H σ δ := oks_mono w.g0 (fun _ _ => rfl) s.s
    obtain ⟨ov, e1, ok1⟩ := s.slot hj
    obtain ⟨vv, rfl⟩ := sd_some (by intro z; cases z) ok1
    obtain ⟨rfl, _⟩ := ok1
    refine oks_mut s1 nd.2.1 hj (fun a hm ha => ?_) (fun ov e => ?_)
    · have hne : a ≠ p := by simpa [SD.fp] using ha
      exact hk a (List.mem_append_right _ hm) hne
    · rw [e1] at e
      cases e
      exact ⟨rfl, xs1, hx1, hd1⟩
theorem ev_callM {W : WM} {X0 : XK} (h : EA F tr δ fun rs δ1 => ∃ p as j ds0, rs = .al p :: as.map SD.fz ∧ δ1[j]? = some (.ol p ds0) ∧ W ds0 as fun r ds1 => (∀ a ∈ r.fp, a ∉ F.io) → P r (δ1.set j (.ol p ds1))) : E F (tCall (SpM F.K W) [] X0 tr) δ P := fun τ ε G H σ Q s q =>
  h τ ε G H σ _ s fun vs rs δ1 G1 H1 ⟨p, as, j, ds0, hr, hj, k⟩ e1 el s1 => by
    subst hr
    rw [List.append_nil]
    have sp := Oks.split (by simpa using el) s1.t
    have s0 := S2.popN el s1
    obtain ⟨ov, e2, ok1⟩ := s1.slot hj
    obtain ⟨vv, rfl⟩ := sd_some (by intro z; cases z) ok1
    obtain ⟨rfl, xs, hx, hd⟩ := ok1
    match vs, el, sp with
    | w :: ws, el, sp =>
      obtain ⟨hw, hws⟩ := sp.1
      have hw' : w = .ref p := hw
      subst hw'
      have gp : G1 p = none := (s1.w.own p (List.mem_append_right _ (fps_mem hj (by simp [SD.fp])))).1
      refine ⟨G1, p, xs, ds0, ws, as, _, rfl, s1.w.gh, gp, hx, hd, oks_fz hws, k, fun r ds1 pp v G' H' c => ?_⟩
      refine q v r _ G' H' (pp fun a ha hi => ?_) (Ex.trans e1 c.w.g0) (s0.callM hj c)
      obtain ⟨o, e⟩ := s1.w.io a hi
      rcases c.w.of a (by simp [fps, ha]) with z | z
      · have n2 := c.w.nd
        have n3 : (r.fp ++ [p]).Nodup := by simpa [fps, SD.fp] using n2
        have z' : a = p := by simpa using z
        exact (List.nodup_append.mp n3).2.2 a ha p (by simp) z'
      · rw [show H1 a = none from z] at e; cases e
theorem fps_no (n : Nat) : fps (List.replicate n SD.no) = [] := by
  induction n with
  | zero => rfl
  | succ n ih => exact ih
/-- the body of a def that may change its first argument -/
theorem bodyM {W : WM} {N : List Str} {vs : List V} {Q : VK} {X0 : XK} {t : TS} (h : SpM K W vs H Q X0)
    (hb : ∀ F p ds0 as post, F.K = K → F.io = [p] → W ds0 as post → (∀ r δ ds1, δ[0]? = some (.ol p ds1) → post r ds1 → Ro F Q r δ) → Rn F t (startD N.length (.ol p ds0 :: as.map SD.fz)) { nx := fun _ H' => Q .non H', rt := Q }) : t { nx := fun _ H' => Q .non H', rt := Q } (L2.start N vs) H := by
  obtain ⟨G, p, xs, ds0, ws, as, post, rfl, ex, gp, hp, hd, da, w, k⟩ := h
  refine hb ⟨K, G, H, [p]⟩ p ds0 as post rfl rfl w (fun r δ ds1 h0 pp v G' H' σ s => k r ds1 pp v G' H' ?_) G H _ ?_
  · match δ, h0, s with
    | d :: δ', h0, s =>
      have e : d = .ol p ds1 := by simpa using h0
      subst e
      have s0 := s.s
      match σ, s0 with
      | ov :: σ', s0 =>
        obtain ⟨vv, rfl⟩ := sd_some (by intro z; cases z) s0.1
        obtain ⟨rfl, x1⟩ := s0.1
        refine ⟨s.w.sub ?_, s.t, ⟨⟨rfl, x1⟩, trivial⟩⟩
        show (fps [r] ++ ([p] ++ [])).Sublist (fps [r] ++ ([p] ++ fps δ'))
        exact List.Sublist.append_left (List.Sublist.append_left (List.nil_sublist _) _) _
  · have hl : fps (startD N.length (.ol p ds0 :: as.map SD.fz)) = [p] := by
      unfold startD
      rw [fps_app, fps_no]
      show ([p] ++ fps (as.map SD.fz)) ++ [] = [p]
      rw [fps_fz]
      rfl
    refine ⟨?_, trivial, ?_⟩
    · rw [hl]
      refine ⟨ex, fun a ha => ?_, by simp [fps], Ex.refl _, fun a o e _ => e, fun a o e => .inl e, fun a ha => .inl (by simpa [fps] using ha), fun a ha => ?_⟩
      · have : a = p := by simpa [fps] using ha
        rw [this]; exact ⟨gp, _, hp⟩
      · have : a = p := by simpa using ha
        rw [this]; exact ⟨_, hp⟩
    · unfold L2.start startD
      have e1 : (SD.ol p ds0 :: as.map SD.fz).length = (V.ref p :: ws).length := by simp [DpAll.len da]
      rw [e1]
      exact Oks.app (τ := (V.ref p :: ws).map some) ⟨⟨rfl, xs, hp, hd⟩, oks_ofDp da⟩ (oks_nones _)

/-! ### builtins -/
def rLenQ (K : PySem.W.Frag) : List V → Hp → VK → Prop := fun xs H Q => ∃ p ys, xs = [.ref p] ∧ (SqL K H p ys ∨ SqT K H p ys) ∧ Q (.int ys.length) H
def rTupQ (K : PySem.W.Frag) : List V → Hp → VK → Prop := fun xs H Q => ∃ p ys, xs = [.ref p] ∧ ((SqL K H p ys ∧ ∀ l, H l = none → Q (.ref l) (upd H l (.tup ys))) ∨ (SqT K H p ys ∧ Q (.ref p) H))
def rLstQ (K : PySem.W.Frag) : List V → Hp → VK → Prop := fun xs H Q => ∃ p ys, xs = [.ref p] ∧ (SqL K H p ys ∨ SqT K H p ys) ∧ ∀ l, H l = none → Q (.ref l) (upd H l (.lst ys))
def rLenX : List V → Hp → VK → Prop := fun xs H Q => ∃ z, xs = [.str z] ∧ z.length ≤ sizeLine ∧ Q (.int z.length) H
def rIntQ : List V → Hp → VK → Prop := fun xs H Q => (∃ i, xs = [.int i] ∧ Q (.int i) H) ∨ ∃ k, xs = [.bl k] ∧ Q (.int (if k then 1 else 0)) H
def rAbsQ : List V → Hp → VK → Prop := fun xs H Q => ∃ i, xs = [.int i] ∧ Q (.int (if i < 0 then -i else i)) H
theorem oa_one {r : List V → Hp → VK → Prop} {d : SD} (h : O1 F (fun x H Q => r [x] H Q) d δ P) : OA F r [d] δ P := fun τ ε G H σ Q vs el s q => by
  obtain ⟨x, rfl⟩ := one_of el
  exact h τ ε G H σ Q x s q
theorem b_lenL {ds : List PyData} (k : P (.fz (.int (ds.length : Int))) δ) : OA F (rLenQ F.K) [.fz (.list ds)] δ P := fun τ ε G H σ Q vs el s q => by
  obtain ⟨x, rfl⟩ := one_of el
  obtain ⟨a, xs, rfl, sq, da⟩ := dp_lst (fz_top s)
  refine ⟨a, xs, rfl, .inl (ex_l s.w.gh sq), ?_⟩
  rw [DpAll.len da]
  exact q _ _ δ G H k (Ex.refl _) (s.pop.push rfl (.int _))
theorem b_lenT {ds : List PyData} (k : P (.fz (.int (ds.length : Int))) δ) : OA F (rLenQ F.K) [.fz (.tuple ds)] δ P := fun τ ε G H σ Q vs el s q => by
  obtain ⟨x, rfl⟩ := one_of el
  obtain ⟨a, xs, rfl, sq, da⟩ := dp_tup (fz_top s)
  refine ⟨a, xs, rfl, .inr (ex_t s.w.gh sq), ?_⟩
  rw [DpAll.len da]
  exact q _ _ δ G H k (Ex.refl _) (s.pop.push rfl (.int _))
theorem b_lenO {p : Addr} {j : Nat} {ds : List PyData} (hj : δ[j]? = some (.ol p ds)) (k : P (.fz (.int (ds.length : Int))) δ) : OA F (rLenQ F.K) [.al p] δ P := fun τ ε G H σ Q vs el s q => by
  obtain ⟨x, rfl⟩ := one_of el
  have hx : x = .ref p := s.top
  subst hx
  obtain ⟨ov, _, ok⟩ := s.slot hj
  obtain ⟨w, rfl⟩ := sd_some (by intro z; cases z) ok
  obtain ⟨rfl, xs, hx, hd⟩ := ok
  refine ⟨p, xs, rfl, .inl (SqL.of hx), ?_⟩
  rw [DpAll.len hd]
  exact q _ _ δ G H k (Ex.refl _) (s.pop.push rfl (.int _))
theorem b_lenS {z : Str} (hz : z.length ≤ sizeLine) (k : P (.fz (.int (z.length : Int))) δ) : OA F rLenX [.fz (.str z)] δ P := fun τ ε G H σ Q vs el s q => by
  obtain ⟨x, rfl⟩ := one_of el
  obtain rfl := dp_str (fz_top s)
  exact ⟨z, rfl, hz, q _ _ δ G H k (Ex.refl _) (s.pop.push rfl (.int _))⟩
/-- tuple(list): a new tuple -/
theorem b_tupL {ds : List PyData} (k : P (.fz (.tuple ds)) δ) : OA F (rTupQ F.K) [.fz (.list ds)] δ P := fun τ ε G H σ Q vs el s q => by
  obtain ⟨x, rfl⟩ := one_of el
  obtain ⟨a, xs, rfl, sq, da⟩ := dp_lst (fz_top s)
  refine ⟨a, xs, rfl, .inl ⟨ex_l s.w.gh sq, fun l hl => ?_⟩⟩
  have ex := Ex.new (o := .tup xs) (s.w.gnone hl)
  exact q _ _ δ _ _ k ex ((s.pop.newF hl).push rfl (Dp.tup upd_same (dpAllMono ex _ _ da)))
theorem b_tupT {ds : List PyData} (k : P (.fz (.tuple ds)) δ) : OA F (rTupQ F.K) [.fz (.tuple ds)] δ P := fun τ ε G H σ Q vs el s q => by
  obtain ⟨x, rfl⟩ := one_of el
  obtain ⟨a, xs, rfl, sq, da⟩ := dp_tup (fz_top s)
  exact ⟨a, xs, rfl, .inr ⟨ex_t s.w.gh sq, q _ _ δ _ _ k (Ex.refl _) s⟩⟩
/-- tuple(list) of an owned list on the stack -/
theorem b_tupO {p : Addr} {ds : List PyData} (k : P (.fz (.tuple ds)) δ) : OA F (rTupQ F.K) [.ol p ds] δ P := fun τ ε G H σ Q vs el s q => by
  obtain ⟨x, rfl⟩ := one_of el
  obtain ⟨rfl, xs, hx, da⟩ := s.top
  refine ⟨p, xs, rfl, .inl ⟨SqL.of hx, fun l hl => ?_⟩⟩
  have ex := Ex.new (o := .tup xs) (s.w.gnone hl)
  exact q _ _ δ _ _ k ex ((s.pop.newF hl).push rfl (Dp.tup upd_same (dpAllMono ex _ _ da)))
/-- tuple(x), x an owned list in a slot -/
theorem b_tupA {p : Addr} {j : Nat} {ds : List PyData} (hj : δ[j]? = some (.ol p ds)) (k : P (.fz (.tuple ds)) δ) : OA F (rTupQ F.K) [.al p] δ P := fun τ ε G H σ Q vs el s q => by
  obtain ⟨x, rfl⟩ := one_of el
  have hx : x = .ref p := s.top
  subst hx
  obtain ⟨ov, _, ok⟩ := s.slot hj
  obtain ⟨w, rfl⟩ := sd_some (by intro z; cases z) ok
  obtain ⟨rfl, xs, hx, da⟩ := ok
  refine ⟨p, xs, rfl, .inl ⟨SqL.of hx, fun l hl => ?_⟩⟩
  have ex := Ex.new (o := .tup xs) (s.w.gnone hl)
  exact q _ _ δ _ _ k ex ((s.pop.newF hl).push rfl (Dp.tup upd_same (dpAllMono ex _ _ da)))
/-- list(x): a new list, owned -/
theorem b_list {d : PyData} {ds : List PyData} (hd : d = .list ds ∨ d = .tuple ds) (k : ∀ p, p ∉ F.io → P (.ol p ds) δ) : OA F (rLstQ F.K) [.fz d] δ P := fun τ ε G H σ Q vs el s q => by
  obtain ⟨x, rfl⟩ := one_of el
  obtain ⟨a, xs, hx, sq, da⟩ : ∃ a xs, x = .ref a ∧ (SqL F.K H a xs ∨ SqT F.K H a xs) ∧ DpAll F.K G xs ds := by
    rcases hd with rfl | rfl
    · obtain ⟨a, xs, h1, sq, da⟩ := dp_lst (fz_top s)
      exact ⟨a, xs, h1, .inl (ex_l s.w.gh sq), da⟩
    · obtain ⟨a, xs, h1, sq, da⟩ := dp_tup (fz_top s)
      exact ⟨a, xs, h1, .inr (ex_t s.w.gh sq), da⟩
  subst hx
  refine ⟨a, xs, rfl, sq, fun l hl => ?_⟩
  have hio : l ∉ F.io := fun z => by
    obtain ⟨o, e⟩ := s.w.io l z
    rw [hl] at e; cases e
  exact q _ _ δ _ _ (k l hio) (Ex.refl _) (s.pop.newO hl rfl ⟨rfl, xs, upd_same, da⟩)
/-- xs.append(e), xs an owned list in slot j -/
theorem ev_append (h : E F ta δ fun r δ1 => ∃ p j ds0, r = .al p ∧ δ1[j]? = some (.ol p ds0) ∧ E F te δ1 fun r2 δ2 => ∃ d ds, r2 = .fz d ∧ δ2[j]? = some (.ol p ds) ∧ ds.length < 1000000 ∧ P (.fz .none) (δ2.set j (.ol p (ds ++ [d])))) :
    E F (tBM F.K "list" rAppend ta (tCons te tNil)) δ P := fun τ ε G H σ Q s q =>
  h τ ε G H σ _ s fun x r δ1 G1 H1 ⟨p, j, ds0, hr, hj, h1⟩ e1 s1 => by
    subst hr
    have hx : x = .ref p := s1.top
    subst hx
    obtain ⟨ov, _, ok⟩ := s1.slot hj
    obtain ⟨w, rfl⟩ := sd_some (by intro z; cases z) ok
    obtain ⟨rfl, xs, hx, _⟩ := ok
    refine ⟨.inl ⟨rfl, xs, SqL.of hx⟩, ?_⟩
    refine h1 _ _ G1 H1 σ _ s1.pop fun y r2 δ2 G2 H2 ⟨d, ds, hr, hj2, hl, k⟩ e2 s2 => ?_
    subst hr
    have hy := fz_top s2
    obtain ⟨ov, e3, ok⟩ := s2.slot hj2
    obtain ⟨w, rfl⟩ := sd_some (by intro z; cases z) ok
    obtain ⟨rfl, ys, hys, hd⟩ := ok
    have hl2 := DpAll.len hd
    refine ⟨p, ys, y, rfl, rfl, hys, Nat.lt_of_lt_of_le (show ys.length < 1000000 by omega) (by decide), ?_⟩
    refine q _ _ _ G2 _ k (Ex.trans e1 e2) ((s2.pop.mut (o := .lst (ys ++ [y])) (new := .ol p (ds ++ [d])) hj2 rfl rfl fun ov e => ?_).push rfl .non)
    rw [e3] at e
    cases e
    exact ⟨rfl, _, upd_same, DpAll.app hd (SL.DpAll.one hy)⟩
/-- xs[i] = e, xs an owned list in slot j -/
theorem rn_setL {to ti : TE} (h : E F te δ fun r δ1 => ∃ d, r = .fz d ∧ E F to δ1 fun r2 δ2 => ∃ p, r2 = .al p ∧ E F ti δ2 fun r3 δ3 => ∃ i j k ds, r3 = .fz (.int i) ∧ δ3[j]? = some (.ol p ds) ∧ ixN ds.length i = some k ∧ Nx F D.nx (δ3.set j (.ol p (ds.set k d)))) :
    Rn F (tAsg te (gSub to ti rSetL)) δ D := fun G H σ s => h [] [] G H σ _ s fun v r δ1 G1 H1 ⟨d, hr, h1⟩ _ s1 => by
  subst hr
  refine h1 _ _ G1 H1 σ _ s1 fun o r2 δ2 G2 H2 ⟨p, hr2, h2⟩ e2 s2 => ?_
  subst hr2
  have ho : o = .ref p := s2.top
  refine h2 _ _ G2 H2 σ _ s2 fun iv r3 δ3 G3 H3 ⟨i, j, k, ds, hr3, hj, hk, nx⟩ e3 s3 => ?_
  subst hr3
  obtain rfl := dp_int (fz_top s3)
  obtain ⟨ov, e4, ok⟩ := s3.slot hj
  obtain ⟨w, rfl⟩ := sd_some (by intro z; cases z) ok
  obtain ⟨rfl, ys, hys, hd⟩ := ok
  have hv := fz_top s3.pop.pop
  refine ⟨p, ys, i, k, ho, rfl, hys, by rw [DpAll.len hd]; exact hk, ?_⟩
  refine nx G3 _ σ (s3.pop.pop.pop.mut (o := .lst (ys.set k v)) (new := .ol p (ds.set k d)) hj rfl rfl fun ov e => ?_)
  rw [e4] at e
  cases e
  exact ⟨rfl, _, upd_same, DpAll.set hv k hd⟩
end
end SL

namespace SL
open PySem L2 Evl
theorem cxK {CX : CXT} {P : Program} {w : World} {K : PySem.W.Frag} {mg : Str → Option Value} {base : Heap} {N : List Str} {q : Str} {sc : Scope} {f : Addr} {cdv : Value} {A : Around} {outer : List Env} {s : Shared} {H : Hp} {E : XK} : (cxOf CX P w K mg base N q sc f cdv A outer s H E).nox.K = K := rfl
theorem cxK' {CX : CXT} {P : Program} {w : World} {K : PySem.W.Frag} {mg : Str → Option Value} {base : Heap} {N : List Str} {q : Str} {sc : Scope} {f : Addr} {cdv : Value} {A : Around} {outer : List Env} {s : Shared} {H : Hp} {E : XK} : (cxOf CX P w K mg base N q sc f cdv A outer s H E).K = K := rfl
section
variable {K : PySem.W.Frag} {F F' : Fm} {G G' H H' : Hp} {τ σ : List (Option V)} {ε δ : List SD} {v : V} {P : PV} {te ta tb : TE} {tt tu : TT} {ts tw : TS} {D : Ends} {N : St → Hp → Prop} {g : TG} {PT : Bool → List SD → Prop} {tr : TA} {PI : List PyData → List SD → Prop}
theorem b_abs {i : Int} (k : P (.fz (.int (if i < 0 then -i else i))) δ) : OA F rAbsQ [.fz (.int i)] δ P := fun τ ε G H σ Q vs el s q => by
  obtain ⟨x, rfl⟩ := one_of el
  obtain rfl := dp_int (fz_top s)
  exact ⟨i, rfl, q _ _ δ G H k (Ex.refl _) (s.pop.push rfl (.int _))⟩
theorem b_int {i : Int} (k : P (.fz (.int i)) δ) : OA F rIntQ [.fz (.int i)] δ P := fun τ ε G H σ Q vs el s q => by
  obtain ⟨x, rfl⟩ := one_of el
  obtain rfl := dp_int (fz_top s)
  exact .inl ⟨i, rfl, q _ _ δ G H k (Ex.refl _) (s.pop.push rfl (.int _))⟩
theorem b_intb {i : Bool} (k : P (.fz (.int (if i then 1 else 0))) δ) : OA F rIntQ [.fz (.bool i)] δ P := fun τ ε G H σ Q vs el s q => by
  obtain ⟨x, rfl⟩ := one_of el
  obtain rfl := dp_bl (fz_top s)
  exact .inr ⟨i, rfl, q _ _ δ G H k (Ex.refl _) (s.pop.push rfl (.int _))⟩
/-- an item, of whatever kind -/
theorem o_sqL {ds : List PyData} {i : Int} {d : PyData} (e : atI ds i = some d) (k : P (.fz d) δ) : O2 F (rIx F.K) (.fz (.list ds)) (.fz (.int i)) δ P := fun τ ε G H σ Q x y s q => .inl (o_ixL e k τ ε G H σ Q x y s q)
theorem o_sqT {ds : List PyData} {i : Int} {d : PyData} (e : atI ds i = some d) (k : P (.fz d) δ) : O2 F (rIx F.K) (.fz (.tuple ds)) (.fz (.int i)) δ P := fun τ ε G H σ Q x y s q => .inr (.inl (o_ixT e k τ ε G H σ Q x y s q))
theorem o_sqO {ds : List PyData} {i : Int} {d : PyData} {p : Addr} {j : Nat} (hj : δ[j]? = some (.ol p ds)) (e : atI ds i = some d) (k : P (.fz d) δ) : O2 F (rIx F.K) (.al p) (.fz (.int i)) δ P := fun τ ε G H σ Q x y s q => .inl (o_ixO hj e k τ ε G H σ Q x y s q)
end
end SL

/-! defs, methods and classes that may be called by their names. -/
namespace SL
open PySem L2
structure Cal (P : Program) (w : World) (K : PySem.W.Frag) (mg : Str → Option Value) (base : Heap) (k : Nat) (x : Str) (sp : Sp) : Prop where
  ex : ∃ (f : Addr) (fd : FuncData) (ps : List Str), FnOk P w K mg base CX0 k f fd ps sp ∧ mg x = some (.ref f) ∧ PySem.W.keepIn K (.ref f) = true ∧ Binds K fd ps []
structure Met (P : Program) (w : World) (K : PySem.W.Frag) (mg : Str → Option Value) (base : Heap) (k : Nat) (C : Addr) (m : Str) (sp : Sp) : Prop where
  ex : ∃ (f : Addr) (fd : FuncData) (ps : List Str), Cls K C ∧ Meth K C m f ∧ FnOk P w K mg base CX0 k f fd ps sp ∧ Binds K fd ps []
structure Mak (P : Program) (w : World) (K : PySem.W.Frag) (mg : Str → Option Value) (base : Heap) (k : Nat) (x : Str) (C : Addr) (sp : Sp) : Prop where
  ex : ∃ (f : Addr) (fd : FuncData) (ps : List Str), Mk K C f ∧ FnOk P w K mg base CX0 k f fd ps sp ∧ mg x = some (.ref C) ∧ Binds K fd ps []
section
variable {X : Cx} {k j : Nat} {C : Addr} {x m : Str} {sp : Sp} {p pos apos : Pos} {e o : Expr} {es : List Expr} {ta : TE} {t : TA}
theorem pe_c (c : Cal X.prog X.w X.K X.mg X.base k x sp) (hr : Room j X.A) (hk : k ≤ j) (hg : Gl X x) (ha : PA X (e :: es) t)
    (hdb : (x == ("__debug__" : Str)) = false := by decide) (he : starEach (e :: es) X.env = (false, eval e X.env) :: starEach es X.env := by rfl) (hpl : (backTo pos (starEach es X.env)).any (·.1) = false := by rfl) :
    PE X (.Call (.Name x p) (e :: es) [] pos) (tCall sp [] E0 t) := by
  obtain ⟨f, fd, ps, F, hm, kp, b⟩ := c.ex
  exact pe_call F (hr.mono hk) hg hm kp b .nil pass0 ha hdb he hpl
theorem pe_c0 (c : Cal X.prog X.w X.K X.mg X.base k x sp) (hr : Room j X.A) (hk : k ≤ j) (hg : Gl X x) (hdb : (x == ("__debug__" : Str)) = false := by decide) :
    PE X (.Call (.Name x p) [] [] pos) (tCall sp [] E0 tNil) := by
  obtain ⟨f, fd, ps, F, hm, kp, b⟩ := c.ex
  exact pe_call0 F (hr.mono hk) hg hm kp b .nil pass0 hdb
theorem pe_mk (c : Mak X.prog X.w X.K X.mg X.base k x C sp) (hr : Room j X.A) (hk : k + 1 ≤ j) (hg : Gl X x) (ha : PA X (e :: es) t)
    (hdb : (x == ("__debug__" : Str)) = false := by decide) (he : starEach (e :: es) X.env = (false, eval e X.env) :: starEach es X.env := by rfl) (hpl : (backTo pos (starEach es X.env)).any (·.1) = false := by rfl) :
    PE X (.Call (.Name x p) (e :: es) [] pos) (tMake C sp [] E0 t) := by
  obtain ⟨f, fd, ps, M, F, hm, b⟩ := c.ex
  exact pe_make M F (hr.mono hk) hg hm b .nil pass0 ha hdb he hpl
theorem pe_mt {pl : Sem Bool} (c : Met X.prog X.w X.K X.mg X.base k C m sp) (hr : Room j X.A) (hk : k ≤ j) (he : PE X o ta) (ha : PA X (e :: es) t)
    (hst : starEach (e :: es) X.env = (false, eval e X.env) :: starEach es X.env := by rfl) (hpl : (backTo pos (starEach es X.env)).any (·.1) = false := by rfl)
    (ht : eval (.Call (.Attribute o m apos) (e :: es) [] pos) X.env = (do
      let ov ← eval o X.env
      standAt apos.atName
      let (f, first) ← holding [ov] (getMethod ov m pl)
      callWith pos f first (backTo pos (starEach (e :: es) X.env)) (backToKw pos (keywordEach [] X.env))) := by rfl) :
    PE X (.Call (.Attribute o m apos) (e :: es) [] pos) (tMeth C m sp [] E0 ta t) := by
  obtain ⟨f, fd, ps, hc, hm, F, b⟩ := c.ex
  exact pe_meth (pl := pl) he hc hm F (hr.mono hk) b .nil pass0 ha hst hpl ht
theorem pe_mt0 {pl : Sem Bool} (c : Met X.prog X.w X.K X.mg X.base k C m sp) (hr : Room j X.A) (hk : k ≤ j) (he : PE X o ta)
    (ht : eval (.Call (.Attribute o m apos) [] [] pos) X.env = (do
      let ov ← eval o X.env
      standAt apos.atName
      let (f, first) ← holding [ov] (getMethod ov m pl)
      callWith pos f first (backTo pos (starEach [] X.env)) (backToKw pos (keywordEach [] X.env))) := by rfl) :
    PE X (.Call (.Attribute o m apos) [] [] pos) (tMeth C m sp [] E0 ta tNil) := by
  obtain ⟨f, fd, ps, hc, hm, F, b⟩ := c.ex
  exact pe_meth0 (pl := pl) he hc hm F (hr.mono hk) b .nil pass0 ht
/-- a constant of the module -/
theorem pe_gc {v : V} (hg : Gl X x) (h : ∃ u, X.mg x = some u ∧ RelV v u) (hd : (x == ("__debug__" : Str)) = false := by decide) : PE X (.Name x pos) (tC v) := by
  obtain ⟨u, h1, h2⟩ := h
  exact pe_glob hg h1 h2 hd
end
end SL

/-! the rules whose readings name the written part, with that part told apart (so that they serve within comprehensions' blocks). -/
namespace SL
open PySem L2
section
variable {X : Cx} {K : PySem.W.Frag} {tg e o value : Expr} {f : Str} {pos pos' p apos cpos tpos : Pos} {ta te tl tv to : TE} {t : TA} {es elts : List Expr} {kk : Nat}
theorem ix_list' (K : PySem.W.Frag) (hK : X.K = K := by rfl) : IxR X (rIxL K) := hK ▸ ix_list
theorem ix_tup' (K : PySem.W.Frag) (hK : X.K = K := by rfl) : IxR X (rIxT K) := hK ▸ ix_tup
theorem ix_seq' (K : PySem.W.Frag) (hK : X.K = K := by rfl) : IxR X (rIx K) := hK ▸ ix_seq
theorem sl_list' (K : PySem.W.Frag) (hK : X.K = K := by rfl) : SlR X (rSlL K) := hK ▸ sl_list
theorem sl_tupA' (K : PySem.W.Frag) (hK : X.K = K := by rfl) : SlR X (rSlA K) := hK ▸ sl_tupA
theorem op_in_seq' (K : PySem.W.Frag) (hK : X.K = K := by rfl) : OpR X (compareOp .In) (rIn K false) := hK ▸ op_in_seq
theorem op_notIn_seq' (K : PySem.W.Frag) (hK : X.K = K := by rfl) : OpR X (compareOp .NotIn) (rIn K true) := hK ▸ op_notIn_seq
theorem op_eqD' (K : PySem.W.Frag) (hu : X.A.units + 64 < cLine) (hK : X.K = K := by rfl) : OpR X (compareOp .Eq) (rEqD K) := hK ▸ op_eqD hu
theorem op_neD' (K : PySem.W.Frag) (hu : X.A.units + 64 < cLine) (hK : X.K = K := by rfl) : OpR X (compareOp .NotEq) (rNeD K) := hK ▸ op_neD hu
theorem op_catS' (K : PySem.W.Frag) (hK : X.K = K := by rfl) : OpR X (binaryOp .Add) (rCatS K) := hK ▸ op_catS
theorem op_catA' (K : PySem.W.Frag) (hK : X.K = K := by rfl) : OpR X (binaryOp .Add) (rCatA K) := hK ▸ op_catA
theorem call_len_seq' (K : PySem.W.Frag) (hK : X.K = K := by rfl) : CallR X (.builtin "len") (rLenQ K) := hK ▸ call_len_seq
theorem call_len_str' : CallR X (.builtin "len") rLenX := call_len_str
theorem call_int1' : CallR X (.type "int") rIntQ := call_int1
theorem call_abs' : CallR X (.builtin "abs") rAbsQ := call_abs
theorem call_tuple_of' (K : PySem.W.Frag) (hK : X.K = K := by rfl) : CallR X (.type "tuple") (rTupQ K) := hK ▸ call_tuple_of
theorem call_list_of' (K : PySem.W.Frag) (hK : X.K = K := by rfl) : CallR X (.type "list") (rLstQ K) := hK ▸ call_list_of
theorem cr_all' (K : PySem.W.Frag) (hc : X.calm = true) (hK : X.K = K := by rfl) : CallR X (.builtin "all") (rAll K) := hK ▸ cr_all hc
theorem cr_any' (K : PySem.W.Frag) (hc : X.calm = true) (hK : X.K = K := by rfl) : CallR X (.builtin "any") (rAny K) := hK ▸ cr_any hc
theorem cr_sum' (K : PySem.W.Frag) (hc : X.calm = true) (hK : X.K = K := by rfl) : CallR X (.builtin "sum") (rSum K) := hK ▸ cr_sum hc
theorem cr_max' (K : PySem.W.Frag) (hc : X.calm = true) (hK : X.K = K := by rfl) : CallR X (.builtin "max") (rMax K) := hK ▸ cr_max hc
theorem cr_sortedI' (K : PySem.W.Frag) (hK : X.K = K := by rfl) : CallR X (.builtin "sorted") (rSortedI K) := hK ▸ cr_sortedI
theorem call_isi' (K : PySem.W.Frag) (hK : X.K = K := by rfl) : CallR X (.builtin "isinstance") (rIsi K) := hK ▸ call_isi
theorem call_isiT' (K : PySem.W.Frag) (hK : X.K = K := by rfl) : CallR X (.builtin "isinstance") (rIsiT K) := hK ▸ call_isiT
theorem mt_index' (K : PySem.W.Frag) (hK : X.K = K := by rfl) : MtR X "list.index" (rIndex K) := hK ▸ mt_index
theorem mt_lcount' (K : PySem.W.Frag) (hK : X.K = K := by rfl) : MtR X "list.count" (rCntI K) := hK ▸ mt_lcount
theorem pe_fld' (K : PySem.W.Frag) (he : PE X e ta) (hb : attributeBase e f X.env (eval e X.env) = eval e X.env) (hK : X.K = K := by rfl) : PE X (.Attribute e f pos) (tFld K ta f) := hK ▸ pe_fld he hb
theorem pi_list' (K : PySem.W.Frag) (hl : PE X e tl) (hK : X.K = K := by rfl) : PI X tg e (iList K tl) := hK ▸ pi_list hl
theorem pi_tup' (K : PySem.W.Frag) (hl : PE X e tl) (hK : X.K = K := by rfl) : PI X tg e (iTup K tl) := hK ▸ pi_tup hl
theorem pi_enum' (K : PySem.W.Frag) (hg : Gl X "enumerate") (hm : X.mg "enumerate" = none) (ha : PA X [e] t) (hs : starEach [e] X.env = [(false, eval e X.env)] := by rfl) (hK : X.K = K := by rfl) :
    PI X (.Tuple elts kk tpos) (.Call (.Name "enumerate" p) [e] [] pos) (iEnum K t) := hK ▸ pi_enum hg hm ha hs
theorem pi_enumT' (K : PySem.W.Frag) (hg : Gl X "enumerate") (hm : X.mg "enumerate" = none) (ha : PA X [e] t) (hs : starEach [e] X.env = [(false, eval e X.env)] := by rfl) (hK : X.K = K := by rfl) :
    PI X (.Tuple elts kk tpos) (.Call (.Name "enumerate" p) [e] [] pos) (iEnumT K t) := hK ▸ pi_enumT hg hm ha hs
theorem pi_zz' (K : PySem.W.Frag) {e2 : Expr} (hg : Gl X "zip") (hm : X.mg "zip" = none) (ha : PA X [e, e2] t)
    (hs : starEach [e, e2] X.env = (false, eval e X.env) :: starEach [e2] X.env := by rfl) (hpl : (backTo pos (starEach [e2] X.env)).any (·.1) = false := by rfl) (hK : X.K = K := by rfl) :
    PI X (.Tuple elts kk tpos) (.Call (.Name "zip" p) [e, e2] [] pos) (iZZ K t) := hK ▸ pi_zz hg hm ha hs hpl
theorem pg_tup' (K : PySem.W.Frag) {k : Nat} {u : TGs} {n : Nat} (hc : X.calm = true) (h : PGs X elts u) (hn : (assignEach elts X.env).length = n := by rfl) (hst : (assignEach elts X.env).findIdx? (·.1) = none := by rfl) (hK : X.K = K := by rfl) : PG X (.Tuple elts k pos) (gTup K n u) :=
  hK ▸ pg_tup hc h hn hst
theorem pe_bm' (K : PySem.W.Frag) {T : String} {name : Str} {id : String} {r : V → List V → Hp → VK → Prop} (pa : PlainAttrs T) (slot : Slot T name id) (hty : typeOf (.builtin id) = pure (.type "method_descriptor")) (hm : MtR X id r) (ho : PE X o to) (ha : PA X (e :: es) t)
    (hbase : attributeBase o name X.env (eval o X.env) = eval o X.env := by rfl)
    (hfew : ((backTo cpos (starEach (e :: es) X.env)).all (fun x => !x.1) && (backToKw cpos (keywordEach [] X.env)).all (fun x => x.1.isSome)
      && decide ((e :: es).length + ([] : List Keyword).length + (if ([] : List Keyword).isEmpty then 0 else 1) < 30)) = true := by rfl)
    (hline : (apos.endLine == cpos.line) = true := by rfl) (hs : starEach (e :: es) X.env = (false, eval e X.env) :: starEach es X.env := by rfl) (hplain : (backTo cpos (starEach es X.env)).any (·.1) = false := by rfl) (hK : X.K = K := by rfl) :
    PE X (.Call (.Attribute o name apos) (e :: es) [] cpos) (tBM K T r to t) := hK ▸ pe_bm pa slot hty hm ho ha hbase hfew hline hs hplain
theorem pe_bm0' (K : PySem.W.Frag) {T : String} {name : Str} {id : String} {r : V → List V → Hp → VK → Prop} (pa : PlainAttrs T) (slot : Slot T name id) (hty : typeOf (.builtin id) = pure (.type "method_descriptor")) (hm : MtR X id r) (ho : PE X o to)
    (hbase : attributeBase o name X.env (eval o X.env) = eval o X.env := by rfl) (hline : (apos.endLine == cpos.line) = true := by rfl) (hK : X.K = K := by rfl) : PE X (.Call (.Attribute o name apos) [] [] cpos) (tBM0 K T r to) := hK ▸ pe_bm0 pa slot hty hm ho hbase hline
theorem pe_revL' (K : PySem.W.Frag) {k : Nat} {p1 p2 p3 : Pos} (he : PE X e te) (hK : X.K = K := by rfl) : PE X (.Subscript e (.Slice none none (some (.UnaryOp .USub (.Constant (.int 1) k p1) p2)) p3) pos) (tRevL K te) := hK ▸ pe_revL he
theorem pe_lcv (vs : List Nat) {own : List (Str × Nat)} {wi : TI} {g : TG} {tt : TT} {te : TE} (h : PE X e (tLc wi g tt te (own.map (·.2)))) (hv : own.map (·.2) = vs := by rfl) : PE X e (tLc wi g tt te vs) := hv ▸ h
theorem ps_lcv (vs : List Nat) {st : Stmt} {own : List (Str × Nat)} {wi : TI} {g h : TG} {tt : TT} {te : TE} (k : PS X st (tAsg (tLc wi g tt te (own.map (·.2))) h)) (hv : own.map (·.2) = vs := by rfl) : PS X st (tAsg (tLc wi g tt te vs) h) := hv ▸ k
end
end SL

namespace L2
open PySem
/-- {e: v}, e a tuple; the new dict stands empty while the pair is made -/
def tDisp1T (tk tv : TE) : TE := fun σ H Q => ∀ p, H p = none → tk σ (upd H p (.dT [])) fun y H1 => tv σ H1 fun v H2 => H2 p = some (.dT []) ∧ ∃ b k, y = .ref b ∧ H2 b = some (.tup (k.map kV)) ∧ Q (.ref p) (upd H2 p (.dT [(k, v)]))
theorem pe_disp1T {X : Cx} {pos : Pos} {k v : Expr} {tk tv : TE} (hu : X.A.units + 1 < cLine) (hk : PE X k tk) (hv : PE X v tv) : PE X (.Dict [some k] [v] pos) (tDisp1T tk tv) := by
  refine ⟨fun pins s σ H Q I q => ?_⟩
  have hn := I.hok.fresh (Nat.le_refl s.heap.objs.size)
  have I1 := I.laid (a := s.heap.objs.size) (o := .dT []) (h' := s.heap.push { cls := .type "dict", data := .dict #[] }) (t' := s.toks) (fun _ _ q => Heap.get?_push_of_some _ q) (Nat.le_refl _) (dt_empty s.heap I.big)
  refine wpAny_Dict_any rfl rfl (by simp) (by simp) ?_
  refine pairTrees_cons_walk (thn (hk.run pins _ σ _ _ I1 (q _ hn)) fun u s1 ⟨x, H1, I2, rx, q1⟩ => thn (hv.run pins s1 σ H1 _ I2 q1) fun w2 s2 ⟨y, H2, I3, ry, e, b, ks, ex, eb, q2⟩ => pairTrees_nil_walk ?_)
  subst ex
  obtain rfl : u = Value.ref b := rx
  obtain ⟨z, hd, xs, rel, dd⟩ := dt_of I3.hok e
  have hx : xs = [] := by cases rel; rfl
  subst hx
  unfold storeAll
  rw [List.forIn_cons]
  refine wpAny_bind (wpAny_bind ?_)
  refine wpAny_dictSet_heap (knd := tupleKind (mixKind X.prog X.w)) (hsz := Nat.zero_le _) (show X.A.units < cLine by omega) (key_of I3.hok eb) dd fun h' dd' hs => ?_
  refine wpAny_pure ?_
  simp only [List.forIn_nil]
  refine wpAny_pure ⟨.ref s.heap.objs.size, _, ?_, rfl, q2⟩
  obtain ⟨qo, es, ep, hq, h2, h3, h4, _, h5⟩ := dd'
  have rp : KT (upd H2 s.heap.objs.size (.dT [(ks, y)])) [(ks, y)] (storedH [] ks b w2) := by
    have := (KT.keeps (H' := upd H2 s.heap.objs.size (.dT [(ks, y)])) (rel.put ks eb ry) fun c ys ec => by rw [upd_ne (ne_of ec e (fun z => nomatch z))]; exact ec)
    exact this
  exact d_write I3 (by rw [e]; exact True.intro) hs ⟨qo, hq⟩ ⟨by show 1 ≤ sizeLine; rw [sizeLine_eq]; omega, hd, _, rp, qo, es, ep, hq, h2, h3, h4, h5⟩
end L2
namespace SL
open PySem L2 Evl
section
variable {κ : Type} [DecidableEq κ]
def dlook (ks : List (κ × PyData)) (k : κ) : Option PyData := (ks.find? fun kv => decide (kv.1 = k)).map (·.2)
def dput (ks : List (κ × PyData)) (k : κ) (d : PyData) : List (κ × PyData) :=
  if (ks.any fun kv => decide (kv.1 = k)) = true then ks.map (fun kv => if kv.1 = k then (kv.1, d) else kv) else ks ++ [(k, d)]
variable {K : PySem.W.Frag} {G : Hp}
theorem KD.none {k : κ} : ∀ {xs : List (κ × V)} {ks : List (κ × PyData)}, KD K G xs ks → dlook ks k = none → valV xs k = none
  | _, _, .nil, _ => rfl
  | _, _, .cons (k := k') a b, e => by
    by_cases h : k' = k
    · simp [dlook, List.find?_cons, h] at e
    · rw [valV_neg h]
      refine KD.none b ?_
      simpa [dlook, List.find?_cons, h] using e
theorem KD.some {k : κ} {d : PyData} : ∀ {xs : List (κ × V)} {ks : List (κ × PyData)}, KD K G xs ks → dlook ks k = some d → ∃ v, valV xs k = some v ∧ Dp K G v d
  | _, _, .nil, e => by cases e
  | _, _, .cons (k := k') a b, e => by
    by_cases h : k' = k
    · simp only [dlook, List.find?_cons, h, decide_true, Option.map_some, Option.some.injEq] at e
      subst e
      exact ⟨_, valV_pos h, a⟩
    · obtain ⟨v, h1, h2⟩ := KD.some (d := d) (k := k) b (by simpa [dlook, List.find?_cons, h] using e)
      exact ⟨v, by rw [valV_neg h]; exact h1, h2⟩
theorem KD.any {k : κ} : ∀ {xs : List (κ × V)} {ks : List (κ × PyData)}, KD K G xs ks → (xs.any fun kv => decide (kv.1 = k)) = (ks.any fun kv => decide (kv.1 = k))
  | _, _, .nil => rfl
  | _, _, .cons a b => by simp only [List.any_cons, KD.any b]
theorem KD.len : ∀ {xs : List (κ × V)} {ks : List (κ × PyData)}, KD K G xs ks → xs.length = ks.length
  | _, _, .nil => rfl
  | _, _, .cons a b => by simp [KD.len b]
theorem KD.map {k : κ} {v : V} {d : PyData} (h : Dp K G v d) : ∀ {xs : List (κ × V)} {ks : List (κ × PyData)}, KD K G xs ks → KD K G (xs.map fun kv => if kv.1 = k then (kv.1, v) else kv) (ks.map fun kv => if kv.1 = k then (kv.1, d) else kv)
  | _, _, .nil => .nil
  | _, _, .cons (k := k') a b => by
    simp only [List.map_cons]
    by_cases e : k' = k
    · rw [if_pos e, if_pos e]; exact .cons h (KD.map h b)
    · rw [if_neg e, if_neg e]; exact .cons a (KD.map h b)
theorem KD.snoc {k : κ} {v : V} {d : PyData} (h : Dp K G v d) : ∀ {xs : List (κ × V)} {ks : List (κ × PyData)}, KD K G xs ks → KD K G (xs ++ [(k, v)]) (ks ++ [(k, d)])
  | _, _, .nil => .cons h .nil
  | _, _, .cons a b => .cons a (KD.snoc h b)
theorem KD.put {k : κ} {v : V} {d : PyData} (h : Dp K G v d) {xs : List (κ × V)} {ks : List (κ × PyData)} (r : KD K G xs ks) : KD K G (putK xs k v) (dput ks k d) := by
  unfold putK dput
  rw [KD.any r]
  split
  · exact KD.map h r
  · exact KD.snoc h r
theorem dlook_dput (ks : List (κ × PyData)) (k j : κ) (d : PyData) : dlook (dput ks k d) j = if j = k then some d else dlook ks j := by
  have aux : ∀ (l : List (κ × PyData)), (l.any fun kv => decide (kv.1 = k)) = false → dlook (l ++ [(k, d)]) j = if j = k then some d else dlook l j := by
    intro l
    induction l with
    | nil =>
      intro _
      by_cases h : j = k
      · subst h; simp [dlook]
      · have h' : ¬ k = j := fun z => h z.symm
        simp [dlook, h, h']
    | cons p r ih =>
      intro hn
      obtain ⟨p1, p2⟩ := p
      simp only [List.any_cons, Bool.or_eq_false_iff, decide_eq_false_iff_not] at hn
      by_cases h1 : p1 = j
      · have : ¬ j = k := fun z => hn.1 (h1.trans z)
        simp [dlook, h1, this]
      · have := ih hn.2
        simp only [dlook, List.cons_append, List.find?_cons, h1, decide_false] at this ⊢
        exact this
  have aux2 : ∀ (l : List (κ × PyData)), dlook (l.map fun kv => if kv.1 = k then (kv.1, d) else kv) j = if j = k then (dlook l j).map (fun _ => d) else dlook l j := by
    intro l
    induction l with
    | nil => by_cases h : j = k <;> simp [dlook, h]
    | cons p r ih =>
      obtain ⟨p1, p2⟩ := p
      by_cases h1 : p1 = j
      · subst h1
        by_cases h2 : p1 = k
        · subst h2; simp [dlook]
        · simp [dlook, h2]
      · have e : dlook (((p1, p2) :: r).map fun kv => if kv.1 = k then (kv.1, d) else kv) j = dlook (r.map fun kv => if kv.1 = k then (kv.1, d) else kv) j := by
          rw [List.map_cons]
          by_cases h2 : p1 = k
          · rw [if_pos h2]
            unfold dlook
            rw [List.find?_cons]
            simp only [h1, decide_false]
          · rw [if_neg h2]
            unfold dlook
            rw [List.find?_cons]
            simp only [h1, decide_false]
        rw [e, ih]
        have e2 : dlook ((p1, p2) :: r) j = dlook r j := by simp [dlook, h1]
        rw [e2]
  unfold dput
  split
  · rename_i h
    rw [aux2]
    by_cases hj : j = k
    · subst hj
      rw [if_pos rfl, if_pos rfl]
      obtain ⟨x, hx, he⟩ := List.any_eq_true.mp h
      cases q : dlook ks j with
      | some _ => rfl
      | none =>
        unfold dlook at q
        rw [Option.map_eq_none_iff, List.find?_eq_none] at q
        exact absurd he (q x hx)
    · rw [if_neg hj, if_neg hj]
  · rename_i h
    exact aux ks (Bool.eq_false_iff.mpr h)
theorem dput_len (ks : List (κ × PyData)) (k : κ) (d : PyData) : (dput ks k d).length ≤ ks.length + 1 := by
  unfold dput
  split <;> simp
theorem dput_new (ks : List (κ × PyData)) (k : κ) (d : PyData) (h : dlook ks k = none) : dput ks k d = ks ++ [(k, d)] := by
  unfold dput
  rw [if_neg]
  intro z
  obtain ⟨x, hx, he⟩ := List.any_eq_true.mp z
  unfold dlook at h
  rw [Option.map_eq_none_iff, List.find?_eq_none] at h
  exact h x hx he
end
def keyD : Key → PyData
  | .inl i => .int i
  | .inr x => .str x
section
variable {K : PySem.W.Frag} {F F' : Fm} {G G' H H' : Hp} {τ σ : List (Option V)} {ε δ : List SD} {v : V} {P : PV} {te ta tb td ty tv : TE} {tt tu : TT} {ts tw : TS} {D : Ends} {N : St → Hp → Prop} {g : TG} {PT : Bool → List SD → Prop} {tr : TA}
theorem dp_key {k : Key} (h : Dp K G v (keyD k)) : v = kV k := by
  cases k with
  | inl i => exact dp_int h
  | inr x => exact dp_str h
theorem dpAll_keys : ∀ {vs : List V} {k : List Key}, DpAll K G vs (k.map keyD) → vs = k.map kV
  | [], [], _ => rfl
  | _ :: _, [], h => by cases h
  | [], _ :: _, h => by cases h
  | v :: vs, n :: ns, h => by
    cases h with
    | cons a b => rw [dp_key a, dpAll_keys b]; rfl
theorem dp_keyT {k : List Key} (h : Dp K G v (.tuple (k.map keyD))) : ∃ b, v = .ref b ∧ G b = some (.tup (k.map kV)) := by
  obtain ⟨a, xs, rfl, ht, da⟩ := dp_tupH h
  rw [dpAll_keys da] at ht
  exact ⟨a, rfl, ht⟩
/-- the dict with tuple keys in slot j -/
theorem ot_at {j : Nat} {p : Addr} {kvs : List (List Key × PyData)} (s : S2 F G H τ ε σ δ) (hj : δ[j]? = some (.ot p kvs)) : σ[j]? = some (some (.ref p)) ∧ ∃ xs, H p = some (.dT xs) ∧ KD F.K G xs kvs := by
  obtain ⟨ov, e, ok⟩ := s.slot hj
  obtain ⟨w, rfl⟩ := sd_some (by intro z; cases z) ok
  obtain ⟨rfl, h⟩ := ok
  exact ⟨e, h⟩
theorem ev_dnotinT (h : E F ty δ fun r δ1 => ∃ k : List Key, r = .fz (.tuple (k.map keyD)) ∧ E F td δ1 fun r2 δ2 => ∃ (p : Addr) (j : Nat) (kvs : List (List Key × PyData)), r2 = .al p ∧ δ2[j]? = some (.ot p kvs) ∧ P (.fz (.bool (!(dlook kvs k).isSome))) δ2) : E F (tDNotIn ty td) δ P := fun τ ε G H σ Q s q =>
  h τ ε G H σ _ s fun y r δ1 G1 H1 ⟨k, hr, h1⟩ e1 s1 => by
    subst hr
    have hy := fz_top s1
    refine h1 _ _ G1 H1 σ _ s1 fun x r2 δ2 G2 H2 ⟨p, j, kvs, hr2, hj, k2⟩ e2 s2 => ?_
    subst hr2
    have hx : x = .ref p := s2.top
    subst hx
    obtain ⟨b, rfl, hb⟩ := dp_keyT hy
    obtain ⟨_, xs, hxs, kd⟩ := ot_at s2 hj
    refine ⟨p, _, rfl, DGet.t hxs (s2.w.gh _ _ (e2 _ _ hb)), ?_⟩
    have e : (valV xs k).isSome = (dlook kvs k).isSome := by
      cases q1 : dlook kvs k with
      | none => rw [KD.none kd q1]; rfl
      | some d => obtain ⟨v, hv, _⟩ := KD.some kd q1; rw [hv]; rfl
    rw [e]
    exact q _ _ δ2 G2 H2 k2 (Ex.trans e1 e2) (s2.pop2.push rfl (.bl _))
theorem ev_dgetT (h : E F td δ fun r δ1 => ∃ p, r = .al p ∧ E F ty δ1 fun r2 δ2 => ∃ (k : List Key) (j : Nat) (kvs : List (List Key × PyData)) (d : PyData), r2 = .fz (.tuple (k.map keyD)) ∧ δ2[j]? = some (.ot p kvs) ∧ dlook kvs k = some d ∧ P (.fz d) δ2) : E F (tDGet td ty) δ P := fun τ ε G H σ Q s q =>
  h τ ε G H σ _ s fun x r δ1 G1 H1 ⟨p, hr, h1⟩ e1 s1 => by
    subst hr
    have hx : x = .ref p := s1.top
    subst hx
    refine h1 _ _ G1 H1 σ _ s1 fun y r2 δ2 G2 H2 ⟨k, j, kvs, d, hr2, hj, hd, k2⟩ e2 s2 => ?_
    subst hr2
    obtain ⟨b, rfl, hb⟩ := dp_keyT (fz_top s2)
    obtain ⟨_, xs, hxs, kd⟩ := ot_at s2 hj
    obtain ⟨v, hv, hdp⟩ := KD.some kd hd
    refine ⟨p, v, rfl, ?_, q _ _ δ2 G2 H2 k2 (Ex.trans e1 e2) (s2.pop2.push rfl hdp)⟩
    rw [← hv]
    exact DGet.t hxs (s2.w.gh _ _ hb)
theorem rn_dputT (h : E F tv δ fun r δ1 => ∃ d, r = .fz d ∧ E F td δ1 fun r2 δ2 => ∃ p, r2 = .al p ∧ E F ty δ2 fun r3 δ3 => ∃ (k : List Key) (j : Nat) (kvs : List (List Key × PyData)), r3 = .fz (.tuple (k.map keyD)) ∧ δ3[j]? = some (.ot p kvs) ∧ kvs.length < 100000 ∧ Nx F D.nx (δ3.set j (.ot p (dput kvs k d)))) :
    Rn F (sDPut td ty tv) δ D := fun G H σ s => h [] [] G H σ _ s fun v r δ1 G1 H1 ⟨d, hr, h1⟩ _ s1 => by
  subst hr
  refine h1 _ _ G1 H1 σ _ s1 fun x r2 δ2 G2 H2 ⟨p, hr2, h2⟩ e2 s2 => ?_
  subst hr2
  have hx : x = .ref p := s2.top
  subst hx
  refine h2 _ _ G2 H2 σ _ s2 fun y r3 δ3 G3 H3 ⟨k, j, kvs, hr3, hj, hl, nx⟩ e3 s3 => ?_
  subst hr3
  obtain ⟨b, rfl, hb⟩ := dp_keyT (fz_top s3)
  obtain ⟨e4, xs, hxs, kd⟩ := ot_at s3 hj
  have hv := fz_top s3.pop.pop
  have hl' := KD.len kd
  refine ⟨p, _, rfl, DPut.t hxs (s3.w.gh _ _ hb) (Nat.lt_of_lt_of_le (show xs.length < 100000 by omega) (by decide)), ?_⟩
  refine nx G3 _ σ (s3.pop.pop.pop.mut (o := .dT (putK xs k v)) (new := .ot p (dput kvs k d)) hj rfl rfl fun ov e => ?_)
  rw [e4] at e
  cases e
  exact ⟨rfl, _, upd_same, KD.put hv kd⟩
/-- the owned thing on top of the stack is changed -/
theorem S2.mutT {o : HO} {p : Addr} {old new : SD} {ov : Option V} (h : S2 F G H (ov :: τ) (old :: ε) σ δ) (h1 : old.fp = [p]) (h2 : new.fp = [p]) (hok : SD.ok F.K G (upd H p o) ov new) : S2 F G (upd H p o) (ov :: τ) (new :: ε) σ δ := by
  have w1 : Wd F G H ((old.fp ++ fps ε) ++ fps δ) := h.w
  rw [h1] at w1
  have wm := w1.mut (o := o) (p := p) (by simp)
  have nd := (List.nodup_cons.mp (show (p :: (fps ε ++ fps δ)).Nodup from w1.nd)).1
  refine ⟨?_, ⟨hok, oks_mono (Ex.refl _) (fun a ha => upd_ne fun z => nd (z ▸ List.mem_append_left _ ha)) h.t.2⟩, oks_mono (Ex.refl _) (fun a ha => upd_ne fun z => nd (z ▸ List.mem_append_right _ ha)) h.s⟩
  show Wd F G _ ((new.fp ++ fps ε) ++ fps δ)
  rw [h2]
  exact wm
/-- {e: v}, e a tuple of numbers and texts -/
theorem ev_disp1T (h : E F ty δ fun r δ1 => ∃ k : List Key, r = .fz (.tuple (k.map keyD)) ∧ E F tv δ1 fun r2 δ2 => ∃ d, r2 = .fz d ∧ ∀ p, p ∉ F.io → P (.ot p [(k, d)]) δ2) : E F (tDisp1T ty tv) δ P := fun τ ε G H σ Q s q => by
  intro p hp
  have hio : p ∉ F.io := fun z => by
    obtain ⟨o, e⟩ := s.w.io p z
    rw [hp] at e; cases e
  have s0 : S2 F G (upd H p (.dT [])) (some (.ref p) :: τ) (.ot p [] :: ε) σ δ := s.newO hp rfl ⟨rfl, [], upd_same, .nil⟩
  refine h _ _ G _ σ _ s0 fun y r δ1 G1 H1 ⟨k, hr, h1⟩ e1 s1 => ?_
  subst hr
  have hy := fz_top s1
  refine h1 _ _ G1 H1 σ _ s1 fun v r2 δ2 G2 H2 ⟨d, hr2, k2⟩ e2 s2 => ?_
  subst hr2
  have hv := fz_top s2
  obtain ⟨b, rfl, hb⟩ := dp_keyT hy
  have s3 := s2.pop.pop
  obtain ⟨_, xs, hxs, kd⟩ := s3.top
  cases kd
  refine ⟨hxs, b, k, rfl, s2.w.gh _ _ (e2 _ _ hb), ?_⟩
  exact q _ _ δ2 G2 _ (k2 p hio) (Ex.trans e1 e2) (s3.mutT (p := p) (o := .dT [(k, v)]) rfl rfl ⟨rfl, _, upd_same, .cons hv .nil⟩)
end
end SL

namespace SL
open PySem L2 Evl
/-- what serves as a list: frozen, owned on the stack, owned in a slot -/
inductive LSrc (δ : List SD) : SD → List PyData → Prop
  | fz {ds : List PyData} : LSrc δ (.fz (.list ds)) ds
  | ol {p : Addr} {ds : List PyData} : LSrc δ (.ol p ds) ds
  | al {p : Addr} {ds : List PyData} (j : Nat) : δ[j]? = some (.ol p ds) → LSrc δ (.al p) ds
section
variable {K : PySem.W.Frag} {F F' : Fm} {G G' H H' : Hp} {τ σ : List (Option V)} {ε δ : List SD} {v x : V} {P : PV} {te ta tb td ty tv : TE} {tt tu : TT} {ts tw : TS} {D : Ends} {N : St → Hp → Prop} {g : TG} {PT : Bool → List SD → Prop} {tr : TA} {r ra rb : SD} {ds es : List PyData}
theorem S2.ol_at {j : Nat} {p : Addr} (s : S2 F G H τ ε σ δ) (hj : δ[j]? = some (.ol p ds)) : σ[j]? = some (some (.ref p)) ∧ ∃ xs, H p = some (.lst xs) ∧ DpAll F.K G xs ds := by
  obtain ⟨ov, e, ok⟩ := s.slot hj
  obtain ⟨w, rfl⟩ := sd_some (by intro z; cases z) ok
  obtain ⟨rfl, h⟩ := ok
  exact ⟨e, h⟩
theorem S2.lsrc (s : S2 F G H τ ε σ δ) (ok : SD.ok F.K G H (some x) r) (h : LSrc δ r ds) : ∃ a xs, x = .ref a ∧ SqL F.K H a xs ∧ DpAll F.K G xs ds := by
  cases h with
  | fz =>
    obtain ⟨a, xs, h1, h2, h3⟩ := dp_lst ok
    exact ⟨a, xs, h1, ex_l s.w.gh h2, h3⟩
  | ol =>
    obtain ⟨h1, xs, h2, h3⟩ := ok
    exact ⟨_, xs, h1, SqL.of h2, h3⟩
  | al j hj =>
    obtain ⟨_, xs, h2, h3⟩ := s.ol_at hj
    exact ⟨_, xs, ok, SqL.of h2, h3⟩
theorem S2.fresh_io {p : Addr} (s : S2 F G H τ ε σ δ) (hp : H p = none) : p ∉ F.io := fun z => by
  obtain ⟨o, e⟩ := s.w.io p z
  rw [hp] at e; cases e
theorem b_len (h : LSrc δ r ds) (k : P (.fz (.int (ds.length : Int))) δ) : OA F (rLenQ F.K) [r] δ P := fun τ ε G H σ Q vs el s q => by
  obtain ⟨x, rfl⟩ := one_of el
  obtain ⟨a, xs, rfl, sq, da⟩ := s.lsrc s.top h
  refine ⟨a, xs, rfl, .inl sq, ?_⟩
  rw [DpAll.len da]
  exact q _ _ δ G H k (Ex.refl _) (s.pop.push rfl (.int _))
theorem b_tup (h : LSrc δ r ds) (k : P (.fz (.tuple ds)) δ) : OA F (rTupQ F.K) [r] δ P := fun τ ε G H σ Q vs el s q => by
  obtain ⟨x, rfl⟩ := one_of el
  obtain ⟨a, xs, rfl, sq, da⟩ := s.lsrc s.top h
  refine ⟨a, xs, rfl, .inl ⟨sq, fun l hl => ?_⟩⟩
  have ex := Ex.new (o := .tup xs) (s.w.gnone hl)
  exact q _ _ δ _ _ k ex ((s.pop.newF hl).push rfl (Dp.tup upd_same (dpAllMono ex _ _ da)))
theorem b_lstS (h : LSrc δ r ds) (k : ∀ p, p ∉ F.io → P (.ol p ds) δ) : OA F (rLstQ F.K) [r] δ P := fun τ ε G H σ Q vs el s q => by
  obtain ⟨x, rfl⟩ := one_of el
  obtain ⟨a, xs, rfl, sq, da⟩ := s.lsrc s.top h
  exact ⟨a, xs, rfl, .inl sq, fun l hl => q _ _ δ _ _ (k l (s.fresh_io hl)) (Ex.refl _) (s.pop.newO hl rfl ⟨rfl, xs, upd_same, da⟩)⟩
theorem o_cat (ha : LSrc δ ra ds) (hb : LSrc δ rb es) (hl : ds.length + es.length ≤ 1000000) (k : ∀ p, p ∉ F.io → P (.ol p (ds ++ es)) δ) : O2 F (rCatS F.K) ra rb δ P := fun τ ε G H σ Q x y s q => by
  obtain ⟨b, zs, rfl, sq2, db⟩ := s.lsrc s.top hb
  obtain ⟨a, xs, rfl, sq1, da⟩ := s.pop.lsrc s.pop.top ha
  have h1 := DpAll.len da
  have h2 := DpAll.len db
  refine ⟨a, b, xs, zs, rfl, rfl, sq1, sq2, Nat.le_trans (show _ ≤ 1000000 by omega) (by decide), fun p hp => ?_⟩
  exact q _ _ δ _ _ (k p (s.fresh_io hp)) (Ex.refl _) (s.pop2.newO hp rfl ⟨rfl, _, upd_same, DpAll.app da db⟩)
theorem dpAll_rep (n : Nat) {xs : List V} (h : DpAll K G xs ds) : DpAll K G (List.replicate n xs).flatten (List.replicate n ds).flatten := by
  induction n with
  | zero => exact .nil
  | succ n ih =>
    simp only [List.replicate_succ, List.flatten_cons]
    exact DpAll.app h ih
/-- [x, ..] * n -/
theorem o_rep {p : Addr} {n : Int} (hn : n ≤ 1000000) (hm : -1000000 ≤ n) (hl : ds.length * n.toNat ≤ 1000000) (k : ∀ q, q ∉ F.io → P (.ol q (List.replicate n.toNat ds).flatten) δ) : O2 F rRep (.ol p ds) (.fz (.int n)) δ P := fun τ ε G H σ Q x y s q => by
  obtain rfl := dp_int (fz_top s)
  obtain ⟨rfl, xs, hx, da⟩ := s.pop.top
  have h1 := DpAll.len da
  refine ⟨p, n, xs, rfl, rfl, hx, by omega, by omega, Nat.le_trans (show _ ≤ 1000000 by rw [h1]; exact hl) (by decide), fun p' hp => ?_⟩
  exact q _ _ δ _ _ (k p' (s.fresh_io hp)) (Ex.refl _) (s.pop2.newO hp rfl ⟨rfl, _, upd_same, dpAll_rep _ da⟩)
theorem b_sum {ns : List Int} (h : LSrc δ r (ns.map PyData.int)) (k : P (.fz (.int ns.sum)) δ) : OA F (rSum F.K) [r] δ P := fun τ ε G H σ Q vs el s q => by
  obtain ⟨x, rfl⟩ := one_of el
  obtain ⟨a, xs, rfl, sq, da⟩ := s.lsrc s.top h
  rw [DpAll.ints da] at sq
  exact ⟨a, ns, rfl, sq, q _ _ δ G H k (Ex.refl _) (s.pop.push rfl (.int _))⟩
theorem b_max {ns : List Int} (h : LSrc δ r (ns.map PyData.int)) (h0 : 0 < ns.length) (k : ∀ m, m ∈ ns → (∀ y, y ∈ ns → y ≤ m) → P (.fz (.int m)) δ) : OA F (rMax F.K) [r] δ P := fun τ ε G H σ Q vs el s q => by
  obtain ⟨x, rfl⟩ := one_of el
  obtain ⟨a, xs, rfl, sq, da⟩ := s.lsrc s.top h
  rw [DpAll.ints da] at sq
  exact ⟨a, ns, rfl, sq, h0, fun m h1 h2 => q _ _ δ G H (k m h1 h2) (Ex.refl _) (s.pop.push rfl (.int _))⟩
theorem b_all {bs : List Bool} (h : LSrc δ r (bs.map PyData.bool)) (k : P (.fz (.bool (bs.all id))) δ) : OA F (rAll F.K) [r] δ P := fun τ ε G H σ Q vs el s q => by
  obtain ⟨x, rfl⟩ := one_of el
  obtain ⟨a, xs, rfl, sq, da⟩ := s.lsrc s.top h
  rw [DpAll.bls da] at sq
  exact ⟨a, bs, rfl, sq, q _ _ δ G H k (Ex.refl _) (s.pop.push rfl (.bl _))⟩
theorem o_ix {i : Int} {d : PyData} (h : LSrc δ ra ds) (e : atI ds i = some d) (k : P (.fz d) δ) : O2 F (rIxL F.K) ra (.fz (.int i)) δ P := fun τ ε G H σ Q x y s q => by
  obtain rfl := dp_int (fz_top s)
  obtain ⟨a, xs, rfl, sq, da⟩ := s.pop.lsrc s.pop.top h
  obtain ⟨z, h1, h2⟩ := atI_dp da e
  exact ⟨a, xs, i, z, rfl, rfl, sq, h1, q _ _ δ G H k (Ex.refl _) (s.pop2.push rfl h2)⟩
/-- i in a list of ints -/
theorem all_flat : ∀ (ns : List Int), (ns.map V.int).all flatV = true
  | [] => rfl
  | n :: ns => by simp [flatV]
theorem inV_int (i : Int) : ∀ (ns : List Int), inV (.int i) (ns.map V.int) = decide (i ∈ ns)
  | [] => rfl
  | n :: ns => by
    have ih := inV_int i ns
    unfold inV at ih ⊢
    rw [List.map_cons, List.any_cons, ih]
    by_cases h : n = i
    · subst h; simp [eqV]
    · have h' : ¬ i = n := fun z => h z.symm
      simp [eqV, h, h']
theorem o_notinI {ns : List Int} {i : Int} (h : LSrc δ rb (ns.map PyData.int)) (k : P (.fz (.bool (!decide (i ∈ ns)))) δ) : O2 F (rIn F.K true) (.fz (.int i)) rb δ P := fun τ ε G H σ Q x y s q => by
  obtain ⟨a, xs, rfl, sq, da⟩ := s.lsrc s.top h
  obtain rfl := dp_int (fz_top2 s)
  rw [DpAll.ints da] at sq
  refine ⟨a, _, rfl, .inl sq, rfl, all_flat ns, ?_⟩
  rw [if_pos rfl, inV_int]
  exact q _ _ δ G H k (Ex.refl _) (s.pop2.push rfl (.bl _))
/-- xs[::-1] -/
theorem DpAll.rev {G : Hp} : ∀ {vs : List V} {ds : List PyData}, DpAll K G vs ds → DpAll K G vs.reverse ds.reverse
  | _, _, .nil => .nil
  | _, _, .cons a b => by
    simp only [List.reverse_cons]
    exact DpAll.app (DpAll.rev b) (SL.DpAll.one a)
theorem ev_revL (h : E F te δ fun r δ1 => ∃ ds, LSrc δ1 r ds ∧ ∀ p, p ∉ F.io → P (.ol p ds.reverse) δ1) : E F (tRevL F.K te) δ P := fun τ ε G H σ Q s q =>
  h τ ε G H σ _ s fun x r δ1 G1 H1 ⟨ds, hl, k⟩ e1 s1 => by
    obtain ⟨a, xs, rfl, sq, da⟩ := s1.lsrc s1.top hl
    exact ⟨a, xs, rfl, sq, fun p hp => q _ _ δ1 _ _ (k p (s1.fresh_io hp)) e1 (s1.pop.newO hp rfl ⟨rfl, _, upd_same, DpAll.rev da⟩)⟩
/-- xs[n:] -/
theorem ev_from {i : Nat} (h : E F te δ fun r δ1 => ∃ ds, LSrc δ1 r ds ∧ ∀ p, p ∉ F.io → P (.ol p (ds.drop i)) δ1) : E F (tSl (rSlL F.K) te (tPart (tC (.int (i : Int)))) tNoPart) δ P := fun τ ε G H σ Q s q =>
  h τ ε G H σ _ s fun x r δ1 G1 H1 ⟨ds, hl, k⟩ e1 s1 => by
    obtain ⟨a, xs, rfl, sq, da⟩ := s1.lsrc s1.top hl
    refine ⟨(i : Int), rfl, a, xs, rfl, sq, fun p hp => q _ _ δ1 _ _ (k p (s1.fresh_io hp)) e1 (s1.pop.newO hp rfl ⟨rfl, _, upd_same, ?_⟩)⟩
    unfold cutV
    rw [HT.sIx_none, HT.sIx_nat]
    have hd : xs.drop (min i xs.length) = xs.drop i := by
      by_cases h : i ≤ xs.length
      · rw [Nat.min_eq_left h]
      · rw [Nat.min_eq_right (by omega), List.drop_length, List.drop_eq_nil_of_le (by omega)]
    rw [hd, List.take_of_length_le (by rw [List.length_drop]; omega)]
    exact SL.DpAll.drop i da
/-- xs[:n] -/
theorem ev_upto {i : Nat} (h : E F te δ fun r δ1 => ∃ ds, LSrc δ1 r ds ∧ ∀ p, p ∉ F.io → P (.ol p (ds.take i)) δ1) : E F (tSl (rSlL F.K) te tNoPart (tPart (tC (.int (i : Int))))) δ P := fun τ ε G H σ Q s q =>
  h τ ε G H σ _ s fun x r δ1 G1 H1 ⟨ds, hl, k⟩ e1 s1 => by
    obtain ⟨a, xs, rfl, sq, da⟩ := s1.lsrc s1.top hl
    refine ⟨(i : Int), rfl, a, xs, rfl, sq, fun p hp => q _ _ δ1 _ _ (k p (s1.fresh_io hp)) e1 (s1.pop.newO hp rfl ⟨rfl, _, upd_same, ?_⟩)⟩
    unfold cutV
    rw [HT.sIx_none, HT.sIx_nat, List.drop_zero, Nat.sub_zero]
    have hd : xs.take (min i xs.length) = xs.take i := by
      by_cases h : i ≤ xs.length
      · rw [Nat.min_eq_left h]
      · rw [Nat.min_eq_right (by omega), List.take_length, List.take_of_length_le (by omega)]
    rw [hd]
    exact SL.DpAll.take i da
/-- xs.extend(new list) -/
theorem ev_extend (h : E F ta δ fun r δ1 => ∃ p j ds0, r = .al p ∧ δ1[j]? = some (.ol p ds0) ∧ E F te δ1 fun r2 δ2 => ∃ q es ds, r2 = .ol q es ∧ δ2[j]? = some (.ol p ds) ∧ ds.length + es.length ≤ 1000000 ∧ P (.fz .none) (δ2.set j (.ol p (ds ++ es)))) :
    E F (tBM F.K "list" rExtend ta (tCons te tNil)) δ P := fun τ ε G H σ Q s q =>
  h τ ε G H σ _ s fun x r δ1 G1 H1 ⟨p, j, ds0, hr, hj, h1⟩ e1 s1 => by
    subst hr
    have hx : x = .ref p := s1.top
    subst hx
    obtain ⟨_, xs, hx, _⟩ := s1.ol_at hj
    refine ⟨.inl ⟨rfl, xs, SqL.of hx⟩, ?_⟩
    refine h1 _ _ G1 H1 σ _ s1.pop fun y r2 δ2 G2 H2 ⟨q', es, ds, hr, hj2, hl, k⟩ e2 s2 => ?_
    subst hr
    obtain ⟨rfl, zs, hz, dz⟩ := s2.top
    obtain ⟨e3, ys, hys, hd⟩ := s2.ol_at hj2
    have hl1 := DpAll.len hd
    have hl2 := DpAll.len dz
    refine ⟨p, q', ys, zs, rfl, rfl, hys, hz, Nat.le_trans (show _ ≤ 1000000 by omega) (by decide), ?_⟩
    refine q _ _ _ G2 _ k (Ex.trans e1 e2) ((s2.pop.mut (o := .lst (ys ++ zs)) (new := .ol p (ds ++ es)) hj2 rfl rfl fun ov e => ?_).push rfl .non)
    rw [e3] at e
    cases e
    exact ⟨rfl, _, upd_same, DpAll.app hd dz⟩
/-- xs.reverse() -/
theorem ev_reverse (h : E F ta δ fun r δ1 => ∃ p j ds, r = .al p ∧ δ1[j]? = some (.ol p ds) ∧ P (.fz .none) (δ1.set j (.ol p ds.reverse))) : E F (tBM0 F.K "list" rReverse ta) δ P := fun τ ε G H σ Q s q =>
  h τ ε G H σ _ s fun x r δ1 G1 H1 ⟨p, j, ds, hr, hj, k⟩ e1 s1 => by
    subst hr
    have hx : x = .ref p := s1.top
    subst hx
    obtain ⟨e3, xs, hx, hd⟩ := s1.ol_at hj
    refine ⟨.inl ⟨rfl, xs, SqL.of hx⟩, p, xs, rfl, rfl, hx, ?_⟩
    refine q _ _ _ G1 _ k e1 ((s1.pop.mut (o := .lst xs.reverse) (new := .ol p ds.reverse) hj rfl rfl fun ov e => ?_).push rfl .non)
    rw [e3] at e
    cases e
    exact ⟨rfl, _, upd_same, DpAll.rev hd⟩
/-- a list in a slot or on the way as what a loop walks: it is frozen on the stack first -/
theorem iw_listO {PI : List PyData → List SD → Prop} (h : E F te δ fun r δ1 => ∃ p ds, p ∉ F.io ∧ r = .ol p ds ∧ PI ds δ1) : Iw F (iList F.K te) δ PI :=
  iw_list (E.freeze (h.mono fun r δ1 ⟨p, ds, h1, h2, h3⟩ => ⟨p, ds, h1, h2, ds, rfl, h3⟩))

/-! ### isinstance of frozen data, built-in classes -/
def tyN : PyData → String
  | .none => "NoneType"
  | .bool _ => "bool"
  | .int _ => "int"
  | .str _ => "str"
  | .list _ => "list"
  | .tuple _ => "tuple"
  | .dict _ => "dict"
theorem dp_ty {d : PyData} (e : Ex G H) (h : Dp K G v d) : TyX K H v (.type (tyN d)) := by
  cases h with
  | non => exact .base .non
  | bl b => exact .base (.bl b)
  | int i => exact .base (.int i)
  | str x => exact .base (.str x)
  | lst s a =>
    rcases ex_rd e s with q | ⟨o, q⟩
    · exact .base (.lst q)
    · exact .base (.frz q)
  | tup s a => exact .base (.tup (e _ _ s))
theorem ev_isi {n : String} (h : E F te δ fun r δ1 => ∃ d b, r = .fz d ∧ kitB (tyN d) n = some b ∧ P (.fz (.bool b)) δ1) : E F (tCB (rIsi F.K) (tCons te (tCons (tC (.ty n)) tNil))) δ P := fun τ ε G H σ Q s q =>
  h τ ε G H σ _ s fun x r δ1 G1 H1 ⟨d, b, hr, hb, k⟩ e1 s1 => by
    subst hr
    exact ⟨x, .ty n, _, _, b, rfl, .ty n, dp_ty s1.w.gh (fz_top s1), kit_ty hb, q _ _ δ1 G1 H1 k e1 (s1.pop.push rfl (.bl _))⟩
theorem ev_isi2 {m n : String} (h : E F te δ fun r δ1 => ∃ d b c, r = .fz d ∧ kitB (tyN d) m = some b ∧ kitB (tyN d) n = some c ∧ P (.fz (.bool (b || c))) δ1) : E F (tCB (rIsiT F.K) (tCons te (tCons (tTup (tCons (tC (.ty m)) (tCons (tC (.ty n)) tNil))) tNil))) δ P := fun τ ε G H σ Q s q =>
  h τ ε G H σ _ s fun x r δ1 G1 H1 ⟨d, b, c, hr, hb, hc, k⟩ e1 s1 => by
    subst hr
    refine ⟨by show 2 ≤ sizeLine; decide, fun p hp => ?_⟩
    have s2 := s1.newF (o := .tup [.ty m, .ty n]) hp
    refine ⟨x, p, [.ty m, .ty n], _, [.type m, .type n], b || c, rfl, upd_same, .cons (.ty m) (.cons (.ty n) .nil), dp_ty s2.w.gh (fz_top s2), ?_, q _ _ δ1 _ _ k (Ex.trans e1 (Ex.new (s1.w.gnone hp))) (s2.pop.push rfl (.bl _))⟩
    refine kitAny_cons (kit_ty hb) (fun z => ?_) (fun z => by rw [z]; rfl)
    refine kitAny_cons (r := b || c) (kit_ty hc) (fun z2 => ?_) (fun z2 => by rw [z2]; simp)
    rw [z, z2]
    exact kitAny_nil
end
end SL

namespace L2
theorem Room.u1 {k : Nat} {A : PySem.Around} (r : Room k A) : A.units + 1 < PySem.cLine := by have := r.un; omega
end L2
namespace SL
open PySem L2 Evl
section
variable {K : PySem.W.Frag} {F F' : Fm} {G G' H H' : Hp} {τ σ : List (Option V)} {ε δ : List SD} {v x : V} {P : PV} {te ta tb td ty tv : TE} {tt tu : TT} {ts tw : TS} {D : Ends} {N : St → Hp → Prop} {g : TG} {PT : Bool → List SD → Prop} {tr : TA} {r ra rb : SD} {ds es : List PyData}
theorem three_of {vs : List V} {r r' r'' : SD} (e : vs.length = [r, r', r''].length) : ∃ x y z, vs = [x, y, z] := by
  match vs, e with
  | [x, y, z], _ => exact ⟨x, y, z, rfl⟩
theorem rn_par {i j : Nat} (h : EA F tr δ fun rs δ1 => ∃ r1 r2 o1 o2, rs = [r1, r2] ∧ δ1[i]? = some o1 ∧ (δ1.set i r1)[j]? = some o2 ∧ Nx F D.nx ((δ1.set i r1).set j r2)) : Rn F (tPar i j tr) δ D := fun G H σ s =>
  h [] [] G H σ _ s fun vs rs δ1 G1 H1 ⟨r1, r2, o1, o2, hr, h1, h2, k⟩ e1 el s1 => by
    subst hr
    obtain ⟨x, y, rfl⟩ := two_of el
    exact ⟨x, y, rfl, k G1 H1 _ ((S2.store (S2.store s1 h1) h2))⟩
theorem rn_par3 {i j l : Nat} (h : EA F tr δ fun rs δ1 => ∃ r1 r2 r3 o1 o2 o3, rs = [r1, r2, r3] ∧ δ1[i]? = some o1 ∧ (δ1.set i r1)[j]? = some o2 ∧ ((δ1.set i r1).set j r2)[l]? = some o3 ∧ Nx F D.nx (((δ1.set i r1).set j r2).set l r3)) : Rn F (tPar3 i j l tr) δ D := fun G H σ s =>
  h [] [] G H σ _ s fun vs rs δ1 G1 H1 ⟨r1, r2, r3, o1, o2, o3, hr, h1, h2, h3, k⟩ e1 el s1 => by
    subst hr
    obtain ⟨x, y, z, rfl⟩ := three_of el
    exact ⟨x, y, z, rfl, k G1 H1 _ (S2.store (S2.store (S2.store s1 h1) h2) h3)⟩
/-- range(n) as data -/
def rgD (n : Nat) : List PyData := (List.range n).map fun i => .int (i : Nat)
theorem dpAll_rg (a b : Int) (n : Nat) (ha : a = 0) (hb : b = (n : Int)) : DpAll K G (rgV a b) (rgD n) := by
  subst ha hb
  have : rgV 0 (n : Int) = (List.range n).map fun i => V.int (i : Nat) := by
    unfold rgV
    simp
  rw [this]
  unfold rgD
  generalize List.range n = l
  induction l with
  | nil => exact .nil
  | cons c r ih => exact .cons (.int _) ih
theorem ev_tupRg {te : TE} (h : E F te δ fun r δ1 => ∃ n : Nat, r = .fz (.int (n : Int)) ∧ n < 100000 ∧ P (.fz (.tuple (rgD n))) δ1) : E F (tTupRg (tRg1 te)) δ P := fun τ ε G H σ Q s q =>
  h τ ε G H σ _ s fun x r δ1 G1 H1 ⟨n, hr, hn, k⟩ e1 s1 => by
    subst hr
    obtain rfl := dp_int (fz_top s1)
    refine ⟨(n : Int), rfl, ⟨by omega, by omega, by omega, by omega, ?_⟩, fun p hp => ?_⟩
    · refine Nat.le_trans (show _ ≤ 100000 by omega) (by decide)
    have ex := Ex.new (o := .tup (rgV 0 (n : Int))) (s1.w.gnone hp)
    exact q _ _ δ1 _ _ k (Ex.trans e1 ex) ((s1.pop.newF hp).push rfl (Dp.tup upd_same (dpAll_rg 0 _ n rfl rfl)))
theorem ev_listRg {te : TE} (h : E F te δ fun r δ1 => ∃ n : Nat, r = .fz (.int (n : Int)) ∧ n < 100000 ∧ ∀ p, p ∉ F.io → P (.ol p (rgD n)) δ1) : E F (tLstRg (tRg1 te)) δ P := fun τ ε G H σ Q s q =>
  h τ ε G H σ _ s fun x r δ1 G1 H1 ⟨n, hr, hn, k⟩ e1 s1 => by
    subst hr
    obtain rfl := dp_int (fz_top s1)
    refine ⟨(n : Int), rfl, ⟨by omega, by omega, by omega, by omega, ?_⟩, fun p hp => ?_⟩
    · refine Nat.le_trans (show _ ≤ 100000 by omega) (by decide)
    exact q _ _ δ1 _ _ (k p (s1.fresh_io hp)) e1 (s1.pop.newO hp rfl ⟨rfl, _, upd_same, dpAll_rg 0 _ n rfl rfl⟩)
theorem rn_setDT (h : E F tv δ fun r δ1 => ∃ d, r = .fz d ∧ E F td δ1 fun r2 δ2 => ∃ p, r2 = .al p ∧ E F ty δ2 fun r3 δ3 => ∃ (k : List Key) (j : Nat) (kvs : List (List Key × PyData)), r3 = .fz (.tuple (k.map keyD)) ∧ δ3[j]? = some (.ot p kvs) ∧ kvs.length < 100000 ∧ Nx F D.nx (δ3.set j (.ot p (dput kvs k d)))) :
    Rn F (tAsg tv (gSub td ty rSetD)) δ D := by
  intro G H σ s
  have := rn_dputT h G H σ s
  unfold sDPut at this
  unfold tAsg gSub rSetD
  exact this
end
end SL

namespace L2
open PySem PySem.Spec PyProof.Rows PySem.SeqAt PySem.P3
/-- xs.count(d), by data -/
def rCntD (K : PySem.W.Frag) : V → List V → Hp → VK → Prop := fun x xs H Q => ∃ (p : Addr) (y : V) (vs : List V) (ds : List PyData) (d : PyData), x = .ref p ∧ xs = [y] ∧ SqL K H p vs ∧ L2.DpAll K H vs ds ∧ L2.Dp K H y d ∧
  PyData.canLayAll0 ds = true ∧ d.canLay0 = true ∧ d.depth ≤ 60 ∧ Q (.int (ds.countP (fun e => PyData.eqv e d) : Nat)) H
theorem mt_lcountD {X : Cx} (K : PySem.W.Frag) (hu : X.A.units + 64 < cLine) (hK : X.K = K := by rfl) : MtR X "list.count" (rCntD K) := by
  subst hK
  intro pins s σ H x xs v us Q I rx rxs h
  obtain ⟨p, y, vs, ds, d, rfl, rfl, hs, hds, hd, c1, c2, hdep, q⟩ := h
  cases rx
  obtain ⟨u, rfl, ru⟩ := rxs.one
  obtain ⟨its, rv, ⟨⟨cls, dd, data, sl⟩, n, ho, hc, hdn, hdat⟩, hlen⟩ := I.list hs
  simp only at hc hdat
  subst hc hdat
  obtain ⟨as, r1⟩ := Dp.readsAll I ds vs its hds rv
  obtain ⟨bs, r2⟩ := Dp.reads I d y u hd ru
  refine call_meets PySem.F.slot_list_count ⟨_, ho, rfl⟩ PySem.F.entry_list_count (PySem.F.args_list_count_2 _ _)
    (SeqAt.list_countAt p its.toArray n dd sl u (fun y => PyData.eqv (readOf s.heap y) d)) ⟨ho, ?_, ?_⟩
  · exact items_eqAt (A := X.A) (vs := its.toArray) (xs := ds) (by simpa using r1) r2 c1 c2 (by
      have := Nat.min_le_right (PyData.depthAll ds) d.depth
      omega)
  · have ec : its.toArray.toList.countP (fun y => PyData.eqv (readOf s.heap y) d) = ds.countP (fun e => PyData.eqv e d) := by
      rw [← readsAll_map ds _ _ c1 r1, List.countP_map]
      rfl
    refine ⟨.int (ds.countP (fun e => PyData.eqv e d) : Nat), H, I.tok _, ⟨s.toks, ?_⟩, q⟩
    show Value.int ((its.toArray.toList.countP (fun y => PyData.eqv (readOf s.heap y) d) : Nat) : Int) s.toks = _
    rw [ec]
end L2
namespace SL
open PySem L2 Evl
section
variable {K : PySem.W.Frag} {F F' : Fm} {G G' H H' : Hp} {τ σ : List (Option V)} {ε δ : List SD} {v x : V} {P : PV} {te ta tb td ty tv : TE} {r ra rb : SD} {ds es : List PyData}
/-- xs.count(e) -/
theorem ev_count (h : E F ta δ fun r δ1 => ∃ ds0, LSrc δ1 r ds0 ∧ E F te δ1 fun r2 δ2 => ∃ d ds, r2 = .fz d ∧ LSrc δ2 r ds ∧ PyData.canLayAll0 ds = true ∧ d.canLay0 = true ∧ d.depth ≤ 60 ∧ P (.fz (.int (ds.countP (fun e => PyData.eqv e d) : Nat))) δ2) :
    E F (tBM F.K "list" (rCntD F.K) ta (tCons te tNil)) δ P := fun τ ε G H σ Q s q =>
  h τ ε G H σ _ s fun x r δ1 G1 H1 ⟨ds0, hl, h1⟩ e1 s1 => by
    obtain ⟨a, xs, rfl, sq, da⟩ := s1.lsrc s1.top hl
    refine ⟨.inl ⟨rfl, xs, sq⟩, ?_⟩
    refine h1 _ _ G1 H1 σ _ s1 fun y r2 δ2 G2 H2 ⟨d, ds, hr, hl2, c1, c2, c3, k⟩ e2 s2 => ?_
    subst hr
    obtain ⟨a2, ys, ha, sq2, db⟩ := s2.pop.lsrc s2.pop.top hl2
    cases ha
    refine ⟨a, y, ys, ds, d, rfl, rfl, sq2, dpAllTo _ _ (dpAllMono s2.w.gh _ _ db), dpTo _ _ (dpMono s2.w.gh _ _ (fz_top s2)), c1, c2, c3, ?_⟩
    exact q _ _ δ2 G2 H2 k (Ex.trans e1 e2) (s2.pop2.push rfl (.int _))
end
/-! ### shapes of data -/
theorem lay_all : ∀ (ds : List PyData), (∀ d ∈ ds, d.canLay0 = true) → PyData.canLayAll0 ds = true
  | [], _ => by simp [PyData.canLayAll0]
  | d :: ds, h => by
    have h1 := h d (by simp)
    have h2 := lay_all ds fun e he => h e (by simp [he])
    simp [PyData.canLayAll0, h1, h2]
theorem dep_all {k : Nat} : ∀ (ds : List PyData), (∀ d ∈ ds, d.depth ≤ k) → PyData.depthAll ds ≤ k
  | [], _ => by simp [PyData.depthAll]
  | d :: ds, h => by
    have h1 := h d (by simp)
    have h2 := dep_all ds fun e he => h e (by simp [he])
    simp only [PyData.depthAll]
    omega
theorem lay_list {ds : List PyData} (h : ∀ d ∈ ds, d.canLay0 = true) : (PyData.list ds).canLay0 = true := by
  simp [PyData.canLay0, lay_all ds h]
theorem lay_tup {ds : List PyData} (h : ∀ d ∈ ds, d.canLay0 = true) : (PyData.tuple ds).canLay0 = true := by
  simp [PyData.canLay0, lay_all ds h]
theorem dep_list {k : Nat} {ds : List PyData} (h : ∀ d ∈ ds, d.depth ≤ k) : (PyData.list ds).depth ≤ k + 1 := by
  have := dep_all ds h
  simp only [PyData.depth]
  omega
theorem dep_tup {k : Nat} {ds : List PyData} (h : ∀ d ∈ ds, d.depth ≤ k) : (PyData.tuple ds).depth ≤ k + 1 := by
  have := dep_all ds h
  simp only [PyData.depth]
  omega
theorem shaped_of {d : PyData} (h1 : d.canLay0 = true) (h2 : d.depth ≤ 60) : SeqAt.shaped d = true := by
  unfold SeqAt.shaped
  rw [h1]
  simp
  omega
theorem lay_int (i : Int) : (PyData.int i).canLay0 = true := by simp [PyData.canLay0]
theorem dep_int (i : Int) : (PyData.int i).depth ≤ 0 := by simp [PyData.depth]
/-- equal data of one shape are one -/
theorem eqv_ints : ∀ (xs ys : List Int), PyData.eqvAll (xs.map PyData.int) (ys.map PyData.int) = decide (xs = ys)
  | [], [] => by simp [PyData.eqvAll]
  | [], _ :: _ => by simp [PyData.eqvAll]
  | _ :: _, [] => by simp [PyData.eqvAll]
  | x :: xs, y :: ys => by
    have ih := eqv_ints xs ys
    simp only [List.map_cons, PyData.eqvAll, PyData.eqv, ih]
    by_cases h : x = y
    · subst h; simp
    · simp [h]
theorem eqv_tupI (xs ys : List Int) : PyData.eqv (.tuple (xs.map PyData.int)) (.tuple (ys.map PyData.int)) = decide (xs = ys) := by
  simp only [PyData.eqv, eqv_ints]
theorem eqv_lstI (xs ys : List Int) : PyData.eqv (.list (xs.map PyData.int)) (.list (ys.map PyData.int)) = decide (xs = ys) := by
  simp only [PyData.eqv, eqv_ints]
end SL

/-! instances: fields that are frozen, or names of owned dicts. -/
namespace SL
open PySem L2 Evl
inductive FS (K : PySem.W.Frag) (G : Hp) : List (Str × V) → List (Str × SD) → Prop
  | nil : FS K G [] []
  | fz {f : Str} {v : V} {d : PyData} {xs : List (Str × V)} {fs : List (Str × SD)} : Dp K G v d → FS K G xs fs → FS K G ((f, v) :: xs) ((f, .fz d) :: fs)
  | al {f : Str} {q : Addr} {xs : List (Str × V)} {fs : List (Str × SD)} : FS K G xs fs → FS K G ((f, .ref q) :: xs) ((f, .al q) :: fs)
def putS (f : Str) (v : SD) : List (Str × SD) → List (Str × SD)
  | [] => [(f, v)]
  | (g, x) :: r => if g = f then (g, v) :: r else (g, x) :: putS f v r
section
variable {K : PySem.W.Frag} {G G' : Hp} {f : Str}
theorem FS.mono (e : Ex G G') : ∀ {xs : List (Str × V)} {fs : List (Str × SD)}, FS K G xs fs → FS K G' xs fs
  | _, _, .nil => .nil
  | _, _, .fz a b => .fz (dpMono e _ _ a) (FS.mono e b)
  | _, _, .al b => .al (FS.mono e b)
theorem FS.len : ∀ {xs : List (Str × V)} {fs : List (Str × SD)}, FS K G xs fs → xs.length = fs.length
  | _, _, .nil => rfl
  | _, _, .fz _ b => by simp [FS.len b]
  | _, _, .al b => by simp [FS.len b]
theorem FS.none : ∀ {xs : List (Str × V)} {fs : List (Str × SD)}, FS K G xs fs → fs.lookup f = none → xs.lookup f = none
  | _, _, .nil, _ => rfl
  | _, _, .fz (f := g) _ b, e => by
    rw [List.lookup_cons] at e ⊢
    cases h : f == g with
    | true => rw [h] at e; cases e
    | false => rw [h] at e; exact FS.none b e
  | _, _, .al (f := g) b, e => by
    rw [List.lookup_cons] at e ⊢
    cases h : f == g with
    | true => rw [h] at e; cases e
    | false => rw [h] at e; exact FS.none b e
theorem FS.someZ {d : PyData} : ∀ {xs : List (Str × V)} {fs : List (Str × SD)}, FS K G xs fs → fs.lookup f = some (.fz d) → ∃ v, xs.lookup f = some v ∧ Dp K G v d
  | _, _, .nil, e => by cases e
  | _, _, .fz (f := g) a b, e => by
    rw [List.lookup_cons] at e
    rw [List.lookup_cons]
    cases h : f == g with
    | true => rw [h] at e; cases e; exact ⟨_, rfl, a⟩
    | false => rw [h] at e; exact FS.someZ b e
  | _, _, .al (f := g) b, e => by
    rw [List.lookup_cons] at e
    rw [List.lookup_cons]
    cases h : f == g with
    | true => rw [h] at e; cases e
    | false => rw [h] at e; exact FS.someZ b e
theorem FS.someA {q : Addr} : ∀ {xs : List (Str × V)} {fs : List (Str × SD)}, FS K G xs fs → fs.lookup f = some (.al q) → xs.lookup f = some (.ref q)
  | _, _, .nil, e => by cases e
  | _, _, .fz (f := g) a b, e => by
    rw [List.lookup_cons] at e ⊢
    cases h : f == g with
    | true => rw [h] at e; cases e
    | false => rw [h] at e; exact FS.someA b e
  | _, _, .al (f := g) b, e => by
    rw [List.lookup_cons] at e ⊢
    cases h : f == g with
    | true => rw [h] at e; cases e; rfl
    | false => rw [h] at e; exact FS.someA b e
theorem FS.putZ {v : V} {d : PyData} (h : Dp K G v d) : ∀ {xs : List (Str × V)} {fs : List (Str × SD)}, FS K G xs fs → FS K G (putF f v xs) (putS f (.fz d) fs)
  | _, _, .nil => .fz h .nil
  | _, _, .fz (f := g) a b => by
    unfold putF putS
    by_cases e : g = f
    · rw [if_pos e, if_pos e]; exact .fz h b
    · rw [if_neg e, if_neg e]; exact .fz a (FS.putZ h b)
  | _, _, .al (f := g) b => by
    unfold putF putS
    by_cases e : g = f
    · rw [if_pos e, if_pos e]; exact .fz h b
    · rw [if_neg e, if_neg e]; exact .al (FS.putZ h b)
theorem FS.putA {q : Addr} : ∀ {xs : List (Str × V)} {fs : List (Str × SD)}, FS K G xs fs → FS K G (putF f (.ref q) xs) (putS f (.al q) fs)
  | _, _, .nil => .al .nil
  | _, _, .fz (f := g) a b => by
    unfold putF putS
    by_cases e : g = f
    · rw [if_pos e, if_pos e]; exact .al b
    · rw [if_neg e, if_neg e]; exact .fz a (FS.putA b)
  | _, _, .al (f := g) b => by
    unfold putF putS
    by_cases e : g = f
    · rw [if_pos e, if_pos e]; exact .al b
    · rw [if_neg e, if_neg e]; exact .al (FS.putA b)
end
/-- what is known of an own dict -/
structure DD where
  ok : Hp → HO → Prop
  mono : ∀ {G G' : Hp} {o : HO}, Ex G G' → ok G o → ok G' o
/-- a dict of numbers and texts -/
def kD (K : PySem.W.Frag) (kvs : List (Key × PyData)) : DD where
  ok := fun G o => ∃ ys, o = .dK ys ∧ KD K G ys kvs
  mono := fun e ⟨ys, h1, h2⟩ => ⟨ys, h1, h2.mono e⟩
/-- an instance: its class, its fields, its own dicts -/
def insO (K : PySem.W.Frag) (p dx C : Addr) (fs : List (Str × SD)) (m : List (Addr × DD)) : Ow where
  fp := p :: dx :: m.map (·.1)
  R := fun G H v => v = .ref p ∧ H dx = some (.own p) ∧ (∃ xs, H p = some (.ins C dx xs) ∧ FS K G xs fs) ∧ ∀ x ∈ m, ∃ o, H x.1 = some o ∧ x.2.ok G o
  loc := fun {G G' H H' v} e k ⟨h1, h2, ⟨xs, h3, h4⟩, h5⟩ => by
    refine ⟨h1, by rw [k dx (by simp)]; exact h2, ⟨xs, by rw [k p (by simp)]; exact h3, h4.mono e⟩, fun x hx => ?_⟩
    obtain ⟨ys, h6, h7⟩ := h5 x hx
    exact ⟨ys, by rw [k x.1 (by simp only [List.mem_cons]; exact .inr (.inr (List.mem_map_of_mem hx)))]; exact h6, x.2.mono e h7⟩
section
variable {K : PySem.W.Frag} {F F' : Fm} {G G' H H' : Hp} {τ σ : List (Option V)} {ε δ : List SD} {v x : V} {P : PV} {te ta tb td ty tv : TE} {tt tu : TT} {ts tw : TS} {D : Ends} {N : St → Hp → Prop} {g : TG} {PT : Bool → List SD → Prop} {tr : TA} {r ra rb : SD} {ds es : List PyData}
  {p dx C q : Addr} {fs : List (Str × SD)} {m : List (Addr × DD)} {f : Str} {j : Nat}
theorem S2.ins_at (s : S2 F G H τ ε σ δ) (hj : δ[j]? = some (.ow (insO F.K p dx C fs m))) : σ[j]? = some (some (.ref p)) ∧ H dx = some (.own p) ∧ (∃ xs, H p = some (.ins C dx xs) ∧ FS F.K G xs fs) ∧ ∀ x ∈ m, ∃ o, H x.1 = some o ∧ x.2.ok G o := by
  obtain ⟨ov, e, ok⟩ := s.slot hj
  obtain ⟨w, rfl⟩ := sd_some (by intro z; cases z) ok
  obtain ⟨rfl, h⟩ := ok
  exact ⟨e, h⟩
theorem ev_oi {i : Nat} (h : δ[i]? = some (.ow (insO F.K p dx C fs m))) (k : P (.al p) δ) : E F (tVar i) δ P := fun τ ε G H σ Q s q => by
  obtain ⟨e, _⟩ := s.ins_at h
  exact ⟨_, e, q _ _ δ G H k (Ex.refl _) (s.push (sd := .al p) rfl rfl)⟩
/-- the object of a slot's is changed at one address -/
theorem S2.mutG {o : HO} {a : Addr} {old new : SD} (h : S2 F G H τ ε σ δ) (e : δ[j]? = some old) (ha : a ∈ old.fp) (hf : new.fp = old.fp) (hok : ∀ ov, σ[j]? = some ov → SD.ok F.K G (upd H a o) ov new) : S2 F G (upd H a o) τ ε σ (δ.set j new) := by
  obtain ⟨l, q1, q2⟩ := fps_set_perm (s' := new) e
  rw [hf] at q2
  have hp : a ∈ fps δ := q1.mem_iff.mpr (List.mem_append_left _ ha)
  have wm := h.w.mut (o := o) (List.mem_append_right (fps ε) hp)
  have n := List.nodup_append.mp h.w.nd
  refine ⟨wm.perm ((List.Perm.append_left (fps ε) (q2.trans q1.symm))), oks_mono (Ex.refl _) (fun b hb => upd_ne fun z => n.2.2 b hb a hp z) h.t, ?_⟩
  exact oks_mut h.s n.2.1 e (fun b _ hb => upd_ne fun z => hb (z ▸ ha)) hok
/-- e.f, a frozen field -/
theorem ev_fldZ (h : E F ta δ fun r δ1 => ∃ (p dx C : Addr) (fs : List (Str × SD)) (m : List (Addr × DD)) (j : Nat) (d : PyData), r = .al p ∧ δ1[j]? = some (.ow (insO F.K p dx C fs m)) ∧ Cls F.K C ∧ NoAttr F.K C f ∧ fs.lookup f = some (.fz d) ∧ P (.fz d) δ1) : E F (tFld F.K ta f) δ P := fun τ ε G H σ Q s q =>
  h τ ε G H σ _ s fun x r δ1 G1 H1 ⟨p, dx, C, fs, m, j, d, hr, hj, c, n, l, k⟩ e1 s1 => by
    subst hr
    have hx : x = .ref p := s1.top
    subst hx
    obtain ⟨_, _, ⟨xs, h3, h4⟩, _⟩ := s1.ins_at hj
    obtain ⟨v, h5, h6⟩ := FS.someZ h4 l
    exact ⟨p, C, dx, xs, v, rfl, h3, c, n, h5, q _ _ δ1 G1 H1 k e1 (s1.pop.push rfl h6)⟩
/-- e.f, a field that names an owned dict -/
theorem ev_fldA (h : E F ta δ fun r δ1 => ∃ (p dx C : Addr) (fs : List (Str × SD)) (m : List (Addr × DD)) (j : Nat) (a : Addr), r = .al p ∧ δ1[j]? = some (.ow (insO F.K p dx C fs m)) ∧ Cls F.K C ∧ NoAttr F.K C f ∧ fs.lookup f = some (.al a) ∧ P (.al a) δ1) : E F (tFld F.K ta f) δ P := fun τ ε G H σ Q s q =>
  h τ ε G H σ _ s fun x r δ1 G1 H1 ⟨p, dx, C, fs, m, j, a, hr, hj, c, n, l, k⟩ e1 s1 => by
    subst hr
    have hx : x = .ref p := s1.top
    subst hx
    obtain ⟨_, _, ⟨xs, h3, h4⟩, _⟩ := s1.ins_at hj
    exact ⟨p, C, dx, xs, _, rfl, h3, c, n, FS.someA h4 l, q _ _ δ1 G1 H1 k e1 (s1.pop.push (sd := .al a) rfl rfl)⟩
theorem ins_nd (s : S2 F G H τ ε σ δ) (hj : δ[j]? = some (.ow (insO F.K p dx C fs m))) : (p :: dx :: m.map (·.1)).Nodup := by
  obtain ⟨l, q1, _⟩ := fps_set_perm (s' := SD.no) hj
  have n := (List.nodup_append.mp s.w.nd).2.1
  have n2 := q1.nodup_iff.mp n
  exact (List.nodup_append.mp n2).1
theorem ins_upd {xs : List (Str × V)} {fs' : List (Str × SD)} (nd : (p :: dx :: m.map (·.1)).Nodup) (h2 : H dx = some (.own p)) (h5 : ∀ x ∈ m, ∃ o, H x.1 = some o ∧ x.2.ok G o) (hf : FS K G xs fs') : (insO K p dx C fs' m).R G (upd H p (.ins C dx xs)) (.ref p) := by
  have n1 := List.nodup_cons.mp nd
  refine ⟨rfl, ?_, ⟨xs, upd_same, hf⟩, fun x hx => ?_⟩
  · rw [upd_ne (fun z => n1.1 (by rw [z]; simp))]; exact h2
  · obtain ⟨ys, h6, h7⟩ := h5 x hx
    exact ⟨ys, by rw [upd_ne (fun z => n1.1 (by rw [← z]; exact List.mem_cons_of_mem _ (List.mem_map_of_mem hx)))]; exact h6, h7⟩
/-- e.f = value, frozen -/
theorem rn_fldZ (h : E F tv δ fun r δ1 => ∃ d, r = .fz d ∧ E F ta δ1 fun r2 δ2 => ∃ (p dx C : Addr) (fs : List (Str × SD)) (m : List (Addr × DD)) (j : Nat), r2 = .al p ∧ δ2[j]? = some (.ow (insO F.K p dx C fs m)) ∧ Cls F.K C ∧ NoAttr F.K C f ∧ fs.length < 1000 ∧ Nx F D.nx (δ2.set j (.ow (insO F.K p dx C (putS f (.fz d) fs) m)))) :
    Rn F (sFld F.K ta tv f) δ D := fun G H σ s => h [] [] G H σ _ s fun v r δ1 G1 H1 ⟨d, hr, h1⟩ _ s1 => by
  subst hr
  refine h1 _ _ G1 H1 σ _ s1 fun o r2 δ2 G2 H2 ⟨p, dx, C, fs, m, j, hr2, hj, c, n, hl, nx⟩ e2 s2 => ?_
  subst hr2
  have ho : o = .ref p := s2.top
  subst ho
  have hv := fz_top s2.pop
  obtain ⟨e3, h2, ⟨xs, h3, h4⟩, h5⟩ := s2.ins_at hj
  refine ⟨p, C, dx, xs, rfl, h3, c, n, by rw [FS.len h4]; exact hl, ?_⟩
  refine nx G2 _ σ (s2.pop.pop.mutG (new := .ow (insO F.K p dx C (putS f (.fz d) fs) m)) hj (by show p ∈ _; simp [SD.fp, insO]) rfl fun ov e => ?_)
  rw [e3] at e
  cases e
  exact ins_upd (ins_nd s2 hj) h2 h5 (FS.putZ hv h4)
/-- e.f = a dict on the stack, the instance's own from now on -/
theorem rn_fldD (h : E F tv δ fun r δ1 => ∃ q kvs, r = .od q kvs ∧ E F ta δ1 fun r2 δ2 => ∃ (p dx C : Addr) (fs : List (Str × SD)) (m : List (Addr × DD)) (j : Nat), r2 = .al p ∧ δ2[j]? = some (.ow (insO F.K p dx C fs m)) ∧ Cls F.K C ∧ NoAttr F.K C f ∧ fs.length < 1000 ∧ Nx F D.nx (δ2.set j (.ow (insO F.K p dx C (putS f (.al q) fs) (m ++ [(q, kD F.K kvs)]))))) :
    Rn F (sFld F.K ta tv f) δ D := fun G H σ s => h [] [] G H σ _ s fun v r δ1 G1 H1 ⟨q, kvs, hr, h1⟩ _ s1 => by
  subst hr
  refine h1 _ _ G1 H1 σ _ s1 fun o r2 δ2 G2 H2 ⟨p, dx, C, fs, m, j, hr2, hj, c, n, hl, nx⟩ e2 s2 => ?_
  subst hr2
  have ho : o = .ref p := s2.top
  subst ho
  have s3 := s2.pop
  obtain ⟨hv, ys, hys, hkd⟩ := s3.top
  have hv' : v = .ref q := hv
  subst hv'
  obtain ⟨e3, h2, ⟨xs, h3, h4⟩, h5⟩ := s3.ins_at hj
  refine ⟨p, C, dx, xs, rfl, h3, c, n, by rw [FS.len h4]; exact hl, ?_⟩
  -- the dict's address goes to the slot
  obtain ⟨l, q1, q2⟩ := fps_set_perm (s' := SD.ow (insO F.K p dx C (putS f (.al q) fs) (m ++ [(q, kD F.K kvs)]))) hj
  have w3 : Wd F G2 H2 (q :: fps δ2) := s3.w
  have f1 : (SD.ow (insO F.K p dx C fs m)).fp = p :: dx :: m.map (·.1) := rfl
  have f2 : (SD.ow (insO F.K p dx C (putS f (.al q) fs) (m ++ [(q, kD F.K kvs)]))).fp = p :: dx :: (m.map (·.1) ++ [q]) := by
    show p :: dx :: (m ++ [(q, kD F.K kvs)]).map (·.1) = _
    rw [List.map_append]; rfl
  rw [f1] at q1
  rw [f2] at q2
  have w4 : Wd F G2 H2 ((p :: dx :: (m.map (·.1) ++ [q])) ++ l) := w3.perm (by
    refine List.Perm.trans ?_ (List.Perm.cons q q1.symm)
    have : (p :: dx :: (m.map (·.1) ++ [q])) ++ l = (p :: dx :: m.map (·.1)) ++ (q :: l) := by simp
    rw [this]
    exact List.perm_middle)
  have nd := w4.nd
  have nd2 : (p :: dx :: (m.map (·.1) ++ [q])).Nodup := (List.nodup_append.mp nd).1
  have wm := w4.mut (o := .ins C dx (putF f (.ref q) xs)) (p := p) (by simp)
  have n1 := List.nodup_cons.mp nd2
  refine nx G2 _ σ ⟨wm.perm q2, trivial, ?_⟩
  have n3 : (q :: fps δ2).Nodup := w3.nd
  refine oks_mut (old := .ow (insO F.K p dx C fs m)) s3.s (List.nodup_cons.mp n3).2 hj (fun b _ hb => upd_ne fun z => hb (by rw [z, f1]; simp)) fun ov e => ?_
  rw [e3] at e
  cases e
  refine ⟨rfl, ?_, ⟨_, upd_same, FS.putA h4⟩, fun x hx => ?_⟩
  · rw [upd_ne (fun z => n1.1 (by rw [z]; simp))]; exact h2
  · rcases List.mem_append.mp hx with hx | hx
    · obtain ⟨zs, h6, h7⟩ := h5 x hx
      exact ⟨zs, by rw [upd_ne (fun z => n1.1 (by rw [← z]; exact List.mem_cons_of_mem _ (List.mem_append_left _ (List.mem_map_of_mem hx))))]; exact h6, h7⟩
    · have : x = (q, kD F.K kvs) := by simpa using hx
      subst this
      exact ⟨.dK ys, by rw [upd_ne (fun z => n1.1 (by rw [← z]; simp))]; exact hys, ys, rfl, hkd⟩
/-- {} as an owned dict of numbers and texts -/
theorem ev_dnewK (k : ∀ p, p ∉ F.io → P (.od p []) δ) : E F tDNewK δ P := fun τ ε G H σ Q s q => fun p hp =>
  q _ _ δ G _ (k p (s.fresh_io hp)) (Ex.refl _) (s.newO hp rfl ⟨rfl, [], upd_same, .nil⟩)
/-- where a dict of numbers and texts stands -/
inductive DSrc (K : PySem.W.Frag) (δ : List SD) : Addr → List (Key × PyData) → Prop
  | od {q : Addr} {kvs : List (Key × PyData)} (j : Nat) : δ[j]? = some (.od q kvs) → DSrc K δ q kvs
  | ins {q p dx C : Addr} {fs : List (Str × SD)} {m : List (Addr × DD)} {kvs : List (Key × PyData)} (j : Nat) : δ[j]? = some (.ow (insO K p dx C fs m)) → (q, kD K kvs) ∈ m → DSrc K δ q kvs
theorem S2.dsrc {kvs : List (Key × PyData)} (s : S2 F G H τ ε σ δ) (h : DSrc F.K δ q kvs) : ∃ ys, H q = some (.dK ys) ∧ KD F.K G ys kvs := by
  cases h with
  | od j hj =>
    obtain ⟨ov, e, ok⟩ := s.slot hj
    obtain ⟨w, rfl⟩ := sd_some (by intro z; cases z) ok
    exact ok.2
  | ins j hj hm =>
    obtain ⟨o, h1, ys, rfl, h2⟩ := (s.ins_at hj).2.2.2 _ hm
    exact ⟨ys, h1, h2⟩
theorem ev_dnotinK (h : E F ty δ fun r δ1 => ∃ k : Key, r = .fz (keyD k) ∧ E F td δ1 fun r2 δ2 => ∃ (q : Addr) (kvs : List (Key × PyData)), r2 = .al q ∧ DSrc F.K δ2 q kvs ∧ P (.fz (.bool (!(dlook kvs k).isSome))) δ2) : E F (tDNotIn ty td) δ P := fun τ ε G H σ Q s q =>
  h τ ε G H σ _ s fun y r δ1 G1 H1 ⟨k, hr, h1⟩ e1 s1 => by
    subst hr
    have hy := fz_top s1
    refine h1 _ _ G1 H1 σ _ s1 fun x r2 δ2 G2 H2 ⟨p, kvs, hr2, hj, k2⟩ e2 s2 => ?_
    subst hr2
    have hx : x = .ref p := s2.top
    subst hx
    obtain rfl := dp_key hy
    obtain ⟨xs, hxs, kd⟩ := s2.dsrc hj
    refine ⟨p, _, rfl, DGet.k hxs, ?_⟩
    have e : (valV xs k).isSome = (dlook kvs k).isSome := by
      cases q1 : dlook kvs k with
      | none => rw [KD.none kd q1]; rfl
      | some d => obtain ⟨v, hv, _⟩ := KD.some kd q1; rw [hv]; rfl
    rw [e]
    exact q _ _ δ2 G2 H2 k2 (Ex.trans e1 e2) (s2.pop2.push rfl (.bl _))
theorem ev_dgetK (h : E F td δ fun r δ1 => ∃ p, r = .al p ∧ E F ty δ1 fun r2 δ2 => ∃ (k : Key) (kvs : List (Key × PyData)) (d : PyData), r2 = .fz (keyD k) ∧ DSrc F.K δ2 p kvs ∧ dlook kvs k = some d ∧ P (.fz d) δ2) : E F (tDGet td ty) δ P := fun τ ε G H σ Q s q =>
  h τ ε G H σ _ s fun x r δ1 G1 H1 ⟨p, hr, h1⟩ e1 s1 => by
    subst hr
    have hx : x = .ref p := s1.top
    subst hx
    refine h1 _ _ G1 H1 σ _ s1 fun y r2 δ2 G2 H2 ⟨k, kvs, d, hr2, hj, hd, k2⟩ e2 s2 => ?_
    subst hr2
    obtain rfl := dp_key (fz_top s2)
    obtain ⟨xs, hxs, kd⟩ := s2.dsrc hj
    obtain ⟨v, hv, hdp⟩ := KD.some kd hd
    refine ⟨p, v, rfl, ?_, q _ _ δ2 G2 H2 k2 (Ex.trans e1 e2) (s2.pop2.push rfl hdp)⟩
    rw [← hv]
    exact DGet.k hxs
/-- d[k] = v, d the only own dict of the instance in slot j -/
theorem rn_setDI (h : E F tv δ fun r δ1 => ∃ d, r = .fz d ∧ E F td δ1 fun r2 δ2 => ∃ q, r2 = .al q ∧ E F ty δ2 fun r3 δ3 => ∃ (k : Key) (j : Nat) (p dx C : Addr) (fs : List (Str × SD)) (kvs : List (Key × PyData)), r3 = .fz (keyD k) ∧
      δ3[j]? = some (.ow (insO F.K p dx C fs [(q, kD F.K kvs)])) ∧ kvs.length < 100000 ∧ Nx F D.nx (δ3.set j (.ow (insO F.K p dx C fs [(q, kD F.K (dput kvs k d))])))) :
    Rn F (tAsg tv (gSub td ty rSetD)) δ D := fun G H σ s => h [] [] G H σ _ s fun v r δ1 G1 H1 ⟨d, hr, h1⟩ _ s1 => by
  subst hr
  refine h1 _ _ G1 H1 σ _ s1 fun x r2 δ2 G2 H2 ⟨q, hr2, h2⟩ e2 s2 => ?_
  subst hr2
  have hx : x = .ref q := s2.top
  subst hx
  refine h2 _ _ G2 H2 σ _ s2 fun y r3 δ3 G3 H3 ⟨k, j, p, dx, C, fs, kvs, hr3, hj, hl, nx⟩ e3 s3 => ?_
  subst hr3
  obtain rfl := dp_key (fz_top s3)
  obtain ⟨e4, g2, ⟨xs, g3, g4⟩, g5⟩ := s3.ins_at hj
  obtain ⟨_, hys, ys, rfl, kd⟩ := g5 (q, kD F.K kvs) (by simp)
  have hv := fz_top s3.pop.pop
  have hl' : ys.length = kvs.length := KD.len kd
  have nd := ins_nd s3 hj
  have n1 := List.nodup_cons.mp nd
  have n2 := List.nodup_cons.mp n1.2
  refine ⟨q, _, rfl, DPut.k hys (Nat.lt_of_lt_of_le (show ys.length < 100000 by omega) (by decide)), ?_⟩
  refine nx G3 _ σ (s3.pop.pop.pop.mutG (o := .dK (putK ys k v)) (new := .ow (insO F.K p dx C fs [(q, kD F.K (dput kvs k d))])) hj (by show q ∈ _; simp [SD.fp, insO]) rfl fun ov e => ?_)
  rw [e4] at e
  cases e
  refine ⟨rfl, ?_, ⟨xs, ?_, g4⟩, fun z hz => ?_⟩
  · rw [upd_ne (fun z => n2.1 (by rw [z]; simp))]; exact g2
  · rw [upd_ne (fun z => n1.1 (by rw [z]; simp))]; exact g3
  · have : z = (q, kD F.K (dput kvs k d)) := by simpa using hz
    subst this
    exact ⟨_, upd_same, _, rfl, KD.put hv kd⟩

/-! ### a def whose first argument is an owned thing -/
abbrev WO := SD → List PyData → (SD → SD → Prop) → Prop
def SpO (K : PySem.W.Frag) (W : WO) : Sp := fun vs H Q _ => ∃ G v0 ws r0 as post, vs = v0 :: ws ∧ Ex G H ∧ SD.ok K G H (some v0) r0 ∧ (∀ a ∈ r0.fp, G a = none ∧ ∃ o, H a = some o) ∧ r0.fp.Nodup ∧ DpAll K G ws as ∧ W r0 as post ∧
  ∀ r r1, post r r1 → (∀ a ∈ r0.fp, a ∈ r1.fp) → ∀ v G' H', S2 ⟨K, G, H, r0.fp⟩ G' H' [some v] [r] [some v0] [r1] → Q v H'
theorem S2.callO {G1 H1 : Hp} {r r0 r1 : SD} {v0 : V} (s : S2 F G H τ ε σ δ) (hj : δ[j]? = some r0) (hv : σ[j]? = some (some v0)) (c : S2 ⟨F.K, G, H, r0.fp⟩ G1 H1 [some v] [r] [some v0] [r1]) : S2 F G1 H1 (some v :: τ) (r :: ε) σ (δ.set j r1) := by
  have w := c.w
  have wf : fps [r] ++ fps [r1] = r.fp ++ r1.fp := by simp [fps]
  obtain ⟨l, q1, q2⟩ := fps_set_perm (s' := r1) hj
  have pd : (fps ε ++ fps δ).Perm (r0.fp ++ (fps ε ++ l)) := by
    refine (List.Perm.append_left (fps ε) q1).trans ?_
    rw [← List.append_assoc, ← List.append_assoc]
    exact List.Perm.append_right l List.perm_append_comm
  have pn : ((r.fp ++ fps ε) ++ fps (δ.set j r1)).Perm ((r.fp ++ r1.fp) ++ (fps ε ++ l)) := by
    refine (List.Perm.append_left _ q2).trans ?_
    rw [List.append_assoc, List.append_assoc]
    refine List.Perm.append_left _ ?_
    rw [← List.append_assoc, ← List.append_assoc]
    exact List.Perm.append_right l List.perm_append_comm
  have ndd := pd.nodup_iff.mp s.w.nd
  have nd3 := List.nodup_append.mp ndd
  have inD : ∀ a, a ∈ fps ε ++ l → a ∈ fps ε ++ fps δ := fun a ha => pd.mem_iff.mpr (List.mem_append_right _ ha)
  have in0 : ∀ a, a ∈ r0.fp → a ∈ fps ε ++ fps δ := fun a ha => pd.mem_iff.mpr (List.mem_append_left _ ha)
  have not0 : ∀ a, a ∈ fps ε ++ l → a ∉ r0.fp := fun a ha h0 => nd3.2.2 a h0 a ha rfl
  have hk : ∀ a ∈ fps ε ++ l, H1 a = H a := fun a ha => by
    obtain ⟨_, o, e⟩ := s.w.own a (inD a ha)
    rw [e]
    exact w.fr a o e (not0 a ha)
  have gnew : ∀ a ∈ fps ε ++ fps δ, G1 a = none := fun a ha => by
    obtain ⟨gn, o, e⟩ := s.w.own a ha
    cases z1 : G1 a with
    | none => rfl
    | some u =>
      rcases w.nw a u z1 with z | z
      · rw [show G a = some u from z] at gn; cases gn
      · rw [show H a = none from z] at e; cases e
  have orig : ∀ a ∈ r.fp ++ r1.fp, a ∈ r0.fp ∨ H a = none := fun a ha => w.of a (by rw [wf]; exact ha)
  refine ⟨⟨w.gh, ?_, ?_, Ex.trans s.w.g0 w.g0, ?_, ?_, ?_, ?_⟩, ⟨c.top, oks_mono w.g0 (fun a ha => hk a (List.mem_append_left _ ha)) s.t⟩, ?_⟩
  · intro a ha
    rcases List.mem_append.mp (pn.mem_iff.mp ha) with z | z
    · exact w.own a (by rw [wf]; exact z)
    · exact ⟨gnew a (inD a z), by rw [hk a z]; exact (s.w.own a (inD a z)).2⟩
  · refine pn.nodup_iff.mpr (List.nodup_append.mpr ⟨by have := w.nd; rw [wf] at this; exact this, nd3.2.1, fun a ha b hb e => ?_⟩)
    subst e
    rcases orig a ha with z | z
    · exact not0 a hb z
    · obtain ⟨_, o, e⟩ := s.w.own a (inD a hb)
      rw [z] at e; cases e
  · intro a o e hi
    refine w.fr a o (s.w.fr a o e hi) fun z => ?_
    rcases s.w.of a (in0 a z) with z2 | z2
    · exact hi z2
    · rw [z2] at e; cases e
  · intro a o e
    rcases w.nw a o e with z | z
    · exact s.w.nw a o z
    · exact .inr (s.w.h0none z)
  · intro a ha
    rcases List.mem_append.mp (pn.mem_iff.mp ha) with z | z
    · rcases orig a z with y | y
      · exact s.w.of a (in0 a y)
      · exact .inr (s.w.h0none y)
    · exact s.w.of a (inD a z)
  · intro a ha
    obtain ⟨o, e⟩ := s.w.io a ha
    by_cases z : a ∈ r0.fp
    · exact w.io a z
    · exact ⟨o, w.fr a o e z⟩
  · have s1 : Oks F.K G1 H σ δ := oks_mono w.g0 (fun _ _ => rfl) s.s
    refine oks_mut s1 (List.nodup_append.mp s.w.nd).2.1 hj (fun a hm ha => ?_) (fun ov e => ?_)
    · refine hk a ?_
      rcases List.mem_append.mp (pd.mem_iff.mp (List.mem_append_right (fps ε) hm)) with z | z
      · exact (ha z).elim
      · exact z
    · rw [hv] at e
      cases e
      exact c.s.1
/-- what S2 says of a slot, for a call -/
theorem S2.own_of {r0 : SD} (s : S2 F G H τ ε σ δ) (hj : δ[j]? = some r0) : (∀ a ∈ r0.fp, G a = none ∧ ∃ o, H a = some o) ∧ r0.fp.Nodup := by
  obtain ⟨l, q1, _⟩ := fps_set_perm (s' := SD.no) hj
  refine ⟨fun a ha => s.w.own a (List.mem_append_right _ (q1.mem_iff.mpr (List.mem_append_left _ ha))), ?_⟩
  have n := (List.nodup_append.mp s.w.nd).2.1
  exact (List.nodup_append.mp (q1.nodup_iff.mp n)).1
theorem new_io {G1 H1 : Hp} {r r0 r1 : SD} {v0 : V} (s : S2 F G H τ ε σ δ) (c : S2 ⟨F.K, G, H, r0.fp⟩ G1 H1 [some v] [r] [some v0] [r1]) (hs : ∀ a ∈ r0.fp, a ∈ r1.fp) : ∀ a ∈ r.fp, a ∉ F.io := fun a ha hi => by
  have wf : fps [r] ++ fps [r1] = r.fp ++ r1.fp := by simp [fps]
  obtain ⟨o, e⟩ := s.w.io a hi
  rcases c.w.of a (by rw [wf]; exact List.mem_append_left _ ha) with z | z
  · have nd := c.w.nd
    rw [wf] at nd
    exact (List.nodup_append.mp nd).2.2 a ha a (hs a z) rfl
  · rw [show H a = none from z] at e; cases e
/-- o.m(..), o the instance in slot j -/
theorem ev_meth {W : WO} {X0 : XK} {mn : Str} (h : E F ta δ fun r δ1 => ∃ (p dx : Addr) (fs : List (Str × SD)) (m : List (Addr × DD)) (j : Nat), r = .al p ∧ δ1[j]? = some (.ow (insO F.K p dx C fs m)) ∧ fs.lookup mn = none ∧ EA F tr δ1 fun rs δ2 => ∃ (as : List PyData) (dx' C' : Addr) (fs' : List (Str × SD)) (m' : List (Addr × DD)), rs = as.map SD.fz ∧ δ2[j]? = some (.ow (insO F.K p dx' C' fs' m')) ∧
      W (.ow (insO F.K p dx' C' fs' m')) as fun r r1 => (∀ a ∈ r.fp, a ∉ F.io) → P r (δ2.set j r1)) : E F (tMeth C mn (SpO F.K W) [] X0 ta tr) δ P := fun τ ε G H σ Q s q =>
  h τ ε G H σ _ s fun x r δ1 G1 H1 ⟨p, dx, fs, m, j, hr, hj, hl, h1⟩ e1 s1 => by
    subst hr
    have hx : x = .ref p := s1.top
    subst hx
    obtain ⟨_, _, ⟨xs, h3, h4⟩, _⟩ := s1.ins_at hj
    refine ⟨p, dx, xs, rfl, h3, FS.none h4 hl, ?_⟩
    refine h1 _ _ G1 H1 σ _ s1.pop fun vs rs δ2 G2 H2 ⟨as, dx', C', fs', m', hrs, hj2, k⟩ e2 el s2 => ?_
    subst hrs
    rw [List.append_nil]
    have sp := Oks.split (by simpa using el) s2.t
    have s0 := S2.popN el s2
    obtain ⟨e3, g2, g3, g5⟩ := s0.ins_at hj2
    obtain ⟨ow, nd⟩ := s0.own_of hj2
    refine ⟨G2, .ref p, vs, SD.ow (insO F.K p dx' C' fs' m'), as, _, rfl, s2.w.gh, ⟨rfl, g2, g3, g5⟩, ow, nd, oks_fz sp.1, k, fun r r1 pp hs v G' H' c => ?_⟩
    exact q v r _ G' H' (pp (new_io s0 c hs)) (Ex.trans (Ex.trans e1 e2) c.w.g0) (s0.callO hj2 e3 c)
/-- a call of a def, its first argument an instance in slot j -/
theorem ev_callO {W : WO} {X0 : XK} (h : EA F tr δ fun rs δ1 => ∃ (p dx C : Addr) (fs : List (Str × SD)) (m : List (Addr × DD)) (j : Nat) (as : List PyData), rs = .al p :: as.map SD.fz ∧ δ1[j]? = some (.ow (insO F.K p dx C fs m)) ∧ W (.ow (insO F.K p dx C fs m)) as fun r r1 => (∀ a ∈ r.fp, a ∉ F.io) → P r (δ1.set j r1)) : E F (tCall (SpO F.K W) [] X0 tr) δ P := fun τ ε G H σ Q s q =>
  h τ ε G H σ _ s fun vs rs δ1 G1 H1 ⟨p, dx, C, fs, m, j, as, hrs, hj, k⟩ e1 el s1 => by
    subst hrs
    rw [List.append_nil]
    have sp := Oks.split (by simpa using el) s1.t
    have s0 := S2.popN el s1
    obtain ⟨e3, g2, g3, g5⟩ := s0.ins_at hj
    obtain ⟨ow, nd⟩ := s0.own_of hj
    match vs, el, sp with
    | w :: ws, el, sp =>
      obtain ⟨hw, hws⟩ := sp.1
      have hw' : w = .ref p := hw
      subst hw'
      refine ⟨G1, .ref p, ws, SD.ow (insO F.K p dx C fs m), as, _, rfl, s1.w.gh, ⟨rfl, g2, g3, g5⟩, ow, nd, oks_fz hws, k, fun r r1 pp hs v G' H' c => ?_⟩
      exact q v r _ G' H' (pp (new_io s0 c hs)) (Ex.trans e1 c.w.g0) (s0.callO hj e3 c)
/-- C(..): a new instance -/
theorem ev_make {W : WO} {X0 : XK} (h : EA F tr δ fun rs δ1 => ∃ as, rs = as.map SD.fz ∧ ∀ p dx, p ∉ F.io → dx ∉ F.io → W (.ow (insO F.K p dx C [] [])) as fun r r1 => r = .fz .none ∧ P r1 δ1) : E F (tMake C (SpO F.K W) [] X0 tr) δ P := fun τ ε G H σ Q s q =>
  h τ ε G H σ _ s fun vs rs δ1 G1 H1 ⟨as, hrs, k⟩ e1 el s1 => by
    subst hrs
    intro x dx hx hdx hne
    rw [List.append_nil]
    have sp := Oks.split (by simpa using el) s1.t
    have s0 := S2.popN el s1
    have pio := s0.fresh_io hx
    have dio := s0.fresh_io hdx
    have hx2 : upd H1 dx (.own x) x = none := by rw [upd_ne (fun z => hne z.symm)]; exact hx
    -- the new objects stand in a slot ahead of the others
    have w1 := (s0.w.newO (o := .own x) hdx).newO (o := .ins C dx []) hx2
    have k1 : ∀ a ∈ fps ε ++ fps δ1, upd (upd H1 dx (.own x)) x (.ins C dx []) a = H1 a := fun a ha => by
      have n1 : a ≠ x := fun z => s0.w.pnotin hx (z ▸ ha)
      have n2 : a ≠ dx := fun z => s0.w.pnotin hdx (z ▸ ha)
      rw [upd_ne n1, upd_ne n2]
    have okx : (insO F.K x dx C [] []).R G1 (upd (upd H1 dx (.own x)) x (.ins C dx [])) (.ref x) := ⟨rfl, by rw [upd_ne hne, upd_same], ⟨[], upd_same, .nil⟩, fun z hz => by simp at hz⟩
    have s2 : S2 F G1 (upd (upd H1 dx (.own x)) x (.ins C dx [])) τ ε (some (.ref x) :: σ) (.ow (insO F.K x dx C [] []) :: δ1) := by
      refine ⟨w1.perm ?_, oks_mono (Ex.refl _) (fun a ha => k1 a (List.mem_append_left _ ha)) s0.t, ⟨okx, oks_mono (Ex.refl _) (fun a ha => k1 a (List.mem_append_right _ ha)) s0.s⟩⟩
      show (fps ε ++ (([x, dx] : List Addr) ++ fps δ1)).Perm (([x, dx] : List Addr) ++ (fps ε ++ fps δ1))
      rw [← List.append_assoc, ← List.append_assoc]
      exact List.Perm.append_right _ List.perm_append_comm
    obtain ⟨ow, nd⟩ := s2.own_of (j := 0) rfl
    have da := oks_fz sp.1
    refine ⟨G1, .ref x, vs, SD.ow (insO F.K x dx C [] []), as, _, rfl, s2.w.gh, okx, ow, nd, da, k x dx pio dio, fun r r1 ⟨hr, pp⟩ hs v G' H' c => ?_⟩
    subst hr
    have s3 := (s2.callO (j := 0) rfl rfl c)
    refine ⟨dp_non (fz_top s3), ?_⟩
    have s4 := s3.pop
    have s5 : S2 F G' H' (some (.ref x) :: τ) (r1 :: ε) σ δ1 := by
      refine ⟨s4.w.perm ?_, ⟨s4.s.1, s4.t⟩, s4.s.2⟩
      show ((r1.fp ++ fps ε) ++ fps δ1).Perm (fps ε ++ (r1.fp ++ fps δ1))
      rw [← List.append_assoc]
      exact List.Perm.append_right _ List.perm_append_comm
    exact q _ _ δ1 G' H' pp (Ex.trans e1 c.w.g0) s5
/-- what stands in the slot is the object at p -/
def Pins (K : PySem.W.Frag) (r : SD) (p : Addr) : Prop := r ≠ .no ∧ ∀ G H v, SD.ok K G H (some v) r → v = .ref p
theorem pins_ins : Pins K (.ow (insO K p dx C fs m)) p := ⟨fun z => (by cases z), fun G H v h => h.1⟩
/-- the body of a def whose first argument is an owned thing -/
theorem bodyO {W : WO} {N : List Str} {vs : List V} {Q : VK} {X0 : XK} {t : TS} (h : SpO K W vs H Q X0)
    (hb : ∀ F r0 as post, F.K = K → F.io = r0.fp → W r0 as post → (∀ r δ r1 p, δ[0]? = some r1 → Pins K r0 p → Pins K r1 p → post r r1 → (∀ a ∈ r0.fp, a ∈ r1.fp) → Ro F Q r δ) → Rn F t (startD N.length (r0 :: as.map SD.fz)) { nx := fun _ H' => Q .non H', rt := Q }) : t { nx := fun _ H' => Q .non H', rt := Q } (L2.start N vs) H := by
  obtain ⟨G, v0, ws, r0, as, post, rfl, ex, ok, ow, nd, da, w, k⟩ := h
  refine hb ⟨K, G, H, r0.fp⟩ r0 as post rfl rfl w (fun r δ r1 p h0 p0 p1 pp hs v G' H' σ s => ?_) G H _ ?_
  · refine k r r1 pp hs v G' H' ?_
    have ev0 : v0 = .ref p := p0.2 G H v0 ok
    match δ, h0, s with
    | d :: δ', h0, s =>
      have e : d = r1 := by simpa using h0
      subst e
      have s0 := s.s
      match σ, s0 with
      | ov :: σ', s0 =>
        obtain ⟨vv, rfl⟩ := sd_some p1.1 s0.1
        have e2 : vv = .ref p := p1.2 G' H' vv s0.1
        subst e2
        subst ev0
        refine ⟨s.w.sub ?_, s.t, ⟨s0.1, trivial⟩⟩
        show (fps [r] ++ (d.fp ++ [])).Sublist (fps [r] ++ (d.fp ++ fps δ'))
        exact List.Sublist.append_left (List.Sublist.append_left (List.nil_sublist _) _) _
  · have hl : fps (startD N.length (r0 :: as.map SD.fz)) = r0.fp := by
      unfold startD
      rw [fps_app, fps_no]
      show (r0.fp ++ fps (as.map SD.fz)) ++ [] = r0.fp
      rw [fps_fz]
      simp
    refine ⟨?_, trivial, ?_⟩
    · show Wd _ G H (fps [] ++ _)
      rw [hl]
      exact ⟨ex, ow, nd, Ex.refl _, fun a o e _ => e, fun a o e => .inl e, fun a ha => .inl ha, fun a ha => (ow a ha).2⟩
    · unfold L2.start startD
      have e1 : (r0 :: as.map SD.fz).length = (v0 :: ws).length := by simp [DpAll.len da]
      rw [e1]
      exact Oks.app (τ := (v0 :: ws).map some) ⟨ok, oks_ofDp da⟩ (oks_nones _)
end
end SL
namespace L2
open PySem
theorem ps_fld' {X : Cx} {o value : Expr} {f : Str} {pos pos' : Pos} {ta tv : TE} (K : PySem.W.Frag) (ha : PE X o ta) (hv : PE X value tv) (hs : swapsWith value (some (.Attribute o f pos')) pos.line X.env = pure false := by rfl) (hK : X.K = K := by rfl) : PS X (.Assign [.Attribute o f pos'] value pos) (sFld K ta tv f) := hK ▸ ps_fld ha hv hs
end L2

/-! defs that are called while no text of an object is being made (repr of lists asks for that). -/
namespace L2
open PySem PySem.Spec PyProof.Rows
/-- a def, where no guards stand around its call -/
structure FnG (P : Program) (w : World) (K : PySem.W.Frag) (mg : Str → Option Value) (base : Heap) (k : Nat) (f : Addr) (fd : FuncData) (ps : List Str) (sp : Sp) : Prop where
  len : ∀ vs H Q, sp vs H Q E0 → vs.length = ps.length
  go : ∀ {A : Around} {outer : List Env} {s : Shared} {H : Hp} {args : Args} {us : List Value} {vs : List V} {Q : VK}, A.guards = some [] → Room k A → Env0 P w K mg base A outer s H → BindsTo s fd args (ps.zip us) → Vals vs us → sp vs H Q E0 →
    codeAny (model P w) A (.call (.ref f) args) (CR CX0 outer P w H s Q E0) s
theorem FnG.ofOk {P : Program} {w : World} {K : PySem.W.Frag} {mg : Str → Option Value} {base : Heap} {k : Nat} {f : Addr} {fd : FuncData} {ps : List Str} {sp : Sp} (h : FnOk P w K mg base CX0 k f fd ps sp) : FnG P w K mg base k f fd ps sp :=
  ⟨fun vs H Q q => h.len vs H Q _ q, fun _ hr e0 hb r q => h.run _ _ _ _ _ _ _ _ _ hr e0 hb r q⟩
section
variable {P : Program} {w : World} {K : PySem.W.Frag} {mg : Str → Option Value} {base : Heap}
theorem Fun.okG {x qual : Str} {st : Stmt} {f : Addr} {fd : FuncData} {N ps : List Str} {k : Nat} {sp : Sp} (F : Fun K x qual st f fd) (S : FnScope N ps (defScope st)) (len : ∀ vs H Q, sp vs H Q E0 → vs.length = ps.length)
    (body : ∀ (cdv : Value) (A : Around) (outer : List Env) (s : Shared) (H : Hp) (vs : List V) (Q : VK), A.guards = some [] → Room k (A.deeper (envOfC qual (defScope st) s.heap.objs.size f cdv)) → sp vs H Q E0 →
      ∃ t, PSs (cxOf CX0 P w K mg base N qual (defScope st) f cdv A outer s H E0).nox (defBody st) t ∧ t { nx := fun _ H' => Q .non H', rt := Q } (start N vs) H) : FnG P w K mg base (k + 1) f fd ps sp := by
  obtain ⟨oc, od, kV, doc, pm, an, cdv, ct, osl, rfl, lk, hcd⟩ := F.ex
  constructor
  · exact len
  intro A outer s H args us vs Q hgd hr e0 hb r hsp
  have old : ∀ b o, base.get? b = some o → s.heap.get? b = some o := fun b o e => (e0.bs b o e).1
  have kin : K.In s.heap := e0.mod.kin.keeps old
  have par : ∀ y ∈ ps.zip us, (defScope st).names.lookup y.1 = some .local ∨ ((defScope st).names.lookup y.1 = some .cell ∧ ((cellsFrom (s.heap.objs.size + 1) (defScope st).names []).lookup y.1).isSome = true) := by
    rintro ⟨n, v⟩ hy
    rcases S.par n (List.of_mem_zip hy).1 with q | q
    · exact .inl q
    · exact .inr ⟨q, PySem.W.cellsFrom_some _ _ _ (.inl q)⟩
  obtain ⟨t, ht, hq⟩ := body cdv A outer s H vs Q hgd (hr.deeper _) hsp
  refine codeAny_call_function hr.depth (kin _ _ lk) rfl S.co S.gen rfl (PySem.W.codeRec_of kin hcd) (hb _ _ _ _ (wpAny_newFunctionEnv_cells S.kind par fun env he s1 x => ?_))
  subst he
  refine ⟨(e0.mod.nolimit.keeps old).keeps x.toInCall.keep, codeAny_func ?_⟩
  have start := inv_start (CX := CX0) (N := N) (E := E0) S hr.hd e0 (len _ _ _ hsp) r x
  refine wpAny_mono (ht.nox.run [] s1 _ H _ start hq) (fun fl s' hs => ?_) fun e s' hs => hs
  match fl, hs with
  | .ret u, ⟨v, σ', H', J, rv, q⟩ => exact ⟨v, H', J.os, J.bare, J.base, J.hok, rv, q⟩
  | .next, ⟨σ', H', J, q⟩ => exact ⟨.non, H', J.os, J.bare, J.base, J.hok, rfl, q⟩
  | .brk, ⟨_, _, _, q⟩ => exact q.elim
  | .cont, ⟨_, _, _, q⟩ => exact q.elim
end
section
variable {X : Cx} {k j : Nat} {x : Str} {sp : Sp} {p pos : Pos} {e : Expr} {es : List Expr} {t : TA}
/-- such a def by its name -/
structure CalG (P : Program) (w : World) (K : PySem.W.Frag) (mg : Str → Option Value) (base : Heap) (k : Nat) (x : Str) (sp : Sp) : Prop where
  ex : ∃ (f : Addr) (fd : FuncData) (ps : List Str), FnG P w K mg base k f fd ps sp ∧ mg x = some (.ref f) ∧ PySem.W.keepIn K (.ref f) = true ∧ Binds K fd ps []
theorem pe_cG (c : CalG X.prog X.w X.K X.mg X.base k x sp) (hgd : X.A.guards = some []) (hr : Room j X.A) (hk : k ≤ j) (hg : Gl X x) (ha : PA X (e :: es) t)
    (hdb : (x == ("__debug__" : Str)) = false := by decide) (he : starEach (e :: es) X.env = (false, eval e X.env) :: starEach es X.env := by rfl) (hpl : (backTo pos (starEach es X.env)).any (·.1) = false := by rfl) :
    PE X (.Call (.Name x p) (e :: es) [] pos) (tCall sp [] E0 t) := by
  obtain ⟨f, fd, ps, F, hm, kp, b⟩ := c.ex
  refine ⟨fun pins s σ H Q I h => wpAny_Call_Name_kw (ld_glob I hg hm (PySem.W.callWith_K (h₀ := X.base) I.ok.mod.kin kp (thn (ha.run pos pins s σ H _ I h) fun us s1 ⟨vs, H1, I1, r, q⟩ => ⟨I1.kIn, ?_⟩) he hpl) hdb)⟩
  have q' : sp vs H1 Q E0 := by simpa using q
  have hl : us.length = ps.length := by rw [← r.length]; exact F.len _ _ _ q'
  have bt : BindsTo s1 fd ⟨us, []⟩ (ps.zip us) := by
    have := b s1 us I1.kIn (by simpa using hl)
    simpa using this
  refine wpAny_call (codeAny_mono (F.go (args := ⟨us, []⟩) hgd (hr.mono hk) I1.env0 bt r q') fun res s' hq => ?_)
  match res, hq with
  | .error e, hq => exact hq.elim
  | .ok (.ret u), hq => exact I1.after hq
  | .ok .next, hq => exact hq.elim
  | .ok .brk, hq => exact hq.elim
  | .ok .cont, hq => exact hq.elim
end
/-- repr(x), by data -/
def rReprD (K : PySem.W.Frag) : List V → Hp → VK → Prop := fun xs H Q => ∃ (a : Addr) (d : PyData), xs = [.ref a] ∧ L2.Dp K H (.ref a) d ∧ d.canLay0 = true ∧ d.depth ≤ 60 ∧ d.showable = true ∧ d.shown.length ≤ sizeLine ∧ Q (.str d.shown) H
theorem call_reprD {X : Cx} (K : PySem.W.Frag) (hgd : X.A.guards = some []) (hu : X.A.units + 64 < cLine) (hK : X.K = K := by rfl) : CallR X (.builtin "repr") (rReprD K) := by
  subst hK
  intro pins s σ H xs us Q I r h
  obtain ⟨a, d, rfl, hd, c1, c2, c3, c4, q⟩ := h
  obtain ⟨u, rfl, ru⟩ := r.one
  obtain ⟨as, rd⟩ := Dp.reads I d _ u hd ru
  cases ru
  exact repr_of_reads' rd c3 (PyData.noDict_hsm (PyData.hasDict_of_canLay d c1)) hgd (by omega) (fun _ _ e => e) (fun h' u tk hk => ⟨.str _, H, I.kept (t' := tk) hk, ⟨u, rfl⟩, q⟩) c4
/-- the law's own call, where its def is one of these -/
theorem law_callG {P : Program} {w : World} {K : PySem.W.Frag} {mg mb : Str → Option Value} {k : Nat} {fa a : Addr} {fd : FuncData} {x : Str} {sp : Sp} {s1 : Shared} {vs : List Value} {ns : List Int}
    (KX : K.In s1.heap) (hns : s1.heap.Ns mainGlobals mg) (hb : s1.heap.Ns builtinsNs mb) (hbb : ∀ x : Str, x ≠ "__name__" → mb x = bootBuiltins x) (hlim : s1.heap.NoLimit) (hg : s1.gens = #[])
    (ha : s1.heap.get? a = some { cls := .type "list", data := .seq vs.toArray }) (hi : IntsAre vs ns) (hl : ns.length ≤ sizeLine) (hr : Room k callerA)
    (F : ∀ base : Heap, K.In base → base.Ns mainGlobals mg → FnG P w K mg base k fa fd [x] sp) (bind : ∀ (s : Shared) (u : Value), BindsTo s fd ⟨[u], []⟩ [(x, u)])
    (hsp : ∀ H : Hp, Only H → SqL K H a (ns.map V.int) → sp [.ref a] H (fun v _ => v = .bl true) E0) :
    codeAny (model P w) callerA (.call (.ref fa) ⟨[.ref a], []⟩) (fun r s' => r = .ok (.ret (.bool true)) ∧ OldK s1.heap s'.heap ∧ s'.os = s1.os ∧ AllBare s'.gens) s1 := by
  have rv := vals_ints hi
  have lenV := hi.length
  have main : ∀ H : Hp, Only H → SqL K H a (ns.map V.int) → HOk P w H s1.heap → (∀ b, b ≠ a → H b = none) → (H a ≠ none → K.lookup a = none) →
      codeAny (model P w) callerA (.call (.ref fa) ⟨[.ref a], []⟩) (fun r s' => r = .ok (.ret (.bool true)) ∧ OldK s1.heap s'.heap ∧ s'.os = s1.os ∧ AllBare s'.gens) s1 := by
    intro H hO hS hok only hK
    have hid : ∀ {b : Addr} {o : Obj}, s1.heap.get? b = some o → H b = none → (hidT s1.heap H).get? b = some o := fun e n => hidT_get e n
    have dict : ∀ {b : Addr} {m : Str → Option Value}, s1.heap.Ns b m → (hidT s1.heap H).Ns b m := by
      rintro b m ⟨o, es, ep, e, d, r⟩
      refine ⟨o, es, ep, hid e ?_, d, r⟩
      by_cases z : b = a
      · rw [z, ha] at e
        cases e
        cases (show Data.seq vs.toArray _ = Data.dict es ep from d)
      · exact only b z
    have kin : K.In (hidT s1.heap H) := fun b o e => hid (KX b o e) (by
      by_cases z : b = a
      · cases q : H b with
        | none => rfl
        | some u =>
          rw [z] at q e
          rw [hK (by rw [q]; simp)] at e
          cases e
      · exact only b z)
    obtain ⟨mc, n1, n2⟩ := hlim
    have md : Mod K mg (hidT s1.heap H) := ⟨kin, dict hns, ⟨mb, dict hb, hbb⟩, ⟨mc, dict n1, n2⟩⟩
    have nil : ∀ b : Addr, b ∉ ([] : List Addr) := fun b z => by simp at z
    have e0 : Env0 P w K mg (hidT s1.heap H) callerA [] s1 H := ⟨rfl, md, fun b o e => of_hidT e, Nat.le_of_eq (hidT_size _ _), trivial, fun b z => (nil b z).elim, hok, .of_eq hg⟩
    refine codeAny_mono ((F _ kin (dict hns)).go (A := callerA) (args := ⟨[.ref a], []⟩) (us := [.ref a]) (vs := [.ref a]) rfl hr e0 (bind s1 (.ref a)) (.cons rfl .nil) (hsp H hO hS)) fun r s' h => ?_
    match r, h with
    | .error e, h => exact h.elim
    | .ok .next, h => exact h.elim
    | .ok .brk, h => exact h.elim
    | .ok .cont, h => exact h.elim
    | .ok (.ret u), ⟨v, H', os, bare, un, hok', r', q⟩ =>
      have e1 : v = .bl true := q
      subst e1
      have e2 : u = Value.bool true := r'
      subst e2
      refine ⟨rfl, OldK.of_keep fun b o e => ?_, os, bare⟩
      rcases hO b with z | ⟨ob, xs, z⟩
      · exact un.keep b o e z (nil b) (by simp)
      · obtain ⟨e3, _⟩ := hok b _ z
        obtain ⟨e4, _⟩ := hok' b _ (un.frzs b ob _ z)
        rw [e] at e3
        cases e3
        exact e4
  cases hk : K.lookup a with
  | some o =>
    have e := KX a o hk
    rw [ha] at e
    cases e
    exact main (fun _ => none) (fun _ => .inl rfl) (.inr ⟨_, vs.toArray, _, hk, rfl, rfl, rfl, by rw [List.size_toArray, lenV]; exact hl, by simpa using rv⟩) (fun b u z => by cases (show (none : Option HO) = some u from z)) (fun _ _ => rfl) fun z => absurd rfl z
  | none =>
    refine main (fun b => if b = a then some (.frz { cls := .type "list", data := .seq vs.toArray } (.lst (ns.map V.int))) else none) (fun b => ?_) (.inl (.inr ⟨{ cls := .type "list", data := .seq vs.toArray }, if_pos rfl⟩)) (fun b u z => ?_) (fun b z => if_neg z) fun _ => hk
    · by_cases z : b = a
      · exact .inr ⟨_, _, if_pos z⟩
      · exact .inl (if_neg z)
    · by_cases hb : b = a
      · subst hb
        have z' := (if_pos rfl).symm.trans z
        cases z'
        exact ⟨ha, by rw [List.length_map]; exact hl, vs, _, rv, ha⟩
      · cases (if_neg hb).symm.trans z
theorem walk_ofG {l : PySem.W.OpenLaw} {n k : Nat} {q : Program} {loose : List Str} {XP : (Str → Option Value) → Heap → Prop} {YP : World → Heap → Prop} {d : DefRec} {x : Str}
    (hn : l.most = some n) (hn2 : n ≤ sizeLine) (hdf : d.params.defaults = []) (hr : Room k callerA)
    (F : ∀ (w : World) (mg : Str → Option Value) (fa : Addr) (h : Heap), YP w h → h.Ns mainGlobals mg → mg d.name = some (.ref fa) →
      ∃ (K : PySem.W.Frag) (fd : FuncData) (sp : Sp), K.In h ∧ (∀ (s : Shared) (u : Value), BindsTo s fd ⟨[u], []⟩ [(x, u)]) ∧
        (∀ (H : Hp) (a : Addr) (ns : List Int), ns.length ≤ n → Only H → SqL K H a (ns.map V.int) → sp [.ref a] H (fun v _ => v = .bl true) E0) ∧
        ∀ base : Heap, K.In base → base.Ns mainGlobals mg → FnG l.prog w K mg base k fa fd [x] sp) :
    PySem.W.WalkO q loose XP YP l.row.toRowW d [] (fun f vs => PySem.call f vs) :=
  Att.attach_call hn hdf fun w _ s1 mg mb fa _ _ _ _ a vs ns G Y _ _ _ hmg hobj hints hlen hg => by
    obtain ⟨K, fd, sp, KX, hb, hsp, hF⟩ := F w mg fa _ Y G.T.g hmg
    exact law_callG KX G.T.g G.T.b G.T.builtins G.T.nolimit hg hobj hints (Nat.le_trans hlen hn2) hr hF hb fun H hO hS => hsp H a ns hlen hO hS
end L2
namespace SL
open PySem L2 Evl
section
variable {K : PySem.W.Frag} {F F' : Fm} {G G' H H' : Hp} {τ σ : List (Option V)} {ε δ : List SD} {v x : V} {P : PV}
/-- the data of a list that is read -/
theorem b_reprD {d : PyData} (hd : (∃ xs, d = .list xs) ∨ ∃ xs, d = .tuple xs) (h1 : d.canLay0 = true) (h2 : d.depth ≤ 60) (h3 : d.showable = true) (h4 : d.shown.length ≤ sizeLine) (k : P (.fz (.str d.shown)) δ) : OA F (rReprD F.K) [.fz d] δ P := fun τ ε G H σ Q vs el s q => by
  obtain ⟨x, rfl⟩ := one_of el
  have hx := dpTo _ _ (dpMono s.w.gh _ _ (fz_top s))
  have hr : ∃ a, x = .ref a := by
    rcases hd with ⟨xs, rfl⟩ | ⟨xs, rfl⟩ <;> cases hx <;> exact ⟨_, rfl⟩
  obtain ⟨a, rfl⟩ := hr
  exact ⟨a, d, rfl, hx, h1, h2, h3, h4, q _ _ δ G H k (Ex.refl _) (s.pop.push rfl (.str _))⟩
theorem b_reprS {r : SD} {ds : List PyData} (hl : LSrc δ r ds) (h1 : (PyData.list ds).canLay0 = true) (h2 : (PyData.list ds).depth ≤ 60) (h3 : (PyData.list ds).showable = true) (h4 : (PyData.list ds).shown.length ≤ sizeLine) (k : P (.fz (.str (PyData.list ds).shown)) δ) : OA F (rReprD F.K) [r] δ P := fun τ ε G H σ Q vs el s q => by
  obtain ⟨x, rfl⟩ := one_of el
  obtain ⟨a, xs, rfl, sq, da⟩ := s.lsrc s.top hl
  exact ⟨a, _, rfl, .lst sq (dpAllTo _ _ (dpAllMono s.w.gh _ _ da)), h1, h2, h3, h4, q _ _ δ G H k (Ex.refl _) (s.pop.push rfl (.str _))⟩
end
end SL

/-! methods of an instance that stands in no slot; more of comparisons; texts of lists of numbers. -/
namespace SL
open PySem L2 Evl
section
variable {K : PySem.W.Frag} {F F' : Fm} {G G' H H' : Hp} {τ σ : List (Option V)} {ε δ : List SD} {v x : V} {P : PV} {te ta tb : TE} {tr : TA} {C : Addr}
/-- what stands on the stack, as a slot ahead of the others -/
theorem S2.toSlot {ov : Option V} {r : SD} (s : S2 F G H (ov :: τ) (r :: ε) σ δ) : S2 F G H τ ε (ov :: σ) (r :: δ) := by
  refine ⟨s.w.perm ?_, s.t.2, ⟨s.t.1, s.s⟩⟩
  show (fps ε ++ (r.fp ++ fps δ)).Perm ((r.fp ++ fps ε) ++ fps δ)
  rw [← List.append_assoc]
  exact List.Perm.append_right _ List.perm_append_comm
theorem S2.unslot {ov : Option V} {r : SD} (s : S2 F G H τ ε (ov :: σ) (r :: δ)) : S2 F G H τ ε σ δ := by
  refine ⟨s.w.sub ?_, s.t, s.s.2⟩
  show (fps ε ++ fps δ).Sublist (fps ε ++ (r.fp ++ fps δ))
  exact List.Sublist.append_left (List.sublist_append_right _ _) _
/-- e.m(..), e a new instance that is then let go -/
theorem ev_methT {W : WO} {X0 : XK} {mn : Str} (h : E F ta δ fun r δ1 => ∃ (p dx : Addr) (fs : List (Str × SD)) (m : List (Addr × DD)), r = .ow (insO F.K p dx C fs m) ∧ fs.lookup mn = none ∧ EA F tr δ1 fun rs δ2 => ∃ as : List PyData, rs = as.map SD.fz ∧
      W (.ow (insO F.K p dx C fs m)) as fun r r1 => (∀ a ∈ r.fp, a ∉ F.io) → P r δ2) : E F (tMeth C mn (SpO F.K W) [] X0 ta tr) δ P := fun τ ε G H σ Q s q =>
  h τ ε G H σ _ s fun x r δ1 G1 H1 ⟨p, dx, fs, m, hr, hl, h1⟩ e1 s1 => by
    subst hr
    obtain ⟨ex1, _, ⟨xs, h3, h4⟩, _⟩ := S2.ins_at (j := 0) s1.toSlot rfl
    have hx : x = .ref p := by simpa using ex1
    subst hx
    refine ⟨p, dx, xs, rfl, h3, FS.none h4 hl, ?_⟩
    refine h1 _ _ G1 H1 σ _ s1 fun vs rs δ2 G2 H2 ⟨as, hrs, k⟩ e2 el s2 => ?_
    subst hrs
    rw [List.append_nil]
    have sp := Oks.split (by simpa using el) s2.t
    have s0 := (S2.popN el s2).toSlot
    obtain ⟨e3, g2, g3, g5⟩ := S2.ins_at (j := 0) s0 rfl
    obtain ⟨ow, nd⟩ := S2.own_of (j := 0) s0 rfl
    refine ⟨G2, .ref p, vs, SD.ow (insO F.K p dx C fs m), as, _, rfl, s2.w.gh, ⟨rfl, g2, g3, g5⟩, ow, nd, oks_fz sp.1, k, fun r r1 pp hs v G' H' c => ?_⟩
    exact q v r _ G' H' (pp (new_io s0 c hs)) (Ex.trans (Ex.trans e1 e2) c.w.g0) (S2.unslot (S2.callO (j := 0) s0 rfl e3 c))
end
/-! ### texts of lists of numbers -/
theorem shortAll {B : Nat} : ∀ (ns : List Nat), (∀ x ∈ ns, (PyData.shown (.int (x : Int))).length ≤ B) → PyData.intsShortAll B (ns.map fun (x : Nat) => PyData.int (x : Int)) = true
  | [], _ => rfl
  | x :: r, h => by
    simp only [List.map_cons, PyData.intsShortAll, PyData.intsShort, Bool.and_eq_true, decide_eq_true_eq]
    exact ⟨h x (by simp), shortAll r fun y hy => h y (by simp [hy])⟩
theorem showAll : ∀ (ns : List Nat), (∀ x ∈ ns, x < 10 ^ 9) → PyData.showableAll (ns.map fun (x : Nat) => PyData.int (x : Int)) = true
  | [], _ => rfl
  | x :: r, h => by
    simp only [List.map_cons, PyData.showableAll, PyData.showable, Bool.and_eq_true, decide_eq_true_eq]
    refine ⟨?_, showAll r fun y hy => h y (by simp [hy])⟩
    have hx := h x (by simp)
    by_cases h0 : x = 0
    · subst h0; decide
    · rw [Int.natAbs_natCast]
      have : x.log2 < 30 := (Nat.log2_lt h0).mpr (Nat.lt_of_lt_of_le hx (by decide))
      omega
theorem weighAll : ∀ (ns : List Nat), (∀ x ∈ ns, x < 10 ^ 9) → PyData.weightAll (ns.map fun (x : Nat) => PyData.int (x : Int)) ≤ 32 * ns.length
  | [], _ => by simp [PyData.weightAll]
  | x :: r, h => by
    have ih := weighAll r fun y hy => h y (by simp [hy])
    have hx := h x (by simp)
    simp only [List.map_cons, PyData.weightAll, PyData.weight, List.length_cons]
    have hw : (if ((x : Int) == 0) = true then 0 else (x : Int).natAbs.log2 + 1) ≤ 31 := by
      split
      · omega
      · rename_i h0
        have h1 : x ≠ 0 := fun z => h0 (by simp [z])
        rw [Int.natAbs_natCast]
        have : x.log2 < 30 := (Nat.log2_lt h1).mpr (Nat.lt_of_lt_of_le hx (by decide))
        omega
    omega
theorem int_shown (x : Nat) (h : x < 10 ^ 9) : (PyData.shown (.int (x : Int))).length ≤ 13 := by
  have h1 := int_text_length_le10 (a := (x : Int)) (k := 9) (by decide) (by rw [Int.natAbs_natCast]; exact h)
  have h2 : (PyData.shown (.int (x : Int))).length = (toString (x : Int)).length := by
    simp only [PyData.shown]
    exact ofString_length _
  omega
/-- all that repr asks of a list of numbers -/
theorem reprN (ns : List Nat) (h1 : ns.length ≤ 10000) (h2 : ∀ x ∈ ns, x < 10 ^ 9) : (PyData.list (ns.map fun (x : Nat) => PyData.int (x : Int))).canLay0 = true ∧ (PyData.list (ns.map fun (x : Nat) => PyData.int (x : Int))).depth ≤ 60 ∧
    (PyData.list (ns.map fun (x : Nat) => PyData.int (x : Int))).showable = true ∧ (PyData.list (ns.map fun (x : Nat) => PyData.int (x : Int))).shown.length ≤ sizeLine := by
  have c1 : (PyData.list (ns.map fun (x : Nat) => PyData.int (x : Int))).canLay0 = true := lay_list fun d hd => by
    obtain ⟨x, _, rfl⟩ := List.mem_map.mp hd
    exact lay_int _
  have c2 : (PyData.list (ns.map fun (x : Nat) => PyData.int (x : Int))).depth ≤ 1 := dep_list fun d hd => by
    obtain ⟨x, _, rfl⟩ := List.mem_map.mp hd
    exact dep_int _
  have c3 : (PyData.list (ns.map fun (x : Nat) => PyData.int (x : Int))).showable = true := by
    simp only [PyData.showable]
    exact showAll ns h2
  refine ⟨c1, by omega, c3, ?_⟩
  have lay : PyData.layable0 (PyData.list (ns.map fun (x : Nat) => PyData.int (x : Int))) = true := by
    unfold PyData.layable0
    rw [c1]
    simp only [Bool.true_and, Bool.and_eq_true, decide_eq_true_eq]
    refine ⟨by omega, ?_⟩
    simp only [PyData.weight]
    have := weighAll ns h2
    have e : (2 : Nat) ^ 20 = 1048576 := by decide
    omega
  have sh := PyProof.Rows.shown_le13 lay (by simp only [PyData.intsShort]; exact shortAll ns fun x hx => int_shown x (h2 x hx))
  exact Nat.le_trans sh (by decide)
theorem eqv_natsAll : ∀ (xs ys : List Nat), PyData.eqvAll (xs.map fun (x : Nat) => PyData.int (x : Int)) (ys.map fun (x : Nat) => PyData.int (x : Int)) = decide (xs = ys)
  | [], [] => by simp [PyData.eqvAll]
  | [], _ :: _ => by simp [PyData.eqvAll]
  | _ :: _, [] => by simp [PyData.eqvAll]
  | x :: xs, y :: ys => by
    simp only [List.map_cons, PyData.eqvAll, PyData.eqv, eqv_natsAll xs ys]
    by_cases h : x = y
    · subst h; simp
    · have h' : ¬ (x : Int) = (y : Int) := fun z => h (by omega)
      simp [h, h']
theorem eqv_lstN (xs ys : List Nat) : PyData.eqv (.list (xs.map fun (x : Nat) => PyData.int (x : Int))) (.list (ys.map fun (x : Nat) => PyData.int (x : Int))) = decide (xs = ys) := by
  simp only [PyData.eqv, eqv_natsAll]
theorem eqv_tupN (xs ys : List Nat) : PyData.eqv (.tuple (xs.map fun (x : Nat) => PyData.int (x : Int))) (.tuple (ys.map fun (x : Nat) => PyData.int (x : Int))) = decide (xs = ys) := by
  simp only [PyData.eqv, eqv_natsAll]
theorem shaped_lstN (xs : List Nat) : SeqAt.shaped (.list (xs.map fun (x : Nat) => PyData.int (x : Int))) = true :=
  shaped_of (lay_list fun d hd => by obtain ⟨x, _, rfl⟩ := List.mem_map.mp hd; exact lay_int _) (Nat.le_trans (dep_list (k := 0) fun d hd => by obtain ⟨x, _, rfl⟩ := List.mem_map.mp hd; exact dep_int _) (by decide))
end SL

/-! the end: from the head's facts to defs by name; the law's own def and its script. -/
namespace SL
open PySem L2 Evl
section
variable {P : Program} {w : World} {K : PySem.W.Frag} {mg : Str → Option Value} {base : Heap} {k : Nat} {C f : Addr} {fd : FuncData} {x q m : Str} {st : Stmt} {ps : List Str} {sp : Sp}
theorem fun_ofD (F : FunD K x q (defArgs st) (defBody st) (defScope st) [] [] f fd) : Fun K x q st f fd := by
  obtain ⟨oc, od, dV, kV, doc, pm, an, cdv, ct, osl, e, lk, hcd, hD, _⟩ := F.ex
  rcases hD with ⟨_, rfl⟩ | ⟨z, _⟩
  · exact ⟨⟨oc, od, kV, doc, pm, an, cdv, ct, osl, e, lk, hcd⟩, F.kp⟩
  · exact absurd rfl z
theorem cal_of (F : Fun K x q st f fd) (hb : Binds K fd ps []) (hm : mg x = some (.ref f)) (ok : FnOk P w K mg base CX0 k f fd ps sp) : Cal P w K mg base k x sp := ⟨f, fd, ps, ok, hm, F.kp, hb⟩
theorem calG_of (F : Fun K x q st f fd) (hb : Binds K fd ps []) (hm : mg x = some (.ref f)) (ok : FnG P w K mg base k f fd ps sp) : CalG P w K mg base k x sp := ⟨f, fd, ps, ok, hm, F.kp, hb⟩
theorem met_of (c : Cls K C) (hm : Meth K C m f) (hb : Binds K fd ps []) (ok : FnOk P w K mg base CX0 k f fd ps sp) : Met P w K mg base k C m sp := ⟨f, fd, ps, c, hm, ok, hb⟩
theorem mak_of (M : Mk K C f) (hb : Binds K fd ps []) (hm : mg x = some (.ref C)) (ok : FnOk P w K mg base CX0 k f fd ps sp) : Mak P w K mg base k x C sp := ⟨f, fd, ps, M, ok, hm, hb⟩
theorem gint {i : Int} (h : ∃ t, mg x = some (.int i t)) : ∃ u, mg x = some u ∧ RelV (.int i) u := by
  obtain ⟨t, e⟩ := h
  exact ⟨_, e, t, rfl⟩
theorem gstr {i : Str} (h : ∃ t, mg x = some (.str i t)) : ∃ u, mg x = some u ∧ RelV (.str i) u := by
  obtain ⟨t, e⟩ := h
  exact ⟨_, e, t, rfl⟩
end
/-! ### the script -/
/-- the script: a list of ints that is read alone, wherever it stands -/
def scrO (K : PySem.W.Frag) (a : Addr) (ns : List Int) : Ow where
  fp := []
  R := fun G _ v => v = .ref a ∧ SqL K G a (ns.map V.int)
  loc := fun e _ h => ⟨h.1, ex_l e h.2⟩
def SpS (K : PySem.W.Frag) : Sp := fun vs H Q _ => ∃ (G : Hp) (a : Addr) (ns : List Int), Ex G H ∧ vs = [.ref a] ∧ SqL K G a (ns.map V.int) ∧ ns.length ≤ 63 ∧ ∀ v G' H', S2 ⟨K, G, H, []⟩ G' H' [some v] [.fz (.bool true)] [] [] → Q v H'
section
variable {K : PySem.W.Frag} {F F' : Fm} {G G' H H' : Hp} {τ σ : List (Option V)} {ε δ : List SD} {v x : V} {P : PV}
theorem bodyS {N : List Str} {vs : List V} {Q : VK} {X0 : XK} {t : TS} (h : SpS K vs H Q X0)
    (hb : ∀ F a ns, F.K = K → F.io = [] → ns.length ≤ 63 → (∀ δ, Ro F Q (.fz (.bool true)) δ) → Rn F t (startD N.length [.ow (scrO F.K a ns)]) { nx := fun _ H' => Q .non H', rt := Q }) : t { nx := fun _ H' => Q .non H', rt := Q } (L2.start N vs) H := by
  obtain ⟨G, a, ns, ex, rfl, sq, hn, k⟩ := h
  refine hb ⟨K, G, H, []⟩ a ns rfl rfl hn (fun δ v G' H' σ s => k v G' H' ⟨s.w.sub ?_, s.t, trivial⟩) G H _ ?_
  · show ([] : List Addr).Sublist _
    exact List.nil_sublist _
  · have hl : fps (startD N.length [SD.ow (scrO K a ns)]) = [] := by
      unfold startD
      rw [fps_app, fps_no]
      rfl
    refine ⟨?_, trivial, ?_⟩
    · show Wd _ G H (fps [] ++ fps (startD N.length [SD.ow (scrO K a ns)]))
      rw [hl]
      exact ⟨ex, fun a ha => by simp [fps] at ha, by simp [fps], Ex.refl _, fun a o e _ => e, fun a o e => .inl e, fun a ha => by simp [fps] at ha, fun a ha => by simp at ha⟩
    · unfold L2.start startD
      exact Oks.app (τ := [some (.ref a)]) ⟨⟨rfl, sq⟩, trivial⟩ (oks_nones _)
theorem ev_scr {i : Nat} {a : Addr} {ns : List Int} (h : δ[i]? = some (.ow (scrO F.K a ns))) (k : P (.ow (scrO F.K a ns)) δ) : E F (tVar i) δ P := fun τ ε G H σ Q s q => by
  obtain ⟨ov, e, ok⟩ := s.slot h
  obtain ⟨v, rfl⟩ := sd_some (by intro z; cases z) ok
  exact ⟨v, e, q v _ δ G H k (Ex.refl _) (s.push rfl ok)⟩
theorem o_catScr {a p : Addr} {ns : List Int} {es : List PyData} (hl : ns.length + es.length ≤ 1000000) (k : ∀ p, p ∉ F.io → P (.ol p (ns.map PyData.int ++ es)) δ) : O2 F (rCatS F.K) (.ow (scrO F.K a ns)) (.ol p es) δ P := fun τ ε G H σ Q x y s q => by
  obtain ⟨rfl, sq⟩ : x = .ref a ∧ SqL F.K G a (ns.map V.int) := s.pop.top
  obtain ⟨b, ys, rfl, sq2, db⟩ := s.lsrc s.top .ol
  have hl2 := DpAll.len db
  refine ⟨a, b, ns.map V.int, ys, rfl, rfl, ex_l s.w.gh sq, sq2, Nat.le_trans (show (ns.map V.int).length + ys.length ≤ 1000000 by rw [List.length_map, hl2]; exact hl) (by decide), fun l hn => ?_⟩
  exact q _ _ δ _ _ (k l (s.fresh_io hn)) (Ex.refl _) (s.pop2.newO hn rfl ⟨rfl, _, upd_same, DpAll.app (DpAll.ofInts ns) db⟩)
/-- (script + [0])[:n] as what a for walks: some ints -/
theorem iw_script {i n : Nat} {a : Addr} {ns : List Int} {PI : List PyData → List SD → Prop} (h : δ[i]? = some (.ow (scrO F.K a ns))) (hn : ns.length ≤ 63) (k : ∀ cells : List Int, cells.length ≤ n → PI (cells.map PyData.int) δ) :
    Iw F (iList F.K (tSl (rSlL F.K) (tOp (rCatS F.K) (tVar i) (tLst (tCons (tC (.int 0)) tNil))) tNoPart (tPart (tC (.int (n : Int)))))) δ PI := by
  refine iw_listO (ev_upto (i := n) (ev_op (ev_scr h (ev_lst (a_one (ev_int ⟨[_], rfl, (by show 1 ≤ sizeLine; decide), fun p1 q1 => ?_⟩))))))
  refine o_catScr (by simp; omega) fun p2 q2 => ⟨_, .ol, fun p3 q3 => ⟨p3, _, q3, rfl, ?_⟩⟩
  have e : (ns.map PyData.int ++ [PyData.int 0]).take n = ((ns ++ [0]).take n).map PyData.int := by simp [List.map_take]
  rw [e]
  exact k _ (by simp; omega)
end
end SL

/-! dicts whose keys are ints, texts and tuples of these, side by side. -/
namespace Mx
open PySem L2 PySem.SeqAt PySem.P3
section
variable {prog : Program} {w : World} {A : Around} {E : Value → Shared → Prop} {s : Shared} {d : Addr} {o : Obj} {es : Array DictEntry} {ep : Nat} {key : Value} {h : Int}
/-- what is known of a key against the entries of a table -/
structure Asks (prog : Program) (w : World) (A : Around) (E : Value → Shared → Prop) (s : Shared) (es : Array DictEntry) (key : Value) (h : Int) (eqs : Nat → Bool) : Prop where
  eq : ∀ (i : Nat) (e : DictEntry), es[i]? = some e → e.hash = h → ∀ Q : Bool → Shared → Prop, Q (eqs i) s → wpAny (model prog w) A (eqBool e.key key) Q E s
  hit : ∀ (i : Nat) (e : DictEntry), es[i]? = some e → eqs i = true → e.hash = h
  far : ∀ i, es.size ≤ i → eqs i = false
  one : ∀ i j, eqs i = true → eqs j = true → i = j
  quiet : ∀ Q : Bool → Shared → Prop, Q true s → wpAny (model prog w) A (eqIsQuiet 8 key) Q E s
  quiets : ∀ (i : Nat) (e : DictEntry), es[i]? = some e → ∀ Q : Bool → Shared → Prop, Q true s → wpAny (model prog w) A (eqIsQuiet 8 e.key) Q E s
  ref : ∀ a, key = .ref a → (es.any fun e => e.key == key && e.hash != h) = false
  kind : (∃ x t, key = .int x t) ∨ (∃ x t, key = .str x t) ∨ ∃ a, key = .ref a
  str : ∀ x t, key = .str x t → (es.all fun e => isExactStrKey e.key) = true → ∀ (i : Nat) (e : DictEntry), es[i]? = some e → e.key.isStr x = eqs i
variable {eqs : Nat → Bool} {res : Option Nat}
theorem mem_places {i n : Nat} {f : Nat → Option Int} {h : Int} (hi : i ∈ placesWithHash n f h) : i < n ∧ f i = some h := by
  unfold placesWithHash at hi
  obtain ⟨h1, h2⟩ := List.mem_filter.mp hi
  exact ⟨List.mem_range.mp h1, by simpa using h2⟩
theorem in_places {i n : Nat} {f : Nat → Option Int} {h : Int} (h1 : i < n) (h2 : f i = some h) : i ∈ placesWithHash n f h := by
  unfold placesWithHash
  exact List.mem_filter.mpr ⟨List.mem_range.mpr h1, by simp [h2]⟩
theorem tell_quiet {stored : List Value} {Q : Bool → Shared → Prop} (h1 : ∀ Q : Bool → Shared → Prop, Q true s → wpAny (model prog w) A (eqIsQuiet 8 key) Q E s)
    (h2 : ∀ v ∈ stored, ∀ Q : Bool → Shared → Prop, Q true s → wpAny (model prog w) A (eqIsQuiet 8 v) Q E s) (q : Q false s) : wpAny (model prog w) A (tableMayTell key stored) Q E s := by
  unfold tableMayTell
  split
  · exact wpAny_pure q
  refine wpAny_bind (h1 _ ?_)
  simp only [Bool.not_true, Bool.false_eq_true, if_false]
  refine wpAny_bind (wpAny_forIn_list _ (fun rest r s' => s' = s ∧ r = (none, ()) ∧ ∀ v ∈ rest, v ∈ stored) _ ?_ ?_ _ _ ⟨rfl, rfl, fun _ hv => hv⟩)
  · rintro v rest r s' ⟨rfl, rfl, hr⟩
    refine wpAny_bind (h2 v (hr v List.mem_cons_self) _ ?_)
    simp only [Bool.not_true, Bool.false_eq_true, if_false]
    exact wpAny_pure ⟨rfl, rfl, fun u hu => hr u (List.mem_cons_of_mem _ hu)⟩
  · rintro r s' ⟨rfl, rfl, _⟩
    exact wpAny_pure q
/-- the walk where all keys of this hash are carried by value -/
theorem walk_plain {Q : Option Nat → Shared → Prop} (ho : s.heap.get? d = some o) (hd : o.data = .dict es ep) (k : Asks prog w A E s es key h eqs) (hres : ∀ i, eqs i = true ↔ res = some i) (q : Q res s) :
    wpAny (model prog w) A (dictWalkPlain d key h es (placesWithHash es.size (fun i => es[i]?.map (·.hash)) h)) Q E s := by
  unfold dictWalkPlain
  refine wpAny_bind (wpAny_forIn_list _ (fun rest r s' => s' = s ∧ r = (none, ()) ∧ (∀ i ∈ rest, i < es.size ∧ (es[i]?.map (·.hash)) = some h) ∧ ∀ i, eqs i = true → i ∈ rest) _ ?_ ?_ _ _ ⟨rfl, rfl, fun i hi => mem_places hi, fun i hi => ?_⟩)
  · rintro i rest r s' ⟨rfl, rfl, hr, hall⟩
    obtain ⟨hi, hh⟩ := hr i List.mem_cons_self
    obtain ⟨e, he⟩ : ∃ e, es[i]? = some e := ⟨es[i], Array.getElem?_eq_getElem hi⟩
    rw [he] at hh
    have hh' : e.hash = h := by simpa using hh
    simp only [he]
    rw [if_pos (by simp [hh'])]
    refine wpAny_bind (wpAny_dictEpoch ho hd (wpAny_bind (k.eq i e he hh' _ (wpAny_bind (wpAny_dictEpoch ho hd ?_)))))
    show wpAny _ _ (if (ep != ep) = true then _ else _) _ E _
    rw [if_neg (by simp)]
    cases hq : eqs i with
    | true =>
      have er := (hres i).mp hq
      simp only [if_true]
      refine wpAny_bind (wpAny_rule ?_)
      refine wpAny_pure ?_
      rw [er] at q
      exact wpAny_pure q
    | false =>
      simp only [Bool.false_eq_true, if_false]
      refine wpAny_bind (wpAny_rule (wpAny_pure ⟨rfl, rfl, fun j hj => hr j (List.mem_cons_of_mem _ hj), fun j hj => ?_⟩))
      rcases List.mem_cons.mp (hall j hj) with z | z
      · subst z; rw [hq] at hj; cases hj
      · exact z
  · rintro r s' ⟨rfl, rfl, _, hall⟩
    have er : res = none := by
      cases hq : res with
      | none => rfl
      | some i =>
        have := hall i ((hres i).mpr hq)
        simp at this
    rw [er] at q
    exact wpAny_pure q
  · by_cases hi2 : i < es.size
    · obtain ⟨e, he⟩ : ∃ e, es[i]? = some e := ⟨es[i], Array.getElem?_eq_getElem hi2⟩
      exact in_places hi2 (by rw [he]; simp [k.hit i e he hi])
    · rw [k.far i (by omega)] at hi; cases hi
/-- dictFind, whatever the keys -/
theorem find {Q : Option Nat → Shared → Prop} (ho : s.heap.get? d = some o) (hd : o.data = .dict es ep) (k : Asks prog w A E s es key h eqs) (hres : ∀ i, eqs i = true ↔ res = some i) (q : Q res s) :
    wpAny (model prog w) A (dictFind d key h) Q E s := by
  have inp : ∀ i, eqs i = true → i ∈ placesWithHash es.size (fun i => es[i]?.map (·.hash)) h := fun i hi => by
    by_cases hi2 : i < es.size
    · obtain ⟨e, he⟩ : ∃ e, es[i]? = some e := ⟨es[i], Array.getElem?_eq_getElem hi2⟩
      exact in_places hi2 (by rw [he]; simp [k.hit i e he hi])
    · rw [k.far i (by omega)] at hi; cases hi
  have hst : ∀ v ∈ (placesWithHash es.size (fun i => es[i]?.map (·.hash)) h).filterMap (fun i => es[i]?.map (·.key)), ∀ Q : Bool → Shared → Prop, Q true s → wpAny (model prog w) A (eqIsQuiet 8 v) Q E s := by
    intro v hv Q q
    obtain ⟨i, _, hi⟩ := List.mem_filterMap.mp hv
    cases hei : es[i]? with
    | none => rw [hei] at hi; cases hi
    | some e =>
      rw [hei] at hi
      obtain rfl : e.key = v := by simpa using hi
      exact k.quiets i e hei Q q
  have nd : (placesWithHash es.size (fun i => es[i]?.map (·.hash)) h).Nodup := by
    unfold placesWithHash
    exact List.filter_sublist.nodup List.nodup_range
  have none_of : (∀ i, eqs i = true → i ∈ ([] : List Nat)) → res = none := fun hall => by
    cases hq : res with
    | none => rfl
    | some i => have := hall i ((hres i).mpr hq); simp at this
  unfold dictFind
  try with_reducible refine wpAny_holding ?_
  refine wpAny_bind (wpAny_dictEntries ho hd ?_)
  dsimp only
  generalize hps : placesWithHash es.size (fun i => es[i]?.map (·.hash)) h = ps at *
  have hp0 : ∀ i ∈ ps, i < es.size ∧ (es[i]?.map (·.hash)) = some h := fun i hi => mem_places (hps ▸ hi)
  have plain : wpAny (model prog w) A (dictWalkPlain d key h es ps) Q E s := by
    rw [← hps]
    exact walk_plain ho hd k hres q
  have hany : ∀ a, key = .ref a → ¬ (es.any fun e => e.key == key && e.hash != h) = true := fun a e => by rw [k.ref a e]; simp
  have hstr : ∀ x t, key = .str x t → (es.all fun e => isExactStrKey e.key) = true → wpAny (model prog w) A (foundByValue d key es x) Q E s := by
    intro x t ek ha
    subst ek
    have hs := k.str x t rfl ha
    unfold foundByValue
    cases hf : es.findIdx? (fun e => e.key.isStr x) with
    | none =>
      have er : res = none := by
        cases hq : res with
        | none => rfl
        | some i =>
          have hi := (hres i).mpr hq
          have hlt : i < es.size := Nat.lt_of_not_le fun z => by rw [k.far i z] at hi; cases hi
          have h1 := Array.findIdx?_eq_none_iff.mp hf es[i] (Array.getElem_mem hlt)
          rw [hs i es[i] (Array.getElem?_eq_getElem hlt), hi] at h1
          cases h1
      rw [er] at q
      exact wpAny_pure q
    | some i =>
      obtain ⟨hlt, hi, _⟩ := Array.findIdx?_eq_some_iff_getElem.mp hf
      have he : es[i]? = some es[i] := Array.getElem?_eq_getElem hlt
      have hq : eqs i = true := by rw [← hs i _ he]; exact hi
      have er := (hres i).mp hq
      rw [er] at q
      simp only [he]
      refine wpAny_bind (wpAny_dictEpoch ho hd (wpAny_bind (k.eq i _ he (k.hit i _ he hq) _ (wpAny_bind (wpAny_dictEpoch ho hd ?_)))))
      show wpAny _ _ (if (ep != ep) = true then _ else _) _ E _
      rw [if_neg (by simp), hq]
      simp only [if_true]
      exact wpAny_bind (wpAny_rule (wpAny_pure q))
  have href : ∀ a, key = .ref a → ¬ ((key :: ps.filterMap (fun i => es[i]?.map (·.key))).all carriedByValue) = true := fun a e => by rw [e]; simp [carriedByValue]
  have kq := k.quiet
  have keq := k.eq
  have khit := k.hit
  have kone := k.one
  have kk := k.kind
  clear k
  rcases kk with ⟨x, t, rfl⟩ | ⟨x, t, rfl⟩ | ⟨a, rfl⟩
  · by_cases hv : ((Value.int x t :: ps.filterMap (fun i => es[i]?.map (·.key))).all carriedByValue) = true
    · rw [if_pos hv]
      first | exact plain | exact wpAny_bind (wpAny_mono plain (fun r s' hr => wpAny_pure hr) fun _ _ z => z)
    · rw [if_neg hv]
      by_cases hone : (ps.filterMap (fun i => es[i]?.map (·.key)) == [Value.int x t]) = true <;>
      (first | rw [if_pos hone] | rw [if_neg hone]) <;> (first | refine wpAny_bind (wpAny_pure ?_) | refine wpAny_bind (tell_quiet kq hst ?_)) <;> (
        rw [if_neg (by simp)]
        refine wpAny_bind (wpAny_forIn_list _ (fun rest r s' => s' = s ∧ ∃ hit, r = (none, hit) ∧ (∀ i ∈ rest, i < es.size ∧ (es[i]?.map (·.hash)) = some h) ∧ rest.Nodup ∧ ((hit = none ∧ ∀ i, eqs i = true → i ∈ rest) ∨ ∃ j, hit = some j ∧ eqs j = true ∧ j ∉ rest)) _ ?_ ?_ _ _ ⟨rfl, none, rfl, hp0, nd, .inl ⟨rfl, inp⟩⟩)
        · rintro i rest r s' ⟨rfl, hit, rfl, hr, hnd, hH⟩
          obtain ⟨hi, hh⟩ := hr i List.mem_cons_self
          obtain ⟨e, he⟩ : ∃ e, es[i]? = some e := ⟨es[i], Array.getElem?_eq_getElem hi⟩
          rw [he] at hh
          have hh' : e.hash = h := by simpa using hh
          have hr' : ∀ i ∈ rest, i < es.size ∧ (es[i]?.map (·.hash)) = some h := fun j hj => hr j (List.mem_cons_of_mem _ hj)
          have hnd' := (List.nodup_cons.mp hnd)
          simp only [he]
          rw [if_pos (by simp [hh'])]
          refine wpAny_bind (wpAny_dictEpoch ho hd (wpAny_bind (keq i e he hh' _ (wpAny_bind (wpAny_dictEpoch ho hd ?_)))))
          show wpAny _ _ (if (ep != ep) = true then _ else _) _ E _
          rw [if_neg (by simp)]
          cases hq : eqs i with
          | true =>
            have hn : hit = none := by
              rcases hH with ⟨z, _⟩ | ⟨j, _, hj, hjn⟩
              · exact z
              · have := kone i j hq hj
                subst this
                exact absurd List.mem_cons_self hjn
            subst hn
            simp only [if_true, Option.isSome_none, Bool.false_eq_true, if_false]
            refine wpAny_bind (wpAny_rule ?_)
            split
            · refine wpAny_pure ?_
              have er := (hres i).mp hq
              rw [er] at q
              exact wpAny_pure q
            · exact wpAny_pure ⟨rfl, some i, rfl, hr', hnd'.2, .inr ⟨i, rfl, hq, hnd'.1⟩⟩
          | false =>
            simp only [Bool.false_eq_true, if_false]
            refine wpAny_bind (wpAny_rule ?_)
            have hH' : (hit = none ∧ ∀ i, eqs i = true → i ∈ rest) ∨ ∃ j, hit = some j ∧ eqs j = true ∧ j ∉ rest := by
              rcases hH with ⟨z, hall⟩ | ⟨j, hj1, hj2, hj3⟩
              · refine .inl ⟨z, fun j hj => ?_⟩
                rcases List.mem_cons.mp (hall j hj) with y | y
                · subst y; rw [hq] at hj; cases hj
                · exact y
              · exact .inr ⟨j, hj1, hj2, fun z => hj3 (List.mem_cons_of_mem _ z)⟩
            first | exact wpAny_pure ⟨rfl, hit, rfl, hr', hnd'.2, hH'⟩ | (rw [if_neg (by simp)]; exact wpAny_pure ⟨rfl, hit, rfl, hr', hnd'.2, hH'⟩)
        · rintro r s' ⟨rfl, hit, rfl, _, _, hH⟩
          rcases hH with ⟨rfl, hall⟩ | ⟨j, rfl, hj, _⟩
          · rw [none_of hall] at q
            exact wpAny_pure q
          · rw [(hres j).mp hj] at q
            exact wpAny_pure q)
  · dsimp only
    by_cases ha : (es.all fun e => isExactStrKey e.key) = true
    · rw [if_pos ha]
      first | exact hstr x t rfl ha | exact wpAny_bind (wpAny_mono (hstr x t rfl ha) (fun r s' hr => wpAny_pure hr) fun _ _ z => z)
    · rw [if_neg ha]
      by_cases hv : ((Value.str x t :: ps.filterMap (fun i => es[i]?.map (·.key))).all carriedByValue) = true
      · rw [if_pos hv]
        first | exact plain | exact wpAny_bind (wpAny_mono plain (fun r s' hr => wpAny_pure hr) fun _ _ z => z)
      · rw [if_neg hv]
        by_cases hone : (ps.filterMap (fun i => es[i]?.map (·.key)) == [Value.str x t]) = true <;>
        (first | rw [if_pos hone] | rw [if_neg hone]) <;> (first | refine wpAny_bind (wpAny_pure ?_) | refine wpAny_bind (tell_quiet kq hst ?_)) <;> (
          rw [if_neg (by simp)]
          refine wpAny_bind (wpAny_forIn_list _ (fun rest r s' => s' = s ∧ ∃ hit, r = (none, hit) ∧ (∀ i ∈ rest, i < es.size ∧ (es[i]?.map (·.hash)) = some h) ∧ rest.Nodup ∧ ((hit = none ∧ ∀ i, eqs i = true → i ∈ rest) ∨ ∃ j, hit = some j ∧ eqs j = true ∧ j ∉ rest)) _ ?_ ?_ _ _ ⟨rfl, none, rfl, hp0, nd, .inl ⟨rfl, inp⟩⟩)
          · rintro i rest r s' ⟨rfl, hit, rfl, hr, hnd, hH⟩
            obtain ⟨hi, hh⟩ := hr i List.mem_cons_self
            obtain ⟨e, he⟩ : ∃ e, es[i]? = some e := ⟨es[i], Array.getElem?_eq_getElem hi⟩
            rw [he] at hh
            have hh' : e.hash = h := by simpa using hh
            have hr' : ∀ i ∈ rest, i < es.size ∧ (es[i]?.map (·.hash)) = some h := fun j hj => hr j (List.mem_cons_of_mem _ hj)
            have hnd' := (List.nodup_cons.mp hnd)
            simp only [he]
            rw [if_pos (by simp [hh'])]
            refine wpAny_bind (wpAny_dictEpoch ho hd (wpAny_bind (keq i e he hh' _ (wpAny_bind (wpAny_dictEpoch ho hd ?_)))))
            show wpAny _ _ (if (ep != ep) = true then _ else _) _ E _
            rw [if_neg (by simp)]
            cases hq : eqs i with
            | true =>
              have hn : hit = none := by
                rcases hH with ⟨z, _⟩ | ⟨j, _, hj, hjn⟩
                · exact z
                · have := kone i j hq hj
                  subst this
                  exact absurd List.mem_cons_self hjn
              subst hn
              simp only [if_true, Option.isSome_none, Bool.false_eq_true, if_false]
              refine wpAny_bind (wpAny_rule ?_)
              split
              · refine wpAny_pure ?_
                have er := (hres i).mp hq
                rw [er] at q
                exact wpAny_pure q
              · exact wpAny_pure ⟨rfl, some i, rfl, hr', hnd'.2, .inr ⟨i, rfl, hq, hnd'.1⟩⟩
            | false =>
              simp only [Bool.false_eq_true, if_false]
              refine wpAny_bind (wpAny_rule ?_)
              have hH' : (hit = none ∧ ∀ i, eqs i = true → i ∈ rest) ∨ ∃ j, hit = some j ∧ eqs j = true ∧ j ∉ rest := by
                rcases hH with ⟨z, hall⟩ | ⟨j, hj1, hj2, hj3⟩
                · refine .inl ⟨z, fun j hj => ?_⟩
                  rcases List.mem_cons.mp (hall j hj) with y | y
                  · subst y; rw [hq] at hj; cases hj
                  · exact y
                · exact .inr ⟨j, hj1, hj2, fun z => hj3 (List.mem_cons_of_mem _ z)⟩
              first | exact wpAny_pure ⟨rfl, hit, rfl, hr', hnd'.2, hH'⟩ | (rw [if_neg (by simp)]; exact wpAny_pure ⟨rfl, hit, rfl, hr', hnd'.2, hH'⟩)
          · rintro r s' ⟨rfl, hit, rfl, _, _, hH⟩
            rcases hH with ⟨rfl, hall⟩ | ⟨j, rfl, hj, _⟩
            · rw [none_of hall] at q
              exact wpAny_pure q
            · rw [(hres j).mp hj] at q
              exact wpAny_pure q)
  · rw [if_neg (href a rfl), if_neg (hany a rfl)]
    by_cases hone : (ps.filterMap (fun i => es[i]?.map (·.key)) == [Value.ref a]) = true <;>
    (first | rw [if_pos hone] | rw [if_neg hone]) <;> (first | refine wpAny_bind (wpAny_pure ?_) | refine wpAny_bind (tell_quiet kq hst ?_)) <;> (
      rw [if_neg (by simp)]
      refine wpAny_bind (wpAny_forIn_list _ (fun rest r s' => s' = s ∧ ∃ hit, r = (none, hit) ∧ (∀ i ∈ rest, i < es.size ∧ (es[i]?.map (·.hash)) = some h) ∧ rest.Nodup ∧ ((hit = none ∧ ∀ i, eqs i = true → i ∈ rest) ∨ ∃ j, hit = some j ∧ eqs j = true ∧ j ∉ rest)) _ ?_ ?_ _ _ ⟨rfl, none, rfl, hp0, nd, .inl ⟨rfl, inp⟩⟩)
      · rintro i rest r s' ⟨rfl, hit, rfl, hr, hnd, hH⟩
        obtain ⟨hi, hh⟩ := hr i List.mem_cons_self
        obtain ⟨e, he⟩ : ∃ e, es[i]? = some e := ⟨es[i], Array.getElem?_eq_getElem hi⟩
        rw [he] at hh
        have hh' : e.hash = h := by simpa using hh
        have hr' : ∀ i ∈ rest, i < es.size ∧ (es[i]?.map (·.hash)) = some h := fun j hj => hr j (List.mem_cons_of_mem _ hj)
        have hnd' := (List.nodup_cons.mp hnd)
        simp only [he]
        rw [if_pos (by simp [hh'])]
        refine wpAny_bind (wpAny_dictEpoch ho hd (wpAny_bind (keq i e he hh' _ (wpAny_bind (wpAny_dictEpoch ho hd ?_)))))
        show wpAny _ _ (if (ep != ep) = true then _ else _) _ E _
        rw [if_neg (by simp)]
        cases hq : eqs i with
        | true =>
          have hn : hit = none := by
            rcases hH with ⟨z, _⟩ | ⟨j, _, hj, hjn⟩
            · exact z
            · have := kone i j hq hj
              subst this
              exact absurd List.mem_cons_self hjn
          subst hn
          simp only [if_true, Option.isSome_none, Bool.false_eq_true, if_false]
          refine wpAny_bind (wpAny_rule ?_)
          split
          · refine wpAny_pure ?_
            have er := (hres i).mp hq
            rw [er] at q
            exact wpAny_pure q
          · exact wpAny_pure ⟨rfl, some i, rfl, hr', hnd'.2, .inr ⟨i, rfl, hq, hnd'.1⟩⟩
        | false =>
          simp only [Bool.false_eq_true, if_false]
          refine wpAny_bind (wpAny_rule ?_)
          have hH' : (hit = none ∧ ∀ i, eqs i = true → i ∈ rest) ∨ ∃ j, hit = some j ∧ eqs j = true ∧ j ∉ rest := by
            rcases hH with ⟨z, hall⟩ | ⟨j, hj1, hj2, hj3⟩
            · refine .inl ⟨z, fun j hj => ?_⟩
              rcases List.mem_cons.mp (hall j hj) with y | y
              · subst y; rw [hq] at hj; cases hj
              · exact y
            · exact .inr ⟨j, hj1, hj2, fun z => hj3 (List.mem_cons_of_mem _ z)⟩
          first | exact wpAny_pure ⟨rfl, hit, rfl, hr', hnd'.2, hH'⟩ | (rw [if_neg (by simp)]; exact wpAny_pure ⟨rfl, hit, rfl, hr', hnd'.2, hH'⟩)
      · rintro r s' ⟨rfl, hit, rfl, _, _, hH⟩
        rcases hH with ⟨rfl, hall⟩ | ⟨j, rfl, hj, _⟩
        · rw [none_of hall] at q
          exact wpAny_pure q
        · rw [(hres j).mp hj] at q
          exact wpAny_pure q)
end
end Mx

/-! such dicts in the hand layer. -/
namespace Mx
open PySem L2 PySem.SeqAt PySem.P3
abbrev MK := Key ⊕ List Key
def datK : MK → PyData
  | .inl k => SL.keyD k
  | .inr ks => .tuple (ks.map SL.keyD)
def hashK (P : Program) (w : World) : MK → Int
  | .inl k => (mixKind P w).hash k
  | .inr ks => (tupleKind (mixKind P w)).hash ks
/-- an entry: its key (a tuple's address), its value -/
abbrev ME := MK × Addr × V
def RelE (P : Program) (w : World) (x : ME) (e : DictEntry) : Prop := RelV x.2.2 e.val ∧ e.hash = hashK P w x.1 ∧ match x.1 with
  | .inl k => (mixKind P w).is k e.key = true
  | .inr _ => e.key = .ref x.2.1
def mixP (P : Program) (w : World) (q : Addr) (xs : List ME) (h : Heap) : Prop := (q == sysModules) = false ∧ xs.length ≤ sizeLine ∧ ∃ o es ep, h.get? q = some o ∧ o.ExactDict ∧ o.data = .dict es ep ∧ Paired (RelE P w) xs es.toList
/-- a dict with such keys -/
def mixO (P : Program) (w : World) (q : Addr) (xs : List ME) : HO := .ext (mixP P w q xs)
theorem mixO_ok {P : Program} {w : World} {q : Addr} {xs : List ME} {H : Hp} {h : Heap} (k : mixP P w q xs h) : ObjOk P w H h q (mixO P w q xs) := by
  refine ⟨k, ?_, fun h1 h2 k1 hk => ?_⟩
  · obtain ⟨_, _, o, _, _, e, _⟩ := k
    exact ⟨o, e⟩
  · obtain ⟨a, b, o, es, ep, e, r⟩ := k1
    exact ⟨a, b, o, es, ep, hk o e, r⟩
/-- the keys that are tuples stand in the heap; no key twice -/
structure KeysOk (H : Hp) (xs : List ME) : Prop where
  tup : ∀ x ∈ xs, ∀ ks, x.1 = .inr ks → H x.2.1 = some (.tup (ks.map kV))
  nd : (xs.map (·.1)).Nodup
  lay : ∀ x ∈ xs, (datK x.1).canLay0 = true
/-- a value as a key -/
def KeyV (H : Hp) : MK → V → Prop
  | .inl k, y => y = kV k
  | .inr ks, y => ∃ b, y = .ref b ∧ H b = some (.tup (ks.map kV))
def lookM (xs : List ME) (k : MK) : Option V := (xs.find? fun x => decide (x.1 = k)).map (·.2.2)
/-! ### data of keys -/
theorem eqv_key : ∀ (a b : Key), PyData.eqv (SL.keyD a) (SL.keyD b) = decide (a = b)
  | .inl i, .inl j => by
    simp only [SL.keyD, PyData.eqv]
    by_cases z : i = j
    · subst z; simp
    · have : ¬ (Sum.inl i : Key) = Sum.inl j := fun e => z (Sum.inl.inj e)
      simp [z, this]
  | .inr x, .inr y => by
    simp only [SL.keyD, PyData.eqv]
    by_cases z : x = y
    · subst z; simp
    · have : ¬ (Sum.inr x : Key) = Sum.inr y := fun e => z (Sum.inr.inj e)
      simp [z, this]
  | .inl i, .inr y => by simp [SL.keyD, PyData.eqv]
  | .inr x, .inl j => by simp [SL.keyD, PyData.eqv]
theorem eqv_keys : ∀ (a b : List Key), PyData.eqvAll (a.map SL.keyD) (b.map SL.keyD) = decide (a = b)
  | [], [] => by simp [PyData.eqvAll]
  | [], _ :: _ => by simp [PyData.eqvAll]
  | _ :: _, [] => by simp [PyData.eqvAll]
  | x :: xs, y :: ys => by
    simp only [List.map_cons, PyData.eqvAll, eqv_key, eqv_keys xs ys]
    by_cases z : x = y
    · subst z; simp
    · simp [z]
theorem eqv_dat (a b : MK) : PyData.eqv (datK a) (datK b) = decide (a = b) := by
  match a, b with
  | .inl x, .inl y =>
    rw [show datK (.inl x) = SL.keyD x from rfl, show datK (.inl y) = SL.keyD y from rfl, eqv_key]
    by_cases z : x = y
    · subst z; simp
    · have : ¬ (Sum.inl x : MK) = Sum.inl y := fun e => z (Sum.inl.inj e)
      simp [z, this]
  | .inr x, .inr y =>
    rw [show datK (.inr x) = .tuple (x.map SL.keyD) from rfl, show datK (.inr y) = .tuple (y.map SL.keyD) from rfl]
    simp only [PyData.eqv, eqv_keys]
    by_cases z : x = y
    · subst z; simp
    · have : ¬ (Sum.inr x : MK) = Sum.inr y := fun e => z (Sum.inr.inj e)
      simp [z, this]
  | .inl (.inl x), .inr y => simp [datK, SL.keyD, PyData.eqv]
  | .inl (.inr x), .inr y => simp [datK, SL.keyD, PyData.eqv]
  | .inr x, .inl (.inl y) => simp [datK, SL.keyD, PyData.eqv]
  | .inr x, .inl (.inr y) => simp [datK, SL.keyD, PyData.eqv]
theorem dep_key : ∀ k : Key, (SL.keyD k).depth ≤ 0
  | .inl i => by simp [SL.keyD, PyData.depth]
  | .inr x => by simp [SL.keyD, PyData.depth]
theorem dep_dat (k : MK) : (datK k).depth ≤ 1 := by
  match k with
  | .inl k => exact Nat.le_trans (dep_key k) (by decide)
  | .inr ks =>
    refine SL.dep_tup fun d hd => ?_
    obtain ⟨x, _, rfl⟩ := List.mem_map.mp hd
    exact dep_key x
theorem paired_get {α β : Type} {F : α → β → Prop} : ∀ {l : List α} {m : List β} {i : Nat} {b : β}, Paired F l m → m[i]? = some b → ∃ a, l[i]? = some a ∧ F a b
  | _, _, _, _, .nil, h => by simp at h
  | _, _, 0, _, .cons h _, e => by
    simp at e
    subst e
    exact ⟨_, rfl, h⟩
  | _, _, i + 1, b, .cons _ t, e => by
    obtain ⟨a, h1, h2⟩ := paired_get (i := i) (b := b) t (by simpa using e)
    exact ⟨a, by simpa using h1, h2⟩
theorem paired_len {α β : Type} {F : α → β → Prop} : ∀ {l : List α} {m : List β}, Paired F l m → l.length = m.length
  | _, _, .nil => rfl
  | _, _, .cons _ t => by simp [paired_len t]
def eqsOf (xs : List ME) (k : MK) (i : Nat) : Bool := match xs[i]? with
  | some x => decide (x.1 = k)
  | none => false
theorem eqsOf_true {xs : List ME} {k : MK} {i : Nat} (h : eqsOf xs k i = true) : ∃ x, xs[i]? = some x ∧ x.1 = k := by
  unfold eqsOf at h
  cases e : xs[i]? with
  | none => rw [e] at h; cases h
  | some x => rw [e] at h; exact ⟨x, rfl, of_decide_eq_true h⟩
theorem eqsOf_at {xs : List ME} {k : MK} {i : Nat} {x : ME} (h : xs[i]? = some x) : eqsOf xs k i = decide (x.1 = k) := by
  unfold eqsOf
  rw [h]
theorem nodup_at {xs : List ME} (nd : (xs.map (·.1)).Nodup) {i j : Nat} {x y : ME} (hi : xs[i]? = some x) (hj : xs[j]? = some y) (e : x.1 = y.1) : i = j := by
  have h1 : (xs.map (·.1))[i]? = some x.1 := by rw [List.getElem?_map, hi]; rfl
  have h2 : (xs.map (·.1))[j]? = some x.1 := by rw [List.getElem?_map, hj, e]; rfl
  obtain ⟨a1, a2⟩ := List.getElem?_eq_some_iff.mp h1
  obtain ⟨b1, b2⟩ := List.getElem?_eq_some_iff.mp h2
  rcases Nat.lt_trichotomy i j with z | z | z
  · exact absurd (a2.trans b2.symm) (List.pairwise_iff_getElem.mp nd i j a1 b1 z)
  · exact z
  · exact absurd (b2.trans a2.symm) (List.pairwise_iff_getElem.mp nd j i b1 a1 z)
/-! ### a key as it stands -/
section
variable {X : Cx} {pins : List (Addr × Obj)} {σ : St} {H : Hp} {s : Shared} {A : Around} {E : Value → Shared → Prop} {q : Addr} {xs : List ME} {k : MK} {y : V} {u : Value}
/-- the value of an entry's key, of the asked key -/
def IsU (P : Program) (w : World) (H : Hp) : MK → Value → Prop
  | .inl k, u => (mixKind P w).is k u = true
  | .inr ks, u => ∃ b, u = .ref b ∧ H b = some (.tup (ks.map kV))
theorem isU_of (h : KeyV H k y) (r : RelV y u) : IsU X.prog X.w H k u := by
  match k, h with
  | .inl k, h =>
    have h' : y = kV k := h
    subst h'
    exact kV_is r
  | .inr ks, ⟨b, e1, e2⟩ =>
    subst e1
    exact ⟨b, r, e2⟩
theorem isU_entry {x : ME} {e : DictEntry} (h : RelE X.prog X.w x e) (ko : ∀ ks, x.1 = .inr ks → H x.2.1 = some (.tup (ks.map kV))) : IsU X.prog X.w H x.1 e.key := by
  obtain ⟨_, _, h3⟩ := h
  obtain ⟨k, b, v⟩ := x
  match k, h3, ko with
  | .inl k, h3, _ => exact h3
  | .inr ks, h3, ko => exact ⟨b, h3, ko ks rfl⟩
theorem key_shape {P : Program} {w : World} {k : Key} {u : Value} (h : (mixKind P w).is k u = true) : (∃ i t, k = Sum.inl i ∧ u = Value.int i t) ∨ (∃ x t, k = Sum.inr x ∧ u = Value.str x t) := keyIs_shape h
theorem isU_reads (I : Inv X pins σ H s) (h : IsU X.prog X.w H k u) : ∃ as, Reads s.heap u (datK k) as := by
  match k, h with
  | .inl k, h =>
    rcases key_shape h with ⟨i, t, rfl, rfl⟩ | ⟨x, t, rfl, rfl⟩
    · exact Dp.reads I _ (.int i) _ (.int i) ⟨t, rfl⟩
    · exact Dp.reads I _ (.str x) _ (.str x) ⟨t, rfl⟩
  | .inr ks, ⟨b, e, hb⟩ =>
    subst e
    refine Dp.reads I _ (.ref b) _ (.tup (.inl (.inl hb)) ?_) rfl
    have aux : ∀ l : List Key, L2.DpAll X.K H (l.map kV) (l.map SL.keyD) := by
      intro l
      induction l with
      | nil => exact .nil
      | cons c r ih =>
        refine .cons ?_ ih
        cases c with
        | inl i => exact .int i
        | inr x => exact .str x
    exact aux ks
theorem isU_hash (hu : A.units + 1 < cLine) (I : Inv X pins σ H s) (h : IsU X.prog X.w H k u) {Q : Int → Shared → Prop} (q : ∀ n, Q (hashK X.prog X.w k) { s with toks := n }) : wpAny (model X.prog X.w) A (pyHash u) Q E s := by
  match k, h with
  | .inl k, h => exact (mixKind X.prog X.w).pyHash h (q _)
  | .inr ks, ⟨b, e, hb⟩ =>
    subst e
    exact (tupleKind (mixKind X.prog X.w)).pyHash (show A.units < cLine by omega) (key_of I.hok hb) (q _)
theorem isU_quiet (I : Inv X pins σ H s) (h : IsU X.prog X.w H k u) {Q : Bool → Shared → Prop} (q : Q true s) : wpAny (model X.prog X.w) A (eqIsQuiet 8 u) Q E s := by
  match k, h with
  | .inl k, h =>
    rw [eqIsQuiet_byValue _ ((mixKind X.prog X.w).byValue k u h)]
    exact wpAny_pure q
  | .inr ks, ⟨b, e, hb⟩ =>
    subst e
    exact (tupleKind (mixKind X.prog X.w)).quiet (key_of I.hok hb) q
theorem isU_eq (hu : A.units + 2 < cLine) (I : Inv X pins σ H s) {j : MK} {v : Value} (h1 : IsU X.prog X.w H j u) (h2 : IsU X.prog X.w H k v) (l1 : (datK j).canLay0 = true) (l2 : (datK k).canLay0 = true) {Q : Bool → Shared → Prop} (q : Q (decide (j = k)) s) :
    wpAny (model X.prog X.w) A (eqBool u v) Q E s := by
  obtain ⟨as, ra⟩ := isU_reads I h1
  obtain ⟨bs, rb⟩ := isU_reads I h2
  refine eqAt_reads _ _ A s u v as bs ra rb l1 l2 ?_ X.prog X.w E Q (by rw [eqv_dat]; exact q)
  have d1 := dep_dat j
  have d2 := Nat.min_le_left (datK j).depth (datK k).depth
  omega
theorem asks (hu : A.units + 2 < cLine) (I : Inv X pins σ H s) (ko : KeysOk H xs) {es : Array DictEntry} (pr : Paired (RelE X.prog X.w) xs es.toList) (hk : IsU X.prog X.w H k u) (lk : (datK k).canLay0 = true) :
    Asks X.prog X.w A E s es u (hashK X.prog X.w k) (eqsOf xs k) where
  eq := fun i e he _ Q q => by
    obtain ⟨x, hx, re⟩ := paired_get pr (show es.toList[i]? = some e by rw [Array.getElem?_toList]; exact he)
    have hm := List.mem_of_getElem? hx
    rw [eqsOf_at hx] at q
    exact isU_eq hu I (isU_entry re (ko.tup x hm)) hk (ko.lay x hm) lk q
  hit := fun i e he hi => by
    obtain ⟨x, hx, re⟩ := paired_get pr (show es.toList[i]? = some e by rw [Array.getElem?_toList]; exact he)
    obtain ⟨x', hx', e1⟩ := eqsOf_true hi
    rw [hx] at hx'
    cases hx'
    rw [re.2.1, e1]
  far := fun i hi => by
    have hl : xs.length = es.size := (paired_len pr).trans Array.length_toList
    unfold eqsOf
    have hx : xs[i]? = none := List.getElem?_eq_none (by rw [hl]; exact hi)
    rw [hx]
  one := fun i j hi hj => by
    obtain ⟨x, hx, e1⟩ := eqsOf_true hi
    obtain ⟨y, hy, e2⟩ := eqsOf_true hj
    exact nodup_at ko.nd hx hy (e1.trans e2.symm)
  quiet := fun Q q => isU_quiet I hk q
  quiets := fun i e he Q q => by
    obtain ⟨x, hx, re⟩ := paired_get pr (show es.toList[i]? = some e by rw [Array.getElem?_toList]; exact he)
    exact isU_quiet I (isU_entry re (ko.tup x (List.mem_of_getElem? hx))) q
  ref := fun a ea => by
    subst ea
    cases hq : (es.any fun e => e.key == Value.ref a && e.hash != hashK X.prog X.w k) with
    | false => rfl
    | true =>
      rw [← Array.any_toList, List.any_eq_true] at hq
      obtain ⟨e, he, hc⟩ := hq
      obtain ⟨i, hi⟩ := List.getElem?_of_mem he
      obtain ⟨x, hx, re⟩ := paired_get pr hi
      simp only [Bool.and_eq_true, beq_iff_eq, bne_iff_ne, ne_eq] at hc
      have h1 := isU_entry re (ko.tup x (List.mem_of_getElem? hx))
      have h2 := re.2.1
      exfalso
      apply hc.2
      rw [h2]
      rw [hc.1] at h1
      have same : x.1 = k := by
        match hx1 : x.1, h1, k, hk with
        | .inl c, h1, _, _ => rcases key_shape h1 with ⟨_, _, _, z⟩ | ⟨_, _, _, z⟩ <;> cases z
        | .inr c, _, .inl c', hk => rcases key_shape hk with ⟨_, _, _, z⟩ | ⟨_, _, _, z⟩ <;> cases z
        | .inr c, ⟨b, eb, hb⟩, .inr c', ⟨b', eb', hb'⟩ =>
          cases eb
          cases eb'
          rw [hb] at hb'
          have e3 : c.map kV = c'.map kV := by injection (Option.some.inj hb')
          have inj : ∀ (l m : List Key), l.map kV = m.map kV → l = m := by
            intro l
            induction l with
            | nil => intro m e; cases m with
              | nil => rfl
              | cons _ _ => simp at e
            | cons a r ih => intro m e; cases m with
              | nil => simp at e
              | cons b r' =>
                simp only [List.map_cons, List.cons.injEq] at e
                have : a = b := by
                  cases a <;> cases b <;> simp [kV] at e <;> simp [e.1]
                rw [this, ih r' e.2]
          rw [inj c c' e3]
      rw [same]
  kind := by
    match k, hk with
    | .inl c, hk =>
      rcases key_shape hk with ⟨i, t, _, z⟩ | ⟨x, t, _, z⟩
      · exact .inl ⟨i, t, z⟩
      · exact .inr (.inl ⟨x, t, z⟩)
    | .inr c, ⟨b, eb, _⟩ => exact .inr (.inr ⟨b, eb⟩)
  str := fun x t ex hall i e he => by
    subst ex
    obtain ⟨y, hy, re⟩ := paired_get pr (show es.toList[i]? = some e by rw [Array.getElem?_toList]; exact he)
    rw [eqsOf_at hy]
    have h1 := isU_entry re (ko.tup y (List.mem_of_getElem? hy))
    have hex : isExactStrKey e.key = true := by
      rw [← Array.all_toList, List.all_eq_true] at hall
      exact hall e (List.mem_of_getElem? (show es.toList[i]? = some e by rw [Array.getElem?_toList]; exact he))
    have hkx : k = .inl (.inr x) := by
      match k, hk with
      | .inl c, hk =>
        rcases key_shape hk with ⟨_, _, _, z⟩ | ⟨x', t', z1, z2⟩
        · cases z
        · cases z2
          rw [z1]
      | .inr c, ⟨b, eb, _⟩ => cases eb
    subst hkx
    match hy1 : y.1, h1 with
    | .inl c, h1 =>
      rcases key_shape h1 with ⟨i2, t2, z1, z2⟩ | ⟨x2, t2, z1, z2⟩
      · rw [z2] at hex; cases hex
      · rw [z2, z1]
        show (x2 == x) = _
        by_cases zz : x2 = x
        · subst zz; simp
        · have : ¬ (Sum.inl (Sum.inr x2) : MK) = Sum.inl (Sum.inr x) := fun e => zz (Sum.inr.inj (Sum.inl.inj e))
          simp [zz, this]
    | .inr c, ⟨b, eb, _⟩ => rw [eb] at hex; cases hex
/-! ### asking, storing -/
theorem lookM_some {v : V} (h : lookM xs k = some v) : ∃ (i : Nat) (x : ME), xs[i]? = some x ∧ x.1 = k ∧ x.2.2 = v := by
  unfold lookM at h
  obtain ⟨x, hx, e⟩ := Option.map_eq_some_iff.mp h
  obtain ⟨i, hi⟩ := List.getElem?_of_mem (List.mem_of_find?_eq_some hx)
  have h2 := List.find?_some hx
  exact ⟨i, x, hi, of_decide_eq_true h2, e⟩
theorem lookM_none (h : lookM xs k = none) : ∀ x ∈ xs, x.1 ≠ k := by
  unfold lookM at h
  intro x hx e
  have := List.find?_eq_none.mp (Option.map_eq_none_iff.mp h) x hx
  exact this (decide_eq_true e)
/-- what the dict at a holds at y -/
structure MGet (P : Program) (w : World) (H : Hp) (a : Addr) (y : V) (xs : List ME) (k : MK) : Prop where
  at_ : H a = some (mixO P w a xs)
  ko : KeysOk H xs
  key : KeyV H k y
  lay : (datK k).canLay0 = true
theorem mix_of (I : Inv X pins σ H s) (e : H q = some (mixO X.prog X.w q xs)) : mixP X.prog X.w q xs s.heap := (I.hok q _ e).1
theorem get_mix (hu : A.units + 2 < cLine) (I : Inv X pins σ H s) (g : MGet X.prog X.w H q y xs k) (ry : RelV y u) {Q : Option Value → Shared → Prop}
    (h : ∀ s' (ov : Option Value), Inv X pins σ H s' → RelO (lookM xs k) ov → Q ov s') : wpAny (model X.prog X.w) A (dictGet q u) Q E s := by
  obtain ⟨hq, hz, o, es, ep, ho, hc, hd, pr⟩ := mix_of I g.at_
  have hk := isU_of (X := X) g.key ry
  unfold dictGet
  try with_reducible refine wpAny_holding ?_
  refine wpAny_bind (isU_hash (by omega) I hk fun n => ?_)
  have I' := I.tok n
  cases hl : lookM xs k with
  | none =>
    refine wpAny_bind (find (s := { s with toks := n }) (res := none) ho hd (asks hu I' g.ko pr hk g.lay) (fun i => ⟨fun hi => ?_, fun z => by cases z⟩) ?_)
    · obtain ⟨x, hx, e⟩ := eqsOf_true hi
      exact absurd e (lookM_none hl x (List.mem_of_getElem? hx))
    · exact wpAny_pure (h _ none I' (by rw [hl]; exact True.intro))
  | some v =>
    obtain ⟨i, x, hx, e1, e2⟩ := lookM_some hl
    refine wpAny_bind (find (s := { s with toks := n }) (res := some i) ho hd (asks hu I' g.ko pr hk g.lay) (fun j => ⟨fun hj => ?_, fun z => ?_⟩) ?_)
    · obtain ⟨x', hx', e'⟩ := eqsOf_true hj
      rw [nodup_at g.ko.nd hx hx' (e1.trans e'.symm)]
    · cases z
      rw [eqsOf_at hx]
      exact decide_eq_true e1
    · refine wpAny_bind (wpAny_dictEntries (s := { s with toks := n }) ho hd ?_)
      have hlt : i < es.toList.length := by rw [← paired_len pr]; exact (List.getElem?_eq_some_iff.mp hx).1
      obtain ⟨x', hx', re⟩ := paired_get pr (List.getElem?_eq_getElem hlt)
      rw [hx] at hx'
      cases hx'
      have he : es[i]? = some es.toList[i] := by rw [← Array.getElem?_toList]; exact List.getElem?_eq_getElem hlt
      rw [he]
      refine wpAny_pure (h _ _ I' ?_)
      rw [hl, ← e2]
      exact re.1
theorem relO_isSome {o : Option V} {p : Option Value} (h : RelO o p) : o.isSome = p.isSome := by
  cases o <;> cases p <;> first | rfl | exact h.elim
theorem mix_type (I : Inv X pins σ H s) (e : H q = some (mixO X.prog X.w q xs)) : s.TypeIs (.ref q) "dict" := by
  obtain ⟨_, _, o, _, _, ho, hc, _⟩ := mix_of I e
  exact ⟨o, ho, hc.1⟩
/-- d[y] = v, y not there -/
theorem set_mix {v : V} {r : Value} (hu : A.units + 2 < cLine) (I : Inv X pins σ H s) (g : MGet X.prog X.w H q y xs k) (hn : lookM xs k = none) (hz1 : xs.length < sizeLine) (ry : RelV y u) (rv : RelV v r) {b : Addr} (hb : ∀ ks, k = .inr ks → y = .ref b) {Q : Unit → Shared → Prop}
    (h : ∀ s', Inv X pins σ (upd H q (mixO X.prog X.w q (xs ++ [(k, b, v)]))) s' → Q () s') : wpAny (model X.prog X.w) A (dictSet q u r) Q E s := by
  obtain ⟨hq, hz, o, es, ep, ho, hc, hd, pr⟩ := mix_of I g.at_
  have hk := isU_of (X := X) g.key ry
  unfold dictSet
  try with_reducible refine wpAny_holding ?_
  refine wpAny_bind (isU_hash (by omega) I hk fun n => ?_)
  have I' := I.tok n
  unfold dictSetHashed
  try with_reducible refine wpAny_holding ?_
  refine wpAny_bind (find (s := { s with toks := n }) (res := none) ho hd (asks hu I' g.ko pr hk g.lay) (fun i => ⟨fun hi => ?_, fun z => by cases z⟩) ?_)
  · obtain ⟨x, hx, e⟩ := eqsOf_true hi
    exact absurd e (lookM_none hn x (List.mem_of_getElem? hx))
  · have hl : xs.length = es.size := (paired_len pr).trans Array.length_toList
    refine wpAny_bind (wpAny_rule (wpAny_updateDictKeys (hz := by omega) (s := { s with toks := n }) ho hd ?_))
    have g1 : (s.heap.update q (Obj.mapDictKeys fun es => es.push ⟨hashK X.prog X.w k, u, r⟩)).get? q = _ := Heap.get?_update_self _ ho (Obj.isFreed_of_dict (Obj.data_mapDictKeys hd _))
    refine h _ (d_write I' (by rw [g.at_]; exact True.intro) (Heap.SameBut.update ..) ⟨_, g1⟩ (mixO_ok ⟨hq, by simp; omega, _, _, _, g1, hc.mapDictKeys _, Obj.data_mapDictKeys hd _, ?_⟩))
    rw [Array.toList_push]
    refine Paired.snoc pr ⟨rv, rfl, ?_⟩
    match k, hk, hb with
    | .inl c, hk, _ => exact hk
    | .inr c, ⟨b', eb, _⟩, hb =>
      have := hb c rfl
      subst this
      exact ry
/-! ### the roads -/
theorem m_getItem {v : V} (hu : A.units + 3 < cLine) (I : Inv X pins σ H s) (g : MGet X.prog X.w H q y xs k) (hv : lookM xs k = some v) (ry : RelV y u) {Q : Value → Shared → Prop} (h : ∀ w' s', Inv X pins σ H s' → RelV v w' → Q w' s') :
    wpAny (model X.prog X.w) A (getItem (.ref q) u) Q E s := by
  have ty := mix_type I g.at_
  unfold getItem
  try with_reducible refine wpAny_holding ?_
  refine wpAny_bind (wpAny_sequenceKey ty (by decide) ?_)
  refine wpAny_bind (wpAny_callSpecial?_slot (name := Str.ofString "__getitem__") ty slot_dict_getitem (wpAny_call_entry slot_dict_getitem ty entry_dict_getitem ?_ (args_dict_getitem _ _)))
  show wpAny _ _ (dictGet q u >>= _) _ _ s
  refine wpAny_bind (get_mix (A := A.in1) (by show A.units + 1 + 2 < cLine; omega) I g ry fun s' ov I' ro => ?_)
  rw [hv] at ro
  cases ov with
  | none => exact ro.elim
  | some w' => exact wpAny_pure ⟨w', rfl, wpAny_pure (h w' s' I' ro)⟩
theorem m_notIn (hu : A.units + 3 < cLine) (I : Inv X pins σ H s) (g : MGet X.prog X.w H q y xs k) (ry : RelV y u) {Q : Value → Shared → Prop} (h : ∀ s', Inv X pins σ H s' → Q (.bool (!(lookM xs k).isSome)) s') :
    wpAny (model X.prog X.w) A (compareOp .NotIn u (.ref q)) Q E s := by
  have ty := mix_type I g.at_
  have hq := (mix_of I g.at_).1
  show wpAny _ _ (do return .bool (!(← contains (.ref q) u))) Q E s
  refine wpAny_bind ?_
  unfold contains
  try with_reducible refine wpAny_holding ?_
  refine wpAny_bind (wpAny_specialOf ty slot_dict_contains.lookup ?_)
  show wpAny _ _ (if (some (Value.builtin "dict.__contains__") == some Value.none) = true then _ else _) _ E s
  rw [if_neg (by rw [beq_builtin_none]; exact Bool.false_ne_true)]
  refine wpAny_bind (wpAny_callSpecialUnlessNone?_slot (name := Str.ofString "__contains__") ty slot_dict_contains (wpAny_call_entry slot_dict_contains ty entry_dict_contains ?_ (args_dict_contains _ _)))
  show wpAny _ _ (dictGet q u >>= _) _ _ s
  refine wpAny_bind (get_mix (A := A.in1) (by show A.units + 1 + 2 < cLine; omega) I g ry fun s' ov I' ro => ?_)
  have e := relO_isSome ro
  have hh := h s' I'
  rw [e] at hh
  cases ov with
  | some p =>
    show wpAny _ _ (ret (.bool true)) _ _ _
    exact wpAny_pure ⟨_, rfl, wpAny_truthy_bool (wpAny_pure hh)⟩
  | none =>
    show wpAny _ _ (Builtin.Dict.pendingKey? q u >>= _) _ _ _
    exact wpAny_bind (wpAny_pendingKey_other hq (wpAny_pure ⟨_, rfl, wpAny_truthy_bool (wpAny_pure hh)⟩))
theorem m_setItem {v : V} {r : Value} (hu : A.units + 3 < cLine) (I : Inv X pins σ H s) (g : MGet X.prog X.w H q y xs k) (hn : lookM xs k = none) (hz1 : xs.length < sizeLine) (ry : RelV y u) (rv : RelV v r) {b : Addr} (hb : ∀ ks, k = .inr ks → y = .ref b) {Q : Unit → Shared → Prop}
    (h : ∀ s', Inv X pins σ (upd H q (mixO X.prog X.w q (xs ++ [(k, b, v)]))) s' → Q () s') : wpAny (model X.prog X.w) A (setItem (.ref q) u r) Q E s := by
  have ty := mix_type I g.at_
  unfold setItem
  try with_reducible refine wpAny_holding ?_
  refine wpAny_bind (wpAny_sequenceKey ty (by decide) ?_)
  refine wpAny_bind (wpAny_callSpecial?_slot (name := Str.ofString "__setitem__") ty slot_dict_setitem (wpAny_call_entry slot_dict_setitem ty entry_dict_setitem ?_ (args_dict_setitem _ _ _)))
  show wpAny _ _ (Builtin.Dict.notOrdered "__setitem__" ⟨[.ref q, u, r], []⟩ >>= _) _ _ s
  refine wpAny_bind (wpAny_notOrdered_dict ty ?_)
  show wpAny _ _ (dictSet q u r >>= _) _ _ s
  exact wpAny_bind (set_mix (A := A.in1) (by show A.units + 1 + 2 < cLine; omega) I g hn hz1 ry rv hb fun s' I' => wpAny_pure ⟨.none, rfl, wpAny_pure (h s' I')⟩)
end
/-! ### readings, rules -/
def tDNewM (P : Program) (w : World) : TE := fun _ H Q => ∀ p, H p = none → Q (.ref p) (upd H p (mixO P w p []))
def tDGetM (P : Program) (w : World) (td ty : TE) : TE := fun σ H Q => td σ H fun x H1 => ty σ H1 fun y H2 => ∃ a xs k v, x = .ref a ∧ MGet P w H2 a y xs k ∧ lookM xs k = some v ∧ Q v H2
def tDNotInM (P : Program) (w : World) (ty td : TE) : TE := fun σ H Q => ty σ H fun y H1 => td σ H1 fun x H2 => ∃ a xs k, x = .ref a ∧ MGet P w H2 a y xs k ∧ Q (.bl (!(lookM xs k).isSome)) H2
def rSetM (P : Program) (w : World) : V → V → V → Hp → (Hp → Prop) → Prop := fun o i v H Q => ∃ a xs k b, o = .ref a ∧ MGet P w H a i xs k ∧ lookM xs k = none ∧ xs.length < sizeLine ∧ (∀ ks, k = .inr ks → i = .ref b) ∧ Q (upd H a (mixO P w a (xs ++ [(k, b, v)])))
section
variable {X : Cx} {o i : Expr} {td ty : TE} {pos : Pos}
theorem pe_dnewM (P : Program) (w : World) (hP : X.prog = P := by rfl) (hw : X.w = w := by rfl) : PE X (.Dict [] [] pos) (tDNewM P w) := ⟨fun pins s σ H Q I h => by
  subst hP hw
  refine wpAny_Dict_empty ⟨.ref s.heap.objs.size, _, I.laid (a := s.heap.objs.size) (o := mixO X.prog X.w s.heap.objs.size []) (t' := s.toks) (fun _ _ q => Heap.get?_push_of_some _ q) (Nat.le_refl _) (mixO_ok ?_), rfl, h _ (I.hok.fresh (Nat.le_refl _))⟩
  have hb := I.big
  exact ⟨beq_eq_false_iff_ne.mpr (Nat.ne_of_gt hb), Nat.zero_le _, _, #[], 0, Heap.get?_push_size _ rfl, ⟨rfl, rfl, rfl⟩, rfl, .nil⟩⟩
theorem pe_dgetM (P : Program) (w : World) (hu : X.A.units + 3 < cLine) (ho : PE X o td) (hi : PE X i ty) (hs : NoSl i) (hP : X.prog = P := by rfl) (hw : X.w = w := by rfl) : PE X (.Subscript o i pos) (tDGetM P w td ty) := by
  subst hP hw
  refine ⟨fun pins s σ H Q I h => ?_⟩
  refine subD_of PySem.F.slot_dict_getitem.lookup hs (thn (ho.run pins s σ H _ I h) fun u s1 ⟨x, H1, I1, rx, q1⟩ => thn (hi.run pins s1 σ H1 _ I1 q1) fun iv s2 ⟨y, H2, I2, ry, a, xs, k, v, ex, g, hv, q2⟩ => ?_)
  subst ex
  obtain rfl : u = Value.ref a := rx
  exact ⟨mix_type I2 g.at_, m_getItem hu I2 g hv ry fun w' s3 I3 rw' => ⟨v, H2, I3, rw', q2⟩⟩
theorem pc_dnotinM (P : Program) (w : World) (hu : X.A.units + 3 < cLine) (hi : PE X i ty) (ho : PE X o td) (hP : X.prog = P := by rfl) (hw : X.w = w := by rfl) : PC X .NotIn i o (tDNotInM P w ty td) := by
  subst hP hw
  refine ⟨fun pins s σ H Q I h => ?_⟩
  refine thn (hi.run pins s σ H _ I h) fun iv s1 ⟨y, H1, I1, ry, q1⟩ => thn (ho.run pins s1 σ H1 _ I1 q1) fun u s2 ⟨x, H2, I2, rx, a, xs, k, ex, g, q2⟩ => ?_
  subst ex
  obtain rfl : u = Value.ref a := rx
  exact m_notIn hu I2 g ry fun s3 I3 => ⟨.bl (!(lookM xs k).isSome), H2, I3, rfl, q2⟩
theorem set_mixR (P : Program) (w : World) (hu : X.A.units + 3 < cLine) (hP : X.prog = P := by rfl) (hw : X.w = w := by rfl) : PSet X (rSetM P w) := by
  subst hP hw
  intro pins s σ H o i v ov iv u Q I ro ri rv h
  obtain ⟨a, xs, k, b, eo, g, hn, hz, hb, q⟩ := h
  subst eo
  cases (show ov = Value.ref a from ro)
  exact m_setItem hu I g hn hz ri rv hb fun s' I' => ⟨_, I', q⟩
end
end Mx

/-! dicts of mixed keys, owned by an instance or on the stack. -/
theorem L2.Room.u3 {k : Nat} {A : PySem.Around} (r : L2.Room k A) : A.units + 3 < PySem.cLine := by have := r.un; omega
namespace SL
open PySem L2 Evl Mx
/-- entries and their data -/
def MKD (K : PySem.W.Frag) (G : Hp) : List ME → List (MK × PyData) → Prop
  | [], [] => True
  | x :: xs, k :: ks => x.1 = k.1 ∧ Dp K G x.2.2 k.2 ∧ MKD K G xs ks
  | _, _ => False
def mlook (ks : List (MK × PyData)) (k : MK) : Option PyData := (ks.find? fun x => decide (x.1 = k)).map (·.2)
section
variable {K : PySem.W.Frag} {G G' H : Hp}
theorem MKD.mono (e : Ex G G') : ∀ {xs : List ME} {ks : List (MK × PyData)}, MKD K G xs ks → MKD K G' xs ks
  | [], [], _ => trivial
  | [], _ :: _, h => h.elim
  | _ :: _, [], h => h.elim
  | _ :: _, _ :: _, ⟨h1, h2, h3⟩ => ⟨h1, dpMono e _ _ h2, MKD.mono e h3⟩
theorem MKD.len : ∀ {xs : List ME} {ks : List (MK × PyData)}, MKD K G xs ks → xs.length = ks.length
  | [], [], _ => rfl
  | [], _ :: _, h => h.elim
  | _ :: _, [], h => h.elim
  | _ :: _, _ :: _, ⟨_, _, h⟩ => by simp [MKD.len h]
theorem MKD.snoc {x : ME} {k : MK × PyData} (h1 : x.1 = k.1) (h2 : Dp K G x.2.2 k.2) : ∀ {xs : List ME} {ks : List (MK × PyData)}, MKD K G xs ks → MKD K G (xs ++ [x]) (ks ++ [k])
  | [], [], _ => ⟨h1, h2, trivial⟩
  | [], _ :: _, h => h.elim
  | _ :: _, [], h => h.elim
  | _ :: _, _ :: _, ⟨a, b, h⟩ => ⟨a, b, MKD.snoc h1 h2 h⟩
theorem MKD.none {k : MK} : ∀ {xs : List ME} {ks : List (MK × PyData)}, MKD K G xs ks → mlook ks k = none → lookM xs k = none
  | [], [], _, _ => rfl
  | [], _ :: _, h, _ => h.elim
  | _ :: _, [], h, _ => h.elim
  | x :: xs, y :: ks, ⟨a, b, h⟩, e => by
    by_cases z : y.1 = k
    · simp [mlook, z] at e
    · have e2 : mlook ks k = Option.none := by simpa [mlook, z] using e
      have := MKD.none h e2
      have z' : ¬ x.1 = k := by rw [a]; exact z
      simpa [lookM, z'] using this
theorem MKD.some {k : MK} {d : PyData} : ∀ {xs : List ME} {ks : List (MK × PyData)}, MKD K G xs ks → mlook ks k = some d → ∃ v, lookM xs k = some v ∧ Dp K G v d
  | [], [], _, e => by cases e
  | [], _ :: _, h, _ => h.elim
  | _ :: _, [], h, _ => h.elim
  | x :: xs, y :: ks, ⟨a, b, h⟩, e => by
    by_cases z : y.1 = k
    · have z' : x.1 = k := a.trans z
      simp only [mlook, List.find?_cons, z, decide_true, Option.map_some, Option.some.injEq] at e
      subst e
      exact ⟨x.2.2, by simp [lookM, z'], b⟩
    · have e2 : mlook ks k = Option.some d := by simpa [mlook, z] using e
      obtain ⟨v, h1, h2⟩ := MKD.some h e2
      have z' : ¬ x.1 = k := by rw [a]; exact z
      exact ⟨v, by simpa [lookM, z'] using h1, h2⟩
theorem keysMono (e : Ex G G') {xs : List ME} (h : KeysOk G xs) : KeysOk G' xs := ⟨fun x hx ks z => e _ _ (h.tup x hx ks z), h.nd, h.lay⟩
end
/-- what is known of such a dict -/
def mD (K : PySem.W.Frag) (P : Program) (w : World) (q : Addr) (kvs : List (MK × PyData)) : DD where
  ok := fun G o => ∃ xs, o = mixO P w q xs ∧ KeysOk G xs ∧ MKD K G xs kvs
  mono := fun e ⟨xs, h1, h2, h3⟩ => ⟨xs, h1, keysMono e h2, h3.mono e⟩
/-- one on the stack or in a slot -/
def mixW (K : PySem.W.Frag) (P : Program) (w : World) (q : Addr) (kvs : List (MK × PyData)) : Ow where
  fp := [q]
  R := fun G H v => v = .ref q ∧ ∃ o, H q = some o ∧ (mD K P w q kvs).ok G o
  loc := fun {G G' H H' v} e k ⟨h1, o, h2, h3⟩ => ⟨h1, o, by rw [k q (by simp)]; exact h2, (mD K P w q kvs).mono e h3⟩
section
variable {K : PySem.W.Frag} {F F' : Fm} {G G' H H' : Hp} {τ σ : List (Option V)} {ε δ : List SD} {v x : V} {P : PV} {te ta tb td ty tv : TE} {D : Ends} {N : St → Hp → Prop}
  {p dx C q : Addr} {fs : List (Str × SD)} {m : List (Addr × DD)} {f : Str} {j : Nat} {Pr : Program} {w : World}
theorem ev_dnewM (k : ∀ p, p ∉ F.io → P (.ow (mixW F.K Pr w p [])) δ) : E F (tDNewM Pr w) δ P := fun τ ε G H σ Q s q => fun p hp =>
  q _ _ δ G _ (k p (s.fresh_io hp)) (Ex.refl _) (s.newO hp rfl ⟨rfl, _, upd_same, [], rfl, ⟨fun x hx => by simp at hx, by simp, fun x hx => by simp at hx⟩, trivial⟩)
/-- the key of data -/
theorem keyV_of {k : MK} {d : PyData} (e : Ex G H) (hd : d = datK k) (h : Dp K G v d) : KeyV H k v := by
  subst hd
  match k with
  | .inl c => exact dp_key h
  | .inr ks =>
    obtain ⟨b, h1, h2⟩ := dp_keyT h
    exact ⟨b, h1, e _ _ h2⟩
/-- where such a dict stands -/
inductive MSrc (K : PySem.W.Frag) (P : Program) (w : World) (δ : List SD) : Addr → List (MK × PyData) → Prop
  | ins {q p dx C : Addr} {fs : List (Str × SD)} {m : List (Addr × DD)} {kvs : List (MK × PyData)} (j : Nat) : δ[j]? = some (.ow (insO K p dx C fs m)) → (q, mD K P w q kvs) ∈ m → MSrc K P w δ q kvs
  | ow {q : Addr} {kvs : List (MK × PyData)} (j : Nat) : δ[j]? = some (.ow (mixW K P w q kvs)) → MSrc K P w δ q kvs
theorem S2.msrc {kvs : List (MK × PyData)} (s : S2 F G H τ ε σ δ) (h : MSrc F.K Pr w δ q kvs) : ∃ xs, H q = some (mixO Pr w q xs) ∧ KeysOk G xs ∧ MKD F.K G xs kvs := by
  cases h with
  | ins j hj hm =>
    obtain ⟨o, h1, xs, rfl, h2⟩ := (s.ins_at hj).2.2.2 _ hm
    exact ⟨xs, h1, h2⟩
  | ow j hj =>
    obtain ⟨ov, e, ok⟩ := s.slot hj
    obtain ⟨z, rfl⟩ := sd_some (by intro z; cases z) ok
    obtain ⟨_, o, h1, xs, rfl, h2⟩ := ok
    exact ⟨xs, h1, h2⟩
theorem ev_dnotinM (h : E F ty δ fun r δ1 => ∃ k : MK, r = .fz (datK k) ∧ (datK k).canLay0 = true ∧ E F td δ1 fun r2 δ2 => ∃ (q : Addr) (kvs : List (MK × PyData)), r2 = .al q ∧ MSrc F.K Pr w δ2 q kvs ∧ P (.fz (.bool (!(mlook kvs k).isSome))) δ2) : E F (tDNotInM Pr w ty td) δ P := fun τ ε G H σ Q s q =>
  h τ ε G H σ _ s fun y r δ1 G1 H1 ⟨k, hr, lk, h1⟩ e1 s1 => by
    subst hr
    have hy := fz_top s1
    refine h1 _ _ G1 H1 σ _ s1 fun x r2 δ2 G2 H2 ⟨a, kvs, hr2, hj, k2⟩ e2 s2 => ?_
    subst hr2
    have hx : x = .ref a := s2.top
    subst hx
    obtain ⟨xs, hxs, ko, kd⟩ := s2.msrc hj
    refine ⟨a, xs, k, rfl, ⟨hxs, keysMono s2.w.gh ko, keyV_of (K := F.K) s2.w.gh rfl (dpMono e2 _ _ hy), lk⟩, ?_⟩
    have e : (lookM xs k).isSome = (mlook kvs k).isSome := by
      cases q1 : mlook kvs k with
      | none => rw [MKD.none kd q1]; rfl
      | some d => obtain ⟨v, hv, _⟩ := MKD.some kd q1; rw [hv]; rfl
    rw [e]
    exact q _ _ δ2 G2 H2 k2 (Ex.trans e1 e2) (s2.pop2.push rfl (.bl _))
theorem ev_dgetM (h : E F td δ fun r δ1 => ∃ q, r = .al q ∧ E F ty δ1 fun r2 δ2 => ∃ (k : MK) (kvs : List (MK × PyData)) (d : PyData), r2 = .fz (datK k) ∧ (datK k).canLay0 = true ∧ MSrc F.K Pr w δ2 q kvs ∧ mlook kvs k = some d ∧ P (.fz d) δ2) : E F (tDGetM Pr w td ty) δ P := fun τ ε G H σ Q s q =>
  h τ ε G H σ _ s fun x r δ1 G1 H1 ⟨a, hr, h1⟩ e1 s1 => by
    subst hr
    have hx : x = .ref a := s1.top
    subst hx
    refine h1 _ _ G1 H1 σ _ s1 fun y r2 δ2 G2 H2 ⟨k, kvs, d, hr2, lk, hj, hd, k2⟩ e2 s2 => ?_
    subst hr2
    obtain ⟨xs, hxs, ko, kd⟩ := s2.msrc hj
    obtain ⟨v, hv, hdp⟩ := MKD.some kd hd
    exact ⟨a, xs, k, v, rfl, ⟨hxs, keysMono s2.w.gh ko, keyV_of (K := F.K) s2.w.gh rfl (fz_top s2), lk⟩, hv, q _ _ δ2 G2 H2 k2 (Ex.trans e1 e2) (s2.pop2.push rfl hdp)⟩
/-- d[k] = v, k not there, d the only own dict of the instance in slot j -/
theorem rn_setMI (h : E F tv δ fun r δ1 => ∃ d, r = .fz d ∧ E F td δ1 fun r2 δ2 => ∃ q, r2 = .al q ∧ E F ty δ2 fun r3 δ3 => ∃ (k : MK) (j : Nat) (p dx C : Addr) (fs : List (Str × SD)) (kvs : List (MK × PyData)), r3 = .fz (datK k) ∧ (datK k).canLay0 = true ∧
      δ3[j]? = some (.ow (insO F.K p dx C fs [(q, mD F.K Pr w q kvs)])) ∧ mlook kvs k = none ∧ kvs.length < 100000 ∧ Nx F D.nx (δ3.set j (.ow (insO F.K p dx C fs [(q, mD F.K Pr w q (kvs ++ [(k, d)]))])))) :
    Rn F (tAsg tv (gSub td ty (rSetM Pr w))) δ D := fun G H σ s => h [] [] G H σ _ s fun v r δ1 G1 H1 ⟨d, hr, h1⟩ _ s1 => by
  subst hr
  refine h1 _ _ G1 H1 σ _ s1 fun x r2 δ2 G2 H2 ⟨q, hr2, h2⟩ e2 s2 => ?_
  subst hr2
  have hx : x = .ref q := s2.top
  subst hx
  refine h2 _ _ G2 H2 σ _ s2 fun y r3 δ3 G3 H3 ⟨k, j, p, dx, C, fs, kvs, hr3, lk, hj, hn, hl, nx⟩ e3 s3 => ?_
  subst hr3
  have hy := fz_top s3
  obtain ⟨e4, g2, ⟨zs, g3, g4⟩, g5⟩ := s3.ins_at hj
  obtain ⟨_, hxs, xs, rfl, ko, kd⟩ := g5 (q, mD F.K Pr w q kvs) (by simp)
  have hv := fz_top s3.pop.pop
  have hl' := MKD.len kd
  have nd := ins_nd s3 hj
  have n1 := List.nodup_cons.mp nd
  have n2 := List.nodup_cons.mp n1.2
  have kn := MKD.none kd hn
  have kv := keyV_of (K := F.K) s3.w.gh rfl hy
  obtain ⟨b, hb1, hb2⟩ : ∃ b : Addr, (∀ ks, k = .inr ks → y = .ref b) ∧ ∀ ks, k = .inr ks → G3 b = some (.tup (ks.map kV)) := by
    match k, hy with
    | .inl c, _ => exact ⟨0, (fun ks z => by cases z), (fun ks z => by cases z)⟩
    | .inr ks, hy =>
      obtain ⟨b, h1, h2⟩ := dp_keyT hy
      exact ⟨b, (fun _ _ => h1), (fun ks' z => by cases z; exact h2)⟩
  refine ⟨q, xs, k, b, rfl, ⟨hxs, keysMono s3.w.gh ko, kv, lk⟩, kn, Nat.lt_of_lt_of_le (show xs.length < 100000 by omega) (by decide), hb1, ?_⟩
  refine nx G3 _ σ (s3.pop.pop.pop.mutG (o := mixO Pr w q (xs ++ [(k, b, v)])) (new := .ow (insO F.K p dx C fs [(q, mD F.K Pr w q (kvs ++ [(k, d)]))])) hj (by show q ∈ _; simp [SD.fp, insO]) rfl fun ov e => ?_)
  rw [e4] at e
  cases e
  refine ⟨rfl, ?_, ⟨zs, ?_, g4⟩, fun z hz => ?_⟩
  · rw [upd_ne (fun z => n2.1 (by rw [z]; simp))]; exact g2
  · rw [upd_ne (fun z => n1.1 (by rw [z]; simp))]; exact g3
  · have : z = (q, mD F.K Pr w q (kvs ++ [(k, d)])) := by simpa using hz
    subst this
    refine ⟨_, upd_same, _, rfl, ⟨fun z hz ks e => ?_, ?_, fun z hz => ?_⟩, kd.snoc rfl hv⟩
    · rcases List.mem_append.mp hz with a | a
      · exact ko.tup z a ks e
      · have : z = (k, b, v) := by simpa using a
        subst this
        exact hb2 ks e
    · rw [List.map_append]
      refine List.nodup_append.mpr ⟨ko.nd, by simp, fun a ha b' hb' z => ?_⟩
      have : b' = k := by simpa using hb'
      subst this
      subst z
      obtain ⟨y', hy', ey⟩ := List.mem_map.mp ha
      exact lookM_none kn y' hy' ey
    · rcases List.mem_append.mp hz with a | a
      · exact ko.lay z a
      · have : z = (k, b, v) := by simpa using a
        subst this
        exact lk
/-- e.f = such a dict on the stack, the instance's own from now on -/
theorem rn_fldM {kvs0 : List (MK × PyData)} (h : E F tv δ fun r δ1 => ∃ q kvs, r = .ow (mixW F.K Pr w q kvs) ∧ E F ta δ1 fun r2 δ2 => ∃ (p dx C : Addr) (fs : List (Str × SD)) (m : List (Addr × DD)) (j : Nat), r2 = .al p ∧ δ2[j]? = some (.ow (insO F.K p dx C fs m)) ∧ Cls F.K C ∧ NoAttr F.K C f ∧ fs.length < 1000 ∧ Nx F D.nx (δ2.set j (.ow (insO F.K p dx C (putS f (.al q) fs) (m ++ [(q, mD F.K Pr w q kvs)]))))) :
    Rn F (sFld F.K ta tv f) δ D := fun G H σ s => h [] [] G H σ _ s fun v r δ1 G1 H1 ⟨q, kvs, hr, h1⟩ _ s1 => by
  subst hr
  refine h1 _ _ G1 H1 σ _ s1 fun o r2 δ2 G2 H2 ⟨p, dx, C, fs, m, j, hr2, hj, c, n, hl, nx⟩ e2 s2 => ?_
  subst hr2
  have ho : o = .ref p := s2.top
  subst ho
  have s3 := s2.pop
  obtain ⟨hv, oo, hys, hkd⟩ := s3.top
  have hv' : v = .ref q := hv
  subst hv'
  obtain ⟨e3, h2, ⟨xs, h3, h4⟩, h5⟩ := s3.ins_at hj
  refine ⟨p, C, dx, xs, rfl, h3, c, n, by rw [FS.len h4]; exact hl, ?_⟩
  obtain ⟨l, q1, q2⟩ := fps_set_perm (s' := SD.ow (insO F.K p dx C (putS f (.al q) fs) (m ++ [(q, mD F.K Pr w q kvs)]))) hj
  have w3 : Wd F G2 H2 (q :: fps δ2) := s3.w
  have f1 : (SD.ow (insO F.K p dx C fs m)).fp = p :: dx :: m.map (·.1) := rfl
  have f2 : (SD.ow (insO F.K p dx C (putS f (.al q) fs) (m ++ [(q, mD F.K Pr w q kvs)]))).fp = p :: dx :: (m.map (·.1) ++ [q]) := by
    show p :: dx :: (m ++ [(q, mD F.K Pr w q kvs)]).map (·.1) = _
    rw [List.map_append]; rfl
  rw [f1] at q1
  rw [f2] at q2
  have w4 : Wd F G2 H2 ((p :: dx :: (m.map (·.1) ++ [q])) ++ l) := w3.perm (by
    refine List.Perm.trans ?_ (List.Perm.cons q q1.symm)
    have : (p :: dx :: (m.map (·.1) ++ [q])) ++ l = (p :: dx :: m.map (·.1)) ++ (q :: l) := by simp
    rw [this]
    exact List.perm_middle)
  have nd := w4.nd
  have nd2 : (p :: dx :: (m.map (·.1) ++ [q])).Nodup := (List.nodup_append.mp nd).1
  have wm := w4.mut (o := .ins C dx (putF f (.ref q) xs)) (p := p) (by simp)
  have n1 := List.nodup_cons.mp nd2
  refine nx G2 _ σ ⟨wm.perm q2, trivial, ?_⟩
  have n3 : (q :: fps δ2).Nodup := w3.nd
  refine oks_mut (old := .ow (insO F.K p dx C fs m)) s3.s (List.nodup_cons.mp n3).2 hj (fun b _ hb => upd_ne fun z => hb (by rw [z, f1]; simp)) fun ov e => ?_
  rw [e3] at e
  cases e
  refine ⟨rfl, ?_, ⟨_, upd_same, FS.putA h4⟩, fun x hx => ?_⟩
  · rw [upd_ne (fun z => n1.1 (by rw [z]; simp))]; exact h2
  · rcases List.mem_append.mp hx with hx | hx
    · obtain ⟨zs, h6, h7⟩ := h5 x hx
      exact ⟨zs, by rw [upd_ne (fun z => n1.1 (by rw [← z]; exact List.mem_cons_of_mem _ (List.mem_append_left _ (List.mem_map_of_mem hx))))]; exact h6, h7⟩
    · have : x = (q, mD F.K Pr w q kvs) := by simpa using hx
      subst this
      exact ⟨oo, by rw [upd_ne (fun z => n1.1 (by rw [← z]; simp))]; exact hys, hkd⟩
end
end SL

/-! texts, data in lists, dicts of numbers in slots. -/
namespace L2
open PySem PySem.SeqAt PySem.P3
theorem op_inD' {X : Cx} (K : PySem.W.Frag) (hu : X.A.units + 65 < cLine) (hK : X.K = K := by rfl) : OpR X (compareOp .In) (rInD K) := hK ▸ op_inD hu
theorem op_notInD' {X : Cx} (K : PySem.W.Frag) (hu : X.A.units + 65 < cLine) (hK : X.K = K := by rfl) : OpR X (compareOp .NotIn) (rNotInD K) := hK ▸ op_notInD hu
theorem Room.u65 {k : Nat} {A : Around} (r : Room k A) : A.units + 65 < cLine := by have := r.un; omega
theorem mt_indexD' {X : Cx} (K : PySem.W.Frag) (hu : X.A.units + 65 < cLine) (hK : X.K = K := by rfl) : MtR X "list.index" (rIndexD K) := hK ▸ mt_indexD hu
def rJoin (K : PySem.W.Frag) : V → List V → Hp → VK → Prop := fun x xs H Q => ∃ a p, ∃ ys : List Str, x = .str a ∧ xs = [.ref p] ∧ (SqL K H p (ys.map V.str) ∨ SqT K H p (ys.map V.str)) ∧ (ys.map (·.length)).sum + ys.length * a.length ≤ 16777216 ∧ Q (.str (Txt.join a ys)) H
theorem mt_join' {X : Cx} (K : PySem.W.Frag) (hK : X.K = K := by rfl) : MtR X "str.join" (rJoin K) := hK ▸ mt_join
def rSIndex : V → List V → Hp → VK → Prop := fun x xs H Q => ∃ a b i rest, x = .str a ∧ xs = [.str b] ∧ Builtin.Str.occurrences a b 0 a.length 1 = i :: rest ∧ Q (.int (i : Nat)) H
theorem mt_sindex' {X : Cx} : MtR X "str.index" rSIndex := mt_sindex
def rNotSign : R2 := fun x y H Q => ∃ (c : Nat) (z : Str), x = .str ⟨#[c]⟩ ∧ y = .str z ∧ Q (.bl (!decide (c ∈ z.cps.toList))) H
theorem op_notIn_sign' {X : Cx} : OpR X (compareOp .NotIn) rNotSign := op_notIn_sign
def rLenD : List V → Hp → VK → Prop := fun xs H Q => ∃ a kvs, xs = [V.ref a] ∧ H a = some (.dK kvs) ∧ Q (.int kvs.length) H
theorem call_lenD' {X : Cx} : CallR X (.builtin "len") rLenD := call_lenD
def rTxtI : List V → Hp → VK → Prop := fun xs H Q => ∃ i, xs = [.int i] ∧ i.natAbs.log2 < 1920 ∧ Q (.str (toString i)) H
theorem call_strI' {X : Cx} : CallR X (.type "str") rTxtI := call_str_int
theorem call_reprI' {X : Cx} : CallR X (.builtin "repr") rTxtI := SkE.call_repr_int
end L2
namespace SL
open PySem L2 Evl
section
variable {K : PySem.W.Frag} {F F' : Fm} {G G' H H' : Hp} {τ σ : List (Option V)} {ε δ : List SD} {v x : V} {P : PV} {te ta tb td ty tv tl th : TE} {D : Ends} {N : St → Hp → Prop} {tr : TA} {r ra rb : SD} {ds es : List PyData}
theorem o_inD {d : PyData} (h : LSrc δ rb ds) (c1 : SeqAt.shaped d = true) (c2 : SeqAt.shaped (.list ds) = true) (k : P (.fz (.bool (ds.any fun e => PyData.eqv e d))) δ) : O2 F (rInD F.K) (.fz d) rb δ P := fun τ ε G H σ Q x y s q => by
  obtain ⟨a, xs, rfl, sq, da⟩ := s.lsrc s.top h
  exact ⟨d, ds, dpTo _ _ (dpMono s.w.gh _ _ (fz_top2 s)), .lst sq (dpAllTo _ _ (dpAllMono s.w.gh _ _ da)), c1, c2, q _ _ δ G H k (Ex.refl _) (s.pop2.push rfl (.bl _))⟩
theorem o_notinD {d : PyData} (h : LSrc δ rb ds) (c1 : SeqAt.shaped d = true) (c2 : SeqAt.shaped (.list ds) = true) (k : P (.fz (.bool (!(ds.any fun e => PyData.eqv e d)))) δ) : O2 F (rNotInD F.K) (.fz d) rb δ P := fun τ ε G H σ Q x y s q => by
  obtain ⟨a, xs, rfl, sq, da⟩ := s.lsrc s.top h
  exact ⟨d, ds, dpTo _ _ (dpMono s.w.gh _ _ (fz_top2 s)), .lst sq (dpAllTo _ _ (dpAllMono s.w.gh _ _ da)), c1, c2, q _ _ δ G H k (Ex.refl _) (s.pop2.push rfl (.bl _))⟩
theorem o_notSign {c : Nat} {z : Str} (k : P (.fz (.bool (!decide (c ∈ z.cps.toList)))) δ) : O2 F rNotSign (.fz (.str ⟨#[c]⟩)) (.fz (.str z)) δ P := fun τ ε G H σ Q x y s q => by
  obtain rfl := dp_str (fz_top2 s)
  obtain rfl := dp_str (fz_top s)
  exact ⟨c, z, rfl, rfl, q _ _ δ G H k (Ex.refl _) (s.pop2.push rfl (.bl _))⟩
/-- xs.index(e), by data -/
theorem ev_indexD (h : E F ta δ fun r δ1 => ∃ ds0, LSrc δ1 r ds0 ∧ E F te δ1 fun r2 δ2 => ∃ (d : PyData) (ds : List PyData) (j : Nat) (z : PyData), r2 = .fz d ∧ LSrc δ2 r ds ∧ SeqAt.shaped (.list ds) = true ∧ SeqAt.shaped d = true ∧ ds[j]? = some z ∧ PyData.eqv z d = true ∧ (∀ (m : Nat) (z' : PyData), m < j → ds[m]? = some z' → PyData.eqv z' d = false) ∧ P (.fz (.int (j : Nat))) δ2) :
    E F (tBM F.K "list" (rIndexD F.K) ta (tCons te tNil)) δ P := fun τ ε G H σ Q s q =>
  h τ ε G H σ _ s fun x r δ1 G1 H1 ⟨ds0, hl, h1⟩ e1 s1 => by
    obtain ⟨a, xs, rfl, sq, da⟩ := s1.lsrc s1.top hl
    refine ⟨.inl ⟨rfl, xs, sq⟩, ?_⟩
    refine h1 _ _ G1 H1 σ _ s1 fun y r2 δ2 G2 H2 ⟨d, ds, j, z, hr, hl2, c1, c2, c3, c4, c5, k⟩ e2 s2 => ?_
    subst hr
    obtain ⟨a2, ys, ha, sq2, db⟩ := s2.pop.lsrc s2.pop.top hl2
    cases ha
    exact ⟨a, y, d, ds, j, z, rfl, rfl, .lst sq2 (dpAllTo _ _ (dpAllMono s2.w.gh _ _ db)), dpTo _ _ (dpMono s2.w.gh _ _ (fz_top s2)), c1, c2, c3, c4, c5, q _ _ δ2 G2 H2 k (Ex.trans e1 e2) (s2.pop2.push rfl (.int _))⟩
/-- s.index(sign) -/
theorem ev_sindex (h : E F ta δ fun r δ1 => ∃ a, r = .fz (.str a) ∧ E F te δ1 fun r2 δ2 => ∃ (b : Str) (i : Nat) (rest : List Nat), r2 = .fz (.str b) ∧ Builtin.Str.occurrences a b 0 a.length 1 = i :: rest ∧ P (.fz (.int (i : Nat))) δ2) :
    E F (tBM F.K "str" rSIndex ta (tCons te tNil)) δ P := fun τ ε G H σ Q s q =>
  h τ ε G H σ _ s fun x r δ1 G1 H1 ⟨a, hr, h1⟩ e1 s1 => by
    subst hr
    obtain rfl := dp_str (fz_top s1)
    refine ⟨rfl, ?_⟩
    refine h1 _ _ G1 H1 σ _ s1 fun y r2 δ2 G2 H2 ⟨b, i, rest, hr, ho, k⟩ e2 s2 => ?_
    subst hr
    obtain rfl := dp_str (fz_top s2)
    exact ⟨a, b, i, rest, rfl, rfl, ho, q _ _ δ2 G2 H2 k (Ex.trans e1 e2) (s2.pop2.push rfl (.int _))⟩
/-- sep.join(xs) -/
theorem ev_join (h : E F ta δ fun r δ1 => ∃ a, r = .fz (.str a) ∧ E F te δ1 fun r2 δ2 => ∃ ys : List Str, LSrc δ2 r2 (ys.map PyData.str) ∧ (ys.map (·.length)).sum + ys.length * a.length ≤ 16777216 ∧ P (.fz (.str (Txt.join a ys))) δ2) :
    E F (tBM F.K "str" (rJoin F.K) ta (tCons te tNil)) δ P := fun τ ε G H σ Q s q =>
  h τ ε G H σ _ s fun x r δ1 G1 H1 ⟨a, hr, h1⟩ e1 s1 => by
    subst hr
    obtain rfl := dp_str (fz_top s1)
    refine ⟨rfl, ?_⟩
    refine h1 _ _ G1 H1 σ _ s1 fun y r2 δ2 G2 H2 ⟨ys, hl, hz, k⟩ e2 s2 => ?_
    obtain ⟨p, vs, rfl, sq, da⟩ := s2.lsrc s2.top hl
    rw [DpAll.strs da] at sq
    exact ⟨a, p, ys, rfl, rfl, .inl sq, hz, q _ _ δ2 G2 H2 k (Ex.trans e1 e2) (s2.pop2.push rfl (.str _))⟩
/-- z[lo:hi] of a text -/
theorem ev_slX (h : E F te δ fun r δ1 => ∃ z : Str, r = .fz (.str z) ∧ z.length ≤ sizeLine ∧ E F tl δ1 fun r2 δ2 => ∃ i : Int, r2 = .fz (.int i) ∧ E F th δ2 fun r3 δ3 => ∃ j : Int, r3 = .fz (.int j) ∧ P (.fz (.str (Txt.slice z (some i) (some j)))) δ3) :
    E F (tSl C8.rSlX te (tPart tl) (tPart th)) δ P := fun τ ε G H σ Q s q =>
  h τ ε G H σ _ s fun x r δ1 G1 H1 ⟨z, hr, hz, h1⟩ e1 s1 => by
    subst hr
    obtain rfl := dp_str (fz_top s1)
    refine h1 _ _ G1 H1 σ _ s1 fun y r2 δ2 G2 H2 ⟨i, hr, h2⟩ e2 s2 => ?_
    subst hr
    refine ⟨i, dp_int (fz_top s2), ?_⟩
    refine h2 _ _ G2 H2 σ _ s2 fun y3 r3 δ3 G3 H3 ⟨j, hr, k⟩ e3 s3 => ?_
    subst hr
    exact ⟨j, dp_int (fz_top s3), z, rfl, hz, q _ _ δ3 G3 H3 k (Ex.trans (Ex.trans e1 e2) e3) (s3.pop.pop.pop.push rfl (.str _))⟩
theorem ev_slXto (h : E F te δ fun r δ1 => ∃ z : Str, r = .fz (.str z) ∧ z.length ≤ sizeLine ∧ E F th δ1 fun r3 δ3 => ∃ j : Int, r3 = .fz (.int j) ∧ P (.fz (.str (Txt.slice z none (some j)))) δ3) :
    E F (tSl C8.rSlX te tNoPart (tPart th)) δ P := fun τ ε G H σ Q s q =>
  h τ ε G H σ _ s fun x r δ1 G1 H1 ⟨z, hr, hz, h1⟩ e1 s1 => by
    subst hr
    obtain rfl := dp_str (fz_top s1)
    refine h1 _ _ G1 H1 σ _ s1 fun y3 r3 δ3 G3 H3 ⟨j, hr, k⟩ e3 s3 => ?_
    subst hr
    exact ⟨j, dp_int (fz_top s3), z, rfl, hz, q _ _ δ3 G3 H3 k (Ex.trans e1 e3) (s3.pop2.push rfl (.str _))⟩
theorem ev_slXfrom (h : E F te δ fun r δ1 => ∃ z : Str, r = .fz (.str z) ∧ z.length ≤ sizeLine ∧ E F tl δ1 fun r2 δ2 => ∃ i : Int, r2 = .fz (.int i) ∧ P (.fz (.str (Txt.slice z (some i) none))) δ2) :
    E F (tSl C8.rSlX te (tPart tl) tNoPart) δ P := fun τ ε G H σ Q s q =>
  h τ ε G H σ _ s fun x r δ1 G1 H1 ⟨z, hr, hz, h1⟩ e1 s1 => by
    subst hr
    obtain rfl := dp_str (fz_top s1)
    refine h1 _ _ G1 H1 σ _ s1 fun y r2 δ2 G2 H2 ⟨i, hr, k⟩ e2 s2 => ?_
    subst hr
    exact ⟨i, dp_int (fz_top s2), z, rfl, hz, q _ _ δ2 G2 H2 k (Ex.trans e1 e2) (s2.pop2.push rfl (.str _))⟩
theorem b_txtI {i : Int} (hz : i.natAbs.log2 < 1920) (k : P (.fz (.str (toString i))) δ) : OA F rTxtI [.fz (.int i)] δ P := fun τ ε G H σ Q vs el s q => by
  obtain ⟨x, rfl⟩ := one_of el
  obtain rfl := dp_int (fz_top s)
  exact ⟨i, rfl, hz, q _ _ δ G H k (Ex.refl _) (s.pop.push rfl (.str _))⟩
theorem b_lenD {a : Addr} {kvs : List (Key × PyData)} (h : DSrc F.K δ a kvs) (k : P (.fz (.int (kvs.length : Int))) δ) : OA F rLenD [.al a] δ P := fun τ ε G H σ Q vs el s q => by
  obtain ⟨x, rfl⟩ := one_of el
  have hx : x = .ref a := s.top
  subst hx
  obtain ⟨ys, h1, kd⟩ := s.dsrc h
  refine ⟨a, ys, rfl, h1, ?_⟩
  rw [KD.len kd]
  exact q _ _ δ G H k (Ex.refl _) (s.pop.push rfl (.int _))
/-- d[k] = v, d a dict of numbers and texts in slot j -/
theorem rn_setDO (h : E F tv δ fun r δ1 => ∃ d, r = .fz d ∧ E F td δ1 fun r2 δ2 => ∃ a, r2 = .al a ∧ E F ty δ2 fun r3 δ3 => ∃ (k : Key) (j : Nat) (kvs : List (Key × PyData)), r3 = .fz (keyD k) ∧ δ3[j]? = some (.od a kvs) ∧ kvs.length < 100000 ∧ Nx F D.nx (δ3.set j (.od a (dput kvs k d)))) :
    Rn F (tAsg tv (gSub td ty rSetD)) δ D := fun G H σ s => h [] [] G H σ _ s fun v r δ1 G1 H1 ⟨d, hr, h1⟩ _ s1 => by
  subst hr
  refine h1 _ _ G1 H1 σ _ s1 fun x r2 δ2 G2 H2 ⟨a, hr2, h2⟩ e2 s2 => ?_
  subst hr2
  have hx : x = .ref a := s2.top
  subst hx
  refine h2 _ _ G2 H2 σ _ s2 fun y r3 δ3 G3 H3 ⟨k, j, kvs, hr3, hj, hl, nx⟩ e3 s3 => ?_
  subst hr3
  obtain rfl := dp_key (fz_top s3)
  obtain ⟨ov, e4, ok⟩ := s3.slot hj
  obtain ⟨z, rfl⟩ := sd_some (by intro z; cases z) ok
  obtain ⟨rfl, ys, hys, kd⟩ := ok
  have hv := fz_top s3.pop.pop
  have hl' := KD.len kd
  refine ⟨a, _, rfl, DPut.k hys (Nat.lt_of_lt_of_le (show ys.length < 100000 by omega) (by decide)), ?_⟩
  refine nx G3 _ σ (s3.pop.pop.pop.mut (o := .dK (putK ys k v)) (new := .od a (dput kvs k d)) hj rfl rfl fun ov e => ?_)
  rw [e4] at e
  cases e
  exact ⟨rfl, _, upd_same, KD.put hv kd⟩
end
theorem bit1 (n : Nat) : Builtin.bitAnd (n : Int) 1 = ((n % 2 : Nat) : Int) := by
  have h : Builtin.bitAnd (n : Int) 1 = (((n : Int).toNat &&& (1 : Int).toNat : Nat) : Int) := by simp [Builtin.bitAnd]
  rw [h]
  simp [Nat.and_one_is_mod]
end SL

/-! SLs: sorted(x, key=f), x a list or a dict, f a def. -/
namespace SL
open PySem PySem.W PySem.Calls L2 Evl
open PyProof.Rows (ksk_rest ksk_tree ksk_fold ksk_t1 seqObj listUpdate_at get?_update_seq listItems_at seqEpoch_at ksk_s1 ksk_l1)
section
variable {X : Cx} {pins : List (Addr × Obj)} {σ : St} {H : Hp} {s : Shared}
/-- an object of ours that was not tracked is tracked from here on -/
theorem inv_adopt {a : Addr} {ob : HO} (I : Inv X pins σ H s) (f : FpOk X pins H a) (ha : X.s_0.heap.objs.size ≤ a) (new : ObjOk X.prog X.w (upd H a ob) s.heap a ob) : Inv X pins σ (upd H a ob) s := by
  obtain ⟨hn, hL, hF, _, hC, hP⟩ := f
  refine ⟨I.ok, I.os, I.bare, ⟨I.base.keep, I.base.slot, fun b o e n hx => ?_, I.base.there, fun b xs e => ?_, fun b o x e => ?_, fun b ps e => ?_⟩, I.loc, I.cell, ?_, fun x c e => ?_, fun p hp => ?_, fun b o e => ?_, I.len⟩
  · rw [upd_ne (Nat.ne_of_lt (Nat.lt_of_lt_of_le (Heap.lt_size e) ha))]; exact I.base.free b o e n hx
  · have q := I.base.tups b xs e
    rw [upd_ne (ne_of_none q hn)]; exact q
  · have q := I.base.frzs b o x e
    rw [upd_ne (ne_of_none q hn)]; exact q
  · obtain ⟨m, q⟩ := I.base.tbls b ps e
    exact ⟨m, by rw [upd_ne (ne_of_none q hn)]; exact q⟩
  · rw [upd_ne (Ne.symm hL)]; exact I.free
  · rw [upd_ne (hC x c e)]; exact I.freeC x c e
  · obtain ⟨e, n, r⟩ := I.pin p hp
    exact ⟨e, by rw [upd_ne (hP p hp)]; exact n, r⟩
  · by_cases hb : b = a
    · rw [hb, upd_same] at e; cases e; rw [hb]; exact new
    · rw [upd_ne hb] at e
      exact (I.hok b o e).stay (fun c v _ q => q) (fun c q => by rw [upd_ne (ne_of_none q hn)]; exact q) fun c xs q => by rw [upd_ne (ne_of_none q hn)]; exact q
/-- a def is called by a built-in -/
theorem run_fn2 {A : Around} {k : Nat} {f : Addr} {fd : FuncData} {ps : List Str} {sp : Sp} {us : List Value} {vs : List V} {Q : VK} {E : XK} (F : FnOk X.prog X.w X.K X.mg X.base CX0 k f fd ps sp) (hr : Room k A) (hfr : A.frames = X.A.frames) (hb : Binds X.K fd ps [])
    (I : Inv X pins σ H s) (r : Vals vs us) (h : sp vs H Q E) : wpAny (model X.prog X.w) A (call (.ref f) us) (EP X pins σ Q) (fun _ _ => False) s := by
  have hl : us.length = ps.length := by rw [← r.length]; exact F.len _ _ _ _ h
  have hbb := hb s us I.kIn (by simpa using hl)
  rw [List.append_nil] at hbb
  have e0 := I.env0
  refine wpAny_call (codeAny_mono (F.run A X.stack s H ⟨us, []⟩ us vs Q E hr ⟨hfr.trans e0.frames, e0.mod, e0.bs, e0.bsz, e0.funs, e0.frf, e0.hok, e0.bare⟩ hbb r h) fun r s' hq => ?_)
  cases r with
  | error e => exact hq
  | ok fl =>
    cases fl with
    | ret u => exact I.after hq
    | next => exact False.elim hq
    | brk => exact False.elim hq
    | cont => exact False.elim hq
theorem s2_start {K : PySem.W.Frag} {G H : Hp} (e : Ex G H) : S2 ⟨K, G, H, []⟩ G H [] [] [] [] :=
  ⟨⟨e, fun a ha => (by cases ha), List.nodup_nil, Ex.refl _, fun a o q _ => q, fun a o q => .inl q, fun a ha => (by cases ha), fun a ha => (by cases ha)⟩, trivial, trivial⟩
theorem each_reads {G : Hp} (I : Inv X pins σ H s) (g : Ex G H) : ∀ {vks : List V} {us : List Value} {ks : List PyData}, Vals vks us → DpAll X.K G vks ks → EachIs (fun v k => ∃ as, Reads s.heap v k as) us ks
  | _, _, _, .nil, .nil => EachIs.nil
  | _, _, _, .cons r rs, .cons a b => EachIs.cons (L2.Dp.reads I _ _ _ (dpTo _ _ (dpMono g _ _ a)) r) (each_reads I g rs b)
/-- f can be called as a key, from the frozen heap G on -/
def RunsKey (X : Cx) (pins : List (Addr × Obj)) (σ : St) (W : WF) (A : Around) (f : Addr) (G : Hp) : Prop := ∀ (pins' : List (Addr × Obj)) (s' : Shared) (H' : Hp) (y : V) (x : Value) (Q : VK), (∀ p ∈ pins, p ∈ pins') → Inv X pins' σ H' s' → Ex G H' → RelV y x → SpF X.K W [y] H' Q E0 →
  wpAny (model X.prog X.w) A (call (.ref f) [x]) (EP X pins' σ Q) (fun _ _ => False) s'
theorem runs_fn {k : Nat} {f : Addr} {fd : FuncData} {pn : Str} {W : WF} {A : Around} {G : Hp} (F : FnOk X.prog X.w X.K X.mg X.base CX0 k f fd [pn] (SpF X.K W)) (hr : Room k A) (hfr : A.frames = X.A.frames) (hb : Binds X.K fd [pn] []) : RunsKey X pins σ W A f G :=
  fun pins' s' H' y x Q _ I _ r h => run_fn2 (us := [x]) (vs := [y]) F hr hfr hb I (.cons r .nil) h
theorem keyI_rest {f : Addr} {W : WF} {A : Around} {a kS : Addr} {vs : List Value} {ys : List V} {ds : List PyData} {G : Hp} {kd : PyData → PyData} {e1 : Nat} {P : PySem.Fin → Shared → Prop} {E : Value → Shared → Prop}
    (run : RunsKey X pins σ W A f G) (gh : Ex G H) (rv : Vals ys vs) (da : DpAll X.K G ys ds) (hW : ∀ d ∈ ds, W [d] fun r => r = .fz (kd d))
    (hZ : vs.length ≤ sizeLine) (hal : AllAlike (ds.map kd)) (hsk : Sortable (ds.map kd)) (hu : ∀ d, d ∈ ds.map kd → A.units + d.depth < cLine)
    (fa : FpOk X pins H a) (fk : FpOk X pins H kS) (hka : kS ≠ a) (I : Inv X pins σ H s)
    (nk : s.heap.get? kS = some (seqObj "list" #[] 0)) (na : s.heap.get? a = some (seqObj "list" #[] e1))
    (h : ∀ s' G' H' out c, Inv X pins σ H' s' → S2 ⟨X.K, G, H, []⟩ G' H' [] [] [] [] → H' a = none → s'.heap.get? a = some (seqObj "list" (List.toArray out) c) → KeyedOut false (ds.map kd) vs out → P (.done (.ret .none)) s') :
    wpAny (model X.prog X.w) A (ksk_rest a (.ref f) false vs.toArray e1 (.ref kS)) P E s := by
  have hlen : ds.length = vs.length := by rw [← da.len, rv.length]
  have fpH : ∀ {b : Addr} {H' : Hp}, FpOk X pins H b → H' b = none → FpOk X pins H' b := fun f q => ⟨q, f.2⟩
  unfold ksk_rest
  refine wpAny_bind (wpAny_rule ?_)
  first
    | rw [List.forIn_toArray]
    | (rw [← Array.forIn_toList]; simp only [List.toList_toArray])
    | rw [← Array.forIn_toList]
  have pinA : ∀ {H' : Hp} {s' : Shared} {us : List Value} {e : Nat}, Inv X pins σ H' s' → H' a = none → H' kS = none → s'.heap.get? kS = some (seqObj "list" us.toArray e) → s'.heap.get? a = some (seqObj "list" #[] e1) →
      Inv X ((kS, seqObj "list" us.toArray e) :: (a, seqObj "list" #[] e1) :: pins) σ H' s' := fun {H' s' us e} I' n1 n2 g1 g2 => by
    refine I'.pins_of fun p hp => ?_
    rcases List.mem_cons.mp hp with rfl | hp
    · exact ⟨g1, n2, fk.2.1, fk.2.2.1, fun v z => by cases z⟩
    · rcases List.mem_cons.mp hp with rfl | hp
      · exact ⟨g2, n1, fa.2.1, fa.2.2.1, fun v z => by cases z⟩
      · exact I'.pin p (List.mem_append_right _ hp)
  refine wpAny_bind (ksk_fold (fun i s' => ∃ G' H' vks us e, Inv X ((kS, seqObj "list" (List.toArray us) e) :: (a, seqObj "list" #[] e1) :: pins) σ H' s' ∧ S2 ⟨X.K, G, H, []⟩ G' H' [] [] [] [] ∧ Vals vks us ∧ DpAll X.K G' vks ((ds.take i).map kd)) vs 0 s
    ⟨G, H, [], [], 0, pinA I fa.1 fk.1 nk na, s2_start gh, .nil, by rw [List.take_zero]; exact .nil⟩ ?step ?done)
  case step =>
    rintro j x s' hx ⟨G', H', vks, us, e, I', s2, rk, dk⟩
    simp only [Nat.zero_add] at dk ⊢
    have hj : j < vs.length := (List.getElem?_eq_some_iff.mp hx).1
    obtain ⟨d, hd⟩ : ∃ d, ds[j]? = some d := ⟨_, List.getElem?_eq_getElem (by omega)⟩
    obtain ⟨y, hy, ry⟩ := DpAll.get' da hd
    have rxy : RelV y x := by
      obtain ⟨u, hu', ru⟩ := Vals.get rv hy
      rw [hx] at hu'
      cases hu'
      exact ru
    have hz : us.length ≤ vs.length := by
      have h1 := dk.len
      rw [List.length_map, List.length_take] at h1
      have h2 := rk.length
      omega
    have hsp : SpF X.K W [y] H' (fun v H'' => ∃ G'', S2 ⟨X.K, G, H, []⟩ G'' H'' [] [] [] [] ∧ Ex G' G'' ∧ Dp X.K G'' v (kd d)) E0 := by
      refine ⟨G', [d], _, s2.w.gh, .cons (dpMono s2.w.g0 _ _ ry) .nil, hW d (List.mem_of_getElem? hd), fun r hr' v G'' H'' c => ?_⟩
      subst hr'
      have c2 := S2.call s2 c
      exact ⟨G'', c2.pop, c.w.g0, c2.top⟩
    refine wpAny_bind (wpAny_attempt (wpAny_mono (run _ s' H' y x _ (fun p hp => List.mem_cons_of_mem _ (List.mem_cons_of_mem _ hp)) I' (Ex.trans s2.w.g0 s2.w.gh) rxy hsp) (fun v s'' he => ?_) fun _ _ hF => hF.elim))
    obtain ⟨vv, H'', I'', rvv, G'', s2'', g'', hkv⟩ := he
    have pk := I''.pin (kS, seqObj "list" us.toArray e) (List.mem_append_right _ (List.mem_cons_self))
    have pa := I''.pin (a, seqObj "list" #[] e1) (List.mem_append_right _ (List.mem_cons_of_mem _ List.mem_cons_self))
    have nk2 : s''.heap.get? kS = some (seqObj "list" us.toArray e) := pk.1
    have na2 : s''.heap.get? a = some (seqObj "list" #[] e1) := pa.1
    have s1 := Heap.SameBut.update s''.heap kS (Obj.mapSeq (·.push v))
    obtain ⟨c2, hc2⟩ : ∃ c2, (s''.heap.update kS (Obj.mapSeq (·.push v))).get? kS = some (seqObj "list" ((us ++ [v]).toArray) c2) := ⟨_, by rw [← List.push_toArray]; exact get?_update_seq nk2 (·.push v)⟩
    have ek : ds.take (j + 1) = ds.take j ++ [d] := by rw [List.take_add_one, hd]; simp
    try dsimp only
    have hz1 : us.toArray.size ≤ sizeLine := by rw [List.size_toArray]; omega
    refine wpAny_bind (listUpdate_at nk2 rfl ?_ hz1 (Nat.le_trans (Nat.le_of_eq (Array.size_push ..)) (Nat.succ_le_succ hz1)))
    have Ip : Inv X pins σ H'' s'' := I''.pins_of fun p hp => I''.pin p (List.mem_append_right _ (List.mem_cons_of_mem _ (List.mem_cons_of_mem _ hp)))
    have fk' := fpH (H' := H'') fk pk.2.1
    have It := Ip.turned (t' := s''.toks) (h' := s''.heap.update kS (Obj.mapSeq (·.push v))) (it := kS) (fun b o hb e => (s1.2 b hb).trans e) fk'.1 fk'.2.1 fk'.2.2.2.1 fk'.2.2.2.2.1 fk'.2.2.2.2.2
    refine wpAny_pure ⟨rfl, G'', H'', vks ++ [vv], us ++ [v], c2, pinA It pa.2.1 pk.2.1 hc2 ((s1.2 a hka.symm).trans na2), s2'', rk.append (.cons rvv .nil), ?_⟩
    rw [ek, List.map_append]
    exact (dpAllMono g'' _ _ dk).app (.one hkv)
  case done =>
    rintro s' ⟨G', H', vks, us, e, I', s2, rk, dk⟩
    rw [Nat.zero_add, List.take_of_length_le (by omega)] at dk
    have pk := I'.pin (kS, seqObj "list" us.toArray e) (List.mem_append_right _ (List.mem_cons_self))
    have pa := I'.pin (a, seqObj "list" #[] e1) (List.mem_append_right _ (List.mem_cons_of_mem _ List.mem_cons_self))
    have hk' := each_reads I' s2.w.gh rk dk
    have hsz : us.toArray.size = vs.length := by
      have h1 := hk'.length
      rw [List.length_map] at h1
      rw [List.size_toArray]
      omega
    obtain ⟨h₁, k1, k2⟩ := L2.restrict s'.heap (fun b => !decide (b = kS))
    have nk' : s'.heap.get? kS = some (seqObj "list" us.toArray e) := pk.1
    have na' : s'.heap.get? a = some (seqObj "list" #[] e1) := pa.1
    try dsimp only
    refine wpAny_bind (listItems_at nk' rfl ?_)
    refine keyH_end (κ := dataKind s'.heap (ds.map kd)) (h₁ := h₁) (fun b o hb q => ?_) (k2 kS (by simp)) nk' na' hka (SortsAt.data (s := s') (by simpa using hk') hal hsk hu) hsz hZ fun h3 tk3 c k3 n3 => ?_
    · by_cases hbk : b = kS
      · rw [hbk, k2 kS (by simp)] at q; cases q
      · rw [k1 b (by simp [hbk])] at q; exact q
    · have Ip : Inv X pins σ H' s' := I'.pins_of fun p hp => I'.pin p (List.mem_append_right _ (List.mem_cons_of_mem _ (List.mem_cons_of_mem _ hp)))
      refine h _ G' H' _ c (Ip.turnedL (ch := [a, kS]) (fun b o hb q => ?_) fun b hb => ?_) s2 pa.2.1 n3 ⟨s'.heap, us, hal, by simp, hk'⟩
      · have h1 : b ≠ a := fun z => hb (by simp [z])
        have h2 : b ≠ kS := fun z => hb (by simp [z])
        exact k3 b o h1 (by rw [k1 b (by simp [h2])]; exact q)
      · rcases List.mem_cons.mp hb with rfl | hb
        · exact fpH fa pa.2.1
        · rw [List.mem_singleton.mp hb]; exact fpH fk pk.2.1
/-- where the things to be sorted come from: a list, or the keys of a dict -/
def rSrc (K : PySem.W.Frag) (H : Hp) (x : V) (ys : List V) : Prop := (∃ a, x = .ref a ∧ SqL K H a ys) ∨ ∃ d kvs, x = .ref d ∧ H d = some (.dK kvs) ∧ ys = kvs.map fun kv => kV kv.1
def rSortK (K : PySem.W.Frag) (W : WF) : List V → Hp → VK → Prop := fun xs H Q => ∃ x ys G ds kd, xs = [x] ∧ rSrc K H x ys ∧ Ex G H ∧ DpAll K G ys ds ∧ (∀ d ∈ ds, W [d] fun r => r = .fz (kd d)) ∧ AllAlike (ds.map kd) ∧ Sortable (ds.map kd) ∧ (∀ d ∈ ds, (kd d).depth ≤ 60) ∧
  ∀ G' H' p zs, S2 ⟨K, G, H, []⟩ G' H' [] [] [] [] → H' p = none → DpAll K G' zs (ds.mergeSort (dataLe false kd)) → Q (.ref p) (upd H' p (.lst zs))
theorem vals_of_get : ∀ {ys : List V} {us : List Value}, ys.length = us.length → (∀ (i : Nat) (y : V) (u : Value), ys[i]? = some y → us[i]? = some u → RelV y u) → Vals ys us
  | [], [], _, _ => .nil
  | [], _ :: _, h, _ => by simp at h
  | _ :: _, [], h, _ => by simp at h
  | y :: ys, u :: us, h, k => .cons (k 0 y u rfl rfl) (vals_of_get (by simpa using h) fun i a b e1 e2 => k (i + 1) a b (by simpa using e1) (by simpa using e2))
theorem each_zip : ∀ {ys : List V} {vs : List Value} {ds : List PyData}, Vals ys vs → ds.length = vs.length → EachIs (fun v (x : V × PyData) => RelV x.1 v) vs (ys.zip ds)
  | _, _, [], .nil, _ => .nil
  | _, _, _ :: _, .nil, h => by simp at h
  | _, _, [], .cons _ _, h => by simp at h
  | _, _, _ :: _, .cons r rs, h => .cons r (each_zip rs (by simpa using h))
theorem vals_each : ∀ {vs : List Value} {bs : List (V × PyData)}, EachIs (fun v (x : V × PyData) => RelV x.1 v) vs bs → Vals (bs.map (·.1)) vs
  | _, _, .nil => .nil
  | _, _, .cons r e => .cons r (vals_each e)
theorem dpAll_pairs {K : PySem.W.Frag} {G : Hp} : ∀ {bs : List (V × PyData)}, (∀ x ∈ bs, Dp K G x.1 x.2) → DpAll K G (bs.map (·.1)) (bs.map (·.2))
  | [], _ => .nil
  | x :: bs, h => .cons (h x List.mem_cons_self) (dpAll_pairs fun y hy => h y (List.mem_cons_of_mem _ hy))
theorem dp_zip {K : PySem.W.Frag} {G : Hp} : ∀ {ys : List V} {ds : List PyData}, DpAll K G ys ds → ∀ x ∈ ys.zip ds, Dp K G x.1 x.2
  | _, _, .nil, x, hx => by cases hx
  | _, _, .cons a b, x, hx => by
    rcases List.mem_cons.mp hx with rfl | hx
    · exact a
    · exact dp_zip b x hx
theorem collect_src {A : Around} {E : Value → Shared → Prop} {x : V} {u : Value} {ys : List V} (I : Inv X pins σ H s) (r : RelV x u) (hs : rSrc X.K H x ys) (hh : A.handled = none) :
    wpAny (model X.prog X.w) A (collect u) (fun vs s1 => Vals ys vs ∧ vs.length ≤ sizeLine ∧ Inv X pins σ H s1) E s := by
  rcases hs with ⟨a, rfl, sq⟩ | ⟨d, kvs, rfl, hd, rfl⟩
  · obtain rfl : u = Value.ref a := r
    obtain ⟨its, rv, pl, hz⟩ := I.list sq
    have hz' : its.length ≤ sizeLine := by rw [← rv.length]; exact hz
    refine PyProof.Rows.collect_list pl.isList ⟨rv, hz', ?_⟩ hz'
    · exact I.kept (t' := s.toks) fun b o e => by
        rw [Heap.get?_update_ne _ _ _ _ (Nat.ne_of_lt (Heap.lt_size e))]
        exact Heap.get?_push_of_some _ e
  · obtain rfl : u = Value.ref d := r
    obtain ⟨hz, hsys, vs, kv, hdo⟩ := dk_of I.hok hd
    obtain ⟨o, es, ep, r'⟩ := hdo
    have hl : kvs.length = vs.length := Paired.length kv
    refine kdu_collect (kdl_dict (knd := mixKind X.prog X.w) (kvs := vs) (ep := ep) hsys) hh ⟨o, es, r'⟩ (by omega) fun h' tk acc hk it => ?_
    obtain ⟨hsz, hit⟩ := it
    refine ⟨vals_of_get (by rw [List.length_map]; simp [hsz, hl]) fun i y u e1 e2 => ?_, by rw [Array.length_toList]; omega, I.kept hk⟩
    rw [List.getElem?_map] at e1
    rw [Array.getElem?_toList] at e2
    obtain ⟨k, v, e3, ki⟩ := hit i u e2
    cases e4 : kvs[i]? with
    | none => rw [e4] at e1; simp at e1
    | some kv =>
      rw [e4] at e1
      obtain ⟨k', v'⟩ := kv
      have e5 : kV k' = y := by simpa using e1
      subst e5
      obtain ⟨u', e6, _⟩ := kv_get kv e4
      rw [e3] at e6
      have e7 : k = k' := by
        have := congrArg (Option.map Prod.fst) e6
        simpa using this
      subst e7
      exact relV_key (show keyIs k u = true from ki)
/-- the same; C: what the frozen heap holds -/
def rSortC (K : PySem.W.Frag) (W : WF) (C : Hp → Prop) : List V → Hp → VK → Prop := fun xs H Q => ∃ x ys G ds kd, xs = [x] ∧ rSrc K H x ys ∧ Ex G H ∧ C G ∧ DpAll K G ys ds ∧ (∀ d ∈ ds, W [d] fun r => r = .fz (kd d)) ∧ AllAlike (ds.map kd) ∧ Sortable (ds.map kd) ∧ (∀ d ∈ ds, (kd d).depth ≤ 60) ∧
  ∀ G' H' p zs, S2 ⟨K, G, H, []⟩ G' H' [] [] [] [] → H' p = none → DpAll K G' zs (ds.mergeSort (dataLe false kd)) → Q (.ref p) (upd H' p (.lst zs))
/-- sorted(x, key=f) -/
theorem sortR_call {f : Addr} {W : WF} {C : Hp → Prop} {E : Value → Shared → Prop} {xs : List V} {us : List Value} {Q : VK}
    (run : ∀ G, C G → RunsKey X pins σ W X.A.in1.in1 f G) (hhd : X.A.handled = none) (hun : X.A.units + 64 < cLine)
    (I : Inv X pins σ H s) (rx : Vals xs us) (h : rSortC X.K W C xs H Q) :
    wpAny (model X.prog X.w) X.A (call (.builtin "sorted") us [(Str.ofString "key", .ref f)]) (EP X pins σ Q) E s := by
  obtain ⟨x, ys, G, ds, kd, rfl, hs, gh, hC, da, hW, hal, hsk, hdep, q⟩ := h
  obtain ⟨u, rfl, ru⟩ := vals1 rx
  refine PyProof.Rows.call_function_entry_kw PyProof.Rows.kind_sorted PyProof.Rows.plain_sorted PyProof.Rows.entry_sorted ?_ ?_
  · exact ksk_s1 _ _
  unfold Builtin.«sorted»
  refine wpAny_bind (m := checkCount "sorted" 1 1 _) (wpAny_pure ?_)
  refine wpAny_bind (thn (collect_src I ru hs hhd) fun vs s1 ⟨rv, hL, I1⟩ => ?_)
  refine wpAny_bind (wpAny_newList ?_ hL)
  have ho : (s1.heap.push (seqObj "list" vs.toArray 0)).get? s1.heap.objs.size = some (seqObj "list" vs.toArray 0) := Heap.get?_push_size _ rfl
  refine wpAny_bind (wpAny_holding (PyProof.Rows.wpAny_call_entry_kw PyProof.Rows.slot_list_sort ⟨_, ho, rfl⟩ PyProof.Rows.entry_list_sort ?body (ksk_l1 _ _)))
  show wpAny (model X.prog X.w) X.A.in1.in1 (Builtin.«list.sort» ⟨[.ref s1.heap.objs.size], [(Str.ofString "key", .ref f)]⟩) _ _ { s1 with heap := s1.heap.push (seqObj "list" vs.toArray 0) }
  rw [ksk_t1]
  have nA : H s1.heap.objs.size = none := I1.hok.fresh (Nat.le_refl _)
  have fa : FpOk X pins H s1.heap.objs.size := I1.fpOk (Nat.le_refl _) nA
  obtain ⟨e1, ho1⟩ : ∃ e1, ((s1.heap.push (seqObj "list" vs.toArray 0)).update s1.heap.objs.size (Obj.mapSeq fun _ => (#[] : Array Value))).get? s1.heap.objs.size = some (seqObj "list" #[] e1) := ⟨_, get?_update_seq ho fun _ => #[]⟩
  have sb1 := Heap.SameBut.update (s1.heap.push (seqObj "list" vs.toArray 0)) s1.heap.objs.size (Obj.mapSeq fun _ => (#[] : Array Value))
  unfold ksk_tree
  refine wpAny_bind (listItems_at (s := { s1 with heap := s1.heap.push (seqObj "list" vs.toArray 0) }) ho rfl ?_)
  refine wpAny_bind (listUpdate_at (s := { s1 with heap := s1.heap.push (seqObj "list" vs.toArray 0) }) ho rfl ?_ (by rw [List.size_toArray]; exact hL) (Nat.zero_le _))
  refine wpAny_bind (seqEpoch_at (s := { s1 with heap := (s1.heap.push (seqObj "list" vs.toArray 0)).update s1.heap.objs.size (Obj.mapSeq fun _ => (#[] : Array Value)) }) ho1 rfl ?_)
  refine wpAny_bind (wpAny_newTuple ?_ (by show vs.length ≤ _; exact hL))
  refine wpAny_bind (wpAny_newList ?_ (Nat.zero_le _))
  refine wpAny_holding ?_
  generalize hh2 : (s1.heap.push (seqObj "list" vs.toArray 0)).update s1.heap.objs.size (Obj.mapSeq fun _ => (#[] : Array Value)) = h2 at ho1 sb1 ⊢
  have old : ∀ b o, s1.heap.get? b = some o → ((h2.push (seqObj "tuple" vs.toArray 0)).push (seqObj "list" #[] 0)).get? b = some o := fun b o e =>
    Heap.get?_push_of_some _ (Heap.get?_push_of_some _ ((sb1.2 b (Nat.ne_of_lt (Heap.lt_size e))).trans (Heap.get?_push_of_some _ e)))
  have I2 : Inv X pins σ H { s1 with heap := (h2.push (seqObj "tuple" vs.toArray 0)).push (seqObj "list" #[] 0) } := I1.kept (t' := s1.toks) old
  have hsz2 : s1.heap.objs.size < h2.objs.size := Heap.lt_size ho1
  have hkS : h2.objs.size < (h2.push (seqObj "tuple" vs.toArray 0)).objs.size := by rw [PyProof.Rows.size_push']; exact Nat.lt_succ_self _
  have hge : s1.heap.objs.size ≤ (h2.push (seqObj "tuple" vs.toArray 0)).objs.size := by omega
  have fk : FpOk X pins H (h2.push (seqObj "tuple" vs.toArray 0)).objs.size := I1.fpOk hge (I1.hok.fresh hge)
  refine keyI_rest (kS := (h2.push (seqObj "tuple" vs.toArray 0)).objs.size) (run G hC) gh rv da hW hL hal hsk (fun d hd => ?_) fa fk (Nat.ne_of_gt (Nat.lt_trans hsz2 hkS)) I2 (Heap.get?_push_size _ rfl) (Heap.get?_push_of_some _ (Heap.get?_push_of_some _ ho1)) fun s' G' H' out c I' s2 hna hga ko => ?_
  · obtain ⟨d0, h0, rfl⟩ := List.mem_map.mp hd
    have := hdep d0 h0
    show X.A.units + 1 + 1 + (kd d0).depth < cLine
    omega
  · refine ⟨_, rfl, wpAny_pure ⟨_, rfl, ?_⟩⟩
    have hlen : ds.length = vs.length := by rw [← da.len, rv.length]
    have e0 := each_zip rv hlen
    have hsnd : (ys.zip ds).map Prod.snd = ds := List.map_snd_zip (by rw [hlen, ← rv.length]; exact Nat.le_refl _)
    have hmap : ds.map kd = (ys.zip ds).map (fun x => kd x.2) := (congrArg (List.map kd) hsnd).symm.trans (by rw [List.map_map]; rfl)
    rw [hmap] at ko
    have e1 := keyedOut_each (fun x : V × PyData => kd x.2) ko e0
    have hms : ((ys.zip ds).mergeSort (dataLe false fun x : V × PyData => kd x.2)).map Prod.snd = ds.mergeSort (dataLe false kd) := by
      rw [List.map_mergeSort (s := dataLe false kd) (fun a _ b _ => by rw [dataLe_eq, dataLe_eq]), hsnd]
    have rvo := vals_each e1
    have hd1 := dpAll_pairs (K := X.K) (G := G) (bs := (ys.zip ds).mergeSort (dataLe false fun x : V × PyData => kd x.2)) fun x hx => dp_zip da x ((List.mergeSort_perm _ _).mem_iff.mp hx)
    rw [hms] at hd1
    have hzl : (((ys.zip ds).mergeSort (dataLe false fun x : V × PyData => kd x.2)).map (·.1)).length ≤ sizeLine := by
      rw [List.length_map, List.length_mergeSort, List.length_zip]
      omega
    exact ⟨.ref _, _, inv_adopt I' ⟨hna, fa.2⟩ I1.sz (ob := .lst (((ys.zip ds).mergeSort (dataLe false fun x : V × PyData => kd x.2)).map (·.1))) ⟨hzl, out, c, rvo, hga⟩, rfl, q G' H' _ _ s2 hna (dpAllMono s2.w.g0 _ _ hd1)⟩
theorem sortK_call {k : Nat} {f : Addr} {fd : FuncData} {pn : Str} {W : WF} {E : Value → Shared → Prop} {xs : List V} {us : List Value} {Q : VK}
    (F : FnOk X.prog X.w X.K X.mg X.base CX0 k f fd [pn] (SpF X.K W)) (hr : Room (k + 2) X.A) (hb : Binds X.K fd [pn] [])
    (I : Inv X pins σ H s) (rx : Vals xs us) (h : rSortK X.K W xs H Q) :
    wpAny (model X.prog X.w) X.A (call (.builtin "sorted") us [(Str.ofString "key", .ref f)]) (EP X pins σ Q) E s := by
  obtain ⟨x, ys, G, ds, kd, h1, h2, h3, h4⟩ := h
  exact sortR_call (C := fun _ => True) (fun G _ => runs_fn F hr.in1.in1 rfl hb) hr.hd hr.units I rx ⟨x, ys, G, ds, kd, h1, h2, h3, trivial, h4⟩
/-- sorted(e, key=y), y a def of the module -/
def tSortK (K : PySem.W.Frag) (W : WF) (t : TA) : TE := fun σ H Q => t σ H fun xs H1 => rSortK K W xs H1 Q
theorem pe_sortK {k j : Nat} {y : Str} {W : WF} {e : Expr} {t : TA} {p p2 pos kpos : Pos} (c : ∃ (f : Addr) (fd : FuncData) (pn : Str), FnOk X.prog X.w X.K X.mg X.base CX0 k f fd [pn] (SpF X.K W) ∧ X.mg y = some (.ref f) ∧ Binds X.K fd [pn] [])
    (hr : Room j X.A) (hk : k + 2 ≤ j) (hg : Gl X "sorted") (hm : X.mg "sorted" = none) (hgy : Gl X y) (ha : PA X [e] t) (hdy : (y == ("__debug__" : Str)) = false := by decide)
    (he : backTo pos (starEach [e] X.env) = (false, eval e X.env) :: backTo pos (starEach [] X.env) := by rfl) (hpl : (backTo pos (starEach [e] X.env)).any (·.1) = false := by rfl) :
    PE X (.Call (.Name "sorted" p) [e] [⟨some (Str.ofString "key"), .Name y p2, kpos⟩] pos) (tSortK X.K W t) := by
  obtain ⟨f, fd, pn, F, hmy, hb⟩ := c
  refine ⟨fun pins s σ H Q I h => ?_⟩
  refine wpAny_Call_Name_kw (ld_blt I hg hm (u := .builtin "sorted") (by decide +kernel) ?_ (by decide) (by decide))
  refine PyProof.Rows.callWith_kw (thn (ha.run pos pins s σ H _ I h) fun us s1 ⟨vs, H1, I1, r1, q1⟩ => thn ((pk_cons (pe_gc (v := .ref f) hgy ⟨_, hmy, rfl⟩ hdy) pk_nil).run pos pins s1 σ H1 (fun zs H2 => zs = [.ref f] ∧ H2 = H1) I1 ⟨rfl, rfl⟩) fun ws s2 ⟨zs, H2, I2, r2, hz, hH⟩ => ?_) he hpl rfl rfl
  subst hz hH
  obtain rfl := Vals.ref1 r2
  exact sortK_call F (hr.mono hk) hb I2 r1 q1
theorem pe_sortK' (K : PySem.W.Frag) {k j : Nat} {y : Str} {W : WF} {e : Expr} {t : TA} {p p2 pos kpos : Pos} (c : ∃ (f : Addr) (fd : FuncData) (pn : Str), FnOk X.prog X.w X.K X.mg X.base CX0 k f fd [pn] (SpF K W) ∧ X.mg y = some (.ref f) ∧ Binds X.K fd [pn] [])
    (hr : Room j X.A) (hk : k + 2 ≤ j) (hg : Gl X "sorted") (hm : X.mg "sorted" = none) (hgy : Gl X y) (ha : PA X [e] t) (hK : X.K = K := by rfl) (hdy : (y == ("__debug__" : Str)) = false := by decide)
    (he : backTo pos (starEach [e] X.env) = (false, eval e X.env) :: backTo pos (starEach [] X.env) := by rfl) (hpl : (backTo pos (starEach [e] X.env)).any (·.1) = false := by rfl) :
    PE X (.Call (.Name "sorted" p) [e] [⟨some (Str.ofString "key"), .Name y p2, kpos⟩] pos) (tSortK K W t) := by
  subst hK
  exact pe_sortK c hr hk hg hm hgy ha hdy he hpl
end
end SL

/-! defs whose first two arguments are owned things. -/
namespace SL
open PySem L2 Evl
/-- two owned things as one -/
def combO (K : PySem.W.Frag) (v0 v1 : V) (r0 r1 : SD) : Ow where
  fp := r0.fp ++ r1.fp
  R := fun G H v => v = v0 ∧ SD.ok K G H (some v0) r0 ∧ SD.ok K G H (some v1) r1
  loc := fun {G G' H H' v} e k ⟨h1, h2, h3⟩ => ⟨h1, ok_mono e (fun a ha => k a (List.mem_append_left _ ha)) h2, ok_mono e (fun a ha => k a (List.mem_append_right _ ha)) h3⟩
abbrev WB := SD → SD → List PyData → (SD → SD → SD → Prop) → Prop
def SpB (K : PySem.W.Frag) (W : WB) : Sp := fun vs H Q _ => ∃ G v0 v1 ws r0 r1 as post, vs = v0 :: v1 :: ws ∧ Ex G H ∧ SD.ok K G H (some v0) r0 ∧ SD.ok K G H (some v1) r1 ∧ (∀ a ∈ r0.fp ++ r1.fp, G a = none ∧ ∃ o, H a = some o) ∧ (r0.fp ++ r1.fp).Nodup ∧ DpAll K G ws as ∧ W r0 r1 as post ∧
  ∀ r s0 s1, post r s0 s1 → (∀ a ∈ r0.fp ++ r1.fp, a ∈ s0.fp ++ s1.fp) → ∀ v G' H', S2 ⟨K, G, H, r0.fp ++ r1.fp⟩ G' H' [some v] [r] [some v0, some v1] [s0, s1] → Q v H'
section
variable {K : PySem.W.Frag} {F F' : Fm} {G G' H H' : Hp} {τ σ : List (Option V)} {ε δ : List SD} {v x v0 v1 : V} {P : PV} {tr : TA} {r r0 r1 s0 s1 : SD} {j j0 j1 : Nat}
theorem S2.mv (s : S2 F G H τ ε σ δ) (hj : δ[j]? = some r) (hv : σ[j]? = some (some v)) : S2 F G H (some v :: τ) (r :: ε) σ (δ.set j .no) := by
  obtain ⟨ov, e, ok⟩ := s.slot hj
  rw [hv] at e
  cases e
  obtain ⟨l, q1, q2⟩ := fps_set_perm (s' := SD.no) hj
  refine ⟨s.w.perm ?_, ⟨ok, s.t⟩, Oks.setD (fun _ _ => trivial) s.s⟩
  show ((r.fp ++ fps ε) ++ fps (δ.set j .no)).Perm (fps ε ++ fps δ)
  refine (List.Perm.append_left _ q2).trans (List.Perm.trans ?_ (List.Perm.append_left _ q1.symm))
  show ((r.fp ++ fps ε) ++ l).Perm _
  rw [← List.append_assoc]
  exact List.Perm.append_right l List.perm_append_comm
theorem S2.fromSlot {ov : Option V} (s : S2 F G H τ ε (ov :: σ) (r :: δ)) : S2 F G H (ov :: τ) (r :: ε) σ δ := by
  refine ⟨s.w.perm ?_, ⟨s.s.1, s.t⟩, s.s.2⟩
  show ((r.fp ++ fps ε) ++ fps δ).Perm (fps ε ++ (r.fp ++ fps δ))
  rw [← List.append_assoc]
  exact List.Perm.append_right _ List.perm_append_comm
theorem S2.comb (s : S2 F G H (some v0 :: some v1 :: τ) (r0 :: r1 :: ε) σ δ) : S2 F G H (some v0 :: τ) (.ow (combO F.K v0 v1 r0 r1) :: ε) σ δ := by
  refine ⟨?_, ⟨⟨rfl, s.t.1, s.t.2.1⟩, s.t.2.2⟩, s.s⟩
  have w : Wd F G H ((r0.fp ++ (r1.fp ++ fps ε)) ++ fps δ) := s.w
  show Wd F G H (((r0.fp ++ r1.fp) ++ fps ε) ++ fps δ)
  rw [List.append_assoc r0.fp]
  exact w
theorem S2.uncomb (s : S2 F G H (some v0 :: τ) (.ow (combO F.K v0 v1 r0 r1) :: ε) σ δ) : S2 F G H (some v0 :: some v1 :: τ) (r0 :: r1 :: ε) σ δ := by
  obtain ⟨_, h1, h2⟩ := s.t.1
  refine ⟨?_, ⟨h1, h2, s.t.2⟩, s.s⟩
  have w : Wd F G H (((r0.fp ++ r1.fp) ++ fps ε) ++ fps δ) := s.w
  show Wd F G H ((r0.fp ++ (r1.fp ++ fps ε)) ++ fps δ)
  rw [List.append_assoc r0.fp] at w
  exact w
theorem set_same {σ : List (Option V)} (h : σ[j]? = some (some v)) : σ.set j (some v) = σ := by
  apply List.ext_getElem?
  intro i
  by_cases e : j = i
  · subst e
    rw [List.getElem?_set_self (List.getElem?_eq_some_iff.mp h).1, h]
  · rw [List.getElem?_set_ne e]
/-- behind such a call -/
theorem S2.callB {G1 H1 : Hp} (s : S2 F G H τ ε σ δ) (h1 : δ[j1]? = some r1) (h0 : (δ.set j1 .no)[j0]? = some r0) (e0 : σ[j0]? = some (some v0)) (e1 : σ[j1]? = some (some v1))
    (c : S2 ⟨F.K, G, H, r0.fp ++ r1.fp⟩ G1 H1 [some v] [r] [some v0, some v1] [s0, s1]) (hs : ∀ a ∈ r0.fp ++ r1.fp, a ∈ s0.fp ++ s1.fp) :
    S2 F G1 H1 (some v :: τ) (r :: ε) σ (((((δ.set j1 .no).set j0 .no)).set j0 s0).set j1 s1) ∧ ∀ a ∈ r.fp, a ∉ F.io := by
  have a1 := ((s.mv h1 e1).mv h0 e0).comb.toSlot
  have c1 : S2 ⟨F.K, G, H, (SD.ow (combO F.K v0 v1 r0 r1)).fp⟩ G1 H1 [some v] [r] [some v0] [.ow (combO F.K v0 v1 s0 s1)] := by
    refine ⟨?_, c.t, ⟨⟨rfl, c.s.1, c.s.2.1⟩, trivial⟩⟩
    have w : Wd ⟨F.K, G, H, r0.fp ++ r1.fp⟩ G1 H1 ((r.fp ++ []) ++ (s0.fp ++ (s1.fp ++ []))) := c.w
    show Wd ⟨F.K, G, H, r0.fp ++ r1.fp⟩ G1 H1 ((r.fp ++ []) ++ ((s0.fp ++ s1.fp) ++ []))
    simpa using w
  have io := new_io a1 c1 hs
  have a2 := (S2.callO (j := 0) a1 rfl rfl c1).fromSlot.uncomb
  have l0 : (((δ.set j1 SD.no).set j0 .no))[j0]? = some SD.no := List.getElem?_set_self (by have := (List.getElem?_eq_some_iff.mp h0).1; simpa using this)
  have a3 := a2.store l0
  have lj1 : j1 < ((((δ.set j1 SD.no).set j0 .no)).set j0 s0).length := by
    have := (List.getElem?_eq_some_iff.mp h1).1
    simpa using this
  have a4 := a3.store (List.getElem?_eq_getElem lj1)
  rw [set_same e0, set_same e1] at a4
  exact ⟨a4, io⟩
theorem ev_callB {W : WB} {X0 : XK} (h : EA F tr δ fun rs δ1 => ∃ p0 p1 r0 r1 j0 j1 as, rs = .al p0 :: .al p1 :: as.map SD.fz ∧ δ1[j1]? = some r1 ∧ (δ1.set j1 .no)[j0]? = some r0 ∧ Pins F.K r0 p0 ∧ Pins F.K r1 p1 ∧ W r0 r1 as fun r s0 s1 => (∀ a ∈ r.fp, a ∉ F.io) → P r (((((δ1.set j1 .no).set j0 .no)).set j0 s0).set j1 s1)) :
    E F (tCall (SpB F.K W) [] X0 tr) δ P := fun τ ε G H σ Q s q =>
  h τ ε G H σ _ s fun vs rs δ1 G1 H1 ⟨p0, p1, r0, r1, j0, j1, as, hrs, h1, h0, n0, n1, k⟩ e1 el s1 => by
    subst hrs
    rw [List.append_nil]
    have sp := Oks.split (by simpa using el) s1.t
    have sc := S2.popN el s1
    match vs, el, sp with
    | w0 :: w1 :: ws, el, sp =>
      obtain ⟨hw0, hw1, hws⟩ := sp.1
      have hw0' : w0 = .ref p0 := hw0
      have hw1' : w1 = .ref p1 := hw1
      subst hw0' hw1'
      obtain ⟨ov1, e3, ok1⟩ := sc.slot h1
      obtain ⟨x1, rfl⟩ := sd_some n1.1 ok1
      obtain rfl := n1.2 _ _ _ ok1
      have sd := sc.mv h1 e3
      obtain ⟨ov0, e4, ok0⟩ := sd.slot h0
      obtain ⟨x0, rfl⟩ := sd_some n0.1 ok0
      obtain rfl := n0.2 _ _ _ ok0
      have se := (sd.mv h0 e4).comb.toSlot
      obtain ⟨ow, nd⟩ := S2.own_of (j := 0) se rfl
      refine ⟨G1, .ref p0, .ref p1, ws, r0, r1, as, _, rfl, s1.w.gh, ok0, ok1, ow, nd, oks_fz hws, k, fun r s0 s1' pp hs v G' H' c => ?_⟩
      obtain ⟨a4, io⟩ := sc.callB h1 h0 e4 e3 c hs
      exact q v r _ G' H' (pp io) (Ex.trans e1 c.w.g0) a4
theorem bodyB {W : WB} {N : List Str} {vs : List V} {Q : VK} {X0 : XK} {t : TS} (h : SpB K W vs H Q X0)
    (hb : ∀ F r0 r1 as post, F.K = K → F.io = r0.fp ++ r1.fp → W r0 r1 as post → (∀ r δ s0 s1 p0 p1, δ[0]? = some s0 → δ[1]? = some s1 → Pins K r0 p0 → Pins K r1 p1 → Pins K s0 p0 → Pins K s1 p1 → post r s0 s1 → (∀ a ∈ r0.fp ++ r1.fp, a ∈ s0.fp ++ s1.fp) → Ro F Q r δ) →
      Rn F t (startD N.length (r0 :: r1 :: as.map SD.fz)) { nx := fun _ H' => Q .non H', rt := Q }) : t { nx := fun _ H' => Q .non H', rt := Q } (L2.start N vs) H := by
  obtain ⟨G, v0, v1, ws, r0, r1, as, post, rfl, ex, ok0, ok1, ow, nd, da, w, k⟩ := h
  refine hb ⟨K, G, H, r0.fp ++ r1.fp⟩ r0 r1 as post rfl rfl w (fun r δ s0 s1 p0 p1 h0 h1 n0 n1 m0 m1 pp hs v G' H' σ s => ?_) G H _ ?_
  · refine k r s0 s1 pp hs v G' H' ?_
    obtain rfl : v0 = .ref p0 := n0.2 G H v0 ok0
    obtain rfl : v1 = .ref p1 := n1.2 G H v1 ok1
    match δ, h0, h1, s with
    | d0 :: d1 :: δ', h0, h1, s =>
      have e0 : d0 = s0 := by simpa using h0
      have e1 : d1 = s1 := by simpa using h1
      subst e0 e1
      have ss := s.s
      match σ, ss with
      | o0 :: o1 :: σ', ss =>
        obtain ⟨u0, rfl⟩ := sd_some m0.1 ss.1
        obtain ⟨u1, rfl⟩ := sd_some m1.1 ss.2.1
        obtain rfl : u0 = .ref p0 := m0.2 G' H' u0 ss.1
        obtain rfl : u1 = .ref p1 := m1.2 G' H' u1 ss.2.1
        refine ⟨s.w.sub ?_, s.t, ⟨ss.1, ss.2.1, trivial⟩⟩
        show (fps [r] ++ (d0.fp ++ (d1.fp ++ []))).Sublist (fps [r] ++ (d0.fp ++ (d1.fp ++ fps δ')))
        exact List.Sublist.append_left (List.Sublist.append_left (List.Sublist.append_left (List.nil_sublist _) _) _) _
  · have hl : fps (startD N.length (r0 :: r1 :: as.map SD.fz)) = r0.fp ++ r1.fp := by
      unfold startD
      rw [fps_app, fps_no]
      show (r0.fp ++ (r1.fp ++ fps (as.map SD.fz))) ++ [] = r0.fp ++ r1.fp
      rw [fps_fz]
      simp
    refine ⟨?_, trivial, ?_⟩
    · show Wd _ G H (fps [] ++ _)
      rw [hl]
      exact ⟨ex, ow, nd, Ex.refl _, fun a o e _ => e, fun a o e => .inl e, fun a ha => .inl ha, fun a ha => (ow a ha).2⟩
    · unfold L2.start startD
      have e1 : (r0 :: r1 :: as.map SD.fz).length = (v0 :: v1 :: ws).length := by simp [DpAll.len da]
      rw [e1]
      exact Oks.app (τ := (v0 :: v1 :: ws).map some) ⟨ok0, ok1, oks_ofDp da⟩ (oks_nones _)
theorem pins_ol {p : Addr} {ds : List PyData} : Pins K (.ol p ds) p := ⟨fun z => (by cases z), fun G H v h => h.1⟩
end
end SL

/-! try with many clauses, some of them with a name. -/
namespace L2
open PySem PySem.Spec PyProof.Rows
def asEnds (o : Option Nat) (D : Ends) : Ends := match o with
  | none => D
  | some i => { nx := fun σ' H' => D.nx (σ'.set i none) H', rt := D.rt, bk := fun σ' H' => D.bk (σ'.set i none) H', ct := fun σ' H' => D.ct (σ'.set i none) H' }
def asSlot (o : Option Nat) (a : Addr) (σ : St) : St := match o with
  | none => σ
  | some i => σ.set i (some (.ref a))
abbrev HdW := Value × Option Nat × (Addr → Value → Option Addr → TS)
def wMix (K : PySem.W.Frag) (Wout : WX) (D : Ends) : List HdW → WX
  | [] => Wout
  | (c, o, ts) :: r => fun cls d σ H => ∃ b, PySem.W.exmOne K cls c = some b ∧ (b = true → ∀ a, H a = none → ts a cls d (asEnds o D) (asSlot o a σ) H) ∧ (b = false → wMix K Wout D r cls d σ H)
inductive MixOk (X : Cx) : List ExceptHandler → List HdW → Prop
  | nil : MixOk X [] []
  | cons {x : Str} {c : Value} {ts : Addr → Value → Option Addr → TS} {b₀ : Stmt} {suite : List Stmt} {np pos' : Pos} {hds : List ExceptHandler} {l : List HdW} (hc : Names X x c)
      (hsu : ∀ (a : Addr) (oe : Obj) (cls : Value) (d : Option Addr) (pn : List (Addr × Obj)), Zc cls d oe → (∃ vs, oe.data = .fields vs) → PSs (X.suite a ((a, oe) :: pn)) (b₀ :: suite) (ts a cls d)) (r : MixOk X hds l) :
      MixOk X (.ExceptHandler (some (.Name x np)) none (b₀ :: suite) pos' :: hds) ((c, none, ts) :: l)
  | consAs {x n : Str} {i : Nat} {c : Value} {ts : Addr → Value → Option Addr → TS} {b₀ : Stmt} {suite : List Stmt} {np pos' : Pos} {hds : List ExceptHandler} {l : List HdW} (hN : X.N.Nodup) (hi : X.N[i]? = some n) (hln : X.env.kindOf n = some .local) (hc : Names X x c)
      (hsu : ∀ (a : Addr) (oe : Obj) (cls : Value) (d : Option Addr) (pn : List (Addr × Obj)), Zc cls d oe → (∃ vs, oe.data = .fields vs) → PSs (X.suite a ((a, oe) :: pn)) (b₀ :: suite) (ts a cls d)) (r : MixOk X hds l) :
      MixOk X (.ExceptHandler (some (.Name x np)) (some n) (b₀ :: suite) pos' :: hds) ((c, some i, ts) :: l)
section
variable {X : Cx} {body : List Stmt} {h₀ : ExceptHandler} {hds : List ExceptHandler} {l : List HdW} {pos : Pos} {tb : WX → TS} {Wout : WX}
theorem ps_try_mix (hs : X.stack = X.env :: X.outer) (hf : X.env.frame = some X.env.locals) (tk : Takes X Wout)
    (hb : ∀ (W : WX) (pn : List (Addr × Obj)) (xe : Value → Shared → Prop), Takes (X.tr pn xe) W → PassesOwn (model X.prog X.w) X.A X.env xe → PSs (X.tr pn xe) body (tb W))
    (hh : MixOk X (h₀ :: hds) l) : PS X (.Try body (h₀ :: hds) [] [] pos) (fun D σ H => tb (wMix X.K Wout D l) D σ H) := by
  refine ⟨fun pins s σ H D I h => ?_⟩
  have ok := I.ok
  have hfr : X.A.frames = some (X.env :: X.outer) := by rw [ok.frames, hs]
  refine wpAny_Try_except ?_
  refine wpAny_mono ((hb (wMix X.K Wout D l) (X.pn ++ pins) (fun e s₁ => wpAny (model X.prog X.w) X.A (noteFrame e X.env) (fun _ s₂ => wpAny (model X.prog X.w) X.A (setFlight e none) (fun _ s₃ =>
    wpAny (model X.prog X.w) X.A (handleBy e X.env (h₀ :: hds)) (SP X pins D) X.xe s₃) X.xe s₂) X.xe s₁) (fun u s' xx => ?_) PassesOwn.looking).run [] s σ H D (I.toTry _) h) (fun f s1 hsp => ?_) (fun e s1 he => he)
  · obtain ⟨a, B, sI, pins', σ', H', cls, d, rfl, J', nb, up, sky, na, os, ag, w⟩ := xx
    have J : Inv X pins σ' H' sI := J'.ofTry ok
    have sky' : Sky B (X.env :: X.outer) a (Zc cls d) X.env.locals s'.heap := by rw [← hs]; exact sky
    show wpAny (model X.prog X.w) X.A (noteFrame (.ref a) X.env) _ _ _
    refine Sky.land Zc.steady hfr hf sky' fun h3 fl3 up3 => ?_
    have J3 : Inv X pins σ' H' { s' with heap := h3 } := J.landed nb fl3.1 (up.trans up3) os ag
    obtain ⟨oe3, vs3, he3, hz3, hd3⟩ := fl3.there
    have notFr : ∀ {h : Heap} {o : Obj} {vs : Array Value}, h.FunFrames B (X.env :: X.outer) → h.get? a = some o → o.data = .fields vs → a ∉ frs (X.env :: X.outer) := fun {h o vs} ff e dd hm => by
      obtain ⟨_, o', e', hnf⟩ := ff.mem hm
      rw [e] at e'; cases e'
      exact hnf _ dd
    have nfr := notFr fl3.2.2.1 he3 hd3
    have nL : a ≠ X.env.locals := fun z => nfr (List.mem_filterMap.mpr ⟨X.env, List.mem_cons_self, by rw [hf, z]⟩)
    have nF : a ∉ X.fs := fun hm => by
      obtain ⟨e, he, q⟩ := List.mem_filterMap.mp hm
      exact nfr (List.mem_filterMap.mpr ⟨e, List.mem_cons_of_mem _ he, q⟩)
    have S3 := J3.suite he3 hd3 na nL nF
    have LT : PySem.W.Looks (model X.prog X.w) h3 (typeOf (.ref a)) cls := fun A Q E s k q => wpAny_typeOf_ref (k _ _ he3) (by rw [hz3.1]; exact q)
    have test : ∀ {x : Str} {c : Value} {np : Pos} {Q : Value → Shared → Prop} {E : Value → Shared → Prop}, Names X x c → Q c { s' with heap := h3 } → wpAny (model X.prog X.w) (X.A.mark (some (.ref a))) (eval (.Name x np) X.env) Q E { s' with heap := h3 } := fun {x c np Q E} hc q => by
      obtain ⟨hg, hdbg, hm | ⟨hm, hv, hnn⟩⟩ := hc
      · exact ld_glob (X := X.suite a ((a, oe3) :: (X.pn ++ pins))) S3 hg hm q hdbg
      · exact ld_blt (X := X.suite a ((a, oe3) :: (X.pn ++ pins))) S3 hg hm hv q hnn hdbg
    have go : ∀ {hds' : List ExceptHandler} {l' : List HdW}, MixOk X hds' l' → wMix X.K Wout D l' cls d σ' H' →
        wpAny (model X.prog X.w) X.A (handleBy (.ref a) X.env hds') (SP X pins D) X.xe { s' with heap := h3 } := by
      intro hds' l' hk
      induction hk with
      | nil =>
        intro w
        refine wpAny_handleBy_nil ?_
        obtain ⟨k1, k2, k3, oe, vs, T, oT, ts', he, hz, hd, h1, hr⟩ := id fl3
        unfold PySem.passOn
        refine wpAny_bind (wpAny_field he hd h1 ?_)
        rw [if_neg (show ¬ ((Value.ref T == Value.none) = true) from by simp)]
        have fin : wpAny (model X.prog X.w) X.A (setFlight (.ref a) X.env.frame) (fun _ s4 => wpAny (model X.prog X.w) X.A (throw (.ref a) : Sem Flow) (SP X pins D) X.xe s4) X.xe { s' with heap := h3 } := by
          rw [hf]
          refine HandSPX.setFlight_upZ fl3 fun h4 hh4 up4 => wpAny_throw (tk _ _ ?_)
          exact ⟨a, B, sI, pins, σ', H', cls, d, rfl, J, nb, (up.trans up3).trans up4, .inr (.inr (by rw [hs]; exact hh4)), na, os, ag, w⟩
        first
          | exact wpAny_bind (wpAny_pure (wpAny_bind fin))
          | exact wpAny_bind fin
      | @cons x c ts b₀ suite np pos' hds2 l2 hc hsu r ih =>
        intro w
        obtain ⟨b, hb1, hyes, hno⟩ := w
        refine wpAny_handleBy_cons (codeAny_handlers_test ?_) (by intro q; cases q)
        have LM := PySem.W.exm_one (M := model X.prog X.w) (J3.kIn) LT hb1
        refine test hc (LM.here ?_)
        cases b with
        | true =>
          refine codeAny_handlers_suite ?_
          refine HandSPX.lands_againZ fl3 fun h4 fl4 up4 => ?_
          have J4 : Inv X pins σ' H' { s' with heap := h4 } := J.landed nb fl4.1 ((up.trans up3).trans up4) os ag
          obtain ⟨oe4, vs4, he4, hz4, hd4⟩ := fl4.there
          have S4 := J4.suite he4 hd4 na nL nF
          refine wpAny_mono ((hsu a oe4 cls d (X.pn ++ pins) hz4 ⟨_, hd4⟩).run [] _ _ H' _ S4 (hyes rfl a na)) (fun f s6 hsp => ?_) (fun _ _ z => False.elim z)
          cases f with
          | next =>
            obtain ⟨σ6, H6, S6, q6⟩ := hsp
            exact ⟨_, _, S6.unsuite ok, q6⟩
          | brk =>
            obtain ⟨σ6, H6, S6, q6⟩ := hsp
            exact ⟨_, _, S6.unsuite ok, q6⟩
          | cont =>
            obtain ⟨σ6, H6, S6, q6⟩ := hsp
            exact ⟨_, _, S6.unsuite ok, q6⟩
          | ret u =>
            obtain ⟨v6, σ6, H6, S6, r6, q6⟩ := hsp
            exact ⟨_, _, _, S6.unsuite ok, r6, q6⟩
        | false =>
          show wpAny _ X.A (handleBy (.ref a) X.env hds2) _ _ _
          exact ih (hno rfl)
      | @consAs x n i c ts b₀ suite np pos' hds2 l2 hN hi hln hc hsu r ih =>
        intro w
        obtain ⟨b, hb1, hyes, hno⟩ := w
        have hloc : Loc X.env.scope n := .inl hln
        refine wpAny_handleBy_cons (codeAny_handlers_test ?_) (by intro q; cases q)
        have LM := PySem.W.exm_one (M := model X.prog X.w) (J3.kIn) LT hb1
        refine test hc (LM.here ?_)
        cases b with
        | true =>
          refine codeAny_handlers_suite_as ?_
          refine HandSPX.lands_againZ fl3 fun h4 fl4 up4 => ?_
          have J4 : Inv X pins σ' H' { s' with heap := h4 } := J.landed nb fl4.1 ((up.trans up3).trans up4) os ag
          obtain ⟨oe4, vs4, he4, hz4, hd4⟩ := fl4.there
          have S4 := J4.suite he4 hd4 na nL nF
          refine store_ok (X := X.suite a ((a, oe4) :: (X.pn ++ pins))) (v := .ref a) S4 hN hi hloc rfl (fun s5 S5 => ?_) (.inr hln)
          refine wpAny_mono ((hsu a oe4 cls d (X.pn ++ pins) hz4 ⟨_, hd4⟩).run [] s5 _ H' _ S5 (hyes rfl a na)) (fun f s6 hsp => ?_) (fun _ _ z => False.elim z)
          have end_ : ∀ {σ6 : St} {H6 : Hp} {Q : Shared → Prop}, Inv (X.suite a ((a, oe4) :: (X.pn ++ pins))) [] σ6 H6 s6 → (∀ s7, Inv X pins (σ6.set i none) H6 s7 → Q s7) →
              wpAny (model X.prog X.w) X.A (do bindName X.env n .none; unbindBehindTheSuite X.env n pos') (fun _ s7 => Q s7) X.xe s6 := fun {σ6 H6 Q} S6 hq => gone_ok (S6.unsuite ok) hN hi hln hq
          cases f with
          | next =>
            obtain ⟨σ6, H6, S6, q6⟩ := hsp
            exact end_ S6 fun s7 J7 => ⟨_, _, J7, q6⟩
          | brk =>
            obtain ⟨σ6, H6, S6, q6⟩ := hsp
            exact end_ S6 fun s7 J7 => ⟨_, _, J7, q6⟩
          | cont =>
            obtain ⟨σ6, H6, S6, q6⟩ := hsp
            exact end_ S6 fun s7 J7 => ⟨_, _, J7, q6⟩
          | ret u =>
            obtain ⟨v6, σ6, H6, S6, r6, q6⟩ := hsp
            exact end_ S6 fun s7 J7 => ⟨_, _, _, J7, r6, q6⟩
        | false =>
          show wpAny _ X.A (handleBy (.ref a) X.env hds2) _ _ _
          exact ih (hno rfl)
    exact go hh w
  · cases f with
    | next =>
      obtain ⟨σ', H', J', q⟩ := hsp
      exact wpAny_execs_nil ⟨σ', H', J'.ofTry ok, q⟩
    | brk =>
      obtain ⟨σ', H', J', q⟩ := hsp
      exact ⟨σ', H', J'.ofTry ok, q⟩
    | cont =>
      obtain ⟨σ', H', J', q⟩ := hsp
      exact ⟨σ', H', J'.ofTry ok, q⟩
    | ret u =>
      obtain ⟨v, σ', H', J', r, q⟩ := hsp
      exact ⟨v, σ', H', J'.ofTry ok, r, q⟩
end
end L2

/-! defs that raise, and what is raised, as data. -/
namespace L2
open PySem PySem.Spec PyProof.Rows
/-- a def by its name that may raise -/
structure CalX (P : Program) (w : World) (K : PySem.W.Frag) (mg : Str → Option Value) (base : Heap) (k : Nat) (x : Str) (sp : Sp) : Prop where
  ex : ∃ (f : Addr) (fd : FuncData) (ps : List Str), FnOk P w K mg base (L2.CX P w) k f fd ps sp ∧ mg x = some (.ref f) ∧ PySem.W.keepIn K (.ref f) = true ∧ Binds K fd ps []
section
variable {X : Cx} {k j : Nat} {x : Str} {sp : Sp} {p pos : Pos} {e : Expr} {es : List Expr} {t : TA} {W : WX}
theorem pe_cX (c : CalX X.prog X.w X.K X.mg X.base k x sp) (tk : Takes X W) (hr : Room j X.A) (hk : k ≤ j) (hg : Gl X x) (ha : PA X (e :: es) t)
    (hdb : (x == ("__debug__" : Str)) = false := by decide) (he : starEach (e :: es) X.env = (false, eval e X.env) :: starEach es X.env := by rfl) (hpl : (backTo pos (starEach es X.env)).any (·.1) = false := by rfl) :
    PE X (.Call (.Name x p) (e :: es) [] pos) (tCallS sp (WE W) t) := by
  obtain ⟨f, fd, ps, F, hm, kp, b⟩ := c.ex
  exact pe_callS F (hr.mono hk) hg hm kp b (fun σ => passAt tk σ) ha hdb he hpl
end
end L2
namespace SL
open PySem L2 Evl
/-- fields and their frozen data -/
inductive FdOk (K : PySem.W.Frag) (G : Hp) : List (Str × V) → List (Str × PyData) → Prop
  | nil : FdOk K G [] []
  | cons {f : Str} {v : V} {d : PyData} {vs : List (Str × V)} {ds : List (Str × PyData)} : Dp K G v d → FdOk K G vs ds → FdOk K G ((f, v) :: vs) ((f, d) :: ds)
theorem FdOk.mono {K : PySem.W.Frag} {G G' : Hp} (e : Ex G G') : ∀ {vs : List (Str × V)} {ds : List (Str × PyData)}, FdOk K G vs ds → FdOk K G' vs ds
  | _, _, .nil => .nil
  | _, _, .cons a b => .cons (dpMono e _ _ a) (b.mono e)
theorem FdOk.look {K : PySem.W.Frag} {G : Hp} {f : Str} {d : PyData} : ∀ {vs : List (Str × V)} {ds : List (Str × PyData)}, FdOk K G vs ds → ds.lookup f = some d → ∃ v, vs.lookup f = some v ∧ Dp K G v d
  | _, _, .nil, e => by cases e
  | _, _, .cons (f := g) (v := v) (d := d') a b, e => by
    rw [L2.lookup_put]
    by_cases h : f = g
    · subst h
      have : d' = d := by simpa [List.lookup] using e
      subst this
      exact ⟨v, if_pos rfl, a⟩
    · rw [if_neg h]
      refine FdOk.look b ?_
      have hb : (f == g) = false := beq_eq_false_iff_ne.mpr h
      simpa [List.lookup, hb] using e
/-- the dict of an exception: its fields, frozen -/
def XDat (K : PySem.W.Frag) (G : Hp) (d : Option Addr) (fs : List (Str × PyData)) : Prop := (d = none ∧ fs = []) ∨ ∃ dd vs, d = some dd ∧ G dd = some (.xd vs) ∧ FdOk K G vs fs
theorem XDat.mono {K : PySem.W.Frag} {G G' : Hp} {d : Option Addr} {fs : List (Str × PyData)} (e : Ex G G') : XDat K G d fs → XDat K G' d fs
  | .inl h => .inl h
  | .inr ⟨dd, vs, h1, h2, h3⟩ => .inr ⟨dd, vs, h1, e _ _ h2, h3.mono e⟩
section
variable {K : PySem.W.Frag} {F F' : Fm} {G G' H H' : Hp} {τ σ : List (Option V)} {ε δ : List SD} {v : V} {P : PV} {te ta tb : TE} {ts : TS} {D : Ends} {N : St → Hp → Prop} {tr : TA} {Wx : WX} {c : Addr} {fs : List (Str × PyData)}
/-- an exception of the class at c with these fields, from the slots δ -/
def Xn (F : Fm) (Wx : WX) (δ : List SD) (c : Addr) (fs : List (Str × PyData)) : Prop := ∀ G H σ d, S2 F G H [] [] σ δ → XDat F.K G d fs → Wx (.ref c) d σ H
theorem Xn.up (l : Le F F') (h : Xn F Wx δ c fs) : Xn F' Wx δ c fs := fun G H σ d s x => h G H σ d (s.up l) (by rw [l.k] at *; exact x)
abbrev WFX := List PyData → (SD → Prop) → (Addr → List (Str × PyData) → Prop) → Prop
def SpFX (K : PySem.W.Frag) (W : WFX) : Sp := fun vs H Q E => ∃ G ds post xp, Ex G H ∧ DpAll K G vs ds ∧ W ds post xp ∧ (∀ r, post r → ∀ v G' H', S2 ⟨K, G, H, []⟩ G' H' [some v] [r] [] [] → Q v H') ∧
  ∀ c fs, xp c fs → ∀ d G' H', S2 ⟨K, G, H, []⟩ G' H' [] [] [] [] → XDat K G' d fs → E (.ref c) d H'
theorem S2.callX {G1 H1 : Hp} (s : S2 F G H τ ε σ δ) (c : S2 ⟨F.K, G, H, []⟩ G1 H1 [] [] [] []) : S2 F G1 H1 τ ε σ δ :=
  (s.call (v := .non) (r := .fz .none) (c.push rfl .non)).pop
theorem S2.dropS (s : S2 F G H τ ε σ δ) : S2 F G H [] [] σ δ := ⟨s.w.sub (List.sublist_append_right _ _), trivial, s.s⟩
theorem ev_callFX {W : WFX} (h : EA F tr δ fun rs δ1 => ∃ ds, rs = ds.map SD.fz ∧ W ds (fun r => (∀ a ∈ r.fp, a ∉ F.io) → P r δ1) fun c fs => Xn F Wx δ1 c fs) : E F (tCallS (SpFX F.K W) (WE Wx) tr) δ P := fun τ ε G H σ Q s q =>
  h τ ε G H σ _ s fun vs rs δ1 G1 H1 ⟨ds, hr, k⟩ e1 el s1 => by
    subst hr
    have sp := Oks.split (by simpa using el) s1.t
    have s0 := S2.popN el s1
    refine ⟨G1, ds, _, _, s1.w.gh, oks_fz sp.1, k, fun r p v G' H' c => ?_, fun c fs hx d G' H' s2 xd => hx G' H' σ d (s0.callX s2).dropS xd⟩
    refine q v r δ1 G' H' (p fun a ha hi => ?_) (Ex.trans e1 c.w.g0) (s0.call c)
    obtain ⟨o, e⟩ := s1.w.io a hi
    rcases c.w.of a (by simp [fps, ha]) with z | z
    · simp at z
    · rw [show H1 a = none from z] at e; cases e
theorem bodyFX {W : WFX} {N : List Str} {vs : List V} {Q : VK} {E0' : XK} {t : TS} (h : SpFX K W vs H Q E0')
    (hb : ∀ F ds post xp, F.K = K → F.io = [] → W ds post xp → (∀ r δ, post r → Ro F Q r δ) → (∀ c fs δ, xp c fs → Xn F (fun cls d _ H => E0' cls d H) δ c fs) → Rn F t (startD N.length (ds.map SD.fz)) { nx := fun _ H' => Q .non H', rt := Q }) : t { nx := fun _ H' => Q .non H', rt := Q } (L2.start N vs) H := by
  obtain ⟨G, ds, post, xp, ex, da, w, k, kx⟩ := h
  refine hb ⟨K, G, H, []⟩ ds post xp rfl rfl w (fun r δ p v G' H' σ s => k r p v G' H' ⟨s.w.sub ?_, s.t, trivial⟩) (fun c fs δ hx G' H' σ d s xd => kx c fs hx d G' H' ⟨s.w.sub ?_, trivial, trivial⟩ xd) G H _ ?_
  · show (fps [r] ++ fps []).Sublist (fps [r] ++ fps δ)
    exact List.Sublist.append_left (List.nil_sublist _) _
  · exact List.nil_sublist _
  · have hl : fps (startD N.length (ds.map SD.fz)) = [] := by
      unfold startD
      rw [fps_app, fps_fz, fps_no]
      rfl
    refine ⟨?_, trivial, ?_⟩
    · show Wd _ G H (fps [] ++ _)
      rw [hl]
      exact ⟨ex, fun a ha => by simp [fps] at ha, by simp [fps], Ex.refl _, fun a o e _ => e, fun a o e => .inl e, fun a ha => by simp [fps] at ha, fun a ha => by simp at ha⟩
    · unfold L2.start startD
      rw [List.length_map, ← DpAll.len da]
      exact Oks.app (oks_ofDp da) (oks_nones _)
/-- the caught exception in its slot -/
def excO (K : PySem.W.Frag) (a : Addr) (d : Option Addr) (fs : List (Str × PyData)) : Ow where
  fp := []
  R := fun G _ v => v = .ref a ∧ XDat K G d fs
  loc := fun e _ h => ⟨h.1, h.2.mono e⟩
/-- e.f, e the caught exception -/
theorem ev_xf {i : Nat} {a C : Addr} {d : Option Addr} {f : Str} {x : PyData} (hi : δ[i]? = some (.ow (excO F.K a d fs))) (hf : fs.lookup f = some x) (k : P (.fz x) δ) : E F (tXf a (.ref C) d C f (tVar i)) δ P := fun τ ε G H σ Q s q => by
  obtain ⟨ov, e, ok⟩ := s.slot hi
  obtain ⟨v, rfl⟩ := sd_some (by intro z; cases z) ok
  obtain ⟨rfl, xd⟩ : v = .ref a ∧ XDat F.K G d fs := ok
  refine ⟨.ref a, e, rfl, rfl, ?_⟩
  rcases xd with ⟨rfl, rfl⟩ | ⟨dd, vs, rfl, hg, fo⟩
  · cases hf
  · obtain ⟨v, hv, hd⟩ := fo.look hf
    exact ⟨dd, vs, v, rfl, s.w.gh _ _ hg, hv, q v _ δ G H k (Ex.refl _) (s.push rfl hd)⟩
/-! ### clauses -/
theorem xn_no {Wout : WX} {cv : Value} {o : Option Nat} {ts : Addr → Value → Option Addr → TS} {r : List HdW} (hx : PySem.W.exmOne F.K (.ref c) cv = some false) (h : Xn F (wMix F.K Wout D r) δ c fs) : Xn F (wMix F.K Wout D ((cv, o, ts) :: r)) δ c fs := fun G H σ d s x =>
  ⟨false, hx, fun z => (by cases z), fun _ => h G H σ d s x⟩
theorem xn_yes {Wout : WX} {cv : Value} {ts : Addr → Value → Option Addr → TS} {r : List HdW} (hx : PySem.W.exmOne F.K (.ref c) cv = some true) (h : ∀ a d, Rn F (ts a (.ref c) d) δ D) : Xn F (wMix F.K Wout D ((cv, none, ts) :: r)) δ c fs := fun G H σ d s x =>
  ⟨true, hx, fun _ a _ => h a d G H σ s, fun z => (by cases z)⟩
theorem xn_as {Wout : WX} {cv : Value} {i : Nat} {ts : Addr → Value → Option Addr → TS} {r : List HdW} (hi : δ[i]? = some .no) (hx : PySem.W.exmOne F.K (.ref c) cv = some true) (h : ∀ a d, Rn F (ts a (.ref c) d) (δ.set i (.ow (excO F.K a d fs))) (asEnds (some i) D)) : Xn F (wMix F.K Wout D ((cv, some i, ts) :: r)) δ c fs := fun G H σ d s x =>
  ⟨true, hx, fun _ a _ => by
    have s1 : S2 F G H [some (.ref a)] [.ow (excO F.K a d fs)] σ δ := s.push rfl ⟨rfl, x⟩
    exact h a d G H _ (s1.store hi), fun z => (by cases z)⟩
end
end SL

/-! raise: own exception classes whose __init__ keeps its arguments as fields. -/
namespace L2
open PySem PySem.Spec PyProof.Rows
/-- an exception's __init__: it keeps its arguments under these names -/
def SpI (C : Addr) (names : List Str) : Sp := fun vs H Q _ => ∃ a ws, vs = .ref a :: ws ∧ ws.length = names.length ∧ H a = some (exo a C none) ∧
  ∀ dx H2, H dx = none → H2 a = some (exo a C (some dx)) → H2 dx = some (exd dx (names.zip ws).reverse) → (∀ b, b ≠ a → b ≠ dx → H2 b = H b) → Q .non H2
theorem initRun1 {K : PySem.W.Frag} {C : Addr} {f : Str} {N : List Str} {vs : List V} {H : Hp} {Q : VK} {E : XK} (T : OexC K C) (hno : PySem.W.findIn K (.ref C) f = some none) (h : SpI C [f] vs H Q E) :
    tOst K f (tVar 0) (tVar 1) { nx := fun _ H' => Q .non H', rt := Q } (start N vs) H := by
  obtain ⟨a, ws, rfl, hl, ha, k⟩ := h
  match ws, hl with
  | [y], _ =>
    refine ⟨y, rfl, .ref a, rfl, a, C, rfl, T, hno, .inl ⟨ha, fun dx hdx hne => ?_⟩⟩
    refine k dx _ hdx upd_same ?_ fun b h1 h2 => ?_
    · rw [upd_ne hne, upd_same]; rfl
    · rw [upd_ne h1, upd_ne h2]
theorem initRun2 {K : PySem.W.Frag} {C : Addr} {f g : Str} {N : List Str} {vs : List V} {H : Hp} {Q : VK} {E : XK} (T : OexC K C) (hno : PySem.W.findIn K (.ref C) f = some none) (hno2 : PySem.W.findIn K (.ref C) g = some none) (h : SpI C [f, g] vs H Q E) :
    tSeq (tOst K f (tVar 0) (tVar 1)) (tOst K g (tVar 0) (tVar 2)) { nx := fun _ H' => Q .non H', rt := Q } (start N vs) H := by
  obtain ⟨a, ws, rfl, hl, ha, k⟩ := h
  match ws, hl with
  | [y, z], _ =>
    refine ⟨y, rfl, .ref a, rfl, a, C, rfl, T, hno, .inl ⟨ha, fun dx hdx hne => ?_⟩⟩
    refine ⟨z, rfl, .ref a, rfl, a, C, rfl, T, hno2, .inr ⟨dx, [(f, y)], upd_same, ?_, by show 1 ≤ 900; omega, ?_⟩⟩
    · rw [upd_ne hne, upd_same]
    · refine k dx _ hdx ?_ ?_ fun b h1 h2 => ?_
      · rw [upd_ne (Ne.symm hne), upd_same]
      · rw [upd_same]; rfl
      · rw [upd_ne h2, upd_ne h1, upd_ne h2]
/-- such a class by its name -/
structure ExI (P : Program) (w : World) (K : PySem.W.Frag) (mg : Str → Option Value) (base : Heap) (k : Nat) (x : Str) (C : Addr) (names : List Str) : Prop where
  ex : ∃ (fI : Addr) (fd : FuncData) (ps : List Str), OexC K C ∧ PySem.W.findIn K (.ref C) "__init__" = some (some (.ref fI)) ∧ PySem.W.typeIn K (.ref fI) = some (.type "function") ∧ FnOk P w K mg base CX0 k fI fd ps (SpI C names) ∧ Binds K fd ps [] ∧ mg x = some (.ref C)
def tRz (C : Addr) (names : List Str) (W : WX) (t : TA) : TS := fun _ σ H => tMkO C (SpI C names) [] t σ H fun cls d H' => W cls d σ H'
section
variable {X : Cx} {k j : Nat} {x : Str} {C : Addr} {names : List Str} {p pos pos' : Pos} {e : Expr} {es : List Expr} {t : TA} {W : WX}
theorem ps_rz (hc : X.calm = true) (c : ExI X.prog X.w X.K X.mg X.base k x C names) (tk : Takes X W) (hr : Room j X.A) (hk : k + 1 ≤ j) (hg : Gl X x) (ha : PA X (e :: es) t)
    (hdb : (x == ("__debug__" : Str)) = false := by decide) (he : starEach (e :: es) X.env = (false, eval e X.env) :: starEach es X.env := by rfl) (hpl : (backTo pos (starEach es X.env)).any (·.1) = false := by rfl) :
    PS X (.Raise (some (.Call (.Name x p) (e :: es) [] pos)) none pos') (tRz C names W t) := by
  obtain ⟨fI, fd, ps, T, iC, tI, F, hb, hm⟩ := c.ex
  exact ps_raise hc tk (pmk_oex T iC tI F (hr.mono hk) hb .nil pass0 hg hm ha hdb he hpl)
end
/-- a def's own wish -/
theorem takesD {P : Program} {w : World} {K : PySem.W.Frag} {mg : Str → Option Value} {base : Heap} {N : List Str} {qual : Str} {scope : Scope} {f : Addr} {cd : Value} {A : Around} {outer : List Env} {s : Shared} {H : Hp} {E : XK} :
    Takes (cxOf (L2.CX P w) P w K mg base N qual scope f cd A outer s H E) (fun cls d _ H => E cls d H) := takes_of rfl rfl rfl rfl
end L2
namespace SL
open PySem L2 Evl
theorem fdOk_zip {K : PySem.W.Frag} {G : Hp} : ∀ (names : List Str) {vs : List V} {ds : List PyData}, DpAll K G vs ds → FdOk K G (names.zip vs) (names.zip ds)
  | [], _, _, _ => .nil
  | n :: r, _, _, .nil => .nil
  | n :: r, _, _, .cons a b => .cons a (fdOk_zip r b)
theorem FdOk.app {K : PySem.W.Frag} {G : Hp} : ∀ {vs ws : List (Str × V)} {ds es : List (Str × PyData)}, FdOk K G vs ds → FdOk K G ws es → FdOk K G (vs ++ ws) (ds ++ es)
  | _, _, _, _, .nil, h => h
  | _, _, _, _, .cons a b, h => .cons a (FdOk.app b h)
theorem FdOk.rev {K : PySem.W.Frag} {G : Hp} : ∀ {vs : List (Str × V)} {ds : List (Str × PyData)}, FdOk K G vs ds → FdOk K G vs.reverse ds.reverse
  | _, _, .nil => .nil
  | _, _, .cons a b => by
    rw [List.reverse_cons, List.reverse_cons]
    exact FdOk.app b.rev (.cons a .nil)
section
variable {F : Fm} {δ : List SD} {D : Ends} {tr : TA} {Wx : WX} {C : Addr} {names : List Str}
theorem rn_rz (h : EA F tr δ fun rs δ1 => ∃ ds, rs = ds.map SD.fz ∧ ds.length = names.length ∧ ds.length ≤ 1000 ∧ Xn F Wx δ1 C (names.zip ds).reverse) : Rn F (tRz C names Wx tr) δ D := fun G H σ s =>
  h [] [] G H σ _ s fun vs rs δ1 G1 H1 ⟨ds, hr, hl, hz, k⟩ e1 el s1 => by
    subst hr
    have sp := Oks.split (by simpa using el) s1.t
    have s0 := S2.popN el s1
    have da := oks_fz sp.1
    have hlen := DpAll.len da
    refine ⟨by omega, fun a ha => ⟨a, vs, by simp, by omega, upd_same, fun dx H2 hdx h1 h2 h3 => ?_⟩⟩
    have hne : dx ≠ a := fun z => by rw [z, upd_same] at hdx; cases hdx
    have hdx' : H1 dx = none := by rw [upd_ne hne] at hdx; exact hdx
    refine ⟨rfl, dx, _, h1, h2, hdx', ?_⟩
    have eH : upd (del H2 a) dx (.xd (names.zip vs).reverse) = upd H1 dx (.xd (names.zip vs).reverse) := by
      funext b
      by_cases hb : b = dx
      · rw [hb, upd_same, upd_same]
      · rw [upd_ne hb, upd_ne hb]
        by_cases hb2 : b = a
        · rw [hb2, del_same, ha]
        · rw [del_ne hb2, h3 b hb2 hb, upd_ne hb2]
    rw [eH]
    have s2 := s0.newF (o := .xd (names.zip vs).reverse) hdx'
    refine k _ _ σ (some dx) s2 (.inr ⟨dx, _, rfl, upd_same, ?_⟩)
    exact (fdOk_zip names da).rev.mono (Ex.new (s0.w.gnone hdx'))
theorem nx_as {i : Nat} {r : SD} (hi : δ[i]? = some r) (h : Nx F D.nx (δ.set i .no)) : Nx F (asEnds (some i) D).nx δ := fun G H σ s => by
  have s1 : S2 F G H [] [] (σ.set i none) (δ.set i .no) := by
    obtain ⟨l, q1, q2⟩ := fps_set_perm (s' := SD.no) hi
    have w1 : Wd F G H (r.fp ++ l) := s.w.perm (by simpa [fps] using q1.symm)
    have w2 : Wd F G H l := w1.sub (List.sublist_append_right _ _)
    exact ⟨w2.perm (by simpa [fps, SD.fp] using q2), s.t, Oks.set (ov := none) (s := .no) trivial i s.s⟩
  exact h G H _ s1
end
end SL

/-! what the head says of own exception classes. -/
namespace SL
open PySem PySem.Spec PyProof.Rows L2 PySem.HandSPX
def oexB (K : PySem.W.Frag) (C : Addr) : Bool := (match K.lookup C with
  | some ⟨.type "type", _, .cls cd, sl⟩ => (match cd.mro, sl.toList with
    | .ref C' :: bm, [_, _, _, _, some (.builtin n), _] => C' == C && n == "ValueError.__new__" && !cd.hasDel && cd.hasDict && refsVE bm
    | _, _ => false)
  | _ => false) && (decide (PySem.W.findIn K (.ref C) "__setattr__" = some (some (.builtin "object.__setattr__"))) && (decide (PySem.W.subIn K (.ref C) (.type "BaseException") = some true) && (decide (PySem.W.typeIn K (.ref C) = some (.type "type")) && (PySem.W.keepIn K (.ref C) && xfB K C))))
theorem oexB_ok {K : PySem.W.Frag} {C : Addr} (h : oexB K C = true) : OexC K C ∧ XfC K C := by
  unfold oexB at h
  obtain ⟨q, h⟩ := Bool.and_eq_true_iff.mp h
  obtain ⟨h1, h⟩ := Bool.and_eq_true_iff.mp h
  obtain ⟨h2, h⟩ := Bool.and_eq_true_iff.mp h
  obtain ⟨h3, h⟩ := Bool.and_eq_true_iff.mp h
  obtain ⟨h4, h5⟩ := Bool.and_eq_true_iff.mp h
  refine ⟨⟨?_, of_decide_eq_true h1, of_decide_eq_true h2, of_decide_eq_true h3, h4⟩, xfB_ok h5⟩
  split at q
  · rename_i dd cd sl ho
    split at q
    · rename_i C' bm k0 k1 k2 k3 n k5 hm hs
      simp only [Bool.and_eq_true, beq_iff_eq, Bool.not_eq_true'] at q
      obtain ⟨⟨⟨⟨rfl, rfl⟩, hdel⟩, hhd⟩, ht⟩ := q
      obtain ⟨nm, bs, mro, ns, qn, hd, sn, sub, ab, col, del⟩ := cd
      dsimp only at hm hdel hhd
      subst hm hdel hhd
      have hsl : sl = #[k0, k1, k2, k3, some (.builtin "ValueError.__new__"), k5] := by
        obtain ⟨l⟩ := sl
        simp only at hs
        rw [hs]
      subst hsl
      exact ⟨nm, qn, ns, bs, bm, sn, sub, ab, col, dd, k0, k1, k2, k3, k5, ho, ht⟩
    · cases q
  · cases q
/-- a field's name that the class has not -/
def noatB (K : PySem.W.Frag) (C : Addr) (f : Str) : Bool := decide (PySem.W.findIn K (.ref C) f = some none)
theorem noatB_ok {K : PySem.W.Frag} {C : Addr} {f : Str} (h : noatB K C f = true) : PySem.W.findIn K (.ref C) f = some none := of_decide_eq_true h
/-- its __init__ -/
def initB (K : PySem.W.Frag) (C : Addr) : Bool := He.eqO (PySem.W.findIn K (.ref C) "__init__") (some (some (.ref (He.ma K C "__init__")))) && decide (PySem.W.typeIn K (.ref (He.ma K C "__init__")) = some (.type "function"))
theorem initB_ok {K : PySem.W.Frag} {C : Addr} (h : initB K C = true) : PySem.W.findIn K (.ref C) "__init__" = some (some (.ref (He.ma K C "__init__"))) ∧ PySem.W.typeIn K (.ref (He.ma K C "__init__")) = some (.type "function") := by
  obtain ⟨h1, h2⟩ := Bool.and_eq_true_iff.mp h
  exact ⟨He.eqO_ok h1, of_decide_eq_true h2⟩
/-- all that is asked of a class with these fields -/
def excB (K : PySem.W.Frag) (x : Str) (fs : List Str) : Bool := oexB K (He.ga K x) && (initB K (He.ga K x) && fs.all fun f => noatB K (He.ga K x) f)
structure ExcF (K : PySem.W.Frag) (C : Addr) (fs : List Str) : Prop where
  o : OexC K C
  f : XfC K C
  i : PySem.W.findIn K (.ref C) "__init__" = some (some (.ref (He.ma K C "__init__")))
  t : PySem.W.typeIn K (.ref (He.ma K C "__init__")) = some (.type "function")
  n : ∀ f ∈ fs, PySem.W.findIn K (.ref C) f = some none
theorem excB_ok {K : PySem.W.Frag} {x : Str} {fs : List Str} (h : excB K x fs = true) : ExcF K (He.ga K x) fs := by
  obtain ⟨h1, h⟩ := Bool.and_eq_true_iff.mp h
  obtain ⟨h2, h3⟩ := Bool.and_eq_true_iff.mp h
  obtain ⟨a, b⟩ := oexB_ok h1
  obtain ⟨c, d⟩ := initB_ok h2
  exact ⟨a, b, c, d, fun f hf => noatB_ok (List.all_eq_true.mp h3 f hf)⟩
end SL

/-! dict(zip(a list, a range)): the range's iterator in a zip, the zip while its pair is still held. -/
namespace PySem
open Sem (wp)
section
variable {prog : Program} {w : World} {A : Around} {E : Value → Shared → Prop} {s : Shared}
theorem nextOf_range_item {it : Addr} {x left step : Int} {Q : Value → Shared → Prop} (hit : IsRangeIter s.heap it x left step) (hleft : 0 < left)
    (hQ : ∀ h', IsRangeIter h' it (x + step) (left - 1) step → Heap.SameBut it s.heap h' → Q (.int x s.toks) { s with heap := h', toks := s.toks + 1 }) :
    wpAny (model prog w) A (Builtin.SmallTypes.nextOf (.ref it)) Q E s := by
  have hT : s.TypeIs (.ref it) "range_iterator" := ⟨_, hit, rfl⟩
  unfold Builtin.SmallTypes.nextOf
  refine wpAny_bind (wpAny_callSpecial?_slot (name := Str.ofString "__next__") hT F.slot_range_iterator_next
    (call_meets F.slot_range_iterator_next hT F.entry_range_iterator_next (F.args_range_iterator_next_1 _) (AutoRange.range_iterator___next___range_iterator_1 it x left step (by omega)) ⟨hit, ?_⟩))
  exact wpAny_pure (hQ _ (Heap.get?_update_self _ (Heap.get?_update_self _ hit rfl) rfl) ((Heap.SameBut.update ..).trans (Heap.SameBut.update ..)))
theorem nextOf_range_end {it : Addr} {x left step : Int} {Q : Value → Shared → Prop} (hh : A.handled = none) (hit : IsRangeIter s.heap it x left step) (hleft : left ≤ 0)
    (hE : ∀ h' e, Heap.ExtBut it s.heap h' → (∃ o, h'.get? e = some o ∧ o.cls = .type "StopIteration") → E (.ref e) { s with heap := h' }) : wpAny (model prog w) A (Builtin.SmallTypes.nextOf (.ref it)) Q E s := by
  have hT : s.TypeIs (.ref it) "range_iterator" := ⟨_, hit, rfl⟩
  unfold Builtin.SmallTypes.nextOf
  refine wpAny_bind (wpAny_callSpecial?_slot (name := Str.ofString "__next__") hT F.slot_range_iterator_next
    (wpAny_call_entry F.slot_range_iterator_next hT F.entry_range_iterator_next ?_ (F.args_range_iterator_next_1 _)))
  show wpAny _ _ (field (.ref it) 0 >>= _) _ _ s
  refine wpAny_bind (wpAny_field hit rfl (x := rawInt x) rfl ?_)
  show wpAny _ _ (field (.ref it) 1 >>= _) _ _ s
  refine wpAny_bind (wpAny_field hit rfl (x := rawInt left) rfl ?_)
  show wpAny _ _ (field (.ref it) 2 >>= _) _ _ s
  refine wpAny_bind (wpAny_field hit rfl (x := rawInt step) rfl ?_)
  show wpAny _ _ (if left ≤ 0 then _ else _) _ _ s
  rw [if_pos hleft]
  refine wpAny_bind (wpAny_rule ?_)
  refine wpAny_bind ?_
  show wpAny _ _ (newExc (.type "StopIteration") [] >>= _) _ _ _
  refine wpAny_bind ?_
  simp only [newExc, newTuple]
  refine wpAny_bind (wpAny_newObj_type ?_ (by size_fits))
  refine wpAny_bind (m := firstArgMember _ _) (wpAny_of_eq (a := Value.none) (by first | rfl | (simp only [firstArgMember]; rfl)) ?_)
  refine wpAny_newObj_type ?_ (by size_fits)
  simp only [raiseNew]
  refine wpAny_bind (wpAny_handled ?_)
  first | rw [show A.in1.handled = none from hh] | rw [hh]
  refine wpAny_bind (wpAny_pure (wpAny_throw ?_))
  exact hE _ _ (((Heap.ExtBut.refl it s.heap).push _).push _) ⟨_, Heap.get?_push_size _ rfl, rfl⟩
theorem drawsRange (hh : A.handled = none) (it : Addr) (n : Nat) : Draws prog w A it [it] n (fun i v => ∃ t, v = .int (i : Int) t) (fun i h => IsRangeIter h it (i : Int) ((n : Int) - (i : Int)) 1) where
  live := fun _ _ st => ⟨_, st⟩
  frame := fun _ _ _ st hk => hk it (by simp) _ st
  item := fun i s Q E hi st hQ => nextOf_range_item st (by omega) fun h' hit' hs' => hQ _ h' _ ⟨_, rfl⟩ (by
    have e : (n : Int) - (i : Int) - 1 = (n : Int) - ((i + 1 : Nat) : Int) := by omega
    rw [e] at hit'
    exact hit') hs'
  done := fun s Q E st hE => nextOf_range_end hh st (by omega) hE
theorem begins_range {r : Addr} {n : Int} {t u v : Tok} (hs : Builtin.Range.small 0 n 1 = true) : Begins (.ref r) { cls := .type "range_iterator", data := .fields #[rawInt 0, rawInt (Builtin.Range.rangeSize 0 n 1), rawInt 1] } fun h => IsRange h r 0 n 1 t u v where
  iter := fun prog w A E s Q hr h => wpAny_pyIter_range hr hs h
  keeps := fun h h' x hk => hk r _ x
  free := rfl
end
section
variable {prog : Program} {w : World} {A : Around} {E : Value → Shared → Prop} {s : Shared} {z TI TO i1 i2 T : Addr} {f : Bool} {oT : Obj} {fp1 fp2 : List Addr} {n1 n2 i : Nat} {P1 P2 : Nat → Value → Prop} {St1 St2 : Nat → Heap → Prop}
theorem zipHeld_item {Q : Value → Shared → Prop} (S : ZipSep2 z TI TO i1 i2 fp1 fp2) (D1 : Draws prog w A i1 fp1 n1 P1 St1) (D2 : Draws prog w A i2 fp2 n2 P2 St2)
    (hz : IsZipHeld s.heap z TI TO T f) (hT : s.heap.get? T = some oT) (hTI : IsTupOf2 s.heap TI (.ref i1) (.ref i2)) (st1 : St1 i s.heap) (st2 : St2 i s.heap) (hlt1 : i < n1) (hlt2 : i < n2)
    (hQ : ∀ x1 x2 h' tk, P1 i x1 → P2 i x2 → IsZipHeld h' z TI TO T true → St1 (i + 1) h' → St2 (i + 1) h' → IsTupOf2 h' s.heap.objs.size x1 x2 → h'.objs.size = s.heap.objs.size + 1 →
      (∀ c o, c ≠ z → c ≠ i1 → c ≠ i2 → s.heap.get? c = some o → h'.get? c = some o) → Q (.ref s.heap.objs.size) { s with heap := h', toks := tk }) :
    wpAny (model prog w) A (Builtin.«zip.__next__» ⟨[.ref z], []⟩) (fun fin s' => ∃ v, fin = .done (.ret v) ∧ Q v s') E s := by
  show wpAny _ _ (field (.ref z) 2 >>= _) _ _ _
  refine wpAny_bind (wpAny_field hz rfl (x := .bool false) rfl ?_)
  show wpAny _ _ (field (.ref z) 3 >>= _) _ _ _
  refine wpAny_bind (wpAny_field hz rfl (x := .ref TI) rfl ?_)
  refine wpAny_bind (wpAny_seqItems hTI rfl ?_)
  show wpAny _ _ (Builtin.SmallTypes.ownedTupleIsFree (.ref z) >>= _) _ _ _
  refine wpAny_bind (wpAny_tupleHeld_zip hz hT fun h₁ hz₁ hs₁ => ?_)
  simp only [Bool.false_eq_true, if_false]
  refine wpAny_bind ?_
  rw [← Array.forIn_toList]
  simp only [List.forIn_cons, List.forIn_nil]
  refine wpAny_bind (wpAny_bind (wpAny_holding ?_))
  show wpAny _ _ (Builtin.SmallTypes.nextOf (.ref i1) >>= _) _ _ _
  refine wpAny_bind (D1.item i { s with heap := h₁ } _ _ hlt1 (D1.over st1 hs₁ S.zf1) fun x h₂ tk₂ p1 st1₂ hs₂ => wpAny_pure ?_)
  refine wpAny_pure ?_
  refine wpAny_bind (wpAny_bind (wpAny_holding ?_))
  show wpAny _ _ (Builtin.SmallTypes.nextOf (.ref i2) >>= _) _ _ _
  refine wpAny_bind (D2.item i { s with heap := h₂, toks := tk₂ } _ _ hlt2 (D2.over (D2.over st2 hs₁ S.zf2) hs₂ S.sep1_2) fun y h₃ tk₃ p2 st2₃ hs₃ => wpAny_pure ?_)
  refine wpAny_pure (wpAny_pure ?_)
  show wpAny _ _ (newTuple [x, y] >>= _) _ _ _
  refine wpAny_bind (wpAny_newTuple ?_)
  have hsz : h₃.objs.size = s.heap.objs.size := by rw [hs₃.1, hs₂.1, hs₁.1]
  have hz₃ : IsZipHeld h₃ z TI TO T true := hs₃.extBut _ _ S.zi2 (hs₂.extBut _ _ S.zi1 hz₁)
  have hk : ∀ c o, c ≠ z → c ≠ i1 → c ≠ i2 → s.heap.get? c = some o → h₃.get? c = some o := fun c o c1 c2 c3 e => hs₃.extBut _ _ c3 (hs₂.extBut _ _ c2 (hs₁.extBut _ _ c1 e))
  have st1₃ : St1 (i + 1) h₃ := D1.over st1₂ hs₃ S.sep2_1
  refine wpAny_pure ⟨_, rfl, ?_⟩
  show Q (.ref h₃.objs.size) _
  have hp : IsTupOf2 (h₃.push { cls := .type "tuple", data := .seq #[x, y] }) h₃.objs.size x y := Heap.get?_push_size _ rfl
  have hz4 : (h₃.push { cls := .type "tuple", data := .seq #[x, y] }).objs.size = h₃.objs.size + 1 := Heap.size_push ..
  rw [hsz] at hp hz4 ⊢
  exact hQ x y _ tk₃ p1 p2 (Heap.get?_push_of_some _ hz₃) (D1.frame _ _ _ st1₃ fun b _ o e => Heap.get?_push_of_some _ e) (D2.frame _ _ _ st2₃ fun b _ o e => Heap.get?_push_of_some _ e) hp hz4 fun c o c1 c2 c3 e => Heap.get?_push_of_some _ (hk c o c1 c2 c3 e)
/-- the first one ends first -/
theorem zipHeld_end {Q : Fin → Shared → Prop} (S : ZipSep2 z TI TO i1 i2 fp1 fp2) (D1 : Draws prog w A i1 fp1 n1 P1 St1)
    (hz : IsZipHeld s.heap z TI TO T f) (hT : s.heap.get? T = some oT) (hTI : IsTupOf2 s.heap TI (.ref i1) (.ref i2)) (st1 : St1 n1 s.heap)
    (hE : ∀ h' e, (∀ c o, c ≠ z → c ≠ i1 → c ≠ i2 → s.heap.get? c = some o → h'.get? c = some o) → (∃ o, h'.get? e = some o ∧ o.cls = .type "StopIteration") → E (.ref e) { s with heap := h' }) :
    wpAny (model prog w) A (Builtin.«zip.__next__» ⟨[.ref z], []⟩) Q E s := by
  show wpAny _ _ (field (.ref z) 2 >>= _) _ _ _
  refine wpAny_bind (wpAny_field hz rfl (x := .bool false) rfl ?_)
  show wpAny _ _ (field (.ref z) 3 >>= _) _ _ _
  refine wpAny_bind (wpAny_field hz rfl (x := .ref TI) rfl ?_)
  refine wpAny_bind (wpAny_seqItems hTI rfl ?_)
  show wpAny _ _ (Builtin.SmallTypes.ownedTupleIsFree (.ref z) >>= _) _ _ _
  refine wpAny_bind (wpAny_tupleHeld_zip hz hT fun h₁ hz₁ hs₁ => ?_)
  simp only [Bool.false_eq_true, if_false]
  refine wpAny_bind ?_
  rw [← Array.forIn_toList]
  simp only [List.forIn_cons, List.forIn_nil]
  refine wpAny_bind (wpAny_bind (wpAny_holding ?_))
  show wpAny _ _ (Builtin.SmallTypes.nextOf (.ref i1) >>= _) _ _ _
  refine wpAny_bind (D1.done { s with heap := h₁ } _ _ (D1.over st1 hs₁ S.zf1) fun h₂ e hs₂ he => ?_)
  exact hE h₂ e (fun c o c1 c2 _ x => hs₂ _ _ c2 (hs₁.extBut _ _ c1 x)) he
theorem next_zipHeld_item {Q : Option Value → Shared → Prop} (S : ZipSep2 z TI TO i1 i2 fp1 fp2) (D1 : Draws prog w A.in1 i1 fp1 n1 P1 St1) (D2 : Draws prog w A.in1 i2 fp2 n2 P2 St2)
    (hz : IsZipHeld s.heap z TI TO T f) (hT : s.heap.get? T = some oT) (hTI : IsTupOf2 s.heap TI (.ref i1) (.ref i2)) (st1 : St1 i s.heap) (st2 : St2 i s.heap) (hlt1 : i < n1) (hlt2 : i < n2)
    (hQ : ∀ x1 x2 h' tk, P1 i x1 → P2 i x2 → IsZipHeld h' z TI TO T true → St1 (i + 1) h' → St2 (i + 1) h' → IsTupOf2 h' s.heap.objs.size x1 x2 → h'.objs.size = s.heap.objs.size + 1 →
      (∀ c o, c ≠ z → c ≠ i1 → c ≠ i2 → s.heap.get? c = some o → h'.get? c = some o) → Q (some (.ref s.heap.objs.size)) { s with heap := h', toks := tk }) :
    wpAny (model prog w) A (pyNext (.ref z)) Q E s := by
  have hTy : s.TypeIs (.ref z) "zip" := ⟨_, hz, rfl⟩
  unfold pyNext
  exact wpAny_bind (wpAny_attempt (wpAny_callSpecial?_slot (name := Str.ofString "__next__") hTy F.slot_zip_next
    (wpAny_call_entry F.slot_zip_next hTy F.entry_zip_next
      (zipHeld_item S D1 D2 hz hT hTI st1 st2 hlt1 hlt2 fun x1 x2 h' tk y1 y2 a1 a3 a4 a5 a6 a7 => wpAny_pure (hQ x1 x2 h' tk y1 y2 a1 a3 a4 a5 a6 a7)) (F.args_zip_next_1 _))))
theorem next_zipHeld_end {Q : Option Value → Shared → Prop} (S : ZipSep2 z TI TO i1 i2 fp1 fp2) (D1 : Draws prog w A.in1 i1 fp1 n1 P1 St1)
    (hz : IsZipHeld s.heap z TI TO T f) (hT : s.heap.get? T = some oT) (hTI : IsTupOf2 s.heap TI (.ref i1) (.ref i2)) (st1 : St1 n1 s.heap)
    (hQ : ∀ h', (∀ c o, c ≠ z → c ≠ i1 → c ≠ i2 → s.heap.get? c = some o → h'.get? c = some o) → Q none { s with heap := h' }) : wpAny (model prog w) A (pyNext (.ref z)) Q E s := by
  have hTy : s.TypeIs (.ref z) "zip" := ⟨_, hz, rfl⟩
  unfold pyNext
  refine wpAny_bind (wpAny_attempt (wpAny_callSpecial?_slot (name := Str.ofString "__next__") hTy F.slot_zip_next
    (wpAny_call_entry F.slot_zip_next hTy F.entry_zip_next (zipHeld_end S D1 hz hT hTI st1 fun h' e hk he => ?_) (F.args_zip_next_1 _))))
  obtain ⟨o, ho, hc⟩ := he
  refine wpAny_bind (wpAny_isInstance (T := "StopIteration") (b := true) ⟨o, ho, hc⟩ isSubtype_stop ?_)
  exact wpAny_pure (hQ _ hk)
end
/-- zip(a list, range(n)) as what dict() takes -/
theorem pairZipR {prog : Program} {w : World} {z TI TO i1 i2 l : Addr} (S : ZipSep2 z TI TO i1 i2 [i1, l] [i2]) (xs : Array Value) :
    PairArg prog w "zip" z [z, TI, TO, i1, i2, l] [z, TO, i1, i2] xs.size (fun i k v => xs[i]? = some k ∧ ∃ t, v = .int (i : Int) t)
      (fun h => IsZip h z TI TO .none ∧ IsTupOf2 h TI (.ref i1) (.ref i2) ∧ (∃ a b, IsTupOf2 h TO a b) ∧ (h.IsListIter i1 l 0 ∧ h.IsList l xs) ∧ IsRangeIter h i2 ((0 : Nat) : Int) ((xs.size : Int) - ((0 : Nat) : Int)) 1) where
  type := fun s ok => ⟨_, ok.1, rfl⟩
  notDict := by decide
  keep := fun h h' ok hk => by
    obtain ⟨hz, hTI, ⟨a, b, hTO⟩, ⟨h1, hl1⟩, h2⟩ := ok
    exact ⟨hk _ _ hz, hk _ _ hTI, ⟨a, b, hk _ _ hTO⟩, ⟨h1.at fun o e => hk _ o e, hl1.at fun o e => hk _ o e⟩, hk _ _ h2⟩
  there := fun h ok b hb => by
    obtain ⟨hz, hTI, ⟨a, c, hTO⟩, ⟨⟨o1, h1, _⟩, ⟨o3, hl1, _⟩⟩, h2⟩ := ok
    simp only [List.mem_cons, List.not_mem_nil, or_false] at hb
    rcases hb with rfl | rfl | rfl | rfl | rfl | rfl
    all_goals first | exact ⟨_, hz⟩ | exact ⟨_, hTI⟩ | exact ⟨_, hTO⟩ | exact ⟨_, h1⟩ | exact ⟨_, h2⟩ | exact ⟨_, hl1⟩
  sub := fun b hb => by simp at hb ⊢; rcases hb with rfl | rfl | rfl | rfl <;> simp
  noKeys := fun A s Q E hA ok h => getAttrOr_miss_zip ok.1 rfl rfl rfl zip_no_keys (by decide +kernel) hA h
  iter := fun A s d Q E hA ok hd hdf h => by
    obtain ⟨hz, hTI, ⟨a, b, hTO⟩, st1, st2⟩ := ok
    simp only [List.mem_cons, List.not_mem_nil, or_false, not_or] at hdf
    obtain ⟨dz, dTI, dTO, di1, di2, dl⟩ := hdf
    have li1 : l ≠ i1 := by
      obtain ⟨⟨o1, e1, c1, _⟩, ⟨o2, e2, c2, _⟩⟩ := st1
      intro e
      subst e
      rw [e1] at e2
      cases e2
      rw [c1] at c2
      exact absurd c2 (by decide)
    have D1 : Draws prog w A.in1 i1 [i1, l] xs.size _ _ := Draws.list (A := A.in1) hA i1 l li1 xs
    have D2 : Draws prog w A.in1 i2 [i2] xs.size _ _ := drawsRange (A := A.in1) hA i2 xs.size
    refine wpAny_pyIter_zip hz (h z [z, TO, i1, i2] (fun i h => IsTupOf2 h TI (.ref i1) (.ref i2) ∧ (h.IsListIter i1 l i ∧ h.IsList l xs) ∧ IsRangeIter h i2 (i : Int) ((xs.size : Int) - (i : Int)) 1 ∧
      ((IsZip h z TI TO .none ∧ ∃ a b, IsTupOf2 h TO a b) ∨ ∃ T f oT, IsZipHeld h z TI TO T f ∧ h.get? T = some oT ∧ T ≠ z ∧ T ≠ i1 ∧ T ≠ i2 ∧ T ≠ d)) s.heap s.toks ?_
      ⟨hTI, st1, st2, .inl ⟨hz, a, b, hTO⟩⟩ (fun _ _ e => e) fun b hb => .inl hb)
    exact {
      off := fun hm => by
        simp only [List.mem_cons, List.not_mem_nil, or_false] at hm
        rcases hm with e | e | e | e
        · exact dz e
        · exact dTO e
        · exact di1 e
        · exact di2 e
      frame := fun i h₁ h₂ st hk => by
        obtain ⟨hTI, ⟨h1, hl1⟩, h2, hz⟩ := st
        refine ⟨hk _ _ (Ne.symm dTI) hTI, ⟨h1.at fun o e => hk _ o (Ne.symm di1) e, hl1.at fun o e => hk _ o (Ne.symm dl) e⟩, hk _ _ (Ne.symm di2) h2, ?_⟩
        rcases hz with ⟨hz, a, b, hTO⟩ | ⟨T, f, oT, hz, hT, r1, r2, r3, r4⟩
        · exact .inl ⟨hk _ _ (Ne.symm dz) hz, a, b, hk _ _ (Ne.symm dTO) hTO⟩
        · exact .inr ⟨T, f, oT, hk _ _ (Ne.symm dz) hz, hk _ _ r4 hT, r1, r2, r3, r4⟩
      item := fun i s₁ Q₁ E₁ hi st hds hQ => by
        obtain ⟨hTI, st1, st2, hz⟩ := st
        have lt : ∀ {c o}, s₁.heap.get? c = some o → s₁.heap.objs.size ≠ c := fun e => Nat.ne_of_gt (Heap.lt_size e)
        have n1 : s₁.heap.objs.size ≠ i1 := let ⟨_, e, _⟩ := st1.1; lt e
        have n2 : s₁.heap.objs.size ≠ i2 := lt st2
        rcases hz with ⟨hz, a, b, hTO⟩ | ⟨T, f, oT, hz, hT, r1, r2, r3, r4⟩
        · refine wpAny_pyNext_zipD2_item S D1 D2 hz hTI hTO st1 st2 hi hi fun x1 x2 h' tk p1 p2 a1 a2 a3 a4 a5 a6 hk => ?_
          exact hQ s₁.heap.objs.size _ _ h' tk ⟨p1, p2⟩ (.inl ⟨_, a5, rfl, _, rfl⟩)
            ⟨hk _ _ S.TIz S.TITO S.TIi1 S.TIi2 hTI, a3, a4, .inr ⟨s₁.heap.objs.size, false, _, a1, a5, lt hz, n1, n2, Nat.ne_of_gt hds⟩⟩
            fun c o hc e => hk c o (fun x => hc (by simp [x])) (fun x => hc (by simp [x])) (fun x => hc (by simp [x])) (fun x => hc (by simp [x])) e
        · refine next_zipHeld_item S D1 D2 hz hT hTI st1 st2 hi hi fun x1 x2 h' tk p1 p2 a1 a3 a4 a5 a6 hk => ?_
          exact hQ s₁.heap.objs.size _ _ h' tk ⟨p1, p2⟩ (.inl ⟨_, a5, rfl, _, rfl⟩)
            ⟨hk _ _ S.TIz S.TIi1 S.TIi2 hTI, a3, a4, .inr ⟨T, true, oT, a1, hk _ _ r1 r2 r3 hT, r1, r2, r3, r4⟩⟩
            fun c o hc e => hk c o (fun x => hc (by simp [x])) (fun x => hc (by simp [x])) (fun x => hc (by simp [x])) e
      done := fun s₁ Q₁ E₁ st hQ => by
        obtain ⟨hTI, st1, st2, hz⟩ := st
        rcases hz with ⟨hz, a, b, hTO⟩ | ⟨T, f, oT, hz, hT, r1, r2, r3, r4⟩
        · exact wpAny_pyNext_zipD2_end S D1 D2 hz hTI hTO st1 st2 (Nat.le_refl _) (Nat.le_refl _) (.inl rfl) fun h' tk hk => hQ h' tk fun c o hc e => hk c o (fun x => hc (by simp [x])) (fun x => hc (by simp [x])) (fun x => hc (by simp [x])) (fun x => hc (by simp [x])) e
        · exact next_zipHeld_end S D1 hz hT hTI st1 fun h' hk => hQ h' s₁.toks fun c o hc e => hk c o (fun x => hc (by simp [x])) (fun x => hc (by simp [x])) (fun x => hc (by simp [x])) e }
end PySem

/-! dict(zip(keys, range(n))): tuples as keys. -/
namespace L2
open PySem PySem.Spec PyProof.Rows
def numV (ks : List (List Key)) : List (List Key × V) := ks.zipIdx.map fun p => (p.1, V.int (p.2 : Int))
theorem numV_len (ks : List (List Key)) : (numV ks).length = ks.length := by simp [numV]
theorem numV_take (ks : List (List Key)) {i : Nat} {k : List Key} (h : ks[i]? = some k) : (numV ks).take (i + 1) = (numV ks).take i ++ [(k, .int (i : Int))] := by
  have e : (numV ks)[i]? = some (k, .int (i : Int)) := by
    unfold numV
    rw [List.getElem?_map, List.getElem?_zipIdx, h]
    simp
  rw [List.take_succ, e]
  rfl
theorem numV_put {ks : List (List Key)} (nd : ks.Nodup) {i : Nat} {k : List Key} (h : ks[i]? = some k) : putK ((numV ks).take i) k (.int (i : Int)) = (numV ks).take (i + 1) := by
  have hn : (((numV ks).take i).any fun kv => decide (kv.1 = k)) = false := by
    rw [List.any_eq_false]
    intro kv hkv
    simp only [decide_eq_true_eq]
    intro e
    obtain ⟨j, hj⟩ := List.getElem?_of_mem hkv
    have hji : j < i := by
      have := (List.getElem?_eq_some_iff.mp hj).1
      rw [List.length_take] at this
      omega
    rw [List.getElem?_take_of_lt hji] at hj
    unfold numV at hj
    rw [List.getElem?_map, List.getElem?_zipIdx] at hj
    cases hk : ks[j]? with
    | none => rw [hk] at hj; simp at hj
    | some k2 =>
      rw [hk] at hj
      have : kv.1 = k2 := by
        have := Option.some.inj hj
        rw [← this]
      rw [this] at e
      subst e
      have hj1 := (List.getElem?_eq_some_iff.mp hk)
      have hi1 := (List.getElem?_eq_some_iff.mp h)
      exact (List.pairwise_iff_getElem.mp nd) j i hj1.1 hi1.1 hji (hj1.2.trans hi1.2.symm)
  unfold putK
  rw [hn, numV_take ks h]
  rfl
def tDZip (K : PySem.W.Frag) (te : TE) (tr : St → Hp → (Int → Int → Hp → Prop) → Prop) : TE := fun σ H Q => te σ H fun v H1 => tr σ H1 fun a b H2 => ∃ (l : Addr) (xs : List V) (ks : List (List Key)), v = .ref l ∧ SqL K H2 l xs ∧ a = 0 ∧ b = (xs.length : Int) ∧ xs.length ≤ 100000 ∧ ks.length = xs.length ∧ ks.Nodup ∧
  (∀ (i : Nat) k, ks[i]? = some k → ∃ b, xs[i]? = some (.ref b) ∧ H2 b = some (.tup (k.map kV))) ∧ ∀ q, H2 q = none → Q (.ref q) (upd H2 q (.dT (numV ks)))
theorem pe_dzip {X : Cx} {e er : Expr} {te : TE} {tr : St → Hp → (Int → Int → Hp → Prop) → Prop} {p p2 pos pos2 : Pos} (hc : X.calm = true) (hu : X.A.units + 64 < cLine) (hg1 : Gl X "dict") (hm1 : X.mg "dict" = none) (hg2 : Gl X "zip") (hm2 : X.mg "zip" = none) (he : PE X e te) (hr : PRg X er tr)
    (na : starEach [e, er] X.env = (false, eval e X.env) :: starEach [er] X.env := by rfl) (nb : starEach [er] X.env = (false, eval er X.env) :: starEach [] X.env := by rfl) (hp : (backTo pos2 (starEach [er] X.env)).any (·.1) = false := by rfl)
    (nz : starEach [Expr.Call (.Name "zip" p2) [e, er] [] pos2] X.env = (false, eval (Expr.Call (.Name "zip" p2) [e, er] [] pos2) X.env) :: starEach [] X.env := by rfl) :
    PE X (.Call (.Name "dict" p) [.Call (.Name "zip" p2) [e, er] [] pos2] [] pos) (tDZip X.K te tr) := by
  refine ⟨fun pins s σ H Q I h => ?_⟩
  refine Call_ (ld_blt I hg1 hm1 PyProof.Rows.boot_dict (PyProof.Rows.callWith_type1 (args_cons (Call_ (ld_blt I hg2 hm2 PyProof.Rows.boot_zip (PyProof.Rows.callWith_type1 (args_cons (thn (he.run pins s σ H _ I h) fun v s1 ⟨x, H1, I1, r1, q1⟩ =>
    args_cons (thn (hr pins s1 σ H1 _ I1 q1) fun y s2 ⟨r, a, b, t, u, v', H2, ex, hrg, I2, q⟩ => args_nil ?_) nb) na) na hp))) nz) nz))
  obtain ⟨l, xs, ks, rfl, hs, rfl, rfl, hx, hkl, nd, keys, q⟩ := q
  subst ex
  obtain rfl : v = .ref l := r1
  obtain ⟨its, rv, pl, hz⟩ := I2.list hs
  have hlen := rv.length
  have la : l < s2.heap.objs.size := pl.lt
  have hsmall : Builtin.Range.small 0 (xs.length : Int) 1 = true := small_one (by omega) (by omega) (by omega) (by omega)
  have hrs : Builtin.Range.rangeSize 0 (xs.length : Int) 1 = (its.toArray.size : Int) := by
    have := rangeSize_nat 0 (xs.length : Int)
    rw [List.size_toArray, ← hlen]
    omega
  refine zip_begins2 (begins_list l its.toArray) (begins_range hsmall) pl.isList hrg fun h' hz' hTI hTO h1 h2 hsz hk => args_nil ?_
  have sep : ZipSep2 (s2.heap.objs.size + 4) (s2.heap.objs.size + 2) (s2.heap.objs.size + 3) s2.heap.objs.size (s2.heap.objs.size + 1) [s2.heap.objs.size, l] [s2.heap.objs.size + 1] := by
    generalize s2.heap.objs.size = N at la
    refine ⟨?_, ?_, ?_, ?_, by simp, ?_, ?_, ?_, by simp, ?_, ?_, ?_, ?_⟩
    all_goals intro z
    all_goals try simp only [List.mem_cons, List.not_mem_nil, or_false] at z
    all_goals have la' : (l : Nat) < N := la
    · exact absurd (show N + 2 = N + 4 from z) (by omega)
    · exact absurd (show N + 3 = N + 4 from z) (by omega)
    · exact absurd (show N + 2 = N + 3 from z) (by omega)
    · exact absurd (show N + 2 = N from z) (by omega)
    · rcases z with z | z
      · exact absurd (show N + 4 = N from z) (by omega)
      · exact absurd (show N + 4 < N from (show N + 4 = l from z) ▸ la) (Nat.not_lt_of_le (Nat.le_add_right _ _))
    · rcases z with z | z
      · exact absurd (show N + 3 = N from z) (by omega)
      · exact absurd (show N + 3 < N from (show N + 3 = l from z) ▸ la) (Nat.not_lt_of_le (Nat.le_add_right _ _))
    · exact absurd (show N + 2 = N + 1 from z) (by omega)
    · exact absurd (show N + 4 = N + 1 from z) (by omega)
    · exact absurd (show N + 3 = N + 1 from z) (by omega)
    · exact absurd (show N = N + 1 from z) (by omega)
    · rcases z with z | z
      · exact absurd (show N + 1 = N from z) (by omega)
      · exact absurd (show N + 1 < N from (show N + 1 = l from z) ▸ la) (Nat.not_lt_of_le (Nat.le_add_right _ _))
  have P := pairZipR (prog := X.prog) (w := X.w) sep its.toArray
  have hh : X.A.handled = none := I2.ok.hd hc
  rw [hrs] at h2
  refine call_dict_arg P ⟨hz', hTI, ⟨_, _, hTO⟩, ⟨⟨_, h1, rfl, rfl⟩, pl.isList.at fun o e => hk _ o e⟩, by simpa using h2⟩ fun s₁ hs₁ hdf ok₁ => ?_
  subst hs₁
  have old : ∀ b o, s2.heap.get? b = some o → b < s2.heap.objs.size := fun b o e => Heap.lt_size e
  let knd := tupleKind (mixKind X.prog X.w)
  have his : ∀ (hh' : Heap) (kvs : List (List Key × V)) (ps : List (List Key × Addr × Value)), KT H2 kvs ps → (∀ b o, s2.heap.get? b = some o → hh'.get? b = some o) → ∀ y ∈ ps, knd.is hh' y.1 y.2.1 := by
    intro hh' kvs ps kt kp y hy
    have I3 : Inv X pins σ H2 { s2 with heap := hh' } := I2.kept (t' := s2.toks) kp
    clear h2 h1 hk
    induction kt with
    | nil => cases hy
    | cons hpq _ ih =>
      rcases List.mem_cons.mp hy with rfl | hy
      · refine key_of I3.hok ?_
        obtain ⟨e1, e2, _⟩ := hpq
        first | exact e2 | (rw [← e1]; exact e2)
      · exact ih hy
  refine updateFrom_arg (A := X.A.in1) (Tab := fun i g => ∃ ps, g.DictOfH knd h'.objs.size ps ∧ KT H2 ((numV ks).take i) ps ∧ ∀ b o, s2.heap.get? b = some o → g.get? b = some o) P .none hh ok₁ hdf
    ⟨[], Heap.DictOfH.new h', .nil, fun b o e => Heap.get?_push_of_some _ (hk b o e)⟩ (fun _ _ tb => let ⟨_, d, _⟩ := tb; d.lt_size) ?_ ?_ ?_
  · rintro i g g' wr' hd hw ⟨ps, d, kt, kp⟩ hkk
    have kp' : ∀ b o, s2.heap.get? b = some o → g'.get? b = some o := fun b o e => hkk b o (fun hm => by
      rcases hw b hm with z | z
      · have := old b o e
        simp only [List.mem_cons, List.not_mem_nil, or_false] at z
        rcases z with z | z | z | z <;> rw [z] at this <;> first | exact absurd this (Nat.not_lt_of_le (Nat.le_add_right _ _)) | exact absurd this (Nat.lt_irrefl _)
      · have e2 : (h'.push { cls := .type "dict", data := .dict #[] }).get? b = some o := Heap.get?_push_of_some _ (hk b o e)
        rw [show (h'.push { cls := .type "dict", data := .dict #[] }).get? b = none from z] at e2
        cases e2) (kp b o e)
    exact ⟨ps, d.at' (fun o e => hkk _ o hd e) (his g' _ _ kt kp'), kt, kp'⟩
  · rintro i key v s' Q' E' hi ⟨hrel, t2, rfl⟩ ⟨ps, d, kt, kp⟩ _ hQ
    have hi' : i < ks.length := by rw [hkl, hlen]; simpa using hi
    have hki := List.getElem?_eq_getElem hi'
    obtain ⟨b, hxb, hHb⟩ := keys i _ hki
    obtain ⟨v2, e1, e2⟩ := vals_get' rv hrel
    rw [hxb] at e1
    cases e1
    obtain rfl : key = .ref b := e2
    have hps : ps.length = i := by
      have := Paired.length kt
      rw [List.length_take, numV_len] at this
      omega
    refine wpAny_dictSet_heap (knd := knd) (hsz := by rw [hps]; rw [sizeLine_eq]; omega) (show X.A.in1.in1.units < cLine by rw [show X.A.in1.in1.units = X.A.units + 2 from rfl]; omega) (key_of (I2.kept (t' := s2.toks) kp).hok hHb) d fun g' d' hsb => ?_
    refine hQ g' _ ⟨_, d', ?_, fun c o e => hsb.extBut c o (fun z => ?_) (kp c o e)⟩ hsb
    · rw [← numV_put nd hki]
      exact kt.put _ hHb ⟨t2, rfl⟩
    · have := old c o e
      rw [z] at this
      rw [hsz] at this
      exact absurd this (Nat.not_lt_of_le (Nat.le_add_right _ _))
  · rintro g tk ⟨ps, d, kt, kp⟩ hkk
    have hd0 : H2 h'.objs.size = none := I2.hok.fresh (by omega)
    obtain ⟨qo, es, ep, hq, c2, c3, c4, _, c5⟩ := d
    have efull : (numV ks).take its.toArray.size = numV ks := List.take_of_length_le (by rw [numV_len, hkl, hlen]; simp)
    rw [efull] at kt
    refine ⟨rfl, .ref h'.objs.size, upd H2 h'.objs.size (.dT (numV ks)), I2.laid (t' := tk) kp (by omega) ?_, rfl, q _ hd0⟩
    have hbig := I2.big
    refine ⟨by rw [numV_len, hkl, sizeLine_eq]; omega, beq_eq_false_iff_ne.mpr (fun z => ?_), ps, kt.keeps fun c ys ec => ?_, qo, es, ep, hq, c2, c3, c4, c5⟩
    · rw [← z, hsz] at hbig
      exact absurd hbig (Nat.not_lt_of_le (Nat.le_add_right _ _))
    · rw [upd_ne (fun z => by rw [z, hd0] at ec; cases ec)]
      exact ec
theorem pe_dzip' {X : Cx} (K : PySem.W.Frag) {e er : Expr} {te : TE} {tr : St → Hp → (Int → Int → Hp → Prop) → Prop} {p p2 pos pos2 : Pos} (hc : X.calm = true) (hu : X.A.units + 64 < cLine) (hg1 : Gl X "dict") (hm1 : X.mg "dict" = none) (hg2 : Gl X "zip") (hm2 : X.mg "zip" = none) (he : PE X e te) (hr : PRg X er tr) (hK : X.K = K := by rfl)
    (na : starEach [e, er] X.env = (false, eval e X.env) :: starEach [er] X.env := by rfl) (nb : starEach [er] X.env = (false, eval er X.env) :: starEach [] X.env := by rfl) (hp : (backTo pos2 (starEach [er] X.env)).any (·.1) = false := by rfl)
    (nz : starEach [Expr.Call (.Name "zip" p2) [e, er] [] pos2] X.env = (false, eval (Expr.Call (.Name "zip" p2) [e, er] [] pos2) X.env) :: starEach [] X.env := by rfl) :
    PE X (.Call (.Name "dict" p) [.Call (.Name "zip" p2) [e, er] [] pos2] [] pos) (tDZip K te tr) := by
  subst hK
  exact pe_dzip hc hu hg1 hm1 hg2 hm2 he hr na nb hp nz
end L2
namespace SL
open PySem L2 Evl
theorem kd_num (K : PySem.W.Frag) (G : Hp) : ∀ (ks : List (List Key)) (j : Nat), KD K G ((ks.zipIdx j).map fun p => (p.1, V.int (p.2 : Int))) ((ks.zipIdx j).map fun p => (p.1, PyData.int (p.2 : Int)))
  | [], _ => .nil
  | k :: r, j => by
    rw [List.zipIdx_cons, List.map_cons, List.map_cons]
    exact .cons (.int _) (kd_num K G r (j + 1))
section
variable {F : Fm} {δ : List SD} {P : PV} {te ti : TE}
theorem ev_dzip (h : E F te δ fun r δ1 => E F ti δ1 fun r2 δ2 => ∃ (n : Nat) (ks : List (List Key)), r2 = .fz (.int (n : Int)) ∧ LSrc δ2 r (ks.map fun k => PyData.tuple (k.map keyD)) ∧ n = ks.length ∧ ks.Nodup ∧ ks.length < 100000 ∧ ∀ p, p ∉ F.io → P (.ot p (ks.zipIdx.map fun p => (p.1, PyData.int (p.2 : Int)))) δ2) :
    E F (tDZip F.K te (tRg1 ti)) δ P := fun τ ε G H σ Q s q =>
  h τ ε G H σ _ s fun x r δ1 G1 H1 h1 e1 s1 => by
    refine h1 _ _ G1 H1 σ _ s1 fun y r2 δ2 G2 H2 ⟨n, ks, hr, hl, hn, nd, hlt, k⟩ e2 s2 => ?_
    subst hr
    obtain rfl := dp_int (fz_top s2)
    obtain ⟨a, xs, rfl, sq, da⟩ := s2.pop.lsrc s2.pop.top hl
    have hlen : xs.length = ks.length := by rw [DpAll.len da, List.length_map]
    refine ⟨(n : Int), rfl, a, xs, ks, rfl, sq, rfl, by rw [hlen, hn], by omega, hlen.symm, nd, fun i kk hk => ?_, fun p hp => ?_⟩
    · obtain ⟨v, hv, hd⟩ := DpAll.get' da (show (ks.map fun k => PyData.tuple (k.map keyD))[i]? = some (.tuple (kk.map keyD)) by rw [List.getElem?_map, hk]; rfl)
      obtain ⟨b, rfl, hb⟩ := dp_keyT hd
      exact ⟨b, hv, s2.w.gh _ _ hb⟩
    · exact q _ _ δ2 G2 _ (k p (s2.fresh_io hp)) (Ex.trans e1 e2) (s2.pop2.newO hp rfl ⟨rfl, _, upd_same, kd_num F.K G2 ks 0⟩)
/-- xs[:-1] -/
theorem ev_butlast (h : E F te δ fun r δ1 => ∃ ds, LSrc δ1 r ds ∧ ∀ p, p ∉ F.io → P (.ol p (ds.take (ds.length - 1))) δ1) : E F (tSl (rSlL F.K) te tNoPart (tPart (tUn (rU fun i => .int (-i)) (tC (.int 1))))) δ P := fun τ ε G H σ Q s q =>
  h τ ε G H σ _ s fun x r δ1 G1 H1 ⟨ds, hl, k⟩ e1 s1 => by
    obtain ⟨a, xs, rfl, sq, da⟩ := s1.lsrc s1.top hl
    refine ⟨1, rfl, -1, rfl, a, xs, rfl, sq, fun p hp => q _ _ δ1 _ _ (k p (s1.fresh_io hp)) e1 (s1.pop.newO hp rfl ⟨rfl, _, upd_same, ?_⟩)⟩
    have e : HT.sIx xs.length xs.length (some (-1)) = ds.length - 1 := by
      show (if (-1 : Int) < 0 then ((-1 : Int) + (xs.length : Int)).toNat else min (-1 : Int).toNat xs.length) = _
      rw [if_pos (by decide), DpAll.len da]
      omega
    unfold cutV
    rw [HT.sIx_none, e, List.drop_zero, Nat.sub_zero]
    exact SL.DpAll.take _ da
end
end SL

/-! list(zip(a, b)): a new list of new pairs. -/
namespace L2
open PySem PySem.Spec PyProof.Rows
theorem zip_no_len : typeLookup (.type "zip") "__len__" = pure none := by rw [typeLookup_type, builtinLookup_eq_fast]; kernel_rfl
theorem zip_no_hint : typeLookup (.type "zip") "__length_hint__" = pure none := by rw [typeLookup_type, builtinLookup_eq_fast]; kernel_rfl
/-- the zip behind i pairs -/
structure ZS (z TI TO i1 i2 q : Addr) (St1 St2 : Nat → Heap → Prop) (i : Nat) (h : Heap) : Prop where
  ti : IsTupOf2 h TI (.ref i1) (.ref i2)
  s1 : St1 i h
  s2 : St2 i h
  to_ : ∃ o, h.get? TO = some o
  at_ : (IsZip h z TI TO .none ∧ ∃ a b, IsTupOf2 h TO a b) ∨ ∃ T f oT, IsZipHeld h z TI TO T f ∧ h.get? T = some oT ∧ T ≠ z ∧ T ≠ i1 ∧ T ≠ i2 ∧ T ≠ q
section
variable {X : Cx} {pins : List (Addr × Obj)} {σ : L2.St} {A1 : Around} {z TI TO i1 i2 q : Addr} {fp1 fp2 : List Addr} {n : Nat} {P1 P2 : Nat → Value → Prop} {St1 St2 : Nat → Heap → Prop} {xs ys : List V}
theorem ZS.other {i : Nat} {h h' : Heap} (Z : ZS z TI TO i1 i2 q St1 St2 i h) (D1 : Draws X.prog X.w A1.in1.in1 i1 fp1 n P1 St1) (D2 : Draws X.prog X.w A1.in1.in1 i2 fp2 n P2 St2) (hq1 : q ∉ fp1) (hq2 : q ∉ fp2) (hqz : z ≠ q) (hqTI : TI ≠ q) (hqTO : TO ≠ q)
    (k : ∀ b o, b ≠ q → h.get? b = some o → h'.get? b = some o) : ZS z TI TO i1 i2 q St1 St2 i h' where
  ti := k _ _ hqTI Z.ti
  s1 := D1.frame _ _ _ Z.s1 fun b hb o e => k b o (fun z => hq1 (z ▸ hb)) e
  s2 := D2.frame _ _ _ Z.s2 fun b hb o e => k b o (fun z => hq2 (z ▸ hb)) e
  to_ := let ⟨o, e⟩ := Z.to_; ⟨o, k _ _ hqTO e⟩
  at_ := by
    rcases Z.at_ with ⟨hz, a, b, hTO⟩ | ⟨T, f, oT, hz, hT, r1, r2, r3, r4⟩
    · exact .inl ⟨k _ _ hqz hz, a, b, k _ _ hqTO hTO⟩
    · exact .inr ⟨T, f, oT, k _ _ hqz hz, k _ _ r4 hT, r1, r2, r3, r4⟩
theorem zip_loop {P : List V → Hp → Prop} {Rs : Result → Shared → Prop} (hh : A1.handled = none) (S : ZipSep2 z TI TO i1 i2 fp1 fp2) (D1 : Draws X.prog X.w A1.in1.in1 i1 fp1 n P1 St1) (D2 : Draws X.prog X.w A1.in1.in1 i2 fp2 n P2 St2)
    (hP1 : ∀ i v, P1 i v → ∃ x, xs[i]? = some x ∧ RelV x v) (hP2 : ∀ i v, P2 i v → ∃ x, ys[i]? = some x ∧ RelV x v)
    (hq1 : q ∉ fp1) (hq2 : q ∉ fp2) (hqz : z ≠ q) (hqTI : TI ≠ q) (hqTO : TO ≠ q) (hn : n ≤ sizeLine)
    (hstep : ∀ acc H T x y, P acc H → H q = some (.lst acc) → xs[acc.length]? = some x → ys[acc.length]? = some y → H T = none → P (acc ++ [.ref T]) (upd (upd H T (.tup [x, y])) q (.lst (acc ++ [.ref T]))))
    (hdone : ∀ acc H s, Inv X pins σ H s → P acc H → acc.length = n → Rs (.ok (.ret .none)) s) :
    ∀ (m : Nat) (acc : List V) (H : Hp) (s : Shared), acc.length + m = n → Inv X pins σ H s → (∀ b ∈ [z, TI, TO, i1, i2], FpOk X pins H b) → P acc H → H q = some (.lst acc) → ZS z TI TO i1 i2 q St1 St2 acc.length s.heap →
      codeAny (model X.prog X.w) A1 (.builtin "list.extend.loop" ⟨[.ref q, .ref z, .none], []⟩) Rs s := by
  intro m
  induction m with
  | zero =>
    intro acc H s hm I hf hP hq Z
    refine codeAny_builtin PySem.F.entry_extend_loop ?_
    rw [Around.under_plainId PySem.F.plain_extend_loop _]
    show wpAny _ A1.in1 (pyNext (.ref z) >>= _) _ _ s
    have hl : acc.length = n := by omega
    refine wpAny_bind ?_
    have st1 := Z.s1
    have st2 := Z.s2
    rw [hl] at st1 st2
    rcases Z.at_ with ⟨hz, a, b, hTO⟩ | ⟨T, f, oT, hz, hT, r1, r2, r3, r4⟩
    · refine wpAny_pyNext_zipD2_end S D1 D2 hz Z.ti hTO st1 st2 (Nat.le_refl _) (Nat.le_refl _) (.inl rfl) fun h' tk hk => ?_
      refine wpAny_pure (hdone acc H _ (I.turnedL (t' := tk) (ch := [z, TI, TO, i1, i2]) (fun c o hc e => hk c o (fun x => hc (by simp [x])) (fun x => hc (by simp [x])) (fun x => hc (by simp [x])) (fun x => hc (by simp [x])) e) hf) hP hl)
    · refine next_zipHeld_end S D1 hz hT Z.ti st1 fun h' hk => ?_
      refine wpAny_pure (hdone acc H _ (I.turnedL (t' := s.toks) (ch := [z, TI, TO, i1, i2]) (fun c o hc e => hk c o (fun x => hc (by simp [x])) (fun x => hc (by simp [x])) (fun x => hc (by simp [x])) e) hf) hP hl)
  | succ m ih =>
    intro acc H s hm I hf hP hq Z
    refine codeAny_builtin PySem.F.entry_extend_loop ?_
    rw [Around.under_plainId PySem.F.plain_extend_loop _]
    show wpAny _ A1.in1 (pyNext (.ref z) >>= _) _ _ s
    have hl : acc.length < n := by omega
    refine wpAny_bind ?_
    have fr : H s.heap.objs.size = none := I.hok.fresh (Nat.le_refl _)
    have hqs : q ≠ s.heap.objs.size := fun z => by rw [z, fr] at hq; cases hq
    -- a pair is laid at T; then it goes into the list
    have lt : ∀ {c o}, s.heap.get? c = some o → s.heap.objs.size ≠ c := fun e => Nat.ne_of_gt (Heap.lt_size e)
    have hzl : s.heap.objs.size ≠ z := by
      rcases Z.at_ with ⟨hz, _⟩ | ⟨T, f, oT, hz, _⟩
      · exact lt hz
      · exact lt hz
    have hTIl : s.heap.objs.size ≠ TI := lt Z.ti
    have h1l : s.heap.objs.size ≠ i1 := let ⟨_, e⟩ := D1.live _ _ Z.s1; lt e
    have h2l : s.heap.objs.size ≠ i2 := let ⟨_, e⟩ := D2.live _ _ Z.s2; lt e
    have hTOl : s.heap.objs.size ≠ TO := let ⟨_, e⟩ := Z.to_; lt e
    have go : ∀ (u1 u2 : Value) (h' : Heap) (tk : Nat), P1 acc.length u1 → P2 acc.length u2 → IsTupOf2 h' s.heap.objs.size u1 u2 → (∀ c o, c ∉ [z, TI, TO, i1, i2] → s.heap.get? c = some o → h'.get? c = some o) → ZS z TI TO i1 i2 q St1 St2 (acc.length + 1) h' →
        wpAny (model X.prog X.w) A1.in1 (updateSeq q (·.push (.ref s.heap.objs.size)) >>= fun _ => again (.builtin "list.extend.loop" ⟨[.ref q, .ref z, .none], []⟩))
          (fun fin s' => match fin with | .done f => Rs (.ok f) s' | .again c' => c'.quiet = true ∧ codeAny (model X.prog X.w) A1 c' Rs s') (fun e s' => Rs (.error e) s') { s with heap := h', toks := tk } := by
      intro u1 u2 h' tk p1 p2 hT hk Z'
      obtain ⟨x, hx, rx⟩ := hP1 _ _ p1
      obtain ⟨y, hy, ry⟩ := hP2 _ _ p2
      have new : ObjOk X.prog X.w (upd H s.heap.objs.size (.tup [x, y])) h' s.heap.objs.size (.tup [x, y]) :=
        ⟨by show 2 ≤ sizeLine; decide, [u1, u2], .cons rx (.cons ry .nil), ⟨_, hT, rfl, _, rfl⟩⟩
      have I1 : Inv X pins σ (upd H s.heap.objs.size (.tup [x, y])) { s with heap := h', toks := tk } := I.turnedNew (t' := tk) (ch := [z, TI, TO, i1, i2]) hk hf (Nat.le_refl _) new
      have hq' : (upd H s.heap.objs.size (.tup [x, y])) q = some (.lst acc) := by rw [upd_ne hqs]; exact hq
      obtain ⟨z2, its, k, r2, hl2, e⟩ := I1.lstM hq'
      have hlen := r2.length
      refine wpAny_bind (wpAny_updateSeq e rfl (wpAny_pure ⟨plainId_quiet PySem.F.plain_extend_loop _, ?_⟩) (by rw [List.size_toArray]; omega) (by show (its.toArray.push (Value.ref s.heap.objs.size)).size ≤ sizeLine + 1; rw [Array.size_push, List.size_toArray]; omega))
      have I2 := I1.lset (f := (·.push (Value.ref s.heap.objs.size))) (its := its) (its' := its ++ [Value.ref s.heap.objs.size]) (ys := acc ++ [V.ref s.heap.objs.size]) (t' := tk) hq' e (by simp) (r2.append (.cons (show RelV (V.ref s.heap.objs.size) (Value.ref s.heap.objs.size) from rfl) .nil)) (by rw [List.length_append, List.length_singleton]; omega)
      refine ih (acc ++ [.ref s.heap.objs.size]) _ _ (by rw [List.length_append, List.length_singleton]; omega) I2 (fun b hb => ?_) (hstep acc H _ x y hP hq hx hy fr) upd_same ?_
      · refine ⟨?_, (hf b hb).2⟩
        have hb1 : b ≠ q := fun e => by
          have := (hf b hb).1
          rw [e, hq] at this; cases this
        have hb2 : b ≠ s.heap.objs.size := fun e => by
          simp only [List.mem_cons, List.not_mem_nil, or_false] at hb
          rcases hb with r | r | r | r | r
          · exact hzl (e ▸ r)
          · exact hTIl (e ▸ r)
          · exact hTOl (e ▸ r)
          · exact h1l (e ▸ r)
          · exact h2l (e ▸ r)
        rw [upd_ne hb1, upd_ne hb2]
        exact (hf b hb).1
      · rw [List.length_append, List.length_singleton]
        exact Z'.other D1 D2 hq1 hq2 hqz hqTI hqTO fun b o hb e => (Heap.get?_update_other _ _ (Ne.symm hb)).trans e
    rcases Z.at_ with ⟨hz, a, b, hTO⟩ | ⟨T, f, oT, hz, hT, r1, r2, r3, r4⟩
    · refine wpAny_pyNext_zipD2_item S D1 D2 hz Z.ti hTO Z.s1 Z.s2 hl hl fun u1 u2 h' tk p1 p2 a1 a2 a3 a4 a5 a6 hk => ?_
      refine go u1 u2 h' tk p1 p2 a5 (fun c o hc e => hk c o (fun x => hc (by simp [x])) (fun x => hc (by simp [x])) (fun x => hc (by simp [x])) (fun x => hc (by simp [x])) e) ?_
      exact ⟨hk _ _ S.TIz S.TITO S.TIi1 S.TIi2 Z.ti, a3, a4, ⟨_, a2⟩, .inr ⟨s.heap.objs.size, false, _, a1, a5, hzl, h1l, h2l, Ne.symm hqs⟩⟩
    · refine next_zipHeld_item S D1 D2 hz hT Z.ti Z.s1 Z.s2 hl hl fun u1 u2 h' tk p1 p2 a1 a3 a4 a5 a6 hk => ?_
      refine go u1 u2 h' tk p1 p2 a5 (fun c o hc e => hk c o (fun x => hc (by simp [x])) (fun x => hc (by simp [x])) (fun x => hc (by simp [x])) e) ?_
      exact ⟨hk _ _ S.TIz S.TIi1 S.TIi2 Z.ti, a3, a4, (let ⟨o, e⟩ := Z.to_; ⟨o, hk _ _ S.TOz S.Ti1 S.Ti2 e⟩), .inr ⟨T, true, oT, a1, hk _ _ r1 r2 r3 hT, r1, r2, r3, r4⟩⟩
/-- list(the zip) -/
theorem list_zip {Q : VK} {H : Hp} {s : Shared} {A : Around} (hA : X.A = A) (hh : A.handled = none) (S : ZipSep2 z TI TO i1 i2 fp1 fp2) (D1 : Draws X.prog X.w A.in1.in1.in1 i1 fp1 n P1 St1) (D2 : Draws X.prog X.w A.in1.in1.in1 i2 fp2 n P2 St2)
    (hP1 : ∀ i v, P1 i v → ∃ x, xs[i]? = some x ∧ RelV x v) (hP2 : ∀ i v, P2 i v → ∃ x, ys[i]? = some x ∧ RelV x v) (hn : n ≤ sizeLine) (I : Inv X pins σ H s) (hf : ∀ b ∈ [z, TI, TO, i1, i2], FpOk X pins H b)
    (hz : IsZip s.heap z TI TO .none) (hTI : IsTupOf2 s.heap TI (.ref i1) (.ref i2)) {a b : Value} (hTO : IsTupOf2 s.heap TO a b) (st1 : St1 0 s.heap) (st2 : St2 0 s.heap) (hl1 : ∀ b ∈ fp1, b < s.heap.objs.size) (hl2 : ∀ b ∈ fp2, b < s.heap.objs.size)
    (h : ∀ q, H q = none → ∃ P : List V → Hp → Prop, P [] (upd H q (.lst [])) ∧ (∀ acc H T x y, P acc H → H q = some (.lst acc) → xs[acc.length]? = some x → ys[acc.length]? = some y → H T = none → P (acc ++ [.ref T]) (upd (upd H T (.tup [x, y])) q (.lst (acc ++ [.ref T])))) ∧ ∀ acc H, P acc H → acc.length = n → Q (.ref q) H) :
    wpAny (model X.prog X.w) A (call (.type "list") [.ref z]) (fun v s' => EP X pins σ Q v s') X.xe s := by
  refine callType_codes (Q₁ := fun obj s₁ => obj = .ref s.heap.objs.size ∧ s₁ = { s with heap := s.heap.push { cls := .type "list", data := .seq #[] } }) PySem.F.called_list (PySem.F.typeCall_list_1 _) PySem.F.entry_list_init
    (code_list_new _ ⟨rfl, rfl⟩) fun obj s₁ h₁ => ?_
  obtain ⟨rfl, rfl⟩ := h₁
  have hS : (s.heap.push { cls := .type "list", data := .seq #[] }).get? s.heap.objs.size = some { cls := .type "list", data := .seq #[] } := Heap.get?_push_size _ rfl
  refine ⟨⟨_, hS, rfl⟩, PySem.F.args_list_init_2 _ _, ?_⟩
  have fr : H s.heap.objs.size = none := I.hok.fresh (Nat.le_refl _)
  obtain ⟨P, hP, hstep, hfin⟩ := h _ fr
  have lt : ∀ {c o}, s.heap.get? c = some o → c ≠ s.heap.objs.size := fun e => Nat.ne_of_lt (Heap.lt_size e)
  have hq1 : s.heap.objs.size ∉ fp1 := fun hm => Nat.lt_irrefl _ (hl1 _ hm)
  have hq2 : s.heap.objs.size ∉ fp2 := fun hm => Nat.lt_irrefl _ (hl2 _ hm)
  have Z0 : ZS z TI TO i1 i2 s.heap.objs.size St1 St2 0 s.heap := ⟨hTI, st1, st2, ⟨_, hTO⟩, .inl ⟨hz, a, b, hTO⟩⟩
  have k1 : ∀ b o, b ≠ s.heap.objs.size → s.heap.get? b = some o → (s.heap.push { cls := .type "list", data := .seq #[] }).get? b = some o := fun b o _ e => Heap.get?_push_of_some _ e
  have I1 : Inv X pins σ (upd H s.heap.objs.size (.lst [])) { s with heap := s.heap.push { cls := .type "list", data := .seq #[] } } := I.lnew (its := []) (t' := s.toks) .nil (Nat.zero_le _)
  show wpAny _ _ (do let old ← Builtin.List.listItems (.ref s.heap.objs.size); Builtin.List.listUpdate (.ref s.heap.objs.size) (fun _ => #[]); letGo old.toList.reverse; Builtin.List.listExtendWith (.ref s.heap.objs.size) (.ref z) .none) _ _ _
  refine wpAny_bind ?_
  unfold Builtin.List.listItems
  refine wpAny_bind (wpAny_seqItems hS rfl (wpAny_pure ?_))
  show wpAny _ _ (updateSeq s.heap.objs.size (fun _ => #[]) >>= fun _ => letGo (#[] : Array Value).toList.reverse >>= fun _ => Builtin.List.listExtendWith (.ref s.heap.objs.size) (.ref z) .none) _ _ _
  refine wpAny_bind (wpAny_updateSeq hS rfl ?_)
  have I2 := I1.lset (f := fun _ => #[]) (its := []) (its' := []) (ys := []) (t' := s.toks) upd_same hS rfl .nil (Nat.zero_le _)
  rw [upd_upd] at I2
  refine wpAny_bind (wpAny_letGo ?_)
  unfold Builtin.List.listExtendWith
  have up : ∀ (h : Heap) (f : Obj → Obj) (b : Addr) (o : Obj), b ≠ s.heap.objs.size → h.get? b = some o → (h.update s.heap.objs.size f).get? b = some o := fun h f b o hb e => (Heap.get?_update_other _ _ (Ne.symm hb)).trans e
  have hS2 := Heap.get?_update_self (Obj.mapSeq (fun _ => (#[] : Array Value))) hS rfl
  have hz2 := up _ (Obj.mapSeq (fun _ => (#[] : Array Value))) _ _ (lt hz) (k1 _ _ (lt hz) hz)
  refine wpAny_bind (wpAny_typeOf (T := "zip") (s := { s with heap := _ }) ⟨_, hz2, rfl⟩ ?_)
  have h1 : Builtin.List.listSameRef (.ref s.heap.objs.size) (.ref z) = false := by simp [Builtin.List.listSameRef, Ne.symm (lt hz)]
  have h2 : (Value.type "zip" == Value.type "list") = false := by decide
  have h3 : (Value.type "zip" == Value.type "tuple") = false := by decide
  simp only [h1, h2, h3, Bool.or_false, Bool.false_eq_true, if_false]
  refine wpAny_bind (wpAny_pyIter_zip (s := { s with heap := _ }) hz2 ?_)
  refine wpAny_bind (wpAny_holding ?_)
  unfold Builtin.List.listLengthHint
  refine wpAny_bind (wpAny_specialOf (T := "zip") (s := { s with heap := _ }) ⟨_, hz2, rfl⟩ zip_no_len ?_)
  show wpAny _ _ (specialOf (Value.ref z) (Str.ofString "__length_hint__") >>= _) _ _ _
  refine wpAny_bind (wpAny_specialOf (T := "zip") (s := { s with heap := _ }) ⟨_, hz2, rfl⟩ zip_no_hint ?_)
  refine wpAny_pure ?_
  show wpAny _ _ (rule "list.extend.makes-room" >>= fun _ => Builtin.List.listTouch (.ref s.heap.objs.size) >>= fun _ =>
    again (.builtin "list.extend.loop" ⟨[.ref s.heap.objs.size, .ref z, .none], []⟩)) _ _ _
  refine wpAny_bind (wpAny_rule ?_)
  refine wpAny_bind ?_
  show wpAny _ _ (updateSeq s.heap.objs.size (·.push .none) >>= fun _ => updateSeq s.heap.objs.size (·.pop)) _ _ _
  refine wpAny_bind (wpAny_updateSeq hS2 rfl ?_)
  have I3 := I2.lset (f := (·.push Value.none)) (its := []) (its' := [Value.none]) (ys := [.non]) (t' := s.toks) upd_same hS2 rfl (.cons rfl .nil) (by rw [List.length_singleton, sizeLine_eq]; decide)
  rw [upd_upd] at I3
  have hS3 := Heap.get?_update_self (Obj.mapSeq (·.push Value.none)) hS2 rfl
  refine wpAny_updateSeq (hz := by seq_fits) hS3 rfl ?_
  have I4 := I3.lset (f := (·.pop)) (its := [Value.none]) (its' := []) (ys := []) (t' := s.toks) upd_same hS3 rfl .nil (Nat.zero_le _)
  rw [upd_upd] at I4
  refine wpAny_pure ⟨plainId_quiet PySem.F.plain_extend_loop _, ?_⟩
  refine zip_loop (A1 := A.in1) hh S D1 D2 hP1 hP2 hq1 hq2 (lt hz) (lt hTI) (lt hTO) hn hstep (fun acc H' s' I' hP' hl => ⟨rfl, .ref s.heap.objs.size, H', I', rfl, hfin acc H' hP' hl⟩) n [] _ _ (by simp) I4 (fun b hb => ?_) hP upd_same ?_
  · have hb' : b ≠ s.heap.objs.size := by
      simp only [List.mem_cons, List.not_mem_nil, or_false] at hb
      rcases hb with r | r | r | r | r
      · rw [r]; exact lt hz
      · rw [r]; exact lt hTI
      · rw [r]; exact lt hTO
      · rw [r]; obtain ⟨_, e⟩ := D1.live _ _ st1; exact lt e
      · rw [r]; obtain ⟨_, e⟩ := D2.live _ _ st2; exact lt e
    refine ⟨?_, (hf b hb).2⟩
    rw [upd_ne hb']
    exact (hf b hb).1
  · refine Z0.other (A1 := A.in1) (X := X) (n := n) (P1 := P1) (P2 := P2) D1 D2 hq1 hq2 (lt hz) (lt hTI) (lt hTO) fun b o hb e => ?_
    exact up _ _ _ _ hb (up _ _ _ _ hb (up _ _ _ _ hb (k1 _ _ hb e)))
end
end L2
namespace L2
open PySem PySem.Spec PyProof.Rows
/-- what a list or a tuple draws -/
theorem src_draws {X : Cx} {pins : List (Addr × Obj)} {σ : St} {H : Hp} {s : Shared} {k : Kd} {v : V} {u : Value} {xs : List V} (I : Inv X pins σ H s) (h : SrcK X.K k H v xs) (hk : k ≠ .s) (r : RelV v u) :
    ∃ (o : Obj) (C : Heap → Prop) (a : Addr) (its : List Value), u = .ref a ∧ a < s.heap.objs.size ∧ Begins u o C ∧ C s.heap ∧ Vals xs its ∧ xs.length ≤ sizeLine ∧
      ∀ (A : Around) (it : Addr), A.handled = none → a ≠ it → ∃ St : Nat → Heap → Prop, Draws X.prog X.w A it [it, a] its.toArray.size (fun i v => its.toArray[i]? = some v) St ∧ ∀ h, h.get? it = some o → C h → St 0 h := by
  cases k with
  | l =>
    obtain ⟨a, rfl, hq⟩ := h
    cases r
    obtain ⟨its, rv, p, hz⟩ := I.list hq
    exact ⟨_, _, a, its, rfl, p.lt, begins_list a its.toArray, p.isList, rv, hz, fun A it hA hne => ⟨_, Draws.list hA it a hne its.toArray, fun h e c => ⟨⟨_, e, rfl, rfl⟩, c⟩⟩⟩
  | t =>
    obtain ⟨a, rfl, hq⟩ := h
    cases r
    obtain ⟨its, rv, p, hz⟩ := I.tuple hq
    exact ⟨_, _, a, its, rfl, p.lt, begins_tuple a its.toArray, p, rv, hz, fun A it hA hne => ⟨_, Draws.tuple hA it a hne its.toArray, fun h e c => ⟨⟨_, e, rfl, rfl⟩, c⟩⟩⟩
  | s => exact (hk rfl).elim
def tLZip (K : PySem.W.Frag) (ta tb : TE) : TE := fun σ H Q => ta σ H fun v1 H1 => tb σ H1 fun v2 H2 => ∃ (k1 k2 : Kd) (xs ys : List V), k1 ≠ .s ∧ k2 ≠ .s ∧ SrcK K k1 H2 v1 xs ∧ SrcK K k2 H2 v2 ys ∧ xs.length = ys.length ∧
  ∀ q, H2 q = none → ∃ P : List V → Hp → Prop, P [] (upd H2 q (.lst [])) ∧ (∀ acc H T x y, P acc H → H q = some (.lst acc) → xs[acc.length]? = some x → ys[acc.length]? = some y → H T = none → P (acc ++ [.ref T]) (upd (upd H T (.tup [x, y])) q (.lst (acc ++ [.ref T])))) ∧ ∀ acc H, P acc H → acc.length = xs.length → Q (.ref q) H
theorem pe_lzip {X : Cx} {e er : Expr} {te tr : TE} {p p2 pos pos2 : Pos} (hc : X.calm = true) (hg1 : Gl X "list") (hm1 : X.mg "list" = none) (hg2 : Gl X "zip") (hm2 : X.mg "zip" = none) (he : PE X e te) (hr : PE X er tr)
    (na : starEach [e, er] X.env = (false, eval e X.env) :: starEach [er] X.env := by rfl) (nb : starEach [er] X.env = (false, eval er X.env) :: starEach [] X.env := by rfl) (hp : (backTo pos2 (starEach [er] X.env)).any (·.1) = false := by rfl)
    (nz : starEach [Expr.Call (.Name "zip" p2) [e, er] [] pos2] X.env = (false, eval (Expr.Call (.Name "zip" p2) [e, er] [] pos2) X.env) :: starEach [] X.env := by rfl) :
    PE X (.Call (.Name "list" p) [.Call (.Name "zip" p2) [e, er] [] pos2] [] pos) (tLZip X.K te tr) := by
  refine ⟨fun pins s σ H Q I h => ?_⟩
  refine Call_ (ld_blt I hg1 hm1 PyProof.Rows.boot_list (PyProof.Rows.callWith_type1 (args_cons (Call_ (ld_blt I hg2 hm2 PyProof.Rows.boot_zip (PyProof.Rows.callWith_type1 (args_cons (thn (he.run pins s σ H _ I h) fun v s1 ⟨x, H1, I1, r1, q1⟩ =>
    args_cons (thn (hr.run pins s1 σ H1 _ I1 q1) fun y s2 ⟨w2, H2, I2, r2, q⟩ => args_nil ?_) nb) na) na hp))) nz) nz))
  obtain ⟨k1, k2, xs, ys, n1, n2, sx, sy, hlen, q⟩ := q
  obtain ⟨o1, C1, a1, its1, rfl, la1, B1, c1, rv1, hz1, D1⟩ := src_draws I2 sx n1 r1
  obtain ⟨o2, C2, a2, its2, rfl, la2, B2, c2, rv2, hz2, D2⟩ := src_draws I2 sy n2 r2
  have hh : X.A.handled = none := I2.ok.hd hc
  refine zip_begins2 B1 B2 c1 c2 fun h' hz' hTI hTO h1 h2 hsz hk => args_nil ?_
  have hs1 := rv1.length
  have hs2 := rv2.length
  have na1 : ∀ k : Nat, a1 ≠ s2.heap.objs.size + k := fun k z => absurd la1 (by rw [z]; exact Nat.not_lt_of_le (Nat.le_add_right _ _))
  have na2 : ∀ k : Nat, a2 ≠ s2.heap.objs.size + k := fun k z => absurd la2 (by rw [z]; exact Nat.not_lt_of_le (Nat.le_add_right _ _))
  obtain ⟨St1, d1, st1⟩ := D1 X.A.in1.in1.in1 s2.heap.objs.size hh (na1 0)
  obtain ⟨St2, d2, st2⟩ := D2 X.A.in1.in1.in1 (s2.heap.objs.size + 1) hh (na2 1)
  have e12 : its2.toArray.size = its1.toArray.size := by rw [List.size_toArray, List.size_toArray]; omega
  rw [e12] at d2
  have ne : ∀ a b : Nat, a ≠ b → s2.heap.objs.size + a ≠ s2.heap.objs.size + b := fun a b h q => h (Nat.add_left_cancel q)
  have sep : ZipSep2 (s2.heap.objs.size + 4) (s2.heap.objs.size + 2) (s2.heap.objs.size + 3) s2.heap.objs.size (s2.heap.objs.size + 1) [s2.heap.objs.size, a1] [s2.heap.objs.size + 1, a2] := by
    have m1 : ∀ k : Nat, 0 < k → s2.heap.objs.size + k ∉ [s2.heap.objs.size, a1] := fun k hk0 hm => by
      rcases List.mem_cons.mp hm with z | z
      · exact ne k 0 (Nat.ne_of_gt hk0) z
      · exact na1 k (List.mem_singleton.mp z).symm
    have m2 : ∀ k : Nat, 1 ≠ k → s2.heap.objs.size + k ∉ [s2.heap.objs.size + 1, a2] := fun k hk0 hm => by
      rcases List.mem_cons.mp hm with z | z
      · exact ne k 1 (Ne.symm hk0) z
      · exact na2 k (List.mem_singleton.mp z).symm
    exact ⟨ne 2 4 (by decide), ne 3 4 (by decide), ne 2 3 (by decide), ne 2 0 (by decide), by simp, m1 4 (by decide), m1 3 (by decide), ne 2 1 (by decide), by simp, m2 4 (by decide), m2 3 (by decide), m2 0 (by decide), m1 1 (by decide)⟩
  have I3 : Inv X pins σ H2 { s2 with heap := h' } := I2.kept (t' := s2.toks) hk
  refine list_zip (xs := xs) (ys := ys) (Q := Q) rfl hh sep d1 d2 (fun i v hv => vals_get' rv1 hv) (fun i v hv => vals_get' rv2 hv) (by rw [List.size_toArray]; omega) I3 (fun b hb => ?_) hz' hTI hTO (st1 _ h1 (B1.keeps _ _ c1 hk)) (st2 _ h2 (B2.keeps _ _ c2 hk)) (fun b hb => ?_) (fun b hb => ?_) fun q' hq' => ?_
  · have hb' : ∃ k, b = s2.heap.objs.size + k := by
      simp only [List.mem_cons, List.not_mem_nil, or_false] at hb
      rcases hb with r | r | r | r | r
      · exact ⟨4, r⟩
      · exact ⟨2, r⟩
      · exact ⟨3, r⟩
      · exact ⟨0, r⟩
      · exact ⟨1, r⟩
    obtain ⟨k, rfl⟩ := hb'
    exact I2.fpOk (Nat.le_add_right _ _) (I2.hok.fresh (Nat.le_add_right _ _))
  · show b < h'.objs.size
    rw [hsz]
    rcases List.mem_cons.mp hb with z | z
    · rw [z]; exact Nat.lt_add_of_pos_right (by decide)
    · rw [List.mem_singleton.mp z]; exact Nat.lt_of_lt_of_le la1 (Nat.le_add_right _ _)
  · show b < h'.objs.size
    rw [hsz]
    rcases List.mem_cons.mp hb with z | z
    · rw [z]; exact Nat.add_lt_add_left (by decide) _
    · rw [List.mem_singleton.mp z]; exact Nat.lt_of_lt_of_le la2 (Nat.le_add_right _ _)
  · obtain ⟨P, p1, p2, p3⟩ := q q' hq'
    exact ⟨P, p1, p2, fun acc H hP hl => p3 acc H hP (by rw [hl, List.size_toArray]; omega)⟩
theorem pe_lzip' {X : Cx} (K : PySem.W.Frag) {e er : Expr} {te tr : TE} {p p2 pos pos2 : Pos} (hc : X.calm = true) (hg1 : Gl X "list") (hm1 : X.mg "list" = none) (hg2 : Gl X "zip") (hm2 : X.mg "zip" = none) (he : PE X e te) (hr : PE X er tr) (hK : X.K = K := by rfl)
    (na : starEach [e, er] X.env = (false, eval e X.env) :: starEach [er] X.env := by rfl) (nb : starEach [er] X.env = (false, eval er X.env) :: starEach [] X.env := by rfl) (hp : (backTo pos2 (starEach [er] X.env)).any (·.1) = false := by rfl)
    (nz : starEach [Expr.Call (.Name "zip" p2) [e, er] [] pos2] X.env = (false, eval (Expr.Call (.Name "zip" p2) [e, er] [] pos2) X.env) :: starEach [] X.env := by rfl) :
    PE X (.Call (.Name "list" p) [.Call (.Name "zip" p2) [e, er] [] pos2] [] pos) (tLZip K te tr) := by
  subst hK
  exact pe_lzip hc hg1 hm1 hg2 hm2 he hr na nb hp nz
end L2
namespace SL
open PySem L2 Evl
/-- a list or a tuple that is read -/
inductive ZSrc (δ : List SD) : Kd → SD → List PyData → Prop
  | l {r : SD} {ds : List PyData} : LSrc δ r ds → ZSrc δ .l r ds
  | t {ds : List PyData} : ZSrc δ .t (.fz (.tuple ds)) ds
section
variable {F : Fm} {G H : Hp} {τ σ : List (Option V)} {ε δ : List SD} {P : PV} {ta tb : TE}
theorem S2.zsrc {x : V} {r : SD} {k : Kd} {ds : List PyData} (s : S2 F G H τ ε σ δ) (ok : SD.ok F.K G H (some x) r) (h : ZSrc δ k r ds) : ∃ xs, k ≠ .s ∧ SrcK F.K k H x xs ∧ DpAll F.K G xs ds := by
  cases h with
  | l h =>
    obtain ⟨a, xs, rfl, sq, da⟩ := s.lsrc ok h
    exact ⟨xs, fun z => (by cases z), ⟨a, rfl, sq⟩, da⟩
  | t =>
    obtain ⟨a, xs, rfl, sq, da⟩ := dp_tup ok
    exact ⟨xs, fun z => (by cases z), ⟨a, rfl, ex_t s.w.gh sq⟩, da⟩
theorem zipD_get {ds es : List PyData} {i : Nat} {d e : PyData} (h1 : ds[i]? = some d) (h2 : es[i]? = some e) : (zipD ds es)[i]? = some (.tuple [d, e]) := by
  unfold zipD
  rw [List.getElem?_zipWith, h1, h2]
/-- list(zip(a, b)), both equally long -/
theorem ev_lzip (h : E F ta δ fun r1 δ1 => E F tb δ1 fun r2 δ2 => ∃ k1 k2 ds es, ZSrc δ2 k1 r1 ds ∧ ZSrc δ2 k2 r2 es ∧ ds.length = es.length ∧ ∀ p, p ∉ F.io → P (.ol p (zipD ds es)) δ2) : E F (tLZip F.K ta tb) δ P := fun τ ε G H σ Q s q =>
  h τ ε G H σ _ s fun x r1 δ1 G1 H1 h1 e1 s1 => h1 _ _ G1 H1 σ _ s1 fun y r2 δ2 G2 H2 ⟨k1, k2, ds, es, z1, z2, hl, k⟩ e2 s2 => by
    obtain ⟨xs, n1, sx, dx⟩ := s2.pop.zsrc s2.pop.top z1
    obtain ⟨ys, n2, sy, dy⟩ := s2.zsrc s2.top z2
    have lx := DpAll.len dx
    have ly := DpAll.len dy
    refine ⟨k1, k2, xs, ys, n1, n2, sx, sy, by omega, fun p hp => ?_⟩
    refine ⟨fun acc H => ∃ G, Ex G2 G ∧ S2 F G H (some (.ref p) :: τ) (.ol p ((zipD ds es).take acc.length) :: ε) σ δ2, ⟨G2, Ex.refl _, ?_⟩, ?_, ?_⟩
    · exact s2.pop2.newO hp rfl ⟨rfl, _, upd_same, .nil⟩
    · rintro acc H3 T x3 y3 ⟨G3, ex, s3⟩ hq hx hy hT
      obtain ⟨_, zs, hzs, hda⟩ := s3.top
      rw [hq] at hzs
      cases hzs
      obtain ⟨d, hd, hxd⟩ := DpAll.get dx hx
      obtain ⟨e, he, hye⟩ := DpAll.get dy hy
      have gT := s3.w.gnone hT
      have exT := Ex.new (o := HO.tup [x3, y3]) gT
      have s4 := s3.newF (o := .tup [x3, y3]) hT
      have hpair : SL.Dp F.K (upd G3 T (.tup [x3, y3])) (.ref T) (.tuple [d, e]) := Dp.tup upd_same (.cons (dpMono (Ex.trans ex exT) _ _ hxd) (.cons (dpMono (Ex.trans ex exT) _ _ hye) .nil))
      refine ⟨upd G3 T (.tup [x3, y3]), Ex.trans ex exT, ?_⟩
      have wm : Wd F (upd G3 T (.tup [x3, y3])) (upd (upd H3 T (.tup [x3, y3])) p (.lst (acc ++ [.ref T]))) (p :: (fps ε ++ fps δ2)) := s4.w.mut List.mem_cons_self
      have nd := (List.nodup_cons.mp (show (p :: (fps ε ++ fps δ2)).Nodup from s4.w.nd)).1
      obtain ⟨_, zs, hzs, hda⟩ := s4.top
      have ep : (upd H3 T (.tup [x3, y3])) p = some (.lst acc) := by rw [upd_ne (ne_of_none hq hT)]; exact hq
      rw [ep] at hzs
      cases hzs
      refine ⟨wm, ⟨⟨rfl, _, upd_same, ?_⟩, oks_mono (Ex.refl _) (fun a ha => upd_ne fun z => nd (z ▸ List.mem_append_left _ ha)) s4.t.2⟩, oks_mono (Ex.refl _) (fun a ha => upd_ne fun z => nd (z ▸ List.mem_append_right _ ha)) s4.s⟩
      have e5 : (zipD ds es).take (acc ++ [V.ref T]).length = (zipD ds es).take acc.length ++ [.tuple [d, e]] := by
        rw [List.length_append, List.length_singleton, List.take_succ, zipD_get hd he]
        rfl
      rw [e5]
      exact DpAll.app hda (SL.DpAll.one hpair)
    · rintro acc H3 ⟨G3, ex, s3⟩ hlen
      have : (zipD ds es).take acc.length = zipD ds es := List.take_of_length_le (by unfold zipD; rw [List.length_zipWith]; omega)
      rw [this] at s3
      exact q _ _ δ2 G3 H3 (k p (s2.fresh_io hp)) (Ex.trans (Ex.trans e1 e2) ex) s3
end
end SL

/-! d.setdefault(k, v): number or text keys, tuple keys. -/
namespace L2
open PySem PySem.Spec PyProof.Rows
section
variable {X : Cx} {pins : List (Addr × Obj)} {σ : St} {H : Hp} {s : Shared} {a b : Addr} {r : Value} {d : V} {k : List Key} {A : Around} {E : Value → Shared → Prop}
theorem d_setdT {kvs : List (List Key × V)} {Q : Value → Shared → Prop} (hu : A.units + 1 < cLine) (I : Inv X pins σ H s) (e : H a = some (.dT kvs)) (eb : H b = some (.tup (k.map kV))) (rd : RelV d r) (hl : kvs.length < sizeLine)
    (h1 : ∀ v, valV kvs k = some v → ∀ (w' : Value) (s' : Shared), Inv X pins σ H s' → RelV v w' → Q w' s') (h2 : valV kvs k = none → ∀ (w' : Value) (s' : Shared), Inv X pins σ (upd H a (.dT (putK kvs k d))) s' → RelV d w' → Q w' s') :
    wpAny (model X.prog X.w) A (call (.builtin "dict.setdefault") [.ref a, .ref b, r]) Q E s := by
  obtain ⟨z, hd, xs, rel, dd⟩ := dt_of I.hok e
  have hz : xs.length ≤ sizeLine := by rw [← Paired.length rel]; exact z
  have q := rel.val k
  refine call_setdefault_heap (hsz := hz) (tupleKind_room_in1 hu) (key_of I.hok eb) hd dd (fun p hp => ?_) fun hn h' dd' hs => ?_
  · rw [hp] at q
    cases q0 : valV kvs k with
    | none => rw [q0] at q; exact (show False from q).elim
    | some v0 => rw [q0] at q; exact h1 v0 q0 _ _ (I.tok _) q
  · rw [hn] at q
    cases q0 : valV kvs k with
    | some v0 => rw [q0] at q; exact (show False from q).elim
    | none =>
      have hl2 : (putK kvs k d).length ≤ sizeLine := by have := length_putK kvs k d; omega
      obtain ⟨qo, es, ep, hq, c2, c3, c4, _, c5⟩ := dd'
      refine h2 q0 _ _ (d_write I (by rw [e]; exact True.intro) hs ⟨qo, hq⟩ ⟨hl2, hd, _, (rel.put k eb rd).keeps fun c ys ec => ?_, qo, es, ep, hq, c2, c3, c4, c5⟩) rd
      rw [upd_ne (ne_of ec e (fun z => nomatch z))]
      exact ec
end
def tDSetdT (td ty tx : TE) : TE := fun σ H Q => td σ H fun x H1 => ∃ a, x = .ref a ∧ IsD H1 a ∧ ty σ H1 fun y H2 => tx σ H2 fun z H3 => ∃ (kvs : List (List Key × V)) (k : List Key) (b : Addr), H3 a = some (.dT kvs) ∧ y = .ref b ∧ H3 b = some (.tup (k.map kV)) ∧ kvs.length < sizeLine ∧
  (∀ v, valV kvs k = some v → Q v H3) ∧ (valV kvs k = none → Q z (upd H3 a (.dT (putK kvs k z))))
section
variable {X : Cx} {o e f : Expr} {td ty tx : TE} {apos cpos : Pos}
theorem pe_dsetdT (hu : X.A.units + 1 < cLine) (ho : PE X o td) (he : PE X e ty) (hf : PE X f tx) (m : M2 X o "setdefault" apos e f cpos) : PE X (.Call (.Attribute o "setdefault" apos) [e, f] [] cpos) (tDSetdT td ty tx) := by
  refine ⟨fun pins s σ H Q I h => ?_⟩
  refine wpAny_Call_method m.base m.few m.line PySem.F.plainAttrs_dict PySem.F.slot_dict_setdefault PySem.F.type_dict_setdefault (thn (ho.run pins s σ H _ I h) fun u s1 ⟨x, H1, I1, rx, a, ex, d, q1⟩ => ?_)
  subst ex
  obtain rfl : u = Value.ref a := rx
  obtain ⟨t1, t2, _⟩ := isD_at I1 d
  refine ⟨t1, t2, ?_⟩
  rw [m.trees]
  refine Calls.callWith_builtin rfl (Calls.evalArgs_plain (Calls.spliced_cons (thn (he.run pins s1 σ H1 _ I1 q1) fun iv s2 ⟨y, H2, I2, ry, q2⟩ =>
    Calls.spliced_cons (thn (hf.run pins s2 σ H2 _ I2 q2) fun fv s3 ⟨z, H3, I3, rz, kvs, k, b, ea, ey, eb, hl, q3, q4⟩ => Calls.spliced_nil ?_))))
  subst ey
  obtain rfl : iv = Value.ref b := ry
  exact d_setdT hu I3 ea eb rz hl (fun v hv w' s4 I4 rw' => ⟨v, _, I4, rw', q3 v hv⟩) fun hn w' s4 I4 rw' => ⟨z, _, I4, rw', q4 hn⟩
end
end L2
namespace SL
open PySem L2 Evl
section
variable {F : Fm} {δ : List SD} {P : PV} {td ty tx : TE}
theorem od_at {G H : Hp} {τ σ : List (Option V)} {ε : List SD} {j : Nat} {p : Addr} {kvs : List (Key × PyData)} (s : S2 F G H τ ε σ δ) (hj : δ[j]? = some (.od p kvs)) : σ[j]? = some (some (.ref p)) ∧ ∃ xs, H p = some (.dK xs) ∧ KD F.K G xs kvs := by
  obtain ⟨ov, e, ok⟩ := s.slot hj
  obtain ⟨v, rfl⟩ := sd_some (by intro z; cases z) ok
  obtain ⟨rfl, xs, hx, kd⟩ := ok
  exact ⟨e, xs, hx, kd⟩
theorem ev_dsetdT (h : E F td δ fun r δ1 => ∃ p j kvs0, r = .al p ∧ δ1[j]? = some (.ot p kvs0) ∧ E F ty δ1 fun r2 δ2 => ∃ k : List Key, r2 = .fz (.tuple (k.map keyD)) ∧ E F tx δ2 fun r3 δ3 => ∃ (d : PyData) (kvs : List (List Key × PyData)), r3 = .fz d ∧ δ3[j]? = some (.ot p kvs) ∧ kvs.length < 100000 ∧
      (∀ d', dlook kvs k = some d' → P (.fz d') δ3) ∧ (dlook kvs k = none → P (.fz d) (δ3.set j (.ot p (dput kvs k d))))) : E F (tDSetdT td ty tx) δ P := fun τ ε G H σ Q s q =>
  h τ ε G H σ _ s fun x r δ1 G1 H1 ⟨p, j, kvs0, hr, hj0, h1⟩ e1 s1 => by
    subst hr
    have hx : x = .ref p := s1.top
    subst hx
    obtain ⟨_, xs0, hxs0, _⟩ := ot_at s1 hj0
    refine ⟨p, rfl, .inr ⟨xs0, .inl hxs0⟩, ?_⟩
    refine h1 _ _ G1 H1 σ _ s1 fun y r2 δ2 G2 H2 ⟨k, hr2, h2⟩ e2 s2 => ?_
    subst hr2
    refine h2 _ _ G2 H2 σ _ s2 fun z r3 δ3 G3 H3 ⟨d, kvs, hr3, hj, hl, h3, h4⟩ e3 s3 => ?_
    subst hr3
    obtain ⟨b, rfl, hb⟩ := dp_keyT (fz_top s3.pop)
    obtain ⟨e4, xs, hxs, kd⟩ := ot_at s3 hj
    have hv := fz_top s3
    have hl' := KD.len kd
    refine ⟨xs, k, b, hxs, rfl, s3.w.gh _ _ hb, Nat.lt_of_lt_of_le (show xs.length < 100000 by omega) (by decide), fun v hv' => ?_, fun hn => ?_⟩
    · cases q0 : dlook kvs k with
      | none => rw [KD.none kd q0] at hv'; cases hv'
      | some d0 =>
        obtain ⟨v', hv2, hd⟩ := KD.some kd q0
        rw [hv2] at hv'
        cases hv'
        exact q _ _ δ3 G3 H3 (h3 d0 q0) (Ex.trans e1 (Ex.trans e2 e3)) (s3.pop.pop.pop.push rfl hd)
    · cases q0 : dlook kvs k with
      | some d0 =>
        obtain ⟨v', hv2, hd⟩ := KD.some kd q0
        rw [hv2] at hn
        cases hn
      | none =>
        have s4 := s3.pop.pop.pop.mut (o := .dT (putK xs k z)) (new := .ot p (dput kvs k d)) hj rfl rfl fun ov e => by
          rw [e4] at e
          cases e
          exact ⟨rfl, _, upd_same, KD.put hv kd⟩
        exact q _ _ _ G3 _ (h4 q0) (Ex.trans e1 (Ex.trans e2 e3)) (s4.push rfl hv)
theorem ev_dsetd (h : E F td δ fun r δ1 => ∃ p j kvs0, r = .al p ∧ δ1[j]? = some (.od p kvs0) ∧ E F ty δ1 fun r2 δ2 => ∃ k : Key, r2 = .fz (keyD k) ∧ E F tx δ2 fun r3 δ3 => ∃ (d : PyData) (kvs : List (Key × PyData)), r3 = .fz d ∧ δ3[j]? = some (.od p kvs) ∧ kvs.length < 100000 ∧
      (∀ d', dlook kvs k = some d' → P (.fz d') δ3) ∧ (dlook kvs k = none → P (.fz d) (δ3.set j (.od p (dput kvs k d))))) : E F (tDSetd td ty tx) δ P := fun τ ε G H σ Q s q =>
  h τ ε G H σ _ s fun x r δ1 G1 H1 ⟨p, j, kvs0, hr, hj0, h1⟩ e1 s1 => by
    subst hr
    have hx : x = .ref p := s1.top
    subst hx
    obtain ⟨_, xs0, hxs0, _⟩ := od_at s1 hj0
    refine ⟨p, rfl, .inl ⟨xs0, .inl hxs0⟩, ?_⟩
    refine h1 _ _ G1 H1 σ _ s1 fun y r2 δ2 G2 H2 ⟨k, hr2, h2⟩ e2 s2 => ?_
    subst hr2
    refine h2 _ _ G2 H2 σ _ s2 fun z r3 δ3 G3 H3 ⟨d, kvs, hr3, hj, hl, h3, h4⟩ e3 s3 => ?_
    subst hr3
    obtain rfl := dp_key (fz_top s3.pop)
    obtain ⟨e4, xs, hxs, kd⟩ := od_at s3 hj
    have hv := fz_top s3
    have hl' := KD.len kd
    refine ⟨xs, k, hxs, rfl, Nat.lt_of_lt_of_le (show xs.length < 100000 by omega) (by decide), fun v hv' => ?_, fun hn => ?_⟩
    · cases q0 : dlook kvs k with
      | none => rw [KD.none kd q0] at hv'; cases hv'
      | some d0 =>
        obtain ⟨v', hv2, hd⟩ := KD.some kd q0
        rw [hv2] at hv'
        cases hv'
        exact q _ _ δ3 G3 H3 (h3 d0 q0) (Ex.trans e1 (Ex.trans e2 e3)) (s3.pop.pop.pop.push rfl hd)
    · cases q0 : dlook kvs k with
      | some d0 =>
        obtain ⟨v', hv2, hd⟩ := KD.some kd q0
        rw [hv2] at hn
        cases hn
      | none =>
        have s4 := s3.pop.pop.pop.mut (o := .dK (putK xs k z)) (new := .od p (dput kvs k d)) hj rfl rfl fun ov e => by
          rw [e4] at e
          cases e
          exact ⟨rfl, _, upd_same, KD.put hv kd⟩
        exact q _ _ _ G3 _ (h4 q0) (Ex.trans e1 (Ex.trans e2 e3)) (s4.push rfl hv)
end
end SL

/-! isinstance(an instance, its class). -/
namespace L2
open PySem PySem.Spec PyProof.Rows
def rIsC (C : Addr) : List V → Hp → VK → Prop := fun xs H Q => ∃ a dx fs, xs = [.ref a, .ref C] ∧ H a = some (.ins C dx fs) ∧ Q (.bl true) H
theorem call_isC' {X : Cx} {K : PySem.W.Frag} {C : Addr} (c : C8.InsC K C) (hK : X.K = K := by rfl) : CallR X (.builtin "isinstance") (rIsC C) := by
  subst hK
  exact C8.call_isC c
end L2
namespace SL
open PySem L2 Evl
def insB (K : PySem.W.Frag) (x : Str) : Bool := He.eqO (PySem.W.findIn K (.ref (He.ga K x)) "__class__") (some (some (.builtin "object.__class__"))) && (He.eqO (PySem.W.specialIn K (.builtin "object.__class__") "__get__") (some (some (.builtin "getset_descriptor.__get__"))) &&
  (decide (PySem.W.takesIn K (.builtin "object.__class__") = some true) && (decide (PySem.W.mroIn K (He.ga K x) (.type "object") = some true) && decide (PySem.W.kitOne K (.ref (He.ga K x)) (.ref (He.ga K x)) = some true))))
theorem insB_ok {K : PySem.W.Frag} {x : Str} (c : Cls K (He.ga K x)) (h : insB K x = true) : C8.InsC K (He.ga K x) := by
  obtain ⟨h1, h⟩ := Bool.and_eq_true_iff.mp h
  obtain ⟨h2, h⟩ := Bool.and_eq_true_iff.mp h
  obtain ⟨h3, h⟩ := Bool.and_eq_true_iff.mp h
  obtain ⟨h4, h5⟩ := Bool.and_eq_true_iff.mp h
  exact ⟨c, He.eqO_ok h1, He.eqO_ok h2, of_decide_eq_true h3, of_decide_eq_true h4, of_decide_eq_true h5⟩
section
variable {F : Fm} {δ : List SD} {P : PV} {te : TE} {C : Addr}
theorem ev_isC (h : E F te δ fun r δ1 => ∃ (p dx : Addr) (fs : List (Str × SD)) (m : List (Addr × DD)) (j : Nat), r = .al p ∧ δ1[j]? = some (.ow (insO F.K p dx C fs m)) ∧ P (.fz (.bool true)) δ1) : E F (tCB (rIsC C) (tCons te (tCons (tC (.ref C)) tNil))) δ P := fun τ ε G H σ Q s q =>
  h τ ε G H σ _ s fun x r δ1 G1 H1 ⟨p, dx, fs, m, j, hr, hj, k⟩ e1 s1 => by
    subst hr
    have hx : x = .ref p := s1.top
    subst hx
    obtain ⟨_, _, ⟨xs, h3, _⟩, _⟩ := s1.ins_at hj
    exact ⟨p, dx, xs, rfl, h3, q _ _ δ1 G1 H1 k e1 (s1.pop.push rfl (.bl _))⟩
end
end SL

set_option maxHeartbeats 4000000
/-! tuple * number (from 1 on), tuple + tuple, a new dict with tuple keys; two promises of one def. -/
namespace L2
open PySem PySem.Spec PyProof.Rows
theorem tuple_mul1 (l : Addr) (items : Array Value) (n : Nat) (dd : Option Addr) (sl : Array (Option Value)) (u : Tok) :
    Meets (Builtin.«tuple.__mul__» ⟨[.ref l, .int 1 u], []⟩) (fun _ R s => s.heap.get? l = some { cls := .type "tuple", dict := dd, data := .seq items n, slots := sl } ∧ R (.ok (.ret (Value.ref l))) s) :=
  .of_wp fun prog w A R s h => by
    obtain ⟨hp, g, d, tk, os⟩ := s
    obtain ⟨hl, h⟩ := h
    have f1 := AutoSeq1.idx_int
    have c1 : (items.isEmpty || (1 : Int) == 1) = true := by simp
    wp_walk using wpAny_loadPart' hl
    repeat (first
      | (refine wpAny_ite_false (decide_eq_false (by decide)) ?_; wp_walk using wpAny_loadPart' hl)
      | (refine wpAny_ite_true (decide_eq_true c1) ?_; wp_walk using wpAny_loadPart' hl))
    exact ⟨_, rfl, h⟩
def rRepU (K : PySem.W.Frag) : R2 := fun x y H Q => ∃ l k xs, x = .ref l ∧ y = .int k ∧ SqT K H l xs ∧ xs ≠ [] ∧ 1 ≤ k ∧ k ≤ 1000 ∧ xs.length ≤ 1000 ∧ (k = 1 → Q (.ref l) H) ∧ (2 ≤ k → ∀ p, H p = none → Q (.ref p) (upd H p (.tup (List.replicate k.toNat xs).flatten)))
section
variable {X : Cx}
theorem op_repU : OpR X (binaryOp .Mult) (rRepU X.K) := by
  intro pins s σ H x y v u Q I rx ry h
  obtain ⟨l, k, xs, rfl, rfl, hT, hne, h1, h2, hz, q1, q2⟩ := h
  by_cases hk : k = 1
  · subst hk
    cases rx
    obtain ⟨t, rfl⟩ := ry
    have hT' := hT
    obtain ⟨its, r, ⟨⟨cls, dd, data, sl⟩, ho, hc, n, hd⟩, hs⟩ := I.tuple hT
    simp only at hc hd
    subst hc hd
    refine wpAny_binaryOp_repeat_ref (T := "tuple") (U := "int") (by decide) ⟨_, ho, rfl⟩ (fun s' => typeIs_int s' 1 t) noFill_tuple_mul F.fills_int_mul F.slot_int_rmul repeat_tuple F.slot_int_index.lookup
      (call_meets F.slot_int_rmul (typeIs_int s 1 t) F.entry_int_rmul (F.args_int_rmul_2 _ _) (int_rmul_tuple 1 t l its.toArray n dd sl)
        ⟨ho, rfl, ⟨_, ho, rfl⟩, call_meets F.slot_tuple_mul ⟨_, ho, rfl⟩ F.entry_tuple_mul (F.args_tuple_mul_2 _ _) (tuple_mul1 l its.toArray n dd sl t) ⟨ho, ?_⟩⟩)
    exact ⟨.ref l, H, I, rfl, q1 rfl⟩
  · exact op_repT pins s σ H _ _ v u Q I rx ry ⟨l, k, xs, rfl, rfl, hT, hne, by omega, h2, hz, q2 (by omega)⟩
theorem op_repU' (K : PySem.W.Frag) (hK : X.K = K := by rfl) : OpR X (binaryOp .Mult) (rRepU K) := hK ▸ op_repU
end
end L2
namespace SL
open PySem L2 Evl
section
variable {F : Fm} {δ : List SD} {P : PV}
theorem o_repT {ds : List PyData} {n : Nat} (h0 : ds ≠ []) (hl : ds.length ≤ 1000) (h1 : 1 ≤ n) (h2 : n ≤ 1000) (k : P (.fz (.tuple (List.replicate n ds).flatten)) δ) : O2 F (rRepU F.K) (.fz (.tuple ds)) (.fz (.int (n : Int))) δ P := fun τ ε G H σ Q x y s q => by
  obtain ⟨a, xs, rfl, sq, da⟩ := dp_tup (fz_top2 s)
  obtain rfl := dp_int (fz_top s)
  have hlen := DpAll.len da
  refine ⟨a, (n : Int), xs, rfl, rfl, ex_t s.w.gh sq, fun z => h0 (by rw [z] at da; cases da; rfl), by omega, by omega, by omega, fun hn => ?_, fun hn p hp => ?_⟩
  · have hn1 : n = 1 := by omega
    subst hn1
    have e : (List.replicate 1 ds).flatten = ds := by simp
    rw [e] at k
    exact q _ _ δ G H k (Ex.refl _) (s.pop2.push rfl (fz_top2 s))
  · have ex := Ex.new (o := HO.tup (List.replicate (n : Int).toNat xs).flatten) (s.w.gnone hp)
    have s2 := s.pop2.newF (o := .tup (List.replicate (n : Int).toNat xs).flatten) hp
    have rep : ∀ m : Nat, DpAll F.K G (List.replicate m xs).flatten (List.replicate m ds).flatten := fun m => by
      induction m with
      | zero => exact .nil
      | succ m ih => rw [List.replicate_succ, List.replicate_succ, List.flatten_cons, List.flatten_cons]; exact DpAll.app da ih
    exact q _ _ δ _ _ k ex (s2.push rfl (Dp.tup upd_same (dpAllMono ex _ _ (by rw [Int.toNat_natCast]; exact rep n))))
theorem o_catT {ds es : List PyData} (hl : ds.length + es.length ≤ 1000000) (k : P (.fz (.tuple (ds ++ es))) δ) : O2 F (rCatA F.K) (.fz (.tuple ds)) (.fz (.tuple es)) δ P := fun τ ε G H σ Q x y s q => by
  obtain ⟨a, xs, rfl, sq, da⟩ := dp_tup (fz_top2 s)
  obtain ⟨b, ys, rfl, sq2, db⟩ := dp_tup (fz_top s)
  have h1 := DpAll.len da
  have h2 := DpAll.len db
  refine ⟨a, b, xs, ys, rfl, rfl, ex_t s.w.gh sq, ex_t s.w.gh sq2, Nat.le_trans (show xs.length + ys.length ≤ 1000000 by omega) (by decide), fun hx => ?_, fun _ hy => ?_, fun _ _ p hp => ?_⟩
  · subst hx
    cases da
    exact q _ _ δ G H k (Ex.refl _) (s.pop2.push rfl (fz_top s))
  · subst hy
    cases db
    rw [List.append_nil] at k
    exact q _ _ δ G H k (Ex.refl _) (s.pop2.push rfl (fz_top2 s))
  · have ex := Ex.new (o := HO.tup (xs ++ ys)) (s.w.gnone hp)
    exact q _ _ δ _ _ k ex ((s.pop2.newF (o := .tup (xs ++ ys)) hp).push rfl (Dp.tup upd_same (dpAllMono ex _ _ (DpAll.app da db))))
theorem ev_dnewT (k : ∀ p, p ∉ F.io → P (.ot p []) δ) : E F tDNewT δ P := fun τ ε G H σ Q s q => fun p hp =>
  q _ _ δ G _ (k p (s.fresh_io hp)) (Ex.refl _) (s.newO hp rfl ⟨rfl, _, upd_same, .nil⟩)
end
/-- one of two promises -/
def orF (W1 W2 : WF) : WF := fun as post => W1 as post ∨ W2 as post
def orO (W1 W2 : WO) : WO := fun r0 as post => W1 r0 as post ∨ W2 r0 as post
section
variable {P : Program} {w : World} {K : PySem.W.Frag} {mg : Str → Option Value} {base : Heap} {CX : CXT} {k : Nat} {f : Addr} {fd : FuncData} {ps : List Str}
theorem fnok_or {sp sp1 sp2 : Sp} (h : ∀ vs H Q E, sp vs H Q E → sp1 vs H Q E ∨ sp2 vs H Q E) (h1 : FnOk P w K mg base CX k f fd ps sp1) (h2 : FnOk P w K mg base CX k f fd ps sp2) : FnOk P w K mg base CX k f fd ps sp where
  len := fun vs H Q E q => by
    rcases h vs H Q E q with z | z
    · exact h1.len vs H Q E z
    · exact h2.len vs H Q E z
  run := fun A outer s H args us vs Q E hr he hb hv hs => by
    rcases h vs H Q E hs with z | z
    · exact h1.run A outer s H args us vs Q E hr he hb hv z
    · exact h2.run A outer s H args us vs Q E hr he hb hv z
theorem fnok_orF {W1 W2 : WF} (h1 : FnOk P w K mg base CX k f fd ps (SpF K W1)) (h2 : FnOk P w K mg base CX k f fd ps (SpF K W2)) : FnOk P w K mg base CX k f fd ps (SpF K (orF W1 W2)) := fnok_or (fun vs H Q E h => by
  obtain ⟨G, ds, post, a, b, c, d⟩ := h
  rcases c with c | c
  · exact .inl ⟨G, ds, post, a, b, c, d⟩
  · exact .inr ⟨G, ds, post, a, b, c, d⟩) h1 h2
theorem fnok_orO {W1 W2 : WO} (h1 : FnOk P w K mg base CX k f fd ps (SpO K W1)) (h2 : FnOk P w K mg base CX k f fd ps (SpO K W2)) : FnOk P w K mg base CX k f fd ps (SpO K (orO W1 W2)) := fnok_or (fun vs H Q E h => by
  obtain ⟨G, v0, ws, r0, as, post, a1, a2, a3, a4, a5, a6, c, d⟩ := h
  rcases c with c | c
  · exact .inl ⟨G, v0, ws, r0, as, post, a1, a2, a3, a4, a5, a6, c, d⟩
  · exact .inr ⟨G, v0, ws, r0, as, post, a1, a2, a3, a4, a5, a6, c, d⟩) h1 h2
end
end SL

/-! equality and shape of data that stand for plain things. -/
namespace SL
open PySem
section
variable {α : Type} [DecidableEq α]
/-- told by f: equal just if they are, of a depth at most k -/
structure Enc (f : α → PyData) (k : Nat) : Prop where
  eq : ∀ x y, PyData.eqv (f x) (f y) = decide (x = y)
  lay : ∀ x, (f x).canLay0 = true
  dep : ∀ x, (f x).depth ≤ k
theorem eqvAll_map {f : α → PyData} {k : Nat} (h : Enc f k) : ∀ (a b : List α), PyData.eqvAll (a.map f) (b.map f) = decide (a = b)
  | [], [] => by simp [PyData.eqvAll]
  | [], _ :: _ => by simp [PyData.eqvAll]
  | _ :: _, [] => by simp [PyData.eqvAll]
  | x :: a, y :: b => by
    simp only [List.map_cons, PyData.eqvAll, h.eq, eqvAll_map h a b]
    by_cases h1 : x = y <;> by_cases h2 : a = b <;> simp [h1, h2]
theorem Enc.list {f : α → PyData} {k : Nat} (h : Enc f k) : Enc (fun l : List α => PyData.list (l.map f)) (k + 1) where
  eq := fun a b => by
    show PyData.eqv (.list (a.map f)) (.list (b.map f)) = _
    simp only [PyData.eqv]
    exact eqvAll_map h a b
  lay := fun l => lay_list fun d hd => by obtain ⟨x, _, rfl⟩ := List.mem_map.mp hd; exact h.lay x
  dep := fun l => dep_list fun d hd => by obtain ⟨x, _, rfl⟩ := List.mem_map.mp hd; exact h.dep x
theorem Enc.tuple {f : α → PyData} {k : Nat} (h : Enc f k) : Enc (fun l : List α => PyData.tuple (l.map f)) (k + 1) where
  eq := fun a b => by
    show PyData.eqv (.tuple (a.map f)) (.tuple (b.map f)) = _
    simp only [PyData.eqv]
    exact eqvAll_map h a b
  lay := fun l => lay_tup fun d hd => by obtain ⟨x, _, rfl⟩ := List.mem_map.mp hd; exact h.lay x
  dep := fun l => dep_tup fun d hd => by obtain ⟨x, _, rfl⟩ := List.mem_map.mp hd; exact h.dep x
theorem Enc.shaped {f : α → PyData} {k : Nat} (h : Enc f k) (hk : k ≤ 60) (x : α) : SeqAt.shaped (f x) = true := shaped_of (h.lay x) (Nat.le_trans (h.dep x) hk)
end
theorem encInt : Enc PyData.int 0 where
  eq := fun a b => by simp only [PyData.eqv]; by_cases h : a = b <;> simp [h]
  lay := lay_int
  dep := dep_int
theorem encNat : Enc (fun n : Nat => PyData.int (n : Int)) 0 where
  eq := fun a b => by
    rw [encInt.eq]
    by_cases h : a = b
    · simp [h]
    · rw [decide_eq_false h, decide_eq_false (by omega)]
  lay := fun _ => lay_int _
  dep := fun _ => dep_int _
theorem encBool : Enc PyData.bool 0 where
  eq := fun a b => by cases a <;> cases b <;> simp [PyData.eqv]
  lay := fun _ => by simp [PyData.canLay0]
  dep := fun _ => by simp [PyData.depth]
end SL

/-! a call whose first argument is a new list that no name holds. -/
namespace SL
open PySem L2 Evl
section
variable {F : Fm} {δ : List SD} {P : PV} {tr : TA}
theorem ev_callMT {W : WM} {X0 : XK} (h : EA F tr δ fun rs δ1 => ∃ p as ds0, rs = .ol p ds0 :: as.map SD.fz ∧ W ds0 as fun r ds1 => (∀ a ∈ r.fp, a ∉ F.io) → P r δ1) : E F (tCall (SpM F.K W) [] X0 tr) δ P := fun τ ε G H σ Q s q =>
  h τ ε G H σ _ s fun vs rs δ1 G1 H1 ⟨p, as, ds0, hr, k⟩ e1 el s1 => by
    subst hr
    rw [List.append_nil]
    match vs, el, s1 with
    | w :: ws, el, s1 =>
      have sp := Oks.split (τ := ws.map some) (ε := as.map SD.fz) (by simpa using el) s1.t.2
      obtain ⟨hw', xs, hx, hd⟩ := s1.t.1
      have hw : w = .ref p := hw'
      subst hw
      have hf : fps (as.map SD.fz ++ ε) = fps ε := by rw [fps_app, fps_fz]; rfl
      have w1 : Wd F G1 H1 (p :: (fps (as.map SD.fz ++ ε) ++ fps δ1)) := s1.w
      rw [hf] at w1
      have w2 : Wd F G1 H1 (fps ε ++ (p :: fps δ1)) := w1.perm List.perm_middle
      have s2 : S2 F G1 H1 τ ε (some (.ref p) :: σ) (.ol p ds0 :: δ1) := ⟨w2, sp.2, ⟨⟨rfl, xs, hx, hd⟩, s1.s⟩⟩
      have gp : G1 p = none := (w1.own p List.mem_cons_self).1
      refine ⟨G1, p, xs, ds0, ws, as, _, rfl, s1.w.gh, gp, hx, hd, oks_fz sp.1, k, fun r ds1 pp v G' H' c => ?_⟩
      have s3 := s2.callM (j := 0) rfl c
      have s4 : S2 F G' H' (some v :: τ) (r :: ε) σ δ1 := ⟨s3.w.sub (List.Sublist.append_left (List.sublist_append_right _ _) _), s3.t, s3.s.2⟩
      refine q v r _ G' H' (pp fun a ha hi => ?_) (Ex.trans e1 c.w.g0) s4
      obtain ⟨o, e⟩ := s1.w.io a hi
      rcases c.w.of a (by simp [fps, ha]) with z | z
      · have n2 := c.w.nd
        have n3 : (r.fp ++ [p]).Nodup := by simpa [fps, SD.fp] using n2
        have z' : a = p := by simpa using z
        exact (List.nodup_append.mp n3).2.2 a ha p (by simp) z'
      · rw [show H1 a = none from z] at e; cases e
end
end SL

set_option maxHeartbeats 4000000
/-! a tuple that holds an owned thing and a frozen one; a list as what names are given; one of two readings; tuple * number up to 100000. -/
namespace L2
open PySem PySem.Spec PyProof.Rows
def tOrE (a b : TE) : TE := fun σ H Q => a σ H Q ∨ b σ H Q
def tOrS (a b : TS) : TS := fun D σ H => a D σ H ∨ b D σ H
section
variable {X : Cx}
theorem pe_or2 {e : Expr} {a b : TE} (h1 : PE X e a) (h2 : PE X e b) : PE X e (tOrE a b) := ⟨fun pins s σ H Q I h => by
  rcases h with h | h
  · exact h1.run pins s σ H Q I h
  · exact h2.run pins s σ H Q I h⟩
theorem ps_or2 {st : Stmt} {a b : TS} (h1 : PS X st a) (h2 : PS X st b) : PS X st (tOrS a b) := ⟨fun pins s σ H D I h => by
  rcases h with h | h
  · exact h1.run pins s σ H D I h
  · exact h2.run pins s σ H D I h⟩
theorem pg_lst' (K : PySem.W.Frag) {es : List Expr} {k : Nat} {t : TGs} {n : Nat} {pos : Pos} (hc : X.calm = true) (h : PGs X es t) (hK : X.K = K := by rfl)
    (hn : (assignEach es X.env).length = n := by rfl) (hst : (assignEach es X.env).findIdx? (·.1) = none := by rfl) : PG X (.Tuple es k pos) (L2.gLst K n t) := by
  subst hK
  exact L2.pg_lst hc h hn hst
def rRepV (K : PySem.W.Frag) : R2 := fun x y H Q => ∃ l k xs, x = .ref l ∧ y = .int k ∧ SqT K H l xs ∧ xs ≠ [] ∧ 1 ≤ k ∧ k ≤ 100000 ∧ xs.length ≤ 10 ∧ (k = 1 → Q (.ref l) H) ∧ (2 ≤ k → ∀ p, H p = none → Q (.ref p) (upd H p (.tup (List.replicate k.toNat xs).flatten)))
theorem op_repV : OpR X (binaryOp .Mult) (rRepV X.K) := by
  intro pins s σ H x y v u Q I rx ry h
  obtain ⟨l, k, xs, rfl, rfl, hT, hne, h1, h2, hz, q1, q2⟩ := h
  by_cases hk : k = 1
  · subst hk
    exact op_repU pins s σ H _ _ v u Q I rx ry ⟨l, 1, xs, rfl, rfl, hT, hne, by omega, by omega, by omega, q1, fun z => by omega⟩
  · cases rx
    obtain ⟨t, rfl⟩ := ry
    obtain ⟨its, r, ⟨⟨cls, dd, data, sl⟩, ho, hc, n, hd⟩, hs⟩ := I.tuple hT
    simp only at hc hd
    subst hc hd
    have hle : its.length = xs.length := r.length.symm
    have hn : its ≠ [] := fun e => hne (by
      rw [e] at hle
      exact List.eq_nil_of_length_eq_zero hle.symm)
    have hi : its.toArray.isEmpty = false := by
      cases its with
      | nil => exact absurd rfl hn
      | cons a b => rfl
    have hsz0 : its.toArray.size = xs.length := by rw [List.size_toArray, hle]
    have hm : ((its.toArray.size : Nat) : Int) * k ≤ 1000000 := by
      rw [hsz0]
      have a1 : ((xs.length : Nat) : Int) * k ≤ 10 * k := Int.mul_le_mul_of_nonneg_right (by omega) (by omega)
      omega
    have flen : (List.replicate k.toNat its).flatten.length ≤ sizeLine := by
      rw [PyProof.Rows.lm_len_rep_flat, hle, sizeLine_eq]
      have a1 : k.toNat * xs.length ≤ 100000 * 10 := Nat.mul_le_mul (by omega) hz
      omega
    have c0 : (decide (k < -(2 ^ 63)) || decide (k ≥ 2 ^ 63)) = false := by
      rw [decide_eq_false (by omega), decide_eq_false (by omega)] <;> rfl
    have c1 : (its.toArray.isEmpty || k == 1) = false := by
      rw [hi, Bool.false_or]
      exact beq_eq_false_iff_ne.mpr (by omega)
    have c2 : (decide (k ≤ 0) || its.toArray.isEmpty) = false := by
      rw [hi, Bool.or_false]
      exact decide_eq_false (by omega)
    have c4 : Builtin.Tuple.tupleTooMany (((its.toArray.size : Nat) : Int) * k) = false := by
      unfold Builtin.Tuple.tupleTooMany
      rw [sizeLine_eq]
      exact decide_eq_false (by omega)
    refine wpAny_binaryOp_repeat_ref (T := "tuple") (U := "int") (by decide) ⟨_, ho, rfl⟩ (fun s' => typeIs_int s' k t) noFill_tuple_mul F.fills_int_mul F.slot_int_rmul repeat_tuple F.slot_int_index.lookup
      (call_meets F.slot_int_rmul (typeIs_int s k t) F.entry_int_rmul (F.args_int_rmul_2 _ _) (int_rmul_tuple k t l its.toArray n dd sl)
        ⟨ho, rfl, ⟨_, ho, rfl⟩, call_meets F.slot_tuple_mul ⟨_, ho, rfl⟩ F.entry_tuple_mul (F.args_tuple_mul_2 _ _) (tuple_mulW l its.toArray n dd sl k t c0 c1 c2 (by omega) c4 (by rw [size_rep, List.size_toArray]; exact flen)) ⟨ho, ?_⟩⟩)
    rw [size_rep]
    refine ⟨.ref s.heap.objs.size, _, I.laid (t' := s.toks) (o := .tup (List.replicate k.toNat xs).flatten) (fun b ob q => Heap.get?_push_of_some _ q) (Nat.le_refl _) ?_, rfl, q2 (by omega) _ (I.hok.fresh (Nat.le_refl _))⟩
    exact ⟨by rw [PyProof.Rows.lm_len_rep_flat, sizeLine_eq]; have a1 : k.toNat * xs.length ≤ 100000 * 10 := Nat.mul_le_mul (by omega) hz; omega, _, r.rep k.toNat, IsTup.new _ _⟩
theorem op_repV' (K : PySem.W.Frag) (hK : X.K = K := by rfl) : OpR X (binaryOp .Mult) (rRepV K) := hK ▸ op_repV
end
end L2
namespace SL
open PySem L2 Evl
/-- a tuple of an owned thing and frozen data -/
def tupO (K : PySem.W.Frag) (p : Addr) (r : SD) (d : PyData) : Ow where
  fp := p :: r.fp
  R := fun G H v => v = .ref p ∧ ∃ v1 v2, H p = some (.tup [v1, v2]) ∧ SD.ok K G H (some v1) r ∧ Dp K G v2 d
  loc := fun {G G' H H' v} e k ⟨h1, v1, v2, h2, h3, h4⟩ => ⟨h1, v1, v2, by rw [k p (by simp)]; exact h2, ok_mono e (fun a ha => k a (by simp [ha])) h3, dpMono e _ _ h4⟩
section
variable {F F' : Fm} {G G' H H' : Hp} {τ σ : List (Option V)} {ε δ : List SD} {P : PV} {te ta tb : TE} {tr : TA} {ts tw : TS} {D : Ends} {N : St → Hp → Prop}
theorem ev_or1 (h : E F ta δ P) : E F (tOrE ta tb) δ P := fun τ ε G H σ Q s q => .inl (h τ ε G H σ Q s q)
theorem ev_or2 (h : E F tb δ P) : E F (tOrE ta tb) δ P := fun τ ε G H σ Q s q => .inr (h τ ε G H σ Q s q)
theorem rn_or1 (h : Rn F ts δ D) : Rn F (tOrS ts tw) δ D := fun G H σ s => .inl (h G H σ s)
theorem rn_or2 (h : Rn F tw δ D) : Rn F (tOrS ts tw) δ D := fun G H σ s => .inr (h G H σ s)
theorem ev_tup2 (h : EA F tr δ fun rs δ1 => ∃ r d, rs = [r, .fz d] ∧ ∀ p, p ∉ F.io → P (.ow (tupO F.K p r d)) δ1) : E F (tTup tr) δ P := fun τ ε G H σ Q s q =>
  h τ ε G H σ _ s fun vs rs δ1 G1 H1 ⟨r, d, hr, k⟩ e1 el s1 => by
    subst hr
    obtain ⟨v1, v2, rfl⟩ := two_of el
    refine ⟨by show 2 ≤ sizeLine; decide, fun p hp => ?_⟩
    have hd : Dp F.K G1 v2 d := s1.t.2.1
    have ho : SD.ok F.K G1 H1 (some v1) r := s1.t.1
    have w0 : Wd F G1 H1 ((r.fp ++ ([] ++ fps ε)) ++ fps δ1) := s1.w
    have w1 := w0.newO (o := .tup [v1, v2]) hp
    have hnot := s1.w.pnotin hp
    have kp : ∀ a ∈ (r.fp ++ ([] ++ fps ε)) ++ fps δ1, upd H1 p (.tup [v1, v2]) a = H1 a := fun a ha => upd_ne fun z => hnot (z ▸ ha)
    refine q _ _ δ1 G1 _ (k p (s1.fresh_io hp)) e1 ⟨?_, ⟨⟨rfl, v1, v2, upd_same, ok_mono (Ex.refl _) (fun a ha => kp a (by simp [ha])) ho, hd⟩, oks_mono (Ex.refl _) (fun a ha => kp a (by simp [ha])) s1.t.2.2⟩, oks_mono (Ex.refl _) (fun a ha => kp a (by simp [ha])) s1.s⟩
    show Wd F G1 _ (((p :: r.fp) ++ fps ε) ++ fps δ1)
    simpa using w1
/-- what the tuple holds -/
theorem S2.untup {p : Addr} {r : SD} {d : PyData} {v : V} (s : S2 F G H (some v :: τ) (.ow (tupO F.K p r d) :: ε) σ δ) : ∃ v1 v2, v = .ref p ∧ SqT F.K H p [v1, v2] ∧ Dp F.K G v2 d ∧ S2 F G H (some v1 :: τ) (r :: ε) σ δ := by
  obtain ⟨rfl, v1, v2, h2, h3, h4⟩ := s.top
  refine ⟨v1, v2, rfl, .inl (.inl h2), h4, ⟨?_, ⟨h3, s.t.2⟩, s.s⟩⟩
  have w : Wd F G H (((p :: r.fp) ++ fps ε) ++ fps δ) := s.w
  refine w.sub ?_
  show ((r.fp ++ fps ε) ++ fps δ).Sublist (p :: ((r.fp ++ fps ε) ++ fps δ))
  exact List.sublist_cons_self _ _
theorem ga_tup2 {i j : Nat} {p : Addr} {r : SD} {d : PyData} {o1 o2 : SD} (hi : δ[i]? = some o1) (hj : (δ.set i r)[j]? = some o2) (h : Nx F N ((δ.set i r).set j (.fz d))) : Ga F (gTup F.K 2 (gCons (gName i) (gCons (gName j) gNil))) (.ow (tupO F.K p r d)) δ N := fun G H σ v s => by
  obtain ⟨v1, v2, rfl, sq, hd, s1⟩ := s.untup
  have s2 := s1.store hi
  have s3 := (s2.push (sd := .fz d) rfl hd).store hj
  exact ⟨p, [v1, v2], rfl, sq, rfl, v1, [v2], rfl, v2, [], rfl, rfl, h G H _ s3⟩
theorem o_ixO0 {p : Addr} {r : SD} {d : PyData} (k : P r δ) : O2 F (rIxT F.K) (.ow (tupO F.K p r d)) (.fz (.int 0)) δ P := fun τ ε G H σ Q x y s q => by
  obtain rfl := dp_int (fz_top s)
  obtain ⟨v1, v2, rfl, sq, hd, s1⟩ := s.pop.untup
  exact ⟨p, [v1, v2], 0, v1, rfl, rfl, sq, rfl, q _ _ δ G H k (Ex.refl _) s1⟩
/-- a, b = a list -/
theorem ga_lst {n : Nat} {u : TGs} {r : SD} {ds : List PyData} (hl : LSrc δ r ds) (hn : ds.length = n) (h : Gas F u ds δ N) : Ga F (L2.gLst F.K n u) r δ N := fun G H σ v s => by
  obtain ⟨a, xs, rfl, sq, da⟩ := s.lsrc s.top hl
  exact ⟨a, xs, rfl, sq, by rw [DpAll.len da, hn], h G H σ xs s.pop da⟩
theorem o_repV {ds : List PyData} {n : Nat} (h0 : ds ≠ []) (hl : ds.length ≤ 10) (h1 : 1 ≤ n) (h2 : n ≤ 100000) (k : P (.fz (.tuple (List.replicate n ds).flatten)) δ) : O2 F (rRepV F.K) (.fz (.tuple ds)) (.fz (.int (n : Int))) δ P := fun τ ε G H σ Q x y s q => by
  obtain ⟨a, xs, rfl, sq, da⟩ := dp_tup (fz_top2 s)
  obtain rfl := dp_int (fz_top s)
  have hlen := DpAll.len da
  refine ⟨a, (n : Int), xs, rfl, rfl, ex_t s.w.gh sq, fun z => h0 (by rw [z] at da; cases da; rfl), by omega, by omega, by omega, fun hn => ?_, fun hn p hp => ?_⟩
  · have hn1 : n = 1 := by omega
    subst hn1
    have e : (List.replicate 1 ds).flatten = ds := by simp
    rw [e] at k
    exact q _ _ δ G H k (Ex.refl _) (s.pop2.push rfl (fz_top2 s))
  · have ex := Ex.new (o := HO.tup (List.replicate (n : Int).toNat xs).flatten) (s.w.gnone hp)
    have s2 := s.pop2.newF (o := .tup (List.replicate (n : Int).toNat xs).flatten) hp
    have rep : ∀ m : Nat, DpAll F.K G (List.replicate m xs).flatten (List.replicate m ds).flatten := fun m => by
      induction m with
      | zero => exact .nil
      | succ m ih => rw [List.replicate_succ, List.replicate_succ, List.flatten_cons, List.flatten_cons]; exact DpAll.app da ih
    exact q _ _ δ _ _ k ex (s2.push rfl (Dp.tup upd_same (dpAllMono ex _ _ (by rw [Int.toNat_natCast]; exact rep n))))
end
end SL

/-! SLq: dicts whose keys are numbers or texts: {k: v}, dict(pairs), d.update(other), keys in a comprehension, sorted by a key. -/
namespace L2
open PySem PySem.Spec PyProof.Rows
/-- d.update(other) -/
def rDUpd : V → List V → Hp → VK → Prop := fun x xs H Q => ∃ (p q : Addr) (kvs more : List (Key × V)), x = .ref p ∧ xs = [.ref q] ∧ p ≠ q ∧ H p = some (.dK kvs) ∧ H q = some (.dK more) ∧ kvs.length + more.length ≤ sizeLine ∧ Q .non (upd H p (.dK (mergeK kvs more)))
theorem mt_dupd {X : Cx} : MtR X "dict.update" rDUpd := by
  intro pins s σ H x vs v us Q I rx rv h
  obtain ⟨p, q, kvs, more, rfl, rfl, hne, hp, hq, hz, k⟩ := h
  obtain rfl : v = Value.ref p := rx
  obtain ⟨u, rfl, ru⟩ := vals1 rv
  obtain rfl : u = Value.ref q := ru
  obtain ⟨z1, hd1, vs1, rel1, dd1⟩ := dk_of I.hok hp
  obtain ⟨z2, hd2, vs2, rel2, dd2⟩ := dk_of I.hok hq
  have l1 : kvs.length = vs1.length := Paired.length rel1
  have l2 : more.length = vs2.length := Paired.length rel2
  refine call_meetsIn PySem.F.slot_dict_update dd1.typeIs PySem.F.entry_dict_update (PySem.F.args_dict_update_2 _ _) (meets_dict_update (mixKind X.prog X.w) p q hne hd2) ⟨vs1, vs2, dd1, dd2, by omega, fun h' dd' _ hs => ?_⟩
  have he : ∃ q, h'.get? p = some q := let ⟨q, _, _, hq, _⟩ := dd'; ⟨q, hq⟩
  have hm := KV.merge rel2 rel1
  have hl : (mergeK kvs more).length ≤ sizeLine := by
    rw [Paired.length hm]
    exact Nat.le_trans (merged_length_le vs1 vs2) (by omega)
  exact ⟨.non, _, d_write (t' := s.toks) I (by rw [hp]; exact True.intro) hs he (dk_new hl hd1 hm dd'), rfl, k⟩
end L2
namespace SL
open PySem L2 Evl
section
variable {K : PySem.W.Frag} {F : Fm} {G G' H H' : Hp} {τ σ : List (Option V)} {ε δ : List SD} {v : V} {P : PV} {te ta tb td ty tv : TE} {tt : TT} {tr : TA}
/-- a dict that is only read for a while -/
def lockO (K : PySem.W.Frag) (od : Obj) (p : Addr) (xs : List (Key × V)) (kvs : List (Key × PyData)) : Ow where
  fp := [p]
  R := fun G H v => v = .ref p ∧ H p = some (.frz od (.dK xs)) ∧ KD K G xs kvs
  loc := fun e k ⟨h1, h2, h3⟩ => ⟨h1, by rw [k p (by simp)]; exact h2, h3.mono e⟩
theorem KD.keys {κ : Type} : ∀ {xs : List (κ × V)} {ks : List (κ × PyData)}, KD K G xs ks → xs.map (·.1) = ks.map (·.1)
  | _, _, .nil => rfl
  | _, _, .cons a b => by simp [KD.keys b]
theorem dp_ofKey (k : Key) : Dp K G (kV k) (keyD k) := by
  cases k with
  | inl i => exact .int i
  | inr x => exact .str x
theorem dpAll_ofKeys : ∀ (ks : List Key), DpAll K G (ks.map kV) (ks.map keyD)
  | [] => .nil
  | k :: ks => .cons (dp_ofKey k) (dpAll_ofKeys ks)
/-- sorted(d, key=f) -/
theorem ev_sortKD {W : WF} (h : EA F tr δ fun rs δ1 => ∃ (p : Addr) (j : Nat) (kvs : List (Key × PyData)) (kd : PyData → PyData), rs = [.al p] ∧ δ1[j]? = some (.od p kvs) ∧ (∀ kv ∈ kvs, W [keyD kv.1] fun r => r = .fz (kd (keyD kv.1))) ∧
      PySem.W.AllAlike (kvs.map fun kv => kd (keyD kv.1)) ∧ PySem.W.Sortable (kvs.map fun kv => kd (keyD kv.1)) ∧ (∀ kv ∈ kvs, (kd (keyD kv.1)).depth ≤ 60) ∧
      ∀ q, q ∉ F.io → P (.ol q ((kvs.map fun kv => keyD kv.1).mergeSort (PySem.W.dataLe false kd))) δ1) : E F (tSortK F.K W tr) δ P := fun τ ε G H σ Q s q =>
  h τ ε G H σ _ s fun vs rs δ1 G1 H1 ⟨p, j, kvs, kd, hr, hj, hW, hal, hsk, hdep, k⟩ e1 el s1 => by
    subst hr
    obtain ⟨x, rfl⟩ := one_of el
    have hx : x = .ref p := s1.top
    subst hx
    obtain ⟨ov, _, ok⟩ := s1.slot hj
    obtain ⟨w, rfl⟩ := sd_some (by intro z; cases z) ok
    obtain ⟨rfl, xs, hxs, hkd⟩ := ok
    have hk := hkd.keys
    have e1' : (xs.map fun kv => kV kv.1) = (kvs.map (·.1)).map kV := by rw [← hk, List.map_map]; rfl
    have e2' : (kvs.map fun kv => keyD kv.1) = (kvs.map (·.1)).map keyD := by rw [List.map_map]; rfl
    have e3' : (kvs.map fun kv => kd (keyD kv.1)) = (kvs.map fun kv => keyD kv.1).map kd := by rw [List.map_map]; rfl
    rw [e3'] at hal hsk
    refine ⟨.ref p, xs.map (fun kv => kV kv.1), G1, kvs.map (fun kv => keyD kv.1), kd, rfl, .inr ⟨p, xs, rfl, hxs, rfl⟩, s1.w.gh, ?_, fun d hd => ?_, hal, hsk, fun d hd => ?_, fun G' H' p' zs s2 hn hz => ?_⟩
    · rw [e1', e2']; exact dpAll_ofKeys _
    · obtain ⟨kv, h1, rfl⟩ := List.mem_map.mp hd
      exact hW kv h1
    · obtain ⟨kv, h1, rfl⟩ := List.mem_map.mp hd
      exact hdep kv h1
    · have hio : p' ∉ F.io := fun z => by
        obtain ⟨o, e⟩ := s1.w.io p' z
        rw [s2.w.fr p' o e (by simp)] at hn
        cases hn
      have c : S2 ⟨F.K, G1, H1, []⟩ G' (upd H' p' (.lst zs)) [some (.ref p')] [.ol p' ((kvs.map fun kv => keyD kv.1).mergeSort (PySem.W.dataLe false kd))] [] [] := s2.newO hn rfl ⟨rfl, zs, upd_same, hz⟩
      exact q _ _ _ G' _ (k p' hio) (Ex.trans e1 s2.w.g0) (S2.call s1.pop c)
/-- {k: v}, k a number or a text -/
theorem ev_disp1K (h : E F ty δ fun r δ1 => ∃ k : Key, r = .fz (keyD k) ∧ E F tv δ1 fun r2 δ2 => ∃ d, r2 = .fz d ∧ ∀ p, p ∉ F.io → P (.od p [(k, d)]) δ2) : E F (tDisp [(ty, tv)]) δ P := fun τ ε G H σ Q s q => by
  intro p hp
  have hio : p ∉ F.io := fun z => by
    obtain ⟨o, e⟩ := s.w.io p z
    rw [hp] at e; cases e
  have s0 : S2 F G (upd H p (.dK [])) (some (.ref p) :: τ) (.od p [] :: ε) σ δ := s.newO hp rfl ⟨rfl, [], upd_same, .nil⟩
  refine h _ _ G _ σ _ s0 fun y r δ1 G1 H1 ⟨k, hr, h1⟩ e1 s1 => ?_
  subst hr
  have hy := dp_key (fz_top s1)
  subst hy
  refine h1 _ _ G1 H1 σ _ s1 fun v r2 δ2 G2 H2 ⟨d, hr2, k2⟩ e2 s2 => ?_
  subst hr2
  have hv := fz_top s2
  have s3 := s2.pop.pop
  obtain ⟨_, xs, hxs, kd⟩ := s3.top
  cases kd
  refine ⟨hxs, [(k, v)], rfl, by show 1 ≤ 15; decide, ?_⟩
  exact q _ _ δ2 G2 _ (k2 p hio) (Ex.trans e1 e2) (s3.mutT (p := p) (o := .dK [(k, v)]) rfl rfl ⟨rfl, _, upd_same, .cons hv .nil⟩)
def dmerge (kvs more : List (Key × PyData)) : List (Key × PyData) := more.foldl (fun acc kv => dput acc kv.1 kv.2) kvs
theorem KD.merge : ∀ {ys : List (Key × V)} {js : List (Key × PyData)}, KD K G ys js → ∀ {xs : List (Key × V)} {ks : List (Key × PyData)}, KD K G xs ks → KD K G (mergeK xs ys) (dmerge ks js)
  | _, _, .nil, _, _, h => h
  | _, _, .cons a b, _, _, h => KD.merge b (KD.put a h)
/-- dict(a list of pairs) -/
def rDictP (K : PySem.W.Frag) : List V → Hp → VK → Prop := fun xs H Q => ∃ (a : Addr) (ps : List Addr) (kvs : List (Key × V)), xs = [.ref a] ∧ SqL K H a (ps.map V.ref) ∧ Paired (fun p kv => SqT K H p [kV kv.1, kv.2]) ps kvs ∧
    ∀ p, H p = none → Q (.ref p) (upd H p (.dK (mergeK [] kvs)))
theorem call_dictP' {X : Cx} (K : PySem.W.Frag) (hc : X.calm = true) (hK : X.K = K := by rfl) : CallR X (.type "dict") (rDictP K) := by
  subst hK
  exact call_dictP hc
theorem pairs_dp (e : Ex G H) : ∀ {xs : List V} {kvs : List (Key × PyData)}, DpAll K G xs (kvs.map fun kv => .tuple [keyD kv.1, kv.2]) → ∃ (ps : List Addr) (ys : List (Key × V)), xs = ps.map V.ref ∧ Paired (fun p (kv : Key × V) => SqT K H p [kV kv.1, kv.2]) ps ys ∧ KD K G ys kvs
  | [], [], _ => ⟨[], [], rfl, .nil, .nil⟩
  | [], _ :: _, h => by cases h
  | _ :: _, [], h => by cases h
  | x :: xs, kv :: kvs, h => by
    cases h with
    | cons a b =>
      obtain ⟨ps, ys, rfl, pr, kd⟩ := pairs_dp e b
      cases a with
      | tup hs da =>
        rename_i t us
        cases da with
        | cons d1 r1 =>
          cases r1 with
          | cons d2 r2 =>
            cases r2
            have := dp_key d1
            subst this
            exact ⟨_ :: ps, (kv.1, _) :: ys, rfl, .cons (SqT.of (e _ _ hs)) pr, .cons d2 kd⟩
theorem b_dictP {a : Addr} {kvs : List (Key × PyData)} (k : ∀ p, p ∉ F.io → P (.od p (dmerge [] kvs)) δ) : OA F (rDictP F.K) [.ol a (kvs.map fun kv => .tuple [keyD kv.1, kv.2])] δ P := fun τ ε G H σ Q vs el s q => by
  obtain ⟨x, rfl⟩ := one_of el
  obtain ⟨rfl, xs, hx, hd⟩ := s.top
  obtain ⟨ps, ys, rfl, pr, kd⟩ := pairs_dp s.w.gh hd
  refine ⟨a, ps, ys, rfl, SqL.of hx, pr, fun p hp => ?_⟩
  have hio : p ∉ F.io := fun z => by
    obtain ⟨o, e⟩ := s.w.io p z
    rw [hp] at e; cases e
  exact q _ _ δ G _ (k p hio) (Ex.refl _) (s.pop.newO hp rfl ⟨rfl, _, upd_same, KD.merge kd .nil⟩)
/-- d.update(other), other a new dict -/
theorem ev_dupd (h : E F ta δ fun r δ1 => ∃ p j kvs0, r = .al p ∧ δ1[j]? = some (.od p kvs0) ∧ E F te δ1 fun r2 δ2 => ∃ q more kvs, r2 = .od q more ∧ δ2[j]? = some (.od p kvs) ∧ kvs.length + more.length < 1000000 ∧ P (.fz .none) (δ2.set j (.od p (dmerge kvs more)))) :
    E F (tBM F.K "dict" rDUpd ta (tCons te tNil)) δ P := fun τ ε G H σ Q s q =>
  h τ ε G H σ _ s fun x r δ1 G1 H1 ⟨p, j, kvs0, hr, hj, h1⟩ e1 s1 => by
    subst hr
    have hx : x = .ref p := s1.top
    subst hx
    obtain ⟨ov, _, ok⟩ := s1.slot hj
    obtain ⟨w, rfl⟩ := sd_some (by intro z; cases z) ok
    obtain ⟨rfl, xs, hx, _⟩ := ok
    refine ⟨.inr (.inr (.inl ⟨rfl, .inl ⟨xs, hx⟩⟩)), ?_⟩
    refine h1 _ _ G1 H1 σ _ s1.pop fun y r2 δ2 G2 H2 ⟨q2, more, kvs, hr, hj2, hl, k⟩ e2 s2 => ?_
    subst hr
    obtain ⟨rfl, ms, hms, hkm⟩ := s2.top
    obtain ⟨ov, e3, ok⟩ := s2.slot hj2
    obtain ⟨w, rfl⟩ := sd_some (by intro z; cases z) ok
    obtain ⟨rfl, ys, hys, hd⟩ := ok
    have hl1 := KD.len hkm
    have hl2 := KD.len hd
    have hne : p ≠ q2 := fun z => by
      have nd := (List.nodup_cons.mp (show (q2 :: (fps ε ++ fps δ2)).Nodup from s2.w.nd)).1
      exact nd (z ▸ List.mem_append_right _ (fps_mem hj2 (by simp [SD.fp])))
    refine ⟨p, q2, ys, ms, rfl, rfl, hne, hys, hms, Nat.le_trans (show ys.length + ms.length ≤ 1000000 by omega) (by decide), ?_⟩
    refine q _ _ _ G2 _ k (Ex.trans e1 e2) ((s2.pop.mut (o := .dK (mergeK ys ms)) (new := .od p (dmerge kvs more)) hj2 rfl rfl fun ov e => ?_).push rfl .non)
    rw [e3] at e
    cases e
    exact ⟨rfl, _, upd_same, KD.merge hkm hd⟩
theorem walk_keys {p : Addr} {od : Obj} {xs : List (Key × V)} : Walk (Itk p od xs) xs.length (fun H => H p = some (.frz od (.dK xs))) (fun i H x H' => H' = H ∧ ∃ k v, xs[i]? = some (k, v) ∧ x = kV k) where
  goes := fun i H hi g => ⟨g, hi⟩
  stops := fun H g => ⟨g, Nat.le_refl _⟩
  yields := fun i H x H' hi g y => y
/-- [.. for one in d if ..], d an owned dict in slot i, the comprehension's own name in slot j -/
theorem ev_lcD {i j : Nat} {p : Addr} {kvs : List (Key × PyData)} (hi : δ[i]? = some (.od p kvs)) (hij : i ≠ j) (hj : δ[j]? = some .no) (hlen : kvs.length < 100000)
    (h : ∀ L : SD, ∃ I : Nat → List PyData → List SD → Prop, I 0 [] (δ.set i L) ∧ (∀ n acc δ', I n acc δ' → δ'[j]? = some .no ∧ δ'[i]? = some L ∧ acc.length ≤ n) ∧
      (∀ F' n k acc δ', Le F F' → (kvs.map (·.1))[n]? = some k → I n acc δ' → T F' tt (δ'.set j (.fz (keyD k))) fun b δ2 => if b = true then E F' te δ2 fun r δ3 => ∃ d', r = .fz d' ∧ ∃ r3, δ3[j]? = some r3 ∧ I (n + 1) (acc ++ [d']) (δ3.set j .no) else ∃ r2, δ2[j]? = some r2 ∧ I (n + 1) acc (δ2.set j .no)) ∧
      (∀ acc δ' q, q ∉ F.io → I kvs.length acc δ' → P (.ol q acc) (δ'.set i (.od p kvs)))) :
    E F (tLockE (tLc (iKeys (tVar i)) (gName j) tt te [j])) δ P := fun τ ε G1 H σ Q s q => by
  obtain ⟨ov, hov, ok⟩ := s.slot hi
  obtain ⟨w, rfl⟩ := sd_some (by intro z; cases z) ok
  obtain ⟨rfl, xs, hxs, hkd⟩ := ok
  refine ⟨p, .dK xs, hxs, trivial, fun od => ?_⟩
  obtain ⟨I, i0, keep, step, fin⟩ := h (.ow (lockO F.K od p xs kvs))
  have s1 : S2 F G1 (upd H p (.frz od (.dK xs))) τ ε σ (δ.set i (.ow (lockO F.K od p xs kvs))) := s.mut (p := p) hi rfl rfl fun ov e => by
    rw [hov] at e
    cases e
    exact ⟨rfl, upd_same, hkd⟩
  have hj1 : (δ.set i (.ow (lockO F.K od p xs kvs)))[j]? = some .no := by rw [List.getElem?_set_ne hij]; exact hj
  refine ⟨.ref p, hov, p, od, rfl, .inl ⟨xs, upd_same, ?_⟩⟩
  intro Dl hD
  have hio : Dl ∉ F.io := fun z => by
    obtain ⟨o, e⟩ := s1.w.io Dl z
    rw [hD] at e; cases e
  have hk := hkd.keys
  have hxl : xs.length = kvs.length := KD.len hkd
  have sw : S2 F G1 (upd H p (.frz od (.dK xs))) τ ε (wipe σ [j]) (δ.set i (.ow (lockO F.K od p xs kvs))) := ⟨s1.w, s1.t, oks_wipe hj1 s1.s⟩
  have s0 : S2 F G1 (upd (upd H p (.frz od (.dK xs))) Dl (.lst [])) (some (.ref Dl) :: τ) (.ol Dl [] :: ε) (wipe σ [j]) (δ.set i (.ow (lockO F.K od p xs kvs))) := sw.newO hD rfl ⟨rfl, [], upd_same, .nil⟩
  have locked : ∀ {n acc δ' G H τ ε σ}, I n acc δ' → S2 F G H τ ε σ δ' → H p = some (.frz od (.dK xs)) := fun {n acc δ' G H τ ε σ} hI s => by
    obtain ⟨ov, _, ok⟩ := s.slot (keep n acc δ' hI).2.1
    obtain ⟨w, rfl⟩ := sd_some (by intro z; cases z) ok
    exact ok.2.1
  refine lc_it walk_keys (fun n H => ∃ G acc δ', Ex G1 G ∧ I n acc δ' ∧ S2 F G H (some (.ref Dl) :: τ) (.ol Dl acc :: ε) (wipe σ [j]) δ') ⟨G1, [], _, Ex.refl _, i0, s0⟩ (fun n H _ ⟨G, acc, δ', ex, hI, s⟩ => locked hI s) ?_ ?_
  · rintro n x H H' hn ⟨G, acc, δ', ex, hI, s⟩ ⟨rfl, k, vv, hkv, rfl⟩
    have hd : (kvs.map (·.1))[n]? = some k := by rw [← hk, List.getElem?_map, hkv]; rfl
    have s2 : S2 F G H' (some (kV k) :: some (.ref Dl) :: τ) (.fz (keyD k) :: .ol Dl acc :: ε) (wipe σ [j]) δ' := s.push rfl (dp_ofKey k)
    obtain ⟨l, s3⟩ := s2.rebase
    obtain ⟨k1, k2, k3⟩ := keep n acc δ' hI
    have s4 := s3.store k1
    refine ⟨set_set_none _ _ _, ?_⟩
    have back : ∀ {G5 H5 acc5 δ5 r5}, δ5[j]? = some r5 → S2 { F with G0 := G } G5 H5 (some (.ref Dl) :: τ) (.ol Dl acc5 :: ε) ((wipe σ [j]).set j (some (kV k))) δ5 → S2 F G5 H5 (some (.ref Dl) :: τ) (.ol Dl acc5 :: ε) (wipe σ [j]) (δ5.set j .no) := by
      intro G5 H5 acc5 δ5 r5 hr h5
      have h6 := (h5.up l).drop hr
      have hl : (δ5.set j SD.no)[j]? = some SD.no := List.getElem?_set_self (List.getElem?_eq_some_iff.mp hr).1
      have h7 := oks_wipe hl h6.s
      refine ⟨h6.w, h6.t, ?_⟩
      have e : ((wipe σ [j]).set j (some (kV k))).set j none = wipe σ [j] := by
        show (((σ.set j none).set j (some (kV k))).set j none) = σ.set j none
        simp
      rw [e] at h7
      exact h7
    refine step _ n _ acc δ' l hd hI _ _ G H' _ _ s4 fun b δ2 G5 H5 h5 e5 s5 => ?_
    cases b with
    | true =>
      refine h5 _ _ G5 H5 _ _ s5 fun w r δ3 G6 H6 ⟨d', hr, r3, hr3, hI'⟩ e6 s6 => ?_
      subst hr
      have hw := fz_top s6
      have s7 := s6.pop
      obtain ⟨_, ys, hx, hda⟩ := s7.top
      have hlx := DpAll.len hda
      refine ⟨ys, hx, ?_, G6, acc ++ [d'], δ3.set j .no, Ex.trans ex s6.w.g0, hI', ?_⟩
      · exact Nat.lt_of_lt_of_le (show ys.length < 100000 by omega) (by decide)
      · have wm : Wd { F with G0 := G } G6 (upd H6 Dl (.lst (ys ++ [w]))) (Dl :: (fps ε ++ fps δ3)) := s7.w.mut List.mem_cons_self
        have nd := (List.nodup_cons.mp (show (Dl :: (fps ε ++ fps δ3)).Nodup from s7.w.nd)).1
        have s8 : S2 { F with G0 := G } G6 (upd H6 Dl (.lst (ys ++ [w]))) (some (.ref Dl) :: τ) (.ol Dl (acc ++ [d']) :: ε) ((wipe σ [j]).set j (some (kV k))) δ3 :=
          ⟨wm, ⟨⟨rfl, _, upd_same, DpAll.app hda (SL.DpAll.one hw)⟩, oks_mono (Ex.refl _) (fun a ha => upd_ne fun z => nd (z ▸ List.mem_append_left _ ha)) s7.t.2⟩, oks_mono (Ex.refl _) (fun a ha => upd_ne fun z => nd (z ▸ List.mem_append_right _ ha)) s7.s⟩
        exact back hr3 s8
    | false =>
      obtain ⟨r2, hr2, hI'⟩ := h5
      exact ⟨G5, acc, δ2.set j .no, Ex.trans ex s5.w.g0, hI', back hr2 s5⟩
  · rintro H ⟨G, acc, δ', ex, hI, s⟩
    rw [hxl] at hI
    obtain ⟨k1, k2, k3⟩ := keep _ acc δ' hI
    have s5 : S2 F G H (some (.ref Dl) :: τ) (.ol Dl acc :: ε) σ δ' := ⟨s.w, s.t, oks_unwipe (K := F.K) (j := j) k1 s.s⟩
    refine ⟨locked hI s, q _ _ _ G _ (fin acc δ' Dl hio hI) ex ?_⟩
    obtain ⟨ov, hov2, ok⟩ := s5.slot k2
    refine s5.mut (p := p) k2 rfl rfl fun ov' e => ?_
    rw [hov2] at e
    cases e
    obtain ⟨w, rfl⟩ := sd_some (by intro z; cases z) ok
    obtain ⟨rfl, _, hkd2⟩ := ok
    exact ⟨rfl, xs, upd_same, hkd2⟩
end
end SL

set_option maxHeartbeats 4000000
/-! isinstance(instance, a class above its own), == by an own __eq__, len(set(tuple)), tuple.index, min(list), range with a step, in, sorted(dict of numbers). -/
namespace L2
open PySem PySem.Spec PyProof.Rows
def rIsCD (C D : Addr) : List V → Hp → VK → Prop := fun xs H Q => ∃ a dx fs, xs = [.ref a, .ref D] ∧ H a = some (.ins C dx fs) ∧ Q (.bl true) H
theorem call_isCD {X : Cx} {K : PySem.W.Frag} {C D : Addr} (c : C8.InsC K C) (hd : PySem.W.kitOne K (.ref C) (.ref D) = some true) (hK : X.K = K := by rfl) : CallR X (.builtin "isinstance") (rIsCD C D) := by
  subst hK
  intro pins s σ H xs us Q I r h
  obtain ⟨a, dx, fs, rfl, hin, hq⟩ := h
  obtain ⟨u1, u2, rfl, r1, r2⟩ := vals2 r
  obtain rfl : u2 = Value.ref D := r2
  exact isinst_ok I r1 (TyOf.ins hin c.cl c.ha c.hn c.htk c.hm) hd fun tk => ⟨.bl true, H, I.tok _, rfl, hq⟩
/-- == by the class's own __eq__ -/
def rOwnEq (C : Addr) (sp : Sp) : R2 := fun x y H Q => ∃ a b dx dy fs gs, x = .ref a ∧ y = .ref b ∧ H a = some (.ins C dx fs) ∧ H b = some (.ins C dy gs) ∧ sp [.ref a, .ref b] H (fun v H' => (∃ c, v = .bl c) ∧ Q v H') E0
theorem op_eqO {X : Cx} {k j : Nat} {C : Addr} {sp : Sp} (m : SL.Met X.prog X.w X.K X.mg X.base k C "__eq__" sp) (hr : Room j X.A) (hk : k ≤ j) : OpR X (compareOp .Eq) (rOwnEq C sp) := by
  intro pins s σ H x y v u Q I rx ry h
  obtain ⟨a, b, dx, dy, fs, gs, rfl, rfl, hina, hinb, hsp⟩ := h
  obtain rfl : v = Value.ref a := rx
  obtain rfl : u = Value.ref b := ry
  obtain ⟨f, fd, ps, _, mt, F, bd⟩ := m.ex
  obtain ⟨_, J1, _⟩ := ins_get I.hok hina
  obtain ⟨_, J2, _⟩ := ins_get I.hok hinb
  obtain ⟨o1, J1, _⟩ := J1.look
  obtain ⟨o2, J2, _⟩ := J2.look
  obtain ⟨m0, fr0⟩ := I.fr
  show wpAny (model X.prog X.w) X.A (richCompare .Eq (.ref a) (.ref b)) (EP X pins σ Q) X.xe s
  refine PySem.W.cmp_K (op := .Eq) (tb := .ref C) (hr.mono hk).units0 fr0 I.ok.mod.kin J1 J2.type (by simp [PySem.W.notFirst]) mt.at_ mt.fn ?_
  refine wpAny_mono (SL.run_fn2 (us := [.ref a, .ref b]) (vs := [.ref a, .ref b]) F (hr.mono hk) rfl bd I (.cons rfl (.cons rfl .nil)) hsp) (fun w s' hw => ?_) fun _ _ (z : False) => False.elim z
  obtain ⟨z, H', I', rz, ⟨c, rfl⟩, hq⟩ := hw
  obtain rfl : w = Value.bool c := rz
  exact ⟨.bl c, H', I', rfl, hq⟩
/-- len(set(t)), t a tuple of ints -/
def tLenSetT (K : PySem.W.Frag) (ta : TE) : TE := fun σ H Q => ta σ H fun x H1 => ∃ (l : Addr) (ns : List Int), x = V.ref l ∧ SqT K H1 l (ns.map V.int) ∧ ns.length ≤ 1000 ∧ ∀ out : List Int, out.Nodup → (∀ k, k ∈ out ↔ k ∈ ns) → Q (.int (out.length : Nat)) H1
theorem pe_lenSetT {X : Cx} (K : PySem.W.Frag) {a : Expr} {ta : TE} {p p2 q pos : Pos} (hc : X.calm = true) (hg : Gl X "len") (hm : X.mg "len" = none) (hg2 : Gl X "set") (hm2 : X.mg "set" = none) (he : PE X a ta)
    (na : starEach [a] X.env = (false, eval a X.env) :: starEach [] X.env := by rfl) (hK : X.K = K := by rfl) : PE X (.Call (.Name "len" p) [.Call (.Name "set" p2) [a] [] q] [] pos) (tLenSetT K ta) := by
  subst hK
  refine ⟨fun pins s σ H Q I h => Call_ (ld_blt I hg hm PySem.boot_len (PyProof.Rows.callWith_builtin1 (PyProof.Rows.args_cons ?_ rfl) rfl rfl))⟩
  refine Call_ (ld_blt I hg2 hm2 PyProof.Rows.boot_set (PyProof.Rows.callWith_type1 (PyProof.Rows.args_cons (thn (he.run pins s σ H _ I h) fun v s1 ⟨x, H1, I1, rx, hq⟩ => PyProof.Rows.args_nil ?_) na) na rfl))
  obtain ⟨l, ns, rfl, sq, hlen, hq⟩ := hq
  obtain rfl : v = Value.ref l := rx
  obtain ⟨its, rv, pt, _⟩ := I1.tuple sq
  refine call_set_tupI ns (I1.ok.hd hc) (show s1.heap.IsTuple l its.toArray from pt) (ints_of_vals rv) (by unfold scanBound; omega) fun h' tk c R1 hcn kp => PyProof.Rows.args_nil ?_
  obtain ⟨o, es, ep, tb, ho, hex, hdt, gk, nd, hmem, hbs, hfit, hcnt, _, _⟩ := R1
  have I2 : Inv X pins σ H1 { s1 with heap := h', toks := tk } := I1.kept fun b o e => kp b o e
  have hl : (es.toList.map keyOf).length = es.size := by rw [List.length_map, Array.length_toList]
  refine call_len_set ho hex hdt hfit (by omega) ⟨.int es.size, H1, I2.tok _, ⟨_, rfl⟩, ?_⟩
  have := hq (es.toList.map keyOf) nd fun k => by rw [← decide_eq_true_iff (p := k ∈ ns), hmem k]
  rw [hl] at this
  exact this
theorem pe_lenSetI' {X : Cx} (K : PySem.W.Frag) {a : Expr} {ta : TE} {p p2 q pos : Pos} (hc : X.calm = true) (hg : Gl X "len") (hm : X.mg "len" = none) (hg2 : Gl X "set") (hm2 : X.mg "set" = none) (he : PE X a ta)
    (na : starEach [a] X.env = (false, eval a X.env) :: starEach [] X.env := by rfl) (hK : X.K = K := by rfl) : PE X (.Call (.Name "len" p) [.Call (.Name "set" p2) [a] [] q] [] pos) (tLenSetI K ta) := by
  subst hK
  exact pe_lenSetI hc hg hm hg2 hm2 he na
/-- t.index(n), t a tuple of ints that was made here -/
def tTIndex (K : PySem.W.Frag) (to te : TE) : TE := fun σ H Q => to σ H fun x H1 => ∃ (p : Addr) (o : Obj) (xs : List V), x = .ref p ∧ H1 p = some (.frz o (.tup xs)) ∧ o.dict = none ∧ te σ H1 fun y H2 => ∃ (ns : List Int) (k : Int), y = .int k ∧ SqT K H2 p (ns.map V.int) ∧ k ∈ ns ∧ Q (.int (ns.idxOf k : Nat)) H2
theorem pe_tindex {X : Cx} (K : PySem.W.Frag) {o e : Expr} {to te : TE} {apos cpos : Pos} (ho : PE X o to) (he : PE X e te) (hbase : attributeBase o "index" X.env (eval o X.env) = eval o X.env := by rfl)
    (hfew : ((backTo cpos (starEach [e] X.env)).all (fun x => !x.1) && (backToKw cpos (keywordEach [] X.env)).all (fun x => x.1.isSome) && decide ([e].length + ([] : List Keyword).length + (if ([] : List Keyword).isEmpty then 0 else 1) < 30)) = true := by rfl)
    (hline : (apos.endLine == cpos.line) = true := by rfl) (hs : backTo cpos (starEach [e] X.env) = [(false, eval e X.env)] := by rfl) (hK : X.K = K := by rfl) : PE X (.Call (.Attribute o "index" apos) [e] [] cpos) (tTIndex K to te) := by
  subst hK
  refine ⟨fun pins s σ H Q I h => ?_⟩
  refine wpAny_Call_method hbase hfew hline PySem.F.plainAttrs_tuple PySem.F.slot_tuple_index PySem.F.type_tuple_index (thn (ho.run pins s σ H _ I h) fun v s1 ⟨x, H1, I1, rx, p, ob, xs, hx, hH, hd, q1⟩ => ?_)
  subst hx
  obtain rfl : v = Value.ref p := rx
  obtain ⟨hget, hz, its, rv, pt⟩ := I1.hok p _ hH
  have ht : s1.heap.IsTuple p its.toArray := pt
  obtain ⟨o2, ho2, hcls, _⟩ := pt
  rw [hget] at ho2
  cases ho2
  refine ⟨⟨ob, hget, hcls⟩, fun a ea => ⟨ob, by cases ea; exact hget, hd⟩, ?_⟩
  rw [hs]
  refine Calls.callWith_builtin rfl (Calls.evalArgs_plain (Calls.spliced_cons (thn (he.run pins s1 σ H1 _ I1 q1) fun y s2 ⟨y0, H2, I2, ry, ns, k, hy, sq, hk, hq⟩ => Calls.spliced_nil ?_)))
  subst hy
  obtain ⟨t, rfl⟩ := ry
  obtain ⟨its2, rv2, pt2, _⟩ := I2.tuple sq
  exact SeqAt.tuple_index_ints (show s2.heap.IsTuple p its2.toArray from pt2) (ints_of_vals rv2) hk ⟨.int (ns.idxOf k : Nat), H2, I2.tok _, ⟨_, rfl⟩, hq⟩
/-- tuple(list), kept with its object -/
def rTupF (K : PySem.W.Frag) : List V → Hp → VK → Prop := fun xs H Q => ∃ p ys, xs = [.ref p] ∧ SqL K H p ys ∧ ∀ (l : Addr) (o : Obj), H l = none → o.dict = none → Q (.ref l) (upd H l (.frz o (.tup ys)))
theorem call_tupF {X : Cx} (K : PySem.W.Frag) (hK : X.K = K := by rfl) : CallR X (.type "tuple") (rTupF K) := by
  subst hK
  intro pins s σ H xs us Q I r h
  obtain ⟨p, ys, rfl, sq, hq⟩ := h
  obtain ⟨u, rfl, ru⟩ := vals1 r
  obtain rfl : u = Value.ref p := ru
  obtain ⟨its, rv, pl, hz⟩ := I.list sq
  have hlen := rv.length
  refine call_tuple_list pl.isList (fun h' kp => ?_) (by simp only [List.size_toArray]; omega)
  have I1 : Inv X pins σ H { s with heap := h' } := I.kept (t' := s.toks) kp
  refine ⟨.ref h'.objs.size, _, I1.laid (o := .frz { cls := .type "tuple", data := .seq its.toArray } (.tup ys)) (t' := s.toks) (fun b u e => Heap.get?_push_of_some _ e) (Nat.le_refl _) ⟨Heap.get?_push_size _ rfl, hz, its, rv, IsTup.new _ _⟩, rfl, hq _ _ (I1.hok.fresh (Nat.le_refl _)) rfl⟩
theorem cr_min' {X : Cx} (K : PySem.W.Frag) (hc : X.calm = true) (hK : X.K = K := by rfl) : CallR X (.builtin "min") (rMin K) := hK ▸ cr_min hc
/-- xs.extend(a list that stays) -/
def rExtendZ : V → List V → Hp → VK → Prop := fun x vs H Q => ∃ l b xs zs, x = .ref l ∧ vs = [.ref b] ∧ H l = some (.lst xs) ∧ Rd H b (.lst zs) ∧ xs.length + zs.length ≤ sizeLine ∧ Q .non (upd H l (.lst (xs ++ zs)))
theorem mt_extendZ {X : Cx} : MtR X "list.extend" rExtendZ := by
  intro pins s σ H x vs v us Q I rx rv h
  obtain ⟨l, b, xs, zs, rfl, rfl, hl, hb, hsum, hq⟩ := h
  obtain rfl : v = Value.ref l := rx
  obtain ⟨u, rfl, ru⟩ := vals1 rv
  obtain rfl : u = Value.ref b := ru
  obtain ⟨_, its, n, r1, l1, e1⟩ := I.lstM hl
  obtain ⟨more, n2, r2, e2⟩ : ∃ (more : List Value) (n2 : Nat), Vals zs more ∧ s.heap.get? b = some { cls := .type "list", data := .seq more.toArray n2 } := by
    rcases hb with hb | ⟨o, hb⟩
    · obtain ⟨_, more, n2, r2, _, e2⟩ := I.lstM hb
      exact ⟨more, n2, r2, e2⟩
    · obtain ⟨_, _, more, n2, r2, e2⟩ := I.hok b _ hb
      exact ⟨more, n2, r2, e2⟩
  have l2 := r2.length
  have tot : its.toArray.size + more.toArray.size ≤ sizeLine := by rw [List.size_toArray, List.size_toArray, ← l1, ← l2]; exact hsum
  have short : ¬ (!its.toArray.isEmpty && Builtin.List.listTooLong (its.toArray.size + more.toArray.size)) = true := by
    rw [notLongL tot]
    simp
  refine call_meets F.slot_list_extend ⟨_, e1, rfl⟩ F.entry_list_extend (F.args_list_extend_2 _ _) (AutoSeq1.list_extend_list_list_0 l its.toArray n b more.toArray n2 short (by omega) (by omega)) ⟨e1, e2, .non, _, I.lset (its' := its ++ more) hl e1 (by simp) (r1.append r2) (by rw [List.length_append]; exact hsum), rfl, hq⟩
/-- sorted(d), d a dict of numbers -/
def rSortDI : List V → Hp → VK → Prop := fun xs H Q => ∃ (a : Addr) (kvs : List (Key × V)) (ks : List Int), xs = [.ref a] ∧ H a = some (.dK kvs) ∧ kvs.map (·.1) = ks.map Sum.inl ∧ ks.length ≤ sizeLine ∧
  ∀ (ys : List Int) (p : Addr), ys.Perm ks → ys.Pairwise (· ≤ ·) → H p = none → Q (.ref p) (upd H p (.lst (ys.map V.int)))
theorem keys_int {acc : Array Value} {vs : List (Key × Value)} {ks : List Int} (hk : vs.map (·.1) = ks.map Sum.inl) (hl : acc.toList.length = ks.length) (h : ∀ (j : Nat) (v : Value), acc[j]? = some v → ∃ (k : Key) (x : Value), vs[j]? = some (k, x) ∧ keyIs k v = true) : IntsAre acc.toList ks := by
  refine ints_each hl fun j v e => ?_
  rw [Array.getElem?_toList] at e
  obtain ⟨k, x, h1, h2⟩ := h j v e
  have h3 : (vs.map (·.1))[j]? = some k := by rw [List.getElem?_map, h1]; rfl
  rw [hk, List.getElem?_map] at h3
  obtain ⟨y, hy, hyk⟩ : ∃ y, ks[j]? = some y ∧ Sum.inl y = k := by
    cases hh : ks[j]? with
    | none => rw [hh] at h3; cases h3
    | some y => rw [hh] at h3; exact ⟨y, rfl, Option.some.inj h3⟩
  subst hyk
  rcases keyIs_shape h2 with ⟨i, t, e1, e2⟩ | ⟨z, t, e1, e2⟩
  · cases e1
    exact ⟨_, t, hy, e2⟩
  · cases e1
theorem call_sortDI' {X : Cx} (hc : X.calm = true) : CallR X (.builtin "sorted") rSortDI := by
  intro pins s σ H xs us Q I r h
  obtain ⟨a, kvs, ks, rfl, hd, hk, hn, hq⟩ := h
  obtain ⟨u, rfl, ru⟩ := vals1 r
  cases ru
  obtain ⟨z, lo, vs, rel, dd⟩ := dk_rd I.hok (.inl hd)
  obtain ⟨ep, hat⟩ := dd.dictAt
  have hkeys : vs.map (·.1) = ks.map Sum.inl := by rw [← rel.keys]; exact hk
  have hl : vs.length = ks.length := by
    have := congrArg List.length hkeys
    simpa using this
  refine Calls.call_function_entry PyProof.Rows.kind_sorted PyProof.Rows.plain_sorted PyProof.Rows.entry_sorted (PyProof.Rows.args_sorted1 _) ?_
  unfold Builtin.«sorted»
  refine wpAny_bind (m := checkCount "sorted" 1 1 _) (wpAny_pure ?_)
  have hvs : vs.length ≤ sizeLine := by omega
  refine wpAny_bind (PySem.W.kdu_collect (A := X.A.in1) (PySem.W.kdl_dict (knd := mixKind X.prog X.w) (kvs := vs) (ep := ep) lo) (I.ok.hd hc) hat hvs fun h1 tk acc hk1 ha => ?_)
  have la : acc.toList.length = ks.length := by rw [Array.length_toList, ha.1, hl]
  have hS : IntsAre acc.toList ks := keys_int hkeys la fun j v e => by
    obtain ⟨k, x, q1, q2⟩ := ha.2 j v e
    exact ⟨k, x, q1, q2⟩
  have I1 : Inv X pins σ H { s with heap := h1, toks := tk } := I.kept hk1
  have la2 : acc.toList.length ≤ sizeLine := by omega
  refine wpAny_bind (wpAny_newList ?_ la2)
  have ho : (h1.push (seqObj "list" acc.toList.toArray 0)).get? h1.objs.size = some (seqObj "list" acc.toList.toArray 0) := Heap.get?_push_size _ rfl
  show wpAny _ _ _ _ _ { s with heap := h1.push (seqObj "list" acc.toList.toArray 0), toks := tk }
  refine wpAny_bind (wpAny_holding (wpAny_call_entry PyProof.Rows.slot_list_sort ⟨_, ho, rfl⟩ PyProof.Rows.entry_list_sort
    (SrtO.list_sort_ord (s := { s with heap := h1.push (seqObj "list" acc.toList.toArray 0), toks := tk }) SrtO.swo_int ho la2 (fun h2 => SrtO.ints_sortable hS h2) fun out g1 g2 => ⟨_, rfl, ?_⟩) (PyProof.Rows.args_list_sort _)))
  obtain ⟨k1, k2, k3⟩ := SrtO.ints_out hS g1 g2
  obtain ⟨e1, he1⟩ := PyProof.Rows.sortedHeap_at (vs := acc.toList) (out := out.toArray) ho
  have hlen : ((out.map SrtO.iv).map V.int).length ≤ sizeLine := by rw [List.length_map, k2.length_eq]; exact hn
  refine wpAny_pure ⟨_, rfl, .ref h1.objs.size, upd H h1.objs.size (.lst ((out.map SrtO.iv).map V.int)), I1.laid (t' := tk) (fun b u e => ?_) (Nat.le_refl _) ⟨hlen, out, e1, vals_of_ints k1, he1⟩, rfl, hq _ _ k2 k3 (I1.hok.fresh (Nat.le_refl _))⟩
  have hb : b < h1.objs.size := Heap.lt_size e
  rw [PyProof.Rows.sortedHeap_old (Nat.ne_of_lt hb) (by rw [size_push']; exact Nat.lt_succ_of_lt hb)]
  exact Heap.get?_push_of_some _ e
end L2
namespace SL
open PySem L2 Evl
/-- a tuple that was made here: it has no dict -/
def tupF (K : PySem.W.Frag) (p : Addr) (ds : List PyData) : Ow where
  fp := []
  R := fun G _ v => v = .ref p ∧ ∃ o xs, G p = some (.frz o (.tup xs)) ∧ o.dict = none ∧ DpAll K G xs ds
  loc := fun {G G' H H' v} e _ ⟨h1, o, xs, h2, h3, h4⟩ => ⟨h1, o, xs, e _ _ h2, h3, dpAllMono e _ _ h4⟩
/-- a tuple of things, owned or not -/
def tupL (K : PySem.W.Frag) (p : Addr) (rs : List SD) : Ow where
  fp := p :: fps rs
  R := fun G H v => v = .ref p ∧ ∃ vs : List V, H p = some (.tup vs) ∧ Oks K G H (vs.map some) rs
  loc := fun {G G' H H' v} e k ⟨h1, vs, h2, h3⟩ => ⟨h1, vs, by rw [k p (by simp)]; exact h2, oks_mono e (fun a ha => k a (by simp [ha])) h3⟩
section
variable {N : St → Hp → Prop} {ds : List PyData} {F F' : Fm} {G G' H H' : Hp} {τ σ : List (Option V)} {ε δ : List SD} {P : PV} {te ta tb : TE} {tr : TA} {r rb : SD} {C D : Addr} {PI : List PyData → List SD → Prop}
theorem ev_isCD (h : E F te δ fun r δ1 => ∃ (p dx : Addr) (fs : List (Str × SD)) (m : List (Addr × DD)) (j : Nat), r = .al p ∧ δ1[j]? = some (.ow (insO F.K p dx C fs m)) ∧ P (.fz (.bool true)) δ1) : E F (tCB (rIsCD C D) (tCons te (tCons (tC (.ref D)) tNil))) δ P := fun τ ε G H σ Q s q =>
  h τ ε G H σ _ s fun x r δ1 G1 H1 ⟨p, dx, fs, m, j, hr, hj, k⟩ e1 s1 => by
    subst hr
    have hx : x = .ref p := s1.top
    subst hx
    obtain ⟨_, _, ⟨xs, h3, _⟩, _⟩ := s1.ins_at hj
    exact ⟨p, dx, xs, rfl, h3, q _ _ δ1 G1 H1 k e1 (s1.pop.push rfl (.bl _))⟩
theorem o_eqO {W : WB} {p0 p1 d0 d1 : Addr} {f0 f1 : List (Str × SD)} {m0 m1 : List (Addr × DD)} {j0 j1 : Nat} (h1 : δ[j1]? = some (.ow (insO F.K p1 d1 C f1 m1))) (h0 : (δ.set j1 .no)[j0]? = some (.ow (insO F.K p0 d0 C f0 m0)))
    (n0 : Pins F.K (.ow (insO F.K p0 d0 C f0 m0)) p0) (n1 : Pins F.K (.ow (insO F.K p1 d1 C f1 m1)) p1)
    (hW : W (.ow (insO F.K p0 d0 C f0 m0)) (.ow (insO F.K p1 d1 C f1 m1)) [] fun r s0 s1 => ∃ c, r = .fz (.bool c) ∧ P r (((((δ.set j1 .no).set j0 .no)).set j0 s0).set j1 s1)) : O2 F (rOwnEq C (SpB F.K W)) (.al p0) (.al p1) δ P := fun τ ε G H σ Q x y s q => by
  have hy : y = .ref p1 := s.top
  have hx : x = .ref p0 := s.pop.top
  subst hx hy
  have sc := s.pop2
  obtain ⟨ov1, e3, ok1⟩ := sc.slot h1
  obtain ⟨x1, rfl⟩ := sd_some n1.1 ok1
  obtain rfl := n1.2 _ _ _ ok1
  have sd := sc.mv h1 e3
  obtain ⟨ov0, e4, ok0⟩ := sd.slot h0
  obtain ⟨x0, rfl⟩ := sd_some n0.1 ok0
  obtain rfl := n0.2 _ _ _ ok0
  have se := (sd.mv h0 e4).comb.toSlot
  obtain ⟨ow, nd⟩ := S2.own_of (j := 0) se rfl
  obtain ⟨_, _, ⟨xs1, i1, _⟩, _⟩ := sc.ins_at h1
  obtain ⟨_, _, ⟨xs0, i0, _⟩, _⟩ := sd.ins_at h0
  refine ⟨p0, p1, d0, d1, xs0, xs1, rfl, rfl, i0, i1, G, .ref p0, .ref p1, [], _, _, [], _, rfl, sc.w.gh, ok0, ok1, ow, nd, .nil, hW, fun r s0 s1 pp hs v G' H' c => ?_⟩
  obtain ⟨b, hb, hP⟩ := pp
  obtain ⟨a4, _⟩ := sc.callB h1 h0 e4 e3 c hs
  refine ⟨⟨b, ?_⟩, q v r _ G' H' hP c.w.g0 a4⟩
  subst hb
  exact dp_bl (fz_top a4)
theorem ev_lenSetT (h : E F te δ fun r δ1 => ∃ ns : List Int, r = .fz (.tuple (ns.map PyData.int)) ∧ ns.length ≤ 1000 ∧ ∀ out : List Int, out.Nodup → (∀ k, k ∈ out ↔ k ∈ ns) → P (.fz (.int (out.length : Nat))) δ1) : E F (tLenSetT F.K te) δ P := fun τ ε G H σ Q s q =>
  h τ ε G H σ _ s fun x r δ1 G1 H1 ⟨ns, hr, hl, k⟩ e1 s1 => by
    subst hr
    obtain ⟨a, xs, rfl, sq, da⟩ := dp_tup (fz_top s1)
    rw [DpAll.ints da] at sq
    exact ⟨a, ns, rfl, ex_t s1.w.gh sq, hl, fun out h1 h2 => q _ _ δ1 G1 H1 (k out h1 h2) e1 (s1.pop.push rfl (.int _))⟩
theorem ev_lenSetI (h : E F te δ fun r δ1 => ∃ ns : List Int, LSrc δ1 r (ns.map PyData.int) ∧ ns.length < 64 ∧ ns.Nodup ∧ P (.fz (.int (ns.length : Nat))) δ1) : E F (tLenSetI F.K te) δ P := fun τ ε G H σ Q s q =>
  h τ ε G H σ _ s fun x r δ1 G1 H1 ⟨ns, hs, hl, hn, k⟩ e1 s1 => by
    obtain ⟨a, xs, rfl, sq, da⟩ := s1.lsrc s1.top hs
    rw [DpAll.ints da] at sq
    exact ⟨a, ns, rfl, sq, hl, hn, q _ _ δ1 G1 H1 k e1 (s1.pop.push rfl (.int _))⟩
theorem ev_tfO {i : Nat} {p : Addr} {ds : List PyData} (h : δ[i]? = some (.ow (tupF F.K p ds))) (k : P (.ow (tupF F.K p ds)) δ) : E F (tVar i) δ P := fun τ ε G H σ Q s q => by
  obtain ⟨ov, e, ok⟩ := s.slot h
  obtain ⟨v, rfl⟩ := sd_some (by intro z; cases z) ok
  exact ⟨v, e, q v _ δ G H k (Ex.refl _) (s.push rfl ok)⟩
/-- tuple(a new list), kept with its object -/
theorem b_tupF (h : LSrc δ r ds) (k : ∀ p, p ∉ F.io → P (.ow (tupF F.K p ds)) δ) : OA F (rTupF F.K) [r] δ P := fun τ ε G H σ Q vs el s q => by
  obtain ⟨x, rfl⟩ := one_of el
  obtain ⟨a, xs, rfl, sq, da⟩ := s.lsrc s.top h
  refine ⟨a, xs, rfl, sq, fun l o hl ho => ?_⟩
  have ex := Ex.new (o := .frz o (.tup xs)) (s.w.gnone hl)
  exact q _ _ δ _ _ (k l (s.fresh_io hl)) ex ((s.pop.newF hl).push rfl ⟨rfl, o, xs, upd_same, ho, dpAllMono ex _ _ da⟩)
theorem ev_tindex (h : E F ta δ fun r δ1 => ∃ (p : Addr) (ns : List Int), r = .ow (tupF F.K p (ns.map PyData.int)) ∧ E F te δ1 fun r2 δ2 => ∃ k : Int, r2 = .fz (.int k) ∧ k ∈ ns ∧ P (.fz (.int (ns.idxOf k : Nat))) δ2) :
    E F (tTIndex F.K ta te) δ P := fun τ ε G H σ Q s q =>
  h τ ε G H σ _ s fun x r δ1 G1 H1 ⟨p, ns, hr, h1⟩ e1 s1 => by
    subst hr
    obtain ⟨rfl, o, xs, hG, ho, da⟩ := s1.top
    refine ⟨p, o, xs, rfl, s1.w.gh _ _ hG, ho, ?_⟩
    refine h1 _ _ G1 H1 σ _ s1.pop fun y r2 δ2 G2 H2 ⟨k, hr, hk, kk⟩ e2 s2 => ?_
    subst hr
    obtain rfl := dp_int (fz_top s2)
    rw [DpAll.ints da] at hG
    exact ⟨ns, k, rfl, .inl (.inr ⟨o, s2.w.gh _ _ (e2 _ _ hG)⟩), hk, q _ _ δ2 G2 H2 kk (Ex.trans e1 e2) (s2.pop.push rfl (.int _))⟩
theorem iw_tupF (h : E F te δ fun r δ1 => ∃ p ds, r = .ow (tupF F.K p ds) ∧ PI ds δ1) : Iw F (iTup F.K te) δ PI := fun τ ε G H σ R s q =>
  h τ ε G H σ _ s fun x r δ1 G1 H1 ⟨p, ds, hr, k⟩ e1 s1 => by
    subst hr
    obtain ⟨rfl, o, xs, hG, _, da⟩ := s1.top
    exact ⟨p, rfl, ⟨xs, .inl (.inr ⟨o, s1.w.gh _ _ hG⟩)⟩, q _ _ δ1 G1 H1 k e1 s1.pop (itOk_tup (.inl (.inr ⟨o, hG⟩)) da)⟩
theorem o_ixF {p : Addr} {i : Int} {d : PyData} (e : atI ds i = some d) (k : P (.fz d) δ) : O2 F (rIxT F.K) (.ow (tupF F.K p ds)) (.fz (.int i)) δ P := fun τ ε G H σ Q x y s q => by
  obtain rfl := dp_int (fz_top s)
  obtain ⟨rfl, o, xs, hG, _, da⟩ := s.pop.top
  obtain ⟨z, h1, h2⟩ := atI_dp da e
  exact ⟨p, xs, i, z, rfl, rfl, .inl (.inr ⟨o, s.w.gh _ _ hG⟩), h1, q _ _ δ G H k (Ex.refl _) (s.pop2.push rfl h2)⟩
theorem b_listF {p : Addr} (k : ∀ p', p' ∉ F.io → P (.ol p' ds) δ) : OA F (rLstQ F.K) [.ow (tupF F.K p ds)] δ P := fun τ ε G H σ Q vs el s q => by
  obtain ⟨x, rfl⟩ := one_of el
  obtain ⟨rfl, o, xs, hG, _, da⟩ := s.top
  exact ⟨p, xs, rfl, .inr (.inl (.inr ⟨o, s.w.gh _ _ hG⟩)), fun l hl => q _ _ δ _ _ (k l (s.fresh_io hl)) (Ex.refl _) (s.pop.newO hl rfl ⟨rfl, xs, upd_same, da⟩)⟩
theorem ev_tupL (h : EA F tr δ fun rs δ1 => rs.length ≤ 100 ∧ ∀ p, p ∉ F.io → P (.ow (tupL F.K p rs)) δ1) : E F (tTup tr) δ P := fun τ ε G H σ Q s q =>
  h τ ε G H σ _ s fun vs rs δ1 G1 H1 ⟨hl, k⟩ e1 el s1 => by
    refine ⟨Nat.le_trans (show vs.length ≤ 100 by omega) (by decide), fun p hp => ?_⟩
    have sp := Oks.split (by simpa using el) s1.t
    have w0 : Wd F G1 H1 ((fps rs ++ fps ε) ++ fps δ1) := by have := s1.w; rw [fps_app] at this; exact this
    have w1 := w0.newO (o := .tup vs) hp
    have hnot := w0.pnotin hp
    have kp : ∀ a ∈ (fps rs ++ fps ε) ++ fps δ1, upd H1 p (.tup vs) a = H1 a := fun a ha => upd_ne fun z => hnot (z ▸ ha)
    refine q _ _ δ1 G1 _ (k p (s1.fresh_io hp)) e1 ⟨?_, ⟨⟨rfl, vs, upd_same, oks_mono (Ex.refl _) (fun a ha => kp a (by simp [ha])) sp.1⟩, oks_mono (Ex.refl _) (fun a ha => kp a (by simp [ha])) sp.2⟩, oks_mono (Ex.refl _) (fun a ha => kp a (by simp [ha])) s1.s⟩
    show Wd F G1 _ (((p :: fps rs) ++ fps ε) ++ fps δ1)
    simpa using w1
theorem S2.untupL {p : Addr} {rs : List SD} {v : V} (s : S2 F G H (some v :: τ) (.ow (tupL F.K p rs) :: ε) σ δ) : ∃ vs : List V, v = .ref p ∧ SqT F.K H p vs ∧ vs.length = rs.length ∧ S2 F G H (vs.map some ++ τ) (rs ++ ε) σ δ := by
  obtain ⟨rfl, vs, h2, h3⟩ := s.top
  have hl : vs.length = rs.length := by have := Oks.len h3; simpa using this
  refine ⟨vs, rfl, .inl (.inl h2), hl, ⟨?_, Oks.app h3 s.t.2, s.s⟩⟩
  have w : Wd F G H (((p :: fps rs) ++ fps ε) ++ fps δ) := s.w
  rw [fps_app]
  refine w.sub ?_
  show ((fps rs ++ fps ε) ++ fps δ).Sublist (p :: ((fps rs ++ fps ε) ++ fps δ))
  exact List.sublist_cons_self _ _
theorem ga_tupL2 {i j : Nat} {p : Addr} {r1 r2 o1 o2 : SD} (hi : δ[i]? = some o1) (hj : (δ.set i r1)[j]? = some o2) (h : Nx F N ((δ.set i r1).set j r2)) : Ga F (gTup F.K 2 (gCons (gName i) (gCons (gName j) gNil))) (.ow (tupL F.K p [r1, r2])) δ N := fun G H σ v s => by
  obtain ⟨vs, rfl, sq, hl, s1⟩ := s.untupL
  match vs, hl, sq, s1 with
  | [v1, v2], _, sq, s1 => exact ⟨p, [v1, v2], rfl, sq, rfl, v1, [v2], rfl, v2, [], rfl, rfl, h G H _ ((s1.store hi).store hj)⟩
theorem ga_tupL3 {i j l : Nat} {p : Addr} {r1 r2 r3 o1 o2 o3 : SD} (hi : δ[i]? = some o1) (hj : (δ.set i r1)[j]? = some o2) (hk : ((δ.set i r1).set j r2)[l]? = some o3) (h : Nx F N (((δ.set i r1).set j r2).set l r3)) :
    Ga F (gTup F.K 3 (gCons (gName i) (gCons (gName j) (gCons (gName l) gNil)))) (.ow (tupL F.K p [r1, r2, r3])) δ N := fun G H σ v s => by
  obtain ⟨vs, rfl, sq, hl, s1⟩ := s.untupL
  match vs, hl, sq, s1 with
  | [v1, v2, v3], _, sq, s1 => exact ⟨p, [v1, v2, v3], rfl, sq, rfl, v1, [v2, v3], rfl, v2, [v3], rfl, v3, [], rfl, rfl, h G H _ (((s1.store hi).store hj).store hk)⟩
theorem ev_extendZ (h : E F ta δ fun r δ1 => ∃ p j ds0, r = .al p ∧ δ1[j]? = some (.ol p ds0) ∧ E F te δ1 fun r2 δ2 => ∃ es ds, r2 = .fz (.list es) ∧ δ2[j]? = some (.ol p ds) ∧ ds.length + es.length ≤ 1000000 ∧ P (.fz .none) (δ2.set j (.ol p (ds ++ es)))) :
    E F (tBM F.K "list" rExtendZ ta (tCons te tNil)) δ P := fun τ ε G H σ Q s q =>
  h τ ε G H σ _ s fun x r δ1 G1 H1 ⟨p, j, ds0, hr, hj, h1⟩ e1 s1 => by
    subst hr
    have hx : x = .ref p := s1.top
    subst hx
    obtain ⟨_, xs, hx, _⟩ := s1.ol_at hj
    refine ⟨.inl ⟨rfl, xs, SqL.of hx⟩, ?_⟩
    refine h1 _ _ G1 H1 σ _ s1.pop fun y r2 δ2 G2 H2 ⟨es, ds, hr, hj2, hl, k⟩ e2 s2 => ?_
    subst hr
    obtain ⟨b, zs, rfl, hz, dz⟩ : ∃ b zs, y = .ref b ∧ Rd G2 b (.lst zs) ∧ DpAll F.K G2 zs es := by
      have := fz_top s2
      cases this with
      | lst a b => exact ⟨_, _, rfl, a, b⟩
    obtain ⟨e3, ys, hys, hd⟩ := s2.ol_at hj2
    have hl1 := DpAll.len hd
    have hl2 := DpAll.len dz
    refine ⟨p, b, ys, zs, rfl, rfl, hys, ex_rd s2.w.gh hz, Nat.le_trans (show _ ≤ 1000000 by omega) (by decide), ?_⟩
    refine q _ _ _ G2 _ k (Ex.trans e1 e2) ((s2.pop.mut (o := .lst (ys ++ zs)) (new := .ol p (ds ++ es)) hj2 rfl rfl fun ov e => ?_).push rfl .non)
    rw [e3] at e
    cases e
    exact ⟨rfl, _, upd_same, DpAll.app hd dz⟩
theorem b_min {ns : List Int} (h : LSrc δ r (ns.map PyData.int)) (h0 : 0 < ns.length) (k : ∀ m, m ∈ ns → (∀ y, y ∈ ns → m ≤ y) → P (.fz (.int m)) δ) : OA F (rMin F.K) [r] δ P := fun τ ε G H σ Q vs el s q => by
  obtain ⟨x, rfl⟩ := one_of el
  obtain ⟨a, xs, rfl, sq, da⟩ := s.lsrc s.top h
  rw [DpAll.ints da] at sq
  exact ⟨a, ns, rfl, sq, h0, fun m h1 h2 => q _ _ δ G H (k m h1 h2) (Ex.refl _) (s.pop.push rfl (.int _))⟩
theorem o_inI {ns : List Int} {i : Int} (h : LSrc δ rb (ns.map PyData.int)) (k : P (.fz (.bool (decide (i ∈ ns)))) δ) : O2 F (rIn F.K false) (.fz (.int i)) rb δ P := fun τ ε G H σ Q x y s q => by
  obtain ⟨a, xs, rfl, sq, da⟩ := s.lsrc s.top h
  obtain rfl := dp_int (fz_top2 s)
  rw [DpAll.ints da] at sq
  refine ⟨a, _, rfl, .inl sq, rfl, all_flat ns, ?_⟩
  rw [if_neg (by decide), inV_int]
  exact q _ _ δ G H k (Ex.refl _) (s.pop2.push rfl (.bl _))
theorem o_inT {ns : List Int} {i : Int} (k : P (.fz (.bool (decide (i ∈ ns)))) δ) : O2 F (rIn F.K false) (.fz (.int i)) (.fz (.tuple (ns.map PyData.int))) δ P := fun τ ε G H σ Q x y s q => by
  obtain ⟨a, xs, rfl, sq, da⟩ := dp_tup (fz_top s)
  obtain rfl := dp_int (fz_top2 s)
  rw [DpAll.ints da] at sq
  refine ⟨a, _, rfl, .inr (ex_t s.w.gh sq), rfl, all_flat ns, ?_⟩
  rw [if_neg (by decide), inV_int]
  exact q _ _ δ G H k (Ex.refl _) (s.pop2.push rfl (.bl _))
def rangeC (lo c : Int) (n : Nat) : List PyData := (List.range n).map fun i => .int (lo + (i : Nat) * c)
theorem itOk_rangeC {K : PySem.W.Frag} (lo c : Int) (n : Nat) : ItOk K (Itc lo c n) G (rangeC lo c n) := by
  have hl : (rangeC lo c n).length = n := by simp [rangeC]
  refine ⟨fun _ => True, fun i H x H' => H' = H ∧ x = .int (lo + (i : Nat) * c), ?_, fun _ _ _ _ => trivial, ?_⟩
  · rw [hl]
    exact walk_rangeC
  · rintro i H x H2 d hd ⟨rfl, rfl⟩ F2 G1 τ ε σ δ hK s e
    obtain ⟨hi, hd'⟩ := List.getElem?_eq_some_iff.mp hd
    have : d = .int (lo + (i : Nat) * c) := by rw [← hd']; simp [rangeC]
    subst this
    exact ⟨G1, Ex.refl _, s.push rfl (.int _)⟩
theorem iw_range3 (h : EA F tr δ fun rs δ1 => ∃ (i j c : Int) (n : Nat), rs = [.fz (.int i), .fz (.int j), .fz (.int c)] ∧ RgC i j c n ∧ PI (rangeC i c n) δ1) : Iw F (iRng3 tr) δ PI := fun τ ε G H σ R s q =>
  h τ ε G H σ _ s fun vs rs δ1 G1 H1 ⟨i, j, c, n, hr, h1, k⟩ e1 el s1 => by
    subst hr
    match vs, el with
    | [x, y, z], _ =>
      obtain rfl := dp_int (fz_top s1)
      obtain rfl := dp_int (fz_top s1.pop)
      obtain rfl := dp_int (fz_top s1.pop.pop)
      exact ⟨i, j, c, n, rfl, h1, q _ _ δ1 G1 H1 k e1 s1.pop.pop.pop (itOk_rangeC i c n)⟩
/-- sorted(d) of a dict in slot j, all keys numbers -/
theorem b_sortDI {p : Addr} {j : Nat} {kvs : List (Key × PyData)} {ks : List Int} (hj : δ[j]? = some (.od p kvs)) (hk : kvs.map (·.1) = ks.map Sum.inl) (hn : ks.length ≤ sizeLine) (k : ∀ (ys : List Int) (p' : Addr), ys.Perm ks → ys.Pairwise (· ≤ ·) → p' ∉ F.io → P (.ol p' (ys.map PyData.int)) δ) : OA F rSortDI [.al p] δ P := fun τ ε G H σ Q vs el s q => by
  obtain ⟨x, rfl⟩ := one_of el
  have hx : x = .ref p := s.top
  subst hx
  obtain ⟨_, xs, hx, kd⟩ := od_at s hj
  refine ⟨p, xs, ks, rfl, hx, ?_, hn, fun ys p' h1 h2 hp => ?_⟩
  · rw [KD.keys kd]; exact hk
  · exact q _ _ δ _ _ (k ys p' h1 h2 (s.fresh_io hp)) (Ex.refl _) (s.pop.newO hp rfl ⟨rfl, _, upd_same, DpAll.ofInts ys⟩)
end
end SL

/-! one of two ways of walking; the first one of a tuple of things; a test of two tuples. -/
namespace L2
open PySem PySem.Spec PyProof.Rows
def iOr (a b : TI) : TI := fun σ H R => a σ H R ∨ b σ H R
theorem pi_or2 {X : Cx} {tg e : Expr} {a b : TI} (h1 : PI X tg e a) (h2 : PI X tg e b) : PI X tg e (iOr a b) := ⟨fun pins s σ H R I h => by
  rcases h with h | h
  · exact h1.run pins s σ H R I h
  · exact h2.run pins s σ H R I h⟩
end L2
namespace SL
open PySem L2 Evl
section
variable {F F' : Fm} {G G' H H' : Hp} {τ σ : List (Option V)} {ε δ : List SD} {P : PV} {wa wb : TI} {PI : List PyData → List SD → Prop}
theorem iw_or1 (h : Iw F wa δ PI) : Iw F (iOr wa wb) δ PI := fun τ ε G H σ R s q => .inl (h τ ε G H σ R s q)
theorem iw_or2 (h : Iw F wb δ PI) : Iw F (iOr wa wb) δ PI := fun τ ε G H σ R s q => .inr (h τ ε G H σ R s q)
/-- two statements, with what holds between them -/
theorem rn_seqI {ts tw : TS} {D : Ends} (I : List SD → Prop) (h2 : ∀ δ', I δ' → Rn F tw δ' D) (h1 : ∀ N, (∀ δ', I δ' → Nx F N δ') → Rn F ts δ { D with nx := N }) : Rn F (tSeq ts tw) δ D := h1 (tw D) h2
theorem o_ixL0 {p : Addr} {r1 r2 : SD} (k : P r1 δ) : O2 F (rIxT F.K) (.ow (tupL F.K p [r1, r2])) (.fz (.int 0)) δ P := fun τ ε G H σ Q x y s q => by
  obtain rfl := dp_int (fz_top s)
  obtain ⟨vs, rfl, sq, hl, s2⟩ := s.pop.untupL
  match vs, hl with
  | [v1, v2], _ => exact ⟨p, [v1, v2], 0, v1, rfl, rfl, sq, rfl, q _ _ δ G H k (Ex.refl _) (by
      have s3 : S2 F G H (some v1 :: some v2 :: τ) (r1 :: r2 :: ε) σ δ := s2
      refine ⟨?_, ⟨s3.t.1, s3.t.2.2⟩, s3.s⟩
      refine s3.w.sub ?_
      show ((r1.fp ++ fps ε) ++ fps δ).Sublist ((r1.fp ++ (r2.fp ++ fps ε)) ++ fps δ)
      exact List.Sublist.append_right (List.Sublist.append_left (List.sublist_append_right _ _) _) _)⟩
/-- tuple(range(a, b)) as data -/
theorem ev_tupRg2 {te tf : TE} (h : E F te δ fun r δ1 => E F tf δ1 fun r2 δ2 => ∃ a b : Nat, r = .fz (.int (a : Int)) ∧ r2 = .fz (.int (b : Int)) ∧ a ≤ b ∧ b < 100000 ∧ P (.fz (.tuple ((List.range (b - a)).map fun i => .int ((a + i : Nat) : Int)))) δ2) : E F (tTupRg (tRg2 te tf)) δ P := fun τ ε G H σ Q s q =>
  h τ ε G H σ _ s fun x r δ1 G1 H1 h1 e1 s1 => h1 _ _ G1 H1 σ _ s1 fun y r2 δ2 G2 H2 ⟨a, b, hr, hr2, hab, hb, k⟩ e2 s2 => by
    subst hr hr2
    obtain rfl := dp_int (fz_top2 s2)
    obtain rfl := dp_int (fz_top s2)
    refine ⟨(a : Int), (b : Int), rfl, rfl, ⟨by omega, by omega, by omega, by omega, ?_⟩, fun p hp => ?_⟩
    · refine Nat.le_trans (show _ ≤ 100000 by omega) (by decide)
    have ex := Ex.new (o := .tup (rgV (a : Int) (b : Int))) (s2.w.gnone hp)
    have da : ∀ G3 : Hp, DpAll F.K G3 (rgV (a : Int) (b : Int)) ((List.range (b - a)).map fun i => .int ((a + i : Nat) : Int)) := fun G3 => by
      unfold rgV
      rw [show ((b : Int) - (a : Int)).toNat = b - a by omega]
      generalize List.range (b - a) = l
      induction l with
      | nil => exact .nil
      | cons c r ih =>
        refine .cons ?_ ih
        show Dp F.K G3 (V.int ((a : Int) + (c : Nat))) (.int ((a + c : Nat) : Int))
        rw [show ((a : Int) + (c : Nat)) = ((a + c : Nat) : Int) by omega]
        exact .int _
    exact q _ _ δ2 _ _ k (Ex.trans e1 (Ex.trans e2 ex)) ((s2.pop2.newF hp).push rfl (Dp.tup upd_same (da _)))
end
end SL

/-! sorted(x, key=lambda y: ..), the lambda without captured names: its making, its calls. -/
namespace SL
open PySem PySem.W PySem.Calls L2 Evl LamX
section
variable {X : Cx} {pins : List (Addr × Obj)} {σ : St} {H : Hp} {s : Shared}
/-- the table P of code objects holds one more, at c -/
def Grown (H : Hp) (P c : Addr) (q : Str) (H1 : Hp) : Prop := ∃ (ps : Array Value) (pos : Pos), H P = some (.tbl ps) ∧ H c = none ∧ c ≠ P ∧ H1 = upd (upd H P (.tbl (ps ++ #[rawInt pos.line, rawInt pos.col, .ref c]))) c (CodeO c q)
/-- .. or held it before -/
def Held (H : Hp) (P c : Addr) : Prop := ∃ (ps : Array Value) (pos : Pos), H P = some (.tbl ps) ∧ codeAmong pos ps.toList = some (.ref c)
theorem lam_make3 {c P : Addr} {q : Str} {params : Arguments} {body : Expr} {scope : Scope} {pos : Pos} {E Q : Value → Shared → Prop} (I : Inv X pins σ H s) (TB : TabB X.base X.mg c P) (hcode : X.env.code = .ref c) (hq : X.env.qual ++ "<lambda>" = q)
    (hT : TabS H P q) (hdef : defaultsOf params X.env = ([], [])) (hcl : closureFor scope X.env = pure [])
    (h : ∀ (f c' : Addr) (pm ctv : Value) (H1 : Hp) (s' : Shared), Inv X pins σ H1 s' → (H1 = H ∧ Held H P c' ∨ Grown H P c' q H1) → s'.heap.get? f = some (kla_obj "<lambda>" q params body scope [] pm c' ctv) → s.heap.objs.size ≤ f → H1 f = none → H1 c' = some (CodeO c' q) → Q (.ref f) s') :
    wpAny (model X.prog X.w) X.A (eval (.Lambda params body scope pos) X.env) Q E s := by
  obtain ⟨ps, hP, ht, ha⟩ := hT
  refine kla_eval hdef ?_
  rw [hq]
  have oP : s.heap.get? P = some { cls := .none, data := .fields ps } := I.hok P _ hP
  cases hc : codeAmong pos ps.toList with
  | some cv =>
    obtain ⟨c', rfl, hco⟩ := ha pos cv hc
    refine kla_makeFunctionHit (mg := X.mg) (c := c) (P := P) (ps := ps) hcl I.ok.glob (I.mod.glob.keeps I.bk) hcode (TB.code.keeps I.bk) oP ht hc (TB.bm.keeps I.bk) fun ctv h1 tk hx hz => ?_
    exact h _ c' _ ctv H _ (I.kept fun b o e => Heap.get?_push_of_some _ (hx b o e)) (.inl ⟨rfl, ps, pos, hP, hc⟩) (Heap.get?_push_size _ rfl) hz (I.hok.fresh hz) hco
  | none =>
    refine kla_makeFunction (mg := X.mg) (c := c) (P := P) (ps := ps) hcl I.ok.glob (I.mod.glob.keeps I.bk) hcode (TB.code.keeps I.bk) oP ht hc TB.gP (TB.bm.keeps I.bk) fun c' ctv h1 tk hx hz hlt hrec htb => ?_
    obtain ⟨c2, oc, vs, t, e2, hoc, hd, hv⟩ := hrec
    cases e2
    have hf : s.heap.objs.size ≤ h1.objs.size := Nat.le_trans hz (Nat.le_of_lt hlt)
    have nc : H c' = none := I.hok.fresh hz
    have ncP : c' ≠ P := fun z => by rw [z, hP] at nc; cases nc
    have J := inv_table (t' := tk) (more := #[rawInt pos.line, rawInt pos.col, .ref c']) (h' := h1.push (kla_obj "<lambda>" q params body scope [] ((X.mg "__name__").getD .none) c' ctv)) (q := q) I hP
      (fun b o hb e => Heap.get?_push_of_some _ (hx b o hb e)) (Heap.get?_push_of_some _ htb) hz ⟨oc, vs, t, Heap.get?_push_of_some _ hoc, hd, hv⟩
    refine h _ c' _ ctv _ _ J (.inr ⟨ps, pos, hP, nc, ncP, rfl⟩) (Heap.get?_push_size _ rfl) hf ?_ upd_same
    have n1 : h1.objs.size ≠ c' := Nat.ne_of_gt hlt
    have n2 : h1.objs.size ≠ P := Nat.ne_of_gt (Nat.lt_of_lt_of_le (Heap.lt_size oP) hf)
    rw [upd_ne n1, upd_ne n2]
    exact I.hok.fresh hf
/-- the lambda is called -/
theorem runs_lam {f c' : Addr} {pm ctv : Value} {q pn : Str} {N : List Str} {params : Arguments} {body : Expr} {scope : Scope} {W : WF} {k : Nat} {A : Around} {G : Hp} (S : FnScope N [pn] scope)
    (hbind : ∀ u, bindArgs (kla_fn "<lambda>" q params body scope [] pm (.ref c') ctv) ⟨[u], []⟩ = pure [(pn, u)]) (hr : Room (k + 1) A) (hfr : A.frames = X.A.frames)
    (hbody : ∀ (outer : List Env) (s : Shared) (H : Hp) (vs : List V) (Q : VK), Room k (A.deeper (PyProof.Rows.envOfC q scope s.heap.objs.size f (.ref c'))) → SpF X.K W vs H Q E0 → ∃ te, PE (cxOf CX0 X.prog X.w X.K X.mg X.base N q scope f (.ref c') A outer s H E0).nox body te ∧ te (L2.start N vs) H Q)
    (hp : (f, kla_obj "<lambda>" q params body scope [] pm c' ctv) ∈ pins) (hG : G c' = some (CodeO c' q)) : RunsKey X pins σ W A f G := by
  intro pins' s' H' y x Q hsub I gh r h
  have of1 : s'.heap.get? f = some (kla_obj "<lambda>" q params body scope [] pm c' ctv) := (I.pin _ (List.mem_append_right _ (hsub _ hp))).1
  obtain ⟨⟨oc, vs, t, hoc, hdc, hvc⟩, _, _⟩ := I.hok c' _ (gh _ _ hG)
  have e0 := I.env0
  have e1 : Env0 X.prog X.w X.K X.mg X.base A X.stack s' H' := ⟨hfr.trans e0.frames, e0.mod, e0.bs, e0.bsz, e0.funs, e0.frf, e0.hok, e0.bare⟩
  have old : ∀ b o, X.base.get? b = some o → s'.heap.get? b = some o := fun b o e => (e0.bs b o e).1
  have hl : scope.names.lookup pn = some .local ∨ scope.names.lookup pn = some .cell := S.par pn (by simp)
  have par : ∀ z ∈ [(pn, x)], scope.names.lookup z.1 = some .local ∨ (scope.names.lookup z.1 = some .cell ∧ ((cellsFrom (s'.heap.objs.size + 1) scope.names []).lookup z.1).isSome = true) := fun z hz => by
    rw [List.mem_singleton.mp hz]
    rcases hl with e | e
    · exact .inl e
    · exact .inr ⟨e, cellsFrom_some _ _ _ (.inl e)⟩
  have rc : codeAny (model X.prog X.w) A (.call (.ref f) ⟨[x], []⟩) (CR CX0 X.stack X.prog X.w H' s' Q E0) s' := by
    refine kla_callFunE hr.depth of1 rfl S.co S.gen rfl ⟨c', oc, vs, t, rfl, hoc, hdc, hvc⟩ ?_
    rw [hbind]
    refine wpAny_pure (wpAny_newFunctionEnv_cells S.kind par fun env he s1 xx => ?_)
    subst he
    refine ⟨(e0.mod.nolimit.keeps old).keeps xx.toInCall.keep, ?_⟩
    obtain ⟨te, ht, hq⟩ := hbody X.stack s' H' [y] Q (hr.deeper _) h
    have J := inv_start (CX := CX0) (N := N) (E := E0) (ps := [pn]) (us := [x]) (vs := [y]) S hr.hd e1 rfl (.cons r .nil) xx
    refine kla_codeExpr (wpAny_mono (ht.nox.run [] s1 _ H' _ J hq) (fun v s2 hs => ?_) fun e s2 hs => hs)
    obtain ⟨w', H2, J2, rv, q2⟩ := hs
    exact ⟨w', H2, J2.os, J2.bare, J2.base, J2.hok, rv, q2⟩
  refine wpAny_call (codeAny_mono rc fun res s2 hq => ?_)
  cases res with
  | error e => exact hq
  | ok fl =>
    cases fl with
    | ret u => exact I.after hq
    | next => exact False.elim hq
    | brk => exact False.elim hq
    | cont => exact False.elim hq
/-- sorted(e, key=lambda pn: body) -/
def tSortL (K : PySem.W.Frag) (P : Addr) (q : Str) (W : WF) (t : TA) : TE := fun σ H Q => t σ H fun xs H1 => TabS H1 P q ∧ ∀ c' H2, (H2 = H1 ∧ Held H1 P c' ∨ Grown H1 P c' q H2) → H2 c' = some (CodeO c' q) → rSortC K W (fun G => G c' = some (CodeO c' q)) xs H2 Q
theorem pe_sortL (K : PySem.W.Frag) {k j : Nat} {c P : Addr} {q pn : Str} {N : List Str} {W : WF} {e body : Expr} {t : TA} {params : Arguments} {scope : Scope} {p lpos pos kpos : Pos} (TB : TabB X.base X.mg c P) (hcode : X.env.code = .ref c) (hq : X.env.qual ++ "<lambda>" = q)
    (S : FnScope N [pn] scope) (hbind : ∀ (f c' : Addr) (pm ctv u : Value), bindArgs (kla_fn "<lambda>" q params body scope [] pm (.ref c') ctv) ⟨[u], []⟩ = pure [(pn, u)])
    (hbody : ∀ (f c' : Addr) (outer : List Env) (s : Shared) (H : Hp) (vs : List V) (Q : VK), Room k (X.A.in1.in1.deeper (PyProof.Rows.envOfC q scope s.heap.objs.size f (.ref c'))) → SpF K W vs H Q E0 → ∃ te, PE (cxOf CX0 X.prog X.w K X.mg X.base N q scope f (.ref c') X.A.in1.in1 outer s H E0).nox body te ∧ te (L2.start N vs) H Q)
    (hr : Room j X.A) (hk : k + 3 ≤ j) (hg : Gl X "sorted") (hm : X.mg "sorted" = none) (ha : PA X [e] t) (hK : X.K = K := by rfl) (hdef : defaultsOf params X.env = ([], []) := by rfl) (hcl : closureFor scope X.env = pure [] := by rfl)
    (he : backTo pos (starEach [e] X.env) = (false, eval e X.env) :: backTo pos (starEach [] X.env) := by rfl) (hpl : (backTo pos (starEach [e] X.env)).any (·.1) = false := by rfl) :
    PE X (.Call (.Name "sorted" p) [e] [⟨some (Str.ofString "key"), .Lambda params body scope lpos, kpos⟩] pos) (tSortL K P q W t) := by
  subst hK
  refine ⟨fun pins s σ H Q I h => ?_⟩
  refine wpAny_Call_Name_kw (ld_blt I hg hm (u := .builtin "sorted") (by decide +kernel) ?_ (by decide) (by decide))
  refine PyProof.Rows.callWith_kw (thn (ha.run pos pins s σ H _ I h) fun us s1 ⟨vs, H1, I1, r1, hT, q1⟩ => ?_) he hpl rfl rfl
  show wpAny _ _ (evalAll ((do let v ← eval (.Lambda params body scope lpos) X.env; standAt pos; pure v) :: (backToKw pos (keywordEach [] X.env)).map (·.2))) _ _ s1
  refine wpAny_evalAll_cons (wpAny_bind (lam_make3 I1 TB hcode hq hT hdef hcl fun f c' pm ctv H2 s2 I2 hcase of hsz hfn hco => wpAny_bind (wpAny_standAt (wpAny_pure (wpAny_evalAll_nil ?_)))))
  have fp := I1.fpOk (H' := H2) hsz hfn
  have I3 : Inv X ((f, kla_obj "<lambda>" q params body scope [] pm c' ctv) :: pins) σ H2 s2 := I2.pins_of fun z hz => by
    rcases List.mem_cons.mp hz with rfl | hz
    · exact ⟨of, hfn, fp.2.1, fp.2.2.1, fun v z => by cases z⟩
    · exact I2.pin z (List.mem_append_right _ hz)
  refine wpAny_mono (sortR_call (C := fun G => G c' = some (CodeO c' q)) (fun G hG => runs_lam (k := k) S (hbind f c' pm ctv) ((hr.mono hk).in1.in1) rfl (fun outer s H vs Q h1 h2 => hbody f c' outer s H vs Q h1 h2) List.mem_cons_self hG) hr.hd hr.units I3 r1 (q1 c' H2 hcase hco)) (fun v s3 ⟨v', H3, I4, rv, q3⟩ => ⟨v', H3, I4.pins_of fun z hz => I4.pin z (List.mem_append_right _ (List.mem_cons_of_mem _ hz)), rv, q3⟩) fun e s3 hs => hs
end
end SL

/-! tables of code objects, owned by a slot beside what else it holds. -/
namespace SL
open PySem L2 Evl LamX
/-- the table at P: its code objects are frozen and bear the name q -/
def TabG (G H : Hp) (P : Addr) (q : Str) : Prop := ∃ ps : Array Value, H P = some (.tbl ps) ∧ TriplesOk ps.toList ∧ ∀ (pos : Pos) (cv : Value), codeAmong pos ps.toList = some cv → ∃ c, cv = .ref c ∧ G c = some (CodeO c q)
theorem TabG.loc {G G' H H' : Hp} {P : Addr} {q : Str} (h : TabG G H P q) (e : Ex G G') (k : H' P = H P) : TabG G' H' P q := by
  obtain ⟨ps, h1, h2, h3⟩ := h
  refine ⟨ps, by rw [k]; exact h1, h2, fun pos cv hc => ?_⟩
  obtain ⟨c, e1, e2⟩ := h3 pos cv hc
  exact ⟨c, e1, e _ _ e2⟩
theorem TabG.tabS {G H : Hp} {P : Addr} {q : Str} (h : TabG G H P q) (e : Ex G H) : TabS H P q := by
  obtain ⟨ps, h1, h2, h3⟩ := h
  refine ⟨ps, h1, h2, fun pos cv hc => ?_⟩
  obtain ⟨c, e1, e2⟩ := h3 pos cv hc
  exact ⟨c, e1, e _ _ e2⟩
/-- the tables T, and r -/
def tabR (K : PySem.W.Frag) (T : List (Addr × Str)) (r : SD) : Ow where
  fp := T.map Prod.fst ++ r.fp
  R := fun G H v => (∀ x ∈ T, TabG G H x.1 x.2) ∧ SD.ok K G H (some v) r
  loc := fun {G G' H H' v} e k ⟨h1, h2⟩ => ⟨fun x hx => (h1 x hx).loc e (k _ (List.mem_append_left _ (List.mem_map_of_mem hx))), ok_mono e (fun a ha => k a (List.mem_append_right _ ha)) h2⟩
section
variable {K : PySem.W.Frag} {F F' : Fm} {G G' H H' : Hp} {τ σ : List (Option V)} {ε δ : List SD} {v x : V} {P : PV} {T : List (Addr × Str)} {r r0 : SD} {j : Nat} {te : TE} {tt : TT} {wi : TI}
theorem S2.swap {a b : Option V} {x y : SD} (s : S2 F G H (a :: b :: τ) (x :: y :: ε) σ δ) : S2 F G H (b :: a :: τ) (y :: x :: ε) σ δ := by
  refine ⟨s.w.perm ?_, ⟨s.t.2.1, s.t.1, s.t.2.2⟩, s.s⟩
  show ((y.fp ++ (x.fp ++ fps ε)) ++ fps δ).Perm ((x.fp ++ (y.fp ++ fps ε)) ++ fps δ)
  refine List.Perm.append_right _ ?_
  rw [← List.append_assoc, ← List.append_assoc]
  exact List.Perm.append_right _ List.perm_append_comm
theorem S2.tab_at (s : S2 F G H τ ε σ δ) (hj : δ[j]? = some (.ow (tabR F.K T r))) : ∃ v, σ[j]? = some (some v) ∧ (∀ x ∈ T, TabG G H x.1 x.2) ∧ SD.ok F.K G H (some v) r := by
  obtain ⟨ov, e, ok⟩ := s.slot hj
  obtain ⟨v, rfl⟩ := sd_some (by intro z; cases z) ok
  exact ⟨v, e, ok.1, ok.2⟩
/-- the tables are laid on the stack -/
theorem S2.park (s : S2 F G H τ ε σ δ) (hj : δ[j]? = some (.ow (tabR F.K T r))) : ∃ v, S2 F G H (some v :: τ) (.ow (tabR F.K T .no) :: ε) σ (δ.set j r) := by
  obtain ⟨v, e, h1, h2⟩ := s.tab_at hj
  obtain ⟨l, q1, q2⟩ := fps_set_perm (s' := r) hj
  refine ⟨v, s.w.perm ?_, ⟨⟨h1, trivial⟩, s.t⟩, Oks.setD (fun ov q => ?_) s.s⟩
  · show (((T.map Prod.fst ++ []) ++ fps ε) ++ fps (δ.set j r)).Perm (fps ε ++ fps δ)
    rw [List.append_nil]
    have a1 : (fps ε ++ fps δ).Perm (fps ε ++ ((T.map Prod.fst ++ r.fp) ++ l)) := List.Perm.append_left _ q1
    refine List.Perm.trans ?_ a1.symm
    refine List.Perm.trans (List.Perm.append_left _ q2) ?_
    rw [List.append_assoc, List.append_assoc (T.map Prod.fst) r.fp l]
    rw [← List.append_assoc, ← List.append_assoc (fps ε)]
    exact List.Perm.append_right _ List.perm_append_comm
  · rw [e] at q
    cases q
    exact h2
/-- .. and go back into a slot -/
theorem S2.unpark {ov : Option V} (s : S2 F G H (ov :: τ) (.ow (tabR F.K T .no) :: ε) σ δ) (hj : δ[j]? = some r) (hr : r ≠ .no) : S2 F G H τ ε σ (δ.set j (.ow (tabR F.K T r))) := by
  obtain ⟨ov2, e, ok⟩ := s.slot hj
  obtain ⟨v, rfl⟩ := sd_some hr ok
  obtain ⟨v0, rfl⟩ := sd_some (by intro z; cases z) s.top
  obtain ⟨h1, _⟩ : (∀ x : Addr × Str, x ∈ T → TabG G H x.1 x.2) ∧ True := s.top
  obtain ⟨l, q1, q2⟩ := fps_set_perm (s' := .ow (tabR F.K T r)) hj
  refine ⟨s.w.perm ?_, s.t.2, Oks.setD (fun ov q => ?_) s.s⟩
  · show (fps ε ++ fps (δ.set j (.ow (tabR F.K T r)))).Perm (((T.map Prod.fst ++ []) ++ fps ε) ++ fps δ)
    rw [List.append_nil]
    have a1 : (((T.map Prod.fst) ++ fps ε) ++ fps δ).Perm (((T.map Prod.fst) ++ fps ε) ++ (r.fp ++ l)) := List.Perm.append_left _ q1
    refine List.Perm.trans ?_ a1.symm
    refine List.Perm.trans (List.Perm.append_left (fps ε) q2) ?_
    show (fps ε ++ ((T.map Prod.fst ++ r.fp) ++ l)).Perm _
    rw [List.append_assoc (T.map Prod.fst) r.fp l, ← List.append_assoc]
    exact List.Perm.append_right _ List.perm_append_comm
  · rw [e] at q
    cases q
    exact ⟨h1, ok⟩
/-- an expression that leaves the tables alone -/
theorem E.park (hj : δ[j]? = some (.ow (tabR F.K T r))) (h : E F te (δ.set j r) fun x δ1 => ∃ r1, δ1[j]? = some r1 ∧ r1 ≠ .no ∧ P x (δ1.set j (.ow (tabR F.K T r1)))) : E F te δ P := fun τ ε G H σ Q s q => by
  obtain ⟨v, s1⟩ := s.park hj
  exact h _ _ G H σ Q s1 fun w x δ1 G1 H1 ⟨r1, h1, h2, k⟩ e1 s2 => q w x _ G1 H1 k e1 (S2.unpark s2.swap h1 h2)
theorem T.park {PT : Bool → List SD → Prop} (hj : δ[j]? = some (.ow (tabR F.K T r))) (h : SL.T F tt (δ.set j r) fun b δ1 => ∃ r1, δ1[j]? = some r1 ∧ r1 ≠ .no ∧ PT b (δ1.set j (.ow (tabR F.K T r1)))) : SL.T F tt δ PT := fun τ ε G H σ Q s q => by
  obtain ⟨v, s1⟩ := s.park hj
  exact h _ _ G H σ Q s1 fun b δ1 G1 H1 ⟨r1, h1, h2, k⟩ e1 s2 => q b _ G1 H1 k e1 (S2.unpark s2 h1 h2)
theorem Iw.park {PI : List PyData → List SD → Prop} (hj : δ[j]? = some (.ow (tabR F.K T r))) (h : Iw F wi (δ.set j r) fun items δ1 => ∃ r1, δ1[j]? = some r1 ∧ r1 ≠ .no ∧ PI items (δ1.set j (.ow (tabR F.K T r1)))) : Iw F wi δ PI := fun τ ε G H σ R s q => by
  obtain ⟨v, s1⟩ := s.park hj
  exact h _ _ G H σ R s1 fun J items δ1 G1 H1 ⟨r1, h1, h2, k⟩ e1 s2 ok => q J items _ G1 H1 k e1 (S2.unpark s2 h1 h2) ok
/-- the tables go from slot to slot -/
theorem S2.moveT {i : Nat} {ri : SD} (s : S2 F G H τ ε σ δ) (hj : δ[j]? = some (.ow (tabR F.K T r))) (hi : (δ.set j r)[i]? = some ri) (hn : ri ≠ .no) : S2 F G H τ ε σ ((δ.set j r).set i (.ow (tabR F.K T ri))) := by
  obtain ⟨v, s1⟩ := s.park hj
  exact s1.unpark hi hn
theorem Nx.moveT {N : St → Hp → Prop} {i : Nat} {ri : SD} (hj : δ[j]? = some (.ow (tabR F.K T r))) (hi : (δ.set j r)[i]? = some ri) (hn : ri ≠ .no) (h : Nx F N ((δ.set j r).set i (.ow (tabR F.K T ri)))) : Nx F N δ := fun G H σ s => h G H σ (s.moveT hj hi hn)
theorem E.moveT {i : Nat} {ri : SD} (hj : δ[j]? = some (.ow (tabR F.K T r))) (hi : (δ.set j r)[i]? = some ri) (hn : ri ≠ .no) (h : E F te ((δ.set j r).set i (.ow (tabR F.K T ri))) P) : E F te δ P := fun τ ε G H σ Q s q => h τ ε G H σ Q (s.moveT hj hi hn) q
theorem set_sameL {α : Type} {l : List α} {i : Nat} {x : α} (h : l[i]? = some x) : l.set i x = l := by
  apply List.ext_getElem?
  intro k
  rw [List.getElem?_set]
  split
  · rename_i e
    subst e
    rw [h, if_pos (List.getElem?_eq_some_iff.mp h).1]
  · rfl
/-- sorted(e, key=lambda ..) -/
theorem ev_sortL {tr : TA} {A : Addr} {q : Str} {W : WF} (h : EA F tr δ fun rs δ1 => ∃ (r : SD) (ds : List PyData) (kd : PyData → PyData) (T : List (Addr × Str)) (r0 : SD) (j : Nat), rs = [r] ∧ δ1[j]? = some (.ow (tabR F.K T r0)) ∧ (A, q) ∈ T ∧ LSrc δ1 r ds ∧ (∀ d ∈ ds, W [d] fun r => r = .fz (kd d)) ∧
      PySem.W.AllAlike (ds.map kd) ∧ PySem.W.Sortable (ds.map kd) ∧ (∀ d ∈ ds, (kd d).depth ≤ 60) ∧ ∀ p, p ∉ F.io → P (.ol p (ds.mergeSort (PySem.W.dataLe false kd))) δ1) : E F (tSortL F.K A q W tr) δ P := fun τ ε G H σ Q s qq =>
  h τ ε G H σ _ s fun vs rs δ1 G1 H1 ⟨r, ds, kd, T, r0, j, hr, hj, hm, hl, hW, hal, hsk, hdep, k⟩ e1 el s1 => by
    subst hr
    obtain ⟨x, rfl⟩ := one_of el
    have s1' : S2 F G1 H1 (some x :: τ) (r :: ε) σ δ1 := s1
    obtain ⟨v, hv, hT, hok⟩ := s1'.tab_at hj
    have tP := hT _ hm
    obtain ⟨ps, p1, p2, p3⟩ := tP
    refine ⟨(hT _ hm).tabS s1'.w.gh, fun c' H2 hcase hco => ?_⟩
    obtain ⟨G2, ex2, s2, hG2⟩ : ∃ G2, Ex G1 G2 ∧ S2 F G2 H2 (some x :: τ) (r :: ε) σ δ1 ∧ G2 c' = some (CodeO c' q) := by
      rcases hcase with ⟨rfl, ps', pos, g1, g2⟩ | ⟨ps', pos, g1, g2, g3, rfl⟩
      · rw [p1] at g1
        cases g1
        obtain ⟨c, e2, e3⟩ := p3 pos _ g2
        cases e2
        exact ⟨G1, Ex.refl _, s1', e3⟩
      · rw [p1] at g1
        cases g1
        have ex2 : Ex G1 (upd G1 c' (CodeO c' q)) := Ex.new (s1'.w.gnone g2)
        have sN := s1'.newF (o := CodeO c' q) g2
        have eL : (ps ++ #[rawInt pos.line, rawInt pos.col, Value.ref c']).toList = ps.toList ++ [rawInt pos.line, rawInt pos.col, .ref c'] := by simp
        have hA : A ∈ (SD.ow (tabR F.K T r0)).fp := List.mem_append_left _ (List.mem_map.mpr ⟨_, hm, rfl⟩)
        have nd : (T.map Prod.fst ++ r0.fp).Nodup := by
          obtain ⟨_, n⟩ := s1'.own_of hj
          exact n
        have sM := sN.mutG (o := .tbl (ps ++ #[rawInt pos.line, rawInt pos.col, .ref c'])) (a := A) (new := .ow (tabR F.K T r0)) hj hA rfl fun ov e => by
          rw [hv] at e
          cases e
          refine ⟨fun z hz => ?_, ?_⟩
          · by_cases hzA : z.1 = A
            · have hzq : z.2 = q := by
                have n1 := (List.nodup_append.mp nd).1
                obtain ⟨i1, hi1⟩ := List.getElem?_of_mem hz
                obtain ⟨i2, hi2⟩ := List.getElem?_of_mem hm
                have : i1 = i2 := by
                  have a1 : (T.map Prod.fst)[i1]? = some A := by rw [List.getElem?_map, hi1]; exact congrArg some hzA
                  have a2 : (T.map Prod.fst)[i2]? = some A := by rw [List.getElem?_map, hi2]; rfl
                  obtain ⟨b1, c1⟩ := List.getElem?_eq_some_iff.mp a1
                  obtain ⟨b2, c2⟩ := List.getElem?_eq_some_iff.mp a2
                  exact (List.getElem_inj n1).mp (c1.trans c2.symm)
                subst this
                rw [hi1] at hi2
                have := Option.some.inj hi2
                rw [this]
              rw [hzA, hzq]
              refine ⟨_, upd_same, by rw [eL]; exact PySem.TriplesOk_snoc _ _ _ _ p2, fun pos' cv hc => ?_⟩
              rw [eL] at hc
              rcases among_app _ p2 hc with w | w
              · obtain ⟨c, e2, e3⟩ := p3 pos' cv w
                exact ⟨c, e2, ex2 _ _ e3⟩
              · exact ⟨c', w, upd_same⟩
            · obtain ⟨pz, z1, z2, z3⟩ := hT z hz
              have hzc : z.1 ≠ c' := ne_of_none z1 g2
              refine TabG.loc (hT z hz) ex2 ?_
              rw [upd_ne hzA, upd_ne hzc]
          · refine ok_mono ex2 (fun a ha => ?_) hok
            have h1 : a ≠ A := fun z => (List.nodup_append.mp nd).2.2 A (List.mem_map.mpr ⟨_, hm, rfl⟩) a ha z.symm
            obtain ⟨_, o, e2⟩ := (s1'.own_of hj).1 a (List.mem_append_right _ ha)
            rw [upd_ne h1, upd_ne (ne_of_none e2 g2)]
        rw [set_sameL hj] at sM
        have eH : upd (upd H1 c' (CodeO c' q)) A (.tbl (ps ++ #[rawInt pos.line, rawInt pos.col, .ref c'])) = upd (upd H1 A (.tbl (ps ++ #[rawInt pos.line, rawInt pos.col, .ref c']))) c' (CodeO c' q) := by
          funext b
          by_cases h1 : b = A
          · subst h1
            rw [upd_same, upd_ne (Ne.symm g3), upd_same]
          · by_cases h2 : b = c'
            · subst h2
              rw [upd_ne h1, upd_same, upd_same]
            · rw [upd_ne h1, upd_ne h2, upd_ne h2, upd_ne h1]
        rw [eH] at sM
        exact ⟨_, ex2, sM, upd_same⟩
    obtain ⟨a, xs, ha, sq, da⟩ := s2.lsrc s2.top hl
    refine ⟨x, xs, G2, ds, kd, rfl, .inl ⟨a, ha, sq⟩, s2.w.gh, hG2, da, hW, hal, hsk, hdep, fun G' H' p' zs c hn hz => ?_⟩
    have hio : p' ∉ F.io := fun z => by
      obtain ⟨o, e⟩ := s2.w.io p' z
      rw [c.w.fr p' o e (by simp)] at hn
      cases hn
    have c2 : S2 ⟨F.K, G2, H2, []⟩ G' (upd H' p' (.lst zs)) [some (.ref p')] [.ol p' (ds.mergeSort (PySem.W.dataLe false kd))] [] [] := c.newO hn rfl ⟨rfl, zs, upd_same, hz⟩
    exact qq _ _ _ G' _ (k p' hio) (Ex.trans e1 (Ex.trans ex2 c.w.g0)) (S2.call s2.pop c2)
/-- f(x, ..), x frozen, to which the tables are handed -/
theorem ev_callTF {tr : TA} {W : WO} {X0 : XK} (h : EA F tr δ fun rs δ1 => ∃ (d : PyData) (as : List PyData) (T : List (Addr × Str)) (r : SD) (j : Nat), rs = .fz d :: as.map SD.fz ∧ δ1[j]? = some (.ow (tabR F.K T r)) ∧ r ≠ .no ∧
      W (.ow (tabR F.K T (.fz d))) as fun x r1 => r1 = .ow (tabR F.K T (.fz d)) ∧ ((∀ a ∈ x.fp, a ∉ F.io) → P x δ1)) : E F (tCall (SpO F.K W) [] X0 tr) δ P := fun τ ε G H σ Q s q =>
  h τ ε G H σ _ s fun vs rs δ1 G1 H1 ⟨d, as, T, r, j, hr, hj, hn, k⟩ e1 el s1 => by
    subst hr
    rw [List.append_nil]
    obtain ⟨v0, ws, rfl⟩ : ∃ v0 ws, vs = v0 :: ws := by
      cases vs with
      | nil => simp at el
      | cons a b => exact ⟨a, b, rfl⟩
    have el2 : ws.length = (as.map SD.fz).length := by simpa using el
    have s1' : S2 F G1 H1 (some v0 :: (ws.map some ++ τ)) (.fz d :: (as.map SD.fz ++ ε)) σ δ1 := s1
    have hd := fz_top s1'
    have da := oks_fz (Oks.split (by simpa using el2) s1'.pop.t).1
    have s2 : S2 F G1 H1 τ ε σ δ1 := S2.popN (by simpa using el2) s1'.pop
    -- the tables beside the first argument
    obtain ⟨v, s3⟩ := s2.park hj
    have s4 : S2 F G1 H1 (some v0 :: τ) (.ow (tabR F.K T (.fz d)) :: ε) σ (δ1.set j r) := by
      refine ⟨?_, ⟨⟨(show (∀ x : Addr × Str, x ∈ T → TabG G1 H1 x.1 x.2) ∧ True from s3.top).1, hd⟩, s3.t.2⟩, s3.s⟩
      exact s3.w
    have s5 := s4.toSlot
    obtain ⟨ow, nd⟩ := S2.own_of (j := 0) s5 rfl
    refine ⟨G1, v0, ws, .ow (tabR F.K T (.fz d)), as, _, rfl, s1'.w.gh, s4.top, ow, nd, da, k, fun x r1 ⟨hr1, pp⟩ hs u G' H' c => ?_⟩
    subst hr1
    have s6 := S2.callO (j := 0) s5 rfl rfl c
    have s7 : S2 F G' H' (some u :: τ) (x :: ε) (some v0 :: σ) (.ow (tabR F.K T (.fz d)) :: δ1.set j r) := s6
    -- back into the slot
    have hj2 : (SD.ow (tabR F.K T (.fz d)) :: δ1.set j r)[0]? = some (.ow (tabR F.K T (.fz d))) := rfl
    have hjl : j < δ1.length := (List.getElem?_eq_some_iff.mp hj).1
    have s8 := s7.moveT (i := j + 1) (ri := r) hj2 (by
      show (SD.fz d :: δ1.set j r)[j + 1]? = some r
      rw [List.getElem?_cons_succ, List.getElem?_set_self hjl]) hn
    have s9 : S2 F G' H' (some u :: τ) (x :: ε) (some v0 :: σ) (.fz d :: (δ1.set j r).set j (.ow (tabR F.K T r))) := s8
    rw [List.set_set, set_sameL hj] at s9
    exact q u x _ G' H' (pp (new_io s5 c hs)) (Ex.trans e1 c.w.g0) (S2.unslot s9)
end
end SL

/-! defs that are handed tables of code objects: their starts, their calls; the law's own. -/
namespace L2
open PySem PySem.Spec PyProof.Rows
/-- a def by its body; its code object is known -/
theorem Fun.okC {P : Program} {w : World} {K : PySem.W.Frag} {mg : Str → Option Value} {base : Heap} {x qual : Str} {st : Stmt} {f c : Addr} {fd : FuncData} {N ps : List Str} {k : Nat} {sp : Sp} (F : Fun K x qual st f fd) (hc : fd.code = .ref c) (S : FnScope N ps (defScope st)) (len : ∀ vs H Q E, sp vs H Q E → vs.length = ps.length)
    (hbody : ∀ (A : Around) (outer : List Env) (s : Shared) (H : Hp) (vs : List V) (Q : VK) (E : XK), Room k (A.deeper (envOfC qual (defScope st) s.heap.objs.size f (.ref c))) → sp vs H Q E →
      ∃ t, PSs (cxOf CX0 P w K mg base N qual (defScope st) f (.ref c) A outer s H E).nox (defBody st) t ∧ t { nx := fun _ H' => Q .non H', rt := Q } (start N vs) H) : FnOk P w K mg base CX0 (k + 1) f fd ps sp := by
  have hcd : ∀ cdv, (∃ (oc : Value) (od : Option Addr) (kV doc pm : Value) (an : Option Addr) (ct : Value), fd = PySem.W.fnOf x qual (defArgs st) (defBody st) (defScope st) .none kV doc pm an cdv ct) → cdv = .ref c := fun cdv ⟨_, _, _, _, _, _, _, e⟩ => by
    rw [e] at hc
    exact hc
  obtain ⟨oc, od, kV, doc, pm, an, cdv, ct, osl, e, lk, hin⟩ := F.ex
  obtain rfl := hcd cdv ⟨oc, od, kV, doc, pm, an, ct, e⟩
  subst e
  refine fn_of lk hin S len fun A outer s H vs Q E hr hsp => ?_
  obtain ⟨t, h, q⟩ := hbody A outer s H vs Q E hr hsp
  exact ⟨t, h.nox, q⟩
end L2
namespace SL
open PySem L2 Evl LamX
section
variable {K : PySem.W.Frag} {F F' : Fm} {G G' H H' : Hp} {τ σ : List (Option V)} {ε δ : List SD} {v x : V} {P : PV} {T : List (Addr × Str)} {r r0 : SD} {j : Nat} {te ta : TE} {tr : TA} {C : Addr}
/-- the law's def: its script, the tables -/
def SpSt (K : PySem.W.Frag) (T : List (Addr × Str)) : Sp := fun vs H Q _ => ∃ (G : Hp) (a : Addr) (ns : List Int), Ex G H ∧ vs = [.ref a] ∧ SqL K G a (ns.map V.int) ∧ ns.length ≤ 63 ∧ (∀ x ∈ T, TabG G H x.1 x.2 ∧ G x.1 = none) ∧ (T.map Prod.fst).Nodup ∧ ∀ H', Q (.bl true) H'
theorem bodySt {N : List Str} {vs : List V} {Q : VK} {X0 : XK} {t : TS} (h : SpSt K T vs H Q X0)
    (hb : ∀ F a ns, F.K = K → F.io = T.map Prod.fst → ns.length ≤ 63 → (∀ δ, Ro F Q (.fz (.bool true)) δ) → Rn F t (startD N.length [.ow (tabR F.K T (.ow (scrO F.K a ns)))]) { nx := fun _ H' => Q .non H', rt := Q }) : t { nx := fun _ H' => Q .non H', rt := Q } (L2.start N vs) H := by
  obtain ⟨G, a, ns, ex, rfl, sq, hn, hT, nd, k⟩ := h
  refine hb ⟨K, G, H, T.map Prod.fst⟩ a ns rfl rfl hn (fun δ v G' H' σ s => ?_) G H _ ?_
  · obtain rfl := dp_bl (fz_top s)
    exact k H'
  · have hl : fps (startD N.length [SD.ow (tabR K T (.ow (scrO K a ns)))]) = T.map Prod.fst := by
      unfold startD
      rw [fps_app, fps_no]
      show ((T.map Prod.fst ++ []) ++ []) ++ [] = _
      simp
    have own : ∀ b ∈ T.map Prod.fst, G b = none ∧ ∃ o, H b = some o := fun b hb => by
      obtain ⟨z, hz, rfl⟩ := List.mem_map.mp hb
      obtain ⟨⟨ps, h1, _⟩, h2⟩ := hT z hz
      exact ⟨h2, _, h1⟩
    refine ⟨?_, trivial, ?_⟩
    · show Wd _ G H (fps [] ++ fps (startD N.length [SD.ow (tabR K T (.ow (scrO K a ns)))]))
      rw [hl]
      exact ⟨ex, own, nd, Ex.refl _, fun a o e _ => e, fun a o e => .inl e, fun a ha => .inl ha, fun a ha => (own a ha).2⟩
    · unfold L2.start startD
      exact Oks.app (τ := [some (.ref a)]) ⟨⟨fun x hx => (hT x hx).1, rfl, sq⟩, trivial⟩ (oks_nones _)
/-- a def whose first argument is frozen, to which tables are handed -/
theorem bodyTF {W : WO} {N : List Str} {vs : List V} {Q : VK} {X0 : XK} {t : TS} (h : SpO K W vs H Q X0) (hsh : ∀ r0 as post, W r0 as post → ∃ d, r0 = .ow (tabR K T (.fz d)))
    (hb : ∀ F d as post, F.K = K → F.io = T.map Prod.fst → W (.ow (tabR K T (.fz d))) as post → (∀ (r : SD) (δ : List SD) (j : Nat) (rj : SD), δ[j]? = some (SD.ow (tabR F.K T rj)) → post r (.ow (tabR F.K T (.fz d))) → Ro F Q r δ) → Rn F t (startD N.length (.ow (tabR F.K T (.fz d)) :: as.map SD.fz)) { nx := fun _ H' => Q .non H', rt := Q }) :
    t { nx := fun _ H' => Q .non H', rt := Q } (L2.start N vs) H := by
  obtain ⟨G, v0, ws, r0, as, post, rfl, ex, ok, ow, nd, da, w, k⟩ := h
  obtain ⟨d, rfl⟩ := hsh _ _ _ w
  have efp : (SD.ow (tabR K T (.fz d))).fp = T.map Prod.fst := by show T.map Prod.fst ++ [] = _; simp
  have okd : Dp K G v0 d := ok.2
  refine hb ⟨K, G, H, T.map Prod.fst⟩ d as post rfl rfl w (fun r δ j rj hj pp v G' H' σ s => ?_) G H _ ?_
  · obtain ⟨vv, _, hT, _⟩ := s.tab_at hj
    refine k r _ pp (fun a ha => ha) v G' H' ⟨?_, s.t, ⟨⟨hT, dpMono s.w.g0 _ _ okd⟩, trivial⟩⟩
    obtain ⟨l, q1, q2⟩ := fps_set_perm (s' := SD.no) hj
    have w1 := s.w.perm (List.Perm.append_left (fps [r]) q1.symm)
    have w2 : Wd ⟨K, G, H, T.map Prod.fst⟩ G' H' (fps [r] ++ fps [SD.ow (tabR K T (.fz d))]) := by
      refine w1.sub (List.Sublist.append_left ?_ _)
      show ((T.map Prod.fst ++ []) ++ []).Sublist ((T.map Prod.fst ++ rj.fp) ++ l)
      rw [List.append_nil, List.append_nil, List.append_assoc]
      exact List.sublist_append_left _ _
    rw [efp]
    exact w2
  · have hl : fps (startD N.length (SD.ow (tabR K T (.fz d)) :: as.map SD.fz)) = T.map Prod.fst := by
      unfold startD
      rw [fps_app, fps_no]
      show ((SD.ow (tabR K T (.fz d))).fp ++ fps (as.map SD.fz)) ++ [] = _
      rw [fps_fz, efp]
      simp
    rw [efp] at ow nd
    refine ⟨?_, trivial, ?_⟩
    · show Wd _ G H (fps [] ++ _)
      rw [hl]
      exact ⟨ex, ow, nd, Ex.refl _, fun a o e _ => e, fun a o e => .inl e, fun a ha => .inl ha, fun a ha => (ow a ha).2⟩
    · unfold L2.start startD
      have e1 : (SD.ow (tabR K T (.fz d)) :: as.map SD.fz).length = (v0 :: ws).length := by simp [DpAll.len da]
      rw [e1]
      exact Oks.app (τ := (v0 :: ws).map some) ⟨ok, oks_ofDp da⟩ (oks_nones _)
/-- f(x, ..), x an alias of what a slot holds -/
theorem ev_callP {W : WO} {X0 : XK} (h : EA F tr δ fun rs δ1 => ∃ (p : Addr) (as : List PyData) (j : Nat) (r0 : SD), rs = .al p :: as.map SD.fz ∧ δ1[j]? = some r0 ∧ Pins F.K r0 p ∧ W r0 as fun r r1 => (∀ a ∈ r.fp, a ∉ F.io) → P r (δ1.set j r1)) : E F (tCall (SpO F.K W) [] X0 tr) δ P := fun τ ε G H σ Q s q =>
  h τ ε G H σ _ s fun vs rs δ1 G1 H1 ⟨p, as, j, r0, hrs, hj, hp, k⟩ e1 el s1 => by
    subst hrs
    rw [List.append_nil]
    have sp := Oks.split (by simpa using el) s1.t
    have s0 := S2.popN el s1
    obtain ⟨ov, e3, ok⟩ := s0.slot hj
    obtain ⟨v0, rfl⟩ := sd_some hp.1 ok
    obtain rfl := hp.2 _ _ _ ok
    obtain ⟨ow, nd⟩ := s0.own_of hj
    match vs, el, sp with
    | w :: ws, el, sp =>
      obtain ⟨hw, hws⟩ := sp.1
      have hw' : w = .ref p := hw
      subst hw'
      refine ⟨G1, .ref p, ws, r0, as, _, rfl, s1.w.gh, ok, ow, nd, oks_fz hws, k, fun r r1 pp hs v G' H' c => ?_⟩
      exact q v r _ G' H' (pp (new_io s0 c hs)) (Ex.trans e1 c.w.g0) (s0.callO hj e3 c)
theorem pins_tab {p : Addr} (h : Pins K r p) : Pins K (.ow (tabR K T r)) p := ⟨fun z => (by cases z), fun G H v k => h.2 G H v k.2⟩
/-- e.m(..), e an instance beside the tables -/
theorem ev_methTab {W : WO} {X0 : XK} {mn : Str} (h : E F ta δ fun r δ1 => ∃ (p dx : Addr) (fs : List (Str × SD)) (m : List (Addr × DD)) (j : Nat), r = .al p ∧ δ1[j]? = some (.ow (tabR F.K T (.ow (insO F.K p dx C fs m)))) ∧ fs.lookup mn = none ∧ EA F tr δ1 fun rs δ2 => ∃ (as : List PyData) (r0 : SD), rs = as.map SD.fz ∧ δ2[j]? = some r0 ∧ Pins F.K r0 p ∧
      W r0 as fun r r1 => (∀ a ∈ r.fp, a ∉ F.io) → P r (δ2.set j r1)) : E F (tMeth C mn (SpO F.K W) [] X0 ta tr) δ P := fun τ ε G H σ Q s q =>
  h τ ε G H σ _ s fun x r δ1 G1 H1 ⟨p, dx, fs, m, j, hr, hj, hl, h1⟩ e1 s1 => by
    subst hr
    have hx : x = .ref p := s1.top
    subst hx
    obtain ⟨vv, hvv, _, ok⟩ := s1.tab_at hj
    obtain ⟨rfl, _, ⟨xs, h3, h4⟩, _⟩ := ok
    refine ⟨p, dx, xs, rfl, h3, FS.none h4 hl, ?_⟩
    refine h1 _ _ G1 H1 σ _ s1.pop fun vs rs δ2 G2 H2 ⟨as, r0, hrs, hj2, hp, k⟩ e2 el s2 => ?_
    subst hrs
    rw [List.append_nil]
    have sp := Oks.split (by simpa using el) s2.t
    have s0 := S2.popN el s2
    obtain ⟨ov, e3, ok⟩ := s0.slot hj2
    obtain ⟨v0, rfl⟩ := sd_some hp.1 ok
    obtain rfl := hp.2 _ _ _ ok
    obtain ⟨ow, nd⟩ := s0.own_of hj2
    refine ⟨G2, .ref p, vs, r0, as, _, rfl, s2.w.gh, ok, ow, nd, oks_fz sp.1, k, fun r r1 pp hs v G' H' c => ?_⟩
    exact q v r _ G' H' (pp (new_io s0 c hs)) (Ex.trans (Ex.trans e1 e2) c.w.g0) (s0.callO hj2 e3 c)
/-- an alias of a list beside the tables -/
theorem ev_tabAl {i : Nat} {p : Addr} {k : P (.al p) δ} (h : δ[i]? = some (.ow (tabR F.K T r))) (hp : Pins F.K r p) : E F (tVar i) δ P := fun τ ε G H σ Q s q => by
  obtain ⟨v, e, _, ok⟩ := s.tab_at h
  obtain rfl := hp.2 _ _ _ ok
  exact ⟨.ref p, e, q _ _ δ G H k (Ex.refl _) (s.push rfl rfl)⟩
/-- the start of the law's def, out of what the end tells -/
theorem spSt_of {a : Addr} {ns : List Int} (hn : ns.length ≤ 63) (nd : (T.map Prod.fst).Nodup) (hT : ∀ x ∈ T, H x.1 = some (.tbl #[])) (hS : SqL K H a (ns.map V.int)) : SpSt K T [.ref a] H (fun v _ => v = .bl true) fun _ _ _ => False := by
  refine ⟨fun b => if b ∈ T.map Prod.fst then none else H b, a, ns, fun b o e => ?_, rfl, ?_, hn, fun x hx => ⟨⟨#[], hT x hx, True.intro, fun pos cv hc => ?_⟩, ?_⟩, nd, fun _ => rfl⟩
  · by_cases hb : b ∈ T.map Prod.fst
    · have e2 : (none : Option HO) = some o := (if_pos hb).symm.trans e
      cases e2
    · exact (if_neg hb).symm.trans e
  · rcases hS with hS | hS
    · refine .inl ?_
      have ha : a ∉ T.map Prod.fst := fun z => by
        obtain ⟨y, hy, rfl⟩ := List.mem_map.mp z
        have e := hT y hy
        rcases hS with q | ⟨o, q⟩ <;> rw [e] at q <;> cases q
      rcases hS with q | ⟨o, q⟩
      · exact .inl ((if_neg ha).trans q)
      · exact .inr ⟨o, (if_neg ha).trans q⟩
    · exact .inr hS
  · have z : codeAmong pos [] = some cv := hc
    simp [codeAmong] at z
  · exact if_pos (List.mem_map_of_mem hx)
end
end SL

/-! Plain laws about tables of monoids of maps: no program in sight. -/
namespace Mt
open PySem
/-- first x, then m -/
def comp (x m : List Nat) : List Nat := x.map fun i => m.getD i 0
/-- a map of n points -/
def IsMap (n : Nat) (ns : List Nat) : Prop := ns.length = n ∧ ∀ x ∈ ns, x < n
def letS (l : Nat) : Str := ⟨#[97 + l]⟩
/-- the first places of the elements 1, 2, .. -/
def stp (o i l : Nat) (t : List (Nat × Nat)) : List (Nat × Nat) := if o = t.length + 1 then t ++ [(i, l)] else t
theorem stp_new {o i l : Nat} {t : List (Nat × Nat)} (h : o = t.length + 1) : stp o i l t = t ++ [(i, l)] := if_pos h
theorem stp_old {o i l : Nat} {t : List (Nat × Nat)} (h : ¬ o = t.length + 1) : stp o i l t = t := if_neg h
def scanRow (i : Nat) : Nat → List Nat → List (Nat × Nat) → List (Nat × Nat)
  | _, [], t => t
  | l, o :: r, t => scanRow i (l + 1) r (stp o i l t)
def scanRows : Nat → List (List Nat) → List (Nat × Nat) → List (Nat × Nat)
  | _, [], t => t
  | i, row :: rs, t => scanRows (i + 1) rs (scanRow i 0 row t)
def ordRow (i : Nat) : Nat → List Nat → List (Nat × Nat) → Prop
  | _, [], _ => True
  | l, o :: r, t => o ≤ t.length + 1 ∧ ordRow i (l + 1) r (stp o i l t)
def ordRows : Nat → List (List Nat) → List (Nat × Nat) → Prop
  | _, [], _ => True
  | i, row :: rs, t => i < t.length + 1 ∧ ordRow i 0 row t ∧ ordRows (i + 1) rs (scanRow i 0 row t)
theorem scanRow_snoc (i o : Nat) : ∀ (row : List Nat) (l : Nat) (t : List (Nat × Nat)), scanRow i l (row ++ [o]) t = stp o i (l + row.length) (scanRow i l row t)
  | [], l, t => by simp [scanRow]
  | a :: r, l, t => by
    simp only [List.cons_append, scanRow]
    rw [scanRow_snoc i o r (l + 1)]
    have : l + 1 + r.length = l + (a :: r).length := by simp; omega
    rw [this]
theorem scanRows_snoc (row : List Nat) : ∀ (rs : List (List Nat)) (i : Nat) (t : List (Nat × Nat)), scanRows i (rs ++ [row]) t = scanRow (i + rs.length) 0 row (scanRows i rs t)
  | [], i, t => by simp [scanRows]
  | a :: r, i, t => by
    simp only [List.cons_append, scanRows]
    rw [scanRows_snoc row r (i + 1)]
    have : i + 1 + r.length = i + (a :: r).length := by simp; omega
    rw [this]
theorem ordRow_snoc (i o : Nat) : ∀ (row : List Nat) (l : Nat) (t : List (Nat × Nat)), ordRow i l row t → o ≤ (scanRow i l row t).length + 1 → ordRow i l (row ++ [o]) t
  | [], l, t, _, h => ⟨h, trivial⟩
  | a :: r, l, t, h, h2 => ⟨h.1, ordRow_snoc i o r (l + 1) _ h.2 h2⟩
theorem ordRows_snoc (row : List Nat) : ∀ (rs : List (List Nat)) (i : Nat) (t : List (Nat × Nat)), ordRows i rs t → i + rs.length < (scanRows i rs t).length + 1 → ordRow (i + rs.length) 0 row (scanRows i rs t) → ordRows i (rs ++ [row]) t
  | [], i, t, _, h, h2 => ⟨h, h2, trivial⟩
  | a :: r, i, t, h, h2, h3 => by
    have e : i + 1 + r.length = i + (a :: r).length := by simp; omega
    exact ⟨h.1, h.2.1, ordRows_snoc row r (i + 1) _ h.2.2 (by rw [e]; exact h2) (by rw [e]; exact h3)⟩
/-- the words of the elements, by the first places -/
def wordsOf (t : List (Nat × Nat)) : List Str := t.foldl (fun ws p => ws ++ [ws.getD p.1 ⟨#[]⟩ ++ letS p.2]) [⟨#[]⟩]
theorem wordsOf_snoc (t : List (Nat × Nat)) (p : Nat × Nat) : wordsOf (t ++ [p]) = wordsOf t ++ [(wordsOf t).getD p.1 ⟨#[]⟩ ++ letS p.2] := by
  unfold wordsOf
  rw [List.foldl_append]
  rfl
theorem wordsOf_len (t : List (Nat × Nat)) : (wordsOf t).length = t.length + 1 := by
  unfold wordsOf
  have : ∀ (t : List (Nat × Nat)) (ws : List Str), (t.foldl (fun ws p => ws ++ [ws.getD p.1 ⟨#[]⟩ ++ letS p.2]) ws).length = ws.length + t.length := by
    intro t
    induction t with
    | nil => intro ws; rfl
    | cons p r ih => intro ws; rw [List.foldl_cons, ih]; simp; omega
  rw [this]; simp; omega
/-- the table so far: rows done, a row under way -/
structure TabI (n : Nat) (ms found : List (List Nat)) (words : List Str) (rows : List (List Nat)) (row : List Nat) : Prop where
  one : found[0]? = some (List.range n)
  nd : found.Nodup
  mp : ∀ x ∈ found, IsMap n x
  len : found.length = (scanRow rows.length 0 row (scanRows 0 rows [])).length + 1
  wd : words = wordsOf (scanRow rows.length 0 row (scanRows 0 rows []))
  o1 : ordRows 0 rows []
  o2 : ordRow rows.length 0 row (scanRows 0 rows [])
  rl : ∀ r ∈ rows, r.length = ms.length
  en : ∀ (i : Nat) (r : List Nat), rows[i]? = some r → ∀ (l o : Nat), r[l]? = some o → ∃ x m : List Nat, found[i]? = some x ∧ ms[l]? = some m ∧ found[o]? = some (comp x m)
  en2 : ∀ (l o : Nat), row[l]? = some o → ∃ x m : List Nat, found[rows.length]? = some x ∧ ms[l]? = some m ∧ found[o]? = some (comp x m)
theorem isMap_range (n : Nat) : IsMap n (List.range n) := ⟨by simp, fun x hx => by simpa using hx⟩
theorem isMap_comp {n : Nat} {x m : List Nat} (hx : IsMap n x) (hm : IsMap n m) : IsMap n (comp x m) := by
  refine ⟨by simp [comp, hx.1], fun y hy => ?_⟩
  unfold comp at hy
  obtain ⟨i, hi, rfl⟩ := List.mem_map.mp hy
  have h1 : i < m.length := by rw [hm.1]; exact hx.2 i hi
  rw [List.getD_eq_getElem?_getD, List.getElem?_eq_getElem h1]
  exact hm.2 _ (List.getElem_mem h1)
theorem tabI_start (n : Nat) (ms : List (List Nat)) : TabI n ms [List.range n] [⟨#[]⟩] [] [] where
  one := rfl
  nd := by simp
  mp := fun x hx => by
    have : x = List.range n := by simpa using hx
    subst this
    exact isMap_range n
  len := rfl
  wd := rfl
  o1 := trivial
  o2 := trivial
  rl := by simp
  en := by simp
  en2 := by simp
section
variable {n : Nat} {ms found rows : List (List Nat)} {words : List Str} {row : List Nat}
theorem get_app {α : Type} {l : List α} {i : Nat} {x y : α} (h : l[i]? = some x) : (l ++ [y])[i]? = some x := by
  rw [List.getElem?_append_left (List.getElem?_eq_some_iff.mp h).1]
  exact h
/-- an entry that is met already -/
theorem TabI.old {o : Nat} {x m : List Nat} (h : TabI n ms found words rows row) (hx : found[rows.length]? = some x) (hm : ms[row.length]? = some m) (ho : found[o]? = some (comp x m)) : TabI n ms found words rows (row ++ [o]) := by
  have lo : o < found.length := (List.getElem?_eq_some_iff.mp ho).1
  have e : scanRow rows.length 0 (row ++ [o]) (scanRows 0 rows []) = scanRow rows.length 0 row (scanRows 0 rows []) := by
    rw [scanRow_snoc, stp_old]
    have := h.len
    omega
  refine { h with len := by rw [e]; exact h.len, wd := by rw [e]; exact h.wd, o2 := ordRow_snoc _ _ _ _ _ h.o2 (by have := h.len; omega), en2 := fun l o' hl => ?_ }
  by_cases hlt : l < row.length
  · rw [List.getElem?_append_left hlt] at hl
    exact h.en2 l o' hl
  · have : l = row.length := by
      have := (List.getElem?_eq_some_iff.mp hl).1
      simp at this
      omega
    subst this
    rw [List.getElem?_append_right (Nat.le_refl _)] at hl
    simp at hl
    subst hl
    exact ⟨x, m, hx, hm, ho⟩
/-- a new element -/
theorem TabI.new {x m : List Nat} {wx : Str} (h : TabI n ms found words rows row) (hx : found[rows.length]? = some x) (hm : ms[row.length]? = some m) (hM : IsMap n m) (hn : comp x m ∉ found) (hw : words[rows.length]? = some wx) :
    TabI n ms (found ++ [comp x m]) (words ++ [wx ++ letS row.length]) rows (row ++ [found.length]) := by
  have hxm : IsMap n x := h.mp x (List.mem_of_getElem? hx)
  have e : scanRow rows.length 0 (row ++ [found.length]) (scanRows 0 rows []) = scanRow rows.length 0 row (scanRows 0 rows []) ++ [(rows.length, row.length)] := by
    rw [scanRow_snoc, stp_new h.len, Nat.zero_add]
  refine ⟨get_app h.one, ?_, ?_, ?_, ?_, h.o1, ordRow_snoc _ _ _ _ _ h.o2 (by have := h.len; omega), h.rl, ?_, ?_⟩
  · refine List.nodup_append.mpr ⟨h.nd, by simp, fun a ha b hb e => ?_⟩
    have : b = comp x m := by simpa using hb
    subst this
    exact hn (e ▸ ha)
  · intro y hy
    rcases List.mem_append.mp hy with q | q
    · exact h.mp y q
    · have : y = comp x m := by simpa using q
      subst this
      exact isMap_comp hxm hM
  · rw [e]
    simp [h.len]
  · rw [e, wordsOf_snoc, ← h.wd]
    have : words.getD rows.length ⟨#[]⟩ = wx := by rw [List.getD_eq_getElem?_getD, hw]; rfl
    rw [this]
  · intro i r hr l o ho
    obtain ⟨x', m', h1, h2, h3⟩ := h.en i r hr l o ho
    exact ⟨x', m', get_app h1, h2, get_app h3⟩
  · intro l o' hl
    by_cases hlt : l < row.length
    · rw [List.getElem?_append_left hlt] at hl
      obtain ⟨x', m', h1, h2, h3⟩ := h.en2 l o' hl
      exact ⟨x', m', get_app h1, h2, get_app h3⟩
    · have : l = row.length := by
        have := (List.getElem?_eq_some_iff.mp hl).1
        simp at this
        omega
      subst this
      rw [List.getElem?_append_right (Nat.le_refl _)] at hl
      simp at hl
      subst hl
      exact ⟨x, m, get_app hx, hm, by rw [List.getElem?_append_right (Nat.le_refl _)]; simp⟩
/-- a row is done -/
theorem TabI.done (h : TabI n ms found words rows row) (hl : row.length = ms.length) (hlt : rows.length < (scanRows 0 rows []).length + 1) : TabI n ms found words (rows ++ [row]) [] := by
  have e : scanRow (rows ++ [row]).length 0 [] (scanRows 0 (rows ++ [row]) []) = scanRow rows.length 0 row (scanRows 0 rows []) := by
    rw [scanRows_snoc, Nat.zero_add]; rfl
  refine { one := h.one, nd := h.nd, mp := h.mp, len := by rw [e]; exact h.len, wd := by rw [e]; exact h.wd, o1 := ?_, o2 := trivial, rl := ?_, en := ?_, en2 := by simp }
  · exact ordRows_snoc row rows 0 [] h.o1 (by rw [Nat.zero_add]; exact hlt) (by rw [Nat.zero_add]; exact h.o2)
  · intro r hr
    rcases List.mem_append.mp hr with q | q
    · exact h.rl r q
    · have : r = row := by simpa using q
      subst this
      exact hl
  · intro i r hr l o ho
    by_cases hi : i < rows.length
    · rw [List.getElem?_append_left hi] at hr
      exact h.en i r hr l o ho
    · have : i = rows.length := by
        have := (List.getElem?_eq_some_iff.mp hr).1
        simp at this
        omega
      subst this
      rw [List.getElem?_append_right (Nat.le_refl _)] at hr
      simp at hr
      subst hr
      exact h.en2 l o ho
/-- a table that is done -/
structure Tab (n : Nat) (ms found : List (List Nat)) (words : List Str) (table : List (List Nat)) : Prop where
  one : found[0]? = some (List.range n)
  nd : found.Nodup
  mp : ∀ x ∈ found, IsMap n x
  tl : table.length = found.length
  len : found.length = (scanRows 0 table []).length + 1
  wd : words = wordsOf (scanRows 0 table [])
  ord : ordRows 0 table []
  rl : ∀ r ∈ table, r.length = ms.length
  en : ∀ (i : Nat) (r : List Nat), table[i]? = some r → ∀ (l o : Nat), r[l]? = some o → ∃ x m : List Nat, found[i]? = some x ∧ ms[l]? = some m ∧ found[o]? = some (comp x m)
theorem TabI.tab (h : TabI n ms found words rows []) (hl : rows.length = found.length) : Tab n ms found words rows :=
  { one := h.one, nd := h.nd, mp := h.mp, tl := hl, len := h.len, wd := h.wd, ord := h.o1, rl := h.rl, en := h.en }
end
/-! ### at most n ^ n maps -/
theorem nodup_below : ∀ (M : Nat) (l : List Nat), l.Nodup → (∀ x ∈ l, x < M) → l.length ≤ M
  | 0, l, _, h => by
    cases l with
    | nil => simp
    | cons a r => exact absurd (h a (by simp)) (by omega)
  | M + 1, l, nd, h => by
    have h1 : (l.erase M).length ≤ M := nodup_below M (l.erase M) (nd.erase M) fun x hx => by
      have hm := List.mem_of_mem_erase hx
      have hne : x ≠ M := fun z => by
        subst z
        exact (List.Nodup.not_mem_erase nd) hx
      have := h x hm
      omega
    by_cases hM : M ∈ l
    · rw [List.length_erase_of_mem hM] at h1
      omega
    · rw [List.erase_of_not_mem hM] at h1
      omega
def code (n : Nat) : List Nat → Nat
  | [] => 0
  | a :: r => a + n * code n r
theorem code_lt (n : Nat) : ∀ (x : List Nat), (∀ a ∈ x, a < n) → code n x < n ^ x.length
  | [], _ => by simp [code]
  | a :: r, h => by
    have h1 := code_lt n r fun b hb => h b (by simp [hb])
    have h2 := h a (by simp)
    simp only [code, List.length_cons, Nat.pow_succ]
    calc a + n * code n r < n + n * code n r := by omega
      _ = n * (code n r + 1) := by rw [Nat.mul_add, Nat.mul_one, Nat.add_comm]
      _ ≤ n * n ^ r.length := Nat.mul_le_mul_left n h1
      _ = n ^ r.length * n := Nat.mul_comm _ _
theorem code_inj (n : Nat) : ∀ (x y : List Nat), x.length = y.length → (∀ a ∈ x, a < n) → (∀ a ∈ y, a < n) → code n x = code n y → x = y
  | [], [], _, _, _, _ => rfl
  | [], _ :: _, e, _, _, _ => by simp at e
  | _ :: _, [], e, _, _, _ => by simp at e
  | a :: r, b :: q, e, h1, h2, h3 => by
    have ha := h1 a (by simp)
    have hb := h2 b (by simp)
    simp only [code] at h3
    have e1 : a = b := by
      have := congrArg (· % n) h3
      simpa [Nat.add_mul_mod_self_left, Nat.mod_eq_of_lt ha, Nat.mod_eq_of_lt hb] using this
    subst e1
    have e2 : code n r = code n q := Nat.eq_of_mul_eq_mul_left (by omega) (by omega : n * code n r = n * code n q)
    rw [code_inj n r q (by simpa using e) (fun c hc => h1 c (by simp [hc])) (fun c hc => h2 c (by simp [hc])) e2]
theorem maps_most {n : Nat} {l : List (List Nat)} (nd : l.Nodup) (h : ∀ x ∈ l, IsMap n x) : l.length ≤ n ^ n := by
  have h1 := nodup_below (n ^ n) (l.map (code n)) ?_ ?_
  · simpa using h1
  · rw [List.Nodup, List.pairwise_map]
    refine List.Pairwise.imp_of_mem (fun {a b} ha hb hne e => hne ?_) nd
    exact code_inj n a b ((h a ha).1.trans (h b hb).1.symm) (h a ha).2 (h b hb).2 e
  · intro x hx
    obtain ⟨y, hy, rfl⟩ := List.mem_map.mp hx
    have := code_lt n y (h y hy).2
    rw [(h y hy).1] at this
    exact this
theorem maps_few {n : Nat} (hn : n ≤ 4) {l : List (List Nat)} (nd : l.Nodup) (h : ∀ x ∈ l, IsMap n x) : l.length ≤ 256 := by
  have := maps_most nd h
  have h2 : n = 0 ∨ n = 1 ∨ n = 2 ∨ n = 3 ∨ n = 4 := by omega
  rcases h2 with q | q | q | q | q <;> subst q <;> omega
end Mt

namespace Mt
open PySem
def colR (right : List (List Nat)) (l x : Nat) : Nat := (right.getD x []).getD l 0
def leftsOf (right : List (List Nat)) (t : List (Nat × Nat)) : List (List Nat) := t.foldl (fun ls p => ls ++ [(ls.getD p.1 []).map (colR right p.2)]) [right.getD 0 []]
theorem leftsOf_snoc (right : List (List Nat)) (t : List (Nat × Nat)) (p : Nat × Nat) : leftsOf right (t ++ [p]) = leftsOf right t ++ [((leftsOf right t).getD p.1 []).map (colR right p.2)] := by
  unfold leftsOf
  rw [List.foldl_append]
  rfl
theorem leftsOf_len (right : List (List Nat)) (t : List (Nat × Nat)) : (leftsOf right t).length = t.length + 1 := by
  unfold leftsOf
  have : ∀ (t : List (Nat × Nat)) (ws : List (List Nat)), (t.foldl (fun ls p => ls ++ [(ls.getD p.1 []).map (colR right p.2)]) ws).length = ws.length + t.length := by
    intro t
    induction t with
    | nil => intro ws; rfl
    | cons p r ih => intro ws; rw [List.foldl_cons, ih]; simp; omega
  rw [this]; simp; omega
/-- a table that Monoid takes -/
structure Good (right : List (List Nat)) (L : Nat) : Prop where
  n1 : 1 ≤ right.length
  n2 : right.length ≤ 2000
  l1 : 1 ≤ L
  l2 : L ≤ 6
  rl : ∀ r ∈ right, r.length = L
  en : ∀ r ∈ right, ∀ o ∈ r, o < right.length
  ord : ordRows 0 right []
  len : right.length = (scanRows 0 right []).length + 1
  pr : ∀ (i l o : Nat) (r : List Nat), right[i]? = some r → r[l]? = some o → (leftsOf right (scanRows 0 right [])).getD o [] = ((leftsOf right (scanRows 0 right [])).getD i []).map (colR right l)
/-- where the elements are met first -/
def TreeOk (right : List (List Nat)) (t : List (Nat × Nat)) : Prop := ∀ (k a l : Nat), t[k]? = some (a, l) → a ≤ k ∧ ∃ r, right[a]? = some r ∧ r[l]? = some (k + 1)
theorem treeOk_row {right : List (List Nat)} {i : Nat} {r0 : List Nat} (h0 : right[i]? = some r0) : ∀ (row : List Nat) (l : Nat) (t : List (Nat × Nat)), (∀ j o, row[j]? = some o → r0[l + j]? = some o) → i < t.length + 1 → TreeOk right t → TreeOk right (scanRow i l row t) ∧ t.length ≤ (scanRow i l row t).length
  | [], l, t, _, _, h => ⟨h, Nat.le_refl _⟩
  | o :: row, l, t, hr, hi, h => by
    have hr' : ∀ j o', row[j]? = some o' → r0[l + 1 + j]? = some o' := fun j o' e => by
      have := hr (j + 1) o' (by simpa using e)
      rw [show l + 1 + j = l + (j + 1) by omega]
      exact this
    simp only [scanRow]
    by_cases ho : o = t.length + 1
    · rw [stp_new ho]
      have := treeOk_row h0 row (l + 1) (t ++ [(i, l)]) hr' (by simp; omega) (fun k a l' e => by
        by_cases hk : k < t.length
        · rw [List.getElem?_append_left hk] at e
          exact h k a l' e
        · have hk2 : k = t.length := by
            have := (List.getElem?_eq_some_iff.mp e).1
            simp at this
            omega
          subst hk2
          rw [List.getElem?_append_right (Nat.le_refl _)] at e
          simp at e
          obtain ⟨rfl, rfl⟩ := e
          refine ⟨by omega, r0, h0, ?_⟩
          have := hr 0 o (by simp)
          rw [ho] at this
          simpa using this)
      refine ⟨this.1, ?_⟩
      have h2 := this.2
      simp at h2
      omega
    · rw [stp_old ho]
      exact treeOk_row h0 row (l + 1) t hr' hi h
theorem treeOk_rows {right : List (List Nat)} : ∀ (rows : List (List Nat)) (i : Nat) (t : List (Nat × Nat)), (∀ j r, rows[j]? = some r → right[i + j]? = some r) → ordRows i rows t → TreeOk right t → TreeOk right (scanRows i rows t)
  | [], i, t, _, _, h => h
  | row :: rows, i, t, hr, ho, h => by
    simp only [scanRows]
    have h1 := treeOk_row (right := right) (i := i) (r0 := row) (by have := hr 0 row (by simp); simpa using this) row 0 t (fun j o e => by simpa using e) ho.1 h
    refine treeOk_rows rows (i + 1) _ (fun j r e => ?_) ho.2.2 h1.1
    have := hr (j + 1) r (by simpa using e)
    rw [show i + 1 + j = i + (j + 1) by omega]
    exact this
theorem treeOk {right : List (List Nat)} (h : ordRows 0 right []) : TreeOk right (scanRows 0 right []) :=
  treeOk_rows right 0 [] (fun j r e => by simpa using e) h (fun k a l e => by simp at e)
/-- maps go together -/
theorem comp_assoc {n : Nat} {x y z : List Nat} (hx : ∀ i ∈ x, i < n) (hy : y.length = n) : comp (comp x y) z = comp x (comp y z) := by
  unfold comp
  rw [List.map_map]
  refine List.map_congr_left fun i hi => ?_
  have h1 : i < y.length := by rw [hy]; exact hx i hi
  simp only [Function.comp_apply, List.getD_eq_getElem?_getD, List.getElem?_map, List.getElem?_eq_getElem h1, Option.map_some, Option.getD_some]
theorem comp_one {n : Nat} {x : List Nat} (hx : IsMap n x) : comp x (List.range n) = x := by
  unfold comp
  conv => rhs; rw [← List.map_id x]
  refine List.map_congr_left fun i hi => ?_
  simp only [List.getD_eq_getElem?_getD, List.getElem?_range (hx.2 i hi), Option.getD_some, id]
theorem one_comp {n : Nat} {x : List Nat} (hx : IsMap n x) : comp (List.range n) x = x := by
  unfold comp
  apply List.ext_getElem?
  intro i
  rw [List.getElem?_map]
  by_cases h : i < n
  · have h1 : i < x.length := by rw [hx.1]; exact h
    rw [List.getElem?_range h]
    simp only [Option.map_some, List.getD_eq_getElem?_getD, List.getElem?_eq_getElem h1, Option.getD_some]
  · rw [List.getElem?_eq_none (by simp; omega), List.getElem?_eq_none (by rw [hx.1]; omega)]
    rfl
section
variable {n : Nat} {ms found table : List (List Nat)} {words : List Str}
theorem nd_inj {l : List (List Nat)} (nd : l.Nodup) {i j : Nat} {x : List Nat} (hi : l[i]? = some x) (hj : l[j]? = some x) : i = j := by
  obtain ⟨h1, h2⟩ := List.getElem?_eq_some_iff.mp hi
  obtain ⟨h3, h4⟩ := List.getElem?_eq_some_iff.mp hj
  have pw := List.pairwise_iff_getElem.mp nd
  rcases Nat.lt_trichotomy i j with q | q | q
  · exact absurd (h2.trans h4.symm) (pw i j h1 h3 q)
  · exact q
  · exact absurd (h4.trans h2.symm) (pw j i h3 h1 q)
theorem Tab.row (h : Tab n ms found words table) {i : Nat} {x : List Nat} (hx : found[i]? = some x) : ∃ r, table[i]? = some r ∧ r.length = ms.length := by
  have h1 := (List.getElem?_eq_some_iff.mp hx).1
  rw [← h.tl] at h1
  exact ⟨table[i], List.getElem?_eq_getElem h1, h.rl _ (List.getElem_mem h1)⟩
/-- what stands in the table -/
theorem Tab.at_ (h : Tab n ms found words table) {i l : Nat} {x m : List Nat} (hx : found[i]? = some x) (hm : ms[l]? = some m) : ∃ r o, table[i]? = some r ∧ r[l]? = some o ∧ colR table l i = o ∧ found[o]? = some (comp x m) := by
  obtain ⟨r, hr, hl⟩ := h.row hx
  have h1 : l < r.length := by rw [hl]; exact (List.getElem?_eq_some_iff.mp hm).1
  have h2 : r[l]? = some r[l] := List.getElem?_eq_getElem h1
  obtain ⟨x', m', e1, e2, e3⟩ := h.en i r hr l _ h2
  rw [hx] at e1
  rw [hm] at e2
  cases e1
  cases e2
  refine ⟨r, _, hr, h2, ?_, e3⟩
  unfold colR
  simp only [List.getD_eq_getElem?_getD, hr, h2, Option.getD_some]
/-- the letters in front -/
theorem Tab.lefts (h : Tab n ms found words table) (hms : ∀ m ∈ ms, IsMap n m) : ∀ (t : List (Nat × Nat)) (t2 : List (Nat × Nat)), t ++ t2 = scanRows 0 table [] → ∀ (k : Nat) (x : List Nat), k < t.length + 1 → found[k]? = some x →
    ∃ r, (leftsOf table t)[k]? = some r ∧ r.length = ms.length ∧ ∀ (c : Nat) (m : List Nat), ms[c]? = some m → ∃ o, r[c]? = some o ∧ found[o]? = some (comp m x) := by
  intro t
  have key : ∀ (N : Nat) (t : List (Nat × Nat)), t.length = N → ∀ t2, t ++ t2 = scanRows 0 table [] → ∀ (k : Nat) (x : List Nat), k < t.length + 1 → found[k]? = some x →
      ∃ r, (leftsOf table t)[k]? = some r ∧ r.length = ms.length ∧ ∀ (c : Nat) (m : List Nat), ms[c]? = some m → ∃ o, r[c]? = some o ∧ found[o]? = some (comp m x) := by
    intro N
    induction N with
    | zero =>
      intro t ht t2 e k x hk hx
      have : t = [] := List.length_eq_zero_iff.mp ht
      subst this
      have hk0 : k = 0 := by simp at hk; omega
      subst hk0
      obtain ⟨r, hr, hl⟩ := h.row hx
      refine ⟨r, by simp [leftsOf, List.getD_eq_getElem?_getD, hr], hl, fun c m hm => ?_⟩
      obtain ⟨r', o, h1, h2, _, h3⟩ := h.at_ hx hm
      rw [hr] at h1
      cases h1
      refine ⟨o, h2, ?_⟩
      have h0 := h.one
      rw [hx] at h0
      cases h0
      have im := hms m (List.mem_of_getElem? hm)
      rw [h3, one_comp im, comp_one im]
    | succ N ih =>
      intro t ht t2 e k x hk hx
      rcases List.eq_nil_or_concat t with e0 | ⟨t', p, e0⟩
      · subst e0; simp at ht
      · rw [List.concat_eq_append] at e0
        subst e0
        have ht' : t'.length = N := by simpa using ht
        have e' : t' ++ (p :: t2) = scanRows 0 table [] := by rw [← e]; simp
        rw [leftsOf_snoc]
        by_cases hlt : k < t'.length + 1
        · obtain ⟨r, h1, h2⟩ := ih t' ht' _ e' k x hlt hx
          exact ⟨r, by rw [List.getElem?_append_left (List.getElem?_eq_some_iff.mp h1).1]; exact h1, h2⟩
        · have hke : k = t'.length + 1 := by simp at hk; omega
          have hp : (scanRows 0 table [])[t'.length]? = some p := by rw [← e']; simp
          obtain ⟨a, l⟩ := p
          obtain ⟨ha, r, hra, hrl⟩ := treeOk h.ord t'.length a l hp
          obtain ⟨y, m, hy, hm, hk2⟩ := h.en a r hra l _ hrl
          rw [← hke, hx] at hk2
          cases hk2
          obtain ⟨q, hq, hql, hqc⟩ := ih t' ht' _ e' a y (by omega) hy
          refine ⟨q.map (colR table l), ?_, by simp [hql], fun c mc hmc => ?_⟩
          · rw [List.getElem?_append_right (by rw [leftsOf_len]; omega)]
            rw [hke, leftsOf_len, Nat.sub_self]
            simp [List.getD_eq_getElem?_getD, hq]
          · obtain ⟨o, ho, hfo⟩ := hqc c mc hmc
            obtain ⟨r2, o2, _, _, hc2, hf2⟩ := h.at_ hfo hm
            refine ⟨o2, by rw [List.getElem?_map, ho, Option.map_some, hc2], ?_⟩
            have imc := hms mc (List.mem_of_getElem? hmc)
            have imy := h.mp y (List.mem_of_getElem? hy)
            rw [hf2, comp_assoc imc.2 imy.1]
  exact key t.length t rfl
/-- the table of a monoid of maps is one that Monoid takes -/
theorem Tab.good (h : Tab n ms found words table) (hn : n ≤ 4) (hms : ∀ m ∈ ms, IsMap n m) (l1 : 1 ≤ ms.length) (l6 : ms.length ≤ 6) : Good table ms.length where
  n1 := by rw [h.tl, h.len]; omega
  n2 := by rw [h.tl]; have := maps_few hn h.nd h.mp; omega
  l1 := l1
  l2 := l6
  rl := h.rl
  en := fun r hr o ho => by
    obtain ⟨i, hi⟩ := List.getElem?_of_mem hr
    obtain ⟨l, hl⟩ := List.getElem?_of_mem ho
    obtain ⟨x, m, _, _, h3⟩ := h.en i r hi l o hl
    rw [h.tl]
    exact (List.getElem?_eq_some_iff.mp h3).1
  ord := h.ord
  len := by rw [h.tl]; exact h.len
  pr := fun i l o r hi hl => by
    obtain ⟨x, m, hx, hm, ho⟩ := h.en i r hi l o hl
    have le := h.len
    obtain ⟨q, hq, hql, hqc⟩ := h.lefts hms (scanRows 0 table []) [] (by simp) i x (by rw [← le]; exact (List.getElem?_eq_some_iff.mp hx).1) hx
    obtain ⟨q2, hq2, hql2, hqc2⟩ := h.lefts hms (scanRows 0 table []) [] (by simp) o (comp x m) (by rw [← le]; exact (List.getElem?_eq_some_iff.mp ho).1) ho
    rw [List.getD_eq_getElem?_getD, hq2, Option.getD_some, List.getD_eq_getElem?_getD, hq, Option.getD_some]
    apply List.ext_getElem?
    intro c
    by_cases hc : c < ms.length
    · obtain ⟨mc, hmc⟩ : ∃ mc, ms[c]? = some mc := ⟨_, List.getElem?_eq_getElem hc⟩
      obtain ⟨a, ha, hfa⟩ := hqc c mc hmc
      obtain ⟨b, hb, hfb⟩ := hqc2 c mc hmc
      obtain ⟨_, a2, _, _, hc2, hf2⟩ := h.at_ hfa hm
      rw [hb, List.getElem?_map, ha, Option.map_some, hc2]
      have imc := hms mc (List.mem_of_getElem? hmc)
      have imx := h.mp x (List.mem_of_getElem? hx)
      rw [comp_assoc imc.2 imx.1] at hf2
      rw [nd_inj h.nd hfb hf2]
    · rw [List.getElem?_eq_none (by omega), List.getElem?_eq_none (by simp; omega)]
end
end Mt
namespace Mt
theorem scanRow_le (i : Nat) : ∀ (row : List Nat) (l : Nat) (t : List (Nat × Nat)), t.length ≤ (scanRow i l row t).length
  | [], _, _ => Nat.le_refl _
  | o :: r, l, t => by
    simp only [scanRow]
    have h1 := scanRow_le i r (l + 1) (stp o i l t)
    have h2 : t.length ≤ (stp o i l t).length := by
      by_cases h : o = t.length + 1
      · rw [stp_new h]; simp
      · rw [stp_old h]; exact Nat.le_refl _
    omega
theorem scanRows_le : ∀ (rows : List (List Nat)) (i : Nat) (t : List (Nat × Nat)), t.length ≤ (scanRows i rows t).length
  | [], _, _ => Nat.le_refl _
  | row :: r, i, t => by
    simp only [scanRows]
    have h1 := scanRow_le i row 0 t
    have h2 := scanRows_le r (i + 1) (scanRow i 0 row t)
    omega
section
variable {t : List (List Nat)} {L : Nat}
theorem drop_get {α : Type} {l : List α} {i : Nat} {x : α} (h : l[i]? = some x) : l.drop i = x :: l.drop (i + 1) := by
  obtain ⟨h1, h2⟩ := List.getElem?_eq_some_iff.mp h
  rw [List.drop_eq_getElem_cons h1, h2]
theorem Good.col (g : Good t L) {x l : Nat} (hx : x < t.length) (hl : l < L) : ∃ rx, t[x]? = some rx ∧ rx[l]? = some (colR t l x) ∧ colR t l x < t.length := by
  have h1 : t[x]? = some t[x] := List.getElem?_eq_getElem hx
  have h2 := g.rl _ (List.getElem_mem hx)
  have h3 : l < (t[x]).length := by rw [h2]; exact hl
  have h4 : (t[x])[l]? = some (t[x])[l] := List.getElem?_eq_getElem h3
  have h5 : colR t l x = (t[x])[l] := by
    unfold colR
    simp only [List.getD_eq_getElem?_getD, h1, h4, Option.getD_some]
  exact ⟨t[x], h1, by rw [h5]; exact h4, by rw [h5]; exact g.en _ (List.getElem_mem hx) _ (List.getElem_mem h3)⟩
theorem Good.tree (g : Good t L) {k a l : Nat} (h : (scanRows 0 t [])[k]? = some (a, l)) : a ≤ k ∧ l < L ∧ a < t.length := by
  obtain ⟨h1, r, h2, h3⟩ := treeOk g.ord k a l h
  refine ⟨h1, ?_, (List.getElem?_eq_some_iff.mp h2).1⟩
  have := (List.getElem?_eq_some_iff.mp h3).1
  rw [g.rl r (List.mem_of_getElem? h2)] at this
  exact this
theorem Good.lefts (g : Good t L) : ∀ (N : Nat) (tr : List (Nat × Nat)), tr.length = N → ∀ t2, tr ++ t2 = scanRows 0 t [] → ∀ q ∈ leftsOf t tr, q.length = L ∧ ∀ x ∈ q, x < t.length := by
  intro N
  induction N with
  | zero =>
    intro tr ht t2 e q hq
    have : tr = [] := List.length_eq_zero_iff.mp ht
    subst this
    have hn : 0 < t.length := by have := g.n1; omega
    have h0 : t[0]? = some t[0] := List.getElem?_eq_getElem hn
    have : q = t[0] := by simpa [leftsOf, List.getD_eq_getElem?_getD, h0] using hq
    subst this
    exact ⟨g.rl _ (List.getElem_mem _), g.en _ (List.getElem_mem _)⟩
  | succ N ih =>
    intro tr ht t2 e q hq
    rcases List.eq_nil_or_concat tr with e0 | ⟨t', p, e0⟩
    · subst e0; simp at ht
    · rw [List.concat_eq_append] at e0
      subst e0
      have ht' : t'.length = N := by simpa using ht
      have e' : t' ++ (p :: t2) = scanRows 0 t [] := by rw [← e]; simp
      rw [leftsOf_snoc] at hq
      rcases List.mem_append.mp hq with hq | hq
      · exact ih t' ht' _ e' q hq
      · have hq2 : q = ((leftsOf t t').getD p.1 []).map (colR t p.2) := by simpa using hq
        obtain ⟨a, l⟩ := p
        have hp : (scanRows 0 t [])[t'.length]? = some (a, l) := by rw [← e']; simp
        obtain ⟨h1, h2, h3⟩ := g.tree hp
        have hn : a < (leftsOf t t').length := by rw [leftsOf_len]; omega
        have h4 : (leftsOf t t')[a]? = some (leftsOf t t')[a] := List.getElem?_eq_getElem hn
        obtain ⟨h5, h6⟩ := ih t' ht' _ e' _ (List.mem_of_getElem? h4)
        rw [hq2]
        simp only [List.getD_eq_getElem?_getD, h4, Option.getD_some]
        refine ⟨by rw [List.length_map]; exact h5, fun x hx => ?_⟩
        obtain ⟨y, hy, rfl⟩ := List.mem_map.mp hx
        obtain ⟨_, _, _, h7⟩ := g.col (h6 y hy) h2
        exact h7
theorem Good.left (g : Good t L) {k : Nat} (hk : k < t.length) : ∃ q, (leftsOf t (scanRows 0 t []))[k]? = some q ∧ q.length = L ∧ ∀ x ∈ q, x < t.length := by
  have hn : k < (leftsOf t (scanRows 0 t [])).length := by rw [leftsOf_len, ← g.len]; exact hk
  have h1 : (leftsOf t (scanRows 0 t []))[k]? = some (leftsOf t (scanRows 0 t []))[k] := List.getElem?_eq_getElem hn
  exact ⟨_, h1, g.lefts _ _ rfl [] (by simp) _ (List.mem_of_getElem? h1)⟩
end
end Mt

/-! counting words, letter by letter and one by one. -/
namespace Mt
open PySem
def addAt (a : List Nat) (o v : Nat) : List Nat := a.set o (a.getD o 0 + v)
def rowAdd (v : Nat) : List Nat → List Nat → List Nat
  | [], a => a
  | o :: r, a => rowAdd v r (addAt a o v)
def rowsAdd (c : List Nat) : Nat → List (List Nat) → List Nat → List Nat
  | _, [], a => a
  | i, row :: rs, a => rowsAdd c (i + 1) rs (rowAdd (c.getD i 0) row a)
def stepC (t : List (List Nat)) (c : List Nat) : List Nat := rowsAdd c 0 t (List.replicate c.length 0)
def cnt (t : List (List Nat)) : Nat → List Nat
  | 0 => 1 :: List.replicate (t.length - 1) 0
  | k + 1 => stepC t (cnt t k)
theorem addAt_len (a : List Nat) (o v : Nat) : (addAt a o v).length = a.length := by simp [addAt]
theorem rowAdd_len (v : Nat) : ∀ (r a : List Nat), (rowAdd v r a).length = a.length
  | [], _ => rfl
  | o :: r, a => by simp only [rowAdd]; rw [rowAdd_len v r, addAt_len]
theorem rowsAdd_len (c : List Nat) : ∀ (rs : List (List Nat)) (i : Nat) (a : List Nat), (rowsAdd c i rs a).length = a.length
  | [], _, _ => rfl
  | r :: rs, i, a => by simp only [rowsAdd]; rw [rowsAdd_len c rs, rowAdd_len]
theorem cnt_len {t : List (List Nat)} (h : 1 ≤ t.length) : ∀ k, (cnt t k).length = t.length
  | 0 => by simp [cnt]; omega
  | k + 1 => by simp only [cnt, stepC]; rw [rowsAdd_len, List.length_replicate, cnt_len h k]
theorem addAt_val (a : List Nat) (o v x : Nat) (h : o < a.length) : (addAt a o v).getD x 0 = a.getD x 0 + (if x = o then v else 0) := by
  unfold addAt
  simp only [List.getD_eq_getElem?_getD, List.getElem?_set]
  by_cases hx : x = o
  · subst hx; simp [h]
  · have : ¬ o = x := fun z => hx z.symm
    simp [hx, this]
theorem rowAdd_val (v x : Nat) : ∀ (r a : List Nat), (∀ o ∈ r, o < a.length) → (rowAdd v r a).getD x 0 = a.getD x 0 + v * r.count x
  | [], a, _ => by simp [rowAdd]
  | o :: r, a, h => by
    simp only [rowAdd]
    rw [rowAdd_val v x r _ (fun z hz => by rw [addAt_len]; exact h z (by simp [hz])), addAt_val _ _ _ _ (h o (by simp)), List.count_cons]
    by_cases hx : x = o
    · subst hx; simp [Nat.mul_add]; omega
    · have : ¬ o = x := fun z => hx z.symm
      simp [hx, this]
def sumW (c : List Nat) (x : Nat) : Nat → List (List Nat) → Nat
  | _, [] => 0
  | i, row :: rs => c.getD i 0 * row.count x + sumW c x (i + 1) rs
theorem rowsAdd_val (c : List Nat) (x : Nat) : ∀ (rs : List (List Nat)) (i : Nat) (a : List Nat), (∀ r ∈ rs, ∀ o ∈ r, o < a.length) → (rowsAdd c i rs a).getD x 0 = a.getD x 0 + sumW c x i rs
  | [], _, _, _ => by simp [rowsAdd, sumW]
  | r :: rs, i, a, h => by
    simp only [rowsAdd, sumW]
    rw [rowsAdd_val c x rs (i + 1) _ (fun q hq o ho => by rw [rowAdd_len]; exact h q (by simp [hq]) o ho), rowAdd_val _ _ _ _ (h r (by simp))]
    omega
/-- all products of k letters, one by one -/
def allP (n : Nat) (ms : List (List Nat)) : Nat → List (List Nat)
  | 0 => [List.range n]
  | k + 1 => (allP n ms k).flatMap fun x => ms.map (comp x)
theorem allP_len (n : Nat) (ms : List (List Nat)) : ∀ k, (allP n ms k).length = ms.length ^ k
  | 0 => by simp [allP]
  | k + 1 => by
    simp only [allP, List.length_flatMap]
    have : ∀ l : List (List Nat), (l.map fun x => (ms.map (comp x)).length).sum = l.length * ms.length := by
      intro l
      induction l with
      | nil => simp
      | cons a r ih => rw [List.map_cons, List.sum_cons, ih, List.length_map, List.length_cons, Nat.add_mul]; omega
    rw [this, allP_len n ms k, Nat.pow_succ]
/-- a sum over a list, by how often each stands in it -/
theorem sum_one {f : List Nat → Nat} {y : List Nat} : ∀ (l : List (List Nat)), l.Nodup → y ∈ l → (l.map fun x => if x = y then f x else 0).sum = f y
  | [], _, h => by simp at h
  | a :: r, nd, h => by
    have hn := List.nodup_cons.mp nd
    simp only [List.map_cons, List.sum_cons]
    by_cases e : a = y
    · subst e
      have z : (r.map fun x => if x = a then f x else 0).sum = 0 := by
        have : ∀ l : List (List Nat), a ∉ l → (l.map fun x => if x = a then f x else 0).sum = 0 := by
          intro l
          induction l with
          | nil => simp
          | cons b q ih =>
            intro hq
            have h1 : ¬ b = a := fun z => hq (by simp [z])
            simp only [List.map_cons, List.sum_cons, if_neg h1, ih (fun z => hq (by simp [z]))]
        exact this r hn.1
      simp [z]
    · rw [if_neg e, sum_one r hn.2 (by rcases List.mem_cons.mp h with z | z; exact absurd z.symm e; exact z)]
      omega
theorem sum_add (f g : List Nat → Nat) : ∀ (l : List (List Nat)), (l.map fun x => f x + g x).sum = (l.map f).sum + (l.map g).sum
  | [] => rfl
  | a :: r => by simp only [List.map_cons, List.sum_cons, sum_add f g r]; omega
theorem sum_by {f : List Nat → Nat} {found : List (List Nat)} (nd : found.Nodup) : ∀ (S : List (List Nat)), (∀ x ∈ S, x ∈ found) → (S.map f).sum = (found.map fun x => S.count x * f x).sum
  | [], _ => by
    have : ∀ l : List (List Nat), (l.map fun x => ([] : List (List Nat)).count x * f x).sum = 0 := by
      intro l
      induction l with
      | nil => rfl
      | cons a r ih => simp only [List.map_cons, List.sum_cons, ih]; simp
    rw [this]; rfl
  | y :: S, h => by
    simp only [List.map_cons, List.sum_cons]
    rw [sum_by nd S fun x hx => h x (by simp [hx])]
    have e : (found.map fun x => (y :: S).count x * f x) = found.map fun x => (if x = y then f x else 0) + S.count x * f x := by
      refine List.map_congr_left fun x _ => ?_
      rw [List.count_cons]
      by_cases e : x = y
      · subst e; simp [Nat.add_mul]; omega
      · have : ¬ y = x := fun z => e z.symm
        simp [e, this]
    rw [e, sum_add, sum_one found nd (h y (by simp))]
section
variable {n : Nat} {ms found table : List (List Nat)} {words : List Str}
theorem Tab.all (h : Tab n ms found words table) : ∀ k, ∀ x ∈ allP n ms k, x ∈ found
  | 0, x, hx => by
    have : x = List.range n := by simpa [allP] using hx
    subst this
    exact List.mem_of_getElem? h.one
  | k + 1, x, hx => by
    simp only [allP, List.mem_flatMap] at hx
    obtain ⟨y, hy, hm0⟩ := hx
    obtain ⟨m, hm, rfl⟩ := List.mem_map.mp hm0
    obtain ⟨i, hi⟩ := List.getElem?_of_mem (h.all k y hy)
    obtain ⟨l, hl⟩ := List.getElem?_of_mem hm
    obtain ⟨_, o, _, _, _, ho⟩ := h.at_ hi hl
    exact List.mem_of_getElem? ho
/-- how often a row leads to o -/
theorem Tab.cntRow (h : Tab n ms found words table) {i o : Nat} {x y r : List Nat} (hx : found[i]? = some x) (hr : table[i]? = some r) (hy : found[o]? = some y) : r.count o = (ms.map (comp x)).count y := by
  have key : ∀ (r : List Nat) (ms' : List (List Nat)), r.length = ms'.length → (∀ (l o : Nat) (m : List Nat), r[l]? = some o → ms'[l]? = some m → found[o]? = some (comp x m)) → r.count o = (ms'.map (comp x)).count y := by
    intro r
    induction r with
    | nil =>
      intro ms' e _
      cases ms' with
      | nil => rfl
      | cons _ _ => simp at e
    | cons a r ih =>
      intro ms' e q
      cases ms' with
      | nil => simp at e
      | cons m ms' =>
        rw [List.map_cons, List.count_cons, List.count_cons, ih ms' (by simpa using e) (fun l o' m' h1 h2 => q (l + 1) o' m' (by simpa using h1) (by simpa using h2))]
        have ha := q 0 a m (by simp) (by simp)
        by_cases z : a = o
        · subst z
          rw [hy] at ha
          cases ha
          simp
        · have : ¬ comp x m = y := fun w => z (nd_inj h.nd (by rw [w] at ha; exact ha) hy)
          simp [z, this]
  refine key r ms (h.rl r (List.mem_of_getElem? hr)) fun l o' m h1 h2 => ?_
  obtain ⟨x', m', e1, e2, e3⟩ := h.en i r hr l o' h1
  rw [hx] at e1
  rw [h2] at e2
  cases e1
  cases e2
  exact e3
theorem Tab.sumW (h : Tab n ms found words table) {c : List Nat} {S : List (List Nat)} {o : Nat} {y : List Nat} (hy : found[o]? = some y) (hc : ∀ (i : Nat) (x : List Nat), found[i]? = some x → c.getD i 0 = S.count x) :
    ∀ (rs fs : List (List Nat)) (i : Nat), rs = table.drop i → fs = found.drop i → Mt.sumW c o i rs = (fs.map fun x => S.count x * (ms.map (comp x)).count y).sum
  | [], fs, i, e1, e2 => by
    have : fs = [] := by
      rw [e2, List.drop_eq_nil_iff]
      have := e1.symm
      rw [List.drop_eq_nil_iff, h.tl] at this
      exact this
    subst this
    rfl
  | r :: rs, fs, i, e1, e2 => by
    have hi : i < table.length := by
      rcases Nat.lt_or_ge i table.length with z | z
      · exact z
      · rw [List.drop_eq_nil_of_le z] at e1; cases e1
    have hi2 : i < found.length := by rw [← h.tl]; exact hi
    rw [List.drop_eq_getElem_cons hi] at e1
    rw [List.drop_eq_getElem_cons hi2] at e2
    have h1 : r = table[i] := (List.cons.inj e1).1
    have h2 : rs = table.drop (i + 1) := (List.cons.inj e1).2
    have hx : found[i]? = some found[i] := List.getElem?_eq_getElem hi2
    have hr : table[i]? = some r := by rw [h1]; exact List.getElem?_eq_getElem hi
    rw [e2]
    simp only [Mt.sumW, List.map_cons, List.sum_cons]
    rw [h.sumW hy hc rs _ (i + 1) h2 rfl, hc i _ hx, h.cntRow hx hr hy]
theorem count_flat (y : List Nat) (f : List Nat → List (List Nat)) : ∀ (S : List (List Nat)), (S.flatMap f).count y = (S.map fun x => (f x).count y).sum
  | [] => rfl
  | a :: r => by rw [List.flatMap_cons, List.count_append, count_flat y f r]; rfl
/-- letter by letter is one by one -/
theorem Tab.cnt (h : Tab n ms found words table) : ∀ k, Mt.cnt table k = found.map fun x => (allP n ms k).count x := by
  have n1 : 1 ≤ table.length := by rw [h.tl, h.len]; omega
  have fromVal : ∀ k, (∀ (i : Nat) (x : List Nat), found[i]? = some x → (Mt.cnt table k).getD i 0 = (allP n ms k).count x) → Mt.cnt table k = found.map fun x => (allP n ms k).count x := by
    intro k hv
    apply List.ext_getElem?
    intro i
    rw [List.getElem?_map]
    by_cases hi : i < found.length
    · have hx : found[i]? = some found[i] := List.getElem?_eq_getElem hi
      have h1 : i < (Mt.cnt table k).length := by rw [cnt_len n1, h.tl]; exact hi
      have h2 := hv i _ hx
      rw [List.getD_eq_getElem?_getD, List.getElem?_eq_getElem h1, Option.getD_some] at h2
      rw [hx, Option.map_some, List.getElem?_eq_getElem h1, h2]
    · rw [List.getElem?_eq_none (by rw [cnt_len n1, h.tl]; omega), List.getElem?_eq_none (by omega)]
      rfl
  intro k
  induction k with
  | zero =>
    refine fromVal 0 fun i x hx => ?_
    have h0 := h.one
    have e : (allP n ms 0).count x = if i = 0 then 1 else 0 := by
      simp only [allP, List.count_cons, List.count_nil]
      by_cases z : i = 0
      · subst z
        rw [hx] at h0
        cases h0
        simp
      · have : ¬ List.range n = x := fun w => z (nd_inj h.nd hx (by rw [← w]; exact h0))
        simp [z, this]
    rw [e]
    cases i with
    | zero => simp [Mt.cnt]
    | succ j =>
      simp only [Mt.cnt, List.getD_eq_getElem?_getD, List.getElem?_cons_succ]
      by_cases z : j < table.length - 1
      · rw [List.getElem?_replicate, if_pos z]; simp
      · rw [List.getElem?_replicate, if_neg z]; simp
  | succ k ih =>
    refine fromVal (k + 1) fun o y hy => ?_
    have hc : ∀ (i : Nat) (x : List Nat), found[i]? = some x → (Mt.cnt table k).getD i 0 = (allP n ms k).count x := fun i x hx => by
      rw [ih, List.getD_eq_getElem?_getD, List.getElem?_map, hx]; rfl
    simp only [Mt.cnt, stepC]
    rw [rowsAdd_val _ _ _ _ _ (fun r hr o' ho' => by
      rw [List.length_replicate, cnt_len n1]
      obtain ⟨i, hi⟩ := List.getElem?_of_mem hr
      obtain ⟨l, hl⟩ := List.getElem?_of_mem ho'
      obtain ⟨_, _, _, _, h3⟩ := h.en i r hi l o' hl
      rw [h.tl]
      exact (List.getElem?_eq_some_iff.mp h3).1)]
    have z0 : (List.replicate (Mt.cnt table k).length 0).getD o 0 = 0 := by
      rw [List.getD_eq_getElem?_getD, List.getElem?_replicate]
      split <;> rfl
    rw [z0, Nat.zero_add, h.sumW hy hc table found 0 (by simp) (by simp)]
    simp only [allP]
    rw [count_flat, sum_by h.nd _ (h.all k)]
theorem Tab.sum (h : Tab n ms found words table) (k : Nat) : (Mt.cnt table k).sum = ms.length ^ k := by
  rw [h.cnt k, ← allP_len n ms k]
  have e := sum_by (f := fun _ => 1) h.nd (allP n ms k) (h.all k)
  have e2 : ((allP n ms k).map fun _ => 1).sum = (allP n ms k).length := by
    generalize allP n ms k = l
    induction l with
    | nil => rfl
    | cons a r ih => simp only [List.map_cons, List.sum_cons, ih, List.length_cons]; omega
  rw [e2] at e
  simp only [Nat.mul_one] at e
  exact e.symm
end
end Mt

namespace Mt
open PySem
theorem strLen (a b : Str) : (a ++ b).length = a.length + b.length := by
  show (a.cps ++ b.cps).size = a.cps.size + b.cps.size
  simp
/-- the lengths of the words -/
def lenOf (t : List (Nat × Nat)) : List Nat := t.foldl (fun ls p => ls ++ [ls.getD p.1 0 + 1]) [0]
theorem lenOf_snoc (t : List (Nat × Nat)) (p : Nat × Nat) : lenOf (t ++ [p]) = lenOf t ++ [(lenOf t).getD p.1 0 + 1] := by
  unfold lenOf
  rw [List.foldl_append]
  rfl
theorem lens_of : ∀ (N : Nat) (t : List (Nat × Nat)), t.length = N → (wordsOf t).map (fun w => w.length) = lenOf t := by
  intro N
  induction N with
  | zero =>
    intro t ht
    have : t = [] := List.length_eq_zero_iff.mp ht
    subst this
    rfl
  | succ N ih =>
    intro t ht
    rcases List.eq_nil_or_concat t with e0 | ⟨t', p, e0⟩
    · subst e0; simp at ht
    · rw [List.concat_eq_append] at e0
      subst e0
      have ht' : t'.length = N := by simpa using ht
      rw [wordsOf_snoc, lenOf_snoc, List.map_append, ih t' ht', ← ih t' ht']
      simp only [List.map_cons, List.map_nil]
      rw [strLen]
      have e1 : (letS p.2).length = 1 := rfl
      rw [e1]
      congr 3
      simp only [List.getD_eq_getElem?_getD, List.getElem?_map]
      cases (wordsOf t')[p.1]? <;> rfl
theorem lenOf_len (t : List (Nat × Nat)) : (lenOf t).length = t.length + 1 := by
  rw [← lens_of _ t rfl, List.length_map, wordsOf_len]
/-- rows are met in order -/
def Asc (i : Nat) (t : List (Nat × Nat)) : Prop := t.Pairwise (fun p q => p.1 ≤ q.1) ∧ ∀ p ∈ t, p.1 ≤ i
theorem asc_row (i : Nat) : ∀ (row : List Nat) (l : Nat) (t : List (Nat × Nat)), Asc i t → Asc i (scanRow i l row t)
  | [], _, _, h => h
  | o :: r, l, t, h => by
    simp only [scanRow]
    refine asc_row i r (l + 1) _ ?_
    by_cases ho : o = t.length + 1
    · rw [stp_new ho]
      refine ⟨List.pairwise_append.mpr ⟨h.1, by simp, fun p hp q hq => ?_⟩, fun p hp => ?_⟩
      · have : q = (i, l) := by simpa using hq
        subst this
        exact h.2 p hp
      · rcases List.mem_append.mp hp with z | z
        · exact h.2 p z
        · have : p = (i, l) := by simpa using z
          subst this
          exact Nat.le_refl _
    · rw [stp_old ho]; exact h
theorem asc_rows : ∀ (rows : List (List Nat)) (i : Nat) (t : List (Nat × Nat)), Asc i t → (scanRows i rows t).Pairwise (fun p q => p.1 ≤ q.1)
  | [], _, _, h => h.1
  | row :: rs, i, t, h => by
    simp only [scanRows]
    have h1 := asc_row i row 0 t h
    exact asc_rows rs (i + 1) _ ⟨h1.1, fun p hp => Nat.le_succ_of_le (h1.2 p hp)⟩
theorem asc (t : List (List Nat)) : (scanRows 0 t []).Pairwise (fun p q => p.1 ≤ q.1) := asc_rows t 0 [] ⟨by simp, by simp⟩
/-- how lengths go on -/
theorem lenOf_at : ∀ (N : Nat) (t : List (Nat × Nat)), t.length = N → ∀ (k a l : Nat), t[k]? = some (a, l) → a ≤ k → (lenOf t).getD (k + 1) 0 = (lenOf t).getD a 0 + 1 := by
  intro N
  induction N with
  | zero =>
    intro t ht k a l h _
    have : t = [] := List.length_eq_zero_iff.mp ht
    subst this
    simp at h
  | succ N ih =>
    intro t ht k a l h hak
    rcases List.eq_nil_or_concat t with e0 | ⟨t', p, e0⟩
    · subst e0; simp at ht
    · rw [List.concat_eq_append] at e0
      subst e0
      have ht' : t'.length = N := by simpa using ht
      rw [lenOf_snoc]
      have keep : ∀ j, j < t'.length + 1 → (lenOf t' ++ [(lenOf t').getD p.1 0 + 1]).getD j 0 = (lenOf t').getD j 0 := fun j hj => by
        simp only [List.getD_eq_getElem?_getD]
        rw [List.getElem?_append_left (by rw [lenOf_len]; exact hj)]
      by_cases hk : k < t'.length
      · rw [List.getElem?_append_left hk] at h
        rw [keep (k + 1) (by omega), keep a (by omega)]
        exact ih t' ht' k a l h hak
      · have hk2 : k = t'.length := by
          have := (List.getElem?_eq_some_iff.mp h).1
          simp at this
          omega
        subst hk2
        rw [List.getElem?_append_right (Nat.le_refl _)] at h
        simp at h
        subst h
        rw [keep a (by omega)]
        rw [List.getD_eq_getElem?_getD, List.getElem?_append_right (by rw [lenOf_len]; exact Nat.le_refl _), lenOf_len]
        simp
section
variable {t : List (Nat × Nat)} (h1 : ∀ (k a l : Nat), t[k]? = some (a, l) → a ≤ k) (h2 : t.Pairwise (fun p q => p.1 ≤ q.1))
include h1 h2
theorem len_step : ∀ k, k < t.length → (lenOf t).getD k 0 ≤ (lenOf t).getD (k + 1) 0 ∧ (lenOf t).getD (k + 1) 0 ≤ (lenOf t).getD k 0 + 1 := by
  intro k
  induction k using Nat.strongRecOn with
  | _ k ih =>
    intro hk
    have mono : ∀ d i, i + d ≤ k → (lenOf t).getD i 0 ≤ (lenOf t).getD (i + d) 0 := by
      intro d
      induction d with
      | zero => intro i _; exact Nat.le_refl _
      | succ d ihd =>
        intro i hi
        have a1 := ihd i (by omega)
        have a2 := (ih (i + d) (by omega) (by omega)).1
        rw [show i + (d + 1) = i + d + 1 by omega]
        omega
    obtain ⟨a, l, hal⟩ : ∃ a l, t[k]? = some (a, l) := ⟨_, _, List.getElem?_eq_getElem hk⟩
    have ha := h1 k a l hal
    have e := lenOf_at _ t rfl k a l hal ha
    have m1 := mono (k - a) a (by omega)
    rw [show a + (k - a) = k by omega] at m1
    refine ⟨?_, by omega⟩
    cases k with
    | zero =>
      have : a = 0 := by omega
      subst this
      omega
    | succ j =>
      obtain ⟨b, l', hbl⟩ : ∃ b l', t[j]? = some (b, l') := ⟨_, _, List.getElem?_eq_getElem (by omega : j < t.length)⟩
      have hb := h1 j b l' hbl
      have e2 := lenOf_at _ t rfl j b l' hbl hb
      have hba : b ≤ a := by
        have pw := List.pairwise_iff_getElem.mp h2 j (j + 1) (by omega) hk (by omega)
        obtain ⟨q1, q2⟩ := List.getElem?_eq_some_iff.mp hbl
        obtain ⟨q3, q4⟩ := List.getElem?_eq_some_iff.mp hal
        rw [q2, q4] at pw
        exact pw
      have m2 := mono (a - b) b (by omega)
      rw [show b + (a - b) = a by omega] at m2
      omega
theorem len_mono : ∀ d i, i + d ≤ t.length → (lenOf t).getD i 0 ≤ (lenOf t).getD (i + d) 0 := by
  intro d
  induction d with
  | zero => intro i _; exact Nat.le_refl _
  | succ d ih =>
    intro i hi
    have a1 := ih i (by omega)
    have a2 := (len_step h1 h2 (i + d) (by omega)).1
    rw [show i + (d + 1) = i + d + 1 by omega]
    omega
/-- the last one is the greatest -/
theorem len_last : ∀ x ∈ lenOf t, x ≤ (lenOf t).getD t.length 0 := by
  intro x hx
  obtain ⟨i, hi⟩ := List.getElem?_of_mem hx
  have hl := (List.getElem?_eq_some_iff.mp hi).1
  rw [lenOf_len] at hl
  have m := len_mono h1 h2 (t.length - i) i (by omega)
  rw [show i + (t.length - i) = t.length by omega] at m
  rw [List.getD_eq_getElem?_getD, hi] at m
  exact m
theorem len_all : ∀ k, k ≤ t.length → ∀ l, l ≤ (lenOf t).getD k 0 → l ∈ lenOf t := by
  have at0 : (lenOf t).getD 0 0 = 0 := by
    have : ∀ (N : Nat) (t : List (Nat × Nat)), t.length = N → (lenOf t)[0]? = some 0 := by
      intro N
      induction N with
      | zero =>
        intro t ht
        have : t = [] := List.length_eq_zero_iff.mp ht
        subst this
        rfl
      | succ N ih =>
        intro t ht
        rcases List.eq_nil_or_concat t with e0 | ⟨t', p, e0⟩
        · subst e0; simp at ht
        · rw [List.concat_eq_append] at e0
          subst e0
          rw [lenOf_snoc, List.getElem?_append_left (by rw [lenOf_len]; omega)]
          exact ih t' (by simpa using ht)
    rw [List.getD_eq_getElem?_getD, this _ t rfl]
    rfl
  have inl : ∀ k, k ≤ t.length → (lenOf t).getD k 0 ∈ lenOf t := fun k hk => by
    have hn : k < (lenOf t).length := by rw [lenOf_len]; omega
    rw [List.getD_eq_getElem?_getD, List.getElem?_eq_getElem hn]
    exact List.getElem_mem hn
  intro k
  induction k with
  | zero =>
    intro _ l hl
    rw [at0] at hl
    have : l = 0 := by omega
    subst this
    have := inl 0 (by omega)
    rw [at0] at this
    exact this
  | succ k ih =>
    intro hk l hl
    have s := len_step h1 h2 k (by omega)
    by_cases z : l ≤ (lenOf t).getD k 0
    · exact ih (by omega) l z
    · have : l = (lenOf t).getD (k + 1) 0 := by omega
      rw [this]
      exact inl (k + 1) hk
end
/-- the growth -/
theorem grow_eq (ls : List Nat) (m : Nat) (h : ∀ x ∈ ls, x ≤ m) : rowAdd 1 ls (List.replicate (m + 1) 0) = (List.range (m + 1)).map fun x => ls.count x := by
  apply List.ext_getElem?
  intro i
  have hl : (rowAdd 1 ls (List.replicate (m + 1) 0)).length = m + 1 := by rw [rowAdd_len, List.length_replicate]
  by_cases hi : i < m + 1
  · have v := rowAdd_val 1 i ls (List.replicate (m + 1) 0) (fun o ho => by rw [List.length_replicate]; have := h o ho; omega)
    rw [List.getD_eq_getElem?_getD, List.getElem?_eq_getElem (by rw [hl]; exact hi), Option.getD_some] at v
    rw [List.getElem?_map, List.getElem?_range hi, List.getElem?_eq_getElem (by rw [hl]; exact hi), v]
    have z : (List.replicate (m + 1) 0).getD i 0 = 0 := by
      rw [List.getD_eq_getElem?_getD, List.getElem?_replicate]; split <;> rfl
    rw [z]
    simp
  · rw [List.getElem?_eq_none (by rw [hl]; omega), List.getElem?_eq_none (by simp; omega)]
end Mt

/-! words as steps; products, powers. -/
namespace Mt
open PySem
def act (t : List (List Nat)) (x : Nat) (path : List Nat) : Nat := path.foldl (fun x l => colR t l x) x
theorem act_snoc (t : List (List Nat)) (x : Nat) (p : List Nat) (l : Nat) : act t x (p ++ [l]) = colR t l (act t x p) := by
  simp [act, List.foldl_append]
theorem act_app (t : List (List Nat)) (x : Nat) (p q : List Nat) : act t x (p ++ q) = act t (act t x p) q := by
  simp [act, List.foldl_append]
theorem act_cons (t : List (List Nat)) (x l : Nat) (p : List Nat) : act t x (l :: p) = act t (colR t l x) p := rfl
/-- the places of the letters of a word -/
def lets (w : Str) : List Nat := w.cps.toList.map (· - 97)
theorem lets_app (a b : Str) : lets (a ++ b) = lets a ++ lets b := by
  show ((a.cps ++ b.cps).toList).map _ = _
  rw [Array.toList_append, List.map_append]
  rfl
theorem lets_let (l : Nat) : lets (letS l) = [l] := by
  show ([97 + l] : List Nat).map (· - 97) = [l]
  simp
theorem lets_len (w : Str) : (lets w).length = w.length := by
  simp [lets, Str.length]
/-- the path of an element -/
def pathOf (t : List (List Nat)) (k : Nat) : List Nat := lets ((wordsOf (scanRows 0 t [])).getD k ⟨#[]⟩)
/-- words of letters up to L -/
def WordL (L : Nat) (w : Str) : Prop := ∀ c ∈ w.cps.toList, 97 ≤ c ∧ c < 97 + L
theorem wordL_app {L : Nat} {a b : Str} (h1 : WordL L a) (h2 : WordL L b) : WordL L (a ++ b) := by
  intro c hc
  have e : (a ++ b).cps.toList = a.cps.toList ++ b.cps.toList := by show (a.cps ++ b.cps).toList = _; rw [Array.toList_append]
  rw [e] at hc
  rcases List.mem_append.mp hc with z | z
  · exact h1 c z
  · exact h2 c z
theorem wordL_let {L l : Nat} (h : l < L) : WordL L (letS l) := by
  intro c hc
  have : c = 97 + l := by
    have hc' : c ∈ ([97 + l] : List Nat) := hc
    simpa using hc'
  omega
theorem lets_lt {L : Nat} {w : Str} (h : WordL L w) : ∀ l ∈ lets w, l < L := by
  intro l hl
  obtain ⟨c, hc, rfl⟩ := List.mem_map.mp hl
  have := h c hc
  omega
section
variable {t : List (List Nat)} {L : Nat}
theorem wordsOf_run (g : Good t L) : ∀ (N : Nat) (tr : List (Nat × Nat)), tr.length = N → ∀ t2, tr ++ t2 = scanRows 0 t [] → ∀ k, k < tr.length + 1 → ∃ w, (wordsOf tr)[k]? = some w ∧ WordL L w ∧ act t 0 (lets w) = k := by
  intro N
  induction N with
  | zero =>
    intro tr ht t2 _ k hk
    have : tr = [] := List.length_eq_zero_iff.mp ht
    subst this
    have : k = 0 := by simpa using hk
    subst this
    exact ⟨⟨#[]⟩, rfl, fun c hc => by simp at hc, rfl⟩
  | succ N ih =>
    intro tr ht t2 e k hk
    rcases List.eq_nil_or_concat tr with e0 | ⟨tr', p, e0⟩
    · subst e0; simp at ht
    · rw [List.concat_eq_append] at e0
      subst e0
      have ht' : tr'.length = N := by simpa using ht
      have e' : tr' ++ (p :: t2) = scanRows 0 t [] := by rw [← e]; simp
      have hl : (wordsOf tr').length = tr'.length + 1 := wordsOf_len _
      rw [wordsOf_snoc]
      by_cases hk2 : k < tr'.length + 1
      · obtain ⟨w, h1, h2, h3⟩ := ih tr' ht' (p :: t2) e' k hk2
        exact ⟨w, by rw [List.getElem?_append_left (by omega)]; exact h1, h2, h3⟩
      · have hkk : k = tr'.length + 1 := by simp at hk; omega
        subst hkk
        obtain ⟨a, l⟩ := p
        have hp : (scanRows 0 t [])[tr'.length]? = some (a, l) := by
          rw [← e']
          simp
        obtain ⟨c1, c2, c3⟩ := g.tree hp
        obtain ⟨_, r, hr1, hr2⟩ := treeOk g.ord _ _ _ hp
        obtain ⟨w, h1, h2, h3⟩ := ih tr' ht' _ e' a (by omega)
        have eg : (wordsOf tr').getD a ⟨#[]⟩ = w := by rw [List.getD_eq_getElem?_getD, h1]; rfl
        refine ⟨w ++ letS l, ?_, wordL_app h2 (wordL_let c2), ?_⟩
        · rw [List.getElem?_append_right (by omega), hl]
          show [(wordsOf tr').getD a ⟨#[]⟩ ++ letS l][tr'.length + 1 - (tr'.length + 1)]? = _
          rw [eg, Nat.sub_self]
          rfl
        · rw [lets_app, lets_let, act_snoc, h3]
          unfold colR
          rw [List.getD_eq_getElem?_getD, List.getD_eq_getElem?_getD, hr1, Option.getD_some, hr2]
          rfl
theorem Good.word (g : Good t L) {k : Nat} (hk : k < t.length) : ∃ w, (wordsOf (scanRows 0 t []))[k]? = some w ∧ WordL L w ∧ act t 0 (lets w) = k ∧ pathOf t k = lets w := by
  obtain ⟨w, h1, h2, h3⟩ := wordsOf_run g _ (scanRows 0 t []) rfl [] (by simp) k (by rw [← g.len]; exact hk)
  exact ⟨w, h1, h2, h3, by unfold pathOf; rw [List.getD_eq_getElem?_getD, h1]; rfl⟩
theorem Good.path (g : Good t L) {k : Nat} (hk : k < t.length) : act t 0 (pathOf t k) = k ∧ ∀ l ∈ pathOf t k, l < L := by
  obtain ⟨w, _, h2, h3, h4⟩ := g.word hk
  rw [h4]
  exact ⟨h3, lets_lt h2⟩
theorem Good.act_lt (g : Good t L) : ∀ (p : List Nat) (x : Nat), x < t.length → (∀ l ∈ p, l < L) → act t x p < t.length
  | [], x, hx, _ => hx
  | l :: p, x, hx, hl => by
    obtain ⟨_, _, _, h⟩ := g.col hx (hl l (by simp))
    exact g.act_lt p _ h fun m hm => hl m (by simp [hm])
end
section
variable {n : Nat} {ms found table : List (List Nat)} {words : List Str}
/-- what a word does -/
def doP (ms : List (List Nat)) (x : List Nat) (p : List Nat) : List Nat := p.foldl (fun x l => comp x (ms.getD l [])) x
theorem Tab.act (h : Tab n ms found words table) : ∀ (p : List Nat) (i : Nat) (x : List Nat), found[i]? = some x → (∀ l ∈ p, l < ms.length) → found[Mt.act table i p]? = some (doP ms x p)
  | [], i, x, hx, _ => hx
  | l :: p, i, x, hx, hl => by
    have hl0 := hl l (by simp)
    have hm : ms[l]? = some (ms.getD l []) := by
      rw [List.getD_eq_getElem?_getD, List.getElem?_eq_getElem hl0]; rfl
    obtain ⟨_, o, _, _, ho, hf⟩ := h.at_ hx hm
    rw [act_cons, ho]
    exact h.act p o _ hf fun m hm => hl m (by simp [hm])
theorem doP_comp {n : Nat} (hms : ∀ m ∈ ms, IsMap n m) : ∀ (p : List Nat) (x : List Nat), IsMap n x → (∀ l ∈ p, l < ms.length) → doP ms x p = comp x (doP ms (List.range n) p) ∧ IsMap n (doP ms (List.range n) p) := by
  have key : ∀ (N : Nat) (p : List Nat), p.length = N → ∀ x, IsMap n x → (∀ l ∈ p, l < ms.length) → doP ms x p = comp x (doP ms (List.range n) p) ∧ IsMap n (doP ms (List.range n) p) := by
    intro N
    induction N with
    | zero =>
      intro p hp x hx _
      have : p = [] := List.length_eq_zero_iff.mp hp
      subst this
      exact ⟨(comp_one hx).symm, isMap_range n⟩
    | succ N ih =>
      intro p hp x hx hl
      rcases List.eq_nil_or_concat p with e0 | ⟨p', l, e0⟩
      · subst e0; simp at hp
      · rw [List.concat_eq_append] at e0
        subst e0
        obtain ⟨h1, h2⟩ := ih p' (by simpa using hp) x hx fun m hm => hl m (by simp [hm])
        have hl0 := hl l (by simp)
        have im : IsMap n (ms.getD l []) := by
          rw [List.getD_eq_getElem?_getD, List.getElem?_eq_getElem hl0]
          exact hms _ (List.getElem_mem _)
        have e1 : ∀ y, doP ms y (p' ++ [l]) = comp (doP ms y p') (ms.getD l []) := fun y => by simp [doP, List.foldl_append]
        rw [e1, e1, h1]
        exact ⟨comp_assoc hx.2 h2.1, isMap_comp h2 im⟩
  exact fun p x => key _ p rfl x
/-- the product of two elements -/
theorem Tab.mul (h : Tab n ms found words table) (g : Good table ms.length) (hms : ∀ m ∈ ms, IsMap n m) {i j : Nat} {x y : List Nat} (hx : found[i]? = some x) (hy : found[j]? = some y) : found[Mt.act table i (pathOf table j)]? = some (comp x y) := by
  have hj : j < table.length := by rw [h.tl]; exact (List.getElem?_eq_some_iff.mp hy).1
  obtain ⟨p1, p2⟩ := g.path hj
  have ix := h.mp x (List.mem_of_getElem? hx)
  have e1 := h.act (pathOf table j) i x hx p2
  have e2 := h.act (pathOf table j) 0 _ h.one p2
  rw [p1, hy] at e2
  rw [e1, (doP_comp hms _ x ix p2).1]
  cases e2
  rfl
end
end Mt

/-! powers, cycles. -/
namespace Mt
open PySem
def mulE (t : List (List Nat)) (x y : Nat) : Nat := act t x (pathOf t y)
/-- by squares -/
def powA (t : List (List Nat)) (f s : Nat) (c : Nat) : Nat := if h : c = 0 then f else powA t (if c % 2 = 1 then mulE t f s else f) (mulE t s s) (c / 2)
termination_by c
decreasing_by omega
theorem powA_zero (t : List (List Nat)) (f s : Nat) : powA t f s 0 = f := by rw [powA]; rfl
theorem powA_step (t : List (List Nat)) (f s c : Nat) (h : c ≠ 0) : powA t f s c = powA t (if c % 2 = 1 then mulE t f s else f) (mulE t s s) (c / 2) := by
  rw [powA, dif_neg h]
/-- one by one -/
def pw (t : List (List Nat)) (x : Nat) : Nat → Nat
  | 0 => 0
  | k + 1 => mulE t (pw t x k) x
/-- the first power that comes again is that with k, as with i -/
structure Cyc {α : Type} (f : Nat → α) (i k : Nat) : Prop where
  lt : i < k
  eq : f i = f k
  ne : ∀ a b, a < b → b < k → f a ≠ f b
theorem Cyc.unique {α : Type} {f : Nat → α} {i k i' k' : Nat} (h : Cyc f i k) (h' : Cyc f i' k') : i = i' ∧ k = k' := by
  have hk : k = k' := by
    rcases Nat.lt_trichotomy k k' with z | z | z
    · exact absurd h.eq (h'.ne i k h.lt z)
    · exact z
    · exact absurd h'.eq (h.ne i' k' h'.lt z)
  subst hk
  refine ⟨?_, rfl⟩
  rcases Nat.lt_trichotomy i i' with z | z | z
  · exact absurd (h.eq.trans h'.eq.symm) (h.ne i i' z h'.lt)
  · exact z
  · exact absurd (h'.eq.trans h.eq.symm) (h.ne i' i z h.lt)
section
variable {t : List (List Nat)} {L : Nat}
theorem Good.mul_lt (g : Good t L) {x y : Nat} (hx : x < t.length) (hy : y < t.length) : mulE t x y < t.length := g.act_lt _ _ hx (g.path hy).2
theorem Good.pw_lt (g : Good t L) {x : Nat} (hx : x < t.length) : ∀ k, pw t x k < t.length
  | 0 => g.n1
  | k + 1 => g.mul_lt (g.pw_lt hx k) hx
end
section
variable {n : Nat} {ms found table : List (List Nat)} {words : List Str}
/-- powers of maps -/
def pwM (n : Nat) (x : List Nat) : Nat → List Nat
  | 0 => List.range n
  | k + 1 => comp (pwM n x k) x
theorem isMap_pw {n : Nat} {x : List Nat} (h : IsMap n x) : ∀ k, IsMap n (pwM n x k)
  | 0 => isMap_range n
  | k + 1 => isMap_comp (isMap_pw h k) h
theorem pwM_add {n : Nat} {x : List Nat} (h : IsMap n x) (a : Nat) : ∀ b, pwM n x (a + b) = comp (pwM n x a) (pwM n x b)
  | 0 => (comp_one (isMap_pw h a)).symm
  | b + 1 => by
    show comp (pwM n x (a + b)) x = comp (pwM n x a) (comp (pwM n x b) x)
    rw [pwM_add h a b, comp_assoc (isMap_pw h a).2 (isMap_pw h b).1]
theorem pwM_sq {n : Nat} {x : List Nat} (h : IsMap n x) : ∀ c, pwM n (comp x x) c = pwM n x (2 * c)
  | 0 => rfl
  | c + 1 => by
    show comp (pwM n (comp x x) c) (comp x x) = pwM n x (2 * c + 1 + 1)
    rw [pwM_sq h c]
    show _ = comp (comp (pwM n x (2 * c)) x) x
    rw [comp_assoc (isMap_pw h _).2 h.1]
theorem pwM_one {n : Nat} {x : List Nat} (h : IsMap n x) : pwM n x 1 = x := one_comp h
theorem Tab.pow (h : Tab n ms found words table) (g : Good table ms.length) (hms : ∀ m ∈ ms, IsMap n m) : ∀ (c f s : Nat) (x y : List Nat), found[f]? = some x → found[s]? = some y → found[powA table f s c]? = some (comp x (pwM n y c)) := by
  intro c
  induction c using Nat.strongRecOn with
  | _ c ih =>
    intro f s x y hx hy
    have ix := h.mp x (List.mem_of_getElem? hx)
    have iy := h.mp y (List.mem_of_getElem? hy)
    by_cases h0 : c = 0
    · subst h0
      rw [powA_zero]
      show found[f]? = some (comp x (List.range n))
      rw [comp_one ix]
      exact hx
    · rw [powA_step _ _ _ _ h0]
      have hsq : found[mulE table s s]? = some (comp y y) := h.mul g hms hy hy
      have hfs : found[mulE table f s]? = some (comp x y) := h.mul g hms hx hy
      by_cases h1 : c % 2 = 1
      · rw [if_pos h1, ih (c / 2) (by omega) _ _ _ _ hfs hsq, pwM_sq iy]
        have e : c = 1 + 2 * (c / 2) := by omega
        congr 1
        conv => rhs; rw [e]
        rw [pwM_add iy, pwM_one iy, comp_assoc ix.2 iy.1]
      · rw [if_neg h1, ih (c / 2) (by omega) _ _ _ _ hx hsq, pwM_sq iy]
        have e : 2 * (c / 2) = c := by omega
        rw [e]
theorem Tab.pw (h : Tab n ms found words table) (g : Good table ms.length) (hms : ∀ m ∈ ms, IsMap n m) {i : Nat} {x : List Nat} (hx : found[i]? = some x) : ∀ k, found[Mt.pw table i k]? = some (pwM n x k)
  | 0 => h.one
  | k + 1 => h.mul g hms (h.pw g hms hx k) hx
/-- great counts go round the cycle -/
theorem pwM_round {n : Nat} {x : List Nat} (h : IsMap n x) {i k : Nat} (hik : i < k) (e : pwM n x i = pwM n x k) : ∀ c, i ≤ c → pwM n x c = pwM n x (i + (c - i) % (k - i)) := by
  intro c
  induction c using Nat.strongRecOn with
  | _ c ih =>
    intro hc
    by_cases h1 : c < k
    · have : (c - i) % (k - i) = c - i := Nat.mod_eq_of_lt (by omega)
      rw [this]
      congr 1
      omega
    · have e1 : pwM n x c = pwM n x (c - (k - i)) := by
        have e2 : c = k + (c - k) := by omega
        have e3 : c - (k - i) = i + (c - k) := by omega
        rw [e3, pwM_add h i, e, ← pwM_add h k]
        congr 1
      rw [e1, ih (c - (k - i)) (by omega) (by omega)]
      congr 2
      have e4 : c - i = (c - (k - i) - i) + (k - i) := by omega
      rw [e4, Nat.add_mod_right]
end
end Mt

/-! MGen: tables in the order of least words, of elements of any kind. -/
namespace Mt
/-- a monoid of the things that are ok -/
structure GM {α : Type} (mul : α → α → α) (one : α) (ok : α → Prop) : Prop where
  ok1 : ok one
  okm : ∀ {x y}, ok x → ok y → ok (mul x y)
  as : ∀ {x y z}, ok x → ok y → ok z → mul (mul x y) z = mul x (mul y z)
  ol : ∀ {x}, ok x → mul one x = x
  or : ∀ {x}, ok x → mul x one = x
/-- the table so far: rows done, a row under way -/
structure GI {α : Type} (mul : α → α → α) (one : α) (ok : α → Prop) (gs found : List α) (rows : List (List Nat)) (row : List Nat) : Prop where
  one : found[0]? = some one
  nd : found.Nodup
  mp : ∀ x ∈ found, ok x
  len : found.length = (scanRow rows.length 0 row (scanRows 0 rows [])).length + 1
  o1 : ordRows 0 rows []
  o2 : ordRow rows.length 0 row (scanRows 0 rows [])
  rl : ∀ r ∈ rows, r.length = gs.length
  en : ∀ (i : Nat) (r : List Nat), rows[i]? = some r → ∀ (l o : Nat), r[l]? = some o → ∃ x m : α, found[i]? = some x ∧ gs[l]? = some m ∧ found[o]? = some (mul x m)
  en2 : ∀ (l o : Nat), row[l]? = some o → ∃ x m : α, found[rows.length]? = some x ∧ gs[l]? = some m ∧ found[o]? = some (mul x m)
structure GT {α : Type} (mul : α → α → α) (one : α) (ok : α → Prop) (gs found : List α) (table : List (List Nat)) : Prop where
  one : found[0]? = some one
  nd : found.Nodup
  mp : ∀ x ∈ found, ok x
  tl : table.length = found.length
  len : found.length = (scanRows 0 table []).length + 1
  ord : ordRows 0 table []
  rl : ∀ r ∈ table, r.length = gs.length
  en : ∀ (i : Nat) (r : List Nat), table[i]? = some r → ∀ (l o : Nat), r[l]? = some o → ∃ x m : α, found[i]? = some x ∧ gs[l]? = some m ∧ found[o]? = some (mul x m)
section
variable {α : Type} {mul : α → α → α} {one : α} {ok : α → Prop} {gs found : List α} {rows table : List (List Nat)} {row : List Nat}
theorem gi_start (hm : GM mul one ok) (gs : List α) : GI mul one ok gs [one] [] [] where
  one := rfl
  nd := by simp
  mp := fun x hx => by rw [List.mem_singleton.mp hx]; exact hm.ok1
  len := rfl
  o1 := trivial
  o2 := trivial
  rl := by simp
  en := by simp
  en2 := by simp
theorem GI.old {o : Nat} {x m : α} (h : GI mul one ok gs found rows row) (hx : found[rows.length]? = some x) (hm : gs[row.length]? = some m) (ho : found[o]? = some (mul x m)) : GI mul one ok gs found rows (row ++ [o]) := by
  have lo : o < found.length := (List.getElem?_eq_some_iff.mp ho).1
  have e : scanRow rows.length 0 (row ++ [o]) (scanRows 0 rows []) = scanRow rows.length 0 row (scanRows 0 rows []) := by
    rw [scanRow_snoc, stp_old]
    have := h.len
    omega
  refine { h with len := by rw [e]; exact h.len, o2 := ordRow_snoc _ _ _ _ _ h.o2 (by have := h.len; omega), en2 := fun l o' hl => ?_ }
  by_cases hlt : l < row.length
  · rw [List.getElem?_append_left hlt] at hl
    exact h.en2 l o' hl
  · have : l = row.length := by
      have := (List.getElem?_eq_some_iff.mp hl).1
      simp at this
      omega
    subst this
    rw [List.getElem?_append_right (Nat.le_refl _)] at hl
    simp at hl
    subst hl
    exact ⟨x, m, hx, hm, ho⟩
theorem GI.new {x m : α} (h : GI mul one ok gs found rows row) (hx : found[rows.length]? = some x) (hm : gs[row.length]? = some m) (hM : ok (mul x m)) (hn : mul x m ∉ found) :
    GI mul one ok gs (found ++ [mul x m]) rows (row ++ [found.length]) := by
  have e : scanRow rows.length 0 (row ++ [found.length]) (scanRows 0 rows []) = scanRow rows.length 0 row (scanRows 0 rows []) ++ [(rows.length, row.length)] := by
    rw [scanRow_snoc, stp_new h.len, Nat.zero_add]
  refine ⟨get_app h.one, ?_, ?_, ?_, h.o1, ordRow_snoc _ _ _ _ _ h.o2 (by have := h.len; omega), h.rl, ?_, ?_⟩
  · refine List.nodup_append.mpr ⟨h.nd, by simp, fun a ha b hb e => ?_⟩
    rw [List.mem_singleton.mp hb] at e
    exact hn (e ▸ ha)
  · intro y hy
    rcases List.mem_append.mp hy with q | q
    · exact h.mp y q
    · rw [List.mem_singleton.mp q]; exact hM
  · rw [e]
    simp [h.len]
  · intro i r hr l o ho
    obtain ⟨x', m', h1, h2, h3⟩ := h.en i r hr l o ho
    exact ⟨x', m', get_app h1, h2, get_app h3⟩
  · intro l o' hl
    by_cases hlt : l < row.length
    · rw [List.getElem?_append_left hlt] at hl
      obtain ⟨x', m', h1, h2, h3⟩ := h.en2 l o' hl
      exact ⟨x', m', get_app h1, h2, get_app h3⟩
    · have : l = row.length := by
        have := (List.getElem?_eq_some_iff.mp hl).1
        simp at this
        omega
      subst this
      rw [List.getElem?_append_right (Nat.le_refl _)] at hl
      simp at hl
      subst hl
      exact ⟨x, m, get_app hx, hm, by rw [List.getElem?_append_right (Nat.le_refl _)]; simp⟩
theorem GI.done (h : GI mul one ok gs found rows row) (hl : row.length = gs.length) (hlt : rows.length < (scanRows 0 rows []).length + 1) : GI mul one ok gs found (rows ++ [row]) [] := by
  have e : scanRow (rows ++ [row]).length 0 [] (scanRows 0 (rows ++ [row]) []) = scanRow rows.length 0 row (scanRows 0 rows []) := by
    rw [scanRows_snoc, Nat.zero_add]; rfl
  refine { one := h.one, nd := h.nd, mp := h.mp, len := by rw [e]; exact h.len, o1 := ?_, o2 := trivial, rl := ?_, en := ?_, en2 := by simp }
  · exact ordRows_snoc row rows 0 [] h.o1 (by rw [Nat.zero_add]; exact hlt) (by rw [Nat.zero_add]; exact h.o2)
  · intro r hr
    rcases List.mem_append.mp hr with q | q
    · exact h.rl r q
    · rw [List.mem_singleton.mp q]; exact hl
  · intro i r hr l o ho
    by_cases hi : i < rows.length
    · rw [List.getElem?_append_left hi] at hr
      exact h.en i r hr l o ho
    · have : i = rows.length := by
        have := (List.getElem?_eq_some_iff.mp hr).1
        simp at this
        omega
      subst this
      rw [List.getElem?_append_right (Nat.le_refl _)] at hr
      simp at hr
      subst hr
      exact h.en2 l o ho
theorem GI.tab (h : GI mul one ok gs found rows []) (hl : rows.length = found.length) : GT mul one ok gs found rows :=
  { one := h.one, nd := h.nd, mp := h.mp, tl := hl, len := h.len, ord := h.o1, rl := h.rl, en := h.en }
theorem nd_injA {l : List α} (nd : l.Nodup) {i j : Nat} {x : α} (hi : l[i]? = some x) (hj : l[j]? = some x) : i = j := by
  obtain ⟨h1, h2⟩ := List.getElem?_eq_some_iff.mp hi
  obtain ⟨h3, h4⟩ := List.getElem?_eq_some_iff.mp hj
  have pw := List.pairwise_iff_getElem.mp nd
  rcases Nat.lt_trichotomy i j with q | q | q
  · exact absurd (h2.trans h4.symm) (pw i j h1 h3 q)
  · exact q
  · exact absurd (h4.trans h2.symm) (pw j i h3 h1 q)
theorem GT.rowA (h : GT mul one ok gs found table) {i : Nat} {x : α} (hx : found[i]? = some x) : ∃ r, table[i]? = some r ∧ r.length = gs.length := by
  have h1 := (List.getElem?_eq_some_iff.mp hx).1
  rw [← h.tl] at h1
  exact ⟨table[i], List.getElem?_eq_getElem h1, h.rl _ (List.getElem_mem h1)⟩
theorem GT.at_ (h : GT mul one ok gs found table) {i l : Nat} {x m : α} (hx : found[i]? = some x) (hm : gs[l]? = some m) : ∃ r o, table[i]? = some r ∧ r[l]? = some o ∧ colR table l i = o ∧ found[o]? = some (mul x m) := by
  obtain ⟨r, hr, hl⟩ := h.rowA hx
  have h1 : l < r.length := by rw [hl]; exact (List.getElem?_eq_some_iff.mp hm).1
  have h2 : r[l]? = some r[l] := List.getElem?_eq_getElem h1
  obtain ⟨x', m', e1, e2, e3⟩ := h.en i r hr l _ h2
  rw [hx] at e1
  rw [hm] at e2
  cases e1
  cases e2
  refine ⟨r, _, hr, h2, ?_, e3⟩
  unfold colR
  simp only [List.getD_eq_getElem?_getD, hr, h2, Option.getD_some]
theorem GT.lefts (h : GT mul one ok gs found table) (M : GM mul one ok) (hgs : ∀ m ∈ gs, ok m) : ∀ (t : List (Nat × Nat)) (t2 : List (Nat × Nat)), t ++ t2 = scanRows 0 table [] → ∀ (k : Nat) (x : α), k < t.length + 1 → found[k]? = some x →
    ∃ r, (leftsOf table t)[k]? = some r ∧ r.length = gs.length ∧ ∀ (c : Nat) (m : α), gs[c]? = some m → ∃ o, r[c]? = some o ∧ found[o]? = some (mul m x) := by
  intro t
  have key : ∀ (N : Nat) (t : List (Nat × Nat)), t.length = N → ∀ t2, t ++ t2 = scanRows 0 table [] → ∀ (k : Nat) (x : α), k < t.length + 1 → found[k]? = some x →
      ∃ r, (leftsOf table t)[k]? = some r ∧ r.length = gs.length ∧ ∀ (c : Nat) (m : α), gs[c]? = some m → ∃ o, r[c]? = some o ∧ found[o]? = some (mul m x) := by
    intro N
    induction N with
    | zero =>
      intro t ht t2 e k x hk hx
      have : t = [] := List.length_eq_zero_iff.mp ht
      subst this
      have hk0 : k = 0 := by simp at hk; omega
      subst hk0
      obtain ⟨r, hr, hl⟩ := h.rowA hx
      refine ⟨r, by simp [leftsOf, List.getD_eq_getElem?_getD, hr], hl, fun c m hm => ?_⟩
      obtain ⟨r', o, h1, h2, _, h3⟩ := h.at_ hx hm
      rw [hr] at h1
      cases h1
      refine ⟨o, h2, ?_⟩
      have h0 := h.one
      rw [hx] at h0
      cases h0
      have im := hgs m (List.mem_of_getElem? hm)
      rw [h3, M.ol im, M.or im]
    | succ N ih =>
      intro t ht t2 e k x hk hx
      rcases List.eq_nil_or_concat t with e0 | ⟨t', p, e0⟩
      · subst e0; simp at ht
      · rw [List.concat_eq_append] at e0
        subst e0
        have ht' : t'.length = N := by simpa using ht
        have e' : t' ++ (p :: t2) = scanRows 0 table [] := by rw [← e]; simp
        rw [leftsOf_snoc]
        by_cases hlt : k < t'.length + 1
        · obtain ⟨r, h1, h2⟩ := ih t' ht' _ e' k x hlt hx
          exact ⟨r, by rw [List.getElem?_append_left (List.getElem?_eq_some_iff.mp h1).1]; exact h1, h2⟩
        · have hke : k = t'.length + 1 := by simp at hk; omega
          have hp : (scanRows 0 table [])[t'.length]? = some p := by rw [← e']; simp
          obtain ⟨a, l⟩ := p
          obtain ⟨ha, r, hra, hrl⟩ := treeOk h.ord t'.length a l hp
          obtain ⟨y, m, hy, hm, hk2⟩ := h.en a r hra l _ hrl
          rw [← hke, hx] at hk2
          cases hk2
          obtain ⟨q, hq, hql, hqc⟩ := ih t' ht' _ e' a y (by omega) hy
          refine ⟨q.map (colR table l), ?_, by simp [hql], fun c mc hmc => ?_⟩
          · rw [List.getElem?_append_right (by rw [leftsOf_len]; omega)]
            rw [hke, leftsOf_len, Nat.sub_self]
            simp [List.getD_eq_getElem?_getD, hq]
          · obtain ⟨o, ho, hfo⟩ := hqc c mc hmc
            obtain ⟨r2, o2, _, _, hc2, hf2⟩ := h.at_ hfo hm
            refine ⟨o2, by rw [List.getElem?_map, ho, Option.map_some, hc2], ?_⟩
            rw [hf2, M.as (hgs mc (List.mem_of_getElem? hmc)) (h.mp y (List.mem_of_getElem? hy)) (hgs m (List.mem_of_getElem? hm))]
  exact key t.length t rfl
theorem GT.good (h : GT mul one ok gs found table) (M : GM mul one ok) (hgs : ∀ m ∈ gs, ok m) (n2 : found.length ≤ 2000) (l1 : 1 ≤ gs.length) (l6 : gs.length ≤ 6) : Good table gs.length where
  n1 := by rw [h.tl, h.len]; omega
  n2 := by rw [h.tl]; exact n2
  l1 := l1
  l2 := l6
  rl := h.rl
  en := fun r hr o ho => by
    obtain ⟨i, hi⟩ := List.getElem?_of_mem hr
    obtain ⟨l, hl⟩ := List.getElem?_of_mem ho
    obtain ⟨x, m, _, _, h3⟩ := h.en i r hi l o hl
    rw [h.tl]
    exact (List.getElem?_eq_some_iff.mp h3).1
  ord := h.ord
  len := by rw [h.tl]; exact h.len
  pr := fun i l o r hi hl => by
    obtain ⟨x, m, hx, hm, ho⟩ := h.en i r hi l o hl
    have le := h.len
    obtain ⟨q, hq, hql, hqc⟩ := h.lefts M hgs (scanRows 0 table []) [] (by simp) i x (by rw [← le]; exact (List.getElem?_eq_some_iff.mp hx).1) hx
    obtain ⟨q2, hq2, hql2, hqc2⟩ := h.lefts M hgs (scanRows 0 table []) [] (by simp) o (mul x m) (by rw [← le]; exact (List.getElem?_eq_some_iff.mp ho).1) ho
    rw [List.getD_eq_getElem?_getD, hq2, Option.getD_some, List.getD_eq_getElem?_getD, hq, Option.getD_some]
    apply List.ext_getElem?
    intro c
    by_cases hc : c < gs.length
    · obtain ⟨mc, hmc⟩ : ∃ mc, gs[c]? = some mc := ⟨_, List.getElem?_eq_getElem hc⟩
      obtain ⟨a, ha, hfa⟩ := hqc c mc hmc
      obtain ⟨b, hb, hfb⟩ := hqc2 c mc hmc
      obtain ⟨_, a2, _, _, hc2, hf2⟩ := h.at_ hfa hm
      rw [hb, List.getElem?_map, ha, Option.map_some, hc2]
      rw [M.as (hgs mc (List.mem_of_getElem? hmc)) (h.mp x (List.mem_of_getElem? hx)) (hgs m (List.mem_of_getElem? hm))] at hf2
      rw [nd_injA h.nd hfb hf2]
    · rw [List.getElem?_eq_none (by omega), List.getElem?_eq_none (by simp; omega)]
/-- what a word does -/
theorem GT.act (h : GT mul one ok gs found table) (M : GM mul one ok) (hgs : ∀ m ∈ gs, ok m) : ∀ (N : Nat) (p : List Nat), p.length = N → (∀ l ∈ p, l < gs.length) → ∃ w, ok w ∧ found[Mt.act table 0 p]? = some w ∧ ∀ (i : Nat) (x : α), found[i]? = some x → found[Mt.act table i p]? = some (mul x w) := by
  intro N
  induction N with
  | zero =>
    intro p hp _
    have : p = [] := List.length_eq_zero_iff.mp hp
    subst this
    refine ⟨one, M.ok1, h.one, fun i x hx => ?_⟩
    show found[i]? = _
    rw [hx, M.or (h.mp x (List.mem_of_getElem? hx))]
  | succ N ih =>
    intro p hp hl
    rcases List.eq_nil_or_concat p with e0 | ⟨p', l, e0⟩
    · subst e0; simp at hp
    · rw [List.concat_eq_append] at e0
      subst e0
      obtain ⟨w, hw, hw0, hwx⟩ := ih p' (by simpa using hp) fun k hk => hl k (by simp [hk])
      have hll : l < gs.length := hl l (by simp)
      have hm : gs[l]? = some gs[l] := List.getElem?_eq_getElem hll
      have hmo := hgs _ (List.getElem_mem (hl l (by simp)))
      refine ⟨mul w (gs[l]'(hl l (by simp))), M.okm hw hmo, ?_, fun i x hx => ?_⟩
      · obtain ⟨_, o, _, _, h3, h4⟩ := h.at_ hw0 hm
        rw [act_snoc, h3]
        exact h4
      · obtain ⟨_, o, _, _, h3, h4⟩ := h.at_ (hwx i x hx) hm
        rw [act_snoc, h3, h4, M.as (h.mp x (List.mem_of_getElem? hx)) hw hmo]
theorem GT.mulA (h : GT mul one ok gs found table) (M : GM mul one ok) (hgs : ∀ m ∈ gs, ok m) (g : Good table gs.length) {i j : Nat} {x y : α} (hx : found[i]? = some x) (hy : found[j]? = some y) : found[mulE table i j]? = some (mul x y) := by
  have hj : j < table.length := by rw [h.tl]; exact (List.getElem?_eq_some_iff.mp hy).1
  obtain ⟨p1, p2⟩ := g.path hj
  obtain ⟨w, hw, hw0, hwx⟩ := h.act M hgs _ (pathOf table j) rfl p2
  rw [p1, hy] at hw0
  cases hw0
  exact hwx i x hx
end
end Mt

/-! MSlx: the words of a table are the least ones, by length and then by letters; products of any table that Monoid takes. -/
namespace Mt
/-! ### order of pairs, of rows of letters -/
def ltP (p q : Nat × Nat) : Prop := p.1 < q.1 ∨ (p.1 = q.1 ∧ p.2 < q.2)
theorem ltP_trans {p q r : Nat × Nat} (h1 : ltP p q) (h2 : ltP q r) : ltP p r := by unfold ltP at *; omega
def lexlt : List Nat → List Nat → Prop
  | [], [] => False
  | [], _ :: _ => True
  | _ :: _, [] => False
  | a :: p, b :: q => a < b ∨ (a = b ∧ lexlt p q)
def slt (p q : List Nat) : Prop := p.length < q.length ∨ (p.length = q.length ∧ lexlt p q)
def sle (p q : List Nat) : Prop := slt p q ∨ p = q
theorem lexlt_irrefl : ∀ p, ¬ lexlt p p
  | [] => fun h => h
  | a :: p => fun h => by
    rcases h with h | ⟨_, h⟩
    · omega
    · exact lexlt_irrefl p h
theorem lexlt_trans : ∀ {p q r : List Nat}, lexlt p q → lexlt q r → lexlt p r
  | [], [], _, h, _ => h.elim
  | [], _ :: _, [], _, h => h.elim
  | [], _ :: _, _ :: _, _, _ => trivial
  | _ :: _, [], _, h, _ => h.elim
  | _ :: _, _ :: _, [], _, h => h.elim
  | a :: p, b :: q, c :: r, h1, h2 => by
    rcases h1 with h1 | ⟨h1, h1'⟩ <;> rcases h2 with h2 | ⟨h2, h2'⟩
    · exact .inl (by omega)
    · exact .inl (by omega)
    · exact .inl (by omega)
    · exact .inr ⟨by omega, lexlt_trans h1' h2'⟩
theorem lexlt_snoc : ∀ {p q : List Nat}, p.length = q.length → lexlt p q → ∀ a b, lexlt (p ++ [a]) (q ++ [b])
  | [], [], _, h, _, _ => h.elim
  | [], _ :: _, e, _, _, _ => by simp at e
  | _ :: _, [], e, _, _, _ => by simp at e
  | x :: p, y :: q, e, h, a, b => by
    rcases h with h | ⟨h, h'⟩
    · exact .inl h
    · exact .inr ⟨h, lexlt_snoc (by simpa using e) h' a b⟩
theorem lexlt_last : ∀ (p : List Nat) {a b : Nat}, a < b → lexlt (p ++ [a]) (p ++ [b])
  | [], _, _, h => .inl h
  | x :: p, _, _, h => .inr ⟨rfl, lexlt_last p h⟩
theorem slt_irrefl (p : List Nat) : ¬ slt p p := fun h => by
  rcases h with h | ⟨_, h⟩
  · omega
  · exact lexlt_irrefl p h
theorem slt_trans {p q r : List Nat} (h1 : slt p q) (h2 : slt q r) : slt p r := by
  rcases h1 with h1 | ⟨h1, h1'⟩ <;> rcases h2 with h2 | ⟨h2, h2'⟩
  · exact .inl (by omega)
  · exact .inl (by omega)
  · exact .inl (by omega)
  · exact .inr ⟨by omega, lexlt_trans h1' h2'⟩
theorem sle_trans {p q r : List Nat} (h1 : sle p q) (h2 : sle q r) : sle p r := by
  rcases h1 with h1 | rfl
  · rcases h2 with h2 | rfl
    · exact .inl (slt_trans h1 h2)
    · exact .inl h1
  · exact h2
theorem slt_snoc {p q : List Nat} (h : slt p q) (a b : Nat) : slt (p ++ [a]) (q ++ [b]) := by
  rcases h with h | ⟨h, h'⟩
  · exact .inl (by simp; omega)
  · exact .inr ⟨by simp [h], lexlt_snoc h h' a b⟩
theorem slt_last (p : List Nat) {a b : Nat} (h : a < b) : slt (p ++ [a]) (p ++ [b]) := .inr ⟨by simp, lexlt_last p h⟩
theorem sle_snoc {p q : List Nat} (h : sle p q) (a : Nat) : sle (p ++ [a]) (q ++ [a]) := by
  rcases h with h | rfl
  · exact .inl (slt_snoc h a a)
  · exact .inr rfl
theorem slt_cons {p q : List Nat} (h : slt p q) (a : Nat) : slt (a :: p) (a :: q) := by
  rcases h with h | ⟨h, h'⟩
  · exact .inl (by simp; omega)
  · exact .inr ⟨by simp [h], .inr ⟨rfl, h'⟩⟩
theorem slt_nil {p : List Nat} (h : p ≠ []) : slt [] p := by
  cases p with
  | nil => exact (h rfl).elim
  | cons a p => exact .inl (by simp)
theorem slt_of_sle {p q r : List Nat} (h1 : sle p q) (h2 : slt q r) : slt p r := by
  rcases h1 with h1 | rfl
  · exact slt_trans h1 h2
  · exact h2
/-! ### where elements are met first -/
def AscL (i l : Nat) (tr : List (Nat × Nat)) : Prop := tr.Pairwise ltP ∧ ∀ p ∈ tr, ltP p (i, l)
theorem ascL_stp {i l o : Nat} {tr : List (Nat × Nat)} (h : AscL i l tr) : AscL i (l + 1) (stp o i l tr) := by
  have up : ∀ p ∈ tr, ltP p (i, l + 1) := fun p hp => by have := h.2 p hp; unfold ltP at *; simp only at *; omega
  by_cases ho : o = tr.length + 1
  · rw [stp_new ho]
    refine ⟨List.pairwise_append.mpr ⟨h.1, by simp, fun p hp q hq => ?_⟩, fun p hp => ?_⟩
    · rw [List.mem_singleton.mp hq]; exact h.2 p hp
    · rcases List.mem_append.mp hp with z | z
      · exact up p z
      · rw [List.mem_singleton.mp z]; exact .inr ⟨rfl, Nat.lt_succ_self l⟩
  · rw [stp_old ho]; exact ⟨h.1, up⟩
theorem ascL_row (i : Nat) : ∀ (row : List Nat) (l : Nat) (tr : List (Nat × Nat)), AscL i l tr → AscL i (l + row.length) (scanRow i l row tr)
  | [], l, tr, h => h
  | o :: r, l, tr, h => by
    simp only [scanRow]
    have := ascL_row i r (l + 1) _ (ascL_stp (o := o) h)
    rw [show l + (o :: r).length = l + 1 + r.length by simp; omega]
    exact this
theorem ascL_rows : ∀ (rows : List (List Nat)) (i : Nat) (tr : List (Nat × Nat)), AscL i 0 tr → AscL (i + rows.length) 0 (scanRows i rows tr)
  | [], i, tr, h => h
  | row :: rs, i, tr, h => by
    simp only [scanRows]
    have h1 := ascL_row i row 0 tr h
    have h2 : AscL (i + 1) 0 (scanRow i 0 row tr) := ⟨h1.1, fun p hp => by have := h1.2 p hp; unfold ltP at *; simp only at *; omega⟩
    have := ascL_rows rs (i + 1) _ h2
    rw [show i + (row :: rs).length = i + 1 + rs.length by simp; omega]
    exact this
theorem stp_pre (o i l : Nat) (tr : List (Nat × Nat)) : ∃ m, stp o i l tr = tr ++ m := by
  by_cases h : o = tr.length + 1
  · exact ⟨[(i, l)], stp_new h⟩
  · exact ⟨[], by rw [stp_old h]; simp⟩
theorem scanRow_pre (i : Nat) : ∀ (row : List Nat) (l : Nat) (tr : List (Nat × Nat)), ∃ m, scanRow i l row tr = tr ++ m
  | [], _, _ => ⟨[], by simp [scanRow]⟩
  | o :: r, l, tr => by
    obtain ⟨m1, h1⟩ := stp_pre o i l tr
    obtain ⟨m2, h2⟩ := scanRow_pre i r (l + 1) (stp o i l tr)
    exact ⟨m1 ++ m2, by simp only [scanRow]; rw [h2, h1, List.append_assoc]⟩
theorem scanRows_pre : ∀ (rows : List (List Nat)) (i : Nat) (tr : List (Nat × Nat)), ∃ m, scanRows i rows tr = tr ++ m
  | [], _, _ => ⟨[], by simp [scanRows]⟩
  | row :: rs, i, tr => by
    obtain ⟨m1, h1⟩ := scanRow_pre i row 0 tr
    obtain ⟨m2, h2⟩ := scanRows_pre rs (i + 1) (scanRow i 0 row tr)
    exact ⟨m1 ++ m2, by simp only [scanRows]; rw [h2, h1, List.append_assoc]⟩
/-- at a row and a letter -/
theorem at_row (i : Nat) : ∀ (row : List Nat) (l0 : Nat) (tr : List (Nat × Nat)), AscL i l0 tr → ordRow i l0 row tr → ∀ (l o : Nat), row[l]? = some o → ∃ tr' m, AscL i (l0 + l) tr' ∧ o ≤ tr'.length + 1 ∧ scanRow i l0 row tr = stp o i (l0 + l) tr' ++ m
  | [], _, _, _, _, l, o, h => by simp at h
  | a :: r, l0, tr, ha, ho, 0, o, h => by
    have : a = o := by simpa using h
    subst this
    obtain ⟨m, hm⟩ := scanRow_pre i r (l0 + 1) (stp a i l0 tr)
    exact ⟨tr, m, ha, ho.1, by simp only [scanRow]; exact hm⟩
  | a :: r, l0, tr, ha, ho, l + 1, o, h => by
    obtain ⟨tr', m, h1, h2, h3⟩ := at_row i r (l0 + 1) _ (ascL_stp (o := a) ha) ho.2 l o (by simpa using h)
    rw [show l0 + 1 + l = l0 + (l + 1) by omega] at h1 h3
    exact ⟨tr', m, h1, h2, by simp only [scanRow]; exact h3⟩
theorem at_rows : ∀ (rows : List (List Nat)) (i : Nat) (tr : List (Nat × Nat)), AscL i 0 tr → ordRows i rows tr → ∀ (x l o : Nat) (row : List Nat), rows[x]? = some row → row[l]? = some o → ∃ tr' m, AscL (i + x) l tr' ∧ o ≤ tr'.length + 1 ∧ scanRows i rows tr = stp o (i + x) l tr' ++ m
  | [], _, _, _, _, x, l, o, row, h, _ => by simp at h
  | a :: rs, i, tr, ha, ho, 0, l, o, row, h, hl => by
    have : a = row := by simpa using h
    subst this
    obtain ⟨tr', m, h1, h2, h3⟩ := at_row i a 0 tr ha ho.2.1 l o hl
    obtain ⟨m2, hm2⟩ := scanRows_pre rs (i + 1) (scanRow i 0 a tr)
    rw [Nat.zero_add] at h1 h3
    exact ⟨tr', m ++ m2, h1, h2, by simp only [scanRows]; rw [hm2, h3, List.append_assoc]; rfl⟩
  | a :: rs, i, tr, ha, ho, x + 1, l, o, row, h, hl => by
    have h1 := ascL_row i a 0 tr ha
    have h2 : AscL (i + 1) 0 (scanRow i 0 a tr) := ⟨h1.1, fun p hp => by have := h1.2 p hp; unfold ltP at *; simp only at *; omega⟩
    obtain ⟨tr', m, k1, k2, k3⟩ := at_rows rs (i + 1) _ h2 ho.2.2 x l o row (by simpa using h) hl
    rw [show i + 1 + x = i + (x + 1) by omega] at k1 k3
    exact ⟨tr', m, k1, k2, by simp only [scanRows]; exact k3⟩
section
variable {t : List (List Nat)} {L : Nat}
theorem treeAsc (t : List (List Nat)) : (scanRows 0 t []).Pairwise ltP := (ascL_rows t 0 [] ⟨by simp, by simp⟩).1
/-- an element is met first no later than where it stands -/
theorem Good.first (g : Good t L) {x l k : Nat} (hx : x < t.length) (hl : l < L) (h : colR t l x = k + 1) : ∃ a b, (scanRows 0 t [])[k]? = some (a, b) ∧ (ltP (a, b) (x, l) ∨ (a, b) = (x, l)) := by
  obtain ⟨rx, hrx, hrl, _⟩ := g.col hx hl
  obtain ⟨tr, m, h1, h2, h3⟩ := at_rows t 0 [] ⟨by simp, by simp⟩ g.ord x l _ rx hrx hrl
  rw [Nat.zero_add] at h1 h3
  rw [h] at h2 h3
  by_cases hk : k + 1 = tr.length + 1
  · rw [stp_new hk] at h3
    refine ⟨x, l, ?_, .inr rfl⟩
    rw [h3, show k = tr.length by omega]
    simp
  · rw [stp_old hk] at h3
    have hlt : k < tr.length := by omega
    refine ⟨(tr[k]).1, (tr[k]).2, ?_, .inl (h1.2 _ (List.getElem_mem hlt))⟩
    rw [h3, List.getElem?_append_left hlt, List.getElem?_eq_getElem hlt]
theorem wordsOf_at : ∀ (N : Nat) (tr : List (Nat × Nat)), tr.length = N → ∀ (k a l : Nat), tr[k]? = some (a, l) → a ≤ k → (wordsOf tr)[k + 1]? = some ((wordsOf tr).getD a ⟨#[]⟩ ++ letS l) := by
  intro N
  induction N with
  | zero =>
    intro tr ht k a l h _
    have : tr = [] := List.length_eq_zero_iff.mp ht
    subst this
    simp at h
  | succ N ih =>
    intro tr ht k a l h hak
    rcases List.eq_nil_or_concat tr with e0 | ⟨tr', p, e0⟩
    · subst e0; simp at ht
    · rw [List.concat_eq_append] at e0
      subst e0
      have ht' : tr'.length = N := by simpa using ht
      have hwl := wordsOf_len tr'
      have hg : ∀ a, a ≤ tr'.length → (wordsOf tr' ++ [(wordsOf tr').getD p.1 ⟨#[]⟩ ++ letS p.2]).getD a ⟨#[]⟩ = (wordsOf tr').getD a ⟨#[]⟩ := fun a ha => by
        rw [List.getD_eq_getElem?_getD, List.getElem?_append_left (by omega), List.getD_eq_getElem?_getD]
      rw [wordsOf_snoc]
      by_cases hk : k < tr'.length
      · rw [List.getElem?_append_left hk] at h
        rw [List.getElem?_append_left (by omega), ih tr' ht' k a l h hak, hg a (by omega)]
      · have hk2 : k = tr'.length := by
          have := (List.getElem?_eq_some_iff.mp h).1
          simp at this
          omega
        subst hk2
        have hp : p = (a, l) := by simpa using h
        subst hp
        rw [List.getElem?_append_right (by omega), hwl, Nat.sub_self, hg a (by omega)]
        rfl
theorem Good.step (g : Good t L) {k a l : Nat} (h : (scanRows 0 t [])[k]? = some (a, l)) : pathOf t (k + 1) = pathOf t a ++ [l] := by
  obtain ⟨h1, _, _⟩ := g.tree h
  have := wordsOf_at _ (scanRows 0 t []) rfl k a l h h1
  unfold pathOf
  rw [List.getD_eq_getElem?_getD, this, Option.getD_some, lets_app, lets_let]
theorem Good.path0 (g : Good t L) : pathOf t 0 = [] := by
  obtain ⟨w, h1, _, _, h4⟩ := g.word (k := 0) (by have := g.n1; omega)
  have : (wordsOf (scanRows 0 t []))[0]? = some ⟨#[]⟩ := by
    have key : ∀ (tr : List (Nat × Nat)) (ws : List PySem.Str), ws[0]? = some ⟨#[]⟩ → (tr.foldl (fun ws p => ws ++ [ws.getD p.1 ⟨#[]⟩ ++ letS p.2]) ws)[0]? = some ⟨#[]⟩ := by
      intro tr
      induction tr with
      | nil => exact fun ws h => h
      | cons p r ih =>
        intro ws h
        refine ih _ ?_
        rw [List.getElem?_append_left (List.getElem?_eq_some_iff.mp h).1]
        exact h
    exact key _ _ rfl
  rw [h4]
  rw [h1] at this
  cases this
  rfl
theorem Good.ahead (g : Good t L) {k : Nat} (hk : k < t.length) (h0 : k ≠ 0) : ∃ a l, (scanRows 0 t [])[k - 1]? = some (a, l) ∧ a < k ∧ l < L ∧ pathOf t k = pathOf t a ++ [l] ∧ colR t l a = k := by
  have hlt : k - 1 < (scanRows 0 t []).length := by have := g.len; omega
  obtain ⟨⟨a, l⟩, hp⟩ : ∃ p, (scanRows 0 t [])[k - 1] = p := ⟨_, rfl⟩
  have h1 : (scanRows 0 t [])[k - 1]? = some (a, l) := by rw [List.getElem?_eq_getElem hlt, hp]
  obtain ⟨c1, c2, c3⟩ := g.tree h1
  obtain ⟨_, r, hr1, hr2⟩ := treeOk g.ord _ _ _ h1
  refine ⟨a, l, h1, by omega, c2, ?_, ?_⟩
  · have := g.step h1
    rw [show k - 1 + 1 = k by omega] at this
    exact this
  · unfold colR
    rw [List.getD_eq_getElem?_getD, List.getD_eq_getElem?_getD, hr1, Option.getD_some, hr2]
    show k - 1 + 1 = k
    omega
/-- elements are in the order of their words -/
theorem Good.mono (g : Good t L) : ∀ (j : Nat), j < t.length → ∀ i, i < j → slt (pathOf t i) (pathOf t j) := by
  intro j
  induction j using Nat.strongRecOn with
  | _ j ih =>
    intro hj i hij
    obtain ⟨b, m, hb, hbj, _, hpj, _⟩ := g.ahead hj (by omega)
    by_cases hi0 : i = 0
    · subst hi0
      rw [g.path0, hpj]
      exact slt_nil (by simp)
    · obtain ⟨a, l, ha, hai, _, hpi, _⟩ := g.ahead (k := i) (by omega) hi0
      have hlt : ltP (a, l) (b, m) := by
        obtain ⟨q1, e1⟩ := List.getElem?_eq_some_iff.mp ha
        obtain ⟨q2, e2⟩ := List.getElem?_eq_some_iff.mp hb
        have := List.pairwise_iff_getElem.mp (treeAsc t) (i - 1) (j - 1) q1 q2 (by omega)
        rw [e1, e2] at this
        exact this
      rw [hpi, hpj]
      rcases hlt with h | ⟨h, h'⟩
      · exact slt_snoc (ih b hbj (by omega) a h) l m
      · simp only at h h'
        rw [h]
        exact slt_last _ h'
theorem Good.mono' (g : Good t L) {i j : Nat} (hi : i < t.length) (hj : j < t.length) (h : i ≤ j) : sle (pathOf t i) (pathOf t j) := by
  by_cases e : i = j
  · rw [e]; exact .inr rfl
  · exact .inl (g.mono j hj i (by omega))
/-- the word of an element is the least one -/
theorem Good.least (g : Good t L) : ∀ (N : Nat) (p : List Nat), p.length = N → (∀ l ∈ p, l < L) → sle (pathOf t (act t 0 p)) p := by
  intro N
  have n1 := g.n1
  induction N with
  | zero =>
    intro p hp _
    have : p = [] := List.length_eq_zero_iff.mp hp
    subst this
    exact .inr g.path0
  | succ N ih =>
    intro p hp hl
    rcases List.eq_nil_or_concat p with e0 | ⟨q, l, e0⟩
    · subst e0; simp at hp
    · rw [List.concat_eq_append] at e0
      subst e0
      have hlq : ∀ k ∈ q, k < L := fun k hk => hl k (by simp [hk])
      have hl1 : l < L := hl l (by simp)
      have hq := ih q (by simpa using hp) hlq
      have hx : act t 0 q < t.length := g.act_lt q 0 (by omega) hlq
      refine sle_trans ?_ (sle_snoc hq l)
      rw [act_snoc]
      obtain ⟨_, _, _, hkl⟩ := g.col hx hl1
      cases hk : colR t l (act t 0 q) with
      | zero =>
        rw [g.path0]
        exact .inl (slt_nil (by simp))
      | succ k =>
        rw [hk] at hkl
        obtain ⟨a, b, hab, hor⟩ := g.first hx hl1 hk
        obtain ⟨c1, c2, c3⟩ := g.tree hab
        rw [g.step hab]
        rcases hor with h | h
        · rcases h with h | ⟨h, h'⟩
          · exact .inl (slt_snoc (g.mono _ hx a h) b l)
          · simp only at h h'
            rw [h]
            exact .inl (slt_last _ h')
        · injection h with h h'
          rw [h, h']
          exact .inr rfl
/-! ### letters in front -/
def lam (t : List (List Nat)) (l x : Nat) : Nat := ((leftsOf t (scanRows 0 t [])).getD x []).getD l 0
theorem Good.lam_lt (g : Good t L) {l x : Nat} (hl : l < L) (hx : x < t.length) : lam t l x < t.length := by
  obtain ⟨q, hq, h1, h2⟩ := g.left hx
  have e : (leftsOf t (scanRows 0 t [])).getD x [] = q := by rw [List.getD_eq_getElem?_getD, hq]; rfl
  have hlq : l < q.length := by omega
  unfold lam
  rw [e, List.getD_eq_getElem?_getD, List.getElem?_eq_getElem hlq]
  exact h2 _ (List.getElem_mem hlq)
theorem Good.lam_col (g : Good t L) {l m x : Nat} (hl : l < L) (hm : m < L) (hx : x < t.length) : lam t l (colR t m x) = colR t m (lam t l x) := by
  obtain ⟨rx, hrx, hrl, _⟩ := g.col hx hm
  have := g.pr x m _ rx hrx hrl
  obtain ⟨q, hq, h1, h2⟩ := g.left hx
  have e : (leftsOf t (scanRows 0 t [])).getD x [] = q := by rw [List.getD_eq_getElem?_getD, hq]; rfl
  have hlq : l < q.length := by omega
  unfold lam
  rw [this, e, List.getD_eq_getElem?_getD, List.getElem?_map, List.getElem?_eq_getElem hlq, List.getD_eq_getElem?_getD (l := q), List.getElem?_eq_getElem hlq]
  rfl
theorem Good.lam0 (g : Good t L) (l : Nat) : lam t l 0 = colR t l 0 := by
  have key : ∀ (tr : List (Nat × Nat)) (ws : List (List Nat)) (r : List Nat), ws[0]? = some r → (tr.foldl (fun ls p => ls ++ [(ls.getD p.1 []).map (colR t p.2)]) ws)[0]? = some r := by
    intro tr
    induction tr with
    | nil => exact fun ws r h => h
    | cons p q ih =>
      intro ws r h
      refine ih _ _ ?_
      rw [List.getElem?_append_left (List.getElem?_eq_some_iff.mp h).1]
      exact h
  have e : (leftsOf t (scanRows 0 t [])).getD 0 [] = t.getD 0 [] := by
    unfold leftsOf
    rw [List.getD_eq_getElem?_getD, key _ _ (t.getD 0 []) rfl]
    rfl
  unfold lam
  rw [e]
  rfl
theorem Good.lam_act (g : Good t L) {l : Nat} (hl : l < L) : ∀ (p : List Nat) (x : Nat), x < t.length → (∀ k ∈ p, k < L) → lam t l (act t x p) = act t (lam t l x) p
  | [], _, _, _ => rfl
  | m :: p, x, hx, hp => by
    have hm := hp m (by simp)
    obtain ⟨_, _, _, h⟩ := g.col hx hm
    rw [act_cons, act_cons, g.lam_act hl p _ h (fun k hk => hp k (by simp [hk])), g.lam_col hl hm hx]
theorem Good.act_front (g : Good t L) {l : Nat} (hl : l < L) {p : List Nat} (hp : ∀ k ∈ p, k < L) : act t 0 (l :: p) = lam t l (act t 0 p) := by
  rw [g.lam_act hl p 0 (by have := g.n1; omega) hp, g.lam0]
  rfl
theorem Good.act_same (g : Good t L) : ∀ (q : List Nat), (∀ k ∈ q, k < L) → ∀ p p', (∀ k ∈ p, k < L) → (∀ k ∈ p', k < L) → act t 0 p = act t 0 p' → act t 0 (q ++ p) = act t 0 (q ++ p')
  | [], _, _, _, _, _, h => h
  | l :: q, hq, p, p', hp, hp', h => by
    have ih := g.act_same q (fun k hk => hq k (by simp [hk])) p p' hp hp' h
    have hl := hq l (by simp)
    have a1 : ∀ k ∈ q ++ p, k < L := fun k hk => by
      rcases List.mem_append.mp hk with z | z
      · exact hq k (by simp [z])
      · exact hp k z
    have a2 : ∀ k ∈ q ++ p', k < L := fun k hk => by
      rcases List.mem_append.mp hk with z | z
      · exact hq k (by simp [z])
      · exact hp' k z
    rw [List.cons_append, List.cons_append, g.act_front hl a1, g.act_front hl a2, ih]
/-- what a word does hangs on its product alone -/
theorem Good.act_eq (g : Good t L) {x : Nat} (hx : x < t.length) {p p' : List Nat} (hp : ∀ k ∈ p, k < L) (hp' : ∀ k ∈ p', k < L) (h : act t 0 p = act t 0 p') : act t x p = act t x p' := by
  obtain ⟨h1, h2⟩ := g.path hx
  have := g.act_same (pathOf t x) h2 p p' hp hp' h
  rw [act_app, act_app, h1] at this
  exact this
theorem Good.act_mul (g : Good t L) {x : Nat} (hx : x < t.length) {p : List Nat} (hp : ∀ k ∈ p, k < L) : act t x p = mulE t x (act t 0 p) := by
  have hy := g.act_lt p 0 (by have := g.n1; omega) hp
  obtain ⟨h1, h2⟩ := g.path hy
  exact g.act_eq hx hp h2 h1.symm
theorem Good.mulOl (g : Good t L) {x : Nat} (hx : x < t.length) : mulE t 0 x = x := (g.path hx).1
theorem Good.mulOr (g : Good t L) {x : Nat} (hx : x < t.length) : mulE t x 0 = x := by
  unfold mulE
  rw [g.path0]
  rfl
theorem Good.mulAs (g : Good t L) {x y z : Nat} (hx : x < t.length) (hy : y < t.length) (hz : z < t.length) : mulE t (mulE t x y) z = mulE t x (mulE t y z) := by
  obtain ⟨y1, y2⟩ := g.path hy
  obtain ⟨z1, z2⟩ := g.path hz
  have h : ∀ k ∈ pathOf t y ++ pathOf t z, k < L := fun k hk => by
    rcases List.mem_append.mp hk with q | q
    · exact y2 k q
    · exact z2 k q
  have e : act t 0 (pathOf t y ++ pathOf t z) = mulE t y z := by rw [act_app, y1]; rfl
  have := g.act_mul hx h
  rw [e, act_app] at this
  exact this
theorem Good.col_mul (g : Good t L) {l x : Nat} (hl : l < L) (hx : x < t.length) : colR t l x = mulE t x (colR t l 0) := by
  have := g.act_mul hx (p := [l]) (by simp [hl])
  exact this
theorem Good.lam_mul (g : Good t L) {l x : Nat} (hl : l < L) (hx : x < t.length) : lam t l x = mulE t (colR t l 0) x := by
  obtain ⟨h1, h2⟩ := g.path hx
  have := g.act_front hl h2
  rw [h1] at this
  rw [← this]
  rfl
/-- a least word without its first letter is one -/
theorem Good.suffix (g : Good t L) {k l : Nat} {q : List Nat} (hk : k < t.length) (h : pathOf t k = l :: q) : pathOf t (act t 0 q) = q ∧ l < L ∧ ∀ m ∈ q, m < L := by
  obtain ⟨h1, h2⟩ := g.path hk
  rw [h] at h1 h2
  have hl := h2 l (by simp)
  have hq : ∀ m ∈ q, m < L := fun m hm => h2 m (by simp [hm])
  have hx := g.act_lt q 0 (by have := g.n1; omega) hq
  obtain ⟨p1, p2⟩ := g.path hx
  refine ⟨?_, hl, hq⟩
  rcases g.least _ q rfl hq with h3 | h3
  · exfalso
    have h4 : act t 0 (l :: pathOf t (act t 0 q)) = k := by
      rw [← h1]
      exact g.act_same [l] (by simp [hl]) _ _ p2 hq p1
    have h5 := g.least _ (l :: pathOf t (act t 0 q)) rfl (fun m hm => by
      rcases List.mem_cons.mp hm with z | z
      · rw [z]; exact hl
      · exact p2 m z)
    rw [h4, h] at h5
    exact slt_irrefl _ (slt_of_sle h5 (slt_cons h3 l))
  · exact h3
theorem Good.path_inj (g : Good t L) {i j : Nat} (hi : i < t.length) (hj : j < t.length) (h : pathOf t i = pathOf t j) : i = j := by
  rw [← (g.path hi).1, ← (g.path hj).1, h]
end
end Mt

namespace My
open PySem L2 SL
def top (i : Nat) : Stmt := PySem.Challenge.pw_letterfolds_k18_rules_of_a_monoid.main.body.getD i (.Pass ⟨0, 0, 0, 0⟩)
/-- the built-ins that no name of the text hides -/
structure Bt (mg : Str → Option Value) : Prop where
  b_len : mg "len" = none
  b_abs : mg "abs" = none
  b_int : mg "int" = none
  b_tuple : mg "tuple" = none
  b_list : mg "list" = none
  b_range : mg "range" = none
  b_enumerate : mg "enumerate" = none
  b_zip : mg "zip" = none
  b_all : mg "all" = none
  b_repr : mg "repr" = none
  b_isinstance : mg "isinstance" = none
  b_bool : mg "bool" = none
  b_str : mg "str" = none
  b_dict : mg "dict" = none
  b_sorted : mg "sorted" = none
/-- the constants of the text -/
structure Ct (mg : Str → Option Value) : Prop where
  g_MOST_ELEMENTS : ∃ u, mg "MOST_ELEMENTS" = some u ∧ RelV (.int 2000) u
  g_MOST_LETTERS : ∃ u, mg "MOST_LETTERS" = some u ∧ RelV (.int 6) u
  g_LETTERS : ∃ u, mg "LETTERS" = some u ∧ RelV (.str "abcdef") u
/-- numbers as data; a tuple, a list of numbers -/
abbrev intN (k : Nat) : PyData := .int (k : Int)
def tupN (ns : List Nat) : PyData := .tuple (ns.map intN)
def lstN (ns : List Nat) : PyData := .list (ns.map intN)
end My

set_option maxHeartbeats 0
namespace My
open PySem PySem.Spec PyProof.Rows L2 SL
def d_is_number : He.DefD := ⟨("is_number", none), "is_number", "is_number", defArgs (top 6 : PySem.Stmt), defBody (top 6 : PySem.Stmt), defScope (top 6 : PySem.Stmt), [], []⟩
def d_is_sequence : He.DefD := ⟨("is_sequence", none), "is_sequence", "is_sequence", defArgs (top 7 : PySem.Stmt), defBody (top 7 : PySem.Stmt), defScope (top 7 : PySem.Stmt), [], []⟩
def d_check_form : He.DefD := ⟨("check_form", none), "check_form", "check_form", defArgs (top 12 : PySem.Stmt), defBody (top 12 : PySem.Stmt), defScope (top 12 : PySem.Stmt), [], []⟩
def d_check_order : He.DefD := ⟨("check_order", none), "check_order", "check_order", defArgs (top 13 : PySem.Stmt), defBody (top 13 : PySem.Stmt), defScope (top 13 : PySem.Stmt), [], []⟩
def d_tree_of : He.DefD := ⟨("tree_of", none), "tree_of", "tree_of", defArgs (top 14 : PySem.Stmt), defBody (top 14 : PySem.Stmt), defScope (top 14 : PySem.Stmt), [], []⟩
def d_left_of : He.DefD := ⟨("left_of", none), "left_of", "left_of", defArgs (top 15 : PySem.Stmt), defBody (top 15 : PySem.Stmt), defScope (top 15 : PySem.Stmt), [], []⟩
def d_check_products : He.DefD := ⟨("check_products", none), "check_products", "check_products", defArgs (top 16 : PySem.Stmt), defBody (top 16 : PySem.Stmt), defScope (top 16 : PySem.Stmt), [], []⟩
def d_Monoid___init__ : He.DefD := ⟨("Monoid", some "__init__"), "__init__", "Monoid.__init__", defArgs (inClass (top 17) 0 : PySem.Stmt), defBody (inClass (top 17) 0 : PySem.Stmt), defScope (inClass (top 17) 0 : PySem.Stmt), [], []⟩
def d_Monoid_all_words : He.DefD := ⟨("Monoid", some "all_words"), "all_words", "Monoid.all_words", defArgs (inClass (top 17) 4 : PySem.Stmt), defBody (inClass (top 17) 4 : PySem.Stmt), defScope (inClass (top 17) 4 : PySem.Stmt), [], []⟩
def d_Monoid_ends : He.DefD := ⟨("Monoid", some "ends"), "ends", "Monoid.ends", defArgs (inClass (top 17) 22 : PySem.Stmt), defBody (inClass (top 17) 22 : PySem.Stmt), defScope (inClass (top 17) 22 : PySem.Stmt), [], []⟩
def d_Monoid_is_least : He.DefD := ⟨("Monoid", some "is_least"), "is_least", "Monoid.is_least", defArgs (inClass (top 17) 23 : PySem.Stmt), defBody (inClass (top 17) 23 : PySem.Stmt), defScope (inClass (top 17) 23 : PySem.Stmt), [], []⟩
def d_Monoid_is_rule : He.DefD := ⟨("Monoid", some "is_rule"), "is_rule", "Monoid.is_rule", defArgs (inClass (top 17) 24 : PySem.Stmt), defBody (inClass (top 17) 24 : PySem.Stmt), defScope (inClass (top 17) 24 : PySem.Stmt), [], []⟩
def d_Monoid_rules : He.DefD := ⟨("Monoid", some "rules"), "rules", "Monoid.rules", defArgs (inClass (top 17) 25 : PySem.Stmt), defBody (inClass (top 17) 25 : PySem.Stmt), defScope (inClass (top 17) 25 : PySem.Stmt), [], []⟩
def d_law_source : He.DefD := ⟨("_law_source", none), "_law_source", "_law_source", defArgs (top 19 : PySem.Stmt), defBody (top 19 : PySem.Stmt), defScope (top 19 : PySem.Stmt), [], []⟩
def d_law_draw : He.DefD := ⟨("_law_draw", none), "_law_draw", "_law_draw", defArgs (top 20 : PySem.Stmt), defBody (top 20 : PySem.Stmt), defScope (top 20 : PySem.Stmt), [], []⟩
def d_law_maps : He.DefD := ⟨("_law_maps", none), "_law_maps", "_law_maps", defArgs (top 22 : PySem.Stmt), defBody (top 22 : PySem.Stmt), defScope (top 22 : PySem.Stmt), [], []⟩
def d_law_table : He.DefD := ⟨("_law_table", none), "_law_table", "_law_table", defArgs (top 23 : PySem.Stmt), defBody (top 23 : PySem.Stmt), defScope (top 23 : PySem.Stmt), [], []⟩
def d_law_due : He.DefD := ⟨("_law_due", none), "_law_due", "_law_due", defArgs (top 24 : PySem.Stmt), defBody (top 24 : PySem.Stmt), defScope (top 24 : PySem.Stmt), [], []⟩
def d_law_parts : He.DefD := ⟨("_law_parts", none), "_law_parts", "_law_parts", defArgs (top 25 : PySem.Stmt), defBody (top 25 : PySem.Stmt), defScope (top 25 : PySem.Stmt), [], []⟩
def d_law_by_words : He.DefD := ⟨("_law_by_words", none), "_law_by_words", "_law_by_words", defArgs (top 26 : PySem.Stmt), defBody (top 26 : PySem.Stmt), defScope (top 26 : PySem.Stmt), [], []⟩
def d_law_right : He.DefD := ⟨("_law_right", none), "_law_right", "_law_right", defArgs (top 27 : PySem.Stmt), defBody (top 27 : PySem.Stmt), defScope (top 27 : PySem.Stmt), [], []⟩
def d_law_mixed : He.DefD := ⟨("_law_mixed", none), "_law_mixed", "_law_mixed", defArgs (top 28 : PySem.Stmt), defBody (top 28 : PySem.Stmt), defScope (top 28 : PySem.Stmt), [], []⟩
def d_law : He.DefD := ⟨("law", none), "law", "law", defArgs (top 29 : PySem.Stmt), defBody (top 29 : PySem.Stmt), defScope (top 29 : PySem.Stmt), [], []⟩
def fn : List He.DefD := [d_is_number, d_is_sequence, d_check_form, d_check_order, d_tree_of, d_left_of, d_check_products, d_Monoid___init__, d_Monoid_all_words, d_Monoid_ends, d_Monoid_is_least, d_Monoid_is_rule, d_Monoid_rules, d_law_source, d_law_draw, d_law_maps, d_law_table, d_law_due, d_law_parts, d_law_by_words, d_law_right, d_law_mixed, d_law]
def fa0 : List He.Fa := [.free "len", .free "abs", .free "int", .free "tuple", .free "list", .free "range", .free "enumerate", .free "zip", .free "all", .free "repr", .free "isinstance", .free "bool", .free "str", .free "dict", .free "sorted", .int "MOST_ELEMENTS" 2000, .int "MOST_LETTERS" 6, .str "LETTERS" "abcdef", .glo "Monoid", .cls "Monoid"]
def fa1 : List He.Fa := [.noat "Monoid" "right", .noat "Monoid" "tree", .noat "Monoid" "lefts", .noat "Monoid" "memory", .meth "Monoid" "all_words", .meth "Monoid" "ends", .meth "Monoid" "is_least", .meth "Monoid" "is_rule", .meth "Monoid" "rules", .mkr "Monoid", .glo "is_number", .glo "is_sequence", .glo "check_form", .glo "check_order", .glo "tree_of", .glo "left_of", .glo "check_products", .glo "_law_source", .glo "_law_draw", .glo "_law_maps"]
def fa2 : List He.Fa := [.glo "_law_table", .glo "_law_due", .glo "_law_parts", .glo "_law_by_words", .glo "_law_right", .glo "_law_mixed", .glo "law"]
def fa : List He.Fa := fa0 ++ fa1 ++ fa2
def nm0 : List PySem.Str := ["_wall", "FoldError", "NoMonoid", "Fact", "is_number", "is_sequence", "LETTERS", "MOST_ELEMENTS", "MOST_LETTERS", "check_form", "check_order", "tree_of", "left_of", "check_products", "Monoid", "_law_source", "_law_draw", "_law_pick", "_law_maps", "_law_table"]
def nm1 : List PySem.Str := ["_law_due", "_law_parts", "_law_by_words", "_law_right", "_law_mixed"]
def nm : List PySem.Str := nm0 ++ nm1
abbrev RR : PySem.W.OpenRow := PySem.W.OpenLaw.row PySem.Challenge.rw_letterfolds_k18_rules_of_a_monoid
def tf : List He.Defn := [("_law_due", none), ("Monoid", some "rules")]
def exq (K : PySem.W.Frag) : Bool := decide ((tf.map fun p => (He.cT K p).2).Nodup)
abbrev hk : PySem.W.Hook := He.hookX 5 fa fn [] tf exq
def ob (s : PySem.W.SharedT) : He.AlX := He.obsX 5 fa fn [] tf exq (HandSHeadRun.getT s)
theorem ob_eq (s : PySem.W.SharedT) : ob s = hk.obs s.abs := He.obsX_eq (HandSHeadRun.getT_eq s)
theorem run (w : World) : HandSHeadRun.RunEq RR (PySem.W.view RR.prog [29]) hk ob 20000 nm w := by
  intro os
  kernel_rfl
end My

namespace My
open PySem L2 SL
/-- the state of a source of draws -/
def SrcD (ds : List PyData) : Prop := ∃ a b c : Int, ds = [.int a, .int b, .int c] ∧ 0 ≤ a ∧ 0 ≤ b
def Wsource : WF := fun as post => ∃ n : Int, as = [.int n] ∧ ∀ p ds, SrcD ds → post (.ol p ds)
def Wdraw : WM := fun ds0 as post => SrcD ds0 ∧ ∃ m : Int, as = [.int m] ∧ 1 ≤ m ∧ m ≤ 1000000000000000000000000000000 ∧ ∀ d ds1, 0 ≤ d → d < m → SrcD ds1 → post (.fz (.int d)) ds1
local macro_rules | `(tactic| walk_at "e1") => `(tactic| first
  | with_reducible refine nx_seq ?_ | with_reducible refine rn_seq ?_
  | with_reducible refine rn_set ?_ | with_reducible refine rn_ret ?_ | with_reducible refine rn_if ?_ | with_reducible refine rn_drop ?_ | with_reducible refine rn_next ?_
  | with_reducible refine ev_int ?_ | with_reducible refine ev_str ?_ | with_reducible refine ev_bl ?_ | with_reducible refine ev_non ?_
  | ((with_reducible refine' ev_fz ?vv ?_); (case vv => exact rfl))
  | ((with_reducible refine' ev_ol ?vv ?_); (case vv => exact rfl))
  | ((with_reducible refine' ev_al ?vv ?_); (case vv => exact rfl))
  | with_reducible refine ev_op ?_ | with_reducible refine ev_un ?_
  | with_reducible refine o_int ?_ | with_reducible refine o_bl ?_ | with_reducible refine u_int ?_
  | with_reducible refine o_eqI ?_ | with_reducible refine o_neI ?_ | with_reducible refine o_eqS ?_ | with_reducible refine o_neS ?_
  | with_reducible refine ev_isi ?_ | with_reducible refine ev_isi2 ?_ | with_reducible refine ev_cb ?_ | with_reducible refine a_one ?_ | with_reducible refine a_cons ?_ | with_reducible refine a_nil ?_
  | with_reducible refine b_abs ?_ | with_reducible refine b_int ?_ | with_reducible refine b_intb ?_
  | with_reducible refine b_lenL ?_ | with_reducible refine b_lenT ?_
  | with_reducible refine b_tupO ?_ | with_reducible refine b_tupL ?_ | with_reducible refine b_tupT ?_ | with_reducible refine t_yes ?_ | with_reducible refine iteT ?_ | with_reducible refine iteF ?_
  | with_reducible refine t_test ?_ | with_reducible refine t_B ?_ | with_reducible refine t_not ?_ | with_reducible refine t_and ?_ | with_reducible refine t_or ?_
  | with_reducible refine ev_lst ?_ | with_reducible refine ev_tup ?_ | with_reducible refine ev_callM ?_ | with_reducible refine ev_callF ?_ | with_reducible refine rn_setL ?_ | with_reducible refine rn_setDT ?_ | with_reducible refine rn_asg ?_ | ((with_reducible refine' ga_tup ?vv ?_); (case vv => exact rfl)) | with_reducible refine gas_nil ?_ | ((with_reducible refine' gas_name ?vv ?_); (case vv => exact rfl)) | ((with_reducible refine' rn_asgN ?vv ?_); (case vv => exact rfl))
  | with_reducible refine rn_par3 ?_ | with_reducible refine rn_par ?_ | with_reducible refine ev_tupRg ?_ | with_reducible refine ev_listRg ?_ | with_reducible refine ev_disp1T ?_ | with_reducible refine ev_dgetT ?_ | with_reducible refine ev_dnotinT ?_
  | with_reducible refine ev_append ?_ | with_reducible refine ev_extend ?_ | with_reducible refine ev_reverse ?_ | with_reducible refine ev_revL ?_
  | with_reducible refine ev_chain ?_ | with_reducible refine ev_and ?_ | with_reducible refine ev_or ?_ | with_reducible refine ev_not ?_ | with_reducible refine ev_if ?_
  | ((with_reducible refine' ev_oi ?vv ?_); (case vv => exact rfl)) | ((with_reducible refine' ev_ot ?vv ?_); (case vv => exact rfl)) | ((with_reducible refine' ev_od ?vv ?_); (case vv => exact rfl))
  | refine ⟨_, rfl, ?_⟩)
local macro_rules | `(tactic| walk_at "ev") => `(tactic| repeat (walk_at "e1"))

section
variable {P : Program} {w : World} {K : PySem.W.Frag} {mg : Str → Option Value} {base : Heap}
abbrev s_law_source : Stmt := top 19
abbrev N_law_source : List Str := ["_law_cell"]
theorem sc_law_source : FnScope N_law_source ["_law_cell"] (defScope s_law_source) := ⟨rfl, rfl, rfl, by decide +kernel, rfl, by decide +kernel, by decide +kernel⟩

theorem ok_source {f : Addr} {fd : FuncData} (Fn : Fun K "_law_source" "_law_source" s_law_source f fd) (B : Bt mg) : FnOk P w K mg base CX0 1 f fd ["_law_cell"] (SpF K Wsource) := by
  refine Fn.ok sc_law_source (fun vs H Q E h => ?_) (fun cdv A outer s H vs Q E hr h => ?_)
  · obtain ⟨G, ds, post, _, da, ⟨n, rfl, _⟩, _⟩ := h
    exact DpAll.len da
  · refine ⟨_, (pss_cons (ps_set (i := 0) sc_law_source.nd rfl (Or.inl rfl) (pe_callB call_abs' rfl B.b_abs (by decide +kernel) (pa_cons (pv 0) pa_nil)))
 (pss_one (ps_ret (pe_lst (pa_cons (pe_op op_mul (pv 0) (pe_callTy call_int1' rfl B.b_int (by decide +kernel) (pa_cons (pe_cmpR op_ge (pv 0) (pe_op op_pow pe_int pe_int) (nomark _)) pa_nil))) (pa_cons (pe_op op_mod (pe_callTy call_int1' rfl B.b_int (by decide +kernel) (pa_cons (pv 0) pa_nil)) pe_int) (pa_cons pe_int pa_nil))))))), bodyF h fun F ds post hK hio hW ret => ?_⟩
    subst hK
    obtain ⟨n, rfl, k⟩ := hW
    show Rn F _ [.fz (.int n)] _
    walk_at "ev"
    refine o_intC ⟨by decide, by decide, by decide⟩ ?_
    walk_at "ev"
    generalize hm : (if n < 0 then -n else n) = m
    have m0 : 0 ≤ m := by split at hm <;> omega
    generalize hc : (if decide (10 ^ Int.toNat 18 ≤ m) = true then (1 : Int) else 0) = c
    have c01 : c = 1 ∨ c = 0 := by split at hc <;> simp [← hc]
    refine o_intC (Or.inr ⟨by omega, by omega⟩) ?_
    walk_at "ev"
    refine o_intC (by decide) ?_
    walk_at "ev"
    refine ⟨[_, _, _], rfl, (by show 3 ≤ sizeLine; decide), fun p _ => ret _ _ (k p _ ⟨_, _, _, rfl, ?_, ?_⟩)⟩
    · rcases c01 with h | h <;> subst h <;> simp <;> omega
    · exact Int.emod_nonneg _ (by decide)
abbrev s_law_draw : Stmt := top 20
abbrev N_law_draw : List Str := ["_law_source_here", "_law_many", "_law_digit", "_law_mixed_here"]
theorem sc_law_draw : FnScope N_law_draw ["_law_source_here", "_law_many"] (defScope s_law_draw) := ⟨rfl, rfl, rfl, by decide +kernel, rfl, by decide +kernel, by decide +kernel⟩

local macro_rules | `(tactic| walk_at "ix") => `(tactic| repeat (first | walk_at "e1" | ((with_reducible refine' o_ixO (j := 0) ?vj ?ve ?_); (case vj => exact rfl); (case ve => exact rfl))))
theorem ok_draw {f : Addr} {fd : FuncData} (Fn : Fun K "_law_draw" "_law_draw" s_law_draw f fd) (B : Bt mg) : FnOk P w K mg base CX0 1 f fd ["_law_source_here", "_law_many"] (SpM K Wdraw) := by
  refine Fn.ok sc_law_draw (fun vs H Q E h => ?_) (fun cdv A outer s H vs Q E hr h => ?_)
  · obtain ⟨G, p, xs, ds0, ws, as, post, rfl, _, _, _, _, da, ⟨_, m, rfl, _⟩, _⟩ := h
    have := DpAll.len da
    simpa using this
  · refine ⟨_, (pss_cons (ps_if (pt_cmpR op_gt (pe_ix (ix_list' K) (pv 0) pe_int (fun _ _ => rfl)) pe_int (nomark _)) (pss_cons (ps_set (i := 2) sc_law_draw.nd rfl (Or.inl rfl) (pe_op op_mod (pe_callTy call_int1' rfl B.b_int (by decide +kernel) (pa_cons (pe_ix (ix_list' K) (pv 0) pe_int (fun _ _ => rfl)) pa_nil)) (pv 1)))
 (pss_cons (ps_asg (pe_op op_fdivW (pe_ix (ix_list' K) (pv 0) pe_int (fun _ _ => rfl)) (pv 1)) (pg_sub (pv 0) pe_int set_list))
 (pss_one (ps_ret (pv 2))))) pss_nil)
 (pss_cons (ps_asg (pe_op op_add (pe_ix (ix_list' K) (pv 0) pe_int (fun _ _ => rfl)) pe_int) (pg_sub (pv 0) pe_int set_list))
 (pss_cons (ps_set (i := 3) sc_law_draw.nd rfl (Or.inl rfl) (pe_op op_mod (pe_callTy call_int1' rfl B.b_int (by decide +kernel) (pa_cons (pe_op op_mul (pe_op op_add (pe_op op_add (pe_ix (ix_list' K) (pv 0) pe_int (fun _ _ => rfl)) (pe_op op_mul pe_int (pe_ix (ix_list' K) (pv 0) pe_int (fun _ _ => rfl)))) pe_int) pe_int) pa_nil)) pe_int))
 (pss_cons (ps_set (i := 3) sc_law_draw.nd rfl (Or.inl rfl) (pe_op op_mod (pe_callTy call_int1' rfl B.b_int (by decide +kernel) (pa_cons (pe_op op_mul (pv 3) (pe_op op_add (pe_op op_fdiv (pv 3) pe_int) pe_int)) pa_nil)) pe_int))
 (pss_one (ps_ret (pe_op op_mod (pe_callTy call_int1' rfl B.b_int (by decide +kernel) (pa_cons (pe_op op_fdiv (pe_op op_mod (pe_callTy call_int1' rfl B.b_int (by decide +kernel) (pa_cons (pe_op op_mul (pv 3) (pe_op op_add (pe_op op_fdiv (pv 3) pe_int) pe_int)) pa_nil)) pe_int) pe_int) pa_nil)) (pv 1)))))))), bodyM h fun F p ds0 as post hK hio hW ret => ?_⟩
    subst hK
    obtain ⟨⟨a, b, c, rfl, a0, b0⟩, m, rfl, m1, m2, k⟩ := hW
    have lg : m.natAbs.log2 < 9000 := by
      have h1 : m.natAbs.log2 < 100 := (Nat.log2_lt (by omega)).mpr (Nat.lt_of_le_of_lt (show m.natAbs ≤ 1000000000000000000000000000000 by omega) (by decide))
      omega
    show Rn F _ [.ol p [.int a, .int b, .int c], .fz (.int m), .no, .no] _
    walk_at "ix"
    refine ite2 (fun hc => ?_) (fun hc => ?_)
    · walk_at "ix"
      refine o_intC (by show (0 : Int) < m; omega) ?_
      walk_at "ix"
      refine o_intC ⟨by show (0 : Int) < m; omega, lg⟩ ?_
      walk_at "ix"
      refine ⟨_, 0, _, _, rfl, rfl, rfl, ?_⟩
      walk_at "ix"
      exact ret _ _ _ rfl (k _ _ (Int.emod_nonneg _ (by omega)) (Int.emod_lt_of_pos _ (by omega)) ⟨_, _, _, rfl, Int.ediv_nonneg a0 (by omega), b0⟩)
    · walk_at "ix"
      refine ⟨_, 0, _, _, rfl, rfl, rfl, ?_⟩
      walk_at "ix"
      refine o_intC (Or.inl ⟨by decide, by decide⟩) ?_
      walk_at "ix"
      refine o_intC (Or.inr ⟨by decide, by decide⟩) ?_
      walk_at "ix"
      refine o_intC (by decide) ?_
      walk_at "ix"
      generalize hx : ((b + 7919 * (c + 1) + 13) * 48271) % 2147483629 = x
      have x0 : 0 ≤ x ∧ x < 2147483629 := by rw [← hx]; exact ⟨Int.emod_nonneg _ (by decide), Int.emod_lt_of_pos _ (by decide)⟩
      refine o_intC ⟨by decide, by decide⟩ ?_
      walk_at "ix"
      refine o_intC (Or.inl ⟨by omega, by omega⟩) ?_
      walk_at "ix"
      refine o_intC (by decide) ?_
      walk_at "ix"
      generalize hy : (x * (x / 1019 + 69621)) % 2147483579 = y
      have y0 : 0 ≤ y ∧ y < 2147483579 := by rw [← hy]; exact ⟨Int.emod_nonneg _ (by decide), Int.emod_lt_of_pos _ (by decide)⟩
      refine o_intC ⟨by decide, by decide⟩ ?_
      walk_at "ix"
      refine o_intC (Or.inl ⟨by omega, by omega⟩) ?_
      walk_at "ix"
      refine o_intC (by decide) ?_
      walk_at "ix"
      refine o_intC ⟨by decide, by decide⟩ ?_
      walk_at "ix"
      refine o_intC (by show (0 : Int) < m; omega) ?_
      exact ret _ _ _ rfl (k _ _ (Int.emod_nonneg _ (by omega)) (Int.emod_lt_of_pos _ (by omega)) ⟨_, _, _, rfl, a0, b0⟩)
end
end My

namespace My
open PySem L2 SL Mt
local macro_rules | `(tactic| walk_at "e1") => `(tactic| first
  | with_reducible refine nx_seq ?_ | with_reducible refine rn_seq ?_
  | with_reducible refine rn_set ?_ | with_reducible refine rn_ret ?_ | with_reducible refine rn_if ?_ | with_reducible refine rn_drop ?_ | with_reducible refine rn_next ?_
  | with_reducible refine ev_int ?_ | with_reducible refine ev_str ?_ | with_reducible refine ev_bl ?_ | with_reducible refine ev_non ?_
  | ((with_reducible refine' ev_fz ?vv ?_); (case vv => exact rfl))
  | ((with_reducible refine' ev_ol ?vv ?_); (case vv => exact rfl))
  | ((with_reducible refine' ev_al ?vv ?_); (case vv => exact rfl))
  | with_reducible refine ev_op ?_ | with_reducible refine ev_un ?_
  | with_reducible refine o_int ?_ | with_reducible refine o_bl ?_ | with_reducible refine u_int ?_
  | with_reducible refine o_eqI ?_ | with_reducible refine o_neI ?_ | with_reducible refine o_eqS ?_ | with_reducible refine o_neS ?_
  | with_reducible refine ev_isi ?_ | with_reducible refine ev_isi2 ?_ | with_reducible refine ev_cb ?_ | with_reducible refine a_one ?_ | with_reducible refine a_cons ?_ | with_reducible refine a_nil ?_
  | with_reducible refine b_abs ?_ | with_reducible refine b_int ?_ | with_reducible refine b_intb ?_
  | with_reducible refine b_lenL ?_ | with_reducible refine b_lenT ?_
  | with_reducible refine b_tupO ?_ | with_reducible refine b_tupL ?_ | with_reducible refine b_tupT ?_ | with_reducible refine t_yes ?_ | with_reducible refine iteT ?_ | with_reducible refine iteF ?_
  | with_reducible refine t_test ?_ | with_reducible refine t_B ?_ | with_reducible refine t_not ?_ | with_reducible refine t_and ?_ | with_reducible refine t_or ?_
  | with_reducible refine ev_lst ?_ | with_reducible refine ev_tup ?_ | with_reducible refine ev_callM ?_ | with_reducible refine ev_callF ?_ | with_reducible refine rn_setL ?_ | with_reducible refine rn_setDT ?_ | with_reducible refine rn_asg ?_ | ((with_reducible refine' ga_tup ?vv ?_); (case vv => exact rfl)) | with_reducible refine gas_nil ?_ | ((with_reducible refine' gas_name ?vv ?_); (case vv => exact rfl)) | ((with_reducible refine' rn_asgN ?vv ?_); (case vv => exact rfl))
  | with_reducible refine rn_par3 ?_ | with_reducible refine rn_par ?_ | with_reducible refine ev_tupRg ?_ | with_reducible refine ev_listRg ?_ | with_reducible refine ev_disp1T ?_ | with_reducible refine ev_dgetT ?_ | with_reducible refine ev_dnotinT ?_
  | with_reducible refine ev_append ?_ | with_reducible refine ev_extend ?_ | with_reducible refine ev_reverse ?_ | with_reducible refine ev_revL ?_
  | with_reducible refine ev_chain ?_ | with_reducible refine ev_and ?_ | with_reducible refine ev_or ?_ | with_reducible refine ev_not ?_ | with_reducible refine ev_if ?_
  | ((with_reducible refine' ev_oi ?vv ?_); (case vv => exact rfl)) | ((with_reducible refine' ev_ot ?vv ?_); (case vv => exact rfl)) | ((with_reducible refine' ev_od ?vv ?_); (case vv => exact rfl))
  | refine ⟨_, rfl, ?_⟩)
local macro_rules | `(tactic| walk_at "ev") => `(tactic| repeat (walk_at "e1"))

def Wmaps : WM := fun ds0 as post => SrcD ds0 ∧ ∃ mp ml : Nat, as = [intN mp, intN ml] ∧ 1 ≤ mp ∧ mp ≤ 100 ∧ 1 ≤ ml ∧ ml ≤ 100 ∧
  ∀ p n (maps : List (List Nat)) ds1, 1 ≤ n → n ≤ mp → 1 ≤ maps.length → maps.length ≤ ml → (∀ m ∈ maps, IsMap n m) → SrcD ds1 → post (.ol p (maps.map tupN)) ds1
section
variable {P : Program} {w : World} {K : PySem.W.Frag} {mg : Str → Option Value} {base : Heap}
abbrev s_law_maps : Stmt := top 22
abbrev N_law_maps : List Str := ["_law_source_here", "_law_most_points", "_law_most_letters", "_law_size", "_law_many", "_law_turn", "_law_point"]
theorem sc_law_maps : FnScope N_law_maps ["_law_source_here", "_law_most_points", "_law_most_letters"] (defScope s_law_maps) := ⟨rfl, rfl, rfl, by decide +kernel, rfl, by decide +kernel, by decide +kernel⟩

theorem ok_maps {f : Addr} {fd : FuncData} (Fn : Fun K "_law_maps" "_law_maps" s_law_maps f fd) (B : Bt mg) (f_law_draw : Cal P w K mg base 1 "_law_draw" (SpM K Wdraw)) : FnOk P w K mg base CX0 2 f fd ["_law_source_here", "_law_most_points", "_law_most_letters"] (SpM K Wmaps) := by
  refine Fn.ok sc_law_maps (fun vs H Q E h => ?_) (fun cdv A outer s H vs Q E hr h => ?_)
  · obtain ⟨G, p, xs, ds0, ws, as, post, rfl, _, _, _, _, da, ⟨_, mp, ml, rfl, _⟩, _⟩ := h
    have := DpAll.len da
    simpa using this
  · refine ⟨_, (pss_cons (ps_asg (pe_tup (pa_cons (pe_op op_add pe_int (pe_c f_law_draw hr (by decide) rfl (pa_cons (pv 0) (pa_cons (pv 1) pa_nil)))) (pa_cons (pe_op op_add pe_int (pe_c f_law_draw hr (by decide) rfl (pa_cons (pv 0) (pa_cons (pv 2) pa_nil)))) pa_nil))) (pg_tup' K (n := 2) rfl (pgs_cons (pg_name (i := 3) sc_law_maps.nd rfl (Or.inr rfl)) (pgs_cons (pg_name (i := 4) sc_law_maps.nd rfl (Or.inl rfl)) pgs_nil))))
 (pss_one (ps_ret (pe_lcv [5] (pe_lc (own := [("_law_turn", 5)]) (g := gName 5) (tt := tYes) rfl sc_law_maps.nd (pi_range1 rfl B.b_range (pa_cons (pv 4) pa_nil)) (blkOk_by (own := [("_law_turn", 5)]) (N := N_law_maps) (by kernel_rfl)) (fun _ _ _ _ _ => pg_name (i := 5) sc_law_maps.nd rfl (Or.inl rfl)) (fun _ _ _ _ _ => pts_nil) (fun _ _ _ _ _ => (pe_callTy (call_tuple_of' K) rfl B.b_tuple (by decide +kernel) (pa_cons (pe_lcv [6] (pe_lc (own := [("_law_point", 6)]) (g := gName 6) (tt := tYes) rfl sc_law_maps.nd (pi_range1 rfl B.b_range (pa_cons (pv 3) pa_nil)) (blkOk_by (own := [("_law_point", 6)]) (N := N_law_maps) (by kernel_rfl)) (fun _ _ _ _ _ => pg_name (i := 6) sc_law_maps.nd rfl (Or.inl rfl)) (fun _ _ _ _ _ => pts_nil) (fun _ _ _ _ _ => (pe_c f_law_draw hr (by decide) rfl (pa_cons (pv 0) (pa_cons (pv 3) pa_nil)))))) pa_nil)))))))), bodyM h fun F p ds0 as post hK hio hW ret => ?_⟩
    subst hK
    obtain ⟨hs, mp, ml, rfl, p1, p2, l1, l2, k⟩ := hW
    show Rn F _ [.ol p ds0, .fz (intN mp), .fz (intN ml), .no, .no, .no, .no] _
    walk_at "ev"
    refine ⟨p, [_], 0, _, rfl, rfl, hs, (mp : Int), rfl, by omega, by omega, fun d ds1 d0 dm hs1 _ => ?_⟩
    walk_at "ev"
    refine ⟨p, [_], 0, _, rfl, rfl, hs1, (ml : Int), rfl, by omega, by omega, fun e ds2 e0 em hs2 _ => ?_⟩
    walk_at "ev"
    refine ⟨[_, _], rfl, (by show 2 ≤ sizeLine; decide), ?_⟩
    walk_at "ev"
    obtain ⟨n, hn⟩ : ∃ n : Nat, 1 + d = (n : Int) := ⟨(1 + d).toNat, by omega⟩
    obtain ⟨m, hm⟩ : ∃ m : Nat, 1 + e = (m : Int) := ⟨(1 + e).toNat, by omega⟩
    rw [hn, hm]
    refine ev_lc (iw_range1 ?_)
    walk_at "ev"
    refine ⟨by omega, by omega, rfl, (by simp [rangeD]; omega), fun i acc δ' => ∃ (maps : List (List Nat)) (ds3 : List PyData), acc = maps.map tupN ∧ maps.length = i ∧ (∀ x ∈ maps, IsMap n x) ∧ SrcD ds3 ∧
      δ' = [.ol p ds3, .fz (intN mp), .fz (intN ml), .fz (intN n), .fz (intN m), .no, .no], ⟨[], ds2, rfl, rfl, by simp, hs2, rfl⟩, ?_, ?_, ?_⟩
    · rintro i acc δ' ⟨maps, ds3, rfl, hl, _, _, rfl⟩
      exact ⟨rfl, by simp [hl]⟩
    · rintro F' i d5 acc δ' hle hd5 ⟨maps, ds3, rfl, hl, hmaps, hs3, rfl⟩
      rw [← hle.k]
      walk_at "ev"
      refine ev_lc (iw_range1 ?_)
      walk_at "ev"
      refine ⟨by omega, by omega, rfl, (by simp [rangeD]; omega), fun i2 acc δ' => ∃ (ns : List Nat) (ds4 : List PyData), acc = ns.map intN ∧ ns.length = i2 ∧ (∀ x ∈ ns, x < n) ∧ SrcD ds4 ∧
        δ' = [.ol p ds4, .fz (intN mp), .fz (intN ml), .fz (intN n), .fz (intN m), .fz d5, .no], ⟨[], ds3, rfl, rfl, by simp, hs3, rfl⟩, ?_, ?_, ?_⟩
      · rintro i2 acc δ' ⟨ns, ds4, rfl, hl, _, _, rfl⟩
        exact ⟨rfl, by simp [hl]⟩
      · rintro F2 i2 d6 acc δ' hle2 hd6 ⟨ns, ds4, rfl, hl2, hns, hs4, rfl⟩
        rw [← hle2.k]
        walk_at "ev"
        refine ⟨p, [_], 0, _, rfl, rfl, hs4, (n : Int), rfl, by omega, by omega, fun x ds5 x0 xm hs5 _ => ⟨_, rfl, _, rfl, ns ++ [x.toNat], ds5, ?_, by simp [hl2], ?_, hs5, rfl⟩⟩
        · simp [intN, Int.toNat_of_nonneg x0]
        · intro y hy
          rcases List.mem_append.mp hy with h | h
          · exact hns y h
          · have : y = x.toNat := by simpa using h
            omega
      · rintro acc δ' q hq ⟨ns, ds4, rfl, hl2, hns, hs4, rfl⟩
        walk_at "ev"
        refine ⟨maps ++ [ns], ds4, ?_, by simp [hl], ?_, hs4, rfl⟩
        · simp [tupN]
        · intro y hy
          rcases List.mem_append.mp hy with h | h
          · exact hmaps y h
          · have : y = ns := by simpa using h
            subst this
            refine ⟨?_, hns⟩
            rw [hl2]
            simp [rangeD]
    · rintro acc δ' q hq ⟨maps, ds3, rfl, hl, hmaps, hs3, rfl⟩
      have hl' : maps.length = m := by rw [hl]; simp [rangeD]
      exact ret _ _ _ rfl (k q n maps ds3 (by omega) (by omega) (by omega) (by omega) hmaps hs3)
end
end My

namespace My
open PySem L2 SL Mt
local macro_rules | `(tactic| walk_at "e1") => `(tactic| first
  | with_reducible refine nx_seq ?_ | with_reducible refine rn_seq ?_
  | with_reducible refine rn_set ?_ | with_reducible refine rn_ret ?_ | with_reducible refine rn_if ?_ | with_reducible refine rn_drop ?_ | with_reducible refine rn_next ?_
  | with_reducible refine ev_int ?_ | with_reducible refine ev_str ?_ | with_reducible refine ev_bl ?_ | with_reducible refine ev_non ?_
  | ((with_reducible refine' ev_fz ?vv ?_); (case vv => exact rfl))
  | ((with_reducible refine' ev_ol ?vv ?_); (case vv => exact rfl))
  | ((with_reducible refine' ev_al ?vv ?_); (case vv => exact rfl))
  | with_reducible refine ev_op ?_ | with_reducible refine ev_un ?_
  | with_reducible refine o_int ?_ | with_reducible refine o_bl ?_ | with_reducible refine u_int ?_
  | with_reducible refine o_eqI ?_ | with_reducible refine o_neI ?_ | with_reducible refine o_eqS ?_ | with_reducible refine o_neS ?_
  | with_reducible refine ev_isi ?_ | with_reducible refine ev_isi2 ?_ | with_reducible refine ev_cb ?_ | with_reducible refine a_one ?_ | with_reducible refine a_cons ?_ | with_reducible refine a_nil ?_
  | with_reducible refine b_abs ?_ | with_reducible refine b_int ?_ | with_reducible refine b_intb ?_
  | with_reducible refine b_lenL ?_ | with_reducible refine b_lenT ?_
  | with_reducible refine b_tupO ?_ | with_reducible refine b_tupL ?_ | with_reducible refine b_tupT ?_ | with_reducible refine t_yes ?_ | with_reducible refine iteT ?_ | with_reducible refine iteF ?_
  | with_reducible refine t_test ?_ | with_reducible refine t_B ?_ | with_reducible refine t_not ?_ | with_reducible refine t_and ?_ | with_reducible refine t_or ?_
  | with_reducible refine ev_lst ?_ | with_reducible refine ev_tup ?_ | with_reducible refine ev_callM ?_ | with_reducible refine ev_callF ?_ | with_reducible refine rn_setL ?_ | with_reducible refine rn_setDT ?_ | with_reducible refine rn_asg ?_ | ((with_reducible refine' ga_tup ?vv ?_); (case vv => exact rfl)) | with_reducible refine gas_nil ?_ | ((with_reducible refine' gas_name ?vv ?_); (case vv => exact rfl)) | ((with_reducible refine' rn_asgN ?vv ?_); (case vv => exact rfl))
  | with_reducible refine rn_par3 ?_ | with_reducible refine rn_par ?_ | with_reducible refine ev_tupRg ?_ | with_reducible refine ev_listRg ?_ | with_reducible refine ev_disp1T ?_ | with_reducible refine ev_dgetT ?_ | with_reducible refine ev_dnotinT ?_
  | with_reducible refine ev_append ?_ | with_reducible refine ev_extend ?_ | with_reducible refine ev_reverse ?_ | with_reducible refine ev_revL ?_
  | with_reducible refine ev_chain ?_ | with_reducible refine ev_and ?_ | with_reducible refine ev_or ?_ | with_reducible refine ev_not ?_ | with_reducible refine ev_if ?_
  | ((with_reducible refine' ev_oi ?vv ?_); (case vv => exact rfl)) | ((with_reducible refine' ev_ot ?vv ?_); (case vv => exact rfl)) | ((with_reducible refine' ev_od ?vv ?_); (case vv => exact rfl))
  | refine ⟨_, rfl, ?_⟩)
local macro_rules | `(tactic| walk_at "ev") => `(tactic| repeat (walk_at "e1"))

def keyN (y : List Nat) : List Key := y.map fun (j : Nat) => (Sum.inl (j : Int) : Key)
theorem tupN_key (y : List Nat) : tupN y = .tuple ((keyN y).map keyD) := by
  unfold tupN keyN
  rw [List.map_map]
  rfl
theorem keyN_inj {x y : List Nat} (h : keyN x = keyN y) : x = y := by
  unfold keyN at h
  exact List.map_inj_right (fun a b e => by have e2 : (a : Int) = (b : Int) := Sum.inl.inj e; omega) |>.mp h
def kvsOf (found : List (List Nat)) : List (List Key × PyData) := found.zipIdx.map fun p => (keyN p.1, intN p.2)
theorem kvsOf_snoc (found : List (List Nat)) (y : List Nat) : kvsOf (found ++ [y]) = kvsOf found ++ [(keyN y, intN found.length)] := by
  unfold kvsOf
  rw [List.zipIdx_append]
  simp
theorem look_none {found : List (List Nat)} {y : List Nat} (h : y ∉ found) : dlook (kvsOf found) (keyN y) = none := by
  unfold dlook kvsOf
  rw [Option.map_eq_none_iff, List.find?_eq_none]
  intro x hx
  obtain ⟨p, hp, rfl⟩ := List.mem_map.mp hx
  simp only [decide_eq_true_eq]
  intro e
  have h1 := keyN_inj e
  have h2 := List.mem_zipIdx hp
  apply h
  rw [← h1]
  obtain ⟨_, h3, h4⟩ := h2
  rw [h4]
  exact List.getElem_mem _
theorem look_at {y : List Nat} : ∀ (found : List (List Nat)) (k i : Nat), found.Nodup → found[i]? = some y → ((found.zipIdx k).map fun p => (keyN p.1, intN p.2)).find? (fun kv => decide (kv.1 = keyN y)) = some (keyN y, intN (k + i))
  | [], _, _, _, h => by simp at h
  | a :: r, k, 0, _, h => by
    simp at h
    subst h
    simp
  | a :: r, k, i + 1, nd, h => by
    have h' : r[i]? = some y := by simpa using h
    have hn := List.nodup_cons.mp nd
    have hne : ¬ keyN a = keyN y := fun e => hn.1 (by rw [keyN_inj e]; exact List.mem_of_getElem? h')
    simp only [List.zipIdx_cons, List.map_cons, List.find?_cons, hne, decide_false]
    rw [look_at r (k + 1) i hn.2 h']
    have : k + 1 + i = k + (i + 1) := by omega
    rw [this]
theorem look_some {found : List (List Nat)} {y : List Nat} {i : Nat} (nd : found.Nodup) (h : found[i]? = some y) : dlook (kvsOf found) (keyN y) = some (intN i) := by
  unfold dlook kvsOf
  rw [look_at found 0 i nd h]
  simp
theorem kvsOf_len (found : List (List Nat)) : (kvsOf found).length = found.length := by simp [kvsOf]
theorem str_app_len (a b : Str) : (a ++ b).length = a.length + b.length := by
  show (a.cps ++ b.cps).size = a.cps.size + b.cps.size
  simp
theorem wordsOf_short (t : List (Nat × Nat)) : ∀ w ∈ wordsOf t, w.length ≤ t.length := by
  have key : ∀ (n : Nat) (t : List (Nat × Nat)), t.length = n → ∀ w ∈ wordsOf t, w.length ≤ t.length := by
    intro n
    induction n with
    | zero =>
      intro t ht w hw
      have : t = [] := List.length_eq_zero_iff.mp ht
      subst this
      have : w = ⟨#[]⟩ := by simpa [Mt.wordsOf] using hw
      subst this
      exact Nat.le_refl _
    | succ n ih =>
      intro t ht w hw
      rcases List.eq_nil_or_concat t with e | ⟨t', p, e⟩
      · subst e; simp at ht
      · rw [List.concat_eq_append] at e
        subst e
        have ht' : t'.length = n := by simpa using ht
        rw [wordsOf_snoc] at hw
        rcases List.mem_append.mp hw with q | q
        · have := ih t' ht' w q
          simp; omega
        · have : w = (wordsOf t').getD p.1 ⟨#[]⟩ ++ letS p.2 := by simpa using q
          subst this
          rw [str_app_len]
          have h1 : ((wordsOf t').getD p.1 ⟨#[]⟩).length ≤ t'.length := by
            rw [List.getD_eq_getElem?_getD]
            cases q2 : (wordsOf t')[p.1]? with
            | none => exact Nat.zero_le _
            | some w' => exact ih t' ht' w' (List.mem_of_getElem? q2)
          have h2 : (letS p.2).length = 1 := rfl
          simp only [List.length_append, List.length_cons, List.length_nil]
          omega
  exact key t.length t rfl
def strS (w : Str) : PyData := .str w
def Wtable : WF := fun as post => ∃ (n : Nat) (ms : List (List Nat)), as = [.list (ms.map tupN)] ∧ 1 ≤ n ∧ n ≤ 4 ∧ 1 ≤ ms.length ∧ ms.length ≤ 6 ∧ (∀ m ∈ ms, IsMap n m) ∧
  ∀ found words table, Tab n ms found words table → post (.fz (.tuple [.list (found.map tupN), .list (words.map strS), .list (table.map lstN)]))
theorem zip_items {ms : List (List Nat)} (hl : ms.length ≤ 6) : (zipD (signsD "abcdef") (ms.map tupN)).length = ms.length := by
  unfold zipD
  have : (signsD "abcdef").length = 6 := rfl
  rw [List.length_zipWith, this, List.length_map]
  omega
theorem signs_get {l : Nat} (h : l < 6) : (signsD "abcdef")[l]? = some (.str (letS l)) := by
  have h2 : l = 0 ∨ l = 1 ∨ l = 2 ∨ l = 3 ∨ l = 4 ∨ l = 5 := by omega
  rcases h2 with q | q | q | q | q | q <;> subst q <;> rfl
theorem zip_get {ms : List (List Nat)} {l : Nat} {m : List Nat} (hl : ms.length ≤ 6) (h : ms[l]? = some m) : (zipD (signsD "abcdef") (ms.map tupN))[l]? = some (.tuple [.str (letS l), tupN m]) := by
  have h1 : l < ms.length := (List.getElem?_eq_some_iff.mp h).1
  unfold zipD
  rw [List.getElem?_zipWith, signs_get (by omega), List.getElem?_map, h]
  rfl
theorem range_item {n i : Nat} {d : PyData} (h : (rangeD 0 n)[i]? = some d) : d = intN i := by
  have hlt := (List.getElem?_eq_some_iff.mp h).1
  rw [show (rangeD 0 n).length = n from by simp [rangeD]] at hlt
  have h2 : (rangeD 0 n)[i]? = some (intN i) := by
    unfold rangeD
    rw [List.getElem?_map, List.getElem?_range hlt]
    simp [intN]
  rw [h2] at h
  exact (Option.some.inj h).symm
theorem rangeD_len (lo : Int) (n : Nat) : (rangeD lo n).length = n := by simp [rangeD]
section
variable {P : Program} {w : World} {K : PySem.W.Frag} {mg : Str → Option Value} {base : Heap}
abbrev s_law_table : Stmt := top 23
abbrev N_law_table : List Str := ["_law_rows", "_law_found", "_law_words", "_law_table_here", "_law_numbers", "_law_at", "_law_row", "_law_letter", "_law_other", "_law_product", "_law_image"]
theorem sc_law_table : FnScope N_law_table ["_law_rows"] (defScope s_law_table) := ⟨rfl, rfl, rfl, by decide +kernel, rfl, by decide +kernel, by decide +kernel⟩

theorem ok_table {f : Addr} {fd : FuncData} (Fn : Fun K "_law_table" "_law_table" s_law_table f fd) (B : Bt mg) : FnOk P w K mg base CX0 1 f fd ["_law_rows"] (SpF K Wtable) := by
  refine Fn.ok sc_law_table (fun vs H Q E h => ?_) (fun cdv A outer s H vs Q E hr h => ?_)
  · obtain ⟨G, ds, post, _, da, ⟨n, ms, rfl, _⟩, _⟩ := h
    exact DpAll.len da
  · refine ⟨_, (pss_cons (ps_par3 rfl sc_law_table.nd (i := 1) (j := 2) (l := 3) rfl rfl rfl (by decide) (by decide) (by decide) rfl rfl rfl (pa_cons (pe_lst (pa_cons (pe_tupRg rfl rfl B.b_tuple (prg_1 rfl B.b_range (pe_callB (call_len_seq' K) rfl B.b_len (by decide +kernel) (pa_cons (pe_ix (ix_list' K) (pv 0) pe_int (fun _ _ => rfl)) pa_nil)))) pa_nil)) (pa_cons (pe_lst (pa_cons pe_str pa_nil)) (pa_cons (pe_lst pa_nil) pa_nil))) rfl)
 (pss_cons (ps_set (i := 4) sc_law_table.nd rfl (Or.inl rfl) (pe_disp1T hr.u1 (pe_ix (ix_list' K) (pv 1) pe_int (fun _ _ => rfl)) pe_int))
 (pss_cons (ps_for PassesOwn.never rfl (pi_range1 rfl B.b_range (pa_cons pe_int pa_nil)) (pg_name (i := 5) sc_law_table.nd rfl (Or.inl rfl)) (pss_cons (ps_if (pt_cmpR op_ge (pv 5) (pe_callB (call_len_seq' K) rfl B.b_len (by decide +kernel) (pa_cons (pv 1) pa_nil)) (nomark _)) (pss_one (ps_ret (pe_tup (pa_cons (pv 1) (pa_cons (pv 2) (pa_cons (pv 3) pa_nil)))))) pss_nil)
 (pss_cons (ps_set (i := 6) sc_law_table.nd rfl (Or.inl rfl) (pe_lst pa_nil))
 (pss_cons (ps_for PassesOwn.never rfl (pi_zz' K rfl B.b_zip (pa_cons pe_str (pa_cons (pv 0) pa_nil))) (pg_tup' K (n := 2) rfl (pgs_cons (pg_name (i := 7) sc_law_table.nd rfl (Or.inl rfl)) (pgs_cons (pg_name (i := 8) sc_law_table.nd rfl (Or.inr rfl)) pgs_nil))) (pss_cons (ps_set (i := 9) sc_law_table.nd rfl (Or.inl rfl) (pe_callTy (call_tuple_of' K) rfl B.b_tuple (by decide +kernel) (pa_cons (pe_lcv [10] (pe_lc (own := [("_law_image", 10)]) (g := gName 10) (tt := tYes) rfl sc_law_table.nd (pi_tup' K (pe_ix (ix_list' K) (pv 1) (pv 5) (fun _ _ => rfl))) (blkOk_by (own := [("_law_image", 10)]) (N := N_law_table) (by kernel_rfl)) (fun _ _ _ _ _ => pg_name (i := 10) sc_law_table.nd rfl (Or.inl rfl)) (fun _ _ _ _ _ => pts_nil) (fun _ _ _ _ _ => (pe_ix (ix_tup' K) (pv 8) (pv 10) (fun _ _ => rfl))))) pa_nil)))
 (pss_cons (ps_if (pt_cmp (pc_dnotin hr.u1 (pv 9) (pv 4))) (pss_cons (ps_asg (pe_callB (call_len_seq' K) rfl B.b_len (by decide +kernel) (pa_cons (pv 1) pa_nil)) (pg_sub (pv 4) (pv 9) (set_dict hr.u1)))
 (pss_cons (ps_expr (pe_bm' K PySem.F.plainAttrs_list PySem.F.slot_list_append PySem.F.type_list_append mt_append (pv 1) (pa_cons (pv 9) pa_nil)))
 (pss_one (ps_expr (pe_bm' K PySem.F.plainAttrs_list PySem.F.slot_list_append PySem.F.type_list_append mt_append (pv 2) (pa_cons (pe_op op_add_str (pe_ix (ix_list' K) (pv 2) (pv 5) (fun _ _ => rfl)) (pv 7)) pa_nil)))))) pss_nil)
 (pss_one (ps_expr (pe_bm' K PySem.F.plainAttrs_list PySem.F.slot_list_append PySem.F.type_list_append mt_append (pv 6) (pa_cons (pe_dget hr.u1 (pv 4) (pv 9) (fun _ _ => rfl)) pa_nil)))))))
 (pss_one (ps_expr (pe_bm' K PySem.F.plainAttrs_list PySem.F.slot_list_append PySem.F.type_list_append mt_append (pv 3) (pa_cons (pv 6) pa_nil))))))))
 (pss_one (ps_ret (pe_tup (pa_cons (pv 1) (pa_cons (pv 2) (pa_cons (pv 3) pa_nil))))))))), bodyF h fun F ds post hK hio hW ret => ?_⟩
    subst hK
    obtain ⟨n, ms, rfl, n1, n4, l1, l6, hms, k⟩ := hW
    show Rn F _ [.fz (.list (ms.map tupN)), .no, .no, .no, .no, .no, .no, .no, .no, .no, .no] _
    have hm0 : ∃ m, ms[0]? = some m ∧ IsMap n m := ⟨ms[0], List.getElem?_eq_getElem (by omega), hms _ (List.getElem_mem _)⟩
    obtain ⟨m0, hm0, im0⟩ := hm0
    walk_at "ev"
    refine o_ixL (atI_nat (j := 0) (by rw [List.getElem?_map, hm0]; rfl)) ?_
    refine b_lenT ?_
    have lm0 : ((m0.map intN).length : Int) = (n : Int) := by rw [List.length_map, im0.1]
    rw [lm0]
    refine ⟨n, rfl, by omega, [_], rfl, (by show 1 ≤ sizeLine; decide), fun p1 q1 => ?_⟩
    walk_at "ev"
    refine ⟨[_], rfl, (by show 1 ≤ sizeLine; decide), fun p2 q2 => ?_⟩
    walk_at "ev"
    refine ⟨[], rfl, (by show 0 ≤ sizeLine; decide), fun p3 q3 => ?_⟩
    refine ⟨_, _, _, _, _, _, rfl, rfl, rfl, rfl, ?_⟩
    walk_at "ev"
    refine o_ix (.al 1 rfl) (atI_nat (j := 0) rfl) ?_
    have ert : PyData.tuple (rgD n) = tupN (List.range n) := rfl
    rw [ert, tupN_key]
    refine ⟨keyN (List.range n), rfl, ?_⟩
    walk_at "ev"
    intro p4 q4
    rw [← tupN_key]
    walk_at "ev"
    refine rn_for (iw_range1 ?_)
    walk_at "ev"
    refine ⟨by decide, by decide, fun at' δ' => ∃ (found : List (List Nat)) (words : List Str) (rows : List (List Nat)) (s5 s6 s7 s8 s9 : SD), TabI n ms found words rows [] ∧ rows.length = at' ∧ at' ≤ found.length ∧
      δ' = [.fz (.list (ms.map tupN)), .ol p1 (found.map tupN), .ol p2 (words.map strS), .ol p3 (rows.map lstN), .ot p4 (kvsOf found), s5, s6, s7, s8, s9, .no],
      ⟨[List.range n], [⟨#[]⟩], [], _, _, _, _, _, tabI_start n ms, rfl, by simp, rfl⟩, ?_, ?_⟩
    · rintro F' at' d δ' N hle hd ⟨found, words, rows, s5, s6, s7, s8, s9, hT, hat, hlt, rfl⟩ hN
      have hd' : d = intN at' := range_item hd
      subst hd'
      rw [← hle.k]
      have hio' : F'.io = [] := hle.io.trans hio
      have few := maps_few n4 hT.nd hT.mp
      refine rn_asgN (i := 5) rfl ?_
      walk_at "ev"
      refine b_len (.al 1 rfl) ?_
      walk_at "ev"
      rw [List.length_map]
      refine ite2 (fun hc => ?_) (fun hc => ?_)
      · have hge : found.length ≤ at' := by simpa using hc
        have heq : at' = found.length := by omega
        refine Rn.freezeS (i := 1) rfl (by rw [hio']; simp) (Rn.freezeS (i := 2) rfl (by rw [hio']; simp) (Rn.freezeS (i := 3) rfl (by rw [hio']; simp) ?_))
        walk_at "ev"
        refine ⟨[_, _, _], rfl, (by show 3 ≤ sizeLine; decide), ?_⟩
        exact Ro.up hle (ret _ _ (k found words rows (hT.tab (by omega))))
      · have hlt2 : at' < found.length := by
          have : ¬ found.length ≤ at' := by simpa using hc
          omega
        obtain ⟨x, hx⟩ : ∃ x, found[at']? = some x := ⟨_, List.getElem?_eq_getElem hlt2⟩
        have imx : IsMap n x := hT.mp x (List.mem_of_getElem? hx)
        have hsc : rows.length < (scanRows 0 rows []).length + 1 := by
          have e1 := hT.len
          simp only [scanRow] at e1
          omega
        walk_at "ev"
        refine ⟨[], rfl, (by show 0 ≤ sizeLine; decide), fun p6 q6 => ?_⟩
        walk_at "ev"
        refine rn_for (iw_zip ?_)
        walk_at "ev"
        refine ⟨_, _, _, _, rfl, rfl, rfl, fun l δ' => ∃ (found : List (List Nat)) (words : List Str) (row : List Nat) (s7 s8 s9 : SD), TabI n ms found words rows row ∧ row.length = l ∧ at' < found.length ∧ found[at']? = some x ∧
          δ' = [.fz (.list (ms.map tupN)), .ol p1 (found.map tupN), .ol p2 (words.map strS), .ol p3 (rows.map lstN), .ot p4 (kvsOf found), .fz (intN at'), .ol p6 (row.map intN), s7, s8, s9, .no],
          ⟨found, words, [], _, _, _, hT, rfl, hlt2, hx, rfl⟩, ?_, ?_⟩
        · rintro F2 l d δ' N2 hle2 hd2 ⟨found, words, row, s7, s8, s9, hT, hl, hlt, hx, rfl⟩ hN2
          have hlm : l < ms.length := by
            have := (List.getElem?_eq_some_iff.mp hd2).1
            rw [zip_items l6] at this
            exact this
          obtain ⟨m, hm⟩ : ∃ m, ms[l]? = some m := ⟨_, List.getElem?_eq_getElem hlm⟩
          have imm : IsMap n m := hms m (List.mem_of_getElem? hm)
          rw [zip_get l6 hm] at hd2
          cases hd2
          rw [← hle2.k]
          have hio2 : F2.io = [] := hle2.io.trans hio'
          have few := maps_few n4 hT.nd hT.mp
          walk_at "ev"
          refine ev_lc (iw_tup ?_)
          walk_at "ev"
          refine o_ix (.al 1 rfl) (atI_nat (j := at') (by rw [List.getElem?_map, hx]; rfl)) ?_
          refine ⟨_, rfl, rfl, (by rw [List.length_map, imx.1]; omega), fun i acc δ' => acc = ((x.take i).map fun j => intN (m.getD j 0)) ∧
            δ' = [.fz (.list (ms.map tupN)), .ol p1 (found.map tupN), .ol p2 (words.map strS), .ol p3 (rows.map lstN), .ot p4 (kvsOf found), .fz (intN at'), .ol p6 (row.map intN), .fz (.str (letS l)), .fz (tupN m), s9, .no], ⟨by simp, rfl⟩, ?_, ?_, ?_⟩
          · rintro i acc δ' ⟨rfl, rfl⟩
            exact ⟨rfl, by simp; omega⟩
          · rintro F3 i d acc δ' hle3 hd3 ⟨rfl, rfl⟩
            rw [← hle3.k]
            rw [List.getElem?_map] at hd3
            obtain ⟨j, hj, rfl⟩ := Option.map_eq_some_iff.mp hd3
            have hjn : j < m.length := by rw [imm.1]; exact imx.2 j (List.mem_of_getElem? hj)
            walk_at "ev"
            refine o_ixT (atI_nat (j := j) (v := intN (m.getD j 0)) (by rw [List.getElem?_map, List.getElem?_eq_getElem hjn, List.getD_eq_getElem?_getD, List.getElem?_eq_getElem hjn]; rfl)) ?_
            refine ⟨_, rfl, _, rfl, ?_, rfl⟩
            rw [List.take_succ, hj]
            simp
          · rintro acc δ' q hq ⟨rfl, rfl⟩
            have ecomp : PyData.tuple (((x.take (x.map intN).length).map fun j => intN (m.getD j 0))) = tupN (comp x m) := by
              rw [List.length_map, List.take_length]
              unfold tupN comp
              rw [List.map_map]
              rfl
            refine b_tupO ?_
            rw [ecomp]
            walk_at "ev"
            rw [tupN_key]
            refine ⟨_, rfl, ?_⟩
            rw [← tupN_key]
            walk_at "ev"
            refine ⟨p4, 4, _, rfl, rfl, _, rfl, ?_⟩
            by_cases hmem : comp x m ∈ found
            · obtain ⟨o, ho⟩ := List.getElem?_of_mem hmem
              rw [look_some hT.nd ho]
              refine (if_neg (by simp)).mpr ?_
              walk_at "ev"
              refine ⟨p6, 6, _, rfl, rfl, ?_⟩
              walk_at "ev"
              refine ⟨keyN (comp x m), 4, _, intN o, by rw [tupN_key], rfl, look_some hT.nd ho, ?_⟩
              refine ⟨_, _, rfl, rfl, by rw [List.length_map]; omega, ?_⟩
              refine hN2 _ ⟨found, words, row ++ [o], .fz (.str (letS l)), .fz (tupN m), .fz (tupN (comp x m)), hT.old (by rw [hat]; exact hx) (by rw [hl]; exact hm) ho, by simp [hl], hlt, hx, ?_⟩
              rw [List.map_append]
              rfl
            · rw [look_none hmem]
              refine (if_pos (by simp)).mpr ?_
              obtain ⟨wx, hwx⟩ : ∃ wx, words[at']? = some wx := by
                refine ⟨_, List.getElem?_eq_getElem ?_⟩
                rw [hT.wd, wordsOf_len, ← hT.len]
                exact hlt
              have hws : wx.length ≤ 256 := by
                have h1 : wx ∈ words := List.mem_of_getElem? hwx
                rw [hT.wd] at h1
                have h2 := wordsOf_short _ wx h1
                have h3 := hT.len
                omega
              have hT' := hT.new (x := x) (m := m) (wx := wx) (by rw [hat]; exact hx) (by rw [hl]; exact hm) imm hmem (by rw [hat]; exact hwx)
              walk_at "ev"
              refine b_len (.al 1 rfl) ?_
              walk_at "ev"
              refine ⟨keyN (comp x m), 4, _, by rw [tupN_key], rfl, by rw [kvsOf_len]; omega, ?_⟩
              rw [dput_new _ _ _ (look_none hmem)]
              have ekv : kvsOf found ++ [(keyN (comp x m), PyData.int ((found.map tupN).length : Nat))] = kvsOf (found ++ [comp x m]) := by
                rw [kvsOf_snoc, List.length_map]
              rw [ekv]
              walk_at "ev"
              refine ⟨p1, 1, _, rfl, rfl, ?_⟩
              walk_at "ev"
              refine ⟨_, _, rfl, rfl, by rw [List.length_map]; omega, ?_⟩
              walk_at "ev"
              refine ⟨p2, 2, _, rfl, rfl, ?_⟩
              walk_at "ev"
              refine o_ix (.al 2 rfl) (atI_nat (j := at') (v := strS wx) (by rw [List.getElem?_map, hwx]; rfl)) ?_
              walk_at "ev"
              refine o_addS (Nat.le_trans (show wx.length + (letS l).length ≤ 1000 by show wx.length + 1 ≤ 1000; omega) (by decide)) ?_
              refine ⟨_, _, rfl, rfl, by rw [List.length_map, hT.wd, wordsOf_len, ← hT.len]; omega, ?_⟩
              walk_at "ev"
              refine ⟨p6, 6, _, rfl, rfl, ?_⟩
              walk_at "ev"
              refine ⟨keyN (comp x m), 4, _, intN found.length, by rw [tupN_key], rfl, look_some hT'.nd (by rw [List.getElem?_append_right (Nat.le_refl _)]; simp), ?_⟩
              refine ⟨_, _, rfl, rfl, by rw [List.length_map]; omega, ?_⟩
              refine hN2 _ ⟨found ++ [comp x m], words ++ [wx ++ letS l], row ++ [found.length], .fz (.str (letS l)), .fz (tupN m), .fz (tupN (comp x m)), by rw [hl] at hT'; exact hT', by simp [hl], by simp; omega, get_app hx, ?_⟩
              rw [List.map_append, List.map_append, List.map_append]
              rfl
        · rintro δ' ⟨found, words, row, s7, s8, s9, hT, hl, hlt, hx, rfl⟩
          have few := maps_few n4 hT.nd hT.mp
          rw [zip_items l6] at hl
          refine nx_seq ?_
          refine Rn.freezeS (i := 6) rfl (by rw [hio']; simp) ?_
          walk_at "ev"
          refine ⟨p3, 3, _, rfl, rfl, ?_⟩
          walk_at "ev"
          refine ⟨_, _, rfl, rfl, by rw [List.length_map]; omega, ?_⟩
          refine hN _ ⟨found, words, rows ++ [row], .fz (intN at'), .fz (lstN row), s7, s8, s9, hT.done hl hsc, by simp [hat], by omega, ?_⟩
          rw [List.map_append]
          rfl
    · rintro δ' ⟨found, words, rows, s5, s6, s7, s8, s9, hT, hat, hlt, rfl⟩
      have few := maps_few n4 hT.nd hT.mp
      have : (rangeD 0 (Int.toNat 3000)).length = 3000 := by simp [rangeD]
      omega
end
end My

namespace My
open PySem L2 SL Mt
local macro_rules | `(tactic| walk_at "e1") => `(tactic| first
  | with_reducible refine nx_seq ?_ | with_reducible refine rn_seq ?_
  | with_reducible refine rn_set ?_ | with_reducible refine rn_ret ?_ | with_reducible refine rn_if ?_ | with_reducible refine rn_drop ?_ | with_reducible refine rn_next ?_
  | with_reducible refine ev_int ?_ | with_reducible refine ev_str ?_ | with_reducible refine ev_bl ?_ | with_reducible refine ev_non ?_
  | ((with_reducible refine' ev_fz ?vv ?_); (case vv => exact rfl))
  | ((with_reducible refine' ev_ol ?vv ?_); (case vv => exact rfl))
  | ((with_reducible refine' ev_al ?vv ?_); (case vv => exact rfl))
  | with_reducible refine ev_op ?_ | with_reducible refine ev_un ?_
  | with_reducible refine o_int ?_ | with_reducible refine o_bl ?_ | with_reducible refine u_int ?_
  | with_reducible refine o_eqI ?_ | with_reducible refine o_neI ?_ | with_reducible refine o_eqS ?_ | with_reducible refine o_neS ?_
  | with_reducible refine ev_isi ?_ | with_reducible refine ev_isi2 ?_ | with_reducible refine ev_cb ?_ | with_reducible refine a_one ?_ | with_reducible refine a_cons ?_ | with_reducible refine a_nil ?_
  | with_reducible refine b_abs ?_ | with_reducible refine b_int ?_ | with_reducible refine b_intb ?_
  | with_reducible refine b_lenL ?_ | with_reducible refine b_lenT ?_
  | with_reducible refine b_tupO ?_ | with_reducible refine b_tupL ?_ | with_reducible refine b_tupT ?_ | with_reducible refine t_yes ?_ | with_reducible refine iteT ?_ | with_reducible refine iteF ?_
  | with_reducible refine t_test ?_ | with_reducible refine t_B ?_ | with_reducible refine t_not ?_ | with_reducible refine t_and ?_ | with_reducible refine t_or ?_
  | with_reducible refine ev_lst ?_ | with_reducible refine ev_tup ?_ | with_reducible refine ev_callM ?_ | with_reducible refine ev_callF ?_ | with_reducible refine rn_setL ?_ | with_reducible refine rn_setDT ?_ | with_reducible refine rn_asg ?_ | ((with_reducible refine' ga_tup ?vv ?_); (case vv => exact rfl)) | with_reducible refine gas_nil ?_ | ((with_reducible refine' gas_name ?vv ?_); (case vv => exact rfl)) | ((with_reducible refine' rn_asgN ?vv ?_); (case vv => exact rfl))
  | with_reducible refine rn_par3 ?_ | with_reducible refine rn_par ?_ | with_reducible refine ev_tupRg ?_ | with_reducible refine ev_listRg ?_ | with_reducible refine ev_disp1T ?_ | with_reducible refine ev_dgetT ?_ | with_reducible refine ev_dnotinT ?_
  | with_reducible refine ev_append ?_ | with_reducible refine ev_extend ?_ | with_reducible refine ev_reverse ?_ | with_reducible refine ev_revL ?_
  | with_reducible refine ev_chain ?_ | with_reducible refine ev_and ?_ | with_reducible refine ev_or ?_ | with_reducible refine ev_not ?_ | with_reducible refine ev_if ?_
  | ((with_reducible refine' ev_oi ?vv ?_); (case vv => exact rfl)) | ((with_reducible refine' ev_ot ?vv ?_); (case vv => exact rfl)) | ((with_reducible refine' ev_od ?vv ?_); (case vv => exact rfl))
  | refine ⟨_, rfl, ?_⟩)
local macro_rules | `(tactic| walk_at "ev") => `(tactic| repeat (walk_at "e1"))

def isNum : PyData → Bool
  | .int _ => true
  | _ => false
def isSeq : PyData → Bool
  | .list _ => true
  | .tuple _ => true
  | _ => false
def pairN (p : Nat × Nat) : PyData := .tuple [intN p.1, intN p.2]
def Wnum : WF := fun as post => ∃ d, as = [d] ∧ post (.fz (.bool (isNum d)))
def Wseq : WF := fun as post => ∃ d, as = [d] ∧ post (.fz (.bool (isSeq d)))
def Wform : WF := fun as post => ∃ t L, as = [.list (t.map lstN)] ∧ Good t L ∧ post (.fz .none)
def Worder : WF := fun as post => ∃ t, as = [.tuple (t.map tupN)] ∧ ordRows 0 t [] ∧ post (.fz .none)
def Wtree : WF := fun as post => ∃ t L, as = [.tuple (t.map tupN)] ∧ Good t L ∧ ∀ p, post (.ol p (.none :: (scanRows 0 t []).map pairN))
def Wleft : WF := fun as post => ∃ t L, as = [.tuple (t.map tupN), .list (.none :: (scanRows 0 t []).map pairN)] ∧ Good t L ∧ post (.fz (.tuple ((leftsOf t (scanRows 0 t [])).map tupN)))
def Wprod : WF := fun as post => ∃ t L, as = [.tuple (t.map tupN), .tuple ((leftsOf t (scanRows 0 t [])).map tupN)] ∧ Good t L ∧ post (.fz .none)
theorem kit_num : ∀ d : PyData, ∃ b c, kitB (tyN d) "int" = some b ∧ kitB (tyN d) "bool" = some c ∧ (b && !c) = isNum d
  | .none => ⟨false, false, (by decide +kernel : kitB "NoneType" "int" = some false), (by decide +kernel : kitB "NoneType" "bool" = some false), rfl⟩
  | .bool _ => ⟨true, true, (by decide +kernel : kitB "bool" "int" = some true), (by decide +kernel : kitB "bool" "bool" = some true), rfl⟩
  | .int _ => ⟨true, false, (by decide +kernel : kitB "int" "int" = some true), (by decide +kernel : kitB "int" "bool" = some false), rfl⟩
  | .str _ => ⟨false, false, (by decide +kernel : kitB "str" "int" = some false), (by decide +kernel : kitB "str" "bool" = some false), rfl⟩
  | .list _ => ⟨false, false, (by decide +kernel : kitB "list" "int" = some false), (by decide +kernel : kitB "list" "bool" = some false), rfl⟩
  | .tuple _ => ⟨false, false, (by decide +kernel : kitB "tuple" "int" = some false), (by decide +kernel : kitB "tuple" "bool" = some false), rfl⟩
  | .dict _ => ⟨false, false, (by decide +kernel : kitB "dict" "int" = some false), (by decide +kernel : kitB "dict" "bool" = some false), rfl⟩
theorem kit_seq : ∀ d : PyData, ∃ b c, kitB (tyN d) "list" = some b ∧ kitB (tyN d) "tuple" = some c ∧ (b || c) = isSeq d
  | .none => ⟨false, false, (by decide +kernel : kitB "NoneType" "list" = some false), (by decide +kernel : kitB "NoneType" "tuple" = some false), rfl⟩
  | .bool _ => ⟨false, false, (by decide +kernel : kitB "bool" "list" = some false), (by decide +kernel : kitB "bool" "tuple" = some false), rfl⟩
  | .int _ => ⟨false, false, (by decide +kernel : kitB "int" "list" = some false), (by decide +kernel : kitB "int" "tuple" = some false), rfl⟩
  | .str _ => ⟨false, false, (by decide +kernel : kitB "str" "list" = some false), (by decide +kernel : kitB "str" "tuple" = some false), rfl⟩
  | .list _ => ⟨true, false, (by decide +kernel : kitB "list" "list" = some true), (by decide +kernel : kitB "list" "tuple" = some false), rfl⟩
  | .tuple _ => ⟨false, true, (by decide +kernel : kitB "tuple" "list" = some false), (by decide +kernel : kitB "tuple" "tuple" = some true), rfl⟩
  | .dict _ => ⟨false, false, (by decide +kernel : kitB "dict" "list" = some false), (by decide +kernel : kitB "dict" "tuple" = some false), rfl⟩
section
variable {P : Program} {w : World} {K : PySem.W.Frag} {mg : Str → Option Value} {base : Heap}
abbrev s_is_number : Stmt := top 6
abbrev N_is_number : List Str := ["thing"]
theorem sc_is_number : FnScope N_is_number ["thing"] (defScope s_is_number) := ⟨rfl, rfl, rfl, by decide +kernel, rfl, by decide +kernel, by decide +kernel⟩

theorem ok_is_number {f : Addr} {fd : FuncData} (Fn : Fun K "is_number" "is_number" s_is_number f fd) (B : Bt mg) : FnOk P w K mg base CX0 1 f fd ["thing"] (SpF K Wnum) := by
  refine Fn.ok sc_is_number (fun vs H Q E h => ?_) (fun cdv A outer s H vs Q E hr h => ?_)
  · obtain ⟨G, ds, post, _, da, ⟨d, rfl, _⟩, _⟩ := h
    exact DpAll.len da
  · refine ⟨_, (pss_one (ps_ret (pe_and (pe_callB (call_isi' K) rfl B.b_isinstance (by decide +kernel) (pa_cons (pv 0) (pa_cons (pe_bltn (v := .ty "int") (u := .type "int") rfl B.b_int (by decide +kernel) rfl) pa_nil))) (pe_one (pe_not (pe_callB (call_isi' K) rfl B.b_isinstance (by decide +kernel) (pa_cons (pv 0) (pa_cons (pe_bltn (v := .ty "bool") (u := .type "bool") rfl B.b_bool (by decide +kernel) rfl) pa_nil)))))))), bodyF h fun F ds post hK hio hW ret => ?_⟩
    subst hK
    obtain ⟨d, rfl, k⟩ := hW
    show Rn F _ [.fz d] _
    obtain ⟨b, c, hb, hc, hbc⟩ := kit_num d
    walk_at "ev"
    refine ⟨_, _, rfl, hb, _, rfl, ?_⟩
    cases b with
    | true =>
      rw [if_pos rfl]
      walk_at "ev"
      refine ⟨_, _, rfl, hc, _, rfl, ret _ _ ?_⟩
      rw [← hbc] at k
      exact k
    | false =>
      rw [if_neg (by simp)]
      rw [← hbc] at k
      exact ret _ _ k
abbrev s_is_sequence : Stmt := top 7
abbrev N_is_sequence : List Str := ["thing"]
theorem sc_is_sequence : FnScope N_is_sequence ["thing"] (defScope s_is_sequence) := ⟨rfl, rfl, rfl, by decide +kernel, rfl, by decide +kernel, by decide +kernel⟩

theorem ok_is_sequence {f : Addr} {fd : FuncData} (Fn : Fun K "is_sequence" "is_sequence" s_is_sequence f fd) (B : Bt mg) : FnOk P w K mg base CX0 1 f fd ["thing"] (SpF K Wseq) := by
  refine Fn.ok sc_is_sequence (fun vs H Q E h => ?_) (fun cdv A outer s H vs Q E hr h => ?_)
  · obtain ⟨G, ds, post, _, da, ⟨d, rfl, _⟩, _⟩ := h
    exact DpAll.len da
  · refine ⟨_, (pss_one (ps_ret (pe_callB (call_isiT' K) rfl B.b_isinstance (by decide +kernel) (pa_cons (pv 0) (pa_cons (pe_tup (pa_cons (pe_bltn (v := .ty "list") (u := .type "list") rfl B.b_list (by decide +kernel) rfl) (pa_cons (pe_bltn (v := .ty "tuple") (u := .type "tuple") rfl B.b_tuple (by decide +kernel) rfl) pa_nil))) pa_nil))))), bodyF h fun F ds post hK hio hW ret => ?_⟩
    subst hK
    obtain ⟨d, rfl, k⟩ := hW
    show Rn F _ [.fz d] _
    obtain ⟨b, c, hb, hc, hbc⟩ := kit_seq d
    walk_at "ev"
    refine ⟨_, _, _, rfl, hb, hc, ret _ _ ?_⟩
    rw [hbc]
    exact k
abbrev s_check_form : Stmt := top 12
abbrev N_check_form : List Str := ["right", "place", "row", "number"]
theorem sc_check_form : FnScope N_check_form ["right"] (defScope s_check_form) := ⟨rfl, rfl, rfl, by decide +kernel, rfl, by decide +kernel, by decide +kernel⟩

theorem ok_check_form {f : Addr} {fd : FuncData} (Fn : Fun K "check_form" "check_form" s_check_form f fd) (B : Bt mg) (C : Ct mg) (f_is_number : Cal P w K mg base 1 "is_number" (SpF K Wnum)) (f_is_sequence : Cal P w K mg base 1 "is_sequence" (SpF K Wseq)) :
    FnOk P w K mg base CX0 2 f fd ["right"] (SpF K Wform) := by
  refine Fn.ok sc_check_form (fun vs H Q E h => ?_) (fun cdv A outer s H vs Q E hr h => ?_)
  · obtain ⟨G, ds, post, _, da, ⟨t, L, rfl, _⟩, _⟩ := h
    exact DpAll.len da
  · refine ⟨_, (pss_cons (ps_if (PW.pt (pw_or (pt_not (pt_val (pe_c f_is_sequence hr (by decide) rfl (pa_cons (pv 0) pa_nil)))) (pw_or1 (pt_not (pt_chain op_le op_le pe_int (pe_callB (call_len_seq' K) rfl B.b_len (by decide +kernel) (pa_cons (pv 0) pa_nil)) (pe_gc rfl C.g_MOST_ELEMENTS)))))) (pss_one ps_never) pss_nil)
 (pss_one (ps_for PassesOwn.never rfl (pi_enum' K rfl B.b_enumerate (pa_cons (pv 0) pa_nil)) (pg_tup' K (n := 2) rfl (pgs_cons (pg_name (i := 1) sc_check_form.nd rfl (Or.inl rfl)) (pgs_cons (pg_name (i := 2) sc_check_form.nd rfl (Or.inl rfl)) pgs_nil))) (pss_cons (ps_if (PW.pt (pw_or (pt_not (pt_val (pe_c f_is_sequence hr (by decide) rfl (pa_cons (pv 2) pa_nil)))) (pw_or (pt_not (pt_chain op_le op_le pe_int (pe_callB (call_len_seq' K) rfl B.b_len (by decide +kernel) (pa_cons (pv 2) pa_nil)) (pe_gc rfl C.g_MOST_LETTERS))) (pw_or1 (pt_cmpR op_ne (pe_callB (call_len_seq' K) rfl B.b_len (by decide +kernel) (pa_cons (pv 2) pa_nil)) (pe_callB (call_len_seq' K) rfl B.b_len (by decide +kernel) (pa_cons (pe_ix (ix_list' K) (pv 0) pe_int (fun _ _ => rfl)) pa_nil)) (nomark _)))))) (pss_one ps_never) pss_nil)
 (pss_one (ps_if (pt_not (pt_val (pe_callB (cr_all' K rfl) rfl B.b_all (by decide +kernel) (pa_cons (pe_lcv [3] (pe_lc (own := [("number", 3)]) (g := gName 3) (tt := tYes) rfl sc_check_form.nd (pi_list' K (pv 2)) (blkOk_by (own := [("number", 3)]) (N := N_check_form) (by kernel_rfl)) (fun _ _ _ _ _ => pg_name (i := 3) sc_check_form.nd rfl (Or.inl rfl)) (fun _ _ _ _ _ => pts_nil) (fun _ _ _ _ _ => (pe_and (pe_c f_is_number hr (by decide) rfl (pa_cons (pv 3) pa_nil)) (pe_one (pe_chain op_le op_lt pe_int (pv 3) (pe_callB (call_len_seq' K) rfl B.b_len (by decide +kernel) (pa_cons (pv 0) pa_nil)))))))) pa_nil)))) (pss_one ps_never) pss_nil)))))), bodyF h fun F ds post hK hio hW ret => ?_⟩
    subst hK
    obtain ⟨t, L, rfl, g, k⟩ := hW
    show Rn F _ [.fz (.list (t.map lstN)), .no, .no, .no] _
    walk_at "ev"
    refine ⟨[_], rfl, _, rfl, fun _ => ⟨_, rfl, ?_⟩⟩
    refine (if_neg (by simp [isSeq])).mpr ?_
    walk_at "ev"
    refine ⟨_, _, rfl, rfl, ?_⟩
    rw [List.length_map]
    walk_at "ev"
    have g1 := g.n1
    have g2 := g.n2
    have g3 := g.l1
    have g4 := g.l2
    rw [decide_eq_true (by omega : (1 : Int) ≤ (t.length : Int)), if_pos rfl]
    walk_at "ev"
    rw [decide_eq_true (by omega : (t.length : Int) ≤ 2000)]
    refine (if_neg (by simp)).mpr ?_
    walk_at "ev"
    obtain ⟨r0, hr0⟩ : ∃ r0, t[0]? = some r0 := ⟨_, List.getElem?_eq_getElem (by omega)⟩
    have lr0 : r0.length = L := g.rl r0 (List.mem_of_getElem? hr0)
    refine rn_for (iw_enum ?_)
    walk_at "ev"
    refine ⟨fun i δ' => ∃ s1 s2, δ' = [.fz (.list (t.map lstN)), s1, s2, .no], ⟨_, _, rfl⟩, ?_, ?_⟩
    · rintro F' i d δ' N hle hd ⟨s1, s2, rfl⟩ hN
      rw [← hle.k]
      have hio' : F'.io = [] := hle.io.trans hio
      rw [enumD_get, List.getElem?_map] at hd
      cases hr : t[i]? with
      | none => rw [hr] at hd; simp at hd
      | some r =>
        rw [hr] at hd
        have hd' : d = .tuple [.int ((0 + i : Nat) : Int), lstN r] := by simpa using hd.symm
        subst hd'
        have lr : r.length = L := g.rl r (List.mem_of_getElem? hr)
        walk_at "ev"
        refine ⟨[_], rfl, _, rfl, fun _ => ⟨_, rfl, ?_⟩⟩
        refine (if_neg (by simp [isSeq, lstN])).mpr ?_
        walk_at "ev"
        refine b_lenL (ds := r.map intN) ?_
        refine ⟨_, _, rfl, rfl, ?_⟩
        rw [List.length_map, lr]
        walk_at "ev"
        rw [decide_eq_true (by omega : (1 : Int) ≤ (L : Int)), if_pos rfl]
        walk_at "ev"
        rw [decide_eq_true (by omega : (L : Int) ≤ 6)]
        refine (if_neg (by simp)).mpr ?_
        walk_at "ev"
        refine b_lenL (ds := r.map intN) ?_
        rw [List.length_map, lr]
        walk_at "ev"
        refine o_ixL (atI_nat (j := 0) (v := lstN r0) (by rw [List.getElem?_map, hr0]; rfl)) ?_
        refine b_lenL (ds := r0.map intN) ?_
        rw [List.length_map, lr0]
        walk_at "ev"
        rw [decide_eq_true (rfl : (L : Int) = L)]
        refine (if_neg (by simp)).mpr ?_
        walk_at "ev"
        refine ev_lc (iw_list ?_)
        walk_at "ev"
        refine ⟨rfl, (by rw [List.length_map]; omega), fun j acc δ' => acc = (List.replicate j true).map PyData.bool ∧ δ' = [.fz (.list (t.map lstN)), .fz (intN i), .fz (lstN r), .no], ⟨rfl, by simp⟩, ?_, ?_, ?_⟩
        · rintro j acc δ' ⟨rfl, rfl⟩
          exact ⟨rfl, by simp⟩
        · rintro F3 j d acc δ' hle3 hd3 ⟨rfl, rfl⟩
          rw [← hle3.k]
          rw [List.getElem?_map] at hd3
          obtain ⟨o, ho, rfl⟩ := Option.map_eq_some_iff.mp hd3
          have hon : o < t.length := g.en r (List.mem_of_getElem? hr) o (List.mem_of_getElem? ho)
          walk_at "ev"
          refine ⟨[_], rfl, _, rfl, fun _ => ⟨_, rfl, ?_⟩⟩
          refine (if_pos (by simp [isNum])).mpr ?_
          walk_at "ev"
          refine ⟨_, _, rfl, rfl, ?_⟩
          walk_at "ev"
          rw [decide_eq_true (by omega : (0 : Int) ≤ (o : Int)), if_pos rfl]
          walk_at "ev"
          trace_state
          rw [List.length_map, decide_eq_true (by omega : (o : Int) < (t.length : Int))]
          refine ⟨?_, rfl⟩
          rw [List.replicate_succ', List.map_append]
          rfl
        · rintro acc δ' q hq ⟨rfl, rfl⟩
          refine b_all .ol ?_
          have e : (List.replicate (r.map intN).length true).all id = true := by simp
          rw [e]
          walk_at "ev"
          exact hN _ ⟨_, _, rfl⟩
    · rintro δ' ⟨s1, s2, rfl⟩
      exact fun G H σ s => ret _ _ k .non G H σ (s.push rfl .non)
end
end My

namespace My
open PySem L2 SL Mt
local macro_rules | `(tactic| walk_at "e1") => `(tactic| first
  | with_reducible refine nx_seq ?_ | with_reducible refine rn_seq ?_
  | with_reducible refine rn_set ?_ | with_reducible refine rn_ret ?_ | with_reducible refine rn_if ?_ | with_reducible refine rn_drop ?_ | with_reducible refine rn_next ?_
  | with_reducible refine ev_int ?_ | with_reducible refine ev_str ?_ | with_reducible refine ev_bl ?_ | with_reducible refine ev_non ?_
  | ((with_reducible refine' ev_fz ?vv ?_); (case vv => exact rfl))
  | ((with_reducible refine' ev_ol ?vv ?_); (case vv => exact rfl))
  | ((with_reducible refine' ev_al ?vv ?_); (case vv => exact rfl))
  | with_reducible refine ev_op ?_ | with_reducible refine ev_un ?_
  | with_reducible refine o_int ?_ | with_reducible refine o_bl ?_ | with_reducible refine u_int ?_
  | with_reducible refine o_eqI ?_ | with_reducible refine o_neI ?_ | with_reducible refine o_eqS ?_ | with_reducible refine o_neS ?_
  | with_reducible refine ev_isi ?_ | with_reducible refine ev_isi2 ?_ | with_reducible refine ev_cb ?_ | with_reducible refine a_one ?_ | with_reducible refine a_cons ?_ | with_reducible refine a_nil ?_
  | with_reducible refine b_abs ?_ | with_reducible refine b_int ?_ | with_reducible refine b_intb ?_
  | with_reducible refine b_lenL ?_ | with_reducible refine b_lenT ?_
  | with_reducible refine b_tupO ?_ | with_reducible refine b_tupL ?_ | with_reducible refine b_tupT ?_ | with_reducible refine t_yes ?_ | with_reducible refine iteT ?_ | with_reducible refine iteF ?_
  | with_reducible refine t_test ?_ | with_reducible refine t_B ?_ | with_reducible refine t_not ?_ | with_reducible refine t_and ?_ | with_reducible refine t_or ?_
  | with_reducible refine ev_lst ?_ | with_reducible refine ev_tup ?_ | with_reducible refine ev_callM ?_ | with_reducible refine ev_callF ?_ | with_reducible refine rn_setL ?_ | with_reducible refine rn_setDT ?_ | with_reducible refine rn_asg ?_ | ((with_reducible refine' ga_tup ?vv ?_); (case vv => exact rfl)) | with_reducible refine gas_nil ?_ | ((with_reducible refine' gas_name ?vv ?_); (case vv => exact rfl)) | ((with_reducible refine' rn_asgN ?vv ?_); (case vv => exact rfl))
  | with_reducible refine rn_par3 ?_ | with_reducible refine rn_par ?_ | with_reducible refine ev_tupRg ?_ | with_reducible refine ev_listRg ?_ | with_reducible refine ev_disp1T ?_ | with_reducible refine ev_dgetT ?_ | with_reducible refine ev_dnotinT ?_
  | with_reducible refine ev_append ?_ | with_reducible refine ev_extend ?_ | with_reducible refine ev_reverse ?_ | with_reducible refine ev_revL ?_
  | with_reducible refine ev_chain ?_ | with_reducible refine ev_and ?_ | with_reducible refine ev_or ?_ | with_reducible refine ev_not ?_ | with_reducible refine ev_if ?_
  | ((with_reducible refine' ev_oi ?vv ?_); (case vv => exact rfl)) | ((with_reducible refine' ev_ot ?vv ?_); (case vv => exact rfl)) | ((with_reducible refine' ev_od ?vv ?_); (case vv => exact rfl))
  | refine ⟨_, rfl, ?_⟩)
local macro_rules | `(tactic| walk_at "ev") => `(tactic| repeat (walk_at "e1"))

theorem enum_item {ds : List PyData} {i : Nat} {d : PyData} (h : (enumD 0 ds)[i]? = some d) : ∃ e, ds[i]? = some e ∧ d = .tuple [intN i, e] := by
  rw [enumD_get] at h
  cases hr : ds[i]? with
  | none => rw [hr] at h; simp at h
  | some e =>
    rw [hr] at h
    exact ⟨e, rfl, by simpa [intN] using h.symm⟩
theorem map_item {α : Type} {f : α → PyData} {l : List α} {i : Nat} {d : PyData} (h : (l.map f)[i]? = some d) : ∃ x, l[i]? = some x ∧ d = f x := by
  rw [List.getElem?_map] at h
  obtain ⟨x, hx, rfl⟩ := Option.map_eq_some_iff.mp h
  exact ⟨x, hx, rfl⟩
theorem map_get {α : Type} {f : α → PyData} {l : List α} {i : Nat} {x : α} (h : l[i]? = some x) : (l.map f)[i]? = some (f x) := by
  rw [List.getElem?_map, h]; rfl
section
variable {P : Program} {w : World} {K : PySem.W.Frag} {mg : Str → Option Value} {base : Heap}
abbrev s_check_order : Stmt := top 13
abbrev N_check_order : List Str := ["right", "met", "number", "row", "other"]
theorem sc_check_order : FnScope N_check_order ["right"] (defScope s_check_order) := ⟨rfl, rfl, rfl, by decide +kernel, rfl, by decide +kernel, by decide +kernel⟩

theorem ok_check_order {f : Addr} {fd : FuncData} (Fn : Fun K "check_order" "check_order" s_check_order f fd) (B : Bt mg) : FnOk P w K mg base CX0 1 f fd ["right"] (SpF K Worder) := by
  refine Fn.ok sc_check_order (fun vs H Q E h => ?_) (fun cdv A outer s H vs Q E hr h => ?_)
  · obtain ⟨G, ds, post, _, da, ⟨t, rfl, _⟩, _⟩ := h
    exact DpAll.len da
  · refine ⟨_, (pss_cons (ps_set (i := 1) sc_check_order.nd rfl (Or.inl rfl) pe_int)
 (pss_one (ps_for PassesOwn.never rfl (pi_enumT' K rfl B.b_enumerate (pa_cons (pv 0) pa_nil)) (pg_tup' K (n := 2) rfl (pgs_cons (pg_name (i := 2) sc_check_order.nd rfl (Or.inl rfl)) (pgs_cons (pg_name (i := 3) sc_check_order.nd rfl (Or.inl rfl)) pgs_nil))) (pss_cons (ps_if (pt_cmpR op_ge (pv 2) (pv 1) (nomark _)) (pss_one ps_never) pss_nil)
 (pss_one (ps_for PassesOwn.never rfl (pi_tup' K (pv 3)) (pg_name (i := 4) sc_check_order.nd rfl (Or.inl rfl)) (pss_cons (ps_if (pt_cmpR op_gt (pv 4) (pv 1) (nomark _)) (pss_one ps_never) pss_nil)
 (pss_one (ps_set (i := 1) sc_check_order.nd rfl (Or.inl rfl) (pe_op op_add (pv 1) (pe_callTy call_int1' rfl B.b_int (by decide +kernel) (pa_cons (pe_cmpR op_eq (pv 4) (pv 1) (nomark _)) pa_nil)))))))))))), bodyF h fun F ds post hK hio hW ret => ?_⟩
    subst hK
    obtain ⟨t, rfl, g, k⟩ := hW
    show Rn F _ [.fz (.tuple (t.map tupN)), .no, .no, .no, .no] _
    walk_at "ev"
    refine rn_for (iw_enumT ?_)
    walk_at "ev"
    refine ⟨fun i δ' => ∃ (tr : List (Nat × Nat)) (s2 s3 s4 : SD), ordRows i (t.drop i) tr ∧ δ' = [.fz (.tuple (t.map tupN)), .fz (intN (tr.length + 1)), s2, s3, s4], ⟨[], _, _, _, g, rfl⟩, ?_, ?_⟩
    · rintro F' i d δ' N hle hd ⟨tr, s2, s3, s4, ho, rfl⟩ hN
      try rw [← hle.k]
      obtain ⟨e, he, rfl⟩ := enum_item hd
      obtain ⟨r, hr, rfl⟩ := map_item he
      rw [drop_get hr] at ho
      obtain ⟨o1, o2, o3⟩ := ho
      walk_at "ev"
      rw [decide_eq_false (by omega : ¬ ((tr.length + 1 : Nat) : Int) ≤ (i : Int))]
      refine (if_neg (by simp)).mpr ?_
      walk_at "ev"
      refine rn_for (iw_tup ?_)
      walk_at "ev"
      refine ⟨fun j δ' => ∃ (tr2 : List (Nat × Nat)) (s4 : SD), ordRow i j (r.drop j) tr2 ∧ scanRow i j (r.drop j) tr2 = scanRow i 0 r tr ∧ δ' = [.fz (.tuple (t.map tupN)), .fz (intN (tr2.length + 1)), .fz (intN i), .fz (tupN r), s4], ⟨tr, _, o2, rfl, rfl⟩, ?_, ?_⟩
      · rintro F2 j d δ' N2 hle2 hd2 ⟨tr2, s4, h1, h2, rfl⟩ hN2
        try rw [← hle2.k]
        obtain ⟨o, ho, rfl⟩ := map_item hd2
        rw [drop_get ho] at h1 h2
        obtain ⟨h3, h4⟩ := h1
        refine rn_asgN (i := 4) rfl ?_
        walk_at "ev"
        rw [decide_eq_false (by omega : ¬ ((tr2.length + 1 : Nat) : Int) < (o : Int))]
        refine (if_neg (by simp)).mpr ?_
        walk_at "ev"
        refine hN2 _ ⟨stp o i j tr2, .fz (intN o), h4, h2, ?_⟩
        have e : (((tr2.length + 1 : Nat) : Int) + (if decide ((o : Int) = ((tr2.length + 1 : Nat) : Int)) = true then 1 else 0)) = (((stp o i j tr2).length + 1 : Nat) : Int) := by
          by_cases h : o = tr2.length + 1
          · rw [stp_new h, if_pos (by simp [h])]; simp
          · rw [stp_old h, if_neg (by simp; omega)]; simp
        rw [e]
        rfl
      · rintro δ' ⟨tr2, s4, h1, h2, rfl⟩
        have e : r.drop (r.map intN).length = [] := by rw [List.length_map, List.drop_length]
        rw [e] at h2
        have h2' : tr2 = scanRow i 0 r tr := h2
        subst h2'
        exact hN _ ⟨_, _, _, _, o3, rfl⟩
    · rintro δ' ⟨tr, s2, s3, s4, _, rfl⟩
      exact fun G H σ s => ret _ _ k .non G H σ (s.push rfl .non)
abbrev s_tree_of : Stmt := top 14
abbrev N_tree_of : List Str := ["right", "found", "number", "row", "letter", "other"]
theorem sc_tree_of : FnScope N_tree_of ["right"] (defScope s_tree_of) := ⟨rfl, rfl, rfl, by decide +kernel, rfl, by decide +kernel, by decide +kernel⟩

theorem ok_tree_of {f : Addr} {fd : FuncData} (Fn : Fun K "tree_of" "tree_of" s_tree_of f fd) (B : Bt mg) : FnOk P w K mg base CX0 1 f fd ["right"] (SpF K Wtree) := by
  refine Fn.ok sc_tree_of (fun vs H Q E h => ?_) (fun cdv A outer s H vs Q E hr h => ?_)
  · obtain ⟨G, ds, post, _, da, ⟨t, L, rfl, _⟩, _⟩ := h
    exact DpAll.len da
  · refine ⟨_, (pss_cons (ps_set (i := 1) sc_tree_of.nd rfl (Or.inl rfl) (pe_lst (pa_cons pe_non pa_nil)))
 (pss_cons (ps_for PassesOwn.never rfl (pi_enumT' K rfl B.b_enumerate (pa_cons (pv 0) pa_nil)) (pg_tup' K (n := 2) rfl (pgs_cons (pg_name (i := 2) sc_tree_of.nd rfl (Or.inl rfl)) (pgs_cons (pg_name (i := 3) sc_tree_of.nd rfl (Or.inl rfl)) pgs_nil))) (pss_one (ps_for PassesOwn.never rfl (pi_enumT' K rfl B.b_enumerate (pa_cons (pv 3) pa_nil)) (pg_tup' K (n := 2) rfl (pgs_cons (pg_name (i := 4) sc_tree_of.nd rfl (Or.inl rfl)) (pgs_cons (pg_name (i := 5) sc_tree_of.nd rfl (Or.inl rfl)) pgs_nil))) (pss_one (ps_if (pt_cmpR op_eq (pv 5) (pe_callB (call_len_seq' K) rfl B.b_len (by decide +kernel) (pa_cons (pv 1) pa_nil)) (nomark _)) (pss_one (ps_expr (pe_bm' K PySem.F.plainAttrs_list PySem.F.slot_list_append PySem.F.type_list_append mt_append (pv 1) (pa_cons (pe_tup (pa_cons (pv 2) (pa_cons (pv 4) pa_nil))) pa_nil)))) pss_nil)))))
 (pss_one (ps_ret (pv 1))))), bodyF h fun F ds post hK hio hW ret => ?_⟩
    subst hK
    obtain ⟨t, L, rfl, g, k⟩ := hW
    have gl := g.len
    have g2 := g.n2
    show Rn F _ [.fz (.tuple (t.map tupN)), .no, .no, .no, .no, .no] _
    walk_at "ev"
    refine ⟨[_], rfl, (by show 1 ≤ sizeLine; decide), fun p hp => ?_⟩
    walk_at "ev"
    refine rn_for (iw_enumT ?_)
    walk_at "ev"
    refine ⟨fun i δ' => ∃ (tr : List (Nat × Nat)) (s2 s3 s4 s5 : SD), scanRows i (t.drop i) tr = scanRows 0 t [] ∧ δ' = [.fz (.tuple (t.map tupN)), .ol p (.none :: tr.map pairN), s2, s3, s4, s5], ⟨[], _, _, _, _, rfl, rfl⟩, ?_, ?_⟩
    · rintro F' i d δ' N hle hd ⟨tr, s2, s3, s4, s5, ho, rfl⟩ hN
      try rw [← hle.k]
      obtain ⟨e, he, rfl⟩ := enum_item hd
      obtain ⟨r, hr, rfl⟩ := map_item he
      rw [drop_get hr] at ho
      simp only [scanRows] at ho
      walk_at "ev"
      refine rn_for (iw_enumT ?_)
      walk_at "ev"
      refine ⟨fun j δ' => ∃ (tr2 : List (Nat × Nat)) (s4 s5 : SD), scanRow i j (r.drop j) tr2 = scanRow i 0 r tr ∧ δ' = [.fz (.tuple (t.map tupN)), .ol p (.none :: tr2.map pairN), .fz (intN i), .fz (tupN r), s4, s5], ⟨tr, _, _, rfl, rfl⟩, ?_, ?_⟩
      · rintro F2 j d δ' N2 hle2 hd2 ⟨tr2, s4, s5, h2, rfl⟩ hN2
        try rw [← hle2.k]
        obtain ⟨e, he, rfl⟩ := enum_item hd2
        obtain ⟨o, ho2, rfl⟩ := map_item he
        rw [drop_get ho2] at h2
        have hlen : tr2.length ≤ 2000 := by
          have a1 := scanRow_le i (o :: r.drop (j + 1)) j tr2
          have a2 := scanRows_le (t.drop (i + 1)) (i + 1) (scanRow i 0 r tr)
          rw [h2] at a1
          rw [ho] at a2
          omega
        walk_at "ev"
        refine b_len (.al 1 rfl) ?_
        walk_at "ev"
        have el : ((PyData.none :: tr2.map pairN).length : Int) = ((tr2.length + 1 : Nat) : Int) := by simp
        rw [el]
        simp only [scanRow] at h2
        by_cases h : o = tr2.length + 1
        · rw [stp_new h] at h2
          refine (if_pos (by simp [h])).mpr ?_
          walk_at "ev"
          refine ⟨p, 1, _, rfl, rfl, ?_⟩
          walk_at "ev"
          refine ⟨[_, _], rfl, (by show 2 ≤ sizeLine; decide), ?_⟩
          refine ⟨_, _, rfl, rfl, by simp; omega, ?_⟩
          refine hN2 _ ⟨tr2 ++ [(i, j)], .fz (intN j), .fz (intN o), h2, ?_⟩
          rw [List.map_append]
          rfl
        · rw [stp_old h] at h2
          refine (if_neg (by simp; omega)).mpr ?_
          walk_at "ev"
          exact hN2 _ ⟨tr2, .fz (intN j), .fz (intN o), h2, rfl⟩
      · rintro δ' ⟨tr2, s4, s5, h2, rfl⟩
        have e : r.drop (enumD 0 (r.map intN)).length = [] := by rw [enumD_len, List.length_map, List.drop_length]
        rw [e] at h2
        have h2' : tr2 = scanRow i 0 r tr := h2
        subst h2'
        exact hN _ ⟨_, _, _, _, _, ho, rfl⟩
    · rintro δ' ⟨tr, s2, s3, s4, s5, ho, rfl⟩
      have e : t.drop (enumD 0 (t.map tupN)).length = [] := by rw [enumD_len, List.length_map, List.drop_length]
      rw [e] at ho
      have h2' : tr = scanRows 0 t [] := ho
      subst h2'
      refine nx_seq ?_
      refine rn_ret (ev_mv (i := 1) rfl (by simp) ?_)
      exact ret _ _ (k p)
end
end My

namespace My
open PySem L2 SL Mt
local macro_rules | `(tactic| walk_at "e1") => `(tactic| first
  | with_reducible refine nx_seq ?_ | with_reducible refine rn_seq ?_
  | with_reducible refine rn_set ?_ | with_reducible refine rn_ret ?_ | with_reducible refine rn_if ?_ | with_reducible refine rn_drop ?_ | with_reducible refine rn_next ?_
  | with_reducible refine ev_int ?_ | with_reducible refine ev_str ?_ | with_reducible refine ev_bl ?_ | with_reducible refine ev_non ?_
  | ((with_reducible refine' ev_fz ?vv ?_); (case vv => exact rfl))
  | ((with_reducible refine' ev_ol ?vv ?_); (case vv => exact rfl))
  | ((with_reducible refine' ev_al ?vv ?_); (case vv => exact rfl))
  | with_reducible refine ev_op ?_ | with_reducible refine ev_un ?_
  | with_reducible refine o_int ?_ | with_reducible refine o_bl ?_ | with_reducible refine u_int ?_
  | with_reducible refine o_eqI ?_ | with_reducible refine o_neI ?_ | with_reducible refine o_eqS ?_ | with_reducible refine o_neS ?_
  | with_reducible refine ev_isi ?_ | with_reducible refine ev_isi2 ?_ | with_reducible refine ev_cb ?_ | with_reducible refine a_one ?_ | with_reducible refine a_cons ?_ | with_reducible refine a_nil ?_
  | with_reducible refine b_abs ?_ | with_reducible refine b_int ?_ | with_reducible refine b_intb ?_
  | with_reducible refine b_lenL ?_ | with_reducible refine b_lenT ?_
  | with_reducible refine b_tupO ?_ | with_reducible refine b_tupL ?_ | with_reducible refine b_tupT ?_ | with_reducible refine t_yes ?_ | with_reducible refine iteT ?_ | with_reducible refine iteF ?_
  | with_reducible refine t_test ?_ | with_reducible refine t_B ?_ | with_reducible refine t_not ?_ | with_reducible refine t_and ?_ | with_reducible refine t_or ?_
  | with_reducible refine ev_lst ?_ | with_reducible refine ev_tup ?_ | with_reducible refine ev_callM ?_ | with_reducible refine ev_callF ?_ | with_reducible refine rn_setL ?_ | with_reducible refine rn_setDT ?_ | with_reducible refine rn_asg ?_ | ((with_reducible refine' ga_tup ?vv ?_); (case vv => exact rfl)) | with_reducible refine gas_nil ?_ | ((with_reducible refine' gas_name ?vv ?_); (case vv => exact rfl)) | ((with_reducible refine' rn_asgN ?vv ?_); (case vv => exact rfl))
  | with_reducible refine rn_par3 ?_ | with_reducible refine rn_par ?_ | with_reducible refine ev_tupRg ?_ | with_reducible refine ev_listRg ?_ | with_reducible refine ev_disp1T ?_ | with_reducible refine ev_dgetT ?_ | with_reducible refine ev_dnotinT ?_
  | with_reducible refine ev_append ?_ | with_reducible refine ev_extend ?_ | with_reducible refine ev_reverse ?_ | with_reducible refine ev_revL ?_
  | with_reducible refine ev_chain ?_ | with_reducible refine ev_and ?_ | with_reducible refine ev_or ?_ | with_reducible refine ev_not ?_ | with_reducible refine ev_if ?_
  | ((with_reducible refine' ev_oi ?vv ?_); (case vv => exact rfl)) | ((with_reducible refine' ev_ot ?vv ?_); (case vv => exact rfl)) | ((with_reducible refine' ev_od ?vv ?_); (case vv => exact rfl))
  | refine ⟨_, rfl, ?_⟩)
local macro_rules | `(tactic| walk_at "ev") => `(tactic| repeat (walk_at "e1"))

section
variable {P : Program} {w : World} {K : PySem.W.Frag} {mg : Str → Option Value} {base : Heap}
abbrev s_left_of : Stmt := top 15
abbrev N_left_of : List Str := ["right", "tree", "found", "ahead", "letter", "number"]
theorem sc_left_of : FnScope N_left_of ["right", "tree"] (defScope s_left_of) := ⟨rfl, rfl, rfl, by decide +kernel, rfl, by decide +kernel, by decide +kernel⟩

theorem ok_left_of {f : Addr} {fd : FuncData} (Fn : Fun K "left_of" "left_of" s_left_of f fd) (B : Bt mg) : FnOk P w K mg base CX0 1 f fd ["right", "tree"] (SpF K Wleft) := by
  refine Fn.ok sc_left_of (fun vs H Q E h => ?_) (fun cdv A outer s H vs Q E hr h => ?_)
  · obtain ⟨G, ds, post, _, da, ⟨t, L, rfl, _⟩, _⟩ := h
    exact DpAll.len da
  · refine ⟨_, (pss_cons (ps_set (i := 2) sc_left_of.nd rfl (Or.inl rfl) (pe_lst (pa_cons (pe_callTy (call_tuple_of' K) rfl B.b_tuple (by decide +kernel) (pa_cons (pe_ix (ix_tup' K) (pv 0) pe_int (fun _ _ => rfl)) pa_nil)) pa_nil)))
 (pss_cons (ps_for PassesOwn.never rfl (pi_list' K (pe_slice (sl_list' K) (pv 1) (po_some pe_int) po_none)) (pg_tup' K (n := 2) rfl (pgs_cons (pg_name (i := 3) sc_left_of.nd rfl (Or.inl rfl)) (pgs_cons (pg_name (i := 4) sc_left_of.nd rfl (Or.inr rfl)) pgs_nil))) (pss_one (ps_expr (pe_bm' K PySem.F.plainAttrs_list PySem.F.slot_list_append PySem.F.type_list_append mt_append (pv 2) (pa_cons (pe_callTy (call_tuple_of' K) rfl B.b_tuple (by decide +kernel) (pa_cons (pe_lcv [5] (pe_lc (own := [("number", 5)]) (g := gName 5) (tt := tYes) rfl sc_left_of.nd (pi_tup' K (pe_ix (ix_list' K) (pv 2) (pv 3) (fun _ _ => rfl))) (blkOk_by (own := [("number", 5)]) (N := N_left_of) (by kernel_rfl)) (fun _ _ _ _ _ => pg_name (i := 5) sc_left_of.nd rfl (Or.inl rfl)) (fun _ _ _ _ _ => pts_nil) (fun _ _ _ _ _ => (pe_ix (ix_tup' K) (pe_ix (ix_tup' K) (pv 0) (pv 5) (fun _ _ => rfl)) (pv 4) (fun _ _ => rfl))))) pa_nil)) pa_nil)))))
 (pss_one (ps_ret (pe_callTy (call_tuple_of' K) rfl B.b_tuple (by decide +kernel) (pa_cons (pv 2) pa_nil)))))), bodyF h fun F ds post hK hio hW ret => ?_⟩
    subst hK
    obtain ⟨t, L, rfl, g, k⟩ := hW
    have gl := g.len
    have g1 := g.n1
    have g2 := g.n2
    have g3 := g.l2
    generalize htr : scanRows 0 t [] = tr at *
    show Rn F _ [.fz (.tuple (t.map tupN)), .fz (.list (.none :: tr.map pairN)), .no, .no, .no, .no] _
    obtain ⟨r0, hr0⟩ : ∃ r0, t[0]? = some r0 := ⟨_, List.getElem?_eq_getElem (by omega)⟩
    walk_at "ev"
    refine o_ixT (atI_nat (j := 0) (v := tupN r0) (map_get hr0)) ?_
    walk_at "ev"
    refine b_tupT (ds := r0.map intN) ?_
    refine ⟨[_], rfl, (by show 1 ≤ sizeLine; decide), fun p hp => ?_⟩
    walk_at "ev"
    refine rn_for (iw_listO (ev_from (i := 1) ?_))
    walk_at "ev"
    refine ⟨_, .fz, fun q hq => ⟨q, _, hq, rfl, fun i δ' => ∃ (s3 s4 : SD), i ≤ tr.length ∧ δ' = [.fz (.tuple (t.map tupN)), .fz (.list (.none :: tr.map pairN)), .ol p ((leftsOf t (tr.take i)).map tupN), s3, s4, .no], ⟨.no, .no, Nat.zero_le _, ?_⟩, ?_, ?_⟩⟩
    · rw [List.take_zero]
      have : (leftsOf t []).map tupN = [PyData.tuple (r0.map intN)] := by simp [leftsOf, List.getD_eq_getElem?_getD, hr0, tupN]
      rw [this]
      rfl
    · rintro F' i d δ' N hle hd ⟨s3, s4, hi, rfl⟩ hN
      try rw [← hle.k]
      obtain ⟨⟨a, l⟩, hp2, rfl⟩ := map_item (l := tr) (f := pairN) hd
      have hlt : i < tr.length := (List.getElem?_eq_some_iff.mp hp2).1
      obtain ⟨c1, c2, c3⟩ := g.tree (k := i) (a := a) (l := l) (by rw [htr]; exact hp2)
      have hla : a < (leftsOf t (tr.take i)).length := by rw [leftsOf_len, List.length_take]; omega
      have hq2 : (leftsOf t (tr.take i))[a]? = some (leftsOf t (tr.take i))[a] := List.getElem?_eq_getElem hla
      obtain ⟨d1, d2⟩ := g.lefts _ (tr.take i) rfl (tr.drop i) (by rw [htr, List.take_append_drop]) _ (List.mem_of_getElem? hq2)
      generalize (leftsOf t (tr.take i))[a] = qa at hq2 d1 d2
      unfold pairN
      walk_at "ev"
      refine ⟨p, 2, _, rfl, rfl, ?_⟩
      walk_at "ev"
      refine ev_lc (iw_tup ?_)
      walk_at "ev"
      refine o_ix (.al 2 rfl) (atI_nat (j := a) (v := tupN qa) (map_get hq2)) ?_
      refine ⟨_, rfl, rfl, (by rw [List.length_map, d1]; omega), fun j acc δ' => acc = ((qa.take j).map fun x => intN (colR t l x)) ∧
        δ' = [.fz (.tuple (t.map tupN)), .fz (.list (.none :: tr.map pairN)), .ol p ((leftsOf t (tr.take i)).map tupN), .fz (intN a), .fz (intN l), .no], ⟨by simp, rfl⟩, ?_, ?_, ?_⟩
      · rintro j acc δ' ⟨rfl, rfl⟩
        exact ⟨rfl, by simp; omega⟩
      · rintro F3 j d acc δ' hle3 hd3 ⟨rfl, rfl⟩
        try rw [← hle3.k]
        obtain ⟨x, hx, rfl⟩ := map_item hd3
        obtain ⟨rx, e1, e2, _⟩ := g.col (d2 x (List.mem_of_getElem? hx)) c2
        walk_at "ev"
        refine o_ixT (atI_nat (j := x) (v := tupN rx) (map_get e1)) ?_
        walk_at "ev"
        refine o_ixT (ds := rx.map intN) (atI_nat (j := l) (v := intN (colR t l x)) (map_get e2)) ?_
        refine ⟨_, rfl, _, rfl, ?_, rfl⟩
        rw [List.take_succ, hx]
        simp
      · rintro acc δ' q2 hq2' ⟨rfl, rfl⟩
        refine b_tupO ?_
        refine ⟨_, _, rfl, rfl, by rw [List.length_map, leftsOf_len, List.length_take]; omega, ?_⟩
        refine hN _ ⟨.fz (intN a), .fz (intN l), by omega, ?_⟩
        have e1 : tr.take (i + 1) = tr.take i ++ [(a, l)] := by rw [List.take_succ, hp2]; rfl
        rw [e1, leftsOf_snoc, List.map_append]
        have e2 : (leftsOf t (tr.take i)).getD a [] = qa := by rw [List.getD_eq_getElem?_getD, hq2]; rfl
        rw [e2, List.length_map, List.take_length]
        have e3 : [tupN (qa.map (colR t l))] = [PyData.tuple (qa.map fun x => intN (colR t l x))] := by
          unfold tupN
          rw [List.map_map]
          rfl
        simp only [List.map_cons, List.map_nil]
        rw [e3]
        rfl
    · rintro δ' ⟨s3, s4, hi, rfl⟩
      refine nx_seq ?_
      walk_at "ev"
      have e : tr.take (List.drop 1 (PyData.none :: tr.map pairN)).length = tr := by
        show tr.take (tr.map pairN).length = tr
        rw [List.length_map, List.take_length]
      rw [e]
      refine b_tup (.al 2 rfl) ?_
      exact ret _ _ k
abbrev s_check_products : Stmt := top 16
abbrev N_check_products : List Str := ["right", "left", "number", "row", "letter", "other", "one"]
theorem sc_check_products : FnScope N_check_products ["right", "left"] (defScope s_check_products) := ⟨rfl, rfl, rfl, by decide +kernel, rfl, by decide +kernel, by decide +kernel⟩

theorem ok_check_products {f : Addr} {fd : FuncData} (Fn : Fun K "check_products" "check_products" s_check_products f fd) (B : Bt mg) : FnOk P w K mg base CX0 1 f fd ["right", "left"] (SpF K Wprod) := by
  refine Fn.ok sc_check_products (fun vs H Q E h => ?_) (fun cdv A outer s H vs Q E hr h => ?_)
  · obtain ⟨G, ds, post, _, da, ⟨t, L, rfl, _⟩, _⟩ := h
    exact DpAll.len da
  · refine ⟨_, (pss_one (ps_for PassesOwn.never rfl (pi_enumT' K rfl B.b_enumerate (pa_cons (pv 0) pa_nil)) (pg_tup' K (n := 2) rfl (pgs_cons (pg_name (i := 2) sc_check_products.nd rfl (Or.inl rfl)) (pgs_cons (pg_name (i := 3) sc_check_products.nd rfl (Or.inl rfl)) pgs_nil))) (pss_one (ps_for PassesOwn.never rfl (pi_enumT' K rfl B.b_enumerate (pa_cons (pv 3) pa_nil)) (pg_tup' K (n := 2) rfl (pgs_cons (pg_name (i := 4) sc_check_products.nd rfl (Or.inr rfl)) (pgs_cons (pg_name (i := 5) sc_check_products.nd rfl (Or.inl rfl)) pgs_nil))) (pss_one (ps_if (pt_cmpR (op_neD' K hr.units) (pe_ix (ix_tup' K) (pv 1) (pv 5) (fun _ _ => rfl)) (pe_callTy (call_tuple_of' K) rfl B.b_tuple (by decide +kernel) (pa_cons (pe_lcv [6] (pe_lc (own := [("one", 6)]) (g := gName 6) (tt := tYes) rfl sc_check_products.nd (pi_tup' K (pe_ix (ix_tup' K) (pv 1) (pv 2) (fun _ _ => rfl))) (blkOk_by (own := [("one", 6)]) (N := N_check_products) (by kernel_rfl)) (fun _ _ _ _ _ => pg_name (i := 6) sc_check_products.nd rfl (Or.inl rfl)) (fun _ _ _ _ _ => pts_nil) (fun _ _ _ _ _ => (pe_ix (ix_tup' K) (pe_ix (ix_tup' K) (pv 0) (pv 6) (fun _ _ => rfl)) (pv 4) (fun _ _ => rfl))))) pa_nil)) (nomark _)) (pss_one ps_never) pss_nil)))))), bodyF h fun F ds post hK hio hW ret => ?_⟩
    subst hK
    obtain ⟨t, L, rfl, g, k⟩ := hW
    have g3 := g.l2
    have gpr := g.pr
    have glf := fun (k : Nat) (hk : k < t.length) => g.left hk
    generalize hls : leftsOf t (scanRows 0 t []) = ls at *
    show Rn F _ [.fz (.tuple (t.map tupN)), .fz (.tuple (ls.map tupN)), .no, .no, .no, .no, .no] _
    refine rn_for (iw_enumT ?_)
    walk_at "ev"
    refine ⟨fun i δ' => ∃ (s2 s3 s4 s5 : SD), δ' = [.fz (.tuple (t.map tupN)), .fz (.tuple (ls.map tupN)), s2, s3, s4, s5, .no], ⟨_, _, _, _, rfl⟩, ?_, ?_⟩
    · rintro F' i d δ' N hle hd ⟨s2, s3, s4, s5, rfl⟩ hN
      try rw [← hle.k]
      obtain ⟨e, he, rfl⟩ := enum_item hd
      obtain ⟨r, hr, rfl⟩ := map_item he
      obtain ⟨qi, hqi, lqi, eqi⟩ := glf i (List.getElem?_eq_some_iff.mp hr).1
      walk_at "ev"
      refine rn_for (iw_enumT ?_)
      walk_at "ev"
      refine ⟨fun j δ' => ∃ (s4 s5 : SD), δ' = [.fz (.tuple (t.map tupN)), .fz (.tuple (ls.map tupN)), .fz (intN i), .fz (tupN r), s4, s5, .no], ⟨_, _, rfl⟩, ?_, ?_⟩
      · rintro F2 l d δ' N2 hle2 hd2 ⟨s4, s5, rfl⟩ hN2
        try rw [← hle2.k]
        obtain ⟨e, he2, rfl⟩ := enum_item hd2
        obtain ⟨o, ho, rfl⟩ := map_item he2
        have hl : l < L := by
          have := (List.getElem?_eq_some_iff.mp ho).1
          rw [g.rl r (List.mem_of_getElem? hr)] at this
          exact this
        have hon : o < t.length := g.en r (List.mem_of_getElem? hr) o (List.mem_of_getElem? ho)
        obtain ⟨qo, hqo, lqo, eqo⟩ := glf o hon
        walk_at "ev"
        refine o_ixT (atI_nat (j := o) (v := tupN qo) (map_get hqo)) ?_
        walk_at "ev"
        refine ev_lc (iw_tup ?_)
        walk_at "ev"
        refine o_ixT (atI_nat (j := i) (v := tupN qi) (map_get hqi)) ?_
        refine ⟨_, rfl, rfl, (by rw [List.length_map, lqi]; omega), fun j acc δ' => acc = ((qi.take j).map fun x => intN (colR t l x)) ∧
          δ' = [.fz (.tuple (t.map tupN)), .fz (.tuple (ls.map tupN)), .fz (intN i), .fz (tupN r), .fz (intN l), .fz (intN o), .no], ⟨by simp, rfl⟩, ?_, ?_, ?_⟩
        · rintro j acc δ' ⟨rfl, rfl⟩
          exact ⟨rfl, by simp; omega⟩
        · rintro F3 j d acc δ' hle3 hd3 ⟨rfl, rfl⟩
          try rw [← hle3.k]
          obtain ⟨x, hx, rfl⟩ := map_item hd3
          obtain ⟨rx, e1, e2, _⟩ := g.col (eqi x (List.mem_of_getElem? hx)) hl
          walk_at "ev"
          refine o_ixT (atI_nat (j := x) (v := tupN rx) (map_get e1)) ?_
          walk_at "ev"
          refine o_ixT (ds := rx.map intN) (atI_nat (j := l) (v := intN (colR t l x)) (map_get e2)) ?_
          refine ⟨_, rfl, _, rfl, ?_, rfl⟩
          rw [List.take_succ, hx]
          simp
        · rintro acc δ' q2 hq2' ⟨rfl, rfl⟩
          refine b_tupO ?_
          rw [List.length_map, List.take_length]
          have e1 := gpr i l o r hr ho
          simp only [List.getD_eq_getElem?_getD, hqo, hqi, Option.getD_some] at e1
          have e3 : PyData.tuple (qi.map fun x => intN (colR t l x)) = tupN qo := by
            rw [e1]
            unfold tupN
            rw [List.map_map]
            rfl
          rw [e3]
          have l1 : (tupN qo).canLay0 = true := lay_tup fun d hd => by
            obtain ⟨x, _, rfl⟩ := List.mem_map.mp hd
            exact lay_int _
          have l2 : (tupN qo).depth ≤ 0 + 1 := dep_tup fun d hd => by
            obtain ⟨x, _, rfl⟩ := List.mem_map.mp hd
            exact dep_int _
          refine o_neD (shaped_of l1 (by omega)) (shaped_of l1 (by omega)) ?_
          rw [PySem.SeqAt.eqv_refl _ l1]
          refine ⟨_, rfl, ?_⟩
          refine (if_neg (by simp)).mpr ?_
          walk_at "ev"
          exact hN2 _ ⟨_, _, rfl⟩
      · rintro δ' ⟨s4, s5, rfl⟩
        exact hN _ ⟨_, _, _, _, rfl⟩
    · rintro δ' ⟨s2, s3, s4, s5, rfl⟩
      exact fun G H σ s => ret _ _ k .non G H σ (s.push rfl .non)
end
end My

namespace My
open PySem L2 SL Mt Mx
local macro_rules | `(tactic| walk_at "e1") => `(tactic| first
  | with_reducible refine nx_seq ?_ | with_reducible refine rn_seq ?_
  | with_reducible refine rn_set ?_ | with_reducible refine rn_ret ?_ | with_reducible refine rn_if ?_ | with_reducible refine rn_drop ?_ | with_reducible refine rn_next ?_
  | with_reducible refine ev_int ?_ | with_reducible refine ev_str ?_ | with_reducible refine ev_bl ?_ | with_reducible refine ev_non ?_
  | ((with_reducible refine' ev_fz ?vv ?_); (case vv => exact rfl))
  | ((with_reducible refine' ev_ol ?vv ?_); (case vv => exact rfl))
  | ((with_reducible refine' ev_al ?vv ?_); (case vv => exact rfl))
  | with_reducible refine ev_op ?_ | with_reducible refine ev_un ?_
  | with_reducible refine o_int ?_ | with_reducible refine o_bl ?_ | with_reducible refine u_int ?_
  | with_reducible refine o_eqI ?_ | with_reducible refine o_neI ?_ | with_reducible refine o_eqS ?_ | with_reducible refine o_neS ?_
  | with_reducible refine ev_isi ?_ | with_reducible refine ev_isi2 ?_ | with_reducible refine ev_cb ?_ | with_reducible refine a_one ?_ | with_reducible refine a_cons ?_ | with_reducible refine a_nil ?_
  | with_reducible refine b_abs ?_ | with_reducible refine b_int ?_ | with_reducible refine b_intb ?_
  | with_reducible refine b_lenL ?_ | with_reducible refine b_lenT ?_
  | with_reducible refine b_tupO ?_ | with_reducible refine b_tupL ?_ | with_reducible refine b_tupT ?_ | with_reducible refine t_yes ?_ | with_reducible refine iteT ?_ | with_reducible refine iteF ?_
  | with_reducible refine t_test ?_ | with_reducible refine t_B ?_ | with_reducible refine t_not ?_ | with_reducible refine t_and ?_ | with_reducible refine t_or ?_
  | with_reducible refine ev_lst ?_ | with_reducible refine ev_tup ?_ | with_reducible refine ev_callM ?_ | with_reducible refine ev_callF ?_ | with_reducible refine rn_setL ?_ | with_reducible refine rn_setDT ?_ | with_reducible refine rn_asg ?_ | ((with_reducible refine' ga_tup ?vv ?_); (case vv => exact rfl)) | with_reducible refine gas_nil ?_ | ((with_reducible refine' gas_name ?vv ?_); (case vv => exact rfl)) | ((with_reducible refine' rn_asgN ?vv ?_); (case vv => exact rfl))
  | with_reducible refine rn_par3 ?_ | with_reducible refine rn_par ?_ | with_reducible refine ev_tupRg ?_ | with_reducible refine ev_listRg ?_ | with_reducible refine ev_disp1T ?_ | with_reducible refine ev_dgetT ?_ | with_reducible refine ev_dnotinT ?_
  | with_reducible refine ev_append ?_ | with_reducible refine ev_extend ?_ | with_reducible refine ev_reverse ?_ | with_reducible refine ev_revL ?_
  | with_reducible refine ev_chain ?_ | with_reducible refine ev_and ?_ | with_reducible refine ev_or ?_ | with_reducible refine ev_not ?_ | with_reducible refine ev_if ?_
  | ((with_reducible refine' ev_oi ?vv ?_); (case vv => exact rfl)) | ((with_reducible refine' ev_ot ?vv ?_); (case vv => exact rfl)) | ((with_reducible refine' ev_od ?vv ?_); (case vv => exact rfl))
  | refine ⟨_, rfl, ?_⟩)
local macro_rules | `(tactic| walk_at "ev") => `(tactic| repeat (walk_at "e1"))

/-- the class Monoid -/
structure MC (K : PySem.W.Frag) (C : Addr) : Prop where
  cls : Cls K C
  n_right : NoAttr K C "right"
  n_tree : NoAttr K C "tree"
  n_lefts : NoAttr K C "lefts"
  n_memory : NoAttr K C "memory"
def rowsT (t : List (List Nat)) : PyData := .tuple (t.map tupN)
def treeD (t : List (List Nat)) : PyData := .list (.none :: (scanRows 0 t []).map pairN)
def leftD (t : List (List Nat)) : PyData := .tuple ((leftsOf t (scanRows 0 t [])).map tupN)
def wordsD (t : List (List Nat)) : PyData := .list ((Mt.wordsOf (scanRows 0 t [])).map strS)
abbrev monF (t : List (List Nat)) (q : Addr) : List (Str × SD) := [("right", .fz (rowsT t)), ("tree", .fz (treeD t)), ("lefts", .fz (leftD t)), ("memory", .al q)]
/-- a monoid, its table t, its memory kvs -/
abbrev monO (K : PySem.W.Frag) (P : Program) (w : World) (C p dx q : Addr) (t : List (List Nat)) (kvs : List (MK × PyData)) : SD := .ow (insO K p dx C (monF t q) [(q, mD K P w q kvs)])
/-! the memory -/
def wordsK : MK := .inl (.inr "words")
def endsK : MK := .inl (.inr "ends")
def pathK (i : Nat) : MK := .inr [.inr "path", .inl (i : Int)]
/-- for each element the number of its word without the first letter -/
def endsD (t : List (List Nat)) : PyData := .list ((List.range t.length).map fun k => intN (act t 0 (pathOf t k).tail))
def pathD (t : List (List Nat)) (i : Nat) : PyData := .list ((pathOf t i).map intN)
theorem lay_ends : (datK endsK).canLay0 = true := by decide +kernel
theorem lay_words : (datK wordsK).canLay0 = true := by decide +kernel
theorem lay_path (i : Nat) : (datK (pathK i)).canLay0 = true := by
  refine lay_tup fun d hd => ?_
  have hd' : d = .str "path" ∨ d = .int (i : Int) := by simpa [keyD] using hd
  rcases hd' with z | z
  · subst z; decide +kernel
  · subst z; exact lay_int _
structure MemOk (t : List (List Nat)) (kvs : List (MK × PyData)) : Prop where
  nd : (kvs.map (·.1)).Nodup
  ent : ∀ kd ∈ kvs, kd = (wordsK, wordsD t) ∨ kd = (endsK, endsD t) ∨ ∃ i, i < t.length ∧ kd = (pathK i, pathD t i)
theorem memOk_nil (t : List (List Nat)) : MemOk t [] := ⟨by simp, fun _ h => by simp at h⟩
theorem mlook_mem {kvs : List (MK × PyData)} {k : MK} {d : PyData} (h : mlook kvs k = some d) : (k, d) ∈ kvs := by
  unfold mlook at h
  obtain ⟨x, hx, e⟩ := Option.map_eq_some_iff.mp h
  have h1 := List.find?_some hx
  have h2 : x.1 = k := of_decide_eq_true h1
  have h3 := List.mem_of_find?_eq_some hx
  obtain ⟨a, b⟩ := x
  simp only at h2 e
  subst h2
  subst e
  exact h3
theorem mlook_none {kvs : List (MK × PyData)} {k : MK} (h : mlook kvs k = none) : k ∉ kvs.map (·.1) := by
  unfold mlook at h
  intro z
  obtain ⟨x, hx, e⟩ := List.mem_map.mp z
  exact List.find?_eq_none.mp (Option.map_eq_none_iff.mp h) x hx (decide_eq_true e)
theorem mlook_snoc {kvs : List (MK × PyData)} {k : MK} {d : PyData} (h : mlook kvs k = none) : mlook (kvs ++ [(k, d)]) k = some d := by
  unfold mlook at h ⊢
  rw [List.find?_append, Option.map_eq_none_iff.mp h]
  simp
theorem pathK_inj {i j : Nat} (h : pathK i = pathK j) : i = j := by
  have h1 := Sum.inr.inj h
  simp at h1
  omega
theorem MemOk.words {t : List (List Nat)} {kvs : List (MK × PyData)} {d : PyData} (m : MemOk t kvs) (h : mlook kvs wordsK = some d) : d = wordsD t := by
  rcases m.ent _ (mlook_mem h) with z | z | ⟨i, _, z⟩
  · cases z; rfl
  · have := congrArg (·.1) z
    exact absurd (Sum.inr.inj (Sum.inl.inj this)) (by decide +kernel)
  · have := congrArg (·.1) z
    simp [wordsK, pathK] at this
theorem MemOk.ends {t : List (List Nat)} {kvs : List (MK × PyData)} {d : PyData} (m : MemOk t kvs) (h : mlook kvs endsK = some d) : d = endsD t := by
  rcases m.ent _ (mlook_mem h) with z | z | ⟨i, _, z⟩
  · have := congrArg (·.1) z
    exact absurd (Sum.inr.inj (Sum.inl.inj this)) (by decide +kernel)
  · cases z; rfl
  · have := congrArg (·.1) z
    simp [endsK, pathK] at this
theorem MemOk.path {t : List (List Nat)} {kvs : List (MK × PyData)} {d : PyData} {i : Nat} (m : MemOk t kvs) (h : mlook kvs (pathK i) = some d) : d = pathD t i := by
  rcases m.ent _ (mlook_mem h) with z | z | ⟨j, _, z⟩
  · have := congrArg (·.1) z
    simp [wordsK, pathK] at this
  · have := congrArg (·.1) z
    simp [endsK, pathK] at this
  · have e1 := congrArg (·.1) z
    have e2 := congrArg (·.2) z
    simp only at e1 e2
    rw [pathK_inj e1]
    exact e2
theorem MemOk.putA {t : List (List Nat)} {kvs : List (MK × PyData)} {k : MK} {d : PyData} (m : MemOk t kvs) (h : mlook kvs k = none) (e : (k, d) = (wordsK, wordsD t) ∨ (k, d) = (endsK, endsD t) ∨ ∃ i, i < t.length ∧ (k, d) = (pathK i, pathD t i)) : MemOk t (kvs ++ [(k, d)]) := by
  refine ⟨?_, fun kd hkd => ?_⟩
  · rw [List.map_append]
    refine List.nodup_append.mpr ⟨m.nd, by simp, fun a ha b hb z => ?_⟩
    have : b = k := by simpa using hb
    subst this
    subst z
    exact mlook_none h ha
  · rcases List.mem_append.mp hkd with z | z
    · exact m.ent kd z
    · have : kd = (k, d) := by simpa using z
      subst this
      exact e
theorem MemOk.put {t : List (List Nat)} {kvs : List (MK × PyData)} {k : MK} {d : PyData} (m : MemOk t kvs) (h : mlook kvs k = none) (e : (k, d) = (wordsK, wordsD t) ∨ ∃ i, i < t.length ∧ (k, d) = (pathK i, pathD t i)) : MemOk t (kvs ++ [(k, d)]) :=
  m.putA h (e.imp id .inr)
def codeM : MK → Nat
  | .inr [.inr _, .inl i] => i.toNat + 2
  | .inl (.inr w) => if w = "words" then 0 else 1
  | _ => 0
theorem codeM_words : codeM wordsK = 0 := by decide +kernel
theorem codeM_ends : codeM endsK = 1 := by decide +kernel
theorem codeM_path (i : Nat) : codeM (pathK i) = i + 2 := rfl
theorem MemOk.len {t : List (List Nat)} {kvs : List (MK × PyData)} (m : MemOk t kvs) : kvs.length ≤ t.length + 2 := by
  have h1 : ∀ kd ∈ kvs, codeM kd.1 < t.length + 2 := fun kd hkd => by
    rcases m.ent kd hkd with z | z | ⟨i, hi, z⟩
    · subst z; show codeM wordsK < _; rw [codeM_words]; omega
    · subst z; show codeM endsK < _; rw [codeM_ends]; omega
    · subst z; show codeM (pathK i) < _; rw [codeM_path]; omega
  have h2 : (kvs.map fun kd => codeM kd.1).Nodup := by
    have nd := m.nd
    rw [List.nodup_iff_pairwise_ne, List.pairwise_map] at nd ⊢
    refine List.Pairwise.imp_of_mem ?_ nd
    intro a b ha hb hne e
    apply hne
    rcases m.ent a ha with z | z | ⟨i, hi, z⟩ <;> rcases m.ent b hb with y | y | ⟨j, hj, y⟩ <;> rw [z, y] at e ⊢ <;> simp only [codeM_words, codeM_ends, codeM_path] at e
    all_goals first | rfl | omega | skip
    have : i = j := by omega
    rw [this]
  have := nodup_below (t.length + 2) _ h2 (fun x hx => by
    obtain ⟨kd, hkd, rfl⟩ := List.mem_map.mp hx
    exact h1 kd hkd)
  simpa using this
def Winit (K : PySem.W.Frag) (P : Program) (w : World) (C : Addr) : WO := fun r0 as post => ∃ p dx t L, r0 = .ow (insO K p dx C [] []) ∧ as = [.list (t.map lstN)] ∧ Good t L ∧ ∀ q, post (.fz .none) (monO K P w C p dx q t [])
def Wwords (K : PySem.W.Frag) (P : Program) (w : World) (C : Addr) : WO := fun r0 as post => ∃ p dx q t L kvs, r0 = monO K P w C p dx q t kvs ∧ as = [] ∧ Good t L ∧ MemOk t kvs ∧ ∀ kvs', MemOk t kvs' → mlook kvs' wordsK = some (wordsD t) → (∀ k, k ≠ wordsK → mlook kvs' k = mlook kvs k) → post (.fz (wordsD t)) (monO K P w C p dx q t kvs')
section
variable {P : Program} {w : World} {K : PySem.W.Frag} {mg : Str → Option Value} {base : Heap}
abbrev s_Monoid___init__ : Stmt := inClass (top 17) 0
abbrev N_Monoid___init__ : List Str := ["self", "right", "rows", "row"]
theorem sc_Monoid___init__ : FnScope N_Monoid___init__ ["self", "right"] (defScope s_Monoid___init__) := ⟨rfl, rfl, rfl, by decide +kernel, rfl, by decide +kernel, by decide +kernel⟩

theorem ok_init {f : Addr} {fd : FuncData} {CM : Addr} (Fn : Fun K "__init__" "Monoid.__init__" s_Monoid___init__ f fd) (B : Bt mg) (M : MC K CM) (f_check_form : Cal P w K mg base 2 "check_form" (SpF K Wform)) (f_check_order : Cal P w K mg base 1 "check_order" (SpF K Worder))
    (f_tree_of : Cal P w K mg base 1 "tree_of" (SpF K Wtree)) (f_left_of : Cal P w K mg base 1 "left_of" (SpF K Wleft)) (f_check_products : Cal P w K mg base 1 "check_products" (SpF K Wprod)) :
    FnOk P w K mg base CX0 3 f fd ["self", "right"] (SpO K (Winit K P w CM)) := by
  refine Fn.ok sc_Monoid___init__ (fun vs H Q E h => ?_) (fun cdv A outer s H vs Q E hr h => ?_)
  · obtain ⟨G, v0, ws, r0, as, post, rfl, _, _, _, _, da, ⟨p, dx, t, L, _, rfl, _⟩, _⟩ := h
    have := DpAll.len da
    simpa using this
  · refine ⟨_, (pss_cons (ps_expr (pe_c f_check_form hr (by decide) rfl (pa_cons (pv 1) pa_nil)))
 (pss_cons (ps_set (i := 2) sc_Monoid___init__.nd rfl (Or.inl rfl) (pe_callTy (call_tuple_of' K) rfl B.b_tuple (by decide +kernel) (pa_cons (pe_lcv [3] (pe_lc (own := [("row", 3)]) (g := gName 3) (tt := tYes) rfl sc_Monoid___init__.nd (pi_list' K (pv 1)) (blkOk_by (own := [("row", 3)]) (N := N_Monoid___init__) (by kernel_rfl)) (fun _ _ _ _ _ => pg_name (i := 3) sc_Monoid___init__.nd rfl (Or.inl rfl)) (fun _ _ _ _ _ => pts_nil) (fun _ _ _ _ _ => (pe_callTy (call_tuple_of' K) rfl B.b_tuple (by decide +kernel) (pa_cons (pv 3) pa_nil))))) pa_nil)))
 (pss_cons (ps_expr (pe_c f_check_order hr (by decide) rfl (pa_cons (pv 2) pa_nil)))
 (pss_cons (ps_fld' K (pv 0) (pv 2))
 (pss_cons (ps_fld' K (pv 0) (pe_c f_tree_of hr (by decide) rfl (pa_cons (pv 2) pa_nil)))
 (pss_cons (ps_fld' K (pv 0) (pe_c f_left_of hr (by decide) rfl (pa_cons (pv 2) (pa_cons (pe_fld' K (pv 0) rfl) pa_nil))))
 (pss_cons (ps_expr (pe_c f_check_products hr (by decide) rfl (pa_cons (pv 2) (pa_cons (pe_fld' K (pv 0) rfl) pa_nil))))
 (pss_one (ps_fld' K (pv 0) (pe_dnewM P w)))))))))), bodyO h fun F r0 as post hK hio hW ret => ?_⟩
    subst hK
    obtain ⟨p, dx, t, L, rfl, rfl, g, k⟩ := hW
    have g2 := g.n2
    show Rn F _ [.ow (insO F.K p dx CM [] []), .fz (.list (t.map lstN)), .no, .no] _
    walk_at "ev"
    refine ⟨[_], rfl, t, L, rfl, g, fun _ => ?_⟩
    walk_at "ev"
    refine ev_lc (iw_list ?_)
    walk_at "ev"
    refine ⟨rfl, (by rw [List.length_map]; omega), fun j acc δ' => acc = (t.take j).map tupN ∧ δ' = [.ow (insO F.K p dx CM [] []), .fz (.list (t.map lstN)), .no, .no], ⟨rfl, by simp⟩, ?_, ?_, ?_⟩
    · rintro j acc δ' ⟨rfl, rfl⟩
      exact ⟨rfl, by simp; omega⟩
    · rintro F3 j d acc δ' hle3 hd3 ⟨rfl, rfl⟩
      try rw [← hle3.k]
      obtain ⟨r, hr, rfl⟩ := map_item hd3
      walk_at "ev"
      refine b_tupL (ds := r.map intN) ?_
      refine ⟨_, rfl, _, rfl, ?_, rfl⟩
      rw [List.take_succ, hr]
      simp [tupN]
    · rintro acc δ' q1 hq1 ⟨rfl, rfl⟩
      rw [List.length_map, List.take_length]
      walk_at "ev"
      refine ⟨[_], rfl, t, rfl, g.ord, fun _ => ?_⟩
      walk_at "ev"
      refine rn_fldZ ?_
      walk_at "ev"
      refine ⟨p, dx, CM, _, _, 0, rfl, rfl, M.cls, M.n_right, by decide, ?_⟩
      walk_at "ev"
      refine rn_fldZ (SL.E.freeze ?_)
      walk_at "ev"
      refine ⟨[_], rfl, t, L, rfl, g, fun p2 hp2 => ⟨p2, _, hp2 p2 (by simp [SD.fp]), rfl, ?_⟩⟩
      walk_at "ev"
      refine ⟨p, dx, CM, _, _, 0, rfl, rfl, M.cls, M.n_tree, (show (1 : Nat) < 1000 by decide), ?_⟩
      walk_at "ev"
      refine rn_fldZ ?_
      walk_at "ev"
      refine ev_fldZ ?_
      walk_at "ev"
      refine ⟨p, dx, CM, _, _, 0, treeD t, rfl, rfl, M.cls, M.n_tree, rfl, ?_⟩
      refine ⟨[_, _], rfl, t, L, rfl, g, fun _ => ?_⟩
      walk_at "ev"
      refine ⟨p, dx, CM, _, _, 0, rfl, rfl, M.cls, M.n_lefts, (show (2 : Nat) < 1000 by decide), ?_⟩
      walk_at "ev"
      refine ev_fldZ ?_
      walk_at "ev"
      refine ⟨p, dx, CM, _, _, 0, leftD t, rfl, rfl, M.cls, M.n_lefts, rfl, ?_⟩
      refine ⟨[_, _], rfl, t, L, rfl, g, fun _ => ?_⟩
      walk_at "ev"
      refine rn_fldM (kvs0 := []) (ev_dnewM fun q hq => ⟨q, [], rfl, ?_⟩)
      walk_at "ev"
      refine ⟨p, dx, CM, _, _, 0, rfl, rfl, M.cls, M.n_memory, (show (3 : Nat) < 1000 by decide), ?_⟩
      exact fun G H σ s => ret _ _ _ p rfl pins_ins pins_ins (k q) (fun a ha => by
        have ha' : a ∈ [p, dx] := ha
        show a ∈ [p, dx, q]
        simp only [List.mem_cons, List.mem_nil_iff, or_false] at ha' ⊢
        rcases ha' with z | z
        · exact .inl z
        · exact .inr (.inl z)) .non G H σ (s.push rfl .non)
abbrev s_Monoid_all_words : Stmt := inClass (top 17) 4
abbrev N_Monoid_all_words : List Str := ["self", "found", "ahead", "letter"]
theorem sc_Monoid_all_words : FnScope N_Monoid_all_words ["self"] (defScope s_Monoid_all_words) := ⟨rfl, rfl, rfl, by decide +kernel, rfl, by decide +kernel, by decide +kernel⟩

theorem ok_words {f : Addr} {fd : FuncData} {CM : Addr} (Fn : Fun K "all_words" "Monoid.all_words" s_Monoid_all_words f fd) (B : Bt mg) (C : Ct mg) (M : MC K CM) :
    FnOk P w K mg base CX0 1 f fd ["self"] (SpO K (Wwords K P w CM)) := by
  refine Fn.ok sc_Monoid_all_words (fun vs H Q E h => ?_) (fun cdv A outer s H vs Q E hr h => ?_)
  · obtain ⟨G, v0, ws, r0, as, post, rfl, _, _, _, _, da, ⟨p, dx, q, t, L, kvs, _, rfl, _⟩, _⟩ := h
    have := DpAll.len da
    simpa using this
  · refine ⟨_, (pss_cons (ps_if (pt_cmp (pc_dnotinM P w hr.u3 pe_str (pe_fld' K (pv 0) rfl))) (pss_cons (ps_set (i := 1) sc_Monoid_all_words.nd rfl (Or.inl rfl) (pe_lst (pa_cons pe_str pa_nil)))
 (pss_cons (ps_for PassesOwn.never rfl (pi_list' K (pe_slice (sl_list' K) (pe_fld' K (pv 0) rfl) (po_some pe_int) po_none)) (pg_tup' K (n := 2) rfl (pgs_cons (pg_name (i := 2) sc_Monoid_all_words.nd rfl (Or.inl rfl)) (pgs_cons (pg_name (i := 3) sc_Monoid_all_words.nd rfl (Or.inl rfl)) pgs_nil))) (pss_one (ps_expr (pe_bm' K PySem.F.plainAttrs_list PySem.F.slot_list_append PySem.F.type_list_append mt_append (pv 1) (pa_cons (pe_op op_add_str (pe_ix (ix_list' K) (pv 1) (pv 2) (fun _ _ => rfl)) (pe_ix ix_str (pe_gc rfl C.g_LETTERS) (pv 3) (fun _ _ => rfl))) pa_nil)))))
 (pss_one (ps_asg (pv 1) (pg_sub (pe_fld' K (pv 0) rfl) pe_str (set_mixR P w hr.u3)))))) pss_nil)
 (pss_one (ps_ret (pe_dgetM P w hr.u3 (pe_fld' K (pv 0) rfl) pe_str (fun _ _ => rfl))))), bodyO h fun F r0 as post hK hio hW ret => ?_⟩
    subst hK
    obtain ⟨p, dx, q, t, L, kvs, rfl, rfl, g, hm, k⟩ := hW
    have g2 := g.n2
    have gl := g.len
    have g3 := g.l2
    have g1 := g.n1
    show Rn F _ [monO F.K P w CM p dx q t kvs, .no, .no, .no] _
    have back : ∀ kvs' s1 s2 s3, MemOk t kvs' → mlook kvs' wordsK = some (wordsD t) → (∀ k, k ≠ wordsK → mlook kvs' k = mlook kvs k) → Nx F (Ends.nx (Ends.mk ((tRet (tDGetM P w (tFld F.K (tVar 0) "memory") (tC (.str "words")))) { nx := fun _ H' => Q .non H', rt := Q }) Q (fun _ _ => False) (fun _ _ => False))) [monO F.K P w CM p dx q t kvs', s1, s2, s3] := by
      intro kvs' s1 s2 s3 m1 m2 m3
      refine nx_seq (D := { nx := fun _ H' => Q .non H', rt := Q }) ?_
      refine rn_ret (ev_dgetM ?_)
      refine ev_fldA ?_
      walk_at "ev"
      refine ⟨p, dx, CM, _, _, 0, q, rfl, rfl, M.cls, M.n_memory, rfl, ?_⟩
      walk_at "ev"
      refine ⟨wordsK, kvs', wordsD t, rfl, lay_words, .ins 0 rfl (by simp), m2, ?_⟩
      exact ret _ _ _ p rfl pins_ins pins_ins (k kvs' m1 m2 m3) (fun a ha => ha)
    refine rn_seq (rn_if (t_B (ev_dnotinM ?_)))
    walk_at "ev"
    refine ⟨wordsK, rfl, lay_words, ?_⟩
    refine ev_fldA ?_
    walk_at "ev"
    refine ⟨p, dx, CM, _, _, 0, q, rfl, rfl, M.cls, M.n_memory, rfl, ?_⟩
    refine ⟨q, kvs, rfl, .ins 0 rfl (by simp), _, rfl, ?_⟩
    cases hmw : mlook kvs wordsK with
    | none =>
      refine (if_pos (by simp)).mpr ?_
      walk_at "ev"
      refine ⟨[_], rfl, (by show 1 ≤ sizeLine; decide), fun p1 q1 => ?_⟩
      walk_at "ev"
      have htree := fun (k a l : Nat) => g.tree (k := k) (a := a) (l := l)
      have ewd : wordsD t = .list ((Mt.wordsOf (scanRows 0 t [])).map strS) := rfl
      have etd : treeD t = .list (.none :: (scanRows 0 t []).map pairN) := rfl
      generalize scanRows 0 t [] = tr at *
      refine rn_for (iw_listO (ev_from (i := 1) (ev_fldZ ?_)))
      walk_at "ev"
      refine ⟨p, dx, CM, _, _, 0, treeD t, rfl, rfl, M.cls, M.n_tree, rfl, ?_⟩
      rw [etd]
      refine ⟨_, .fz, fun q2 hq2 => ⟨q2, _, hq2, rfl, fun i δ' => ∃ (s3 s4 : SD), i ≤ tr.length ∧ δ' = [monO F.K P w CM p dx q t kvs, .ol p1 ((Mt.wordsOf (tr.take i)).map strS), s3, s4], ⟨.no, .no, Nat.zero_le _, ?_⟩, ?_, ?_⟩⟩
      · rw [List.take_zero]
        rfl
      · rintro F' i d δ' N hle hd ⟨s3, s4, hi, rfl⟩ hN
        try rw [← hle.k]
        obtain ⟨⟨a, l⟩, hp2, rfl⟩ := map_item (l := tr) (f := pairN) hd
        have hlt : i < tr.length := (List.getElem?_eq_some_iff.mp hp2).1
        obtain ⟨c1, c2, c3⟩ := htree i a l hp2
        have hla : a < (Mt.wordsOf (tr.take i)).length := by rw [wordsOf_len, List.length_take]; omega
        have hwa : (Mt.wordsOf (tr.take i))[a]? = some (Mt.wordsOf (tr.take i))[a] := List.getElem?_eq_getElem hla
        have hsh := wordsOf_short (tr.take i) _ (List.getElem_mem hla)
        have htk : (tr.take i).length = i := by rw [List.length_take]; omega
        generalize (Mt.wordsOf (tr.take i))[a] = wa at hwa hsh
        unfold pairN
        walk_at "ev"
        refine ⟨p1, 1, _, rfl, rfl, ?_⟩
        walk_at "ev"
        refine o_ix (.al 1 rfl) (atI_nat (j := a) (v := strS wa) (map_get hwa)) ?_
        walk_at "ev"
        have hl6 : l < 6 := by omega
        refine o_ixS (c := 97 + l) (by decide) (atI_nat (j := l) ?_) ?_
        · have h2 : l = 0 ∨ l = 1 ∨ l = 2 ∨ l = 3 ∨ l = 4 ∨ l = 5 := by omega
          rcases h2 with z | z | z | z | z | z <;> subst z <;> rfl
        refine o_addS (Nat.le_trans (show wa.length + (letS l).length ≤ 5000 by show wa.length + 1 ≤ 5000; omega) (by decide)) ?_
        refine ⟨_, _, rfl, rfl, by rw [List.length_map, wordsOf_len]; omega, ?_⟩
        refine hN _ ⟨.fz (intN a), .fz (intN l), by omega, ?_⟩
        have e1 : tr.take (i + 1) = tr.take i ++ [(a, l)] := by rw [List.take_succ, hp2]; rfl
        rw [e1, wordsOf_snoc, List.map_append]
        have e2 : (Mt.wordsOf (tr.take i)).getD a ⟨#[]⟩ = wa := by rw [List.getD_eq_getElem?_getD, hwa]; rfl
        rw [e2]
        try rw [hle.k]
        rfl
      · rintro δ' ⟨s3, s4, hi, rfl⟩
        refine nx_seq ?_
        have e : tr.take (List.drop 1 (PyData.none :: tr.map pairN)).length = tr := by
          show tr.take (tr.map pairN).length = tr
          rw [List.length_map, List.take_length]
        rw [e]
        refine Rn.freezeS (i := 1) rfl q1 ?_
        refine rn_setMI ?_
        walk_at "ev"
        refine ev_fldA ?_
        walk_at "ev"
        refine ⟨p, dx, CM, _, _, 0, q, rfl, rfl, M.cls, M.n_memory, rfl, ?_⟩
        walk_at "ev"
        have hlm := hm.len
        refine ⟨wordsK, 0, p, dx, CM, _, kvs, rfl, lay_words, rfl, hmw, by omega, ?_⟩
        rw [← ewd]
        refine back _ _ _ _ (hm.put hmw (.inl rfl)) (mlook_snoc hmw) fun k hk => ?_
        unfold mlook
        rw [List.find?_append]
        cases hf : kvs.find? (fun x => decide (x.1 = k)) with
        | some x => rfl
        | none =>
          have : ¬ wordsK = k := fun z => hk z.symm
          simp [this]
    | some d =>
      have hd := hm.words hmw
      subst hd
      refine (if_neg (by simp)).mpr ?_
      refine rn_next ?_
      exact back kvs _ _ _ hm hmw (fun _ _ => rfl)
end
end My

/-! rules of a monoid: least words with a letter more, of which all else is least. -/
namespace Mt
open PySem
/-- p is the least word of its product -/
def isW (t : List (List Nat)) (p : List Nat) : Prop := pathOf t (act t 0 p) = p
instance (t : List (List Nat)) (p : List Nat) : Decidable (isW t p) := inferInstanceAs (Decidable (_ = _))
def leastB (t : List (List Nat)) (n l : Nat) : Bool := decide (pathOf t (colR t l n) = pathOf t n ++ [l])
def endN (t : List (List Nat)) (n : Nat) : Nat := act t 0 (pathOf t n).tail
def ruleB (t : List (List Nat)) (n l : Nat) : Bool := !leastB t n l && (decide (n = 0) || leastB t (endN t n) l)
def ruleRow (t : List (List Nat)) (n k : Nat) : List (Nat × Nat) := ((List.range k).filter (ruleB t n)).map fun l => (n, l)
def rulesN (t : List (List Nat)) (L k : Nat) : List (Nat × Nat) := (List.range k).flatMap fun n => ruleRow t n L
theorem ruleRow_snoc (t : List (List Nat)) (n k : Nat) : ruleRow t n (k + 1) = ruleRow t n k ++ (if ruleB t n k then [(n, k)] else []) := by
  unfold ruleRow
  rw [List.range_succ, List.filter_append, List.map_append]
  congr 1
  cases h : ruleB t n k <;> simp [h]
theorem rulesN_snoc (t : List (List Nat)) (L k : Nat) : rulesN t L (k + 1) = rulesN t L k ++ ruleRow t k L := by
  unfold rulesN
  rw [List.range_succ, List.flatMap_append]
  simp
theorem ruleRow_len (t : List (List Nat)) (n k : Nat) : (ruleRow t n k).length ≤ k := by
  unfold ruleRow
  rw [List.length_map]
  exact Nat.le_trans (List.length_filter_le _ _) (by simp)
theorem rulesN_len (t : List (List Nat)) (L : Nat) : ∀ k, (rulesN t L k).length ≤ k * L
  | 0 => by simp [rulesN]
  | k + 1 => by
    rw [rulesN_snoc, List.length_append, Nat.succ_mul]
    exact Nat.add_le_add (rulesN_len t L k) (ruleRow_len t k L)
theorem mem_rulesN {t : List (List Nat)} {L k n l : Nat} : (n, l) ∈ rulesN t L k ↔ n < k ∧ l < L ∧ ruleB t n l = true := by
  unfold rulesN ruleRow
  simp only [List.mem_flatMap, List.mem_range, List.mem_map, List.mem_filter]
  constructor
  · rintro ⟨n', h1, l', ⟨h2, h3⟩, e⟩
    cases e
    exact ⟨h1, h2, h3⟩
  · rintro ⟨h1, h2, h3⟩
    exact ⟨n, h1, l, ⟨h2, h3⟩, rfl⟩
def allW (L : Nat) : Nat → List (List Nat)
  | 0 => [[]]
  | k + 1 => (allW L k).flatMap fun p => (List.range L).map fun l => p ++ [l]
theorem mem_allW {L : Nat} : ∀ {k : Nat} {p : List Nat}, p ∈ allW L k ↔ p.length = k ∧ ∀ l ∈ p, l < L
  | 0, p => by
    simp only [allW, List.mem_singleton]
    constructor
    · rintro rfl
      exact ⟨rfl, by simp⟩
    · rintro ⟨h, _⟩
      exact List.length_eq_zero_iff.mp h
  | k + 1, p => by
    simp only [allW, List.mem_flatMap, List.mem_map, List.mem_range]
    constructor
    · rintro ⟨q, hq, l, hl, rfl⟩
      obtain ⟨h1, h2⟩ := mem_allW.mp hq
      refine ⟨by simp [h1], fun m hm => ?_⟩
      rcases List.mem_append.mp hm with z | z
      · exact h2 m z
      · have : m = l := by simpa using z
        omega
    · rintro ⟨h1, h2⟩
      rcases List.eq_nil_or_concat p with e | ⟨q, l, e⟩
      · subst e; simp at h1
      · rw [List.concat_eq_append] at e
        subst e
        exact ⟨q, mem_allW.mpr ⟨by simpa using h1, fun m hm => h2 m (List.mem_append_left _ hm)⟩, l, h2 l (by simp), rfl⟩
theorem lexlt_of_slt {p q : List Nat} (h : slt p q) (e : p.length = q.length) : lexlt p q := by
  rcases h with z | z
  · omega
  · exact z.2
theorem allW_pair (L : Nat) : ∀ k, (allW L k).Pairwise slt
  | 0 => by simp [allW]
  | k + 1 => by
    simp only [allW]
    refine List.pairwise_flatMap.mpr ⟨fun p hp => ?_, (allW_pair L k).imp fun {p q} h x hx y hy => ?_⟩
    · exact List.pairwise_map.mpr (List.pairwise_lt_range.imp fun {a b} h => slt_last p h)
    · obtain ⟨a, _, rfl⟩ := List.mem_map.mp hx
      obtain ⟨b, _, rfl⟩ := List.mem_map.mp hy
      exact slt_snoc h a b
theorem allW_len (L : Nat) : ∀ k, (allW L k).length = L ^ k
  | 0 => rfl
  | k + 1 => by
    simp only [allW]
    rw [List.length_flatMap]
    have : (List.map (fun a => (List.map (fun l => a ++ [l]) (List.range L)).length) (allW L k)) = List.replicate (allW L k).length L := by
      apply List.ext_getElem <;> simp
    rw [this, List.sum_replicate_nat, allW_len L k, Nat.pow_succ]
def badB (t : List (List Nat)) (p : List Nat) : Bool := !decide (isW t p) && (decide (isW t p.dropLast) && decide (isW t p.tail))
def byP (t : List (List Nat)) (L most : Nat) : List (List Nat) := (List.range most).flatMap fun k => (allW L (k + 1)).filter (badB t)
theorem byP_snoc (t : List (List Nat)) (L k : Nat) : byP t L (k + 1) = byP t L k ++ (allW L (k + 1)).filter (badB t) := by
  unfold byP
  rw [List.range_succ, List.flatMap_append]
  simp
def ruleP (t : List (List Nat)) (L : Nat) : List (List Nat) := (rulesN t L t.length).map fun x => pathOf t x.1 ++ [x.2]
theorem eq_of_slt {a b : List (List Nat)} (ha : a.Pairwise slt) (hb : b.Pairwise slt) (h : ∀ p, p ∈ a ↔ p ∈ b) : a = b := by
  have na : a.Nodup := ha.imp fun {x y} z e => by subst e; exact slt_irrefl _ z
  have nb : b.Nodup := hb.imp fun {x y} z e => by subst e; exact slt_irrefl _ z
  have pm : a.Perm b := (List.perm_ext_iff_of_nodup na nb).mpr h
  exact List.Perm.eq_of_pairwise (le := slt) (fun x y _ _ h1 h2 => (slt_irrefl _ (slt_trans h1 h2)).elim) ha hb pm
theorem byP_pair (t : List (List Nat)) (L most : Nat) : (byP t L most).Pairwise slt := by
  unfold byP
  refine List.pairwise_flatMap.mpr ⟨fun k _ => (allW_pair L (k + 1)).sublist List.filter_sublist, List.pairwise_lt_range.imp fun {a b} h x hx y hy => ?_⟩
  have h1 := (mem_allW.mp (List.mem_filter.mp hx).1).1
  have h2 := (mem_allW.mp (List.mem_filter.mp hy).1).1
  exact .inl (by omega)
section
variable {t : List (List Nat)} {L : Nat}
theorem isW_nil (g : Good t L) : isW t [] := g.path0
theorem isW_path (g : Good t L) {k : Nat} (hk : k < t.length) : isW t (pathOf t k) := by
  unfold isW
  rw [(g.path hk).1]
theorem leastB_isW (g : Good t L) {n l : Nat} (hn : n < t.length) : leastB t n l = decide (isW t (pathOf t n ++ [l])) := by
  have : isW t (pathOf t n ++ [l]) ↔ pathOf t (colR t l n) = pathOf t n ++ [l] := by
    unfold isW
    rw [act_snoc, (g.path hn).1]
  exact decide_eq_decide.mpr this.symm
theorem act0_lt (g : Good t L) {p : List Nat} (hp : ∀ l ∈ p, l < L) : act t 0 p < t.length := g.act_lt p 0 (by have := g.n1; omega) hp
theorem isW_dropLast (g : Good t L) {p : List Nat} (hp : ∀ l ∈ p, l < L) (h : isW t p) : isW t p.dropLast := by
  by_cases e : p = []
  · subst e; exact h
  · have hk := act0_lt g hp
    have h0 : act t 0 p ≠ 0 := fun z => e (by
      have z2 : isW t p := h
      unfold isW at z2
      rw [z, g.path0] at z2
      exact z2.symm)
    obtain ⟨a, l, _, h2, _, h3, _⟩ := g.ahead hk h0
    have h' : pathOf t (act t 0 p) = p := h
    rw [h'] at h3
    rw [h3, List.dropLast_concat]
    exact isW_path g (by omega)
theorem isW_tail (g : Good t L) {p : List Nat} (hp : ∀ l ∈ p, l < L) (h : isW t p) : isW t p.tail := by
  cases p with
  | nil => exact h
  | cons l q => exact (g.suffix (act0_lt g hp) h).1
theorem isW_pre (g : Good t L) : ∀ (N : Nat) (q r : List Nat), r.length = N → (∀ l ∈ q ++ r, l < L) → isW t (q ++ r) → isW t q := by
  intro N
  induction N with
  | zero =>
    intro q r h _ hw
    have : r = [] := List.length_eq_zero_iff.mp h
    subst this
    simpa using hw
  | succ N ih =>
    intro q r h hl hw
    rcases List.eq_nil_or_concat r with e | ⟨s, l, e⟩
    · subst e; simp at h
    · rw [List.concat_eq_append] at e
      subst e
      have := isW_dropLast g hl hw
      rw [← List.append_assoc, List.dropLast_concat] at this
      exact ih q s (by simpa using h) (fun m hm => hl m (by rw [← List.append_assoc]; exact List.mem_append_left _ hm)) this
theorem isW_suf (g : Good t L) : ∀ (q r : List Nat), (∀ l ∈ q ++ r, l < L) → isW t (q ++ r) → isW t r
  | [], r, _, h => h
  | a :: q, r, hl, h => isW_suf g q r (fun m hm => hl m (List.mem_cons_of_mem _ hm)) (isW_tail g hl h)
theorem isW_take (g : Good t L) {p : List Nat} (hp : ∀ l ∈ p, l < L) (h : isW t p) (i : Nat) : isW t (p.take i) :=
  isW_pre g _ (p.take i) (p.drop i) rfl (by rw [List.take_append_drop]; exact hp) (by rw [List.take_append_drop]; exact h)
theorem isW_drop (g : Good t L) {p : List Nat} (hp : ∀ l ∈ p, l < L) (h : isW t p) (i : Nat) : isW t (p.drop i) :=
  isW_suf g (p.take i) (p.drop i) (by rw [List.take_append_drop]; exact hp) (by rw [List.take_append_drop]; exact h)
/-- all shorter parts of a word are least words just if those without the last and without the first letter are -/
theorem parts_iff (g : Good t L) {p : List Nat} (hp : ∀ l ∈ p, l < L) (h0 : p ≠ []) : (isW t p.dropLast ∧ isW t p.tail) ↔ ∀ b e, b < p.length → b ≤ e → e ≤ p.length → e - b < p.length → isW t ((p.drop b).take (e - b)) := by
  have hl : 0 < p.length := List.length_pos_iff.mpr h0
  constructor
  · rintro ⟨h1, h2⟩ b e hb hbe he hs
    by_cases z : b = 0
    · subst z
      rw [List.drop_zero, Nat.sub_zero]
      have : p.take e = p.dropLast.take e := by
        rw [List.dropLast_eq_take, List.take_take, Nat.min_eq_left (by omega)]
      rw [this]
      exact isW_take g (fun l hl => hp l ((List.dropLast_sublist p).mem hl)) h1 e
    · have : p.drop b = p.tail.drop (b - 1) := by
        rw [← List.drop_one, List.drop_drop]
        congr 1
        omega
      rw [this]
      have hp' : ∀ l ∈ p.tail, l < L := fun l hl => hp l (List.mem_of_mem_tail hl)
      exact isW_take g (fun l hl => hp' l (List.mem_of_mem_drop hl)) (isW_drop g hp' h2 _) _
  · intro h
    refine ⟨?_, ?_⟩
    · have := h 0 (p.length - 1) hl (by omega) (by omega) (by omega)
      rwa [List.drop_zero, Nat.sub_zero, ← List.dropLast_eq_take] at this
    · by_cases z : p.length = 1
      · have : p.tail = [] := by
          apply List.length_eq_zero_iff.mp
          rw [List.length_tail]
          omega
        rw [this]
        exact isW_nil g
      · have := h 1 p.length (by omega) (by omega) (Nat.le_refl _) (by omega)
        rwa [List.take_of_length_le (by rw [List.length_drop]; exact Nat.le_refl _), List.drop_one] at this
theorem path_ne (g : Good t L) {n : Nat} (hn : n < t.length) (h0 : n ≠ 0) : pathOf t n ≠ [] := fun z => h0 (by
  have := (g.path hn).1
  rw [z] at this
  exact this.symm)
theorem ruleB_bad (g : Good t L) {n l : Nat} (hn : n < t.length) : ruleB t n l = badB t (pathOf t n ++ [l]) := by
  unfold ruleB badB
  rw [leastB_isW g hn, List.dropLast_concat, decide_eq_true (isW_path g hn), Bool.true_and]
  congr 1
  by_cases h0 : n = 0
  · subst h0
    rw [g.path0]
    have : isW t ([] ++ [l] : List Nat).tail := isW_nil g
    rw [decide_eq_true this]
    rfl
  · have hne := path_ne g hn h0
    have e1 : (pathOf t n ++ [l]).tail = (pathOf t n).tail ++ [l] := by
      cases h : pathOf t n with
      | nil => exact absurd h hne
      | cons a q => rfl
    have hpt : ∀ m ∈ (pathOf t n).tail, m < L := fun m hm => (g.path hn).2 m (List.mem_of_mem_tail hm)
    have e2 : pathOf t (endN t n) = (pathOf t n).tail := isW_tail g (g.path hn).2 (isW_path g hn)
    rw [e1, decide_eq_false h0, Bool.false_or, leastB_isW g (show endN t n < t.length from act0_lt g hpt), e2]
theorem mem_ruleP (g : Good t L) {p : List Nat} : p ∈ ruleP t L ↔ (∀ l ∈ p, l < L) ∧ badB t p = true := by
  unfold ruleP
  rw [List.mem_map]
  constructor
  · rintro ⟨⟨n, l⟩, h, rfl⟩
    obtain ⟨h1, h2, h3⟩ := mem_rulesN.mp h
    refine ⟨fun m hm => ?_, by rw [← ruleB_bad g h1]; exact h3⟩
    rcases List.mem_append.mp hm with z | z
    · exact (g.path h1).2 m z
    · have : m = l := by simpa using z
      omega
  · rintro ⟨h1, h2⟩
    rcases List.eq_nil_or_concat p with e | ⟨q, l, e⟩
    · subst e
      have : isW t [] := isW_nil g
      simp [badB, this] at h2
    · rw [List.concat_eq_append] at e
      subst e
      have hq : ∀ m ∈ q, m < L := fun m hm => h1 m (List.mem_append_left _ hm)
      have hw : isW t q := by
        have h2' := h2
        unfold badB at h2'
        rw [List.dropLast_concat, Bool.and_eq_true, Bool.and_eq_true] at h2'
        exact of_decide_eq_true h2'.2.1
      have hlt := act0_lt g hq
      have hw' : pathOf t (act t 0 q) = q := hw
      refine ⟨(act t 0 q, l), mem_rulesN.mpr ⟨hlt, h1 l (by simp), ?_⟩, ?_⟩
      · rw [ruleB_bad g hlt, hw']
        exact h2
      · show pathOf t (act t 0 q) ++ [l] = q ++ [l]
        rw [hw']
theorem rulesN_pair (g : Good t L) : (rulesN t L t.length).Pairwise fun a b => slt (pathOf t a.1 ++ [a.2]) (pathOf t b.1 ++ [b.2]) := by
  unfold rulesN
  refine List.pairwise_flatMap.mpr ⟨fun n _ => ?_, List.pairwise_lt_range.imp_of_mem fun {a b} ha hb h x hx y hy => ?_⟩
  · unfold ruleRow
    exact List.pairwise_map.mpr ((List.pairwise_lt_range.sublist List.filter_sublist).imp fun {a b} h => slt_last _ h)
  · unfold ruleRow at hx hy
    obtain ⟨l, _, rfl⟩ := List.mem_map.mp hx
    obtain ⟨m, _, rfl⟩ := List.mem_map.mp hy
    exact slt_snoc (g.mono b (List.mem_range.mp hb) a h) l m
theorem ruleP_pair (g : Good t L) : (ruleP t L).Pairwise slt := List.pairwise_map.mpr (rulesN_pair g)
/-- the rules with short left sides are what going through all words finds -/
theorem rules_by (g : Good t L) (most : Nat) : (ruleP t L).filter (fun p => decide (p.length ≤ most)) = byP t L most := by
  refine eq_of_slt ((ruleP_pair g).sublist List.filter_sublist) (byP_pair t L most) fun p => ?_
  rw [List.mem_filter, mem_ruleP g, decide_eq_true_eq]
  unfold byP
  simp only [List.mem_flatMap, List.mem_range, List.mem_filter]
  constructor
  · rintro ⟨⟨h1, h2⟩, h3⟩
    have h0 : p ≠ [] := fun z => by
      subst z
      have : isW t [] := isW_nil g
      simp [badB, this] at h2
    have := List.length_pos_iff.mpr h0
    exact ⟨p.length - 1, by omega, mem_allW.mpr ⟨by omega, h1⟩, h2⟩
  · rintro ⟨k, hk, h1, h2⟩
    obtain ⟨h3, h4⟩ := mem_allW.mp h1
    exact ⟨⟨h4, h2⟩, by omega⟩
theorem endN_lt (g : Good t L) {n : Nat} (hn : n < t.length) : endN t n < t.length := act0_lt g fun m hm => (g.path hn).2 m (List.mem_of_mem_tail hm)
theorem endN_zero (g : Good t L) : endN t 0 = 0 := by
  unfold endN
  rw [g.path0]
  rfl
theorem endN_step (g : Good t L) {k a l : Nat} (h : (scanRows 0 t [])[k]? = some (a, l)) : endN t (k + 1) = if a = 0 then 0 else colR t l (endN t a) := by
  unfold endN
  rw [g.step h]
  have ha := (g.tree h).2.2
  by_cases h0 : a = 0
  · rw [if_pos h0, h0, g.path0]
    rfl
  · rw [if_neg h0]
    have hne := path_ne g ha h0
    have e1 : (pathOf t a ++ [l]).tail = (pathOf t a).tail ++ [l] := by
      cases h : pathOf t a with
      | nil => exact absurd h hne
      | cons b q => rfl
    rw [e1, act_snoc]
/-- where the tree tells least words -/
theorem tree_leastB (g : Good t L) {n l k : Nat} (hn : n < t.length) (hl : l < L) (hk : colR t l n = k + 1) : ∃ a m, (scanRows 0 t [])[k]? = some (a, m) ∧ leastB t n l = decide ((a, m) = (n, l)) := by
  have hlt : k + 1 < t.length := by
    rw [← hk]
    exact (g.col hn hl).choose_spec.2.2
  obtain ⟨a, m, h1, h2, _, h3, _⟩ := g.ahead hlt (by omega)
  refine ⟨a, m, h1, ?_⟩
  unfold leastB
  rw [hk, h3]
  refine decide_eq_decide.mpr ⟨fun e => ?_, fun e => by cases e; rfl⟩
  obtain ⟨e1, e2⟩ := List.append_inj' e rfl
  have := g.path_inj (by omega) hn e1
  have e3 : m = l := by simpa using e2
  rw [this, e3]
theorem leastB_zero (g : Good t L) {n l : Nat} (hk : colR t l n = 0) : leastB t n l = false := by
  unfold leastB
  rw [hk, g.path0]
  exact decide_eq_false (by simp)
/-! ### texts of words -/
def strP (p : List Nat) : Str := ⟨(p.map (97 + ·)).toArray⟩
theorem lets_strP (p : List Nat) : lets (strP p) = p := by
  unfold lets strP
  show List.map (· - 97) (List.map (97 + ·) p) = p
  rw [List.map_map]
  exact (List.map_congr_left fun c _ => (show 97 + c - 97 = c by omega)).trans (List.map_id p)
theorem strP_lets {w : Str} (h : WordL L w) : strP (lets w) = w := by
  obtain ⟨⟨cs⟩⟩ := w
  unfold strP lets
  have : (List.map (fun x => 97 + x) (List.map (fun x => x - 97) cs)) = cs := by
    rw [List.map_map]
    refine (List.map_congr_left fun c hc => ?_).trans (List.map_id cs)
    have := (h c hc).1
    show 97 + (c - 97) = c
    omega
  show (⟨(List.map (fun x => 97 + x) (List.map (fun x => x - 97) cs)).toArray⟩ : Str) = _
  rw [this]
theorem strP_snoc (p : List Nat) (l : Nat) : strP (p ++ [l]) = strP p ++ letS l := by
  unfold strP letS
  show _ = (⟨_ ++ _⟩ : Str)
  simp
theorem strP_inj {p q : List Nat} (h : strP p = strP q) : p = q := by
  rw [← lets_strP p, h, lets_strP]
theorem strP_len (p : List Nat) : (strP p).length = p.length := by rw [← lets_len, lets_strP]
def wordAt (t : List (List Nat)) (k : Nat) : Str := (wordsOf (scanRows 0 t [])).getD k ⟨#[]⟩
theorem word_strP (g : Good t L) {k : Nat} (hk : k < t.length) : (wordsOf (scanRows 0 t []))[k]? = some (strP (pathOf t k)) := by
  obtain ⟨w, h1, h2, _, h3⟩ := g.word hk
  rw [h1, h3, strP_lets h2]
theorem words_all (g : Good t L) : wordsOf (scanRows 0 t []) = (List.range t.length).map fun k => strP (pathOf t k) := by
  apply List.ext_getElem?
  intro k
  rw [List.getElem?_map]
  by_cases hk : k < t.length
  · rw [List.getElem?_range hk]
    exact word_strP g hk
  · rw [List.getElem?_eq_none (by rw [wordsOf_len, ← g.len]; omega), List.getElem?_eq_none (by simp; omega)]
    rfl
theorem mem_words (g : Good t L) {p : List Nat} (hp : ∀ l ∈ p, l < L) : strP p ∈ wordsOf (scanRows 0 t []) ↔ isW t p := by
  rw [words_all g, List.mem_map]
  constructor
  · rintro ⟨k, hk, e⟩
    have := strP_inj e
    subst this
    exact isW_path g (List.mem_range.mp hk)
  · intro h
    refine ⟨act t 0 p, List.mem_range.mpr (act0_lt g hp), ?_⟩
    have h' : pathOf t (act t 0 p) = p := h
    rw [h']
end
end Mt

/-! a lambda's body; a method of an instance without a name, to which tables are handed. -/
namespace SL
open PySem L2 Evl LamX
section
variable {K : PySem.W.Frag} {F F' : Fm} {G G' H H' : Hp} {τ σ : List (Option V)} {ε δ : List SD} {v x : V} {P : PV} {T : List (Addr × Str)} {r r0 : SD} {j : Nat} {te ta : TE} {tr : TA} {C : Addr}
theorem lamF {W : WF} {N : List Str} {vs : List V} {Q : VK} {X0 : XK} (h : SpF K W vs H Q X0)
    (hb : ∀ F ds post, F.K = K → W ds post → E F te (startD N.length (ds.map SD.fz)) fun r _ => post r) : te (L2.start N vs) H Q := by
  obtain ⟨G, ds, post, ex, da, w, k⟩ := h
  refine hb ⟨K, G, H, []⟩ ds post rfl w [] [] G H _ Q ?_ fun v r δ' G' H' p e s => k r p v G' H' ⟨s.w.sub ?_, s.t, trivial⟩
  · have hl : fps (startD N.length (ds.map SD.fz)) = [] := by
      unfold startD
      rw [fps_app, fps_fz, fps_no]
      rfl
    refine ⟨?_, trivial, ?_⟩
    · rw [hl]
      exact ⟨ex, fun a ha => by simp [fps] at ha, by simp [fps], Ex.refl _, fun a o e _ => e, fun a o e => .inl e, fun a ha => by simp [fps] at ha, fun a ha => by simp at ha⟩
    · unfold L2.start startD
      rw [List.length_map, ← DpAll.len da]
      exact Oks.app (oks_ofDp da) (oks_nones _)
  · show (fps [r] ++ fps []).Sublist (fps [r] ++ fps δ')
    exact List.Sublist.append_left (List.nil_sublist _) _
theorem Rn.moveT {t : TS} {D : Ends} {i : Nat} {ri : SD} (hj : δ[j]? = some (.ow (tabR F.K T r))) (hi : (δ.set j r)[i]? = some ri) (hn : ri ≠ .no) (h : Rn F t ((δ.set j r).set i (.ow (tabR F.K T ri))) D) : Rn F t δ D := fun G H σ s => h G H σ (s.moveT hj hi hn)
/-- e.m(..), e an instance without a name, to which the tables are handed -/
theorem ev_methTT {W : WO} {X0 : XK} {mn : Str} (h : E F ta δ fun r δ1 => ∃ (p dx : Addr) (fs : List (Str × SD)) (m : List (Addr × DD)), r = .ow (insO F.K p dx C fs m) ∧ fs.lookup mn = none ∧ EA F tr δ1 fun rs δ2 => ∃ (as : List PyData) (T : List (Addr × Str)) (r0 : SD) (j : Nat), rs = as.map SD.fz ∧ δ2[j]? = some (.ow (tabR F.K T r0)) ∧ r0 ≠ .no ∧
      W (.ow (tabR F.K T (.ow (insO F.K p dx C fs m)))) as fun r r1 => (∃ ri, r1 = .ow (tabR F.K T ri) ∧ ri ≠ .no) ∧ ((∀ a ∈ r.fp, a ∉ F.io) → P r δ2)) : E F (tMeth C mn (SpO F.K W) [] X0 ta tr) δ P := fun τ ε G H σ Q s q =>
  h τ ε G H σ _ s fun x r δ1 G1 H1 ⟨p, dx, fs, m, hr, hl, h1⟩ e1 s1 => by
    subst hr
    obtain ⟨ex1, _, ⟨xs, h3, h4⟩, _⟩ := S2.ins_at (j := 0) s1.toSlot rfl
    have hx : x = .ref p := by simpa using ex1
    subst hx
    refine ⟨p, dx, xs, rfl, h3, FS.none h4 hl, ?_⟩
    refine h1 _ _ G1 H1 σ _ s1 fun vs rs δ2 G2 H2 ⟨as, T, r0, j, hrs, hj, hn, k⟩ e2 el s2 => ?_
    subst hrs
    rw [List.append_nil]
    have sp := Oks.split (by simpa using el) s2.t
    have s2' := S2.popN el s2
    obtain ⟨vv, s3⟩ := s2'.park hj
    have okI : SD.ok F.K G2 H2 (some (.ref p)) (.ow (insO F.K p dx C fs m)) := s3.t.2.1
    have okT : (∀ x : Addr × Str, x ∈ T → TabG G2 H2 x.1 x.2) ∧ True := s3.top
    have s4 : S2 F G2 H2 (some (.ref p) :: τ) (.ow (tabR F.K T (.ow (insO F.K p dx C fs m))) :: ε) σ (δ2.set j r0) := by
      refine ⟨s3.w.perm ?_, ⟨⟨okT.1, okI⟩, s3.t.2.2⟩, s3.s⟩
      show (((T.map Prod.fst ++ (SD.ow (insO F.K p dx C fs m)).fp) ++ fps ε) ++ fps (δ2.set j r0)).Perm (((T.map Prod.fst ++ []) ++ ((SD.ow (insO F.K p dx C fs m)).fp ++ fps ε)) ++ fps (δ2.set j r0))
      rw [List.append_nil, List.append_assoc (T.map Prod.fst)]
    have s5 := s4.toSlot
    obtain ⟨ow, nd⟩ := S2.own_of (j := 0) s5 rfl
    refine ⟨G2, .ref p, vs, .ow (tabR F.K T (.ow (insO F.K p dx C fs m))), as, _, rfl, s2.w.gh, s4.top, ow, nd, oks_fz sp.1, k, fun r r1 ⟨⟨ri, hr1, hri⟩, pp⟩ hs v G' H' c => ?_⟩
    subst hr1
    have s6 := S2.callO (j := 0) s5 rfl rfl c
    have s7 : S2 F G' H' (some v :: τ) (r :: ε) (some (.ref p) :: σ) (.ow (tabR F.K T ri) :: δ2.set j r0) := s6
    have hjl : j < δ2.length := (List.getElem?_eq_some_iff.mp hj).1
    have s8 := s7.moveT (j := 0) (i := j + 1) (ri := r0) rfl (by
      show (ri :: δ2.set j r0)[j + 1]? = some r0
      rw [List.getElem?_cons_succ, List.getElem?_set_self hjl]) hn
    have s9 : S2 F G' H' (some v :: τ) (r :: ε) (some (.ref p) :: σ) (ri :: (δ2.set j r0).set j (.ow (tabR F.K T r0))) := s8
    rw [List.set_set, set_sameL hj] at s9
    exact q v r _ G' H' (pp (new_io s5 c hs)) (Ex.trans (Ex.trans e1 e2) c.w.g0) (S2.unslot s9)
theorem ev_dinK {ty td : TE} (h : E F ty δ fun r δ1 => ∃ k : Key, r = .fz (keyD k) ∧ E F td δ1 fun r2 δ2 => ∃ (q : Addr) (kvs : List (Key × PyData)), r2 = .al q ∧ DSrc F.K δ2 q kvs ∧ P (.fz (.bool (dlook kvs k).isSome)) δ2) : E F (tDIn ty td) δ P := fun τ ε G H σ Q s q =>
  h τ ε G H σ _ s fun y r δ1 G1 H1 ⟨k, hr, h1⟩ e1 s1 => by
    subst hr
    have hy := fz_top s1
    refine h1 _ _ G1 H1 σ _ s1 fun x r2 δ2 G2 H2 ⟨p, kvs, hr2, hj, k2⟩ e2 s2 => ?_
    subst hr2
    have hx : x = .ref p := s2.top
    subst hx
    obtain rfl := dp_key hy
    obtain ⟨xs, hxs, kd⟩ := s2.dsrc hj
    refine ⟨p, _, rfl, DGet.k hxs, ?_⟩
    have e : (valV xs k).isSome = (dlook kvs k).isSome := by
      cases q1 : dlook kvs k with
      | none => rw [KD.none kd q1]; rfl
      | some d => obtain ⟨v, hv, _⟩ := KD.some kd q1; rw [hv]; rfl
    rw [e]
    exact q _ _ δ2 G2 H2 k2 (Ex.trans e1 e2) (s2.pop2.push rfl (.bl _))
open PySem.Builtin PySem.Builtin.Str in
/-- text[a:] -/
theorem slice_from {t : Str} {a : Nat} (ha : a ≤ t.length) : (Txt.slice t (some (a : Int)) none).cps.toList = t.cps.toList.drop a := by
  have e : Txt.slice t (some (a : Int)) none = Txt.slice t (some (a : Int)) (some (t.length : Int)) := by
    unfold Txt.slice
    have : strSliceIndices (some (a : Int)) none 1 t.length = strSliceIndices (some (a : Int)) (some (t.length : Int)) 1 t.length := by
      have h2 : ¬ ((t.length : Int) < 0) := by omega
      have e2 : max (0 : Int) (min (t.length : Int) (t.length : Int)) = t.length := by omega
      simp only [strSliceIndices, h2, if_false, e2, show ((1 : Int) > 0) = True from by simp, if_true]
    rw [this]
  rw [e, PySem.W.os_slice ha (Nat.le_refl _)]
  have l : t.cps.toList.length = t.length := Array.length_toList
  exact List.take_of_length_le (by rw [List.length_drop]; omega)
end
end SL

namespace My
open PySem L2 SL Mt Mx LamX
local macro_rules | `(tactic| walk_at "e1") => `(tactic| first
  | with_reducible refine nx_seq ?_ | with_reducible refine rn_seq ?_
  | with_reducible refine rn_set ?_ | with_reducible refine rn_ret ?_ | with_reducible refine rn_if ?_ | with_reducible refine rn_drop ?_ | with_reducible refine rn_next ?_
  | with_reducible refine ev_int ?_ | with_reducible refine ev_str ?_ | with_reducible refine ev_bl ?_ | with_reducible refine ev_non ?_
  | ((with_reducible refine' ev_fz ?vv ?_); (case vv => exact rfl))
  | ((with_reducible refine' ev_ol ?vv ?_); (case vv => exact rfl))
  | ((with_reducible refine' ev_al ?vv ?_); (case vv => exact rfl))
  | with_reducible refine ev_op ?_ | with_reducible refine ev_un ?_
  | with_reducible refine o_int ?_ | with_reducible refine o_bl ?_ | with_reducible refine u_int ?_
  | with_reducible refine o_eqI ?_ | with_reducible refine o_neI ?_ | with_reducible refine o_eqS ?_ | with_reducible refine o_neS ?_
  | with_reducible refine ev_isi ?_ | with_reducible refine ev_isi2 ?_ | with_reducible refine ev_cb ?_ | with_reducible refine a_one ?_ | with_reducible refine a_cons ?_ | with_reducible refine a_nil ?_
  | with_reducible refine b_abs ?_ | with_reducible refine b_int ?_ | with_reducible refine b_intb ?_
  | with_reducible refine b_lenL ?_ | with_reducible refine b_lenT ?_
  | with_reducible refine b_tupO ?_ | with_reducible refine b_tupL ?_ | with_reducible refine b_tupT ?_ | with_reducible refine t_yes ?_ | with_reducible refine iteT ?_ | with_reducible refine iteF ?_
  | with_reducible refine t_test ?_ | with_reducible refine t_B ?_ | with_reducible refine t_not ?_ | with_reducible refine t_and ?_ | with_reducible refine t_or ?_
  | with_reducible refine ev_lst ?_ | with_reducible refine ev_tup ?_ | with_reducible refine ev_callM ?_ | with_reducible refine ev_callF ?_ | with_reducible refine rn_setL ?_ | with_reducible refine rn_setDT ?_ | with_reducible refine rn_asg ?_ | ((with_reducible refine' ga_tup ?vv ?_); (case vv => exact rfl)) | with_reducible refine gas_nil ?_ | ((with_reducible refine' gas_name ?vv ?_); (case vv => exact rfl)) | ((with_reducible refine' rn_asgN ?vv ?_); (case vv => exact rfl))
  | with_reducible refine rn_par3 ?_ | with_reducible refine rn_par ?_ | with_reducible refine ev_tupRg ?_ | with_reducible refine ev_listRg ?_ | with_reducible refine ev_disp1T ?_ | with_reducible refine ev_dgetT ?_ | with_reducible refine ev_dnotinT ?_
  | with_reducible refine ev_append ?_ | with_reducible refine ev_extend ?_ | with_reducible refine ev_reverse ?_ | with_reducible refine ev_revL ?_
  | with_reducible refine ev_chain ?_ | with_reducible refine ev_and ?_ | with_reducible refine ev_or ?_ | with_reducible refine ev_not ?_ | with_reducible refine ev_if ?_
  | ((with_reducible refine' ev_oi ?vv ?_); (case vv => exact rfl)) | ((with_reducible refine' ev_ot ?vv ?_); (case vv => exact rfl)) | ((with_reducible refine' ev_od ?vv ?_); (case vv => exact rfl))
  | refine ⟨_, rfl, ?_⟩)
local macro_rules | `(tactic| walk_at "ev") => `(tactic| repeat (walk_at "e1"))

def Wends (K : PySem.W.Frag) (P : Program) (w : World) (C : Addr) : WO := fun r0 as post => ∃ p dx q t L kvs, r0 = monO K P w C p dx q t kvs ∧ as = [] ∧ Good t L ∧ MemOk t kvs ∧ ∀ kvs', MemOk t kvs' → post (.fz (endsD t)) (monO K P w C p dx q t kvs')
def Wleast (K : PySem.W.Frag) (P : Program) (w : World) (C : Addr) : WO := fun r0 as post => ∃ p dx q t L kvs n l, r0 = monO K P w C p dx q t kvs ∧ as = [intN n, intN l] ∧ Good t L ∧ n < t.length ∧ l < L ∧ post (.fz (.bool (leastB t n l))) (monO K P w C p dx q t kvs)
def Wrule (K : PySem.W.Frag) (P : Program) (w : World) (C : Addr) : WO := fun r0 as post => ∃ p dx q t L kvs n l, r0 = monO K P w C p dx q t kvs ∧ as = [intN n, intN l] ∧ Good t L ∧ MemOk t kvs ∧ n < t.length ∧ l < L ∧ ∀ kvs', MemOk t kvs' → post (.fz (.bool (ruleB t n l))) (monO K P w C p dx q t kvs')
theorem shaped_pair (a b : Nat) : SeqAt.shaped (.tuple [intN a, intN b]) = true :=
  shaped_of (lay_tup fun d hd => by rcases List.mem_cons.mp hd with z | hd2; (subst z; exact lay_int _); (have := List.mem_singleton.mp hd2; subst this; exact lay_int _)) (Nat.le_trans (dep_tup (k := 0) fun d hd => by rcases List.mem_cons.mp hd with z | hd2; (subst z; exact dep_int _); (have := List.mem_singleton.mp hd2; subst this; exact dep_int _)) (by decide))
theorem eqv_pair (a b c d : Nat) : PyData.eqv (.tuple [intN a, intN b]) (.tuple [intN c, intN d]) = decide ((a, b) = (c, d)) := by
  simp only [PyData.eqv, PyData.eqvAll, Bool.and_true]
  by_cases h1 : a = c <;> by_cases h2 : b = d <;> simp [h1, h2] <;> omega
theorem tree_eq {t : List (List Nat)} {L n l : Nat} (g : Good t L) (hn : n < t.length) (hl : l < L) : ∃ it, (PyData.none :: (scanRows 0 t []).map pairN)[colR t l n]? = some it ∧ SeqAt.shaped it = true ∧ PyData.eqv it (.tuple [intN n, intN l]) = leastB t n l := by
  cases hk : colR t l n with
  | zero =>
    refine ⟨.none, rfl, rfl, ?_⟩
    rw [leastB_zero g hk]
    rfl
  | succ k =>
    obtain ⟨a, m, h1, h2⟩ := tree_leastB g hn hl hk
    refine ⟨pairN (a, m), ?_, shaped_pair a m, ?_⟩
    · rw [List.getElem?_cons_succ, List.getElem?_map, h1]
      rfl
    · rw [h2]
      exact eqv_pair a m n l
theorem ends_take {t : List (List Nat)} (i : Nat) (h : i ≤ t.length) : ((List.range t.length).map fun k => intN (act t 0 (pathOf t k).tail)).take i = (List.range i).map fun k => intN (endN t k) := by
  rw [← List.map_take, List.take_range, Nat.min_eq_left h]
  rfl
section
variable {P : Program} {w : World} {K : PySem.W.Frag} {mg : Str → Option Value} {base : Heap}
abbrev s_Monoid_ends : Stmt := inClass (top 17) 22
abbrev N_Monoid_ends : List Str := ["self", "found", "ahead", "letter"]
theorem sc_Monoid_ends : FnScope N_Monoid_ends ["self"] (defScope s_Monoid_ends) := ⟨rfl, rfl, rfl, by decide +kernel, rfl, by decide +kernel, by decide +kernel⟩

theorem ok_ends {f : Addr} {fd : FuncData} {CM : Addr} (Fn : Fun K "ends" "Monoid.ends" s_Monoid_ends f fd) (B : Bt mg) (C : Ct mg) (M : MC K CM) :
    FnOk P w K mg base CX0 1 f fd ["self"] (SpO K (Wends K P w CM)) := by
  refine Fn.ok sc_Monoid_ends (fun vs H Q E h => ?_) (fun cdv A outer s H vs Q E hr h => ?_)
  · obtain ⟨G, v0, ws, r0, as, post, rfl, _, _, _, _, da, ⟨p, dx, q, t, L, kvs, _, rfl, _⟩, _⟩ := h
    have := DpAll.len da
    simpa using this
  · refine ⟨_, (pss_cons (ps_if (pt_cmp (pc_dnotinM P w hr.u3 pe_str (pe_fld' K (pv 0) rfl))) (pss_cons (ps_set (i := 1) sc_Monoid_ends.nd rfl (Or.inl rfl) (pe_lst (pa_cons pe_int pa_nil)))
 (pss_cons (ps_for PassesOwn.never rfl (pi_list' K (pe_slice (sl_list' K) (pe_fld' K (pv 0) rfl) (po_some pe_int) po_none)) (pg_tup' K (n := 2) rfl (pgs_cons (pg_name (i := 2) sc_Monoid_ends.nd rfl (Or.inl rfl)) (pgs_cons (pg_name (i := 3) sc_Monoid_ends.nd rfl (Or.inl rfl)) pgs_nil))) (pss_one (ps_expr (pe_bm' K PySem.F.plainAttrs_list PySem.F.slot_list_append PySem.F.type_list_append mt_append (pv 1) (pa_cons (pe_ifExp (pt_cmpR op_ne (pv 2) pe_int (nomark _)) (pe_ix (ix_tup' K) (pe_ix (ix_tup' K) (pe_fld' K (pv 0) rfl) (pe_ix (ix_list' K) (pv 1) (pv 2) (fun _ _ => rfl)) (fun _ _ => rfl)) (pv 3) (fun _ _ => rfl)) pe_int) pa_nil)))))
 (pss_one (ps_asg (pv 1) (pg_sub (pe_fld' K (pv 0) rfl) pe_str (set_mixR P w hr.u3)))))) pss_nil)
 (pss_one (ps_ret (pe_dgetM P w hr.u3 (pe_fld' K (pv 0) rfl) pe_str (fun _ _ => rfl))))), bodyO h fun F r0 as post hK hio hW ret => ?_⟩
    subst hK
    obtain ⟨p, dx, q, t, L, kvs, rfl, rfl, g, hm, k⟩ := hW
    have g2 := g.n2
    have gl := g.len
    have g3 := g.l2
    have g1 := g.n1
    show Rn F _ [monO F.K P w CM p dx q t kvs, .no, .no, .no] _
    have back : ∀ kvs' s1 s2 s3, MemOk t kvs' → mlook kvs' endsK = some (endsD t) → Nx F (Ends.nx (Ends.mk ((tRet (tDGetM P w (tFld F.K (tVar 0) "memory") (tC (.str "ends")))) { nx := fun _ H' => Q .non H', rt := Q }) Q (fun _ _ => False) (fun _ _ => False))) [monO F.K P w CM p dx q t kvs', s1, s2, s3] := by
      intro kvs' s1 s2 s3 m1 m2
      refine nx_seq (D := { nx := fun _ H' => Q .non H', rt := Q }) ?_
      refine rn_ret (ev_dgetM ?_)
      refine ev_fldA ?_
      walk_at "ev"
      refine ⟨p, dx, CM, _, _, 0, q, rfl, rfl, M.cls, M.n_memory, rfl, ?_⟩
      walk_at "ev"
      refine ⟨endsK, kvs', endsD t, rfl, lay_ends, .ins 0 rfl (by simp), m2, ?_⟩
      exact ret _ _ _ p rfl pins_ins pins_ins (k kvs' m1) (fun a ha => ha)
    refine rn_seq (rn_if (t_B (ev_dnotinM ?_)))
    walk_at "ev"
    refine ⟨endsK, rfl, lay_ends, ?_⟩
    refine ev_fldA ?_
    walk_at "ev"
    refine ⟨p, dx, CM, _, _, 0, q, rfl, rfl, M.cls, M.n_memory, rfl, ?_⟩
    refine ⟨q, kvs, rfl, .ins 0 rfl (by simp), _, rfl, ?_⟩
    cases hmw : mlook kvs endsK with
    | none =>
      refine (if_pos (by simp)).mpr ?_
      walk_at "ev"
      refine ⟨[_], rfl, (by show 1 ≤ sizeLine; decide), fun p1 q1 => ?_⟩
      walk_at "ev"
      refine rn_for (iw_listO (ev_from (i := 1) (ev_fldZ ?_)))
      walk_at "ev"
      refine ⟨p, dx, CM, _, _, 0, treeD t, rfl, rfl, M.cls, M.n_tree, rfl, ?_⟩
      refine ⟨_, .fz, fun q2 hq2 => ⟨q2, _, hq2, rfl, fun i δ' => ∃ (s3 s4 : SD), δ' = [monO F.K P w CM p dx q t kvs, .ol p1 ((List.range (i + 1)).map fun k => intN (endN t k)), s3, s4], ⟨.no, .no, ?_⟩, ?_, ?_⟩⟩
      · show _ = [_, SD.ol p1 [intN (endN t 0)], _, _]
        rw [endN_zero g]
        rfl
      · rintro F' i d δ' N hle hd ⟨s3, s4, rfl⟩ hN
        rw [← hle.k]
        have M' : MC F'.K CM := by rw [hle.k]; exact M
        obtain ⟨⟨a, l⟩, hp2, rfl⟩ := map_item (l := scanRows 0 t []) (f := pairN) hd
        have hlt : i < (scanRows 0 t []).length := (List.getElem?_eq_some_iff.mp hp2).1
        obtain ⟨c1, c2, c3⟩ := g.tree hp2
        have hes := endN_step g hp2
        unfold pairN
        walk_at "ev"
        refine ⟨p1, 1, _, rfl, rfl, ?_⟩
        have hend : ∀ v : Nat, v = endN t (i + 1) → (((List.range (i + 1)).map fun k => intN (endN t k)) ++ [intN v]) = (List.range (i + 1 + 1)).map fun k => intN (endN t k) := by
          intro v hv
          rw [List.range_succ (n := i + 1), List.map_append, hv]
          rfl
        refine ev_if ?_
        walk_at "ev"
        by_cases h0 : a = 0
        · subst h0
          refine (if_neg (by simp)).mpr ?_
          walk_at "ev"
          refine ⟨_, _, rfl, rfl, by rw [List.length_map, List.length_range]; omega, ?_⟩
          refine hN _ ⟨.fz (intN 0), .fz (intN l), ?_⟩
          rw [if_pos rfl] at hes
          have := hend 0 hes.symm
          rw [← this, hle.k]
          rfl
        · refine (if_pos (by simp; omega)).mpr ?_
          rw [if_neg h0] at hes
          have hea := endN_lt g c3
          obtain ⟨r, hr1, hr2, _⟩ := g.col hea c2
          refine ev_op (ev_op (ev_fldZ ?_))
          walk_at "ev"
          refine ⟨p, dx, CM, _, _, 0, rowsT t, rfl, rfl, M'.cls, M'.n_right, rfl, ?_⟩
          walk_at "ev"
          refine o_ix (.al 1 rfl) (atI_nat (j := a) (v := intN (endN t a)) (by rw [List.getElem?_map, List.getElem?_range (by omega)]; rfl)) ?_
          refine o_ixT (ds := t.map tupN) (atI_nat (j := endN t a) (map_get hr1)) ?_
          walk_at "ev"
          refine o_ixT (ds := r.map intN) (atI_nat (j := l) (map_get hr2)) ?_
          refine ⟨_, _, rfl, rfl, by rw [List.length_map, List.length_range]; omega, ?_⟩
          refine hN _ ⟨.fz (intN a), .fz (intN l), ?_⟩
          have := hend _ hes.symm
          rw [← this, hle.k]
          rfl
      · rintro δ' ⟨s3, s4, rfl⟩
        refine nx_seq ?_
        refine Rn.freezeS (i := 1) rfl q1 ?_
        refine rn_setMI ?_
        walk_at "ev"
        refine ev_fldA ?_
        walk_at "ev"
        refine ⟨p, dx, CM, _, _, 0, q, rfl, rfl, M.cls, M.n_memory, rfl, ?_⟩
        walk_at "ev"
        have hlm := hm.len
        refine ⟨endsK, 0, p, dx, CM, _, kvs, rfl, lay_ends, rfl, hmw, by omega, ?_⟩
        have e : PyData.list ((List.range ((List.drop 1 (PyData.none :: (scanRows 0 t []).map pairN)).length + 1)).map fun k => intN (endN t k)) = endsD t := by
          show PyData.list ((List.range (((scanRows 0 t []).map pairN).length + 1)).map fun k => intN (endN t k)) = _
          rw [List.length_map, ← gl]
          rfl
        refine back _ _ _ _ (hm.putA hmw (.inr (.inl (by rw [← e])))) (by rw [← e]; exact mlook_snoc hmw)
    | some d =>
      have hd := hm.ends hmw
      subst hd
      refine (if_neg (by simp)).mpr ?_
      refine rn_next ?_
      exact back kvs _ _ _ hm hmw
abbrev s_Monoid_is_least : Stmt := inClass (top 17) 23
abbrev N_Monoid_is_least : List Str := ["self", "number", "letter"]
theorem sc_Monoid_is_least : FnScope N_Monoid_is_least ["self", "number", "letter"] (defScope s_Monoid_is_least) := ⟨rfl, rfl, rfl, by decide +kernel, rfl, by decide +kernel, by decide +kernel⟩

theorem ok_is_least {f : Addr} {fd : FuncData} {CM : Addr} (Fn : Fun K "is_least" "Monoid.is_least" s_Monoid_is_least f fd) (M : MC K CM) :
    FnOk P w K mg base CX0 1 f fd ["self", "number", "letter"] (SpO K (Wleast K P w CM)) := by
  refine Fn.ok sc_Monoid_is_least (fun vs H Q E h => ?_) (fun cdv A outer s H vs Q E hr h => ?_)
  · obtain ⟨G, v0, ws, r0, as, post, rfl, _, _, _, _, da, ⟨p, dx, q, t, L, kvs, n, l, _, rfl, _⟩, _⟩ := h
    have := DpAll.len da
    simpa using this
  · refine ⟨_, (pss_one (ps_ret (pe_cmpR (op_eqD' K hr.units) (pe_ix (ix_list' K) (pe_fld' K (pv 0) rfl) (pe_ix (ix_tup' K) (pe_ix (ix_tup' K) (pe_fld' K (pv 0) rfl) (pv 1) (fun _ _ => rfl)) (pv 2) (fun _ _ => rfl)) (fun _ _ => rfl)) (pe_tup (pa_cons (pv 1) (pa_cons (pv 2) pa_nil))) (nomark _)))), bodyO h fun F r0 as post hK hio hW ret => ?_⟩
    subst hK
    obtain ⟨p, dx, q, t, L, kvs, n, l, rfl, rfl, g, hn, hl, k⟩ := hW
    show Rn F _ [monO F.K P w CM p dx q t kvs, .fz (intN n), .fz (intN l)] _
    obtain ⟨it, hi, hsh, heq⟩ := tree_eq g hn hl
    obtain ⟨r, hr1, hr2, _⟩ := g.col hn hl
    refine rn_ret (ev_op (ev_op (ev_fldZ ?_)))
    walk_at "ev"
    refine ⟨p, dx, CM, _, _, 0, treeD t, rfl, rfl, M.cls, M.n_tree, rfl, ?_⟩
    refine ev_op (ev_op (ev_fldZ ?_))
    walk_at "ev"
    refine ⟨p, dx, CM, _, _, 0, rowsT t, rfl, rfl, M.cls, M.n_right, rfl, ?_⟩
    walk_at "ev"
    refine o_ixT (ds := t.map tupN) (atI_nat (j := n) (map_get hr1)) ?_
    walk_at "ev"
    refine o_ixT (ds := r.map intN) (atI_nat (j := l) (map_get hr2)) ?_
    refine o_ixL (atI_nat (j := colR t l n) hi) ?_
    walk_at "ev"
    refine ⟨[_, _], rfl, (by show 2 ≤ sizeLine; decide), ?_⟩
    refine o_eqD hsh (shaped_pair n l) ?_
    rw [heq]
    exact ret _ _ _ p rfl pins_ins pins_ins k (fun a ha => ha)
abbrev s_Monoid_is_rule : Stmt := inClass (top 17) 24
abbrev N_Monoid_is_rule : List Str := ["self", "number", "letter"]
theorem sc_Monoid_is_rule : FnScope N_Monoid_is_rule ["self", "number", "letter"] (defScope s_Monoid_is_rule) := ⟨rfl, rfl, rfl, by decide +kernel, rfl, by decide +kernel, by decide +kernel⟩

theorem ok_is_rule {f : Addr} {fd : FuncData} {CM : Addr} (Fn : Fun K "is_rule" "Monoid.is_rule" s_Monoid_is_rule f fd) (m_ends : Met P w K mg base 1 CM "ends" (SpO K (Wends K P w CM))) (m_is_least : Met P w K mg base 1 CM "is_least" (SpO K (Wleast K P w CM))) :
    FnOk P w K mg base CX0 2 f fd ["self", "number", "letter"] (SpO K (Wrule K P w CM)) := by
  refine Fn.ok sc_Monoid_is_rule (fun vs H Q E h => ?_) (fun cdv A outer s H vs Q E hr h => ?_)
  · obtain ⟨G, v0, ws, r0, as, post, rfl, _, _, _, _, da, ⟨p, dx, q, t, L, kvs, n, l, _, rfl, _⟩, _⟩ := h
    have := DpAll.len da
    simpa using this
  · refine ⟨_, (pss_one (ps_ret (pe_and (pe_not (pe_mt m_is_least hr (by decide) (pv 0) (pa_cons (pv 1) (pa_cons (pv 2) pa_nil)))) (pe_one (pe_or (pe_cmpR op_eq (pv 1) pe_int (nomark _)) (pe_one (pe_mt m_is_least hr (by decide) (pv 0) (pa_cons (pe_ix (ix_list' K) (pe_mt0 m_ends hr (by decide) (pv 0)) (pv 1) (fun _ _ => rfl)) (pa_cons (pv 2) pa_nil))))))))), bodyO h fun F r0 as post hK hio hW ret => ?_⟩
    subst hK
    obtain ⟨p, dx, q, t, L, kvs, n, l, rfl, rfl, g, hm, hn, hl, k⟩ := hW
    show Rn F _ [monO F.K P w CM p dx q t kvs, .fz (intN n), .fz (intN l)] _
    walk_at "ev"
    refine ev_meth ?_
    walk_at "ev"
    refine ⟨p, dx, _, _, 0, rfl, rfl, rfl, ?_⟩
    walk_at "ev"
    refine ⟨[_, _], dx, CM, _, _, rfl, rfl, p, dx, q, t, L, kvs, n, l, rfl, rfl, g, hn, hl, fun _ => ⟨_, rfl, _, rfl, ?_⟩⟩
    unfold ruleB at k
    cases hb : leastB t n l with
    | true =>
      rw [hb] at k
      refine (if_neg (by simp)).mpr ?_
      exact ret _ _ _ p rfl pins_ins pins_ins (k kvs hm) (fun a ha => ha)
    | false =>
      rw [hb] at k
      refine (if_pos (by simp)).mpr ?_
      walk_at "ev"
      by_cases h0 : n = 0
      · subst h0
        refine (if_pos (by simp)).mpr ?_
        exact ret _ _ _ p rfl pins_ins pins_ins (k kvs hm) (fun a ha => ha)
      · refine (if_neg (by simp; omega)).mpr ?_
        have hel := endN_lt g hn
        refine ev_meth ?_
        walk_at "ev"
        refine ⟨p, dx, _, _, 0, rfl, rfl, rfl, ?_⟩
        walk_at "ev"
        refine ev_meth ?_
        walk_at "ev"
        refine ⟨p, dx, _, _, 0, rfl, rfl, rfl, ?_⟩
        walk_at "ev"
        refine ⟨[], dx, CM, _, _, rfl, rfl, p, dx, q, t, L, kvs, rfl, rfl, g, hm, fun kvs1 m1 _ => ?_⟩
        walk_at "ev"
        refine o_ixL (atI_nat (j := n) (v := intN (endN t n)) (by rw [List.getElem?_map, List.getElem?_range hn]; rfl)) ?_
        walk_at "ev"
        refine ⟨[_, _], dx, CM, _, _, rfl, rfl, p, dx, q, t, L, kvs1, endN t n, l, rfl, rfl, g, hel, hl, fun _ => ?_⟩
        refine ret _ _ _ p rfl pins_ins pins_ins ?_ (fun a ha => ha)
        have := k kvs1 m1
        rw [decide_eq_false h0] at this
        exact this
/-- a rule: its left side, its right side -/
def pairD (t : List (List Nat)) (p : List Nat) : PyData := .tuple [.str (strP p), .str (strP (pathOf t (act t 0 p)))]
def pairR (t : List (List Nat)) (x : Nat × Nat) : PyData := pairD t (pathOf t x.1 ++ [x.2])
def Wkey : WF := fun as post => ∃ a b : Str, as = [.tuple [.str a, .str b]] ∧ a.length ≤ sizeLine ∧ post (.fz (.tuple [intN a.length, .str a]))
def kKey : PyData → PyData
  | .tuple (.str u :: _) => .tuple [intN u.length, .str u]
  | d => d
theorem lexlt_lt : ∀ {p q : List Nat}, lexlt p q → p.length = q.length → (p.map (97 + ·)) < (q.map (97 + ·))
  | [], [], h, _ => by simp [lexlt] at h
  | [], _ :: _, _, h => by simp at h
  | _ :: _, [], _, h => by simp at h
  | a :: p, b :: q, h, e => by
    simp only [List.map_cons, List.cons_lt_cons_iff]
    rcases h with z | ⟨z, z2⟩
    · exact .inl (by omega)
    · exact .inr ⟨by omega, lexlt_lt z2 (by simpa using e)⟩
theorem key_le {t : List (List Nat)} {p q : List Nat} (h : slt p q) : PySem.W.dataLe false kKey (pairD t p) (pairD t q) = true := by
  rw [PySem.W.dataLe_eq]
  show (!PySem.W.dataLt (.tuple [intN (strP q).length, .str (strP q)]) (.tuple [intN (strP p).length, .str (strP p)])) = true
  rw [PySem.W.dataLt_pair (by simp [PySem.W.alike, intN]) (by simp [PySem.W.alike])]
  rw [PySem.W.dataLt_int, PySem.W.dataLt_str]
  simp only [PyData.eqv, beq_iff_eq, strP_len]
  rcases h with z | ⟨z, z2⟩
  · have h1 : ¬ ((q.length : Int) = (p.length : Int)) := by omega
    have h2 : ¬ ((q.length : Int) < (p.length : Int)) := by omega
    simp [h1, h2]
  · have h1 : ((q.length : Int) = (p.length : Int)) := by omega
    rw [if_pos h1]
    have h3 := lexlt_lt z2 z
    have h4 : ¬ strP q = strP p := fun e => by
      rw [strP_inj e] at h3
      exact List.lt_irrefl _ h3
    rw [if_neg h4, PySem.W.not_lt_str]
    simp only [decide_eq_true_eq]
    exact List.le_of_lt h3
theorem key_alike (l : List PyData) (h : ∀ d ∈ l, ∃ a b : Str, d = .tuple [.str a, .str b]) : PySem.W.AllAlike (l.map kKey) := fun d hd d' hd' => by
  obtain ⟨x, hx, rfl⟩ := List.mem_map.mp hd
  obtain ⟨y, hy, rfl⟩ := List.mem_map.mp hd'
  obtain ⟨a, b, rfl⟩ := h x hx
  obtain ⟨a', b', rfl⟩ := h y hy
  simp [kKey, PySem.W.alike, PySem.W.alikeAll, intN]
theorem key_sortable (l : List PyData) (h : ∀ d ∈ l, ∃ a b : Str, d = .tuple [.str a, .str b]) : PySem.W.Sortable (l.map kKey) := .inl fun d hd => by
  obtain ⟨x, hx, rfl⟩ := List.mem_map.mp hd
  obtain ⟨a, b, rfl⟩ := h x hx
  exact ⟨_, _, rfl⟩
theorem key_depth (l : List PyData) (h : ∀ d ∈ l, ∃ a b : Str, d = .tuple [.str a, .str b]) : ∀ d ∈ l, (kKey d).depth ≤ 60 := fun d hd => by
  obtain ⟨a, b, rfl⟩ := h d hd
  show (PyData.tuple [intN a.length, .str a]).depth ≤ 60
  simp [PyData.depth, PyData.depthAll, intN]
theorem rules_pairs (t : List (List Nat)) (l : List (Nat × Nat)) : ∀ d ∈ l.map (pairR t), ∃ a b : Str, d = .tuple [.str a, .str b] := fun d hd => by
  obtain ⟨x, _, rfl⟩ := List.mem_map.mp hd
  exact ⟨_, _, rfl⟩
theorem path_short {t : List (List Nat)} {L : Nat} (g : Good t L) {n : Nat} (hn : n < t.length) : (pathOf t n).length ≤ 2000 := by
  have h1 := word_strP g hn
  have h2 := wordsOf_short _ _ (List.mem_of_getElem? h1)
  rw [strP_len] at h2
  have := g.len
  have := g.n2
  omega
theorem rules_key {t : List (List Nat)} {L : Nat} (g : Good t L) : ∀ d ∈ (rulesN t L t.length).map (pairR t), Wkey [d] fun r => r = .fz (kKey d) := fun d hd => by
  obtain ⟨⟨n, l⟩, hx, rfl⟩ := List.mem_map.mp hd
  have h := mem_rulesN.mp hx
  have := path_short g h.1
  refine ⟨_, _, rfl, ?_, rfl⟩
  rw [strP_len]
  refine Nat.le_trans (show (pathOf t n ++ [l]).length ≤ 2001 by simp; omega) (by decide)
theorem rules_sorted {t : List (List Nat)} {L : Nat} (g : Good t L) : ((rulesN t L t.length).map (pairR t)).mergeSort (PySem.W.dataLe false kKey) = (rulesN t L t.length).map (pairR t) :=
  List.mergeSort_of_pairwise (List.pairwise_map.mpr ((rulesN_pair g).imp fun {a b} h => key_le h))
def Wrules (K : PySem.W.Frag) (P : Program) (w : World) (C : Addr) (T : List (Addr × Str)) : WO := fun r0 as post => ∃ p dx q t L kvs, r0 = .ow (tabR K T (monO K P w C p dx q t kvs)) ∧ as = [] ∧ Good t L ∧ MemOk t kvs ∧ ∀ kvs' p1, MemOk t kvs' → post (.ol p1 ((rulesN t L t.length).map (pairR t))) (.ow (tabR K T (monO K P w C p dx q t kvs')))
abbrev s_Monoid_rules : Stmt := inClass (top 17) 25
abbrev N_Monoid_rules : List Str := ["self", "words", "found", "number", "row", "letter", "other"]
theorem sc_Monoid_rules : FnScope N_Monoid_rules ["self"] (defScope s_Monoid_rules) := ⟨rfl, rfl, rfl, by decide +kernel, rfl, by decide +kernel, by decide +kernel⟩

theorem ok_rules {f c A : Addr} {T : List (Addr × Str)} {fd : FuncData} {CM : Addr} (Fn : Fun K "rules" "Monoid.rules" s_Monoid_rules f fd) (hc : fd.code = .ref c) (TB : TabB base mg c A) (hT : (A, ("Monoid.rules.<locals>.<lambda>" : Str)) ∈ T) (B : Bt mg) (C : Ct mg) (M : MC K CM) (m_all_words : Met P w K mg base 1 CM "all_words" (SpO K (Wwords K P w CM))) (m_is_rule : Met P w K mg base 2 CM "is_rule" (SpO K (Wrule K P w CM))) :
    FnOk P w K mg base CX0 4 f fd ["self"] (SpO K (Wrules K P w CM T)) := by
  refine Fn.okC hc sc_Monoid_rules (fun vs H Q E h => ?_) (fun A' outer s H vs Q E hr h => ?_)
  · obtain ⟨G, v0, ws, r0, as, post, rfl, _, _, _, _, da, ⟨p, dx, q, t, L, kvs, _, rfl, _⟩, _⟩ := h
    have := DpAll.len da
    simpa using this
  · refine ⟨_, (pss_cons (ps_par rfl sc_Monoid_rules.nd (i := 1) (j := 2) rfl rfl (by decide) rfl rfl (pa_cons (pe_mt0 m_all_words hr (by decide) (pv 0)) (pa_cons (pe_lst pa_nil) pa_nil)) rfl)
 (pss_cons (ps_for PassesOwn.never rfl (pi_enumT' K rfl B.b_enumerate (pa_cons (pe_fld' K (pv 0) rfl) pa_nil)) (pg_tup' K (n := 2) rfl (pgs_cons (pg_name (i := 3) sc_Monoid_rules.nd rfl (Or.inl rfl)) (pgs_cons (pg_name (i := 4) sc_Monoid_rules.nd rfl (Or.inl rfl)) pgs_nil))) (pss_one (ps_for PassesOwn.never rfl (pi_enumT' K rfl B.b_enumerate (pa_cons (pv 4) pa_nil)) (pg_tup' K (n := 2) rfl (pgs_cons (pg_name (i := 5) sc_Monoid_rules.nd rfl (Or.inl rfl)) (pgs_cons (pg_name (i := 6) sc_Monoid_rules.nd rfl (Or.inl rfl)) pgs_nil))) (pss_one (ps_if (pt_val (pe_mt m_is_rule hr (by decide) (pv 0) (pa_cons (pv 3) (pa_cons (pv 5) pa_nil)))) (pss_one (ps_expr (pe_bm' K PySem.F.plainAttrs_list PySem.F.slot_list_append PySem.F.type_list_append mt_append (pv 2) (pa_cons (pe_tup (pa_cons (pe_op op_add_str (pe_ix (ix_list' K) (pv 1) (pv 3) (fun _ _ => rfl)) (pe_ix ix_str (pe_gc rfl C.g_LETTERS) (pv 5) (fun _ _ => rfl))) (pa_cons (pe_ix (ix_list' K) (pv 1) (pv 6) (fun _ _ => rfl)) pa_nil))) pa_nil)))) pss_nil)))))
 (pss_one (ps_ret (pe_sortL K (k := 0) (pn := "pair") (N := ["pair"]) (q := "Monoid.rules.<locals>.<lambda>") (W := Wkey) TB rfl (by kernel_rfl) (by exact ⟨rfl, rfl, rfl, by decide +kernel, rfl, by decide +kernel, by decide +kernel⟩) (by intros; rfl) (fun f c' outer s H vs Q h1 h2 => ⟨_, (pe_tup (pa_cons (pe_callB call_len_str' rfl B.b_len (by decide +kernel) (pa_cons (pe_ix (ix_tup' K) (pv 0) pe_int (fun _ _ => rfl)) pa_nil)) (pa_cons (pe_ix (ix_tup' K) (pv 0) pe_int (fun _ _ => rfl)) pa_nil))), by (refine lamF h2 fun F ds post hK hW => ?_; subst hK; obtain ⟨a, b, rfl, ha, k⟩ := hW; walk_at "ev"; refine o_ixT (ds := [.str a, .str b]) (atI_nat (j := 0) rfl) ?_; refine b_lenS ha ?_; walk_at "ev"; refine o_ixT (ds := [.str a, .str b]) (atI_nat (j := 0) rfl) ?_; refine ⟨[_, _], rfl, (by show 2 ≤ sizeLine; decide), k⟩)⟩) hr (by decide) rfl B.b_sorted (pa_cons (pv 2) pa_nil)))))), bodyO h fun F r0 as post hK hio hW ret => ?_⟩
    subst hK
    obtain ⟨p, dx, q, t, L, kvs, rfl, rfl, g, hm, k⟩ := hW
    show Rn F _ [.ow (tabR F.K T (monO F.K P w CM p dx q t kvs)), .no, .no, .no, .no, .no, .no] _
    have g1 := g.n1
    have g2 := g.n2
    have g3 := g.l2
    walk_at "ev"
    refine SL.E.park (j := 0) rfl ?_
    refine ev_meth ?_
    walk_at "ev"
    refine ⟨p, dx, _, _, 0, rfl, rfl, rfl, ?_⟩
    walk_at "ev"
    refine ⟨[], dx, CM, _, _, rfl, rfl, p, dx, q, t, L, kvs, rfl, rfl, g, hm, fun kvs1 m1 _ _ _ => ⟨_, rfl, (by intro z; cases z), ?_⟩⟩
    walk_at "ev"
    refine ⟨[], rfl, (by show 0 ≤ sizeLine; decide), fun p1 q1 => ⟨_, _, _, _, rfl, rfl, rfl, ?_⟩⟩
    refine nx_seq ?_
    show Rn F _ [.ow (tabR F.K T (monO F.K P w CM p dx q t kvs1)), .fz (wordsD t), .ol p1 [], .no, .no, .no, .no] _
    refine rn_seq (rn_for (Iw.park (j := 0) rfl (iw_enumT (a_one (ev_fldZ ?_)))))
    walk_at "ev"
    refine ⟨p, dx, CM, _, _, 0, rowsT t, rfl, rfl, M.cls, M.n_right, rfl, ?_⟩
    refine ⟨t.map tupN, rfl, _, rfl, (by intro z; cases z), fun i δ' => ∃ (kvs2 : List (MK × PyData)) (s3 s4 s5 s6 : SD), MemOk t kvs2 ∧ δ' = [.ow (tabR F.K T (monO F.K P w CM p dx q t kvs2)), .fz (wordsD t), .ol p1 ((rulesN t L i).map (pairR t)), s3, s4, s5, s6], ⟨kvs1, _, _, _, _, m1, rfl⟩, ?_, ?_⟩
    · rintro F1 i d δ' N hle hd ⟨kvs2, s3, s4, s5, s6, m2, rfl⟩ hN
      rw [← hle.k]
      have M' : MC F1.K CM := by rw [hle.k]; exact M
      obtain ⟨e, he, rfl⟩ := enum_item hd
      obtain ⟨r, hr0, rfl⟩ := map_item he
      have hi : i < t.length := (List.getElem?_eq_some_iff.mp hr0).1
      have hrL : r.length = L := g.rl _ (List.mem_of_getElem? hr0)
      walk_at "ev"
      show Rn F1 _ [.ow (tabR F1.K T (monO F1.K P w CM p dx q t kvs2)), .fz (wordsD t), .ol p1 ((rulesN t L i).map (pairR t)), .fz (intN i), .fz (tupN r), s5, s6] _
      refine rn_for (iw_enumT ?_)
      walk_at "ev"
      have hlen := rulesN_len t L i
      have hiL : i * L ≤ 12000 := Nat.le_trans (Nat.mul_le_mul (Nat.le_of_lt hi) g3) (by omega)
      refine ⟨fun j δ' => ∃ (kvs2 : List (MK × PyData)) (s5 s6 : SD), MemOk t kvs2 ∧ δ' = [.ow (tabR F1.K T (monO F1.K P w CM p dx q t kvs2)), .fz (wordsD t), .ol p1 ((rulesN t L i ++ ruleRow t i j).map (pairR t)), .fz (intN i), .fz (tupN r), s5, s6], ⟨kvs2, s5, s6, m2, by simp [ruleRow]⟩, ?_, ?_⟩
      · rintro F2 j d2 δ' N2 hle2 hd2 ⟨kvs3, s5, s6, m3, rfl⟩ hN2
        rw [← hle2.k]
        obtain ⟨e2, he2, rfl⟩ := enum_item hd2
        obtain ⟨o, ho, rfl⟩ := map_item he2
        have hj : j < L := by rw [← hrL]; exact (List.getElem?_eq_some_iff.mp ho).1
        have hlen2 := ruleRow_len t i j
        have hoc : o = colR t j i := by
          unfold colR
          rw [List.getD_eq_getElem?_getD (l := t), hr0, Option.getD_some, List.getD_eq_getElem?_getD, ho, Option.getD_some]
        have hot : o < t.length := g.en r (List.mem_of_getElem? hr0) o (List.mem_of_getElem? ho)
        have hwi := word_strP g hi
        have hwo := word_strP g hot
        have hsh := path_short g hi
        walk_at "ev"
        refine SL.E.park (j := 0) rfl ?_
        refine ev_meth ?_
        walk_at "ev"
        refine ⟨p, dx, _, _, 0, rfl, rfl, rfl, ?_⟩
        walk_at "ev"
        refine ⟨[_, _], dx, CM, _, _, rfl, rfl, p, dx, q, t, L, kvs3, i, j, rfl, rfl, g, m3, hi, hj, fun kvs4 m4 _ => ⟨_, rfl, (by intro z; cases z), _, rfl, ?_⟩⟩
        have hsn := ruleRow_snoc t i j
        cases hb : ruleB t i j with
        | false =>
          rw [hb, if_neg (by simp), List.append_nil] at hsn
          refine (if_neg (by simp)).mpr ?_
          refine rn_next (hN2 _ ⟨kvs4, .fz (intN j), .fz (intN o), m4, ?_⟩)
          rw [hsn, hle2.k]
          rfl
        | true =>
          rw [hb, if_pos rfl] at hsn
          refine (if_pos rfl).mpr ?_
          walk_at "ev"
          refine ⟨p1, 2, _, rfl, rfl, ?_⟩
          walk_at "ev"
          have hw1 : ((wordsOf (scanRows 0 t [])).map strS)[i]? = some (.str (strP (pathOf t i))) := by rw [List.getElem?_map, hwi]; rfl
          have hw2 : ((wordsOf (scanRows 0 t [])).map strS)[o]? = some (.str (strP (pathOf t o))) := by rw [List.getElem?_map, hwo]; rfl
          refine o_ixL (atI_nat (j := i) hw1) ?_
          walk_at "ev"
          refine o_ixS (c := 97 + j) (by decide) (atI_nat (j := j) (by
            have h2 : j = 0 ∨ j = 1 ∨ j = 2 ∨ j = 3 ∨ j = 4 ∨ j = 5 := by omega
            rcases h2 with z | z | z | z | z | z <;> subst z <;> rfl)) ?_
          refine o_addS (Nat.le_trans (show (strP (pathOf t i)).length + (letS j).length ≤ 5000 by rw [strP_len]; show _ + 1 ≤ 5000; omega) (by decide)) ?_
          walk_at "ev"
          refine o_ixL (atI_nat (j := o) hw2) ?_
          refine ⟨[_, _], rfl, (by show 2 ≤ sizeLine; decide), _, _, rfl, rfl, by rw [List.length_map, List.length_append]; omega, ?_⟩
          refine hN2 _ ⟨kvs4, .fz (intN j), .fz (intN o), m4, ?_⟩
          have e : PyData.tuple [.str (strP (pathOf t i) ++ letS j), .str (strP (pathOf t o))] = pairR t (i, j) := by
            show _ = PyData.tuple [.str (strP (pathOf t i ++ [j])), .str (strP (pathOf t (act t 0 (pathOf t i ++ [j]))))]
            rw [strP_snoc, act_snoc, (g.path hi).1, hoc]
          have e3 : (rulesN t L i ++ (ruleRow t i j ++ [(i, j)])).map (pairR t) = (rulesN t L i ++ ruleRow t i j).map (pairR t) ++ [PyData.tuple [.str (strP (pathOf t i) ++ letS j), .str (strP (pathOf t o))]] := by
            rw [← List.append_assoc, List.map_append (l₁ := rulesN t L i ++ ruleRow t i j), e]
            rfl
          rw [hsn, hle2.k, e3]
          rfl
      · rintro δ' ⟨kvs3, s5, s6, m3, rfl⟩
        rw [enumD_len, List.length_map, hrL, ← rulesN_snoc]
        refine hN _ ⟨kvs3, .fz (intN i), .fz (tupN r), s5, s6, m3, ?_⟩
        rw [hle.k]
    · rintro δ' ⟨kvs2, s3, s4, s5, s6, m2, rfl⟩
      rw [enumD_len, List.length_map]
      refine nx_seq (rn_ret (ev_sortL ?_))
      walk_at "ev"
      refine ⟨_, _, kKey, T, _, 0, rfl, rfl, hT, .al 2 rfl, rules_key g, key_alike _ (rules_pairs t _), key_sortable _ (rules_pairs t _), key_depth _ (rules_pairs t _), fun p2 q2 => ?_⟩
      rw [rules_sorted g]
      exact ret _ _ _ p rfl (pins_tab pins_ins) (pins_tab pins_ins) (k kvs2 p2 m2) (fun a ha => ha)
end
end My

namespace My
open PySem L2 SL Mt Mx LamX
local macro_rules | `(tactic| walk_at "e1") => `(tactic| first
  | with_reducible refine nx_seq ?_ | with_reducible refine rn_seq ?_
  | with_reducible refine rn_set ?_ | with_reducible refine rn_ret ?_ | with_reducible refine rn_if ?_ | with_reducible refine rn_drop ?_ | with_reducible refine rn_next ?_
  | with_reducible refine ev_int ?_ | with_reducible refine ev_str ?_ | with_reducible refine ev_bl ?_ | with_reducible refine ev_non ?_
  | ((with_reducible refine' ev_fz ?vv ?_); (case vv => exact rfl))
  | ((with_reducible refine' ev_ol ?vv ?_); (case vv => exact rfl))
  | ((with_reducible refine' ev_al ?vv ?_); (case vv => exact rfl))
  | with_reducible refine ev_op ?_ | with_reducible refine ev_un ?_
  | with_reducible refine o_int ?_ | with_reducible refine o_bl ?_ | with_reducible refine u_int ?_
  | with_reducible refine o_eqI ?_ | with_reducible refine o_neI ?_ | with_reducible refine o_eqS ?_ | with_reducible refine o_neS ?_
  | with_reducible refine ev_isi ?_ | with_reducible refine ev_isi2 ?_ | with_reducible refine ev_cb ?_ | with_reducible refine a_one ?_ | with_reducible refine a_cons ?_ | with_reducible refine a_nil ?_
  | with_reducible refine b_abs ?_ | with_reducible refine b_int ?_ | with_reducible refine b_intb ?_
  | with_reducible refine b_lenL ?_ | with_reducible refine b_lenT ?_
  | with_reducible refine b_tupO ?_ | with_reducible refine b_tupL ?_ | with_reducible refine b_tupT ?_ | with_reducible refine t_yes ?_ | with_reducible refine iteT ?_ | with_reducible refine iteF ?_
  | with_reducible refine t_test ?_ | with_reducible refine t_B ?_ | with_reducible refine t_not ?_ | with_reducible refine t_and ?_ | with_reducible refine t_or ?_
  | with_reducible refine ev_lst ?_ | with_reducible refine ev_tup ?_ | with_reducible refine ev_callM ?_ | with_reducible refine ev_callF ?_ | with_reducible refine rn_setL ?_ | with_reducible refine rn_setDT ?_ | with_reducible refine rn_asg ?_ | ((with_reducible refine' ga_tup ?vv ?_); (case vv => exact rfl)) | with_reducible refine gas_nil ?_ | ((with_reducible refine' gas_name ?vv ?_); (case vv => exact rfl)) | ((with_reducible refine' rn_asgN ?vv ?_); (case vv => exact rfl))
  | with_reducible refine rn_par3 ?_ | with_reducible refine rn_par ?_ | with_reducible refine ev_tupRg ?_ | with_reducible refine ev_listRg ?_ | with_reducible refine ev_disp1T ?_ | with_reducible refine ev_dgetT ?_ | with_reducible refine ev_dnotinT ?_
  | with_reducible refine ev_append ?_ | with_reducible refine ev_extend ?_ | with_reducible refine ev_reverse ?_ | with_reducible refine ev_revL ?_
  | with_reducible refine ev_chain ?_ | with_reducible refine ev_and ?_ | with_reducible refine ev_or ?_ | with_reducible refine ev_not ?_ | with_reducible refine ev_if ?_
  | ((with_reducible refine' ev_oi ?vv ?_); (case vv => exact rfl)) | ((with_reducible refine' ev_ot ?vv ?_); (case vv => exact rfl)) | ((with_reducible refine' ev_od ?vv ?_); (case vv => exact rfl))
  | refine ⟨_, rfl, ?_⟩)
local macro_rules | `(tactic| walk_at "ev") => `(tactic| repeat (walk_at "e1"))

def Wdue (K : PySem.W.Frag) (T : List (Addr × Str)) : WO := fun r0 as post => ∃ t L, r0 = .ow (tabR K T (.fz (wordsD t))) ∧ as = [.list (t.map lstN)] ∧ Good t L ∧ ∀ p1, post (.ol p1 ((rulesN t L t.length).map (pairR t))) (.ow (tabR K T (.fz (wordsD t))))
def knownD (ws : List Str) : List (Key × PyData) := ws.map fun w => ((Sum.inr w : Key), PyData.bool true)
theorem known_look (w : Str) : ∀ (ws : List Str) (acc : List (Key × PyData)), (dlook (dmerge acc (knownD ws)) (.inr w)).isSome = ((dlook acc (.inr w)).isSome || decide (w ∈ ws))
  | [], acc => by simp [knownD, dmerge]
  | x :: ws, acc => by
    have e : dmerge acc (knownD (x :: ws)) = dmerge (dput acc (.inr x) (.bool true)) (knownD ws) := rfl
    rw [e, known_look w ws, dlook_dput]
    by_cases h : w = x
    · subst h
      simp
    · have h2 : ¬ (Sum.inr w : Key) = Sum.inr x := fun z => h (Sum.inr.inj z)
      rw [if_neg h2]
      simp [h]
theorem known_at {t : List (List Nat)} {L : Nat} (g : Good t L) {p : List Nat} (hp : ∀ l ∈ p, l < L) : (dlook (dmerge [] (knownD (wordsOf (scanRows 0 t [])))) (.inr (strP p))).isSome = decide (isW t p) := by
  rw [known_look]
  show (false || _) = _
  rw [Bool.false_or]
  exact decide_eq_decide.mpr (mem_words g hp)
theorem slice_tail (p : List Nat) (h : p ≠ []) : Txt.slice (strP p) (some 1) none = strP p.tail := by
  have h1 := slice_from (t := strP p) (a := 1) (by rw [strP_len]; exact List.length_pos_iff.mpr h)
  have e : (strP p).cps.toList.drop 1 = (strP p.tail).cps.toList := by
    show (p.map (97 + ·)).toArray.toList.drop 1 = (p.tail.map (97 + ·)).toArray.toList
    simp
  rw [e] at h1
  have h2 : (Txt.slice (strP p) (some ((1 : Nat) : Int)) none).cps = (strP p.tail).cps := Array.toList_inj.mp h1
  have h3 : ∀ u v : Str, u.cps = v.cps → u = v := fun ⟨_⟩ ⟨_⟩ z => congrArg Str.mk z
  exact h3 _ _ h2
theorem zipR_get {r : List Nat} {j o : Nat} (hl : r.length ≤ 6) (h : r[j]? = some o) : (zipD (signsD "abcdef") (r.map intN))[j]? = some (.tuple [.str (letS j), intN o]) := by
  have h1 : j < r.length := (List.getElem?_eq_some_iff.mp h).1
  unfold zipD
  rw [List.getElem?_zipWith, signs_get (by omega), List.getElem?_map, h]
  rfl
theorem zipR_len {r : List Nat} (hl : r.length ≤ 6) : (zipD (signsD "abcdef") (r.map intN)).length = r.length := by
  unfold zipD
  have : (signsD "abcdef").length = 6 := rfl
  rw [List.length_zipWith, this, List.length_map]
  omega
theorem zipR_item {r : List Nat} {j : Nat} {d : PyData} (hl : r.length ≤ 6) (h : (zipD (signsD "abcdef") (r.map intN))[j]? = some d) : ∃ o, r[j]? = some o ∧ d = .tuple [.str (letS j), intN o] := by
  have hj := (List.getElem?_eq_some_iff.mp h).1
  rw [zipR_len hl] at hj
  have h2 := zipR_get hl (List.getElem?_eq_getElem hj)
  rw [h2] at h
  exact ⟨r[j], List.getElem?_eq_getElem hj, (Option.some.inj h).symm⟩
theorem rule_test {t : List (List Nat)} {L n l : Nat} (g : Good t L) (hn : n < t.length) : ruleB t n l = (!decide (isW t (pathOf t n ++ [l])) && decide (isW t (pathOf t n ++ [l]).tail)) := by
  rw [ruleB_bad g hn]
  unfold badB
  rw [List.dropLast_concat, decide_eq_true (isW_path g hn), Bool.true_and]
section
variable {P : Program} {w : World} {K : PySem.W.Frag} {mg : Str → Option Value} {base : Heap}
abbrev s_law_due : Stmt := top 24
abbrev N_law_due : List Str := ["_law_words", "_law_table_here", "_law_known", "_law_found", "_law_number", "_law_word", "_law_letter", "_law_other", "_law_longer"]
theorem sc_law_due : FnScope N_law_due ["_law_words", "_law_table_here"] (defScope s_law_due) := ⟨rfl, rfl, rfl, by decide +kernel, rfl, by decide +kernel, by decide +kernel⟩

theorem ok_due {f c A : Addr} {T : List (Addr × Str)} {fd : FuncData} (Fn : Fun K "_law_due" "_law_due" s_law_due f fd) (hc : fd.code = .ref c) (TB : TabB base mg c A) (hT : (A, ("_law_due.<locals>.<lambda>" : Str)) ∈ T) (B : Bt mg) :
    FnOk P w K mg base CX0 4 f fd ["_law_words", "_law_table_here"] (SpO K (Wdue K T)) := by
  refine Fn.okC hc sc_law_due (fun vs H Q E h => ?_) (fun A' outer s H vs Q E hr h => ?_)
  · obtain ⟨G, v0, ws, r0, as, post, rfl, _, _, _, _, da, ⟨t, L, _, rfl, _⟩, _⟩ := h
    have := DpAll.len da
    simpa using this
  · refine ⟨_, (pss_cons (ps_par rfl sc_law_due.nd (i := 2) (j := 3) rfl rfl (by decide) rfl rfl (pa_cons (pe_callTy (call_dictP' K rfl) rfl B.b_dict (by decide +kernel) (pa_cons (pe_lcv [5] (pe_lc (own := [("_law_word", 5)]) (g := gName 5) (tt := tYes) rfl sc_law_due.nd (pi_list' K (pv 0)) (blkOk_by (own := [("_law_word", 5)]) (N := N_law_due) (by kernel_rfl)) (fun _ _ _ _ _ => pg_name (i := 5) sc_law_due.nd rfl (Or.inl rfl)) (fun _ _ _ _ _ => pts_nil) (fun _ _ _ _ _ => (pe_tup (pa_cons (pv 5) (pa_cons pe_bl pa_nil)))))) pa_nil)) (pa_cons (pe_lst pa_nil) pa_nil)) rfl)
 (pss_cons (ps_for PassesOwn.never rfl (pi_enum' K rfl B.b_enumerate (pa_cons (pv 0) pa_nil)) (pg_tup' K (n := 2) rfl (pgs_cons (pg_name (i := 4) sc_law_due.nd rfl (Or.inl rfl)) (pgs_cons (pg_name (i := 5) sc_law_due.nd rfl (Or.inl rfl)) pgs_nil))) (pss_one (ps_for PassesOwn.never rfl (pi_zz' K rfl B.b_zip (pa_cons pe_str (pa_cons (pe_ix (ix_list' K) (pv 1) (pv 4) (fun _ _ => rfl)) pa_nil))) (pg_tup' K (n := 2) rfl (pgs_cons (pg_name (i := 6) sc_law_due.nd rfl (Or.inl rfl)) (pgs_cons (pg_name (i := 7) sc_law_due.nd rfl (Or.inl rfl)) pgs_nil))) (pss_cons (ps_set (i := 8) sc_law_due.nd rfl (Or.inl rfl) (pe_op op_add_str (pv 5) (pv 6)))
 (pss_one (ps_if (PW.pt (pw_and (pt_cmp (pc_dnotin hr.u1 (pv 8) (pv 2))) (pw_and1 (pt_cmp (pc_din hr.u1 (pe_slice C8.sl_txt (pv 8) (po_some pe_int) po_none) (pv 2)))))) (pss_one (ps_expr (pe_bm' K PySem.F.plainAttrs_list PySem.F.slot_list_append PySem.F.type_list_append mt_append (pv 3) (pa_cons (pe_tup (pa_cons (pv 8) (pa_cons (pe_ix (ix_list' K) (pv 0) (pv 7) (fun _ _ => rfl)) pa_nil))) pa_nil)))) pss_nil))))))
 (pss_one (ps_ret (pe_sortL K (k := 0) (pn := "_law_pair") (N := ["_law_pair"]) (q := "_law_due.<locals>.<lambda>") (W := Wkey) TB rfl (by kernel_rfl) (by exact ⟨rfl, rfl, rfl, by decide +kernel, rfl, by decide +kernel, by decide +kernel⟩) (by intros; rfl) (fun f c' outer s H vs Q h1 h2 => ⟨_, (pe_tup (pa_cons (pe_callB call_len_str' rfl B.b_len (by decide +kernel) (pa_cons (pe_ix (ix_tup' K) (pv 0) pe_int (fun _ _ => rfl)) pa_nil)) (pa_cons (pe_ix (ix_tup' K) (pv 0) pe_int (fun _ _ => rfl)) pa_nil))), by (refine lamF h2 fun F ds post hK hW => ?_; subst hK; obtain ⟨a, b, rfl, ha, k⟩ := hW; walk_at "ev"; refine o_ixT (ds := [.str a, .str b]) (atI_nat (j := 0) rfl) ?_; refine b_lenS ha ?_; walk_at "ev"; refine o_ixT (ds := [.str a, .str b]) (atI_nat (j := 0) rfl) ?_; refine ⟨[_, _], rfl, (by show 2 ≤ sizeLine; decide), k⟩)⟩) hr (by decide) rfl B.b_sorted (pa_cons (pv 3) pa_nil)))))), bodyTF h (fun r0 as post ⟨t, L, h, _⟩ => ⟨_, h⟩) fun F d as post hK hio hW ret => ?_⟩
    subst hK
    obtain ⟨t, L, h0, rfl, g, k⟩ := hW
    have g1 := g.n1
    have g2 := g.n2
    have g3 := g.l2
    rw [h0] at ret ⊢
    show Rn F _ [.ow (tabR F.K T (.fz (wordsD t))), .fz (.list (t.map lstN)), .no, .no, .no, .no, .no, .no, .no] _
    have ewd : wordsD t = .list ((wordsOf (scanRows 0 t [])).map strS) := rfl
    have hwl : (wordsOf (scanRows 0 t [])).length = t.length := by rw [wordsOf_len, ← g.len]
    have hkn := fun (p : List Nat) hp => known_at g (p := p) hp
    have hws := fun (k : Nat) hk => word_strP g (k := k) hk
    rw [ewd] at ret k ⊢
    generalize wordsOf (scanRows 0 t []) = ws at hwl hkn hws ret k ⊢
    walk_at "ev"
    refine SL.E.park (j := 0) rfl ?_
    walk_at "ev"
    refine ev_lc (iw_list ?_)
    walk_at "ev"
    refine ⟨rfl, (by rw [List.length_map]; omega), fun j acc δ' => acc = (knownD (ws.take j)).map (fun kv => .tuple [keyD kv.1, kv.2]) ∧ δ' = [.fz (.list (ws.map strS)), .fz (.list (t.map lstN)), .no, .no, .no, .no, .no, .no, .no], ⟨rfl, rfl⟩, ?_, ?_, ?_⟩
    · rintro j acc δ' ⟨rfl, rfl⟩
      exact ⟨rfl, by simp [knownD]; omega⟩
    · rintro F3 j d acc δ' hle3 hd3 ⟨rfl, rfl⟩
      obtain ⟨x, hx, rfl⟩ := map_item hd3
      walk_at "ev"
      refine ⟨[_, _], rfl, (by show 2 ≤ sizeLine; decide), _, rfl, _, rfl, ?_, rfl⟩
      rw [List.take_succ, hx]
      simp [knownD, keyD]
      rfl
    · rintro acc δ' q1 hq1 ⟨rfl, rfl⟩
      rw [List.length_map, List.take_length]
      refine ⟨_, rfl, (by intro z; cases z), b_dictP fun p2 hp2 => ?_⟩
      walk_at "ev"
      refine ⟨[], rfl, (by show 0 ≤ sizeLine; decide), fun p3 hp3 => ⟨_, _, _, _, rfl, rfl, rfl, ?_⟩⟩
      refine nx_seq ?_
      show Rn F _ [.ow (tabR F.K T (.fz (.list (ws.map strS)))), .fz (.list (t.map lstN)), .od p2 (dmerge [] (knownD ws)), .ol p3 [], .no, .no, .no, .no, .no] _
      generalize hkv : dmerge [] (knownD ws) = kvs at hkn ⊢
      refine rn_seq (rn_for (Iw.park (j := 0) rfl (iw_enum ?_)))
      walk_at "ev"
      refine ⟨(by intro z; cases z), fun i δ' => ∃ (s4 s5 s6 s7 s8 : SD), δ' = [.ow (tabR F.K T (.fz (.list (ws.map strS)))), .fz (.list (t.map lstN)), .od p2 kvs, .ol p3 ((rulesN t L i).map (pairR t)), s4, s5, s6, s7, s8], ⟨.no, .no, .no, .no, .no, rfl⟩, ?_, ?_⟩
      · rintro F1 i d δ' N hle hd ⟨s4, s5, s6, s7, s8, rfl⟩ hN
        rw [← hle.k]
        obtain ⟨e, he, rfl⟩ := enum_item hd
        obtain ⟨wi, hwi0, rfl⟩ := map_item he
        have hi : i < t.length := by rw [← hwl]; exact (List.getElem?_eq_some_iff.mp hwi0).1
        have hwi := hws i hi
        rw [hwi] at hwi0
        obtain rfl := (Option.some.inj hwi0).symm
        obtain ⟨r, hr0, hrL⟩ : ∃ r, t[i]? = some r ∧ r.length = L := ⟨t[i], List.getElem?_eq_getElem hi, g.rl _ (List.getElem_mem _)⟩
        have hsh := path_short g hi
        have hlen := rulesN_len t L i
        have hiL : i * L ≤ 12000 := Nat.le_trans (Nat.mul_le_mul (Nat.le_of_lt hi) g3) (by omega)
        walk_at "ev"
        show Rn F1 _ [.ow (tabR F1.K T (.fz (.list (ws.map strS)))), .fz (.list (t.map lstN)), .od p2 kvs, .ol p3 ((rulesN t L i).map (pairR t)), .fz (intN i), .fz (.str (strP (pathOf t i))), s6, s7, s8] _
        refine rn_for (iw_zip ?_)
        walk_at "ev"
        refine o_ixL (ds := t.map lstN) (atI_nat (j := i) (v := lstN r) (map_get hr0)) ?_
        refine ⟨_, _, signsD "abcdef", r.map intN, rfl, rfl, rfl, fun j δ' => ∃ (s6 s7 s8 : SD), δ' = [.ow (tabR F1.K T (.fz (.list (ws.map strS)))), .fz (.list (t.map lstN)), .od p2 kvs, .ol p3 ((rulesN t L i ++ ruleRow t i j).map (pairR t)), .fz (intN i), .fz (.str (strP (pathOf t i))), s6, s7, s8], ⟨s6, s7, s8, by simp [ruleRow]⟩, ?_, ?_⟩
        · rintro F2 j d2 δ' N2 hle2 hd2 ⟨s6, s7, s8, rfl⟩ hN2
          rw [← hle2.k]
          obtain ⟨o, ho, rfl⟩ := zipR_item (by omega) hd2
          have hj : j < L := by rw [← hrL]; exact (List.getElem?_eq_some_iff.mp ho).1
          have hlen2 := ruleRow_len t i j
          have hoc : o = colR t j i := by
            unfold colR
            rw [List.getD_eq_getElem?_getD (l := t), hr0, Option.getD_some, List.getD_eq_getElem?_getD, ho, Option.getD_some]
          have hot : o < t.length := g.en r (List.mem_of_getElem? hr0) o (List.mem_of_getElem? ho)
          have hwo := hws o hot
          have hpl : ∀ m ∈ pathOf t i ++ [j], m < L := fun m hm => by
            rcases List.mem_append.mp hm with z | z
            · exact (g.path hi).2 m z
            · have : m = j := by simpa using z
              omega
          have hne : pathOf t i ++ [j] ≠ [] := by simp
          have hsn := ruleRow_snoc t i j
          walk_at "ev"
          refine o_addS (Nat.le_trans (show (strP (pathOf t i)).length + (letS j).length ≤ 5000 by rw [strP_len]; show _ + 1 ≤ 5000; omega) (by decide)) ?_
          rw [← strP_snoc]
          refine ⟨_, rfl, nx_seq (rn_if (t_and (t_B (ev_dnotinK ?_))))⟩
          walk_at "ev"
          refine ⟨.inr (strP (pathOf t i ++ [j])), rfl, ?_⟩
          walk_at "ev"
          refine ⟨p2, kvs, rfl, .od 2 rfl, _, rfl, ?_⟩
          rw [hkn _ hpl]
          have hrt := rule_test (l := j) g hi
          by_cases hw1 : isW t (pathOf t i ++ [j])
          · rw [decide_eq_true hw1] at hrt ⊢
            have hrf : ruleB t i j = false := hrt
            rw [hrf] at hsn
            refine (if_neg (by simp)).mpr ?_
            refine (if_neg (by simp)).mpr ?_
            refine rn_next (hN2 _ ⟨.fz (.str (letS j)), .fz (intN o), .fz (.str (strP (pathOf t i ++ [j]))), ?_⟩)
            rw [hsn, hle2.k]
            simp
          · rw [decide_eq_false hw1] at hrt ⊢
            refine (if_pos (by simp)).mpr ?_
            refine t_B (ev_dinK (ev_slXfrom ?_))
            walk_at "ev"
            refine ⟨by rw [strP_len]; exact Nat.le_trans (show (pathOf t i ++ [j]).length ≤ 5000 by simp; omega) (by decide), ?_⟩
            walk_at "ev"
            rw [slice_tail _ hne]
            refine ⟨.inr (strP (pathOf t i ++ [j]).tail), rfl, ?_⟩
            walk_at "ev"
            refine ⟨p2, kvs, rfl, .od 2 rfl, _, rfl, ?_⟩
            rw [hkn _ (fun l hl => hpl l (List.mem_of_mem_tail hl))]
            by_cases hw2 : isW t (pathOf t i ++ [j]).tail
            · rw [decide_eq_true hw2] at hrt ⊢
              have hrf : ruleB t i j = true := hrt
              rw [hrf] at hsn
              refine (if_pos rfl).mpr ?_
              walk_at "ev"
              refine ⟨p3, 3, _, rfl, rfl, ?_⟩
              refine SL.E.park (j := 0) rfl ?_
              walk_at "ev"
              have hw2' : (ws.map strS)[o]? = some (.str (strP (pathOf t o))) := by rw [List.getElem?_map, hwo]; rfl
              refine o_ixL (atI_nat (j := o) hw2') ?_
              refine ⟨[_, _], rfl, (by show 2 ≤ sizeLine; decide), _, rfl, (by intro z; cases z), _, _, rfl, rfl, by rw [List.length_map, List.length_append]; omega, ?_⟩
              refine hN2 _ ⟨.fz (.str (letS j)), .fz (intN o), .fz (.str (strP (pathOf t i ++ [j]))), ?_⟩
              have e : PyData.tuple [.str (strP (pathOf t i ++ [j])), .str (strP (pathOf t o))] = pairR t (i, j) := by
                show _ = PyData.tuple [.str (strP (pathOf t i ++ [j])), .str (strP (pathOf t (act t 0 (pathOf t i ++ [j]))))]
                rw [act_snoc, (g.path hi).1, hoc]
              have e3 : (rulesN t L i ++ (ruleRow t i j ++ [(i, j)])).map (pairR t) = (rulesN t L i ++ ruleRow t i j).map (pairR t) ++ [PyData.tuple [.str (strP (pathOf t i ++ [j])), .str (strP (pathOf t o))]] := by
                rw [← List.append_assoc, List.map_append (l₁ := rulesN t L i ++ ruleRow t i j), e]
                rfl
              rw [hsn, hle2.k, if_pos rfl, e3]
              rfl
            · rw [decide_eq_false hw2] at hrt ⊢
              have hrf : ruleB t i j = false := hrt
              rw [hrf] at hsn
              refine (if_neg (by simp)).mpr ?_
              refine rn_next (hN2 _ ⟨.fz (.str (letS j)), .fz (intN o), .fz (.str (strP (pathOf t i ++ [j]))), ?_⟩)
              rw [hsn, hle2.k]
              simp
        · rintro δ' ⟨s6, s7, s8, rfl⟩
          rw [zipR_len (by omega), hrL, ← rulesN_snoc]
          refine hN _ ⟨.fz (intN i), .fz (.str (strP (pathOf t i))), s6, s7, s8, ?_⟩
          rw [hle.k]
      · rintro δ' ⟨s4, s5, s6, s7, s8, rfl⟩
        rw [enumD_len, List.length_map, hwl]
        refine nx_seq (rn_ret (ev_sortL ?_))
        walk_at "ev"
        refine ⟨_, _, kKey, T, _, 0, rfl, rfl, hT, .al 3 rfl, rules_key g, key_alike _ (rules_pairs t _), key_sortable _ (rules_pairs t _), key_depth _ (rules_pairs t _), fun p4 q4 => ?_⟩
        rw [rules_sorted g]
        exact ret _ _ 0 _ rfl (k p4)
end
end My

namespace My
open PySem L2 SL Mt Mx LamX
local macro_rules | `(tactic| walk_at "e1") => `(tactic| first
  | with_reducible refine nx_seq ?_ | with_reducible refine rn_seq ?_
  | with_reducible refine rn_set ?_ | with_reducible refine rn_ret ?_ | with_reducible refine rn_if ?_ | with_reducible refine rn_drop ?_ | with_reducible refine rn_next ?_
  | with_reducible refine ev_int ?_ | with_reducible refine ev_str ?_ | with_reducible refine ev_bl ?_ | with_reducible refine ev_non ?_
  | ((with_reducible refine' ev_fz ?vv ?_); (case vv => exact rfl))
  | ((with_reducible refine' ev_ol ?vv ?_); (case vv => exact rfl))
  | ((with_reducible refine' ev_al ?vv ?_); (case vv => exact rfl))
  | with_reducible refine ev_op ?_ | with_reducible refine ev_un ?_
  | with_reducible refine o_int ?_ | with_reducible refine o_bl ?_ | with_reducible refine u_int ?_
  | with_reducible refine o_eqI ?_ | with_reducible refine o_neI ?_ | with_reducible refine o_eqS ?_ | with_reducible refine o_neS ?_
  | with_reducible refine ev_isi ?_ | with_reducible refine ev_isi2 ?_ | with_reducible refine ev_cb ?_ | with_reducible refine a_one ?_ | with_reducible refine a_cons ?_ | with_reducible refine a_nil ?_
  | with_reducible refine b_abs ?_ | with_reducible refine b_int ?_ | with_reducible refine b_intb ?_
  | with_reducible refine b_lenL ?_ | with_reducible refine b_lenT ?_
  | with_reducible refine b_tupO ?_ | with_reducible refine b_tupL ?_ | with_reducible refine b_tupT ?_ | with_reducible refine t_yes ?_ | with_reducible refine iteT ?_ | with_reducible refine iteF ?_
  | with_reducible refine t_test ?_ | with_reducible refine t_B ?_ | with_reducible refine t_not ?_ | with_reducible refine t_and ?_ | with_reducible refine t_or ?_
  | with_reducible refine ev_lst ?_ | with_reducible refine ev_tup ?_ | with_reducible refine ev_callM ?_ | with_reducible refine ev_callF ?_ | with_reducible refine rn_setL ?_ | with_reducible refine rn_setDT ?_ | with_reducible refine rn_asg ?_ | ((with_reducible refine' ga_tup ?vv ?_); (case vv => exact rfl)) | with_reducible refine gas_nil ?_ | ((with_reducible refine' gas_name ?vv ?_); (case vv => exact rfl)) | ((with_reducible refine' rn_asgN ?vv ?_); (case vv => exact rfl))
  | with_reducible refine rn_par3 ?_ | with_reducible refine rn_par ?_ | with_reducible refine ev_tupRg ?_ | with_reducible refine ev_listRg ?_ | with_reducible refine ev_disp1T ?_ | with_reducible refine ev_dgetT ?_ | with_reducible refine ev_dnotinT ?_
  | with_reducible refine ev_append ?_ | with_reducible refine ev_extend ?_ | with_reducible refine ev_reverse ?_ | with_reducible refine ev_revL ?_
  | with_reducible refine ev_chain ?_ | with_reducible refine ev_and ?_ | with_reducible refine ev_or ?_ | with_reducible refine ev_not ?_ | with_reducible refine ev_if ?_
  | ((with_reducible refine' ev_oi ?vv ?_); (case vv => exact rfl)) | ((with_reducible refine' ev_ot ?vv ?_); (case vv => exact rfl)) | ((with_reducible refine' ev_od ?vv ?_); (case vv => exact rfl))
  | refine ⟨_, rfl, ?_⟩)
local macro_rules | `(tactic| walk_at "ev") => `(tactic| repeat (walk_at "e1"))

def partRow (p : List Nat) (b k : Nat) : List (List Nat) := ((List.range k).filter fun e => decide (e < p.length)).map fun e => (p.drop b).take e
def partsN (p : List Nat) (k : Nat) : List (List Nat) := (List.range k).flatMap fun b => partRow p b (p.length + 1 - b)
theorem partRow_snoc (p : List Nat) (b k : Nat) : partRow p b (k + 1) = partRow p b k ++ (if k < p.length then [(p.drop b).take k] else []) := by
  unfold partRow
  rw [List.range_succ, List.filter_append, List.map_append]
  congr 1
  by_cases h : k < p.length <;> simp [h]
theorem partsN_snoc (p : List Nat) (k : Nat) : partsN p (k + 1) = partsN p k ++ partRow p k (p.length + 1 - k) := by
  unfold partsN
  rw [List.range_succ, List.flatMap_append]
  simp
theorem partRow_len (p : List Nat) (b k : Nat) : (partRow p b k).length ≤ k := by
  unfold partRow
  rw [List.length_map]
  exact Nat.le_trans (List.length_filter_le _ _) (by simp)
theorem partsN_len (p : List Nat) : ∀ k, (partsN p k).length ≤ k * (p.length + 1)
  | 0 => by simp [partsN]
  | k + 1 => by
    rw [partsN_snoc, List.length_append, Nat.succ_mul]
    have h1 := partsN_len p k
    have h2 := partRow_len p k (p.length + 1 - k)
    omega
theorem mem_parts {p x : List Nat} : x ∈ partsN p p.length ↔ ∃ b e, b < p.length ∧ b ≤ e ∧ e ≤ p.length ∧ e - b < p.length ∧ x = (p.drop b).take (e - b) := by
  unfold partsN partRow
  simp only [List.mem_flatMap, List.mem_range, List.mem_map, List.mem_filter, decide_eq_true_eq]
  constructor
  · rintro ⟨b, hb, k, ⟨h1, h2⟩, rfl⟩
    exact ⟨b, b + k, hb, by omega, by omega, by omega, by rw [Nat.add_sub_cancel_left]⟩
  · rintro ⟨b, e, h1, h2, h3, h4, rfl⟩
    exact ⟨b, h1, e - b, ⟨by omega, h4⟩, rfl⟩
theorem parts_word {t : List (List Nat)} {L : Nat} (g : Good t L) {p : List Nat} (hp : ∀ l ∈ p, l < L) (h0 : p ≠ []) : (∀ x ∈ partsN p p.length, isW t x) ↔ isW t p.dropLast ∧ isW t p.tail := by
  rw [parts_iff g hp h0]
  constructor
  · intro h b e h1 h2 h3 h4
    exact h _ (mem_parts.mpr ⟨b, e, h1, h2, h3, h4, rfl⟩)
  · intro h x hx
    obtain ⟨b, e, h1, h2, h3, h4, rfl⟩ := mem_parts.mp hx
    exact h b e h1 h2 h3 h4
theorem slice_strP {p : List Nat} {a b : Nat} (hab : a ≤ b) (hb : b ≤ p.length) : Txt.slice (strP p) (some (a : Int)) (some (b : Int)) = strP ((p.drop a).take (b - a)) := by
  have h1 := PySem.W.os_slice (t := strP p) hab (by rw [strP_len]; exact hb)
  have e : ((strP p).cps.toList.drop a).take (b - a) = (strP ((p.drop a).take (b - a))).cps.toList := by
    show ((p.map (97 + ·)).toArray.toList.drop a).take (b - a) = (((p.drop a).take (b - a)).map (97 + ·)).toArray.toList
    simp
  rw [e] at h1
  have h2 := Array.toList_inj.mp h1
  have h3 : ∀ u v : Str, u.cps = v.cps → u = v := fun ⟨_⟩ ⟨_⟩ z => congrArg Str.mk z
  exact h3 _ _ h2
theorem range2_item {a : Int} {n i : Nat} {d : PyData} (h : (rangeD a n)[i]? = some d) : i < n ∧ d = .int (a + i) := by
  unfold rangeD at h
  rw [List.getElem?_map] at h
  cases e : (List.range n)[i]? with
  | none => rw [e] at h; simp at h
  | some j =>
    obtain ⟨h1, h2⟩ := List.getElem?_eq_some_iff.mp e
    rw [e] at h
    simp at h h1 h2
    subst h2
    exact ⟨h1, h.symm⟩
def Wparts : WF := fun as post => ∃ p : List Nat, as = [.str (strP p)] ∧ p.length ≤ 40 ∧ ∀ q, post (.ol q ((partsN p p.length).map fun x => .str (strP x)))
section
variable {P : Program} {w : World} {K : PySem.W.Frag} {mg : Str → Option Value} {base : Heap}
abbrev s_law_parts : Stmt := top 25
abbrev N_law_parts : List Str := ["_law_word", "_law_found", "_law_begin", "_law_end"]
theorem sc_law_parts : FnScope N_law_parts ["_law_word"] (defScope s_law_parts) := ⟨rfl, rfl, rfl, by decide +kernel, rfl, by decide +kernel, by decide +kernel⟩

theorem ok_parts {f : Addr} {fd : FuncData} (Fn : Fun K "_law_parts" "_law_parts" s_law_parts f fd) (B : Bt mg) : FnOk P w K mg base CX0 1 f fd ["_law_word"] (SpF K Wparts) := by
  refine Fn.ok sc_law_parts (fun vs H Q E h => ?_) (fun cdv A outer s H vs Q E hr h => ?_)
  · obtain ⟨G, ds, post, _, da, ⟨p, rfl, _⟩, _⟩ := h
    exact DpAll.len da
  · refine ⟨_, (pss_cons (ps_set (i := 1) sc_law_parts.nd rfl (Or.inl rfl) (pe_lst pa_nil))
 (pss_cons (ps_for PassesOwn.never rfl (pi_range1 rfl B.b_range (pa_cons (pe_callB call_len_str' rfl B.b_len (by decide +kernel) (pa_cons (pv 0) pa_nil)) pa_nil)) (pg_name (i := 2) sc_law_parts.nd rfl (Or.inr rfl)) (pss_one (ps_expr (pe_bm' K PySem.F.plainAttrs_list PySem.F.slot_list_extend PySem.F.type_list_extend mt_extend (pv 1) (pa_cons (pe_lcv [3] (pe_lc (own := [("_law_end", 3)]) (g := gName 3)  rfl sc_law_parts.nd (pi_range2 rfl B.b_range (pa_cons (pv 2) (pa_cons (pe_op op_add (pe_callB call_len_str' rfl B.b_len (by decide +kernel) (pa_cons (pv 0) pa_nil)) pe_int) pa_nil))) (blkOk_by (own := [("_law_end", 3)]) (N := N_law_parts) (by kernel_rfl)) (fun _ _ _ _ _ => pg_name (i := 3) sc_law_parts.nd rfl (Or.inl rfl)) (fun _ _ _ _ _ => (pts_one (pt_cmpR op_lt (pe_op op_sub (pv 3) (pv 2)) (pe_callB call_len_str' rfl B.b_len (by decide +kernel) (pa_cons (pv 0) pa_nil)) (nomark _)))) (fun _ _ _ _ _ => (pe_slice C8.sl_txt (pv 0) (po_some (pv 2)) (po_some (pv 3)))))) pa_nil)))))
 (pss_one (ps_ret (pv 1))))), bodyF h fun F ds post hK hio hW ret => ?_⟩
    subst hK
    obtain ⟨p, rfl, hp, k⟩ := hW
    have hsz : (strP p).length ≤ sizeLine := by rw [strP_len]; exact Nat.le_trans hp (by decide)
    have hpl : (strP p).length = p.length := strP_len p
    show Rn F _ [.fz (.str (strP p)), .no, .no, .no] _
    walk_at "ev"
    refine ⟨[], rfl, (by show 0 ≤ sizeLine; decide), fun p1 q1 => ⟨_, rfl, ?_⟩⟩
    refine nx_seq ?_
    show Rn F _ [.fz (.str (strP p)), .ol p1 [], .no, .no] _
    refine rn_seq (rn_for (iw_range1 ?_))
    walk_at "ev"
    refine b_lenS hsz ?_
    refine ⟨_, rfl, by omega, by omega, fun i δ' => ∃ s2, δ' = [.fz (.str (strP p)), .ol p1 ((partsN p i).map fun x => .str (strP x)), s2, .no], ⟨.no, rfl⟩, ?_, ?_⟩
    · rintro F1 i d δ' N hle hd ⟨s2, rfl⟩ hN
      rw [← hle.k]
      obtain ⟨hi, rfl⟩ := range2_item hd
      have hi2 : i < p.length := by omega
      walk_at "ev"
      refine ⟨p1, 1, _, rfl, rfl, ?_⟩
      refine ev_lc (iw_range2 ?_)
      walk_at "ev"
      refine b_lenS hsz ?_
      walk_at "ev"
      have hrl : ((((strP p).length : Int) + 1) - (0 + (i : Int))).toNat = p.length + 1 - i := by omega
      have hsrc : ∀ x, x ∈ partsN p i → True := fun _ _ => trivial
      have hpn := partsN_len p i
      have hpn2 : i * (p.length + 1) ≤ 40 * 41 := Nat.mul_le_mul (by omega) (by omega)
      have hpr := partRow_len p i (p.length + 1 - i)
      refine ⟨_, _, rfl, ⟨by omega, by omega, by omega, by omega⟩, rfl, by rw [rangeD_len, hrl]; omega, fun kk acc δ' => acc = (partRow p i kk).map (fun x => .str (strP x)) ∧ δ' = [.fz (.str (strP p)), .ol p1 ((partsN p i).map fun x => .str (strP x)), .fz (.int (0 + (i : Int))), .no], ⟨rfl, rfl⟩, ?_, ?_, ?_⟩
      · rintro kk acc δ' ⟨rfl, rfl⟩
        refine ⟨rfl, ?_⟩
        rw [List.length_map]
        exact partRow_len p i kk
      · rintro F2 kk d acc δ' hle2 hd2 ⟨rfl, rfl⟩
        obtain ⟨hk, rfl⟩ := range2_item hd2
        rw [hrl] at hk
        have hsn := partRow_snoc p i kk
        walk_at "ev"
        refine b_lenS hsz ?_
        walk_at "ev"
        by_cases hc : kk < p.length
        · rw [if_pos hc] at hsn
          refine (if_pos (by simp; omega)).mpr ?_
          refine ev_slX ?_
          walk_at "ev"
          refine ⟨hsz, ?_⟩
          walk_at "ev"
          have e1 : (0 + (i : Int)) = ((i : Nat) : Int) := by omega
          have e2 : (0 + (i : Int) + (kk : Int)) = ((i + kk : Nat) : Int) := by omega
          rw [e2, e1, slice_strP (by omega) (by omega), Nat.add_sub_cancel_left]
          refine ⟨?_, rfl⟩
          rw [hsn, List.map_append]
          rfl
        · rw [if_neg hc, List.append_nil] at hsn
          refine (if_neg (by simp; omega)).mpr ?_
          exact ⟨_, rfl, by rw [hsn], rfl⟩
      · rintro acc δ' q2 hq2 ⟨rfl, rfl⟩
        rw [rangeD_len, hrl]
        refine ⟨q2, _, _, rfl, rfl, ?_, ?_⟩
        · rw [List.length_map, List.length_map]
          omega
        · refine hN _ ⟨.fz (.int (0 + (i : Int))), ?_⟩
          rw [partsN_snoc, List.map_append]
          rfl
    · rintro δ' ⟨s2, rfl⟩
      refine nx_seq (rn_ret (ev_mv (i := 1) rfl (by simp) ?_))
      have e : (rangeD 0 ((strP p).length : Int).toNat).length = p.length := by rw [rangeD_len]; omega
      rw [e]
      exact ret _ _ (k _)
end
end My

/-! words of maps of four points are short: a way of products without a repetition has at most 64 of them. -/
namespace Mt
open PySem
def hasN : List Nat → Nat → Bool
  | [], _ => false
  | y :: r, x => Nat.beq y x || hasN r x
def nubL : List Nat → List Nat → List Nat
  | acc, [] => acc
  | acc, x :: r => nubL (bif hasN acc x then acc else acc ++ [x]) r
def cod : List Nat → Nat
  | [] => 0
  | x :: r => x + 1 + 5 * cod r
def c1 (p : List Nat) : Nat := cod (nubL [] p)
def putN : List Nat → Nat → List Nat
  | l, x => bif hasN l x then l else l ++ [x]
def vals4 : List Nat := ((List.range 4).flatMap fun a => (List.range 4).flatMap fun b => (List.range 4).flatMap fun c => (List.range 4).map fun d => c1 [a, b, c, d]).foldl putN []
def idxN : List Nat → Nat → Nat
  | [], _ => 0
  | y :: r, x => bif Nat.beq y x then 0 else idxN r x + 1
def f4 (p : List Nat) : Nat := idxN vals4 (c1 p)
def stuckB : Bool := (List.range 4).all fun a => (List.range 4).all fun b => (List.range 4).all fun c => (List.range 4).all fun d => (List.range 4).all fun e => (List.range 4).all fun f => (List.range 4).all fun g => (List.range 4).all fun h =>
  !(Nat.beq (c1 (comp [a, b, c, d] [e, f, g, h])) (c1 [a, b, c, d])) || decide (comp [a, b, c, d] [e, f, g, h] = [a, b, c, d])
theorem stuckB_ok : stuckB = true := by decide +kernel
def idxB : Bool := vals4.all fun x => vals4.all fun y => !(Nat.beq (idxN vals4 x) (idxN vals4 y)) || Nat.beq x y
theorem idxB_ok : idxB = true := by decide +kernel
def ltB : Bool := (List.range 4).all fun a => (List.range 4).all fun b => (List.range 4).all fun c => (List.range 4).all fun d => hasN vals4 (c1 [a, b, c, d]) && decide (f4 [a, b, c, d] < 64)
theorem ltB_ok : ltB = true := by decide +kernel
theorem hasN_mem : ∀ {l : List Nat} {x : Nat}, hasN l x = true → x ∈ l
  | y :: r, x, h => by
    rcases Bool.or_eq_true_iff.mp h with z | z
    · rw [Nat.eq_of_beq_eq_true z]; simp
    · exact List.mem_cons_of_mem _ (hasN_mem z)
theorem map4 {x : List Nat} (h : IsMap 4 x) : ∃ a b c d, x = [a, b, c, d] ∧ a < 4 ∧ b < 4 ∧ c < 4 ∧ d < 4 := by
  obtain ⟨h1, h2⟩ := h
  match x, h1, h2 with
  | [a, b, c, d], _, h2 => exact ⟨a, b, c, d, rfl, h2 a (by simp), h2 b (by simp), h2 c (by simp), h2 d (by simp)⟩
theorem f4_ok {x : List Nat} (h : IsMap 4 x) : c1 x ∈ vals4 ∧ f4 x < 64 := by
  obtain ⟨a, b, c, d, rfl, ha, hb, hc, hd⟩ := map4 h
  have z := ltB_ok
  unfold ltB at z
  have z1 := List.all_eq_true.mp (List.all_eq_true.mp (List.all_eq_true.mp (List.all_eq_true.mp z a (List.mem_range.mpr ha)) b (List.mem_range.mpr hb)) c (List.mem_range.mpr hc)) d (List.mem_range.mpr hd)
  rw [Bool.and_eq_true] at z1
  exact ⟨hasN_mem z1.1, of_decide_eq_true z1.2⟩
theorem f4_stuck {x m : List Nat} (hx : IsMap 4 x) (hm : IsMap 4 m) (e : f4 (comp x m) = f4 x) : comp x m = x := by
  have hc := isMap_comp hx hm
  have i := idxB_ok
  unfold idxB at i
  have i1 := List.all_eq_true.mp (List.all_eq_true.mp i _ (f4_ok hc).1) _ (f4_ok hx).1
  have ec : c1 (comp x m) = c1 x := by
    rcases Bool.or_eq_true_iff.mp i1 with z | z
    · have e' : idxN vals4 (c1 (comp x m)) = idxN vals4 (c1 x) := e
      rw [e', Nat.beq_refl] at z
      exact absurd z (by decide)
    · exact Nat.eq_of_beq_eq_true z
  obtain ⟨a, b, c, d, rfl, ha, hb, hc', hd⟩ := map4 hx
  obtain ⟨a', b', c', d', rfl, ha', hb', hc'', hd'⟩ := map4 hm
  have z := stuckB_ok
  unfold stuckB at z
  have z1 := List.all_eq_true.mp (List.all_eq_true.mp (List.all_eq_true.mp (List.all_eq_true.mp z a (List.mem_range.mpr ha)) b (List.mem_range.mpr hb)) c (List.mem_range.mpr hc')) d (List.mem_range.mpr hd)
  have z2 := List.all_eq_true.mp (List.all_eq_true.mp (List.all_eq_true.mp (List.all_eq_true.mp z1 a' (List.mem_range.mpr ha')) b' (List.mem_range.mpr hb')) c' (List.mem_range.mpr hc'')) d' (List.mem_range.mpr hd')
  rw [ec, Nat.beq_refl] at z2
  exact of_decide_eq_true (by simpa using z2)
/-- a number of a map that tells whether it is stuck -/
theorem tell {n : Nat} (hn : n ≤ 4) : ∃ f : List Nat → Nat, (∀ x, IsMap n x → f x < 64) ∧ ∀ x m, IsMap n x → IsMap n m → f (comp x m) = f x → comp x m = x := by
  by_cases h4 : n = 4
  · subst h4
    exact ⟨f4, fun x hx => (f4_ok hx).2, fun x m hx hm e => f4_stuck hx hm e⟩
  · refine ⟨code n, fun x hx => ?_, fun x m hx hm e => ?_⟩
    · have := code_lt n x hx.2
      rw [hx.1] at this
      have : n ^ n < 64 := by
        match n, (by omega : n ≤ 3) with
        | 0, _ => decide
        | 1, _ => decide
        | 2, _ => decide
        | 3, _ => decide
      omega
    · have hc := isMap_comp hx hm
      exact code_inj n _ _ (by rw [hc.1, hx.1]) hc.2 hx.2 e
section
variable {n : Nat} {ms found table : List (List Nat)} {words : List Str}
theorem Tab.chain (h : Tab n ms found words table) (g : Good table ms.length) (hms : ∀ m ∈ ms, IsMap n m) {f : List Nat → Nat} (hf : ∀ x m, IsMap n x → IsMap n m → f (comp x m) = f x → comp x m = x) :
    ∀ (N : Nat) (tr : List (Nat × Nat)), tr.length = N → ∀ t2, tr ++ t2 = scanRows 0 table [] → ∀ k, k < tr.length + 1 → ∃ (w : Str) (x : List Nat) (vs : List Nat), (wordsOf tr)[k]? = some w ∧ found[k]? = some x ∧ vs.length = w.length + 1 ∧ vs.Nodup ∧
      ∀ v ∈ vs, ∃ c y m, c ≤ k ∧ found[c]? = some y ∧ IsMap n m ∧ v = f y ∧ x = comp y m := by
  intro N
  induction N with
  | zero =>
    intro tr ht t2 _ k hk
    have : tr = [] := List.length_eq_zero_iff.mp ht
    subst this
    have : k = 0 := by simpa using hk
    subst this
    refine ⟨⟨#[]⟩, _, [f (List.range n)], rfl, h.one, rfl, by simp, fun v hv => ?_⟩
    have : v = f (List.range n) := by simpa using hv
    exact ⟨0, _, List.range n, Nat.le_refl 0, h.one, isMap_range n, this, (comp_one (isMap_range n)).symm⟩
  | succ N ih =>
    intro tr ht t2 e k hk
    rcases List.eq_nil_or_concat tr with e0 | ⟨tr', p, e0⟩
    · subst e0; simp at ht
    · rw [List.concat_eq_append] at e0
      subst e0
      have ht' : tr'.length = N := by simpa using ht
      have e' : tr' ++ (p :: t2) = scanRows 0 table [] := by rw [← e]; simp
      have hl : (wordsOf tr').length = tr'.length + 1 := wordsOf_len _
      rw [wordsOf_snoc]
      by_cases hk2 : k < tr'.length + 1
      · obtain ⟨w, x, vs, h1, h2⟩ := ih tr' ht' (p :: t2) e' k hk2
        exact ⟨w, x, vs, by rw [List.getElem?_append_left (by omega)]; exact h1, h2⟩
      · have hkk : k = tr'.length + 1 := by simp at hk; omega
        subst hkk
        obtain ⟨a, l⟩ := p
        have hp : (scanRows 0 table [])[tr'.length]? = some (a, l) := by
          rw [← e']
          simp
        obtain ⟨q1, q2, q3⟩ := g.tree hp
        obtain ⟨_, r, hr1, hr2⟩ := treeOk g.ord _ _ _ hp
        obtain ⟨w, x, vs, h1, h2, h3, h4, h5⟩ := ih tr' ht' _ e' a (by omega)
        have eg : (wordsOf tr').getD a ⟨#[]⟩ = w := by rw [List.getD_eq_getElem?_getD, h1]; rfl
        have hm : ms[l]? = some (ms[l]) := List.getElem?_eq_getElem q2
        have im : IsMap n ms[l] := hms _ (List.getElem_mem _)
        obtain ⟨r', o, hr1', hr2', _, hfo⟩ := h.at_ h2 hm
        rw [hr1] at hr1'
        cases hr1'
        rw [hr2] at hr2'
        cases hr2'
        have ix := h.mp _ (List.mem_of_getElem? h2)
        have all : ∀ v ∈ vs, ∃ c y m, c ≤ a ∧ found[c]? = some y ∧ IsMap n m ∧ v = f y ∧ comp x ms[l] = comp y m := by
          intro v hv
          obtain ⟨c, y, m, hc, hy, hm', hv', hx'⟩ := h5 v hv
          have iy := h.mp _ (List.mem_of_getElem? hy)
          exact ⟨c, y, comp m ms[l], hc, hy, isMap_comp hm' im, hv', by rw [hx']; exact comp_assoc iy.2 hm'.1⟩
        refine ⟨w ++ letS l, comp x ms[l], vs ++ [f (comp x ms[l])], ?_, hfo, ?_, ?_, ?_⟩
        · rw [List.getElem?_append_right (by omega), hl]
          show [(wordsOf tr').getD a ⟨#[]⟩ ++ letS l][tr'.length + 1 - (tr'.length + 1)]? = _
          rw [eg, Nat.sub_self]
          rfl
        · rw [List.length_append, h3, strLen]; rfl
        · refine List.nodup_append.mpr ⟨h4, by simp, ?_⟩
          intro v hv v' hv' e2
          have : v' = f (comp x ms[l]) := by simpa using hv'
          obtain ⟨c, y, m, hc, hy, hm', hvy, hx'⟩ := all v hv
          have iy := h.mp _ (List.mem_of_getElem? hy)
          have es := hf y m iy hm' (by rw [← hx', ← hvy, e2, this])
          rw [hx', es] at hfo
          have := nd_inj h.nd hy hfo
          omega
        · intro v hv
          rcases List.mem_append.mp hv with z | z
          · obtain ⟨c, y, m, hc, hy, hm', hvy, hx'⟩ := all v z
            exact ⟨c, y, m, by omega, hy, hm', hvy, hx'⟩
          · have : v = f (comp x ms[l]) := by simpa using z
            exact ⟨_, _, List.range n, Nat.le_refl _, hfo, isMap_range n, this, (comp_one (isMap_comp ix im)).symm⟩
theorem Tab.short (h : Tab n ms found words table) (g : Good table ms.length) (hn : n ≤ 4) (hms : ∀ m ∈ ms, IsMap n m) : ∀ w ∈ wordsOf (scanRows 0 table []), w.length ≤ 63 := by
  intro w hw
  obtain ⟨k, hk⟩ := List.getElem?_of_mem hw
  have hkl : k < (scanRows 0 table []).length + 1 := by rw [← wordsOf_len]; exact (List.getElem?_eq_some_iff.mp hk).1
  obtain ⟨f, f1, f2⟩ := tell hn
  obtain ⟨w', x, vs, h1, h2, h3, h4, h5⟩ := h.chain g hms f2 _ _ rfl [] (by simp) k hkl
  rw [hk] at h1
  cases h1
  have := nodup_below 64 vs h4 fun v hv => by
    obtain ⟨c, y, m, hc, hy, hm', hv', hx'⟩ := h5 v hv
    rw [hv']
    exact f1 y (h.mp _ (List.mem_of_getElem? hy))
  omega
end
end Mt

namespace My
open PySem L2 SL Mt Mx LamX
local macro_rules | `(tactic| walk_at "e1") => `(tactic| first
  | with_reducible refine nx_seq ?_ | with_reducible refine rn_seq ?_
  | with_reducible refine rn_set ?_ | with_reducible refine rn_ret ?_ | with_reducible refine rn_if ?_ | with_reducible refine rn_drop ?_ | with_reducible refine rn_next ?_
  | with_reducible refine ev_int ?_ | with_reducible refine ev_str ?_ | with_reducible refine ev_bl ?_ | with_reducible refine ev_non ?_
  | ((with_reducible refine' ev_fz ?vv ?_); (case vv => exact rfl))
  | ((with_reducible refine' ev_ol ?vv ?_); (case vv => exact rfl))
  | ((with_reducible refine' ev_al ?vv ?_); (case vv => exact rfl))
  | with_reducible refine ev_op ?_ | with_reducible refine ev_un ?_
  | with_reducible refine o_int ?_ | with_reducible refine o_bl ?_ | with_reducible refine u_int ?_
  | with_reducible refine o_eqI ?_ | with_reducible refine o_neI ?_ | with_reducible refine o_eqS ?_ | with_reducible refine o_neS ?_
  | with_reducible refine ev_isi ?_ | with_reducible refine ev_isi2 ?_ | with_reducible refine ev_cb ?_ | with_reducible refine a_one ?_ | with_reducible refine a_cons ?_ | with_reducible refine a_nil ?_
  | with_reducible refine b_abs ?_ | with_reducible refine b_int ?_ | with_reducible refine b_intb ?_
  | with_reducible refine b_lenL ?_ | with_reducible refine b_lenT ?_
  | with_reducible refine b_tupO ?_ | with_reducible refine b_tupL ?_ | with_reducible refine b_tupT ?_ | with_reducible refine t_yes ?_ | with_reducible refine iteT ?_ | with_reducible refine iteF ?_
  | with_reducible refine t_test ?_ | with_reducible refine t_B ?_ | with_reducible refine t_not ?_ | with_reducible refine t_and ?_ | with_reducible refine t_or ?_
  | with_reducible refine ev_lst ?_ | with_reducible refine ev_tup ?_ | with_reducible refine ev_callM ?_ | with_reducible refine ev_callF ?_ | with_reducible refine rn_setL ?_ | with_reducible refine rn_setDT ?_ | with_reducible refine rn_asg ?_ | ((with_reducible refine' ga_tup ?vv ?_); (case vv => exact rfl)) | with_reducible refine gas_nil ?_ | ((with_reducible refine' gas_name ?vv ?_); (case vv => exact rfl)) | ((with_reducible refine' rn_asgN ?vv ?_); (case vv => exact rfl))
  | with_reducible refine rn_par3 ?_ | with_reducible refine rn_par ?_ | with_reducible refine ev_tupRg ?_ | with_reducible refine ev_listRg ?_ | with_reducible refine ev_disp1T ?_ | with_reducible refine ev_dgetT ?_ | with_reducible refine ev_dnotinT ?_
  | with_reducible refine ev_append ?_ | with_reducible refine ev_extend ?_ | with_reducible refine ev_reverse ?_ | with_reducible refine ev_revL ?_
  | with_reducible refine ev_chain ?_ | with_reducible refine ev_and ?_ | with_reducible refine ev_or ?_ | with_reducible refine ev_not ?_ | with_reducible refine ev_if ?_
  | ((with_reducible refine' ev_oi ?vv ?_); (case vv => exact rfl)) | ((with_reducible refine' ev_ot ?vv ?_); (case vv => exact rfl)) | ((with_reducible refine' ev_od ?vv ?_); (case vv => exact rfl))
  | refine ⟨_, rfl, ?_⟩)
local macro_rules | `(tactic| walk_at "ev") => `(tactic| repeat (walk_at "e1"))

/-- a drawn monoid and what the law has found of it -/
structure Drawn (n : Nat) (ms found : List (List Nat)) (words : List Str) (t : List (List Nat)) : Prop where
  tab : Tab n ms found words t
  n4 : n ≤ 4
  l1 : 1 ≤ ms.length
  l6 : ms.length ≤ 6
  maps : ∀ m ∈ ms, IsMap n m
theorem Drawn.good {n : Nat} {ms found : List (List Nat)} {words : List Str} {t : List (List Nat)} (d : Drawn n ms found words t) : Good t ms.length := d.tab.good d.n4 d.maps d.l1 d.l6
theorem Drawn.few {n : Nat} {ms found : List (List Nat)} {words : List Str} {t : List (List Nat)} (d : Drawn n ms found words t) : found.length ≤ 256 := maps_few d.n4 d.tab.nd d.tab.mp
def layD (ms : List (List Nat)) (n : Nat) (p : List Nat) : PyData := .tuple [.str (strP p), tupN (doP ms (List.range n) p)]
def longK (L : Nat) (l : List (List Nat)) (k : Nat) : List (List Nat) := (l.take k).flatMap fun p => (List.range L).map fun x => p ++ [x]
theorem longK_snoc {L : Nat} {l : List (List Nat)} {k : Nat} {p : List Nat} (h : l[k]? = some p) : longK L l (k + 1) = longK L l k ++ (List.range L).map fun x => p ++ [x] := by
  unfold longK
  rw [List.take_succ, h, List.flatMap_append]
  simp
theorem longK_len (L : Nat) : ∀ (l : List (List Nat)) (k : Nat), (longK L l k).length ≤ l.length * L
  | _, 0 => by simp [longK]
  | [], k + 1 => by simp [longK]
  | p :: l, k + 1 => by
    have h := longK_len L l k
    have e : longK L (p :: l) (k + 1) = ((List.range L).map fun x => p ++ [x]) ++ longK L l k := rfl
    rw [e, List.length_append, List.length_map, List.length_range, List.length_cons, Nat.succ_mul]
    omega
def bestK (t : List (List Nat)) (l : List (List Nat)) (k : Nat) : List (List Nat) := (l.take k).filter (badB t)
theorem bestK_snoc {t l : List (List Nat)} {k : Nat} {p : List Nat} (h : l[k]? = some p) : bestK t l (k + 1) = bestK t l k ++ (if badB t p then [p] else []) := by
  unfold bestK
  rw [List.take_succ, h, List.filter_append]
  congr 1
  cases hb : badB t p <;> simp [hb]
theorem byP_len {t : List (List Nat)} {L : Nat} : ∀ (i : Nat), (∀ k, k ≤ i → L ^ k ≤ 300) → (byP t L i).length ≤ i * 300
  | 0, _ => by simp [byP]
  | i + 1, h => by
    have h1 := byP_len (t := t) i (fun k hk => h k (by omega))
    have h2 : ((allW L (i + 1)).filter (badB t)).length ≤ 300 := Nat.le_trans (List.length_filter_le _ _) (by rw [allW_len]; exact h _ (Nat.le_refl _))
    rw [byP_snoc, List.length_append, Nat.succ_mul]
    omega
theorem eqv_nilL (ds : List PyData) : PyData.eqv (.list ds) (.list []) = ds.isEmpty := by
  cases ds <;> simp [PyData.eqv, PyData.eqvAll]
def outK (t : List (List Nat)) (l : List (List Nat)) (k : Nat) : List (List Nat) := (l.take k).filter fun x => !decide (isW t x)
theorem outK_snoc {t l : List (List Nat)} {k : Nat} {p : List Nat} (h : l[k]? = some p) : outK t l (k + 1) = outK t l k ++ (if isW t p then [] else [p]) := by
  unfold outK
  rw [List.take_succ, h, List.filter_append]
  congr 1
  by_cases hb : isW t p <;> simp [hb]
theorem out_bad {t : List (List Nat)} {L : Nat} (g : Good t L) {p : List Nat} (hp : ∀ l ∈ p, l < L) (h0 : p ≠ []) (hw : ¬ isW t p) : (outK t (partsN p p.length) (partsN p p.length).length).isEmpty = badB t p := by
  unfold outK badB
  rw [List.take_length, decide_eq_false hw, Bool.not_false, Bool.true_and]
  have h := parts_word g hp h0
  by_cases hh : isW t p.dropLast ∧ isW t p.tail
  · rw [decide_eq_true hh.1, decide_eq_true hh.2, Bool.and_self, List.isEmpty_iff, List.filter_eq_nil_iff]
    intro x hx
    simp [h.mpr hh x hx]
  · have e : (decide (isW t p.dropLast) && decide (isW t p.tail)) = false := by
      rw [← Bool.decide_and]
      exact decide_eq_false hh
    rw [e, Bool.eq_false_iff]
    intro z
    rw [List.isEmpty_iff, List.filter_eq_nil_iff] at z
    exact hh (h.mp fun x hx => by simpa using z x hx)
theorem parts_lt {L : Nat} {p x : List Nat} (hp : ∀ l ∈ p, l < L) (hx : x ∈ partsN p p.length) : ∀ l ∈ x, l < L := fun l hl => by
  obtain ⟨b, e, _, _, _, _, rfl⟩ := mem_parts.mp hx
  exact hp l (List.mem_of_mem_drop (List.mem_of_mem_take hl))
theorem any_words {t : List (List Nat)} {L : Nat} (g : Good t L) {x : List Nat} (hx : ∀ l ∈ x, l < L) : (((wordsOf (scanRows 0 t [])).map strS).any fun e => PyData.eqv e (.str (strP x))) = decide (isW t x) := by
  rw [List.any_map]
  have h1 := mem_words g hx
  by_cases h : isW t x
  · rw [decide_eq_true h, List.any_eq_true]
    exact ⟨_, h1.mpr h, by simp [strS, PyData.eqv]⟩
  · rw [decide_eq_false h, Bool.eq_false_iff]
    intro z
    obtain ⟨y, hy, hz⟩ := List.any_eq_true.mp z
    have e : y = strP x := by simpa [strS, PyData.eqv] using hz
    exact h (h1.mp (by rw [← e]; exact hy))
theorem lay_strP {L : Nat} (h6 : L ≤ 6) {x : List Nat} (hx : ∀ l ∈ x, l < L) : (PyData.str (strP x)).canLay0 = true := by
  simp only [PyData.canLay0]
  show ((x.map (97 + ·)).toArray).all _ = true
  rw [← Array.all_toList, List.all_eq_true]
  intro c hc
  obtain ⟨l, hl, rfl⟩ := List.mem_map.mp (by simpa using hc : c ∈ x.map (97 + ·))
  have := hx l hl
  exact decide_eq_true (by omega)
theorem shaped_strP {L : Nat} (h6 : L ≤ 6) {x : List Nat} (hx : ∀ l ∈ x, l < L) : SeqAt.shaped (.str (strP x)) = true := shaped_of (lay_strP h6 hx) (by simp [PyData.depth])
theorem lay_strPs {L : Nat} (h6 : L ≤ 6) (l : List (List Nat)) (h : ∀ x ∈ l, ∀ m ∈ x, m < L) : (PyData.list (l.map fun x => .str (strP x))).canLay0 = true := lay_list fun d hd => by
  obtain ⟨x, hx, rfl⟩ := List.mem_map.mp hd
  exact lay_strP h6 (h x hx)
theorem shaped_strPs {L : Nat} (h6 : L ≤ 6) (l : List (List Nat)) (h : ∀ x ∈ l, ∀ m ∈ x, m < L) : SeqAt.shaped (.list (l.map fun x => .str (strP x))) = true := shaped_of (lay_strPs h6 l h) (Nat.le_trans (dep_list (k := 0) fun d hd => by
  obtain ⟨x, hx, rfl⟩ := List.mem_map.mp hd
  exact Nat.le_refl _) (by decide))
theorem shaped_words {t : List (List Nat)} {L : Nat} (g : Good t L) (h6 : L ≤ 6) : SeqAt.shaped (.list ((wordsOf (scanRows 0 t [])).map strS)) = true := by
  have e : (wordsOf (scanRows 0 t [])).map strS = ((List.range t.length).map (pathOf t)).map fun x => PyData.str (strP x) := by
    rw [words_all g, List.map_map, List.map_map]
    rfl
  rw [e]
  refine shaped_strPs h6 _ fun x hx => ?_
  obtain ⟨k, hk, rfl⟩ := List.mem_map.mp hx
  exact (g.path (List.mem_range.mp hk)).2
def Wby : WF := fun as post => ∃ (n : Nat) (ms found : List (List Nat)) (words : List Str) (t : List (List Nat)) (most : Nat), as = [.list (ms.map tupN), .list (found.map tupN), .list (words.map strS), intN most] ∧ Drawn n ms found words t ∧ most ≤ 8 ∧ (∀ k, k ≤ most → ms.length ^ k ≤ 300) ∧
  ∀ q, post (.ol q ((byP t ms.length most).map (pairD t)))
section
variable {P : Program} {w : World} {K : PySem.W.Frag} {mg : Str → Option Value} {base : Heap}
abbrev s_law_by_words : Stmt := top 26
abbrev N_law_by_words : List Str := ["_law_rows", "_law_found", "_law_words", "_law_most", "_law_layer", "_law_pairs", "_law_numbers", "_law_turn", "_law_longer", "_law_word", "_law_images", "_law_letter", "_law_row", "_law_least", "_law_image", "_law_part"]
theorem sc_law_by_words : FnScope N_law_by_words ["_law_rows", "_law_found", "_law_words", "_law_most"] (defScope s_law_by_words) := ⟨rfl, rfl, rfl, by decide +kernel, rfl, by decide +kernel, by decide +kernel⟩

set_option maxHeartbeats 2000000 in
theorem ok_by_words {f : Addr} {fd : FuncData} (Fn : Fun K "_law_by_words" "_law_by_words" s_law_by_words f fd) (B : Bt mg) (f_law_parts : Cal P w K mg base 1 "_law_parts" (SpF K Wparts)) : FnOk P w K mg base CX0 2 f fd ["_law_rows", "_law_found", "_law_words", "_law_most"] (SpF K Wby) := by
  refine Fn.ok sc_law_by_words (fun vs H Q E h => ?_) (fun cdv A outer s H vs Q E hr h => ?_)
  · obtain ⟨G, ds, post, _, da, ⟨n, ms, found, words, t, most, rfl, _⟩, _⟩ := h
    exact DpAll.len da
  · refine ⟨_, (pss_cons (ps_par3 rfl sc_law_by_words.nd (i := 4) (j := 5) (l := 6) rfl rfl rfl (by decide) (by decide) (by decide) rfl rfl rfl (pa_cons (pe_lst (pa_cons (pe_tup (pa_cons pe_str (pa_cons (pe_ix (ix_list' K) (pv 1) pe_int (fun _ _ => rfl)) pa_nil))) pa_nil)) (pa_cons (pe_lst pa_nil) (pa_cons (pe_dzip' K rfl hr.units rfl B.b_dict rfl B.b_zip (pv 1) (prg_1 rfl B.b_range (pe_callB (call_len_seq' K) rfl B.b_len (by decide +kernel) (pa_cons (pv 1) pa_nil)))) pa_nil))) rfl)
 (pss_cons (ps_for PassesOwn.never rfl (pi_range1 rfl B.b_range (pa_cons (pv 3) pa_nil)) (pg_name (i := 7) sc_law_by_words.nd rfl (Or.inl rfl)) (pss_cons (ps_set (i := 8) sc_law_by_words.nd rfl (Or.inl rfl) (pe_lst pa_nil))
 (pss_cons (ps_for PassesOwn.never rfl (pi_list' K (pv 4)) (pg_tup' K (n := 2) rfl (pgs_cons (pg_name (i := 9) sc_law_by_words.nd rfl (Or.inl rfl)) (pgs_cons (pg_name (i := 10) sc_law_by_words.nd rfl (Or.inl rfl)) pgs_nil))) (pss_one (ps_for PassesOwn.never rfl (pi_zz' K rfl B.b_zip (pa_cons pe_str (pa_cons (pv 0) pa_nil))) (pg_tup' K (n := 2) rfl (pgs_cons (pg_name (i := 11) sc_law_by_words.nd rfl (Or.inl rfl)) (pgs_cons (pg_name (i := 12) sc_law_by_words.nd rfl (Or.inr rfl)) pgs_nil))) (pss_one (ps_expr (pe_bm' K PySem.F.plainAttrs_list PySem.F.slot_list_append PySem.F.type_list_append mt_append (pv 8) (pa_cons (pe_tup (pa_cons (pe_op op_add_str (pv 9) (pv 11)) (pa_cons (pe_callTy (call_tuple_of' K) rfl B.b_tuple (by decide +kernel) (pa_cons (pe_lcv [14] (pe_lc (own := [("_law_image", 14)]) (g := gName 14) (tt := tYes) rfl sc_law_by_words.nd (pi_tup' K (pv 10)) (blkOk_by (own := [("_law_image", 14)]) (N := N_law_by_words) (by kernel_rfl)) (fun _ _ _ _ _ => pg_name (i := 14) sc_law_by_words.nd rfl (Or.inl rfl)) (fun _ _ _ _ _ => pts_nil) (fun _ _ _ _ _ => (pe_ix (ix_tup' K) (pv 12) (pv 14) (fun _ _ => rfl))))) pa_nil)) pa_nil))) pa_nil)))))))
 (pss_cons (ps_for PassesOwn.never rfl (pi_list' K (pv 8)) (pg_tup' K (n := 2) rfl (pgs_cons (pg_name (i := 9) sc_law_by_words.nd rfl (Or.inl rfl)) (pgs_cons (pg_name (i := 10) sc_law_by_words.nd rfl (Or.inl rfl)) pgs_nil))) (pss_cons (ps_set (i := 13) sc_law_by_words.nd rfl (Or.inl rfl) (pe_ix (ix_list' K) (pv 2) (pe_dget hr.u1 (pv 6) (pv 10) (fun _ _ => rfl)) (fun _ _ => rfl)))
 (pss_one (ps_if (PW.pt (pw_and (pt_cmpR op_ne (pv 13) (pv 9) (nomark _)) (pw_and1 (pt_cmpR (op_eqD' K hr.units) (pe_lcv [15] (pe_lc (own := [("_law_part", 15)]) (g := gName 15)  rfl sc_law_by_words.nd (pi_list' K (pe_c f_law_parts hr (by decide) rfl (pa_cons (pv 9) pa_nil))) (blkOk_by (own := [("_law_part", 15)]) (N := N_law_by_words) (by kernel_rfl)) (fun _ _ _ _ _ => pg_name (i := 15) sc_law_by_words.nd rfl (Or.inl rfl)) (fun _ _ _ _ _ => (pts_one (pt_cmpR (op_notInD' K hr.u65) (pv 15) (pv 2) (rfl)))) (fun _ _ _ _ _ => (pv 15)))) (pe_lst pa_nil) (nomark _))))) (pss_one (ps_expr (pe_bm' K PySem.F.plainAttrs_list PySem.F.slot_list_append PySem.F.type_list_append mt_append (pv 5) (pa_cons (pe_tup (pa_cons (pv 9) (pa_cons (pv 13) pa_nil))) pa_nil)))) pss_nil))))
 (pss_one (ps_set (i := 4) sc_law_by_words.nd rfl (Or.inl rfl) (pv 8)))))))
 (pss_one (ps_ret (pv 5))))), bodyF h fun F ds post hK hio hW ret => ?_⟩
    subst hK
    obtain ⟨n, ms, found, words, t, most, rfl, D, h8, hL, k⟩ := hW
    have g := D.good
    have h1 := D.l1
    have h6 := D.l6
    have hf := D.few
    have htl := D.tab.tl
    have hwd := D.tab.wd
    subst hwd
    show Rn F _ [.fz (.list (ms.map tupN)), .fz (.list (found.map tupN)), .fz (.list ((wordsOf (scanRows 0 t [])).map strS)), .fz (intN most), .no, .no, .no, .no, .no, .no, .no, .no, .no, .no, .no, .no] _
    walk_at "ev"
    refine o_ixL (ds := found.map tupN) (atI_nat (j := 0) (map_get D.tab.one)) ?_
    refine ⟨[_, _], rfl, (by show 2 ≤ sizeLine; decide), [_], rfl, (by show 1 ≤ sizeLine; decide), fun p4 q4 => ?_⟩
    walk_at "ev"
    refine ⟨[], rfl, (by show 0 ≤ sizeLine; decide), fun p5 q5 => ?_⟩
    refine a_one (ev_dzip ?_)
    walk_at "ev"
    have ekn : found.map tupN = (found.map keyN).map fun k => PyData.tuple (k.map keyD) := by
      rw [List.map_map]
      exact List.map_congr_left fun y _ => tupN_key y
    refine ⟨(found.map tupN).length, found.map keyN, rfl, by rw [ekn]; exact .fz, by simp, ?_, by rw [List.length_map]; omega, fun p6 q6 => ?_⟩
    · refine List.Pairwise.map keyN ?_ D.tab.nd
      intro a b hab e
      exact hab (keyN_inj e)
    have ekv : ((found.map keyN).zipIdx.map fun p => (p.1, PyData.int (p.2 : Int))) = kvsOf found := by
      unfold kvsOf
      rw [List.zipIdx_map, List.map_map]
      rfl
    rw [ekv]
    refine ⟨_, _, _, _, _, _, rfl, rfl, rfl, rfl, ?_⟩
    refine Nx.freezeS (i := 4) rfl q4 ?_
    have hlay0 : PyData.tuple [.str "", tupN (List.range n)] = layD ms n [] := rfl
    show Nx F _ [.fz (.list (ms.map tupN)), .fz (.list (found.map tupN)), .fz (.list ((wordsOf (scanRows 0 t [])).map strS)), .fz (intN most), .fz (.list ((allW ms.length 0).map (layD ms n))), .ol p5 ((byP t ms.length 0).map (pairD t)), .ot p6 (kvsOf found), .no, .no, .no, .no, .no, .no, .no, .no, .no]
    refine nx_seq (rn_seq (rn_for (iw_range1 ?_)))
    walk_at "ev"
    refine ⟨by omega, by omega, fun i δ' => ∃ (s7 s8 s9 s10 s11 s12 s13 : SD), δ' = [.fz (.list (ms.map tupN)), .fz (.list (found.map tupN)), .fz (.list ((wordsOf (scanRows 0 t [])).map strS)), .fz (intN most), .fz (.list ((allW ms.length i).map (layD ms n))), .ol p5 ((byP t ms.length i).map (pairD t)), .ot p6 (kvsOf found), s7, s8, s9, s10, s11, s12, s13, .no, .no], ⟨_, _, _, _, _, _, _, rfl⟩, ?_, ?_⟩
    · rintro F1 i d δ' N hle hd ⟨s7, s8, s9, s10, s11, s12, s13, rfl⟩ hN
      rw [← hle.k]
      have hdi : d = intN i := range_item hd
      subst hdi
      have him : i < most := by
        have := (List.getElem?_eq_some_iff.mp hd).1
        rw [rangeD_len] at this
        omega
      have hai : (allW ms.length i).length ≤ 300 := by rw [allW_len]; exact hL i (by omega)
      walk_at "ev"
      refine ⟨[], rfl, (by show 0 ≤ sizeLine; decide), fun p8 q8 => ⟨_, rfl, ?_⟩⟩
      refine nx_seq ?_
      refine rn_seq (rn_for (iw_list ?_))
      walk_at "ev"
      refine ⟨fun j δ' => ∃ (s9 s10 s11 s12 : SD), δ' = [.fz (.list (ms.map tupN)), .fz (.list (found.map tupN)), .fz (.list ((wordsOf (scanRows 0 t [])).map strS)), .fz (intN most), .fz (.list ((allW ms.length i).map (layD ms n))), .ol p5 ((byP t ms.length i).map (pairD t)), .ot p6 (kvsOf found), .fz (intN i), .ol p8 ((longK ms.length (allW ms.length i) j).map (layD ms n)), s9, s10, s11, s12, s13, .no, .no], ⟨s9, s10, s11, s12, rfl⟩, ?_, ?_⟩
      · rintro F2 j d2 δ' N2 hle2 hd2 ⟨s9, s10, s11, s12, rfl⟩ hN2
        rw [← hle2.k]
        obtain ⟨p, hp, rfl⟩ := map_item hd2
        obtain ⟨hpl, hpL⟩ := mem_allW.mp (List.mem_of_getElem? hp)
        have hlk := longK_snoc (L := ms.length) hp
        have hll := longK_len ms.length (allW ms.length i) j
        have hx : IsMap n (doP ms (List.range n) p) := (doP_comp D.maps p _ (isMap_range n) hpL).2
        have h300 : (allW ms.length i).length * ms.length ≤ 300 * 6 := Nat.mul_le_mul hai h6
        unfold layD
        walk_at "ev"
        show Rn F2 _ [.fz (.list (ms.map tupN)), .fz (.list (found.map tupN)), .fz (.list ((wordsOf (scanRows 0 t [])).map strS)), .fz (intN most), .fz (.list ((allW ms.length i).map (layD ms n))), .ol p5 ((byP t ms.length i).map (pairD t)), .ot p6 (kvsOf found), .fz (intN i), .ol p8 ((longK ms.length (allW ms.length i) j).map (layD ms n)), .fz (.str (strP p)), .fz (tupN (doP ms (List.range n) p)), s11, s12, s13, .no, .no] _
        refine rn_for (iw_zip ?_)
        walk_at "ev"
        refine ⟨_, _, signsD "abcdef", ms.map tupN, rfl, rfl, rfl, fun l δ' => ∃ (s11 s12 : SD), δ' = [.fz (.list (ms.map tupN)), .fz (.list (found.map tupN)), .fz (.list ((wordsOf (scanRows 0 t [])).map strS)), .fz (intN most), .fz (.list ((allW ms.length i).map (layD ms n))), .ol p5 ((byP t ms.length i).map (pairD t)), .ot p6 (kvsOf found), .fz (intN i), .ol p8 ((longK ms.length (allW ms.length i) j ++ (List.range l).map fun x => p ++ [x]).map (layD ms n)), .fz (.str (strP p)), .fz (tupN (doP ms (List.range n) p)), s11, s12, s13, .no, .no], ⟨s11, s12, by simp⟩, ?_, ?_⟩
        · rintro F3 l d3 δ' N3 hle3 hd3 ⟨s11, s12, rfl⟩ hN3
          rw [← hle3.k]
          have hl : l < ms.length := by
            have := (List.getElem?_eq_some_iff.mp hd3).1
            rw [zip_items h6] at this
            exact this
          have hml := List.getElem?_eq_getElem hl
          rw [zip_get h6 hml] at hd3
          obtain rfl := (Option.some.inj hd3).symm
          have hmm : IsMap n ms[l] := D.maps _ (List.getElem_mem _)
          have hmd : ms.getD l [] = ms[l] := by rw [List.getD_eq_getElem?_getD, hml]; rfl
          have edo : doP ms (List.range n) (p ++ [l]) = comp (doP ms (List.range n) p) ms[l] := by rw [← hmd]; simp [doP, List.foldl_append]
          walk_at "ev"
          refine ⟨p8, 8, _, rfl, rfl, ?_⟩
          walk_at "ev"
          refine o_addS (Nat.le_trans (show (strP p).length + (letS l).length ≤ 5000 by rw [strP_len]; show _ + 1 ≤ 5000; omega) (by decide)) ?_
          rw [← strP_snoc]
          refine a_one (ev_cb (a_one (ev_lc (iw_tup ?_))))
          walk_at "ev"
          refine ⟨rfl, by rw [List.length_map, hx.1]; have := D.n4; omega, fun q acc δ' => acc = ((doP ms (List.range n) p).take q).map (fun y => intN (ms[l].getD y 0)) ∧ δ' = [.fz (.list (ms.map tupN)), .fz (.list (found.map tupN)), .fz (.list ((wordsOf (scanRows 0 t [])).map strS)), .fz (intN most), .fz (.list ((allW ms.length i).map (layD ms n))), .ol p5 ((byP t ms.length i).map (pairD t)), .ot p6 (kvsOf found), .fz (intN i), .ol p8 ((longK ms.length (allW ms.length i) j ++ (List.range l).map fun x => p ++ [x]).map (layD ms n)), .fz (.str (strP p)), .fz (tupN (doP ms (List.range n) p)), .fz (.str (letS l)), .fz (tupN ms[l]), s13, .no, .no], ⟨rfl, rfl⟩, ?_, ?_, ?_⟩
          · rintro q acc δ' ⟨rfl, rfl⟩
            refine ⟨rfl, ?_⟩
            rw [List.length_map, List.length_take]
            omega
          · rintro F4 q d4 acc δ' hle4 hd4 ⟨rfl, rfl⟩
            rw [← hle4.k]
            obtain ⟨y, hy, rfl⟩ := map_item hd4
            have hyn := hx.2 y (List.mem_of_getElem? hy)
            have hyl : y < ms[l].length := by rw [hmm.1]; exact hyn
            have hgy : ms[l][y]? = some (ms[l].getD y 0) := by rw [List.getD_eq_getElem?_getD, List.getElem?_eq_getElem hyl]; rfl
            walk_at "ev"
            refine o_ixT (ds := ms[l].map intN) (atI_nat (j := y) (map_get hgy)) ?_
            refine ⟨_, rfl, _, rfl, ?_, rfl⟩
            rw [List.take_succ, hy, List.map_append]
            rfl
          · rintro acc δ' q3 hq3 ⟨rfl, rfl⟩
            refine b_tupO ?_
            have etk : PyData.tuple (((doP ms (List.range n) p).take ((doP ms (List.range n) p).map intN).length).map (fun y => intN (ms[l].getD y 0))) = tupN (doP ms (List.range n) (p ++ [l])) := by
              rw [List.length_map, List.take_length, edo]
              unfold tupN comp
              rw [List.map_map]
              rfl
            rw [etk]
            refine ⟨[_, _], rfl, (by show 2 ≤ sizeLine; decide), _, _, rfl, rfl, ?_, ?_⟩
            · rw [List.length_map, List.length_append, List.length_map, List.length_range]
              omega
            · refine hN3 _ ⟨.fz (.str (letS l)), .fz (tupN ms[l]), ?_⟩
              have e : (longK ms.length (allW ms.length i) j ++ (List.range (l + 1)).map fun x => p ++ [x]).map (layD ms n) = (longK ms.length (allW ms.length i) j ++ (List.range l).map fun x => p ++ [x]).map (layD ms n) ++ [PyData.tuple [.str (strP (p ++ [l])), tupN (doP ms (List.range n) (p ++ [l]))]] := by
                rw [List.range_succ, List.map_append (l₁ := List.range l), ← List.append_assoc, List.map_append (l₁ := longK ms.length (allW ms.length i) j ++ _)]
                rfl
              rw [e]
              rfl
        · rintro δ' ⟨s11, s12, rfl⟩
          rw [zip_items h6, ← hlk]
          refine hN2 _ ⟨.fz (.str (strP p)), .fz (tupN (doP ms (List.range n) p)), s11, s12, ?_⟩
          rfl
      · rintro δ' ⟨s9, s10, s11, s12, rfl⟩
        have elk : longK ms.length (allW ms.length i) ((allW ms.length i).map (layD ms n)).length = allW ms.length (i + 1) := by
          unfold longK
          rw [List.length_map, List.take_length]
          rfl
        rw [elk]
        refine nx_seq ?_
        refine Rn.freezeS (i := 8) rfl q8 ?_
        have hai1 : (allW ms.length (i + 1)).length ≤ 300 := by rw [allW_len]; exact hL (i + 1) (by omega)
        have hby := byP_len (t := t) i (fun k hk => hL k (by omega))
        refine rn_seq (rn_for (iw_list ?_))
        walk_at "ev"
        refine ⟨fun j δ' => ∃ (s9 s10 s13 : SD), δ' = [.fz (.list (ms.map tupN)), .fz (.list (found.map tupN)), .fz (.list ((wordsOf (scanRows 0 t [])).map strS)), .fz (intN most), .fz (.list ((allW ms.length i).map (layD ms n))), .ol p5 ((byP t ms.length i ++ bestK t (allW ms.length (i + 1)) j).map (pairD t)), .ot p6 (kvsOf found), .fz (intN i), .fz (.list ((allW ms.length (i + 1)).map (layD ms n))), s9, s10, s11, s12, s13, .no, .no], ⟨s9, s10, s13, by simp [bestK]⟩, ?_, ?_⟩
        · clear s9 s10 s13
          rintro F2 j d2 δ' N2 hle2 hd2 ⟨s9, s10, s13, rfl⟩ hN2
          rw [← hle2.k]
          obtain ⟨p, hp, rfl⟩ := map_item hd2
          obtain ⟨hpl, hpL⟩ := mem_allW.mp (List.mem_of_getElem? hp)
          have hbk := bestK_snoc (t := t) hp
          have hbl : (bestK t (allW ms.length (i + 1)) j).length ≤ 300 := Nat.le_trans (List.length_filter_le _ _) (by rw [List.length_take]; omega)
          have hfo := D.tab.act p 0 _ D.tab.one hpL
          have hal := act0_lt g hpL
          have hwo := word_strP g hal
          unfold layD
          walk_at "ev"
          refine ⟨keyN (doP ms (List.range n) p), 6, kvsOf found, intN (act t 0 p), by rw [tupN_key], rfl, look_some D.tab.nd hfo, ?_⟩
          refine o_ixL (atI_nat (j := act t 0 p) (map_get (f := strS) hwo)) ?_
          refine ⟨_, rfl, nx_seq ?_⟩
          have hpne : p ≠ [] := by intro z; subst z; simp at hpl
          show Rn F2 _ [.fz (.list (ms.map tupN)), .fz (.list (found.map tupN)), .fz (.list ((wordsOf (scanRows 0 t [])).map strS)), .fz (intN most), .fz (.list ((allW ms.length i).map (layD ms n))), .ol p5 ((byP t ms.length i ++ bestK t (allW ms.length (i + 1)) j).map (pairD t)), .ot p6 (kvsOf found), .fz (intN i), .fz (.list ((allW ms.length (i + 1)).map (layD ms n))), .fz (.str (strP p)), .fz (tupN (doP ms (List.range n) p)), s11, s12, .fz (.str (strP (pathOf t (act t 0 p)))), .no, .no] _
          walk_at "ev"
          by_cases hw : isW t p
          · have hwd : strP (pathOf t (act t 0 p)) = strP p := by rw [show pathOf t (act t 0 p) = p from hw]
            have hbad : badB t p = false := by unfold badB; rw [decide_eq_true hw]; rfl
            rw [hbad] at hbk
            refine (if_neg (by simp [hwd])).mpr ?_
            refine (if_neg (by simp)).mpr ?_
            refine rn_next (hN2 _ ⟨.fz (.str (strP p)), .fz (tupN (doP ms (List.range n) p)), .fz (.str (strP (pathOf t (act t 0 p)))), ?_⟩)
            rw [hbk]
            simp
          · have hwd : ¬ strP (pathOf t (act t 0 p)) = strP p := fun z => hw (strP_inj z)
            refine (if_pos (by simp [hwd])).mpr ?_
            refine t_test (ev_op (SL.E.freeze (ev_lc (iw_listO (ev_callF ?_)))))
            walk_at "ev"
            refine ⟨[_], rfl, p, rfl, by omega, fun pq hpq => ⟨pq, _, hpq pq (by simp [SD.fp]), rfl, ?_⟩⟩
            have hpn := partsN_len p p.length
            have hpn2 : p.length * (p.length + 1) ≤ 9 * 10 := Nat.mul_le_mul (by omega) (by omega)
            refine ⟨rfl, by rw [List.length_map]; omega, fun kk acc δ' => acc = (outK t (partsN p p.length) kk).map (fun x => .str (strP x)) ∧ δ' = [.fz (.list (ms.map tupN)), .fz (.list (found.map tupN)), .fz (.list ((wordsOf (scanRows 0 t [])).map strS)), .fz (intN most), .fz (.list ((allW ms.length i).map (layD ms n))), .ol p5 ((byP t ms.length i ++ bestK t (allW ms.length (i + 1)) j).map (pairD t)), .ot p6 (kvsOf found), .fz (intN i), .fz (.list ((allW ms.length (i + 1)).map (layD ms n))), .fz (.str (strP p)), .fz (tupN (doP ms (List.range n) p)), s11, s12, .fz (.str (strP (pathOf t (act t 0 p)))), .no, .no], ⟨rfl, rfl⟩, ?_, ?_, ?_⟩
            · rintro kk acc δ' ⟨rfl, rfl⟩
              refine ⟨rfl, ?_⟩
              rw [List.length_map]
              exact Nat.le_trans (List.length_filter_le _ _) (by rw [List.length_take]; omega)
            · rintro F3 kk d3 acc δ' hle3 hd3 ⟨rfl, rfl⟩
              rw [← hle3.k]
              obtain ⟨x, hx, rfl⟩ := map_item hd3
              have hxm := List.mem_of_getElem? hx
              have hxl := parts_lt hpL hxm
              have hok := outK_snoc (t := t) hx
              walk_at "ev"
              refine o_notinD .fz (shaped_strP h6 hxl) (shaped_words g h6) ?_
              rw [any_words g hxl]
              refine ⟨_, rfl, ?_⟩
              by_cases hxw : isW t x
              · rw [if_pos hxw, List.append_nil] at hok
                rw [decide_eq_true hxw]
                refine (if_neg (by simp)).mpr ?_
                exact ⟨_, rfl, by rw [hok], rfl⟩
              · rw [if_neg hxw] at hok
                rw [decide_eq_false hxw]
                refine (if_pos (by simp)).mpr ?_
                walk_at "ev"
                refine ⟨?_, rfl⟩
                rw [hok, List.map_append]
                rfl
            · rintro acc δ' q3 hq3 ⟨rfl, rfl⟩
              rw [List.length_map]
              refine ⟨q3, _, hq3, rfl, ?_⟩
              refine SL.E.freeze ?_
              walk_at "ev"
              refine ⟨[], rfl, (by show 0 ≤ sizeLine; decide), fun p9 q9 => ⟨p9, [], q9, rfl, ?_⟩⟩
              refine o_eqD (shaped_strPs h6 _ fun x hx => parts_lt hpL (List.mem_of_mem_take (List.mem_filter.mp hx).1)) (by decide) ?_
              rw [eqv_nilL, List.isEmpty_map, out_bad g hpL hpne hw]
              refine ⟨_, rfl, ?_⟩
              cases hb : badB t p with
              | false =>
                rw [hb] at hbk
                refine (if_neg (by simp)).mpr ?_
                refine rn_next (hN2 _ ⟨.fz (.str (strP p)), .fz (tupN (doP ms (List.range n) p)), .fz (.str (strP (pathOf t (act t 0 p)))), ?_⟩)
                rw [hbk]
                simp
              | true =>
                rw [hb, if_pos rfl] at hbk
                refine (if_pos rfl).mpr ?_
                walk_at "ev"
                refine ⟨p5, 5, _, rfl, rfl, ?_⟩
                walk_at "ev"
                refine ⟨[_, _], rfl, (by show 2 ≤ sizeLine; decide), _, _, rfl, rfl, by rw [List.length_map, List.length_append]; omega, ?_⟩
                refine hN2 _ ⟨.fz (.str (strP p)), .fz (tupN (doP ms (List.range n) p)), .fz (.str (strP (pathOf t (act t 0 p)))), ?_⟩
                rw [hbk, ← List.append_assoc, List.map_append (l₁ := byP t ms.length i ++ _)]
                rfl
        · rintro δ' ⟨s9, s10, s13, rfl⟩
          have ebk : bestK t (allW ms.length (i + 1)) ((allW ms.length (i + 1)).map (layD ms n)).length = (allW ms.length (i + 1)).filter (badB t) := by
            unfold bestK
            rw [List.length_map, List.take_length]
          rw [ebk, ← byP_snoc]
          refine nx_seq ?_
          walk_at "ev"
          refine hN _ ⟨.fz (intN i), .fz (.list ((allW ms.length (i + 1)).map (layD ms n))), s9, s10, s11, s12, s13, ?_⟩
          rfl
    · rintro δ' ⟨s7, s8, s9, s10, s11, s12, s13, rfl⟩
      refine nx_seq (rn_ret (ev_mv (i := 5) rfl (by simp) ?_))
      have e : (rangeD 0 (most : Int).toNat).length = most := by rw [rangeD_len]; omega
      rw [e]
      exact ret _ _ (k _)
end
end My

/-! SLo: list(a text), a text times a number, owned lists compared and asked for their class. -/
namespace L2
open PySem PySem.Spec PyProof.Rows
def signsV (z : Str) : List V := z.cps.toList.map fun c => .str ⟨#[c]⟩
def rListS : List V → Hp → VK → Prop := fun xs H Q => ∃ z : Str, xs = [.str z] ∧ z.length ≤ sizeLine ∧ ∀ p, H p = none → Q (.ref p) (upd H p (.lst (signsV z)))
theorem call_listS {X : Cx} (hc : X.calm = true) : CallR X (.type "list") rListS := by
  intro pins s σ H xs us Q I r h
  obtain ⟨z, rfl, hz, q⟩ := h
  obtain ⟨u, rfl, ru⟩ := vals1 r
  obtain ⟨t, rfl⟩ := ru
  refine call_list_str (I.ok.hd hc) z t (fun h' tk acc' c' hk hS' hacc => ?_) hz
  refine ⟨.ref s.heap.objs.size, _, I.laid (t' := tk) hk (Nat.le_refl _) (show ObjOk X.prog X.w _ h' _ (.lst (signsV z)) from ⟨?_, acc'.toList, c', ?_, by simpa using hS'⟩), rfl, q _ (I.hok.fresh (Nat.le_refl _))⟩
  · simp [signsV]; exact hz
  · have hl : (signsV z).length = acc'.toList.length := by simp [signsV, hacc.1]
    have : ∀ (ys : List V) (us : List Value), ys.length = us.length → (∀ (i : Nat) (y : V) (u : Value), ys[i]? = some y → us[i]? = some u → RelV y u) → Vals ys us := by
      intro ys
      induction ys with
      | nil => intro us h _; cases us with
        | nil => exact .nil
        | cons a b => simp at h
      | cons y ys ih => intro us h k; cases us with
        | nil => simp at h
        | cons a b => exact .cons (k 0 y a rfl rfl) (ih b (by simpa using h) fun i y' u' e1 e2 => k (i + 1) y' u' (by simpa using e1) (by simpa using e2))
    refine this _ _ hl fun i y u e1 e2 => ?_
    obtain ⟨c, t2, h1, rfl⟩ := hacc.2 i u (by simpa using e2)
    unfold signsV at e1
    rw [List.getElem?_map, Array.getElem?_toList, h1] at e1
    have : V.str ⟨#[c]⟩ = y := by simpa using e1
    subst this
    exact ⟨t2, rfl⟩
/-- so many times a text -/
def repS (z : Str) (n : Nat) : Str := ⟨(List.replicate n z.cps).foldl (· ++ ·) #[]⟩
theorem rep_size (a : Array Nat) : ∀ (n : Nat) (acc : Array Nat), ((List.replicate n a).foldl (· ++ ·) acc).size = acc.size + n * a.size
  | 0, acc => by simp
  | n + 1, acc => by
    rw [List.replicate_succ, List.foldl_cons, rep_size a n, Array.size_append, Nat.succ_mul]
    omega
theorem repS_len (z : Str) (n : Nat) : (repS z n).length = n * z.length := by
  have := rep_size z.cps n #[]
  simpa [repS, Str.length] using this
theorem rep_list (a : Array Nat) : ∀ (n : Nat) (acc : Array Nat), ((List.replicate n a).foldl (· ++ ·) acc).toList = acc.toList ++ (List.replicate n a.toList).flatten
  | 0, acc => by simp
  | n + 1, acc => by
    rw [List.replicate_succ, List.foldl_cons, rep_list a n, Array.toList_append, List.replicate_succ, List.flatten_cons, List.append_assoc]
theorem repS_cps (z : Str) (n : Nat) : (repS z n).cps.toList = (List.replicate n z.cps.toList).flatten := by
  have := rep_list z.cps n #[]
  simpa [repS] using this
def rMulS : R2 := fun x y H Q => ∃ (z : Str) (n : Nat), x = .str z ∧ y = .int (n : Int) ∧ 2 ≤ n ∧ n ≤ 10000 ∧ 1 ≤ z.length ∧ z.length ≤ 1000 ∧ Q (.str (repS z n)) H
theorem op_mulS {X : Cx} : OpR X (binaryOp .Mult) rMulS := by
  intro pins s σ H x y v u Q I rx ry h
  obtain ⟨z, n, rfl, rfl, h2, hn, h1, hz, q⟩ := h
  obtain ⟨t, rfl⟩ := rx
  obtain ⟨t', rfl⟩ := ry
  have hlen : z.length * n ≤ 10000000 := Nat.le_trans (Nat.mul_le_mul hz hn) (by decide)
  have e1 : ((n : Int) == 1 || z.length == 0) = false := by
    have a : ((n : Int) == 1) = false := by rw [beq_eq_false_iff_ne]; omega
    have b : (z.length == 0) = false := by rw [beq_eq_false_iff_ne]; omega
    rw [a, b]; rfl
  refine PySem.P.mul_str (by
    rw [decide_eq_false (by omega), decide_eq_false (by omega)]; rfl) (fun _ _ => ?_) (fun _ _ => ?_) ?_
  · have hn0 : (0 : Int) < (n : Int) := by omega
    have : ((2 : Int) ^ 63 - 1) / (n : Int) ≥ (2 ^ 63 - 1) / 10000 := by
      apply Int.le_ediv_of_mul_le hn0
      have : ((2 : Int) ^ 63 - 1) / 10000 * (n : Int) ≤ (2 ^ 63 - 1) / 10000 * 10000 := Int.mul_le_mul_of_nonneg_left (by omega) (by decide)
      exact Int.le_trans this (by decide)
    have h3 : ((2 : Int) ^ 63 - 1) / 10000 ≥ 1000 := by decide
    omega
  · unfold Builtin.Str.tooLong
    have : z.length * (n : Int).toNat ≤ sizeLine := Nat.le_trans (by simpa using hlen) (by decide)
    simp only [gt_iff_lt, decide_eq_false_iff_not]
    omega
  · rw [if_neg (by omega), e1]
    exact ⟨by
      show (repS z (n : Int).toNat).length ≤ sizeLine
      rw [repS_len]
      have : (n : Int).toNat * z.length ≤ 10000000 := by simpa [Nat.mul_comm] using hlen
      exact Nat.le_trans this (by decide), .str _, H, I.tok _, ⟨_, rfl⟩, q⟩
end L2
namespace SL
open PySem L2 Evl
section
variable {K : PySem.W.Frag} {F : Fm} {G G' H H' : Hp} {τ σ : List (Option V)} {ε δ : List SD} {v : V} {P : PV} {te ta tb td ty tv : TE} {tt : TT} {tr : TA}
theorem dp_signs (z : Str) : DpAll K G (signsV z) (signsD z) := by
  unfold signsV signsD
  induction z.cps.toList with
  | nil => exact .nil
  | cons c l ih => exact .cons (.str _) ih
theorem b_listS {z : Str} (hz : z.length ≤ sizeLine) (k : ∀ p, p ∉ F.io → P (.ol p (signsD z)) δ) : OA F rListS [.fz (.str z)] δ P := fun τ ε G H σ Q vs el s q => by
  obtain ⟨x, rfl⟩ := one_of el
  have hx := dp_str (fz_top s)
  subst hx
  refine ⟨z, rfl, hz, fun p hp => ?_⟩
  have hio : p ∉ F.io := fun z => by
    obtain ⟨o, e⟩ := s.w.io p z
    rw [hp] at e; cases e
  exact q _ _ δ G _ (k p hio) (Ex.refl _) (s.pop.newO hp rfl ⟨rfl, _, upd_same, dp_signs z⟩)
theorem o_mulS {z : Str} {n : Nat} (h2 : 2 ≤ n) (hn : n ≤ 10000) (h1 : 1 ≤ z.length) (hz : z.length ≤ 1000) (k : P (.fz (.str (repS z n))) δ) : O2 F rMulS (.fz (.str z)) (.fz (.int (n : Int))) δ P := fun τ ε G H σ Q x y s q =>
  ⟨z, n, dp_str (fz_top2 s), dp_int (fz_top s), h2, hn, h1, hz, q _ _ δ G H k (Ex.refl _) (s.pop2.push rfl (.str _))⟩
/-- an owned list is compared -/
theorem o_neA {p : Addr} {j : Nat} {ds : List PyData} {e : PyData} (hj : δ[j]? = some (.ol p ds)) (h1 : SeqAt.shaped (.list ds) = true) (h2 : SeqAt.shaped e = true) (k : P (.fz (.bool (!PyData.eqv (.list ds) e))) δ) : O2 F (rNeD F.K) (.al p) (.fz e) δ P := fun τ ε G H σ Q x y s q => by
  have hx : x = .ref p := s.pop.top
  subst hx
  obtain ⟨_, xs, hxs, hd⟩ := s.ol_at hj
  refine ⟨.list ds, e, .lst (.inl (Rd.of hxs)) (dpAllTo _ _ (dpAllMono s.w.gh _ _ hd)), dpTo _ _ (dpMono s.w.gh _ _ (fz_top s)), h1, h2, q _ _ δ G H k (Ex.refl _) (s.pop2.push rfl (.bl _))⟩
/-- isinstance(an owned list, T) -/
theorem ev_isiA {n : String} (h : E F te δ fun r δ1 => ∃ (p : Addr) (j : Nat) (ds : List PyData) (b : Bool), r = .al p ∧ δ1[j]? = some (SD.ol p ds) ∧ kitB "list" n = some b ∧ P (.fz (.bool b)) δ1) : E F (tCB (rIsi F.K) (tCons te (tCons (tC (.ty n)) tNil))) δ P := fun τ ε G H σ Q s q =>
  h τ ε G H σ _ s fun x r δ1 G1 H1 ⟨p, j, ds, b, hr, hj, hb, k⟩ e1 s1 => by
    subst hr
    have hx : x = .ref p := s1.top
    subst hx
    obtain ⟨_, xs, hxs, hd⟩ := s1.ol_at hj
    exact ⟨.ref p, .ty n, _, _, b, rfl, .ty n, .base (.lst hxs), kit_ty hb, q _ _ δ1 G1 H1 k e1 (s1.pop.push rfl (.bl _))⟩
end
end SL

/-! SLf: slices to a bound that is reckoned. -/
namespace L2
open PySem
def rMaxTwo : List V → Hp → VK → Prop := fun xs H Q => ∃ i j, xs = [.int i, .int j] ∧ Q (.int (if j > i then j else i)) H
def rMinTwo : List V → Hp → VK → Prop := fun xs H Q => ∃ i j, xs = [.int i, .int j] ∧ Q (.int (if j < i then j else i)) H
theorem call_max2' {X : Cx} (hc : X.calm = true) : CallR X (.builtin "max") rMaxTwo := call_max2 hc
theorem call_min2' {X : Cx} (hc : X.calm = true) : CallR X (.builtin "min") rMinTwo := call_min2 hc
end L2
namespace SL
open PySem L2 Evl
section
variable {K : PySem.W.Frag} {F : Fm} {G G' H H' : Hp} {τ σ : List (Option V)} {ε δ : List SD} {v : V} {P : PV} {te ta tb th : TE} {tr : TA}
/-- xs[:n], xs a new list, n reckoned behind it -/
theorem ev_uptoE (h : E F te δ fun r δ1 => ∃ p0 ds, r = .ol p0 ds ∧ E F th δ1 fun r2 δ2 => ∃ n : Nat, r2 = .fz (.int (n : Int)) ∧ ∀ p, p ∉ F.io → P (.ol p (ds.take n)) δ2) : E F (tSl (rSlL F.K) te tNoPart (tPart th)) δ P := fun τ ε G H σ Q s q =>
  h τ ε G H σ _ s fun x r δ1 G1 H1 ⟨p0, ds, hr, h1⟩ e1 s1 => by
    subst hr
    refine h1 _ _ G1 H1 σ _ s1 fun y r2 δ2 G2 H2 ⟨n, hr2, k⟩ e2 s2 => ?_
    subst hr2
    obtain rfl := dp_int (fz_top s2)
    obtain ⟨a, xs, rfl, sq, da⟩ := s2.pop.lsrc s2.pop.top .ol
    refine ⟨(n : Int), rfl, a, xs, rfl, sq, fun p hp => q _ _ δ2 _ _ (k p (s2.fresh_io hp)) (Ex.trans e1 e2) (s2.pop2.newO hp rfl ⟨rfl, _, upd_same, ?_⟩)⟩
    unfold cutV
    rw [HT.sIx_none, HT.sIx_nat, List.drop_zero, Nat.sub_zero]
    have hd : xs.take (min n xs.length) = xs.take n := by
      by_cases h : n ≤ xs.length
      · rw [Nat.min_eq_left h]
      · rw [Nat.min_eq_right (by omega), List.take_length, List.take_of_length_le (by omega)]
    rw [hd]
    exact SL.DpAll.take n da
theorem b_max2 {i j : Nat} (k : P (.fz (.int ((max i j : Nat) : Int))) δ) : OA F rMaxTwo [.fz (.int (i : Int)), .fz (.int (j : Int))] δ P := fun τ ε G H σ Q vs el s q => by
  match vs, el with
  | [x, y], _ =>
    obtain rfl := dp_int (fz_top s)
    obtain rfl := dp_int (fz_top s.pop)
    refine ⟨_, _, rfl, ?_⟩
    have e : (if (j : Int) > (i : Int) then (j : Int) else (i : Int)) = ((max i j : Nat) : Int) := by
      rw [Nat.max_def]
      split <;> split <;> omega
    rw [e]
    exact q _ _ δ G H k (Ex.refl _) (s.pop.pop.push rfl (.int _))
theorem b_min2 {i j : Nat} (k : P (.fz (.int ((min i j : Nat) : Int))) δ) : OA F rMinTwo [.fz (.int (i : Int)), .fz (.int (j : Int))] δ P := fun τ ε G H σ Q vs el s q => by
  match vs, el with
  | [x, y], _ =>
    obtain rfl := dp_int (fz_top s)
    obtain rfl := dp_int (fz_top s.pop)
    refine ⟨_, _, rfl, ?_⟩
    have e : (if (j : Int) < (i : Int) then (j : Int) else (i : Int)) = ((min i j : Nat) : Int) := by
      rw [Nat.min_def]
      split <;> split <;> omega
    rw [e]
    exact q _ _ δ G H k (Ex.refl _) (s.pop.pop.push rfl (.int _))
/-- xs.pop(), xs an owned list in slot j -/
theorem ev_pop (h : E F ta δ fun r δ1 => ∃ p j ds d, r = .al p ∧ δ1[j]? = some (.ol p (ds ++ [d])) ∧ P (.fz d) (δ1.set j (.ol p ds))) : E F (tBM0 F.K "list" rPop ta) δ P := fun τ ε G H σ Q s q =>
  h τ ε G H σ _ s fun x r δ1 G1 H1 ⟨p, j, ds, d, hr, hj, k⟩ e1 s1 => by
    subst hr
    have hx : x = .ref p := s1.top
    subst hx
    obtain ⟨ov, e3, ok⟩ := s1.slot hj
    obtain ⟨w, rfl⟩ := sd_some (by intro z; cases z) ok
    obtain ⟨rfl, xs, hxs, hd⟩ := ok
    have hl := DpAll.len hd
    rw [List.length_append] at hl
    obtain ⟨y, hy, hyd⟩ := DpAll.get' (i := ds.length) (d := d) hd (by simp)
    refine ⟨.inl ⟨rfl, xs, SqL.of hxs⟩, p, xs, y, rfl, rfl, hxs, ?_, ?_⟩
    · have : xs.length - 1 = ds.length := by simp at hl; omega
      rw [this]
      exact hy
    · have hdr : DpAll F.K G1 xs.dropLast ds := by
        have h1 := SL.DpAll.take ds.length hd
        rw [List.take_left] at h1
        have h2 : xs.take ds.length = xs.dropLast := by
          rw [List.dropLast_eq_take]
          have : xs.length - 1 = ds.length := by simp at hl; omega
          rw [this]
        rw [h2] at h1
        exact h1
      refine q _ _ _ G1 _ k e1 ((s1.pop.mut (o := .lst xs.dropLast) (new := .ol p ds) hj rfl rfl fun ov e => ?_).push rfl hyd)
      rw [e3] at e
      cases e
      exact ⟨rfl, _, upd_same, hdr⟩
end
end SL

/-! slices of lists to bounds that are reckoned; a value that is frozen, or a new list. -/
namespace SL
open PySem L2 Evl
section
variable {K : PySem.W.Frag} {F : Fm} {G G' H H' : Hp} {τ σ : List (Option V)} {ε δ : List SD} {v : V} {P : PV} {te ta tb th tl : TE} {tr : TA}
theorem ev_uptoL (h : E F te δ fun r δ1 => E F th δ1 fun r2 δ2 => ∃ (n : Nat) (ds : List PyData), r2 = .fz (.int (n : Int)) ∧ LSrc δ2 r ds ∧ ∀ p, p ∉ F.io → P (.ol p (ds.take n)) δ2) : E F (tSl (rSlL F.K) te tNoPart (tPart th)) δ P := fun τ ε G H σ Q s q =>
  h τ ε G H σ _ s fun x r δ1 G1 H1 h1 e1 s1 => by
    refine h1 _ _ G1 H1 σ _ s1 fun y r2 δ2 G2 H2 ⟨n, ds, hr2, hl, k⟩ e2 s2 => ?_
    subst hr2
    obtain rfl := dp_int (fz_top s2)
    obtain ⟨a, xs, rfl, sq, da⟩ := s2.pop.lsrc s2.pop.top hl
    refine ⟨(n : Int), rfl, a, xs, rfl, sq, fun p hp => q _ _ δ2 _ _ (k p (s2.fresh_io hp)) (Ex.trans e1 e2) (s2.pop2.newO hp rfl ⟨rfl, _, upd_same, ?_⟩)⟩
    unfold cutV
    rw [HT.sIx_none, HT.sIx_nat, List.drop_zero, Nat.sub_zero]
    have hd : xs.take (min n xs.length) = xs.take n := by
      by_cases h : n ≤ xs.length
      · rw [Nat.min_eq_left h]
      · rw [Nat.min_eq_right (by omega), List.take_length, List.take_of_length_le (by omega)]
    rw [hd]
    exact SL.DpAll.take n da
theorem ev_fromL (h : E F te δ fun r δ1 => E F tl δ1 fun r2 δ2 => ∃ (n : Nat) (ds : List PyData), r2 = .fz (.int (n : Int)) ∧ LSrc δ2 r ds ∧ ∀ p, p ∉ F.io → P (.ol p (ds.drop n)) δ2) : E F (tSl (rSlL F.K) te (tPart tl) tNoPart) δ P := fun τ ε G H σ Q s q =>
  h τ ε G H σ _ s fun x r δ1 G1 H1 h1 e1 s1 => by
    refine h1 _ _ G1 H1 σ _ s1 fun y r2 δ2 G2 H2 ⟨n, ds, hr2, hl, k⟩ e2 s2 => ?_
    subst hr2
    obtain rfl := dp_int (fz_top s2)
    obtain ⟨a, xs, rfl, sq, da⟩ := s2.pop.lsrc s2.pop.top hl
    refine ⟨(n : Int), rfl, a, xs, rfl, sq, fun p hp => q _ _ δ2 _ _ (k p (s2.fresh_io hp)) (Ex.trans e1 e2) (s2.pop2.newO hp rfl ⟨rfl, _, upd_same, ?_⟩)⟩
    unfold cutV
    rw [HT.sIx_none, HT.sIx_nat]
    have hd : xs.drop (min n xs.length) = xs.drop n := by
      by_cases h : n ≤ xs.length
      · rw [Nat.min_eq_left h]
      · rw [Nat.min_eq_right (by omega), List.drop_length, List.drop_eq_nil_of_le (by omega)]
    rw [hd, List.take_of_length_le (by rw [List.length_drop]; omega)]
    exact SL.DpAll.drop n da
/-- a value that is frozen, or a new list, is frozen from here on -/
theorem E.freezeM (h : E F te δ fun r δ1 => (∃ p ds, p ∉ F.io ∧ r = .ol p ds ∧ P (.fz (.list ds)) δ1) ∨ ∃ d, r = .fz d ∧ P (.fz d) δ1) : E F te δ P := fun τ ε G H σ Q s q =>
  h τ ε G H σ _ s fun x r δ1 G1 H1 h1 e1 s1 => by
    rcases h1 with ⟨p, ds, hio, rfl, k⟩ | ⟨d, rfl, k⟩
    · obtain ⟨o, hg, s2⟩ := s1.freezeT hio
      exact q x _ δ1 _ _ k (Ex.trans e1 (Ex.upd hg)) s2
    · exact q x _ δ1 _ _ k e1 s1
end
end SL

/-! a comprehension, a for, over a list that is owned by a slot; the slot is looked at by nothing else meanwhile. -/
namespace SL
open PySem L2 Evl
section
variable {K : PySem.W.Frag} {F : Fm} {G G' H H' : Hp} {τ σ : List (Option V)} {ε δ : List SD} {v : V} {P : PV} {te : TE} {tt : TT} {g : TG} {tb : TS} {D : Ends}
/-- a list, its values known -/
def lockL (K : PySem.W.Frag) (p : Addr) (xs : List V) (ds : List PyData) : Ow where
  fp := [p]
  R := fun G H v => v = .ref p ∧ H p = some (.lst xs) ∧ DpAll K G xs ds
  loc := fun e k ⟨h1, h2, h3⟩ => ⟨h1, by rw [k p (by simp)]; exact h2, dpAllMono e _ _ h3⟩
theorem ev_lcA {i j : Nat} {p : Addr} {ds : List PyData} (hi : δ[i]? = some (.ol p ds)) (hij : i ≠ j) (hj : δ[j]? = some .no) (hlen : ds.length < 100000)
    (h : ∀ L : SD, ∃ I : Nat → List PyData → List SD → Prop, I 0 [] (δ.set i L) ∧ (∀ n acc δ', I n acc δ' → δ'[j]? = some .no ∧ δ'[i]? = some L ∧ acc.length ≤ n) ∧
      (∀ F' n d acc δ', Le F F' → ds[n]? = some d → I n acc δ' → T F' tt (δ'.set j (.fz d)) fun b δ2 => if b = true then E F' te δ2 fun r δ3 => ∃ d', r = .fz d' ∧ ∃ r3, δ3[j]? = some r3 ∧ I (n + 1) (acc ++ [d']) (δ3.set j .no) else ∃ r2, δ2[j]? = some r2 ∧ I (n + 1) acc (δ2.set j .no)) ∧
      (∀ acc δ' q, q ∉ F.io → I ds.length acc δ' → P (.ol q acc) (δ'.set i (.ol p ds)))) :
    E F (tLc (iList F.K (tVar i)) (gName j) tt te [j]) δ P := fun τ ε G1 H σ Q s q => by
  obtain ⟨ov, hov, ok⟩ := s.slot hi
  obtain ⟨w, rfl⟩ := sd_some (by intro z; cases z) ok
  obtain ⟨rfl, xs, hxs, hda⟩ := ok
  obtain ⟨I, i0, keep, step, fin⟩ := h (.ow (lockL F.K p xs ds))
  have hup : upd H p (.lst xs) = H := by
    funext b
    by_cases hb : b = p
    · subst hb; rw [upd_same, hxs]
    · rw [upd_ne hb]
  have s1 : S2 F G1 H τ ε σ (δ.set i (.ow (lockL F.K p xs ds))) := by
    have := s.mut (p := p) (o := .lst xs) (new := .ow (lockL F.K p xs ds)) hi rfl rfl fun ov e => by
      rw [hov] at e
      cases e
      exact ⟨rfl, upd_same, hda⟩
    rw [hup] at this
    exact this
  have hj1 : (δ.set i (.ow (lockL F.K p xs ds)))[j]? = some .no := by rw [List.getElem?_set_ne hij]; exact hj
  refine ⟨.ref p, hov, p, rfl, ⟨xs, SqL.of hxs⟩, ?_⟩
  intro Dl hD
  have hio : Dl ∉ F.io := fun z => by
    obtain ⟨o, e⟩ := s1.w.io Dl z
    rw [hD] at e; cases e
  have hxl : xs.length = ds.length := DpAll.len hda
  have sw : S2 F G1 H τ ε (wipe σ [j]) (δ.set i (.ow (lockL F.K p xs ds))) := ⟨s1.w, s1.t, oks_wipe hj1 s1.s⟩
  have s0 : S2 F G1 (upd H Dl (.lst [])) (some (.ref Dl) :: τ) (.ol Dl [] :: ε) (wipe σ [j]) (δ.set i (.ow (lockL F.K p xs ds))) := sw.newO hD rfl ⟨rfl, [], upd_same, .nil⟩
  have locked : ∀ {n acc δ' G H τ ε σ}, I n acc δ' → S2 F G H τ ε σ δ' → H p = some (.lst xs) ∧ DpAll F.K G xs ds := fun {n acc δ' G H τ ε σ} hI s => by
    obtain ⟨ov, _, ok⟩ := s.slot (keep n acc δ' hI).2.1
    obtain ⟨w, rfl⟩ := sd_some (by intro z; cases z) ok
    exact ok.2
  refine lc_it walk_list (fun n H => ∃ G acc δ', Ex G1 G ∧ I n acc δ' ∧ S2 F G H (some (.ref Dl) :: τ) (.ol Dl acc :: ε) (wipe σ [j]) δ') ⟨G1, [], _, Ex.refl _, i0, s0⟩ (fun n H _ ⟨G, acc, δ', ex, hI, s⟩ => SqL.of (locked hI s).1) ?_ ?_
  · rintro n x H H' hn ⟨G, acc, δ', ex, hI, s⟩ ⟨rfl, hx⟩
    obtain ⟨d, hd, hdp⟩ := DpAll.get (locked hI s).2 hx
    have s2 : S2 F G H' (some x :: some (.ref Dl) :: τ) (.fz d :: .ol Dl acc :: ε) (wipe σ [j]) δ' := s.push rfl hdp
    obtain ⟨l, s3⟩ := s2.rebase
    obtain ⟨k1, k2, k3⟩ := keep n acc δ' hI
    have s4 := s3.store k1
    refine ⟨set_set_none _ _ _, ?_⟩
    have back : ∀ {G5 H5 acc5 δ5 r5}, δ5[j]? = some r5 → S2 { F with G0 := G } G5 H5 (some (.ref Dl) :: τ) (.ol Dl acc5 :: ε) ((wipe σ [j]).set j (some x)) δ5 → S2 F G5 H5 (some (.ref Dl) :: τ) (.ol Dl acc5 :: ε) (wipe σ [j]) (δ5.set j .no) := by
      intro G5 H5 acc5 δ5 r5 hr h5
      have h6 := (h5.up l).drop hr
      have hl : (δ5.set j SD.no)[j]? = some SD.no := List.getElem?_set_self (List.getElem?_eq_some_iff.mp hr).1
      have h7 := oks_wipe hl h6.s
      refine ⟨h6.w, h6.t, ?_⟩
      have e : ((wipe σ [j]).set j (some x)).set j none = wipe σ [j] := by
        show (((σ.set j none).set j (some x)).set j none) = σ.set j none
        simp
      rw [e] at h7
      exact h7
    refine step _ n _ acc δ' l hd hI _ _ G H' _ _ s4 fun b δ2 G5 H5 h5 e5 s5 => ?_
    cases b with
    | true =>
      refine h5 _ _ G5 H5 _ _ s5 fun w r δ3 G6 H6 ⟨d', hr, r3, hr3, hI'⟩ e6 s6 => ?_
      subst hr
      have hw := fz_top s6
      have s7 := s6.pop
      obtain ⟨_, ys, hx, hda⟩ := s7.top
      have hlx := DpAll.len hda
      refine ⟨ys, hx, ?_, G6, acc ++ [d'], δ3.set j .no, Ex.trans ex s6.w.g0, hI', ?_⟩
      · exact Nat.lt_of_lt_of_le (show ys.length < 100000 by omega) (by decide)
      · have wm : Wd { F with G0 := G } G6 (upd H6 Dl (.lst (ys ++ [w]))) (Dl :: (fps ε ++ fps δ3)) := s7.w.mut List.mem_cons_self
        have nd := (List.nodup_cons.mp (show (Dl :: (fps ε ++ fps δ3)).Nodup from s7.w.nd)).1
        have s8 : S2 { F with G0 := G } G6 (upd H6 Dl (.lst (ys ++ [w]))) (some (.ref Dl) :: τ) (.ol Dl (acc ++ [d']) :: ε) ((wipe σ [j]).set j (some x)) δ3 :=
          ⟨wm, ⟨⟨rfl, _, upd_same, DpAll.app hda (SL.DpAll.one hw)⟩, oks_mono (Ex.refl _) (fun a ha => upd_ne fun z => nd (z ▸ List.mem_append_left _ ha)) s7.t.2⟩, oks_mono (Ex.refl _) (fun a ha => upd_ne fun z => nd (z ▸ List.mem_append_right _ ha)) s7.s⟩
        exact back hr3 s8
    | false =>
      obtain ⟨r2, hr2, hI'⟩ := h5
      exact ⟨G5, acc, δ2.set j .no, Ex.trans ex s5.w.g0, hI', back hr2 s5⟩
  · rintro H ⟨G, acc, δ', ex, hI, s⟩
    rw [hxl] at hI
    obtain ⟨k1, k2, k3⟩ := keep _ acc δ' hI
    have s5 : S2 F G H (some (.ref Dl) :: τ) (.ol Dl acc :: ε) σ δ' := ⟨s.w, s.t, oks_unwipe (K := F.K) (j := j) k1 s.s⟩
    refine q _ _ _ G _ (fin acc δ' Dl hio hI) ex ?_
    obtain ⟨ov, hov2, ok⟩ := s5.slot k2
    obtain ⟨w, rfl⟩ := sd_some (by intro z; cases z) ok
    obtain ⟨h1, h2, h3⟩ := ok
    have hup2 : upd H p (.lst xs) = H := by
      funext b
      by_cases hb : b = p
      · subst hb; rw [upd_same, h2]
      · rw [upd_ne hb]
    have := s5.mut (p := p) (o := .lst xs) (new := .ol p ds) k2 rfl rfl fun ov' e => by
      rw [hov2] at e
      cases e
      exact ⟨h1, xs, upd_same, h3⟩
    rw [hup2] at this
    exact this
end
end SL

namespace SL
open PySem L2 Evl LamX
theorem ev_tabA {F : Fm} {T : List (Addr × Str)} {r : SD} {δ : List SD} {P : PV} {i : Nat} {p : Addr} (h : δ[i]? = some (.ow (tabR F.K T r))) (hp : Pins F.K r p) (k : P (.al p) δ) : E F (tVar i) δ P := ev_tabAl (k := k) h hp
theorem EA.moveT {F : Fm} {δ : List SD} {tr : TA} {PL : List SD → List SD → Prop} (h : EA F tr δ fun rs δ1 => ∃ (T : List (Addr × Str)) (r : SD) (j i : Nat) (ri : SD), δ1[j]? = some (.ow (tabR F.K T r)) ∧ (δ1.set j r)[i]? = some ri ∧ ri ≠ .no ∧ PL rs ((δ1.set j r).set i (.ow (tabR F.K T ri)))) : EA F tr δ PL := fun τ ε G H σ Q s q =>
  h τ ε G H σ _ s fun vs rs δ1 G1 H1 ⟨T, r, j, i, ri, h1, h2, h3, k⟩ e l s1 => q vs rs _ G1 H1 k e l (s1.moveT h1 h2 h3)
end SL

namespace My
open PySem L2 SL Mt Mx LamX
local macro_rules | `(tactic| walk_at "e1") => `(tactic| first
  | with_reducible refine nx_seq ?_ | with_reducible refine rn_seq ?_
  | with_reducible refine rn_set ?_ | with_reducible refine rn_ret ?_ | with_reducible refine rn_if ?_ | with_reducible refine rn_drop ?_ | with_reducible refine rn_next ?_
  | with_reducible refine ev_int ?_ | with_reducible refine ev_str ?_ | with_reducible refine ev_bl ?_ | with_reducible refine ev_non ?_
  | ((with_reducible refine' ev_fz ?vv ?_); (case vv => exact rfl))
  | ((with_reducible refine' ev_ol ?vv ?_); (case vv => exact rfl))
  | ((with_reducible refine' ev_al ?vv ?_); (case vv => exact rfl))
  | with_reducible refine ev_op ?_ | with_reducible refine ev_un ?_
  | with_reducible refine o_int ?_ | with_reducible refine o_bl ?_ | with_reducible refine u_int ?_
  | with_reducible refine o_eqI ?_ | with_reducible refine o_neI ?_ | with_reducible refine o_eqS ?_ | with_reducible refine o_neS ?_
  | with_reducible refine ev_isi ?_ | with_reducible refine ev_isi2 ?_ | with_reducible refine ev_cb ?_ | with_reducible refine a_one ?_ | with_reducible refine a_cons ?_ | with_reducible refine a_nil ?_
  | with_reducible refine b_abs ?_ | with_reducible refine b_int ?_ | with_reducible refine b_intb ?_
  | with_reducible refine b_lenL ?_ | with_reducible refine b_lenT ?_
  | with_reducible refine b_tupO ?_ | with_reducible refine b_tupL ?_ | with_reducible refine b_tupT ?_ | with_reducible refine t_yes ?_ | with_reducible refine iteT ?_ | with_reducible refine iteF ?_
  | with_reducible refine t_test ?_ | with_reducible refine t_B ?_ | with_reducible refine t_not ?_ | with_reducible refine t_and ?_ | with_reducible refine t_or ?_
  | with_reducible refine ev_lst ?_ | with_reducible refine ev_tup ?_ | with_reducible refine ev_callM ?_ | with_reducible refine ev_callF ?_ | with_reducible refine rn_setL ?_ | with_reducible refine rn_setDT ?_ | with_reducible refine rn_asg ?_ | ((with_reducible refine' ga_tup ?vv ?_); (case vv => exact rfl)) | with_reducible refine gas_nil ?_ | ((with_reducible refine' gas_name ?vv ?_); (case vv => exact rfl)) | ((with_reducible refine' rn_asgN ?vv ?_); (case vv => exact rfl))
  | with_reducible refine rn_par3 ?_ | with_reducible refine rn_par ?_ | with_reducible refine ev_tupRg ?_ | with_reducible refine ev_listRg ?_ | with_reducible refine ev_disp1T ?_ | with_reducible refine ev_dgetT ?_ | with_reducible refine ev_dnotinT ?_
  | with_reducible refine ev_append ?_ | with_reducible refine ev_extend ?_ | with_reducible refine ev_reverse ?_ | with_reducible refine ev_revL ?_
  | with_reducible refine ev_chain ?_ | with_reducible refine ev_and ?_ | with_reducible refine ev_or ?_ | with_reducible refine ev_not ?_ | with_reducible refine ev_if ?_
  | ((with_reducible refine' ev_oi ?vv ?_); (case vv => exact rfl)) | ((with_reducible refine' ev_ot ?vv ?_); (case vv => exact rfl)) | ((with_reducible refine' ev_od ?vv ?_); (case vv => exact rfl))
  | refine ⟨_, rfl, ?_⟩)
local macro_rules | `(tactic| walk_at "ev") => `(tactic| repeat (walk_at "e1"))

theorem T.imp {F : Fm} {tt : TT} {δ : List SD} {A B : Bool → List SD → Prop} (h : SL.T F tt δ A) (k : ∀ b δ', A b δ' → B b δ') : SL.T F tt δ B := fun τ ε G H σ Q s q => h τ ε G H σ Q s fun b δ' G' H' p => q b δ' G' H' (k b δ' p)
def Wmixed : WM := fun ds0 as post => SrcD ds0 ∧ ∃ (n : Nat) (ms : List (List Nat)), as = [.list (ms.map tupN)] ∧ 1 ≤ n ∧ n ≤ 4 ∧ 1 ≤ ms.length ∧ ms.length ≤ 6 ∧ (∀ m ∈ ms, IsMap n m) ∧
  ∀ (r : SD) (ms' : List (List Nat)) (ds1 : List PyData), ((∃ p, r = .ol p (ms'.map tupN)) ∨ r = .fz (.list (ms'.map tupN))) → 1 ≤ ms'.length → ms'.length ≤ 6 → (∀ m ∈ ms', IsMap n m) → SrcD ds1 → post r ds1
section
variable {P : Program} {w : World} {K : PySem.W.Frag} {mg : Str → Option Value} {base : Heap}
abbrev s_law_mixed : Stmt := top 28
abbrev N_law_mixed : List Str := ["_law_source_here", "_law_rows", "_law_way", "_law_at"]
theorem sc_law_mixed : FnScope N_law_mixed ["_law_source_here", "_law_rows"] (defScope s_law_mixed) := ⟨rfl, rfl, rfl, by decide +kernel, rfl, by decide +kernel, by decide +kernel⟩

theorem ok_mixed {f : Addr} {fd : FuncData} (Fn : Fun K "_law_mixed" "_law_mixed" s_law_mixed f fd) (B : Bt mg) (f_law_draw : Cal P w K mg base 1 "_law_draw" (SpM K Wdraw)) : FnOk P w K mg base CX0 2 f fd ["_law_source_here", "_law_rows"] (SpM K Wmixed) := by
  refine Fn.ok sc_law_mixed (fun vs H Q E h => ?_) (fun cdv A outer s H vs Q E hr h => ?_)
  · obtain ⟨G, p, xs, ds0, ws, as, post, rfl, _, _, _, _, da, ⟨_, n, ms, rfl, _⟩, _⟩ := h
    have := DpAll.len da
    simpa using this
  · refine ⟨_, (pss_cons (ps_par rfl sc_law_mixed.nd (i := 2) (j := 3) rfl rfl (by decide) rfl rfl (pa_cons (pe_c f_law_draw hr (by decide) rfl (pa_cons (pv 0) (pa_cons pe_int pa_nil))) (pa_cons (pe_c f_law_draw hr (by decide) rfl (pa_cons (pv 0) (pa_cons (pe_callB (call_len_seq' K) rfl B.b_len (by decide +kernel) (pa_cons (pv 1) pa_nil)) pa_nil))) pa_nil)) rfl)
 (pss_cons (ps_if (PW.pt (pw_and (pt_cmpR op_eq (pv 2) pe_int (nomark _)) (pw_and1 (pt_cmpR op_lt (pe_callB (call_len_seq' K) rfl B.b_len (by decide +kernel) (pa_cons (pv 1) pa_nil)) pe_int (nomark _))))) (pss_one (ps_ret (pe_op (op_catS' K) (pv 1) (pe_lst (pa_cons (pe_ix (ix_list' K) (pv 1) (pv 3) (fun _ _ => rfl)) pa_nil))))) pss_nil)
 (pss_cons (ps_if (PW.pt (pw_and (pt_cmpR op_eq (pv 2) pe_int (nomark _)) (pw_and1 (pt_cmpR op_lt (pe_callB (call_len_seq' K) rfl B.b_len (by decide +kernel) (pa_cons (pv 1) pa_nil)) pe_int (nomark _))))) (pss_one (ps_ret (pe_op (op_catS' K) (pe_op (op_catS' K) (pe_slice (sl_list' K) (pv 1) po_none (po_some (pv 3))) (pe_lst (pa_cons (pe_tupRg rfl rfl B.b_tuple (prg_1 rfl B.b_range (pe_callB (call_len_seq' K) rfl B.b_len (by decide +kernel) (pa_cons (pe_ix (ix_list' K) (pv 1) pe_int (fun _ _ => rfl)) pa_nil)))) pa_nil))) (pe_slice (sl_list' K) (pv 1) (po_some (pv 3)) po_none)))) pss_nil)
 (pss_one (ps_ret (pv 1)))))), bodyM h fun F p ds0 as post hK hio hW ret => ?_⟩
    subst hK
    obtain ⟨hs, n, ms, rfl, n1, n4, m1, m6, hm, k⟩ := hW
    show Rn F _ [.ol p ds0, .fz (.list (ms.map tupN)), .no, .no] _
    refine rn_seq (rn_par (a_cons (ev_callM ?_)))
    walk_at "ev"
    refine ⟨p, [_], 0, _, rfl, rfl, hs, (4 : Int), rfl, by omega, by omega, fun d ds1 d0 dm hs1 _ => ?_⟩
    walk_at "ev"
    refine ⟨p, [_], 0, _, rfl, rfl, hs1, _, rfl, by rw [List.length_map]; omega, by rw [List.length_map]; omega, fun e ds2 e0 em hs2 _ => ?_⟩
    obtain ⟨a, rfl⟩ : ∃ a : Nat, e = (a : Int) := ⟨e.toNat, by omega⟩
    have ha : a < ms.length := by rw [List.length_map] at em; omega
    have hma := List.getElem?_eq_getElem ha
    walk_at "ev"
    refine ⟨_, _, _, _, rfl, rfl, rfl, nx_seq ?_⟩
    show Rn F _ [.ol p ds2, .fz (.list (ms.map tupN)), .fz (.int d), .fz (intN a)] _
    have l0 : 0 < ms.length := by omega
    have hm0 := List.getElem?_eq_getElem l0
    have test : ∀ (z : Int) (δ : List SD), δ = [.ol p ds2, .fz (.list (ms.map tupN)), .fz (.int d), .fz (intN a)] → SL.T F (tAnd (tTest (tOp rEq (tVar 2) (tC (V.int z)))) (tTest (tOp (rI0 fun i j => V.bl (decide (i < j))) (tCB (rLenQ F.K) (tCons (tVar 1) tNil)) (tC (V.int 6))))) δ fun b δ1 => δ1 = δ ∧ (b = true → ms.length < 6) := by
      rintro z δ rfl
      walk_at "ev"
      by_cases hz : d = z
      · refine (if_pos (by simp [hz])).mpr ?_
        walk_at "ev"
        exact ⟨rfl, fun h => by have := of_decide_eq_true h; rw [List.length_map] at this; omega⟩
      · refine (if_neg (by simp [hz])).mpr ?_
        exact ⟨rfl, fun h => by cases h⟩
    have last : Rn F (tRet (tVar 1)) [.ol p ds2, .fz (.list (ms.map tupN)), .fz (.int d), .fz (intN a)] { nx := fun _ H' => Q .non H', rt := Q } := by
      walk_at "ev"
      exact ret _ _ _ rfl (k _ ms ds2 (.inr rfl) m1 m6 hm hs2)
    refine rn_seq (rn_if (T.imp (test 0 _ rfl) fun b δ' hb => ?_))
    obtain ⟨rfl, hb⟩ := hb
    cases b with
    | true =>
      have hlt := hb rfl
      refine (if_pos rfl).mpr (rn_ret (ev_op ?_))
      walk_at "ev"
      refine o_ixL (ds := ms.map tupN) (atI_nat (j := a) (map_get hma)) ?_
      refine ⟨[_], rfl, (by show 1 ≤ sizeLine; decide), fun p3 q3 => ?_⟩
      refine o_cat .fz .ol (by rw [List.length_map]; show ms.length + 1 ≤ 1000000; omega) fun p4 q4 => ?_
      refine ret _ _ _ rfl (k _ (ms ++ [ms[a]]) ds2 (.inl ⟨p4, by rw [List.map_append]; rfl⟩) (by simp) (by simp; omega) ?_ hs2)
      intro m hm2
      rcases List.mem_append.mp hm2 with z | z
      · exact hm m z
      · have : m = ms[a] := by simpa using z
        subst this
        exact hm _ (List.getElem_mem _)
    | false =>
      refine (if_neg (by simp)).mpr (rn_next (nx_seq ?_))
      refine rn_seq (rn_if (T.imp (test 1 _ rfl) fun b δ' hb => ?_))
      obtain ⟨rfl, hb⟩ := hb
      cases b with
      | true =>
        have hlt := hb rfl
        refine (if_pos rfl).mpr (rn_ret (ev_op (ev_op (ev_uptoL ?_))))
        walk_at "ev"
        refine ⟨a, _, rfl, .fz, fun p3 q3 => ?_⟩
        walk_at "ev"
        refine o_ixL (ds := ms.map tupN) (atI_nat (j := 0) (map_get hm0)) ?_
        refine b_lenT (ds := ms[0].map intN) ?_
        have hml : (ms[0].map intN).length = n := by rw [List.length_map]; exact (hm _ (List.getElem_mem _)).1
        refine ⟨_, rfl, by omega, [_], rfl, (by show 1 ≤ sizeLine; decide), fun p4 q4 => ?_⟩
        rw [hml]
        refine o_cat .ol .ol (by rw [List.length_take, List.length_map]; show _ + 1 ≤ 1000000; omega) fun p5 q5 => ?_
        refine ev_fromL ?_
        walk_at "ev"
        refine ⟨a, _, rfl, .fz, fun p6 q6 => ?_⟩
        refine o_cat .ol .ol (by rw [List.length_append, List.length_take, List.length_map, List.length_drop, List.length_map]; show _ + 1 + _ ≤ 1000000; omega) fun p7 q7 => ?_
        refine ret _ _ _ rfl (k _ (ms.take a ++ [List.range n] ++ ms.drop a) ds2 (.inl ⟨p7, ?_⟩) (by simp; omega) (by simp; omega) ?_ hs2)
        · rw [List.map_append, List.map_append, List.map_take, List.map_drop]
          rfl
        · intro m hm2
          rcases List.mem_append.mp hm2 with z | z
          · rcases List.mem_append.mp z with z2 | z2
            · exact hm m (List.mem_of_mem_take z2)
            · have : m = List.range n := by simpa using z2
              subst this
              exact isMap_range n
          · exact hm m (List.mem_of_mem_drop z)
      | false => exact (if_neg (by simp)).mpr (rn_next (nx_seq last))
end
end My

namespace My
open PySem L2 SL Mt Mx LamX
local macro_rules | `(tactic| walk_at "e1") => `(tactic| first
  | with_reducible refine nx_seq ?_ | with_reducible refine rn_seq ?_
  | with_reducible refine rn_set ?_ | with_reducible refine rn_ret ?_ | with_reducible refine rn_if ?_ | with_reducible refine rn_drop ?_ | with_reducible refine rn_next ?_
  | with_reducible refine ev_int ?_ | with_reducible refine ev_str ?_ | with_reducible refine ev_bl ?_ | with_reducible refine ev_non ?_
  | ((with_reducible refine' ev_fz ?vv ?_); (case vv => exact rfl))
  | ((with_reducible refine' ev_ol ?vv ?_); (case vv => exact rfl))
  | ((with_reducible refine' ev_al ?vv ?_); (case vv => exact rfl))
  | with_reducible refine ev_op ?_ | with_reducible refine ev_un ?_
  | with_reducible refine o_int ?_ | with_reducible refine o_bl ?_ | with_reducible refine u_int ?_
  | with_reducible refine o_eqI ?_ | with_reducible refine o_neI ?_ | with_reducible refine o_eqS ?_ | with_reducible refine o_neS ?_
  | with_reducible refine ev_isi ?_ | with_reducible refine ev_isi2 ?_ | with_reducible refine ev_cb ?_ | with_reducible refine a_one ?_ | with_reducible refine a_cons ?_ | with_reducible refine a_nil ?_
  | with_reducible refine b_abs ?_ | with_reducible refine b_int ?_ | with_reducible refine b_intb ?_
  | with_reducible refine b_lenL ?_ | with_reducible refine b_lenT ?_
  | with_reducible refine b_tupO ?_ | with_reducible refine b_tupL ?_ | with_reducible refine b_tupT ?_ | with_reducible refine t_yes ?_ | with_reducible refine iteT ?_ | with_reducible refine iteF ?_
  | with_reducible refine t_test ?_ | with_reducible refine t_B ?_ | with_reducible refine t_not ?_ | with_reducible refine t_and ?_ | with_reducible refine t_or ?_
  | with_reducible refine ev_lst ?_ | with_reducible refine ev_tup ?_ | with_reducible refine ev_callM ?_ | with_reducible refine ev_callF ?_ | with_reducible refine rn_setL ?_ | with_reducible refine rn_setDT ?_ | with_reducible refine rn_asg ?_ | ((with_reducible refine' ga_tup ?vv ?_); (case vv => exact rfl)) | with_reducible refine gas_nil ?_ | ((with_reducible refine' gas_name ?vv ?_); (case vv => exact rfl)) | ((with_reducible refine' rn_asgN ?vv ?_); (case vv => exact rfl))
  | with_reducible refine rn_par3 ?_ | with_reducible refine rn_par ?_ | with_reducible refine ev_tupRg ?_ | with_reducible refine ev_listRg ?_ | with_reducible refine ev_disp1T ?_ | with_reducible refine ev_dgetT ?_ | with_reducible refine ev_dnotinT ?_
  | with_reducible refine ev_append ?_ | with_reducible refine ev_extend ?_ | with_reducible refine ev_reverse ?_ | with_reducible refine ev_revL ?_
  | with_reducible refine ev_chain ?_ | with_reducible refine ev_and ?_ | with_reducible refine ev_or ?_ | with_reducible refine ev_not ?_ | with_reducible refine ev_if ?_
  | ((with_reducible refine' ev_oi ?vv ?_); (case vv => exact rfl)) | ((with_reducible refine' ev_ot ?vv ?_); (case vv => exact rfl)) | ((with_reducible refine' ev_od ?vv ?_); (case vv => exact rfl))
  | refine ⟨_, rfl, ?_⟩)
local macro_rules | `(tactic| walk_at "ev") => `(tactic| repeat (walk_at "e1"))

def Wright (K : PySem.W.Frag) (T : List (Addr × Str)) : WO := fun r0 as post => ∃ (ps : Addr) (ds0 : List PyData) (n : Nat) (ms : List (List Nat)), r0 = .ow (tabR K T (.ol ps ds0)) ∧ as = [.list (ms.map tupN)] ∧ 1 ≤ n ∧ n ≤ 4 ∧ 1 ≤ ms.length ∧ ms.length ≤ 6 ∧ (∀ m ∈ ms, IsMap n m) ∧ post (.fz (.bool true)) (.ow (tabR K T (.ol ps ds0)))
theorem lay_pairR {t : List (List Nat)} {L : Nat} (g : Good t L) (h6 : L ≤ 6) {x : Nat × Nat} (hx : x ∈ rulesN t L t.length) : (pairR t x).canLay0 = true ∧ (pairR t x).depth ≤ 1 := by
  obtain ⟨n, l⟩ := x
  obtain ⟨h1, h2, _⟩ := mem_rulesN.mp hx
  have hp : ∀ m ∈ pathOf t n ++ [l], m < L := fun m hm => by
    rcases List.mem_append.mp hm with z | z
    · exact (g.path h1).2 m z
    · have : m = l := by simpa using z
      omega
  have hq := (g.path (act0_lt g hp)).2
  refine ⟨lay_tup fun d hd => ?_, dep_tup (k := 0) fun d hd => ?_⟩
  · rcases List.mem_cons.mp hd with z | hd2
    · subst z; exact lay_strP h6 hp
    · have := List.mem_singleton.mp hd2
      subst this
      exact lay_strP h6 hq
  · rcases List.mem_cons.mp hd with z | hd2
    · subst z; exact Nat.le_refl _
    · have := List.mem_singleton.mp hd2
      subst this
      exact Nat.le_refl _
def duesD (t : List (List Nat)) (L : Nat) : List PyData := (rulesN t L t.length).map (pairR t)
theorem lay_dues {t : List (List Nat)} {L : Nat} (g : Good t L) (h6 : L ≤ 6) : (PyData.list (duesD t L)).canLay0 = true := lay_list fun d hd => by
  obtain ⟨x, hx, rfl⟩ := List.mem_map.mp hd
  exact (lay_pairR g h6 hx).1
theorem shaped_dues {t : List (List Nat)} {L : Nat} (g : Good t L) (h6 : L ≤ 6) : SeqAt.shaped (.list (duesD t L)) = true := shaped_of (lay_dues g h6) (Nat.le_trans (dep_list (k := 1) fun d hd => by
  obtain ⟨x, hx, rfl⟩ := List.mem_map.mp hd
  exact (lay_pairR g h6 hx).2) (by decide))
def shortK (t : List (List Nat)) (most : Nat) (l : List (Nat × Nat)) (k : Nat) : List (Nat × Nat) := (l.take k).filter fun x => decide ((pathOf t x.1 ++ [x.2]).length ≤ most)
theorem shortK_snoc {t : List (List Nat)} {most : Nat} {l : List (Nat × Nat)} {k : Nat} {x : Nat × Nat} (h : l[k]? = some x) : shortK t most l (k + 1) = shortK t most l k ++ (if (pathOf t x.1 ++ [x.2]).length ≤ most then [x] else []) := by
  unfold shortK
  rw [List.take_succ, h, List.filter_append]
  congr 1
  by_cases hb : (pathOf t x.1 ++ [x.2]).length ≤ most
  · rw [if_pos hb]
    show List.filter _ [x] = [x]
    simp only [List.filter_cons, hb, decide_true, if_true, List.filter_nil]
  · rw [if_neg hb]
    show List.filter _ [x] = []
    simp only [List.filter_cons, hb, decide_false, Bool.false_eq_true, if_false, List.filter_nil]
section
variable {P : Program} {w : World} {K : PySem.W.Frag} {mg : Str → Option Value} {base : Heap}
abbrev s_law_right : Stmt := top 27
abbrev N_law_right : List Str := ["_law_source_here", "_law_rows", "_law_found", "_law_words", "_law_table_here", "_law_monoid", "_law_due_here", "_law_told", "_law_most", "_law_pair"]
theorem sc_law_right : FnScope N_law_right ["_law_source_here", "_law_rows"] (defScope s_law_right) := ⟨rfl, rfl, rfl, by decide +kernel, rfl, by decide +kernel, by decide +kernel⟩

set_option maxHeartbeats 2000000 in
theorem ok_right {f : Addr} {T : List (Addr × Str)} {fd : FuncData} {CM : Addr} (Fn : Fun K "_law_right" "_law_right" s_law_right f fd) (B : Bt mg) (M : MC K CM) (f_law_table : Cal P w K mg base 1 "_law_table" (SpF K Wtable)) (f_law_due : Cal P w K mg base 4 "_law_due" (SpO K (Wdue K T))) (mk_Monoid : Mak P w K mg base 3 "Monoid" CM (SpO K (Winit K P w CM)))
    (m_rules : Met P w K mg base 4 CM "rules" (SpO K (Wrules K P w CM T))) (f_law_by_words : Cal P w K mg base 2 "_law_by_words" (SpF K Wby)) :
    FnOk P w K mg base CX0 5 f fd ["_law_source_here", "_law_rows"] (SpO K (Wright K T)) := by
  refine Fn.ok sc_law_right (fun vs H Q E h => ?_) (fun cdv A outer s H vs Q E hr h => ?_)
  · obtain ⟨G, v0, ws, r0, as, post, rfl, _, _, _, _, da, ⟨ps, ds0, n, ms, _, rfl, _⟩, _⟩ := h
    have := DpAll.len da
    simpa using this
  · refine ⟨_, (pss_cons (ps_asg (pe_c f_law_table hr (by decide) rfl (pa_cons (pv 1) pa_nil)) (pg_tup' K (n := 3) rfl (pgs_cons (pg_name (i := 2) sc_law_right.nd rfl (Or.inl rfl)) (pgs_cons (pg_name (i := 3) sc_law_right.nd rfl (Or.inl rfl)) (pgs_cons (pg_name (i := 4) sc_law_right.nd rfl (Or.inl rfl)) pgs_nil)))))
 (pss_cons (ps_par rfl sc_law_right.nd (i := 5) (j := 6) rfl rfl (by decide) rfl rfl (pa_cons (pe_mk mk_Monoid hr (by decide) rfl (pa_cons (pv 4) pa_nil)) (pa_cons (pe_c f_law_due hr (by decide) rfl (pa_cons (pv 3) (pa_cons (pv 4) pa_nil))) pa_nil)) rfl)
 (pss_cons (ps_set (i := 7) sc_law_right.nd rfl (Or.inl rfl) (pe_mt0 m_rules hr (by decide) (pv 5)))
 (pss_cons (ps_if (PW.pt (pw_or (pt_cmpR (op_neD' K hr.units) (pv 7) (pv 6) (nomark _)) (pw_or (pt_not (pt_val (pe_callB (call_isi' K) rfl B.b_isinstance (by decide +kernel) (pa_cons (pv 7) (pa_cons (pe_bltn (v := .ty "list") (u := .type "list") rfl B.b_list (by decide +kernel) rfl) pa_nil))))) (pw_or1 (pt_cmpR (op_neD' K hr.units) (pe_lcv [9] (pe_lc (own := [("_law_pair", 9)]) (g := gName 9)  rfl sc_law_right.nd (pi_list' K (pv 7)) (blkOk_by (own := [("_law_pair", 9)]) (N := N_law_right) (by kernel_rfl)) (fun _ _ _ _ _ => pg_name (i := 9) sc_law_right.nd rfl (Or.inl rfl)) (fun _ _ _ _ _ => (pts_one (pt_not (pt_val (pe_callB (call_isi' K) rfl B.b_isinstance (by decide +kernel) (pa_cons (pv 9) (pa_cons (pe_bltn (v := .ty "tuple") (u := .type "tuple") rfl B.b_tuple (by decide +kernel) rfl) pa_nil))))))) (fun _ _ _ _ _ => (pv 9)))) (pe_lst pa_nil) (nomark _)))))) (pss_one (ps_ret pe_bl)) pss_nil)
 (pss_cons (ps_expr (pe_bm' K PySem.F.plainAttrs_list PySem.F.slot_list_append PySem.F.type_list_append mt_append (pv 7) (pa_cons pe_non pa_nil)))
 (pss_cons (ps_if (PW.pt (pw_or (pt_cmpR (op_neD' K hr.units) (pe_mt0 m_rules hr (by decide) (pv 5)) (pv 6) (nomark _)) (pw_or1 (pt_cmpR op_gt (pe_callB (call_len_seq' K) rfl B.b_len (by decide +kernel) (pa_cons (pv 6) pa_nil)) (pe_op op_mul (pe_callB (call_len_seq' K) rfl B.b_len (by decide +kernel) (pa_cons (pv 2) pa_nil)) (pe_callB (call_len_seq' K) rfl B.b_len (by decide +kernel) (pa_cons (pv 1) pa_nil))) (nomark _))))) (pss_one (ps_ret pe_bl)) pss_nil)
 (pss_cons (ps_set (i := 8) sc_law_right.nd rfl (Or.inr rfl) (pe_ix (ix_list' K) (pe_lst (pa_cons pe_int (pa_cons pe_int (pa_cons pe_int (pa_cons pe_int (pa_cons pe_int (pa_cons pe_int (pa_cons pe_int pa_nil)))))))) (pe_callB (call_len_seq' K) rfl B.b_len (by decide +kernel) (pa_cons (pv 1) pa_nil)) (fun _ _ => rfl)))
 (pss_cons (ps_if (pt_cmpR op_gt (pe_callB (call_len_seq' K) rfl B.b_len (by decide +kernel) (pa_cons (pv 2) pa_nil)) pe_int (nomark _)) (pss_one (ps_ret pe_bl)) pss_nil)
 (pss_one (ps_ret (pe_cmpR (op_eqD' K hr.units) (pe_lcv [9] (pe_lc (own := [("_law_pair", 9)]) (g := gName 9)  rfl sc_law_right.nd (pi_list' K (pv 6)) (blkOk_by (own := [("_law_pair", 9)]) (N := N_law_right) (by kernel_rfl)) (fun _ _ _ _ _ => pg_name (i := 9) sc_law_right.nd rfl (Or.inl rfl)) (fun _ _ _ _ _ => (pts_one (pt_cmpR op_le (pe_callB call_len_str' rfl B.b_len (by decide +kernel) (pa_cons (pe_ix (ix_tup' K) (pv 9) pe_int (fun _ _ => rfl)) pa_nil)) (pv 8) (nomark _)))) (fun _ _ _ _ _ => (pv 9)))) (pe_c f_law_by_words hr (by decide) rfl (pa_cons (pv 1) (pa_cons (pv 2) (pa_cons (pv 3) (pa_cons (pv 8) pa_nil))))) (nomark _)))))))))))), bodyO h fun F r0 as post hK hio hW ret => ?_⟩
    subst hK
    obtain ⟨ps, ds0, n, ms, rfl, rfl, n1, n4, m1, m6, hm, k⟩ := hW
    show Rn F _ [.ow (tabR F.K T (.ol ps ds0)), .fz (.list (ms.map tupN)), .no, .no, .no, .no, .no, .no, .no, .no] _
    walk_at "ev"
    refine ⟨[_], rfl, n, ms, rfl, n1, n4, m1, m6, hm, fun found words t tab _ => ?_⟩
    have hwd := tab.wd
    subst hwd
    have D : Drawn n ms found (wordsOf (scanRows 0 t [])) t := ⟨tab, n4, m1, m6, hm⟩
    have g := D.good
    have htl := tab.tl
    have h256 := D.few
    walk_at "ev"
    refine ev_make ?_
    walk_at "ev"
    refine ⟨[_], rfl, fun pm dx pmio dxio => ⟨pm, dx, t, ms.length, rfl, rfl, g, fun q => ⟨rfl, ?_⟩⟩⟩
    show EA F _ [.ow (tabR F.K T (.ol ps ds0)), .fz (.list (ms.map tupN)), .fz (.list (found.map tupN)), .fz (wordsD t), .fz (.list (t.map lstN)), .no, .no, .no, .no, .no] _
    refine a_one (ev_callTF ?_)
    walk_at "ev"
    refine ⟨wordsD t, [.list (t.map lstN)], T, .ol ps ds0, 0, rfl, rfl, (by intro z; cases z), t, ms.length, rfl, rfl, g, fun p6 => ⟨rfl, fun hp6 => ?_⟩⟩
    have h6 := hp6 p6 (by simp [SD.fp])
    refine ⟨_, _, _, _, rfl, rfl, rfl, ?_⟩
    refine Nx.moveT (j := 0) (i := 5) rfl rfl (by intro z; cases z) ?_
    refine Nx.freezeS (i := 6) (p := p6) (ds := duesD t ms.length) rfl h6 ?_
    show Nx F _ [.ol ps ds0, .fz (.list (ms.map tupN)), .fz (.list (found.map tupN)), .fz (wordsD t), .fz (.list (t.map lstN)), .ow (tabR F.K T (monO F.K P w CM pm dx q t [])), .fz (.list (duesD t ms.length)), .no, .no, .no]
    refine nx_seq (rn_seq (rn_set (ev_methTab (T := T) (ev_tabA rfl pins_ins ?_))))
    refine ⟨pm, dx, _, _, 5, rfl, rfl, rfl, a_nil ⟨[], _, rfl, rfl, pins_tab pins_ins, pm, dx, q, t, ms.length, [], rfl, rfl, g, memOk_nil t, fun kvs1 p7 hm1 hp7 => ?_⟩⟩
    refine ⟨_, rfl, nx_seq ?_⟩
    show Rn F _ [.ol ps ds0, .fz (.list (ms.map tupN)), .fz (.list (found.map tupN)), .fz (wordsD t), .fz (.list (t.map lstN)), .ow (tabR F.K T (monO F.K P w CM pm dx q t kvs1)), .fz (.list (duesD t ms.length)), .ol p7 (duesD t ms.length), .no, .no] _
    have hdl : (duesD t ms.length).length ≤ 256 * 6 := by
      unfold duesD
      rw [List.length_map]
      exact Nat.le_trans (rulesN_len t ms.length t.length) (Nat.mul_le_mul (by omega) m6)
    refine rn_seq (rn_if (t_or (t_test (ev_op ?_))))
    walk_at "ev"
    refine o_neA (j := 7) rfl (shaped_dues g m6) (shaped_dues g m6) ?_
    rw [SeqAt.eqv_refl _ (lay_dues g m6)]
    refine ⟨_, rfl, iteF ?_⟩
    refine t_or (t_not (t_B (ev_isiA ?_)))
    walk_at "ev"
    refine ⟨p7, 7, _, true, rfl, rfl, rfl, ?_⟩
    refine ⟨_, rfl, iteF ?_⟩
    refine t_test (ev_op (SL.E.freeze (ev_lcA (i := 7) (j := 9) (p := p7) (ds := duesD t ms.length) rfl (by decide) rfl (by omega) fun S => ?_)))
    refine ⟨fun i acc δ' => acc = [] ∧ δ' = [.ol ps ds0, .fz (.list (ms.map tupN)), .fz (.list (found.map tupN)), .fz (wordsD t), .fz (.list (t.map lstN)), .ow (tabR F.K T (monO F.K P w CM pm dx q t kvs1)), .fz (.list (duesD t ms.length)), S, .no, .no], ⟨rfl, rfl⟩, ?_, ?_, ?_⟩
    · rintro i acc δ' ⟨rfl, rfl⟩
      exact ⟨rfl, rfl, by simp⟩
    · rintro F1 i d acc δ' hle hd ⟨rfl, rfl⟩
      rw [← hle.k]
      unfold duesD at hd
      obtain ⟨x, hx, rfl⟩ := map_item hd
      refine t_not (t_B (ev_isi ?_))
      unfold pairR pairD
      walk_at "ev"
      refine ⟨_, true, rfl, rfl, _, rfl, (if_neg (by simp)).mpr ⟨_, rfl, rfl, ?_⟩⟩
      rfl
    · rintro acc δ' q9 hq9 ⟨rfl, rfl⟩
      refine ⟨q9, [], hq9, rfl, ?_⟩
      refine SL.E.freeze ?_
      walk_at "ev"
      refine ⟨[], rfl, (by show 0 ≤ sizeLine; decide), fun pa qa => ⟨pa, [], qa, rfl, ?_⟩⟩
      refine o_neD (by decide) (by decide) ?_
      refine ⟨_, rfl, (if_neg (by simp [PyData.eqv, PyData.eqvAll])).mpr (rn_next (nx_seq ?_))⟩
      show Rn F _ [.ol ps ds0, .fz (.list (ms.map tupN)), .fz (.list (found.map tupN)), .fz (wordsD t), .fz (.list (t.map lstN)), .ow (tabR F.K T (monO F.K P w CM pm dx q t kvs1)), .fz (.list (duesD t ms.length)), .ol p7 (duesD t ms.length), .no, .no] _
      refine rn_seq (rn_drop (ev_append ?_))
      walk_at "ev"
      refine ⟨p7, 7, _, rfl, rfl, ?_⟩
      walk_at "ev"
      refine ⟨_, _, rfl, rfl, by omega, nx_seq ?_⟩
      show Rn F _ [.ol ps ds0, .fz (.list (ms.map tupN)), .fz (.list (found.map tupN)), .fz (wordsD t), .fz (.list (t.map lstN)), .ow (tabR F.K T (monO F.K P w CM pm dx q t kvs1)), .fz (.list (duesD t ms.length)), .ol p7 (duesD t ms.length ++ [.none]), .no, .no] _
      refine rn_seq (rn_if (t_or (t_test (ev_op (SL.E.freeze (ev_methTab (T := T) (ev_tabA rfl pins_ins ?_)))))))
      refine ⟨pm, dx, _, _, 5, rfl, rfl, rfl, a_nil ⟨[], _, rfl, rfl, pins_tab pins_ins, pm, dx, q, t, ms.length, kvs1, rfl, rfl, g, hm1, fun kvs2 p8 hm2 hp8 => ⟨p8, duesD t ms.length, hp8 p8 (by simp [SD.fp]), rfl, ?_⟩⟩⟩
      walk_at "ev"
      refine o_neD (shaped_dues g m6) (shaped_dues g m6) ?_
      rw [SeqAt.eqv_refl _ (lay_dues g m6)]
      refine ⟨_, rfl, iteF ?_⟩
      walk_at "ev"
      refine o_intC (Or.inl ⟨by rw [List.length_map]; omega, by rw [List.length_map]; omega⟩) ?_
      walk_at "ev"
      have hdl2 : (duesD t ms.length).length ≤ found.length * ms.length := by
        unfold duesD
        rw [List.length_map, ← htl]
        exact rulesN_len t ms.length t.length
      refine (if_neg (fun z => by
        have z2 := of_decide_eq_true z
        rw [List.length_map, List.length_map, ← Int.natCast_mul] at z2
        omega)).mpr (rn_next (nx_seq ?_))
      show Rn F _ [.ol ps ds0, .fz (.list (ms.map tupN)), .fz (.list (found.map tupN)), .fz (wordsD t), .fz (.list (t.map lstN)), .ow (tabR F.K T (monO F.K P w CM pm dx q t kvs2)), .fz (.list (duesD t ms.length)), .ol p7 (duesD t ms.length ++ [.none]), .no, .no] _
      refine rn_seq (rn_set (ev_op ?_))
      walk_at "ev"
      refine ⟨[_, _, _, _, _, _, _], rfl, (by show 7 ≤ sizeLine; decide), fun pb qb => ?_⟩
      walk_at "ev"
      obtain ⟨most, hmost, hle8, hpw⟩ : ∃ most : Nat, atI [PyData.int 0, .int 8, .int 6, .int 4, .int 3, .int 3, .int 3] (((ms.map tupN).length : Nat) : Int) = some (intN most) ∧ most ≤ 8 ∧ ∀ k, k ≤ most → ms.length ^ k ≤ 300 := by
        rw [List.length_map]
        have hcase : ms.length = 1 ∨ ms.length = 2 ∨ ms.length = 3 ∨ ms.length = 4 ∨ ms.length = 5 ∨ ms.length = 6 := by omega
        rcases hcase with z | z | z | z | z | z <;> rw [z]
        · exact ⟨8, rfl, by omega, fun k _ => by rw [Nat.one_pow]; omega⟩
        · exact ⟨6, rfl, by omega, fun k hk => Nat.le_trans (Nat.pow_le_pow_right (by omega) hk) (by decide)⟩
        · exact ⟨4, rfl, by omega, fun k hk => Nat.le_trans (Nat.pow_le_pow_right (by omega) hk) (by decide)⟩
        · exact ⟨3, rfl, by omega, fun k hk => Nat.le_trans (Nat.pow_le_pow_right (by omega) hk) (by decide)⟩
        · exact ⟨3, rfl, by omega, fun k hk => Nat.le_trans (Nat.pow_le_pow_right (by omega) hk) (by decide)⟩
        · exact ⟨3, rfl, by omega, fun k hk => Nat.le_trans (Nat.pow_le_pow_right (by omega) hk) (by decide)⟩
      refine o_ix .ol hmost ?_
      refine ⟨_, rfl, nx_seq ?_⟩
      show Rn F _ [.ol ps ds0, .fz (.list (ms.map tupN)), .fz (.list (found.map tupN)), .fz (wordsD t), .fz (.list (t.map lstN)), .ow (tabR F.K T (monO F.K P w CM pm dx q t kvs2)), .fz (.list (duesD t ms.length)), .ol p7 (duesD t ms.length ++ [.none]), .fz (intN most), .no] _
      walk_at "ev"
      have back : ∀ (S : SD), Rn F (tRet (tC (V.bl true))) [.ol ps ds0, .fz (.list (ms.map tupN)), .fz (.list (found.map tupN)), .fz (wordsD t), .fz (.list (t.map lstN)), .ow (tabR F.K T (monO F.K P w CM pm dx q t kvs2)), .fz (.list (duesD t ms.length)), S, .fz (intN most), .no] { nx := fun _ H' => Q .non H', rt := Q } := fun S => by
        refine Rn.moveT (j := 5) (i := 0) rfl rfl (by intro z; cases z) ?_
        refine rn_ret (ev_bl ?_)
        exact ret _ _ _ ps rfl (pins_tab pins_ol) (pins_tab pins_ol) k (fun a ha => ha)
      by_cases h40 : 40 < found.length
      · refine (if_pos (decide_eq_true (by rw [List.length_map]; omega))).mpr ?_
        exact back _
      · refine (if_neg (fun z => h40 (by have := of_decide_eq_true z; rw [List.length_map] at this; omega))).mpr (rn_next (nx_seq ?_))
        refine Rn.moveT (j := 5) (i := 0) rfl rfl (by intro z; cases z) ?_
        refine rn_ret (ev_op (SL.E.freeze (ev_lc (iw_list ?_))))
        walk_at "ev"
        refine ⟨rfl, by omega, fun i acc δ' => acc = (shortK t most (rulesN t ms.length t.length) i).map (pairR t) ∧ δ' = [.ow (tabR F.K T (.ol ps ds0)), .fz (.list (ms.map tupN)), .fz (.list (found.map tupN)), .fz (wordsD t), .fz (.list (t.map lstN)), monO F.K P w CM pm dx q t kvs2, .fz (.list (duesD t ms.length)), .ol p7 (duesD t ms.length ++ [.none]), .fz (intN most), .no], ⟨rfl, rfl⟩, ?_, ?_, ?_⟩
        · rintro i acc δ' ⟨rfl, rfl⟩
          refine ⟨rfl, ?_⟩
          rw [List.length_map]
          exact Nat.le_trans (List.length_filter_le _ _) (by rw [List.length_take]; omega)
        · rintro F1 i d acc δ' hle hd ⟨rfl, rfl⟩
          rw [← hle.k]
          unfold duesD at hd
          obtain ⟨x, hx, rfl⟩ := map_item hd
          have hxm := mem_rulesN.mp (show (x.1, x.2) ∈ rulesN t ms.length t.length from List.mem_of_getElem? hx)
          have hps := path_short g hxm.1
          have hsk := shortK_snoc (t := t) (most := most) hx
          walk_at "ev"
          refine o_ixT (ds := [.str (strP (pathOf t x.1 ++ [x.2])), .str (strP (pathOf t (act t 0 (pathOf t x.1 ++ [x.2]))))]) (atI_nat (j := 0) rfl) ?_
          refine b_lenS (by rw [strP_len]; exact Nat.le_trans (show (pathOf t x.1 ++ [x.2]).length ≤ 2001 by simp; omega) (by decide)) ?_
          walk_at "ev"
          rw [strP_len]
          by_cases hc : (pathOf t x.1 ++ [x.2]).length ≤ most
          · rw [if_pos hc] at hsk
            refine (if_pos (decide_eq_true (by omega))).mpr ?_
            walk_at "ev"
            refine ⟨?_, rfl⟩
            rw [hsk, List.map_append]
            rfl
          · rw [if_neg hc, List.append_nil] at hsk
            refine (if_neg (fun z => hc (by have := of_decide_eq_true z; omega))).mpr ?_
            exact ⟨_, rfl, by rw [hsk], rfl⟩
        · rintro acc δ' q9 hq9 ⟨rfl, rfl⟩
          refine ⟨q9, _, hq9, rfl, ?_⟩
          refine SL.E.freeze (ev_callF ?_)
          walk_at "ev"
          refine ⟨[_, _, _, _], rfl, n, ms, found, _, t, most, rfl, D, hle8, hpw, fun pc hpc => ⟨pc, _, hpc pc (by simp [SD.fp]), rfl, ?_⟩⟩
          have eqs : (shortK t most (rulesN t ms.length t.length) (duesD t ms.length).length).map (pairR t) = (byP t ms.length most).map (pairD t) := by
            rw [← rules_by g most]
            unfold shortK ruleP duesD
            rw [List.length_map, List.take_length, List.filter_map, List.map_map]
            rfl
          rw [eqs]
          have hby : (PyData.list ((byP t ms.length most).map (pairD t))).canLay0 = true ∧ (PyData.list ((byP t ms.length most).map (pairD t))).depth ≤ 60 := by
            rw [← eqs]
            refine ⟨lay_list fun d hd => ?_, Nat.le_trans (dep_list (k := 1) fun d hd => ?_) (by decide)⟩
            · obtain ⟨x, hx, rfl⟩ := List.mem_map.mp hd
              exact (lay_pairR g m6 (List.mem_of_mem_take (List.mem_filter.mp hx).1)).1
            · obtain ⟨x, hx, rfl⟩ := List.mem_map.mp hd
              exact (lay_pairR g m6 (List.mem_of_mem_take (List.mem_filter.mp hx).1)).2
          refine o_eqD (shaped_of hby.1 hby.2) (shaped_of hby.1 hby.2) ?_
          rw [SeqAt.eqv_refl _ hby.1]
          exact ret _ _ _ ps rfl (pins_tab pins_ol) (pins_tab pins_ol) k (fun a ha => ha)
end
end My

/-! tables that are written down: a look whether they are good; a line that bends back. -/
namespace Mt
open PySem
def ordRowB (i : Nat) : Nat → List Nat → List (Nat × Nat) → Bool
  | _, [], _ => true
  | l, o :: r, t => Nat.ble o (t.length + 1) && ordRowB i (l + 1) r (stp o i l t)
def ordRowsB : Nat → List (List Nat) → List (Nat × Nat) → Bool
  | _, [], _ => true
  | i, row :: rs, t => Nat.blt i (t.length + 1) && (ordRowB i 0 row t && ordRowsB (i + 1) rs (scanRow i 0 row t))
theorem ordRowB_ok (i : Nat) : ∀ (row : List Nat) (l : Nat) (t : List (Nat × Nat)), ordRowB i l row t = true → ordRow i l row t
  | [], _, _, _ => trivial
  | o :: r, l, t, h => by
    obtain ⟨h1, h2⟩ := Bool.and_eq_true_iff.mp h
    exact ⟨Nat.le_of_ble_eq_true h1, ordRowB_ok i r _ _ h2⟩
theorem ordRowsB_ok : ∀ (rows : List (List Nat)) (i : Nat) (t : List (Nat × Nat)), ordRowsB i rows t = true → ordRows i rows t
  | [], _, _, _ => trivial
  | row :: rs, i, t, h => by
    obtain ⟨h1, h2⟩ := Bool.and_eq_true_iff.mp h
    obtain ⟨h3, h4⟩ := Bool.and_eq_true_iff.mp h2
    exact ⟨Nat.le_of_ble_eq_true h1, ordRowB_ok i row 0 t h3, ordRowsB_ok rs _ _ h4⟩
def prodB (t ls : List (List Nat)) (L : Nat) : Bool := (List.range t.length).all fun i => (List.range L).all fun l => decide (ls.getD (colR t l i) [] = (ls.getD i []).map (colR t l))
def goodB (t : List (List Nat)) (L : Nat) : Bool := decide (1 ≤ t.length ∧ t.length ≤ 2000 ∧ 1 ≤ L ∧ L ≤ 6) && (t.all (fun r => decide (r.length = L) && r.all fun o => decide (o < t.length)) && (ordRowsB 0 t [] && (decide (t.length = (scanRows 0 t []).length + 1) && prodB t (leftsOf t (scanRows 0 t [])) L)))
theorem goodB_ok {t : List (List Nat)} {L : Nat} (h : goodB t L = true) : Good t L := by
  obtain ⟨h1, h⟩ := Bool.and_eq_true_iff.mp h
  obtain ⟨h2, h⟩ := Bool.and_eq_true_iff.mp h
  obtain ⟨h3, h⟩ := Bool.and_eq_true_iff.mp h
  obtain ⟨h4, h5⟩ := Bool.and_eq_true_iff.mp h
  obtain ⟨a, b, c, d⟩ := of_decide_eq_true h1
  have hr : ∀ r ∈ t, r.length = L ∧ ∀ o ∈ r, o < t.length := fun r hr => by
    obtain ⟨q1, q2⟩ := Bool.and_eq_true_iff.mp (List.all_eq_true.mp h2 r hr)
    exact ⟨of_decide_eq_true q1, fun o ho => of_decide_eq_true (List.all_eq_true.mp q2 o ho)⟩
  refine ⟨a, b, c, d, fun r q => (hr r q).1, fun r q => (hr r q).2, ordRowsB_ok _ _ _ h3, of_decide_eq_true h4, fun i l o r h6 h7 => ?_⟩
  have hi : i < t.length := (List.getElem?_eq_some_iff.mp h6).1
  have hl : l < L := by rw [← (hr r (List.mem_of_getElem? h6)).1]; exact (List.getElem?_eq_some_iff.mp h7).1
  have e : colR t l i = o := by
    unfold colR
    rw [List.getD_eq_getElem?_getD (l := t), h6, Option.getD_some, List.getD_eq_getElem?_getD, h7, Option.getD_some]
  have q := of_decide_eq_true (List.all_eq_true.mp (List.all_eq_true.mp h5 i (List.mem_range.mpr hi)) l (List.mem_range.mpr hl))
  rw [e] at q
  exact q
/-! ### one letter: a line of elements whose last one leads back -/
def bendT (n b : Nat) : List (List Nat) := (List.range n).map (fun i => [i + 1]) ++ [[b]]
structure Bend (t : List (List Nat)) (n b : Nat) : Prop where
  good : Good t 1
  len : t.length = n + 1
  tree : ∀ k, k < n → (scanRows 0 t [])[k]? = some (k, 0)
  col : ∀ k, k < n → colR t 0 k = k + 1
  last : colR t 0 n = b
  lt : b < n
section
variable {t : List (List Nat)} {n b : Nat}
theorem Bend.path (h : Bend t n b) : ∀ k, k ≤ n → pathOf t k = List.replicate k 0
  | 0, _ => h.good.path0
  | k + 1, hk => by
    rw [h.good.step (h.tree k hk), h.path k (by omega), List.replicate_succ']
theorem Bend.act0 (h : Bend t n b) {k : Nat} (hk : k ≤ n) : act t 0 (List.replicate k 0) = k := by
  rw [← h.path k hk]
  exact (h.good.path (by rw [h.len]; omega)).1
theorem Bend.least (h : Bend t n b) {k : Nat} (hk : k < n) : leastB t k 0 = true := by
  unfold leastB
  rw [h.col k hk, h.path _ hk, h.path _ (by omega), List.replicate_succ']
  exact decide_eq_true rfl
theorem Bend.rules (h : Bend t n b) (h1 : 1 ≤ n) : rulesN t 1 t.length = [(n, 0)] := by
  have key : ∀ k, k ≤ n → rulesN t 1 k = [] := by
    intro k
    induction k with
    | zero => intro _; rfl
    | succ k ih =>
      intro hk
      rw [rulesN_snoc, ih (by omega)]
      have e : ruleRow t k 1 = [] := by
        rw [ruleRow_snoc]
        have : ruleB t k 0 = false := by
          unfold ruleB
          rw [h.least hk]
          rfl
        rw [this]
        rfl
      rw [e]
      rfl
  rw [h.len, rulesN_snoc, key n (Nat.le_refl _), ruleRow_snoc]
  have hr : ruleB t n 0 = true := by
    unfold ruleB
    have e1 : leastB t n 0 = false := by
      unfold leastB
      rw [h.last, h.path _ (Nat.le_of_lt h.lt), h.path n (Nat.le_refl _)]
      refine decide_eq_false fun z => ?_
      have := congrArg List.length z
      simp at this
      have := h.lt
      omega
    have e2 : endN t n = n - 1 := by
      unfold endN
      rw [h.path n (Nat.le_refl _)]
      have : (List.replicate n 0).tail = List.replicate (n - 1) 0 := by rw [List.tail_replicate]
      rw [this, h.act0 (by omega)]
    rw [e1, e2, h.least (by omega)]
    simp
  rw [hr]
  rfl
theorem Bend.left (h : Bend t n b) : act t 0 (pathOf t n ++ [0]) = b := by
  rw [act_snoc, h.path n (Nat.le_refl _), h.act0 (Nat.le_refl _), h.last]
end
def bendB (t : List (List Nat)) (n b : Nat) : Bool := goodB t 1 && (decide (t.length = n + 1) && (decide (scanRows 0 t [] = (List.range n).map fun k => (k, 0)) && ((List.range n).all (fun k => decide (colR t 0 k = k + 1)) && (decide (colR t 0 n = b) && decide (b < n)))))
theorem bendB_ok {t : List (List Nat)} {n b : Nat} (h : bendB t n b = true) : Bend t n b := by
  obtain ⟨h1, h⟩ := Bool.and_eq_true_iff.mp h
  obtain ⟨h2, h⟩ := Bool.and_eq_true_iff.mp h
  obtain ⟨h3, h⟩ := Bool.and_eq_true_iff.mp h
  obtain ⟨h4, h⟩ := Bool.and_eq_true_iff.mp h
  obtain ⟨h5, h6⟩ := Bool.and_eq_true_iff.mp h
  refine ⟨goodB_ok h1, of_decide_eq_true h2, fun k hk => ?_, fun k hk => of_decide_eq_true (List.all_eq_true.mp h4 k (List.mem_range.mpr hk)), of_decide_eq_true h5, of_decide_eq_true h6⟩
  rw [of_decide_eq_true h3, List.getElem?_map, List.getElem?_range hk]
  rfl
theorem bend39 : Bend (bendT 39 7) 39 7 := bendB_ok (by decide +kernel)
theorem good_zero6 : Good [[0, 0, 0, 0, 0, 0]] 6 := goodB_ok (by decide +kernel)
theorem good_one2 : Good [[1, 1], [1, 1]] 2 := goodB_ok (by decide +kernel)
theorem rules_zero6 : rulesN [[0, 0, 0, 0, 0, 0]] 6 1 = [(0, 0), (0, 1), (0, 2), (0, 3), (0, 4), (0, 5)] := by decide +kernel
theorem rules_one2 : rulesN [[1, 1], [1, 1]] 2 2 = [(0, 1), (1, 0)] := by decide +kernel
end Mt

namespace My
open PySem L2 SL Mt Mx LamX
local macro_rules | `(tactic| walk_at "e1") => `(tactic| first
  | with_reducible refine nx_seq ?_ | with_reducible refine rn_seq ?_
  | with_reducible refine rn_set ?_ | with_reducible refine rn_ret ?_ | with_reducible refine rn_if ?_ | with_reducible refine rn_drop ?_ | with_reducible refine rn_next ?_
  | with_reducible refine ev_int ?_ | with_reducible refine ev_str ?_ | with_reducible refine ev_bl ?_ | with_reducible refine ev_non ?_
  | ((with_reducible refine' ev_fz ?vv ?_); (case vv => exact rfl))
  | ((with_reducible refine' ev_ol ?vv ?_); (case vv => exact rfl))
  | ((with_reducible refine' ev_al ?vv ?_); (case vv => exact rfl))
  | with_reducible refine ev_op ?_ | with_reducible refine ev_un ?_
  | with_reducible refine o_int ?_ | with_reducible refine o_bl ?_ | with_reducible refine u_int ?_
  | with_reducible refine o_eqI ?_ | with_reducible refine o_neI ?_ | with_reducible refine o_eqS ?_ | with_reducible refine o_neS ?_
  | with_reducible refine ev_isi ?_ | with_reducible refine ev_isi2 ?_ | with_reducible refine ev_cb ?_ | with_reducible refine a_one ?_ | with_reducible refine a_cons ?_ | with_reducible refine a_nil ?_
  | with_reducible refine b_abs ?_ | with_reducible refine b_int ?_ | with_reducible refine b_intb ?_
  | with_reducible refine b_lenL ?_ | with_reducible refine b_lenT ?_
  | with_reducible refine b_tupO ?_ | with_reducible refine b_tupL ?_ | with_reducible refine b_tupT ?_ | with_reducible refine t_yes ?_ | with_reducible refine iteT ?_ | with_reducible refine iteF ?_
  | with_reducible refine t_test ?_ | with_reducible refine t_B ?_ | with_reducible refine t_not ?_ | with_reducible refine t_and ?_ | with_reducible refine t_or ?_
  | with_reducible refine ev_lst ?_ | with_reducible refine ev_tup ?_ | with_reducible refine ev_callM ?_ | with_reducible refine ev_callF ?_ | with_reducible refine rn_setL ?_ | with_reducible refine rn_setDT ?_ | with_reducible refine rn_asg ?_ | ((with_reducible refine' ga_tup ?vv ?_); (case vv => exact rfl)) | with_reducible refine gas_nil ?_ | ((with_reducible refine' gas_name ?vv ?_); (case vv => exact rfl)) | ((with_reducible refine' rn_asgN ?vv ?_); (case vv => exact rfl))
  | with_reducible refine rn_par3 ?_ | with_reducible refine rn_par ?_ | with_reducible refine ev_tupRg ?_ | with_reducible refine ev_listRg ?_ | with_reducible refine ev_disp1T ?_ | with_reducible refine ev_dgetT ?_ | with_reducible refine ev_dnotinT ?_
  | with_reducible refine ev_append ?_ | with_reducible refine ev_extend ?_ | with_reducible refine ev_reverse ?_ | with_reducible refine ev_revL ?_
  | with_reducible refine ev_chain ?_ | with_reducible refine ev_and ?_ | with_reducible refine ev_or ?_ | with_reducible refine ev_not ?_ | with_reducible refine ev_if ?_
  | ((with_reducible refine' ev_oi ?vv ?_); (case vv => exact rfl)) | ((with_reducible refine' ev_ot ?vv ?_); (case vv => exact rfl)) | ((with_reducible refine' ev_od ?vv ?_); (case vv => exact rfl))
  | refine ⟨_, rfl, ?_⟩)
local macro_rules | `(tactic| walk_at "ev") => `(tactic| repeat (walk_at "e1"))

section
variable {P : Program} {w : World} {K : PySem.W.Frag} {mg : Str → Option Value} {base : Heap}
abbrev s_law : Stmt := top 29
abbrev N_law : List Str := ["_law_script", "_law_cell", "_law_source_here", "_law_turn", "_law_ring", "_law_letter", "_law_number"]
theorem sc_law : FnScope N_law ["_law_script"] (defScope s_law) := ⟨rfl, rfl, rfl, by decide +kernel, rfl, by decide +kernel, by decide +kernel⟩

set_option maxHeartbeats 2000000 in
theorem ok_law {f : Addr} {T : List (Addr × Str)} {fd : FuncData} {CM : Addr} (Fn : Fun K "law" "law" s_law f fd) (B : Bt mg) (f_law_source : Cal P w K mg base 1 "_law_source" (SpF K Wsource)) (f_law_maps : Cal P w K mg base 2 "_law_maps" (SpM K Wmaps)) (f_law_mixed : Cal P w K mg base 2 "_law_mixed" (SpM K Wmixed))
    (f_law_right : Cal P w K mg base 5 "_law_right" (SpO K (Wright K T))) (mk_Monoid : Mak P w K mg base 3 "Monoid" CM (SpO K (Winit K P w CM))) (m_rules : Met P w K mg base 4 CM "rules" (SpO K (Wrules K P w CM T))) :
    FnOk P w K mg base CX0 6 f fd ["_law_script"] (SpSt K T) := by
  refine Fn.ok sc_law (fun vs H Q E h => ?_) (fun cdv A outer s H vs Q E hr h => ?_)
  · obtain ⟨G, a, ns, _, rfl, _⟩ := h
    rfl
  · refine ⟨_, (pss_cons (ps_for PassesOwn.never rfl (pi_list' K (pe_slice (sl_list' K) (pe_op (op_catS' K) (pv 0) (pe_lst (pa_cons pe_int pa_nil))) po_none (po_some pe_int))) (pg_name (i := 1) sc_law.nd rfl (Or.inl rfl)) (pss_cons (ps_set (i := 2) sc_law.nd rfl (Or.inl rfl) (pe_c f_law_source hr (by decide) rfl (pa_cons (pv 1) pa_nil)))
 (pss_one (ps_for PassesOwn.never rfl (pi_range1 rfl B.b_range (pa_cons pe_int pa_nil)) (pg_name (i := 3) sc_law.nd rfl (Or.inl rfl)) (pss_one (ps_if (pt_not (pt_val (pe_c f_law_right hr (by decide) rfl (pa_cons (pv 2) (pa_cons (pe_c f_law_mixed hr (by decide) rfl (pa_cons (pv 2) (pa_cons (pe_c f_law_maps hr (by decide) rfl (pa_cons (pv 2) (pa_cons (pe_op op_sub pe_int (pe_callTy call_int1' rfl B.b_int (by decide +kernel) (pa_cons (pe_cmpR op_eq (pv 3) pe_int (nomark _)) pa_nil))) (pa_cons (pe_op op_sub pe_int (pe_op op_mul pe_int (pe_callTy call_int1' rfl B.b_int (by decide +kernel) (pa_cons (pe_cmpR op_gt (pv 3) pe_int (nomark _)) pa_nil)))) pa_nil)))) pa_nil))) pa_nil))))) (pss_one (ps_ret pe_bl)) pss_nil))))))
 (pss_cons (ps_if (pt_cmpR (op_neD' K hr.units) (pe_mt0 m_rules hr (by decide) (pe_mk mk_Monoid hr (by decide) rfl (pa_cons (pe_lst (pa_cons (pe_op op_rep (pe_lst (pa_cons pe_int pa_nil)) pe_int) pa_nil)) pa_nil))) (pe_lcv [5] (pe_lc (own := [("_law_letter", 5)]) (g := gName 5) (tt := tYes) rfl sc_law.nd (pi_str pe_str) (blkOk_by (own := [("_law_letter", 5)]) (N := N_law) (by kernel_rfl)) (fun _ _ _ _ _ => pg_name (i := 5) sc_law.nd rfl (Or.inl rfl)) (fun _ _ _ _ _ => pts_nil) (fun _ _ _ _ _ => (pe_tup (pa_cons (pv 5) (pa_cons pe_str pa_nil)))))) (nomark _)) (pss_one (ps_ret pe_bl)) pss_nil)
 (pss_cons (ps_if (pt_cmpR (op_neD' K hr.units) (pe_mt0 m_rules hr (by decide) (pe_mk mk_Monoid hr (by decide) rfl (pa_cons (pe_lst (pa_cons (pe_lst (pa_cons pe_int (pa_cons pe_int pa_nil))) (pa_cons (pe_lst (pa_cons pe_int (pa_cons pe_int pa_nil))) pa_nil))) pa_nil))) (pe_lst (pa_cons (pe_tup (pa_cons pe_str (pa_cons pe_str pa_nil))) (pa_cons (pe_tup (pa_cons pe_str (pa_cons pe_str pa_nil))) pa_nil))) (nomark _)) (pss_one (ps_ret pe_bl)) pss_nil)
 (pss_cons (ps_set (i := 4) sc_law.nd rfl (Or.inl rfl) (pe_mk mk_Monoid hr (by decide) rfl (pa_cons (pe_op (op_catS' K) (pe_lcv [6] (pe_lc (own := [("_law_number", 6)]) (g := gName 6) (tt := tYes) rfl sc_law.nd (pi_range1 rfl B.b_range (pa_cons pe_int pa_nil)) (blkOk_by (own := [("_law_number", 6)]) (N := N_law) (by kernel_rfl)) (fun _ _ _ _ _ => pg_name (i := 6) sc_law.nd rfl (Or.inl rfl)) (fun _ _ _ _ _ => pts_nil) (fun _ _ _ _ _ => (pe_lst (pa_cons (pe_op op_add (pv 6) pe_int) pa_nil))))) (pe_lst (pa_cons (pe_lst (pa_cons pe_int pa_nil)) pa_nil))) pa_nil)))
 (pss_one (ps_ret (pe_cmpR (op_eqD' K hr.units) (pe_mt0 m_rules hr (by decide) (pv 4)) (pe_lst (pa_cons (pe_tup (pa_cons (pe_op op_mulS pe_str pe_int) (pa_cons (pe_op op_mulS pe_str pe_int) pa_nil))) pa_nil)) (nomark _)))))))), bodySt h fun F a ns hK hio hns ret => ?_⟩
    subst hK
    show Rn F _ [.ow (tabR F.K T (.ow (scrO F.K a ns))), .no, .no, .no, .no, .no, .no] _
    refine rn_seq (rn_for (Iw.park (j := 0) rfl (iw_script (n := 3) rfl hns fun cells hc => ?_)))
    refine ⟨_, rfl, (by intro z; cases z), fun i δ' => ∃ (s1 s2 s3 : SD), δ' = [.ow (tabR F.K T (.ow (scrO F.K a ns))), s1, s2, s3, .no, .no, .no], ⟨_, _, _, rfl⟩, ?_, ?_⟩
    · rintro F' i d δ' N hle hd ⟨s1, s2, s3, rfl⟩ hN
      rw [← hle.k]
      obtain ⟨n0, _, rfl⟩ := map_item hd
      refine rn_asgN (i := 1) rfl ?_
      walk_at "ev"
      refine ⟨[_], rfl, n0, rfl, fun ps ds4 hs4 hp4 => ?_⟩
      walk_at "ev"
      refine rn_for (iw_range1 ?_)
      walk_at "ev"
      refine ⟨by decide, by decide, fun j δ' => ∃ (ds5 : List PyData) (s3 : SD), SrcD ds5 ∧ δ' = [.ow (tabR F'.K T (.ow (scrO F'.K a ns))), .fz (.int n0), .ol ps ds5, s3, .no, .no, .no], ⟨_, _, hs4, rfl⟩, ?_, ?_⟩
      · clear s3
        rintro F2 j d2 δ' N2 hle2 hd2 ⟨ds5, s3, hs5, rfl⟩ hN2
        rw [← hle2.k]
        have hdj : d2 = intN j := range_item hd2
        subst hdj
        refine rn_asgN (i := 3) rfl ?_
        refine rn_if (t_not (t_B (ev_callP (SL.EA.moveT (a_cons (ev_ol rfl (a_one (SL.E.freezeM (ev_callM (a_cons (ev_ol rfl (a_one (SL.E.freeze (ev_callM ?_))))))))))))))
        walk_at "ev"
        have hb1 : ∀ b : Bool, (if b = true then (1 : Int) else 0) = 0 ∨ (if b = true then (1 : Int) else 0) = 1 := fun b => by cases b <;> simp
        obtain ⟨mp, hmp, mp1, mp2⟩ : ∃ mp : Nat, (4 - if decide ((j : Int) = 2) = true then (1 : Int) else 0) = (mp : Int) ∧ 1 ≤ mp ∧ mp ≤ 4 := by
          rcases hb1 (decide ((j : Int) = 2)) with z | z <;> rw [z]
          · exact ⟨4, rfl, by omega, by omega⟩
          · exact ⟨3, rfl, by omega, by omega⟩
        obtain ⟨ml, hml, ml1, ml2⟩ : ∃ ml : Nat, (6 - 3 * if decide (0 < (j : Int)) = true then (1 : Int) else 0) = (ml : Int) ∧ 1 ≤ ml ∧ ml ≤ 6 := by
          rcases hb1 (decide (0 < (j : Int))) with z | z <;> rw [z]
          · exact ⟨6, rfl, by omega, by omega⟩
          · exact ⟨3, rfl, by omega, by omega⟩
        refine o_intC (Or.inl ⟨by decide, by decide⟩) ?_
        walk_at "ev"
        rw [hmp, hml]
        refine ⟨ps, [_, _], 2, _, rfl, rfl, hs5, mp, ml, rfl, mp1, by omega, ml1, by omega, fun p6 n ms ds6 m1 m4 c1 c6 hmaps hs6 hp6 => ⟨p6, _, hp6 p6 (by simp [SD.fp]), rfl, ?_⟩⟩
        refine ⟨ps, [_], 2, _, rfl, rfl, hs6, n, ms, rfl, m1, by omega, c1, by omega, hmaps, fun r ms' ds7 hr7 l1 l6 hm' hs7 hio7 => ?_⟩
        rcases hr7 with ⟨p7, rfl⟩ | rfl
        · refine .inl ⟨p7, _, hio7 p7 (by simp [SD.fp]), rfl, ?_⟩
          refine ⟨T, .ow (scrO F2.K a ns), 0, 2, .ol ps ds7, rfl, rfl, (by intro z; cases z), ps, [_], 2, _, rfl, rfl, pins_tab pins_ol, ps, ds7, n, ms', rfl, rfl, m1, by omega, l1, l6, hm', fun _ => ⟨_, rfl, (if_neg (by simp)).mpr (rn_next ?_)⟩⟩
          refine Nx.moveT (j := 2) (i := 0) rfl rfl (by intro z; cases z) ?_
          refine hN2 _ ⟨ds7, .fz (intN j), hs7, ?_⟩
          rw [hle2.k]
          rfl
        · refine .inr ⟨_, rfl, ?_⟩
          refine ⟨T, .ow (scrO F2.K a ns), 0, 2, .ol ps ds7, rfl, rfl, (by intro z; cases z), ps, [_], 2, _, rfl, rfl, pins_tab pins_ol, ps, ds7, n, ms', rfl, rfl, m1, by omega, l1, l6, hm', fun _ => ⟨_, rfl, (if_neg (by simp)).mpr (rn_next ?_)⟩⟩
          refine Nx.moveT (j := 2) (i := 0) rfl rfl (by intro z; cases z) ?_
          refine hN2 _ ⟨ds7, .fz (intN j), hs7, ?_⟩
          rw [hle2.k]
          rfl
      · rintro δ' ⟨ds5, s3, hs5, rfl⟩
        refine hN _ ⟨.fz (.int n0), .ol ps ds5, s3, ?_⟩
        rw [hle.k]
    · rintro δ' ⟨s1, s2, s3, rfl⟩
      refine nx_seq (rn_seq (rn_if (t_test (ev_op (SL.E.freeze (ev_methTT (ev_make (a_one (SL.E.freeze (ev_lst (a_one (SL.E.freeze (ev_op ?_)))))))))))))
      walk_at "ev"
      refine ⟨[_], rfl, (by show 1 ≤ sizeLine; decide), fun p1 q1 => ?_⟩
      walk_at "ev"
      refine o_rep (n := 6) (by decide) (by decide) (by decide) fun p2 q2 => ⟨p2, _, q2, rfl, ?_⟩
      refine ⟨[_], rfl, (by show 1 ≤ sizeLine; decide), fun p3 q3 => ⟨p3, _, q3, rfl, ?_⟩⟩
      refine ⟨[_], rfl, fun pm dx pmio dxio => ⟨pm, dx, [[0, 0, 0, 0, 0, 0]], 6, rfl, rfl, good_zero6, fun q => ⟨rfl, ?_⟩⟩⟩
      refine ⟨pm, dx, _, _, rfl, rfl, a_nil ⟨[], T, _, 0, rfl, rfl, (by intro z; cases z), pm, dx, q, [[0, 0, 0, 0, 0, 0]], 6, [], rfl, rfl, good_zero6, memOk_nil _, fun kvs1 p4 hm4 => ⟨⟨_, rfl, (by intro z; cases z)⟩, fun hp4 => ⟨p4, _, hp4 p4 (by simp [SD.fp]), rfl, ?_⟩⟩⟩⟩
      refine SL.E.freeze (ev_lc (iw_str ?_))
      walk_at "ev"
      refine ⟨rfl, by decide +kernel, fun i acc δ' => acc = ((signsD "abcdef").take i).map (fun d => PyData.tuple [d, .str ""]) ∧ δ' = [.ow (tabR F.K T (.ow (scrO F.K a ns))), s1, s2, s3, .no, .no, .no], ⟨rfl, rfl⟩, ?_, ?_, ?_⟩
      · rintro i acc δ' ⟨rfl, rfl⟩
        refine ⟨rfl, ?_⟩
        rw [List.length_map, List.length_take]
        omega
      · rintro F1 i d acc δ' hle hd ⟨rfl, rfl⟩
        rw [← hle.k]
        walk_at "ev"
        refine ⟨[_, _], rfl, (by show 2 ≤ sizeLine; decide), _, rfl, _, rfl, ?_, rfl⟩
        rw [List.take_succ, hd, List.map_append]
        rfl
      · rintro acc δ' q5 hq5 ⟨rfl, rfl⟩
        refine ⟨q5, _, hq5, rfl, ?_⟩
        have e1 : ((signsD "abcdef").take (signsD "abcdef").length).map (fun d => PyData.tuple [d, .str ""]) = duesD [[0, 0, 0, 0, 0, 0]] 6 := by
          rw [List.take_length]
          unfold duesD
          show _ = (rulesN [[0, 0, 0, 0, 0, 0]] 6 1).map _
          rw [rules_zero6]
          rfl
        rw [e1]
        refine o_neD (shaped_dues good_zero6 (by decide)) (shaped_dues good_zero6 (by decide)) ?_
        rw [show PyData.eqv (.list ((rulesN [[0, 0, 0, 0, 0, 0]] 6 [[0, 0, 0, 0, 0, 0]].length).map (pairR [[0, 0, 0, 0, 0, 0]]))) (.list (duesD [[0, 0, 0, 0, 0, 0]] 6)) = true from SeqAt.eqv_refl _ (lay_dues good_zero6 (by decide))]
        refine ⟨_, rfl, (if_neg (by simp)).mpr (rn_next (nx_seq ?_))⟩
        refine rn_seq (rn_if (t_test (ev_op (SL.E.freeze (ev_methTT (ev_make (a_one (SL.E.freeze (ev_lst (a_cons (SL.E.freeze ?_)))))))))))
        walk_at "ev"
        refine ⟨[_, _], rfl, (by show 2 ≤ sizeLine; decide), fun p1 q1 => ⟨p1, _, q1, rfl, ?_⟩⟩
        refine a_one (SL.E.freeze ?_)
        walk_at "ev"
        refine ⟨[_, _], rfl, (by show 2 ≤ sizeLine; decide), fun p2 q2 => ⟨p2, _, q2, rfl, ?_⟩⟩
        refine ⟨[_, _], rfl, (by show 2 ≤ sizeLine; decide), fun p3 q3 => ⟨p3, _, q3, rfl, ?_⟩⟩
        refine ⟨[_], rfl, fun pm dx pmio dxio => ⟨pm, dx, [[1, 1], [1, 1]], 2, rfl, rfl, good_one2, fun q => ⟨rfl, ?_⟩⟩⟩
        refine ⟨pm, dx, _, _, rfl, rfl, a_nil ⟨[], T, _, 0, rfl, rfl, (by intro z; cases z), pm, dx, q, [[1, 1], [1, 1]], 2, [], rfl, rfl, good_one2, memOk_nil _, fun kvs1 p4 hm4 => ⟨⟨_, rfl, (by intro z; cases z)⟩, fun hp4 => ⟨p4, _, hp4 p4 (by simp [SD.fp]), rfl, ?_⟩⟩⟩⟩
        refine SL.E.freeze ?_
        walk_at "ev"
        refine ⟨[_, _], rfl, (by show 2 ≤ sizeLine; decide), ?_⟩
        walk_at "ev"
        refine ⟨[_, _], rfl, (by show 2 ≤ sizeLine; decide), ?_⟩
        refine ⟨[_, _], rfl, (by show 2 ≤ sizeLine; decide), fun p5 q5 => ⟨p5, _, q5, rfl, ?_⟩⟩
        have e2 : [PyData.tuple [.str "b", .str "a"], .tuple [.str "aa", .str "a"]] = duesD [[1, 1], [1, 1]] 2 := by
          unfold duesD
          show _ = (rulesN [[1, 1], [1, 1]] 2 2).map _
          rw [rules_one2]
          rfl
        rw [e2]
        refine o_neD (shaped_dues good_one2 (by decide)) (shaped_dues good_one2 (by decide)) ?_
        rw [show PyData.eqv (.list ((rulesN [[1, 1], [1, 1]] 2 [[1, 1], [1, 1]].length).map (pairR [[1, 1], [1, 1]]))) (.list (duesD [[1, 1], [1, 1]] 2)) = true from SeqAt.eqv_refl _ (lay_dues good_one2 (by decide))]
        refine ⟨_, rfl, (if_neg (by simp)).mpr (rn_next (nx_seq ?_))⟩
        refine rn_seq (rn_set (ev_make (a_one (SL.E.freeze (ev_op (ev_lc (iw_range1 ?_)))))))
        walk_at "ev"
        refine ⟨by decide, by decide, rfl, by decide +kernel, fun i acc δ' => acc = (List.range i).map (fun k => lstN [k + 1]) ∧ δ' = [.ow (tabR F.K T (.ow (scrO F.K a ns))), s1, s2, s3, .no, .no, .no], ⟨rfl, rfl⟩, ?_, ?_, ?_⟩
        · rintro i acc δ' ⟨rfl, rfl⟩
          exact ⟨rfl, by simp⟩
        · rintro F1 i d acc δ' hle hd ⟨rfl, rfl⟩
          rw [← hle.k]
          have hdi : d = intN i := range_item hd
          subst hdi
          refine t_yes ((if_pos rfl).mpr (SL.E.freeze ?_))
          walk_at "ev"
          refine ⟨[_], rfl, (by show 1 ≤ sizeLine; decide), fun p6 q6 => ⟨p6, _, q6, rfl, ?_⟩⟩
          refine ⟨_, rfl, _, rfl, ?_, rfl⟩
          rw [List.range_succ, List.map_append]
          rfl
        · rintro acc δ' q6 hq6 ⟨rfl, rfl⟩
          refine ev_lst (a_one (SL.E.freeze ?_))
          walk_at "ev"
          refine ⟨[_], rfl, (by show 1 ≤ sizeLine; decide), fun p7 q7 => ⟨p7, _, q7, rfl, ?_⟩⟩
          refine ⟨[_], rfl, (by show 1 ≤ sizeLine; decide), fun p8 q8 => ?_⟩
          refine o_cat .ol .ol (by rw [List.length_map, List.length_range]; decide +kernel) fun p9 q9 => ⟨p9, _, q9, rfl, ?_⟩
          have e3 : (List.range (rangeD 0 (39 : Int).toNat).length).map (fun k => lstN [k + 1]) ++ [PyData.list [.int 7]] = (bendT 39 7).map lstN := by
            unfold bendT
            rw [rangeD_len, List.map_append, List.map_map]
            rfl
          rw [e3]
          refine ⟨[_], rfl, fun pm dx pmio dxio => ⟨pm, dx, bendT 39 7, 1, rfl, rfl, bend39.good, fun q => ⟨rfl, ?_⟩⟩⟩
          refine ⟨_, rfl, nx_seq ?_⟩
          refine Rn.moveT (j := 0) (i := 4) rfl rfl (by intro z; cases z) ?_
          refine rn_ret (ev_op (SL.E.freeze (ev_methTab (T := T) (ev_tabA rfl pins_ins ?_))))
          refine ⟨pm, dx, _, _, 4, rfl, rfl, rfl, a_nil ⟨[], _, rfl, rfl, pins_tab pins_ins, pm, dx, q, bendT 39 7, 1, [], rfl, rfl, bend39.good, memOk_nil _, fun kvs1 p4 hm4 hp4 => ⟨p4, _, hp4 p4 (by simp [SD.fp]), rfl, ?_⟩⟩⟩
          refine SL.E.freeze ?_
          walk_at "ev"
          refine o_mulS (n := 40) (by decide) (by decide) (by decide) (by decide) ?_
          walk_at "ev"
          refine o_mulS (n := 7) (by decide) (by decide) (by decide) (by decide) ?_
          refine ⟨[_, _], rfl, (by show 2 ≤ sizeLine; decide), ?_⟩
          refine ⟨[_], rfl, (by show 1 ≤ sizeLine; decide), fun pa qa => ⟨pa, _, qa, rfl, ?_⟩⟩
          have e4 : [PyData.tuple [.str (repS "a" 40), .str (repS "a" 7)]] = duesD (bendT 39 7) 1 := by
            unfold duesD
            rw [bend39.rules (by decide)]
            show _ = [PyData.tuple [.str (strP (pathOf (bendT 39 7) 39 ++ [0])), .str (strP (pathOf (bendT 39 7) (act (bendT 39 7) 0 (pathOf (bendT 39 7) 39 ++ [0]))))]]
            rw [bend39.left, bend39.path 39 (by decide), bend39.path 7 (by decide)]
            rfl
          rw [e4]
          refine o_eqD (shaped_dues bend39.good (by decide)) (shaped_dues bend39.good (by decide)) ?_
          rw [show PyData.eqv (.list ((rulesN (bendT 39 7) 1 (bendT 39 7).length).map (pairR (bendT 39 7)))) (.list (duesD (bendT 39 7) 1)) = true from SeqAt.eqv_refl _ (lay_dues bend39.good (by decide))]
          exact ret _
end
end My

set_option maxHeartbeats 0
namespace My
open PySem PySem.Spec PyProof.Rows L2 SL
theorem fun_code {K : PySem.W.Frag} {x q : PySem.Str} {st : PySem.Stmt} {p : He.Defn} {fd : FuncData} (F : Fun K x q st (He.fAd K p) fd) : fd.code = .ref (He.cT K p).1 := by
  obtain ⟨oc, od, kV, doc, pm, an, cdv, ct, osl, rfl, lk, hcd⟩ := F.ex
  obtain ⟨c, rfl⟩ := He.codeIn_ref hcd
  have := He.codeOf_eq lk rfl
  show Value.ref c = .ref (He.codeOf K p)
  rw [this]
def TT (K : PySem.W.Frag) : List (Addr × PySem.Str) := [((He.cT K ("_law_due", none)).2, "_law_due.<locals>.<lambda>"), ((He.cT K ("Monoid", some "rules")).2, "Monoid.rules.<locals>.<lambda>")]
theorem facts {P : Program} {w : World} {K : PySem.W.Frag} {h : Heap} {mg : Str → Option Value} {f : Addr} (X : K.In h) (G : h.Ns mainGlobals mg) (hfa : mg ("law" : Str) = some (.ref f)) (c : He.SaysD fa fn K) (cx : exq K = true) :
    ∃ fd : FuncData, (∀ (s : Shared) (v : Value), BindsTo s fd ⟨[v], []⟩ [("_law_script", v)]) ∧ ∀ base : Heap, K.In base → base.Ns mainGlobals mg → (∀ p ∈ tf.map (He.cT K), LamX.TabB base mg p.1 p.2) → FnOk P w K mg base CX0 6 f fd ["_law_script"] (SpSt K (TT K)) := by
  have b_len : mg "len" = none := He.free_ok X G (c.fact 0 (f := .free "len") rfl)
  have b_abs : mg "abs" = none := He.free_ok X G (c.fact 1 (f := .free "abs") rfl)
  have b_int : mg "int" = none := He.free_ok X G (c.fact 2 (f := .free "int") rfl)
  have b_tuple : mg "tuple" = none := He.free_ok X G (c.fact 3 (f := .free "tuple") rfl)
  have b_list : mg "list" = none := He.free_ok X G (c.fact 4 (f := .free "list") rfl)
  have b_range : mg "range" = none := He.free_ok X G (c.fact 5 (f := .free "range") rfl)
  have b_enumerate : mg "enumerate" = none := He.free_ok X G (c.fact 6 (f := .free "enumerate") rfl)
  have b_zip : mg "zip" = none := He.free_ok X G (c.fact 7 (f := .free "zip") rfl)
  have b_all : mg "all" = none := He.free_ok X G (c.fact 8 (f := .free "all") rfl)
  have b_repr : mg "repr" = none := He.free_ok X G (c.fact 9 (f := .free "repr") rfl)
  have b_isinstance : mg "isinstance" = none := He.free_ok X G (c.fact 10 (f := .free "isinstance") rfl)
  have b_bool : mg "bool" = none := He.free_ok X G (c.fact 11 (f := .free "bool") rfl)
  have b_str : mg "str" = none := He.free_ok X G (c.fact 12 (f := .free "str") rfl)
  have b_dict : mg "dict" = none := He.free_ok X G (c.fact 13 (f := .free "dict") rfl)
  have b_sorted : mg "sorted" = none := He.free_ok X G (c.fact 14 (f := .free "sorted") rfl)
  have B : Bt mg := ⟨b_len, b_abs, b_int, b_tuple, b_list, b_range, b_enumerate, b_zip, b_all, b_repr, b_isinstance, b_bool, b_str, b_dict, b_sorted⟩
  have g_MOST_ELEMENTS := gint (He.int_ok X G (c.fact 15 (f := .int "MOST_ELEMENTS" 2000) rfl))
  have g_MOST_LETTERS := gint (He.int_ok X G (c.fact 16 (f := .int "MOST_LETTERS" 6) rfl))
  have g_LETTERS := gstr (He.str_ok X G (c.fact 17 (f := .str "LETTERS" "abcdef") rfl))
  have C : Ct mg := ⟨g_MOST_ELEMENTS, g_MOST_LETTERS, g_LETTERS⟩
  have glo_Monoid := He.glo_ok X G (c.fact 18 (f := .glo "Monoid") rfl)
  have cls_Monoid := He.cls_ok (c.fact 19 (f := .cls "Monoid") rfl)
  have noat_Monoid_right := He.noat_ok (c.fact 20 (f := .noat "Monoid" "right") rfl)
  have noat_Monoid_tree := He.noat_ok (c.fact 21 (f := .noat "Monoid" "tree") rfl)
  have noat_Monoid_lefts := He.noat_ok (c.fact 22 (f := .noat "Monoid" "lefts") rfl)
  have noat_Monoid_memory := He.noat_ok (c.fact 23 (f := .noat "Monoid" "memory") rfl)
  have meth_Monoid_all_words := He.meth_ok (c.fact 24 (f := .meth "Monoid" "all_words") rfl)
  have meth_Monoid_ends := He.meth_ok (c.fact 25 (f := .meth "Monoid" "ends") rfl)
  have meth_Monoid_is_least := He.meth_ok (c.fact 26 (f := .meth "Monoid" "is_least") rfl)
  have meth_Monoid_is_rule := He.meth_ok (c.fact 27 (f := .meth "Monoid" "is_rule") rfl)
  have meth_Monoid_rules := He.meth_ok (c.fact 28 (f := .meth "Monoid" "rules") rfl)
  have mkr_Monoid := He.mkr_ok (c.fact 29 (f := .mkr "Monoid") rfl)
  have M : MC K (He.ga K "Monoid") := ⟨cls_Monoid, noat_Monoid_right, noat_Monoid_tree, noat_Monoid_lefts, noat_Monoid_memory⟩
  obtain ⟨fd_is_number, D_is_number⟩ := c.def_ 0 (d := d_is_number) rfl
  have F_is_number : Fun K "is_number" "is_number" s_is_number _ fd_is_number := fun_ofD D_is_number
  have bd_is_number : Binds K fd_is_number ["thing"] [] := F_is_number.binds fun _ _ _ _ _ _ us hl => match us, hl with | [_], _ => rfl
  have glo_is_number := He.glo_ok X G (c.fact 30 (f := .glo "is_number") rfl)
  obtain ⟨fd_is_sequence, D_is_sequence⟩ := c.def_ 1 (d := d_is_sequence) rfl
  have F_is_sequence : Fun K "is_sequence" "is_sequence" s_is_sequence _ fd_is_sequence := fun_ofD D_is_sequence
  have bd_is_sequence : Binds K fd_is_sequence ["thing"] [] := F_is_sequence.binds fun _ _ _ _ _ _ us hl => match us, hl with | [_], _ => rfl
  have glo_is_sequence := He.glo_ok X G (c.fact 31 (f := .glo "is_sequence") rfl)
  obtain ⟨fd_check_form, D_check_form⟩ := c.def_ 2 (d := d_check_form) rfl
  have F_check_form : Fun K "check_form" "check_form" s_check_form _ fd_check_form := fun_ofD D_check_form
  have bd_check_form : Binds K fd_check_form ["right"] [] := F_check_form.binds fun _ _ _ _ _ _ us hl => match us, hl with | [_], _ => rfl
  have glo_check_form := He.glo_ok X G (c.fact 32 (f := .glo "check_form") rfl)
  obtain ⟨fd_check_order, D_check_order⟩ := c.def_ 3 (d := d_check_order) rfl
  have F_check_order : Fun K "check_order" "check_order" s_check_order _ fd_check_order := fun_ofD D_check_order
  have bd_check_order : Binds K fd_check_order ["right"] [] := F_check_order.binds fun _ _ _ _ _ _ us hl => match us, hl with | [_], _ => rfl
  have glo_check_order := He.glo_ok X G (c.fact 33 (f := .glo "check_order") rfl)
  obtain ⟨fd_tree_of, D_tree_of⟩ := c.def_ 4 (d := d_tree_of) rfl
  have F_tree_of : Fun K "tree_of" "tree_of" s_tree_of _ fd_tree_of := fun_ofD D_tree_of
  have bd_tree_of : Binds K fd_tree_of ["right"] [] := F_tree_of.binds fun _ _ _ _ _ _ us hl => match us, hl with | [_], _ => rfl
  have glo_tree_of := He.glo_ok X G (c.fact 34 (f := .glo "tree_of") rfl)
  obtain ⟨fd_left_of, D_left_of⟩ := c.def_ 5 (d := d_left_of) rfl
  have F_left_of : Fun K "left_of" "left_of" s_left_of _ fd_left_of := fun_ofD D_left_of
  have bd_left_of : Binds K fd_left_of ["right", "tree"] [] := F_left_of.binds fun _ _ _ _ _ _ us hl => match us, hl with | [_, _], _ => rfl
  have glo_left_of := He.glo_ok X G (c.fact 35 (f := .glo "left_of") rfl)
  obtain ⟨fd_check_products, D_check_products⟩ := c.def_ 6 (d := d_check_products) rfl
  have F_check_products : Fun K "check_products" "check_products" s_check_products _ fd_check_products := fun_ofD D_check_products
  have bd_check_products : Binds K fd_check_products ["right", "left"] [] := F_check_products.binds fun _ _ _ _ _ _ us hl => match us, hl with | [_, _], _ => rfl
  have glo_check_products := He.glo_ok X G (c.fact 36 (f := .glo "check_products") rfl)
  obtain ⟨fd_Monoid___init__, D_Monoid___init__⟩ := c.def_ 7 (d := d_Monoid___init__) rfl
  have F_Monoid___init__ : Fun K "__init__" "Monoid.__init__" s_Monoid___init__ _ fd_Monoid___init__ := fun_ofD D_Monoid___init__
  have bd_Monoid___init__ : Binds K fd_Monoid___init__ ["self", "right"] [] := F_Monoid___init__.binds fun _ _ _ _ _ _ us hl => match us, hl with | [_, _], _ => rfl
  obtain ⟨fd_Monoid_all_words, D_Monoid_all_words⟩ := c.def_ 8 (d := d_Monoid_all_words) rfl
  have F_Monoid_all_words : Fun K "all_words" "Monoid.all_words" s_Monoid_all_words _ fd_Monoid_all_words := fun_ofD D_Monoid_all_words
  have bd_Monoid_all_words : Binds K fd_Monoid_all_words ["self"] [] := F_Monoid_all_words.binds fun _ _ _ _ _ _ us hl => match us, hl with | [_], _ => rfl
  obtain ⟨fd_Monoid_ends, D_Monoid_ends⟩ := c.def_ 9 (d := d_Monoid_ends) rfl
  have F_Monoid_ends : Fun K "ends" "Monoid.ends" s_Monoid_ends _ fd_Monoid_ends := fun_ofD D_Monoid_ends
  have bd_Monoid_ends : Binds K fd_Monoid_ends ["self"] [] := F_Monoid_ends.binds fun _ _ _ _ _ _ us hl => match us, hl with | [_], _ => rfl
  obtain ⟨fd_Monoid_is_least, D_Monoid_is_least⟩ := c.def_ 10 (d := d_Monoid_is_least) rfl
  have F_Monoid_is_least : Fun K "is_least" "Monoid.is_least" s_Monoid_is_least _ fd_Monoid_is_least := fun_ofD D_Monoid_is_least
  have bd_Monoid_is_least : Binds K fd_Monoid_is_least ["self", "number", "letter"] [] := F_Monoid_is_least.binds fun _ _ _ _ _ _ us hl => match us, hl with | [_, _, _], _ => rfl
  obtain ⟨fd_Monoid_is_rule, D_Monoid_is_rule⟩ := c.def_ 11 (d := d_Monoid_is_rule) rfl
  have F_Monoid_is_rule : Fun K "is_rule" "Monoid.is_rule" s_Monoid_is_rule _ fd_Monoid_is_rule := fun_ofD D_Monoid_is_rule
  have bd_Monoid_is_rule : Binds K fd_Monoid_is_rule ["self", "number", "letter"] [] := F_Monoid_is_rule.binds fun _ _ _ _ _ _ us hl => match us, hl with | [_, _, _], _ => rfl
  obtain ⟨fd_Monoid_rules, D_Monoid_rules⟩ := c.def_ 12 (d := d_Monoid_rules) rfl
  have F_Monoid_rules : Fun K "rules" "Monoid.rules" s_Monoid_rules _ fd_Monoid_rules := fun_ofD D_Monoid_rules
  have bd_Monoid_rules : Binds K fd_Monoid_rules ["self"] [] := F_Monoid_rules.binds fun _ _ _ _ _ _ us hl => match us, hl with | [_], _ => rfl
  obtain ⟨fd_law_source, D_law_source⟩ := c.def_ 13 (d := d_law_source) rfl
  have F_law_source : Fun K "_law_source" "_law_source" s_law_source _ fd_law_source := fun_ofD D_law_source
  have bd_law_source : Binds K fd_law_source ["_law_cell"] [] := F_law_source.binds fun _ _ _ _ _ _ us hl => match us, hl with | [_], _ => rfl
  have glo_law_source := He.glo_ok X G (c.fact 37 (f := .glo "_law_source") rfl)
  obtain ⟨fd_law_draw, D_law_draw⟩ := c.def_ 14 (d := d_law_draw) rfl
  have F_law_draw : Fun K "_law_draw" "_law_draw" s_law_draw _ fd_law_draw := fun_ofD D_law_draw
  have bd_law_draw : Binds K fd_law_draw ["_law_source_here", "_law_many"] [] := F_law_draw.binds fun _ _ _ _ _ _ us hl => match us, hl with | [_, _], _ => rfl
  have glo_law_draw := He.glo_ok X G (c.fact 38 (f := .glo "_law_draw") rfl)
  obtain ⟨fd_law_maps, D_law_maps⟩ := c.def_ 15 (d := d_law_maps) rfl
  have F_law_maps : Fun K "_law_maps" "_law_maps" s_law_maps _ fd_law_maps := fun_ofD D_law_maps
  have bd_law_maps : Binds K fd_law_maps ["_law_source_here", "_law_most_points", "_law_most_letters"] [] := F_law_maps.binds fun _ _ _ _ _ _ us hl => match us, hl with | [_, _, _], _ => rfl
  have glo_law_maps := He.glo_ok X G (c.fact 39 (f := .glo "_law_maps") rfl)
  obtain ⟨fd_law_table, D_law_table⟩ := c.def_ 16 (d := d_law_table) rfl
  have F_law_table : Fun K "_law_table" "_law_table" s_law_table _ fd_law_table := fun_ofD D_law_table
  have bd_law_table : Binds K fd_law_table ["_law_rows"] [] := F_law_table.binds fun _ _ _ _ _ _ us hl => match us, hl with | [_], _ => rfl
  have glo_law_table := He.glo_ok X G (c.fact 40 (f := .glo "_law_table") rfl)
  obtain ⟨fd_law_due, D_law_due⟩ := c.def_ 17 (d := d_law_due) rfl
  have F_law_due : Fun K "_law_due" "_law_due" s_law_due _ fd_law_due := fun_ofD D_law_due
  have bd_law_due : Binds K fd_law_due ["_law_words", "_law_table_here"] [] := F_law_due.binds fun _ _ _ _ _ _ us hl => match us, hl with | [_, _], _ => rfl
  have glo_law_due := He.glo_ok X G (c.fact 41 (f := .glo "_law_due") rfl)
  obtain ⟨fd_law_parts, D_law_parts⟩ := c.def_ 18 (d := d_law_parts) rfl
  have F_law_parts : Fun K "_law_parts" "_law_parts" s_law_parts _ fd_law_parts := fun_ofD D_law_parts
  have bd_law_parts : Binds K fd_law_parts ["_law_word"] [] := F_law_parts.binds fun _ _ _ _ _ _ us hl => match us, hl with | [_], _ => rfl
  have glo_law_parts := He.glo_ok X G (c.fact 42 (f := .glo "_law_parts") rfl)
  obtain ⟨fd_law_by_words, D_law_by_words⟩ := c.def_ 19 (d := d_law_by_words) rfl
  have F_law_by_words : Fun K "_law_by_words" "_law_by_words" s_law_by_words _ fd_law_by_words := fun_ofD D_law_by_words
  have bd_law_by_words : Binds K fd_law_by_words ["_law_rows", "_law_found", "_law_words", "_law_most"] [] := F_law_by_words.binds fun _ _ _ _ _ _ us hl => match us, hl with | [_, _, _, _], _ => rfl
  have glo_law_by_words := He.glo_ok X G (c.fact 43 (f := .glo "_law_by_words") rfl)
  obtain ⟨fd_law_right, D_law_right⟩ := c.def_ 20 (d := d_law_right) rfl
  have F_law_right : Fun K "_law_right" "_law_right" s_law_right _ fd_law_right := fun_ofD D_law_right
  have bd_law_right : Binds K fd_law_right ["_law_source_here", "_law_rows"] [] := F_law_right.binds fun _ _ _ _ _ _ us hl => match us, hl with | [_, _], _ => rfl
  have glo_law_right := He.glo_ok X G (c.fact 44 (f := .glo "_law_right") rfl)
  obtain ⟨fd_law_mixed, D_law_mixed⟩ := c.def_ 21 (d := d_law_mixed) rfl
  have F_law_mixed : Fun K "_law_mixed" "_law_mixed" s_law_mixed _ fd_law_mixed := fun_ofD D_law_mixed
  have bd_law_mixed : Binds K fd_law_mixed ["_law_source_here", "_law_rows"] [] := F_law_mixed.binds fun _ _ _ _ _ _ us hl => match us, hl with | [_, _], _ => rfl
  have glo_law_mixed := He.glo_ok X G (c.fact 45 (f := .glo "_law_mixed") rfl)
  obtain ⟨fd_law, D_law⟩ := c.def_ 22 (d := d_law) rfl
  have F_law : Fun K "law" "law" s_law _ fd_law := fun_ofD D_law
  have bd_law : Binds K fd_law ["_law_script"] [] := F_law.binds fun _ _ _ _ _ _ us hl => match us, hl with | [_], _ => rfl
  have glo_law := He.glo_ok X G (c.fact 46 (f := .glo "law") rfl)
  have e := hfa.symm.trans glo_law
  cases e
  have b := FunD.bindsA (ps := ["_law_script"]) D_law fun _ _ _ _ _ _ us hl => match us, hl with | [_], _ => rfl
  refine ⟨fd_law, fun s v => b s [v] rfl, fun base _ _ tb => ?_⟩
  have hc_law_due : fd_law_due.code = .ref (He.cT K ("_law_due", none)).1 := fun_code F_law_due
  have TB_law_due : LamX.TabB base mg (He.cT K ("_law_due", none)).1 (He.cT K ("_law_due", none)).2 := tb _ (List.mem_map.mpr ⟨_, by simp [tf], rfl⟩)
  have hT_law_due : ((He.cT K ("_law_due", none)).2, ("_law_due.<locals>.<lambda>" : PySem.Str)) ∈ TT K := by simp [TT]
  have hc_Monoid_rules : fd_Monoid_rules.code = .ref (He.cT K ("Monoid", some "rules")).1 := fun_code F_Monoid_rules
  have TB_Monoid_rules : LamX.TabB base mg (He.cT K ("Monoid", some "rules")).1 (He.cT K ("Monoid", some "rules")).2 := tb _ (List.mem_map.mpr ⟨_, by simp [tf], rfl⟩)
  have hT_Monoid_rules : ((He.cT K ("Monoid", some "rules")).2, ("Monoid.rules.<locals>.<lambda>" : PySem.Str)) ∈ TT K := by simp [TT]
  have f_is_number := cal_of (P := P) (w := w) (base := base) F_is_number bd_is_number glo_is_number (ok_is_number F_is_number B)
  have f_is_sequence := cal_of (P := P) (w := w) (base := base) F_is_sequence bd_is_sequence glo_is_sequence (ok_is_sequence F_is_sequence B)
  have f_check_form := cal_of (P := P) (w := w) (base := base) F_check_form bd_check_form glo_check_form (ok_check_form F_check_form B C f_is_number f_is_sequence)
  have f_check_order := cal_of (P := P) (w := w) (base := base) F_check_order bd_check_order glo_check_order (ok_check_order F_check_order B)
  have f_tree_of := cal_of (P := P) (w := w) (base := base) F_tree_of bd_tree_of glo_tree_of (ok_tree_of F_tree_of B)
  have f_left_of := cal_of (P := P) (w := w) (base := base) F_left_of bd_left_of glo_left_of (ok_left_of F_left_of B)
  have f_check_products := cal_of (P := P) (w := w) (base := base) F_check_products bd_check_products glo_check_products (ok_check_products F_check_products B)
  have mk_Monoid := mak_of (P := P) (w := w) (base := base) mkr_Monoid bd_Monoid___init__ glo_Monoid (ok_init F_Monoid___init__ B M f_check_form f_check_order f_tree_of f_left_of f_check_products)
  have m_all_words := met_of (P := P) (w := w) (mg := mg) (base := base) cls_Monoid meth_Monoid_all_words bd_Monoid_all_words (ok_words F_Monoid_all_words B C M)
  have m_ends := met_of (P := P) (w := w) (mg := mg) (base := base) cls_Monoid meth_Monoid_ends bd_Monoid_ends (ok_ends F_Monoid_ends B C M)
  have m_is_least := met_of (P := P) (w := w) (mg := mg) (base := base) cls_Monoid meth_Monoid_is_least bd_Monoid_is_least (ok_is_least F_Monoid_is_least M)
  have m_is_rule := met_of (P := P) (w := w) (mg := mg) (base := base) cls_Monoid meth_Monoid_is_rule bd_Monoid_is_rule (ok_is_rule F_Monoid_is_rule m_ends m_is_least)
  have m_rules := met_of (P := P) (w := w) (mg := mg) (base := base) cls_Monoid meth_Monoid_rules bd_Monoid_rules (ok_rules F_Monoid_rules hc_Monoid_rules TB_Monoid_rules hT_Monoid_rules B C M m_all_words m_is_rule)
  have f_law_source := cal_of (P := P) (w := w) (base := base) F_law_source bd_law_source glo_law_source (ok_source F_law_source B)
  have f_law_draw := cal_of (P := P) (w := w) (base := base) F_law_draw bd_law_draw glo_law_draw (ok_draw F_law_draw B)
  have f_law_maps := cal_of (P := P) (w := w) (base := base) F_law_maps bd_law_maps glo_law_maps (ok_maps F_law_maps B f_law_draw)
  have f_law_table := cal_of (P := P) (w := w) (base := base) F_law_table bd_law_table glo_law_table (ok_table F_law_table B)
  have f_law_due := cal_of (P := P) (w := w) (base := base) F_law_due bd_law_due glo_law_due (ok_due F_law_due hc_law_due TB_law_due hT_law_due B)
  have f_law_parts := cal_of (P := P) (w := w) (base := base) F_law_parts bd_law_parts glo_law_parts (ok_parts F_law_parts B)
  have f_law_by_words := cal_of (P := P) (w := w) (base := base) F_law_by_words bd_law_by_words glo_law_by_words (ok_by_words F_law_by_words B f_law_parts)
  have f_law_right := cal_of (P := P) (w := w) (base := base) F_law_right bd_law_right glo_law_right (ok_right F_law_right B M f_law_table f_law_due mk_Monoid m_rules f_law_by_words)
  have f_law_mixed := cal_of (P := P) (w := w) (base := base) F_law_mixed bd_law_mixed glo_law_mixed (ok_mixed F_law_mixed B f_law_draw)
  exact ok_law F_law B f_law_source f_law_maps f_law_mixed f_law_right mk_Monoid m_rules
end My
open PySem PySem.W PySem.Calls PyProof.Rows
set_option maxHeartbeats 0 in
theorem PySem.Challenge.cw_letterfolds_k18_rules_of_a_monoid_holds : PySem.Challenge.rw_letterfolds_k18_rules_of_a_monoid.Holds := by
  w_on; o_law
  refine HandSHeadRun.head_any (r := OpenLaw.row PySem.Challenge.rw_letterfolds_k18_rules_of_a_monoid) (q := view (OpenLaw.row PySem.Challenge.rw_letterfolds_k18_rules_of_a_monoid).prog [29]) (H := My.hk) (ob := My.ob) (M := 20000) (loose := My.nm) (d := HandSHeadRun.topDef (OpenLaw.row PySem.Challenge.rw_letterfolds_k18_rules_of_a_monoid).prog 29) (kwd := []) My.ob_eq
    (by kernel_rfl) (fun s => by kernel_rfl) My.run (by kernel_rfl) (by kernel_rfl) (by kernel_rfl) (by rfl) (by first | assumption | decide +kernel) (by decide +kernel) ⟨rfl, rfl, rfl, rfl, rfl, by decide +kernel⟩ ?hw ?hc
  case hw => w_witness2
  case hc =>
    refine LamX.walk_ofTsE (l := PySem.Challenge.rw_letterfolds_k18_rules_of_a_monoid) (n := 63) (k := 6) (CX := fun _ => L2.CX0) (x := "_law_script") rfl (by decide) (by kernel_rfl) ⟨rfl, by decide, by decide⟩ ?F (fun _ _ _ _ _ z => z)
    intro w mg fa h Y G hmg0
    obtain ⟨K, KX, c⟩ := Y
    have hmg : mg ("law" : PySem.Str) = some (.ref fa) := by
      have e : (HandSHeadRun.topDef (OpenLaw.row PySem.Challenge.rw_letterfolds_k18_rules_of_a_monoid).prog 29).name = ("law" : PySem.Str) := by kernel_rfl
      rw [← e]
      exact hmg0
    obtain ⟨fd, hb, hF⟩ := My.facts (P := (PySem.Challenge.rw_letterfolds_k18_rules_of_a_monoid).prog) (w := w) KX G hmg c.t.d c.more
    have nd : ((My.TT K).map Prod.fst).Nodup := by
      have cx := c.more
      simp only [My.exq, Bool.and_eq_true] at cx
      exact of_decide_eq_true cx
    have at_ : ∀ {Q : Addr × Addr → Prop}, (∀ p ∈ My.tf, Q (He.cT K p)) → ∀ p ∈ My.tf.map (He.cT K), Q p := fun h p hp => by
      obtain ⟨q, hq, rfl⟩ := List.mem_map.mp hp
      exact h q hq
    refine ⟨K, KX, fd, My.tf.map (He.cT K), SL.SpSt K (My.TT K), at_ c.empty, at_ c.out, at_ fun p hp => PySem.W.codeHd_of_K KX (c.hd p hp), hb, fun H a ns hl _ hH hS => SL.spSt_of hl nd (fun x hx => ?_) hS, hF⟩
    have hx2 : ∀ x ∈ My.TT K, ∃ p ∈ My.tf, x.1 = (He.cT K p).2 := by
      intro x hx
      simp only [My.TT, List.mem_cons, List.not_mem_nil, or_false] at hx
      rcases hx with rfl | rfl
      · exact ⟨("_law_due", none), by simp [My.tf], rfl⟩
      · exact ⟨("Monoid", some "rules"), by simp [My.tf], rfl⟩
    obtain ⟨p, hp, e⟩ := hx2 x hx
    rw [e]
    exact hH _ (List.mem_map_of_mem hp)
#print axioms PySem.Challenge.cw_letterfolds_k18_rules_of_a_monoid_holds
