import PyProof.Rows.All
import Wide.All
import OpenK.AllK
import Wide.FinOn
import HandS.ForMost
import HandS.Evl
import HandS.Walk
import KE.GoesEnum
import KE.GoesZip
import KE.GoesMore
import HandS.Conv
import HandS.IsInst
import HandS.Style
import HandS.TupAny
import HandS.SetFor
import HandS.SortInts
import HandS.Dict
import PyProof.Rows.TupDisplay
import HandS.Small
import HandS.HeadEnd
import HandS.HeadHook2
import HandS.Head2
import PyProof.ReprRoads
import PyProof.Rows.RegFStrParts
import PyProof.P3In
import HandS.Replace
import HandS.Deep
import HandS.WordsDict
import HandS.RaiseMore
import HandS.Wide
import HandS.Codes
import KE.KDictZip
import PySem.Challenge.RW_letterfolds_k14_words_and_products
import KE.KStateDown
import HandS.WordsExc
import HandS.Defaults
import HandS.Head0
import HandS.Head1
import HandS.HeadHook1
set_option Elab.async false
set_option linter.all false
set_option maxRecDepth 100000
/-! SL: values by frozen data and owned objects; what a reading does, told by descriptions of the slots. -/
namespace SL
open PySem L2 Evl

mutual
/-- frozen data: a value and what it is, by the frozen heap -/
inductive Dp (K : PySem.W.Frag) (G : Hp) : V → PyData → Prop
  | non : Dp K G .non .none
  | bl (b : Bool) : Dp K G (.bl b) (.bool b)
  | int (i : Int) : Dp K G (.int i) (.int i)
  | str (x : Str) : Dp K G (.str x) (.str x)
  | lst {a : Addr} {xs : List V} {ds : List PyData} : Rd G a (.lst xs) → DpAll K G xs ds → Dp K G (.ref a) (.list ds)
  | tup {a : Addr} {xs : List V} {ds : List PyData} : G a = some (.tup xs) → DpAll K G xs ds → Dp K G (.ref a) (.tuple ds)
inductive DpAll (K : PySem.W.Frag) (G : Hp) : List V → List PyData → Prop
  | nil : DpAll K G [] []
  | cons {v : V} {vs : List V} {d : PyData} {ds : List PyData} : Dp K G v d → DpAll K G vs ds → DpAll K G (v :: vs) (d :: ds)
end
section
variable {K : PySem.W.Frag}
mutual
theorem dpMono {G G' : Hp} (e : Ex G G') : ∀ (d : PyData) (v : V), Dp K G v d → Dp K G' v d
  | .none, _, h => by cases h; exact .non
  | .bool _, _, h => by cases h; exact .bl _
  | .int _, _, h => by cases h; exact .int _
  | .str _, _, h => by cases h; exact .str _
  | .list ds, _, h => by
    cases h with
    | lst s a => exact .lst (ex_rd e s) (dpAllMono e ds _ a)
  | .tuple ds, _, h => by
    cases h with
    | tup s a => exact .tup (e _ _ s) (dpAllMono e ds _ a)
  | .dict _, _, h => by cases h
theorem dpAllMono {G G' : Hp} (e : Ex G G') : ∀ (ds : List PyData) (vs : List V), DpAll K G vs ds → DpAll K G' vs ds
  | [], _, h => by cases h; exact .nil
  | d :: ds, _, h => by
    cases h with
    | cons a b => exact .cons (dpMono e d _ a) (dpAllMono e ds _ b)
end
mutual
theorem dpTo {G : Hp} : ∀ (d : PyData) (v : V), Dp K G v d → L2.Dp K G v d
  | .none, _, h => by cases h; exact .non
  | .bool _, _, h => by cases h; exact .bl _
  | .int _, _, h => by cases h; exact .int _
  | .str _, _, h => by cases h; exact .str _
  | .list ds, _, h => by
    cases h with
    | lst s a => exact .lst (.inl s) (dpAllTo ds _ a)
  | .tuple ds, _, h => by
    cases h with
    | tup s a => exact .tup (.inl (.inl s)) (dpAllTo ds _ a)
  | .dict _, _, h => by cases h
theorem dpAllTo {G : Hp} : ∀ (ds : List PyData) (vs : List V), DpAll K G vs ds → L2.DpAll K G vs ds
  | [], _, h => by cases h; exact .nil
  | d :: ds, _, h => by
    cases h with
    | cons a b => exact .cons (dpTo d _ a) (dpAllTo ds _ b)
end
theorem DpAll.len {G : Hp} : ∀ {vs : List V} {ds : List PyData}, DpAll K G vs ds → vs.length = ds.length
  | _, _, .nil => rfl
  | _, _, .cons _ b => by simp [DpAll.len b]
theorem DpAll.get {G : Hp} : ∀ {vs : List V} {ds : List PyData} {i : Nat} {v : V}, DpAll K G vs ds → vs[i]? = some v → ∃ d, ds[i]? = some d ∧ Dp K G v d
  | _, _, _, _, .nil, e => by simp at e
  | _, _, 0, _, .cons a _, e => by simp at e; subst e; exact ⟨_, rfl, a⟩
  | _, _, i + 1, v, .cons _ b, e => by
    obtain ⟨d, h1, h2⟩ := DpAll.get (i := i) (v := v) b (by simpa using e)
    exact ⟨d, by simpa using h1, h2⟩
theorem DpAll.get' {G : Hp} : ∀ {vs : List V} {ds : List PyData} {i : Nat} {d : PyData}, DpAll K G vs ds → ds[i]? = some d → ∃ v, vs[i]? = some v ∧ Dp K G v d
  | _, _, _, _, .nil, e => by simp at e
  | _, _, 0, _, .cons a _, e => by simp at e; subst e; exact ⟨_, rfl, a⟩
  | _, _, i + 1, d, .cons _ b, e => by
    obtain ⟨v, h1, h2⟩ := DpAll.get' (i := i) (d := d) b (by simpa using e)
    exact ⟨v, by simpa using h1, h2⟩
theorem DpAll.app {G : Hp} : ∀ {vs ws : List V} {ds es : List PyData}, DpAll K G vs ds → DpAll K G ws es → DpAll K G (vs ++ ws) (ds ++ es)
  | _, _, _, _, .nil, h => h
  | _, _, _, _, .cons a b, h => .cons a (DpAll.app b h)
theorem DpAll.one {G : Hp} {v : V} {d : PyData} (h : Dp K G v d) : DpAll K G [v] [d] := .cons h .nil
theorem DpAll.set {G : Hp} {v : V} {d : PyData} (h : Dp K G v d) : ∀ {vs : List V} {ds : List PyData} (i : Nat), DpAll K G vs ds → DpAll K G (vs.set i v) (ds.set i d)
  | _, _, _, .nil => .nil
  | _, _, 0, .cons _ b => .cons h b
  | _, _, i + 1, .cons a b => .cons a (DpAll.set h i b)
theorem DpAll.take {G : Hp} : ∀ {vs : List V} {ds : List PyData} (n : Nat), DpAll K G vs ds → DpAll K G (vs.take n) (ds.take n)
  | _, _, 0, _ => .nil
  | _, _, _ + 1, .nil => .nil
  | _, _, n + 1, .cons a b => .cons a (DpAll.take n b)
theorem DpAll.drop {G : Hp} : ∀ {vs : List V} {ds : List PyData} (n : Nat), DpAll K G vs ds → DpAll K G (vs.drop n) (ds.drop n)
  | _, _, 0, h => h
  | _, _, _ + 1, .nil => .nil
  | _, _, n + 1, .cons _ b => DpAll.drop n b
theorem DpAll.ints {G : Hp} : ∀ {vs : List V} {ns : List Int}, DpAll K G vs (ns.map PyData.int) → vs = ns.map V.int
  | [], [], _ => rfl
  | _ :: _, [], h => by cases h
  | [], _ :: _, h => by cases h
  | v :: vs, n :: ns, h => by
    cases h with
    | cons a b =>
      cases a
      simp [DpAll.ints b]
theorem DpAll.ofInts {G : Hp} : ∀ (ns : List Int), DpAll K G (ns.map V.int) (ns.map PyData.int)
  | [] => .nil
  | n :: ns => .cons (.int n) (DpAll.ofInts ns)
theorem DpAll.strs {G : Hp} : ∀ {vs : List V} {ns : List Str}, DpAll K G vs (ns.map PyData.str) → vs = ns.map V.str
  | [], [], _ => rfl
  | _ :: _, [], h => by cases h
  | [], _ :: _, h => by cases h
  | v :: vs, n :: ns, h => by
    cases h with
    | cons a b =>
      cases a
      simp [DpAll.strs b]
theorem DpAll.ofStrs {G : Hp} : ∀ (ns : List Str), DpAll K G (ns.map V.str) (ns.map PyData.str)
  | [] => .nil
  | n :: ns => .cons (.str n) (DpAll.ofStrs ns)
theorem DpAll.bls {G : Hp} : ∀ {vs : List V} {ns : List Bool}, DpAll K G vs (ns.map PyData.bool) → vs = ns.map V.bl
  | [], [], _ => rfl
  | _ :: _, [], h => by cases h
  | [], _ :: _, h => by cases h
  | v :: vs, n :: ns, h => by
    cases h with
    | cons a b =>
      cases a
      simp [DpAll.bls b]
end

/-- an owned thing of any other kind: its addresses, what holds of it -/
structure Ow where
  fp : List Addr
  R : Hp → Hp → V → Prop
  loc : ∀ {G G' H H' : Hp} {v : V}, Ex G G' → (∀ a ∈ fp, H' a = H a) → R G H v → R G' H' v

/-- what is known of a slot -/
inductive SD where
  | no
  | fz (d : PyData)
  | al (p : Addr)
  | ol (p : Addr) (ds : List PyData)
  | od (p : Addr) (kvs : List (Key × PyData))
  | ot (p : Addr) (kvs : List (List Key × PyData))
  | ow (o : Ow)
def SD.fp : SD → List Addr
  | .ol p _ => [p]
  | .od p _ => [p]
  | .ot p _ => [p]
  | .ow o => o.fp
  | _ => []
def fps : List SD → List Addr
  | [] => []
  | s :: r => s.fp ++ fps r

/-- pairs of keys and values, and of the same keys and data -/
inductive KD (K : PySem.W.Frag) (G : Hp) {κ : Type} : List (κ × V) → List (κ × PyData) → Prop
  | nil : KD K G [] []
  | cons {k : κ} {v : V} {d : PyData} {vs : List (κ × V)} {ds : List (κ × PyData)} : Dp K G v d → KD K G vs ds → KD K G ((k, v) :: vs) ((k, d) :: ds)

def SD.ok (K : PySem.W.Frag) (G H : Hp) : Option V → SD → Prop
  | _, .no => True
  | some v, .fz d => Dp K G v d
  | some v, .al p => v = .ref p
  | some v, .ol p ds => v = .ref p ∧ ∃ xs, H p = some (.lst xs) ∧ DpAll K G xs ds
  | some v, .od p ks => v = .ref p ∧ ∃ xs, H p = some (.dK xs) ∧ KD K G xs ks
  | some v, .ot p ks => v = .ref p ∧ ∃ xs, H p = some (.dT xs) ∧ KD K G xs ks
  | some v, .ow o => o.R G H v
  | none, _ => False
def Oks (K : PySem.W.Frag) (G H : Hp) : List (Option V) → List SD → Prop
  | [], [] => True
  | v :: vs, s :: r => SD.ok K G H v s ∧ Oks K G H vs r
  | _, _ => False

/-- the frame of a def's run: the frozen and the whole heap at its start, the owned things that were handed in -/
structure Fm where
  K : PySem.W.Frag
  G0 : Hp
  H0 : Hp
  io : List Addr

structure Wd (F : Fm) (G H : Hp) (fs : List Addr) : Prop where
  gh : Ex G H
  own : ∀ a ∈ fs, G a = none ∧ ∃ o, H a = some o
  nd : fs.Nodup
  g0 : Ex F.G0 G
  fr : ∀ a o, F.H0 a = some o → a ∉ F.io → H a = some o
  nw : ∀ a o, G a = some o → F.G0 a = some o ∨ F.H0 a = none
  of : ∀ a ∈ fs, a ∈ F.io ∨ F.H0 a = none
  io : ∀ a ∈ F.io, ∃ o, H a = some o

structure S2 (F : Fm) (G H : Hp) (τ : List (Option V)) (ε : List SD) (σ : List (Option V)) (δ : List SD) : Prop where
  w : Wd F G H (fps ε ++ fps δ)
  t : Oks F.K G H τ ε
  s : Oks F.K G H σ δ

section
variable {K : PySem.W.Frag} {F : Fm} {G G' H H' : Hp} {τ σ : List (Option V)} {ε δ : List SD} {v : V} {o : HO} {p : Addr} {sd : SD}
theorem KD.mono {κ : Type} (e : Ex G G') : ∀ {xs : List (κ × V)} {ks : List (κ × PyData)}, KD K G xs ks → KD K G' xs ks
  | _, _, .nil => .nil
  | _, _, .cons a b => .cons (dpMono e _ _ a) (KD.mono e b)
theorem ok_mono (e : Ex G G') (k : ∀ a ∈ sd.fp, H' a = H a) : ∀ {ov : Option V}, SD.ok K G H ov sd → SD.ok K G' H' ov sd := by
  intro ov h
  cases sd with
  | no => trivial
  | fz d =>
    cases ov with
    | none => exact h
    | some v => exact dpMono e _ _ h
  | al q => cases ov <;> exact h
  | ol q ds =>
    cases ov with
    | none => exact h
    | some v =>
      obtain ⟨h1, xs, h2, h3⟩ := h
      exact ⟨h1, xs, by rw [k q (by simp [SD.fp])]; exact h2, dpAllMono e _ _ h3⟩
  | od q ds =>
    cases ov with
    | none => exact h
    | some v =>
      obtain ⟨h1, xs, h2, h3⟩ := h
      exact ⟨h1, xs, by rw [k q (by simp [SD.fp])]; exact h2, h3.mono e⟩
  | ot q ds =>
    cases ov with
    | none => exact h
    | some v =>
      obtain ⟨h1, xs, h2, h3⟩ := h
      exact ⟨h1, xs, by rw [k q (by simp [SD.fp])]; exact h2, h3.mono e⟩
  | ow o =>
    cases ov with
    | none => exact h
    | some v => exact o.loc e k h
theorem oks_mono (e : Ex G G') : ∀ {τ : List (Option V)} {ε : List SD}, (∀ a ∈ fps ε, H' a = H a) → Oks K G H τ ε → Oks K G' H' τ ε
  | [], [], _, h => h
  | [], _ :: _, _, h => h
  | _ :: _, [], _, h => h
  | _ :: _, s :: r, k, h => ⟨ok_mono e (fun a ha => k a (by simp [fps, ha])) h.1, oks_mono e (fun a ha => k a (by simp [fps, ha])) h.2⟩
theorem Oks.len : ∀ {τ : List (Option V)} {ε : List SD}, Oks K G H τ ε → τ.length = ε.length
  | [], [], _ => rfl
  | [], _ :: _, h => h.elim
  | _ :: _, [], h => h.elim
  | _ :: _, s :: r, h => by simp [Oks.len h.2]
theorem Oks.get : ∀ {τ : List (Option V)} {ε : List SD} {i : Nat} {s : SD}, Oks K G H τ ε → ε[i]? = some s → ∃ ov, τ[i]? = some ov ∧ SD.ok K G H ov s
  | [], [], _, _, _, e => by simp at e
  | [], _ :: _, _, _, h, _ => h.elim
  | _ :: _, [], _, _, h, _ => h.elim
  | v :: _, s :: r, 0, _, h, e => by simp at e; subst e; exact ⟨v, rfl, h.1⟩
  | _ :: _, s :: r, i + 1, _, h, e => by
    obtain ⟨ov, h1, h2⟩ := Oks.get (i := i) h.2 (by simpa using e)
    exact ⟨ov, by simpa using h1, h2⟩
theorem Oks.set {ov : Option V} {s : SD} (hs : SD.ok K G H ov s) : ∀ {τ : List (Option V)} {ε : List SD} (i : Nat), Oks K G H τ ε → Oks K G H (τ.set i ov) (ε.set i s)
  | [], [], _, h => h
  | [], _ :: _, _, h => h.elim
  | _ :: _, [], _, h => h.elim
  | _ :: _, _ :: _, 0, h => ⟨hs, h.2⟩
  | _ :: _, _ :: _, i + 1, h => ⟨h.1, Oks.set hs i h.2⟩
theorem Oks.setD {s : SD} : ∀ {τ : List (Option V)} {ε : List SD} {i : Nat}, (∀ ov, τ[i]? = some ov → SD.ok K G H ov s) → Oks K G H τ ε → Oks K G H τ (ε.set i s)
  | [], [], _, _, h => h
  | [], _ :: _, _, _, h => h.elim
  | _ :: _, [], _, _, h => h.elim
  | v :: _, _ :: _, 0, hs, h => ⟨hs v rfl, h.2⟩
  | _ :: _, _ :: _, i + 1, hs, h => ⟨h.1, Oks.setD (i := i) (fun ov e => hs ov (by simpa using e)) h.2⟩
theorem fps_app (a b : List SD) : fps (a ++ b) = fps a ++ fps b := by
  induction a with
  | nil => rfl
  | cons s r ih => simp [fps, ih]
/-- the addresses of a list of which one slot is taken out -/
theorem fps_mem {δ : List SD} {i : Nat} {s : SD} (h : δ[i]? = some s) {a : Addr} (ha : a ∈ s.fp) : a ∈ fps δ := by
  induction δ generalizing i with
  | nil => simp at h
  | cons x r ih =>
    cases i with
    | zero => simp at h; subst h; simp [fps, ha]
    | succ j => simp [fps, ih (i := j) (by simpa using h)]
theorem fps_set_perm {δ : List SD} {i : Nat} {s s' : SD} (h : δ[i]? = some s) : ∃ l, (fps δ).Perm (s.fp ++ l) ∧ (fps (δ.set i s')).Perm (s'.fp ++ l) := by
  induction δ generalizing i with
  | nil => simp at h
  | cons x r ih =>
    cases i with
    | zero => simp at h; subst h; exact ⟨fps r, List.Perm.refl _, List.Perm.refl _⟩
    | succ j =>
      obtain ⟨l, h1, h2⟩ := ih (i := j) (by simpa using h)
      refine ⟨x.fp ++ l, ?_, ?_⟩
      · show (x.fp ++ fps r).Perm _
        refine (List.Perm.append_left x.fp h1).trans ?_
        rw [← List.append_assoc, ← List.append_assoc]
        exact List.Perm.append_right l List.perm_append_comm
      · show (x.fp ++ fps (r.set j s')).Perm _
        refine (List.Perm.append_left x.fp h2).trans ?_
        rw [← List.append_assoc, ← List.append_assoc]
        exact List.Perm.append_right l List.perm_append_comm
theorem Wd.perm {fs fs' : List Addr} (h : Wd F G H fs) (p : fs'.Perm fs) : Wd F G H fs' :=
  { h with own := fun a ha => h.own a (p.mem_iff.mp ha), nd := p.nodup_iff.mpr h.nd, of := fun a ha => h.of a (p.mem_iff.mp ha) }
theorem Wd.sub {fs fs' : List Addr} (h : Wd F G H fs) (p : fs'.Sublist fs) : Wd F G H fs' :=
  { h with own := fun a ha => h.own a (p.subset ha), nd := p.nodup h.nd, of := fun a ha => h.of a (p.subset ha) }
theorem Wd.gnone {fs : List Addr} (h : Wd F G H fs) (hp : H p = none) : G p = none := fresh_back h.gh hp
theorem Wd.pnotin {fs : List Addr} (h : Wd F G H fs) (hp : H p = none) : p ∉ fs := fun hm => by
  obtain ⟨_, o, e⟩ := h.own p hm
  rw [hp] at e; cases e
theorem Wd.h0none {fs : List Addr} (h : Wd F G H fs) (hp : H p = none) : F.H0 p = none := by
  cases e : F.H0 p with
  | none => rfl
  | some o =>
    by_cases hi : p ∈ F.io
    · obtain ⟨o', e'⟩ := h.io p hi
      rw [hp] at e'; cases e'
    · rw [h.fr p o e hi] at hp; cases hp
/-- a new frozen object -/
theorem Wd.newF {fs : List Addr} (h : Wd F G H fs) (hp : H p = none) : Wd F (upd G p o) (upd H p o) fs where
  gh := fun a u e => by
    by_cases ha : a = p
    · subst ha; rw [upd_same] at e ⊢; exact e
    · rw [upd_ne ha] at e ⊢; exact h.gh a u e
  own := fun a ha => by
    have hne : a ≠ p := fun e => h.pnotin hp (e ▸ ha)
    rw [upd_ne hne, upd_ne hne]; exact h.own a ha
  nd := h.nd
  g0 := fun a u e => by
    have hne : a ≠ p := fun z => by
      have := h.g0 a u e
      rw [z, h.gnone hp] at this; cases this
    rw [upd_ne hne]; exact h.g0 a u e
  fr := fun a u e hi => by
    have q := h.fr a u e hi
    rw [upd_ne (ne_of_none q hp)]; exact q
  nw := fun a u e => by
    by_cases ha : a = p
    · subst ha; exact .inr (h.h0none hp)
    · rw [upd_ne ha] at e; exact h.nw a u e
  of := h.of
  io := fun a ha => by
    obtain ⟨u, e⟩ := h.io a ha
    exact ⟨u, by rw [upd_ne (ne_of_none e hp)]; exact e⟩
/-- a new owned object -/
theorem Wd.newO {fs : List Addr} (h : Wd F G H fs) (hp : H p = none) : Wd F G (upd H p o) (p :: fs) where
  gh := Ex.mut h.gh (h.gnone hp)
  own := fun a ha => by
    rcases List.mem_cons.mp ha with e | ha
    · subst e; exact ⟨h.gnone hp, o, upd_same⟩
    · have hne : a ≠ p := fun e => h.pnotin hp (e ▸ ha)
      rw [upd_ne hne]; exact h.own a ha
  nd := List.nodup_cons.mpr ⟨h.pnotin hp, h.nd⟩
  g0 := h.g0
  fr := fun a u e hi => by
    have q := h.fr a u e hi
    rw [upd_ne (ne_of_none q hp)]; exact q
  nw := h.nw
  of := fun a ha => by
    rcases List.mem_cons.mp ha with e | ha
    · subst e; exact .inr (h.h0none hp)
    · exact h.of a ha
  io := fun a ha => by
    obtain ⟨u, e⟩ := h.io a ha
    exact ⟨u, by rw [upd_ne (ne_of_none e hp)]; exact e⟩
/-- an owned object is changed -/
theorem Wd.mut {fs : List Addr} (h : Wd F G H fs) (hp : p ∈ fs) : Wd F G (upd H p o) fs where
  gh := Ex.mut h.gh (h.own p hp).1
  own := fun a ha => by
    by_cases e : a = p
    · subst e; exact ⟨(h.own a ha).1, o, upd_same⟩
    · rw [upd_ne e]; exact h.own a ha
  nd := h.nd
  g0 := h.g0
  fr := fun a u e hi => by
    have hne : a ≠ p := fun z => by
      rcases h.of p hp with q | q
      · exact hi (z ▸ q)
      · rw [z, q] at e; cases e
    rw [upd_ne hne]; exact h.fr a u e hi
  nw := h.nw
  of := h.of
  io := fun a ha => by
    by_cases e : a = p
    · subst e; exact ⟨o, upd_same⟩
    · rw [upd_ne e]; exact h.io a ha
/-- an owned object is frozen (one that was not handed in) -/
theorem Wd.freeze {fs : List Addr} (h : Wd F G H (p :: fs)) (hp : H p = some o) (hio : p ∉ F.io) : Wd F (upd G p o) H fs where
  gh := fun a u e => by
    by_cases ha : a = p
    · subst ha; rw [upd_same] at e; cases e; exact hp
    · rw [upd_ne ha] at e; exact h.gh a u e
  own := fun a ha => by
    have hne : a ≠ p := fun e => (List.nodup_cons.mp h.nd).1 (e ▸ ha)
    rw [upd_ne hne]; exact h.own a (List.mem_cons_of_mem _ ha)
  nd := (List.nodup_cons.mp h.nd).2
  g0 := fun a u e => by
    have hne : a ≠ p := fun z => by
      have := h.g0 a u e
      rw [z, (h.own p List.mem_cons_self).1] at this; cases this
    rw [upd_ne hne]; exact h.g0 a u e
  fr := h.fr
  nw := fun a u e => by
    by_cases ha : a = p
    · subst ha
      rcases h.of a List.mem_cons_self with q | q
      · exact (hio q).elim
      · exact .inr q
    · rw [upd_ne ha] at e; exact h.nw a u e
  of := fun a ha => h.of a (List.mem_cons_of_mem _ ha)
  io := h.io
theorem Ex.upd (hp : G p = none) : Ex G (upd G p o) := Ex.new hp
theorem S2.newF (h : S2 F G H τ ε σ δ) (hp : H p = none) : S2 F (upd G p o) (upd H p o) τ ε σ δ := by
  have k : ∀ a ∈ fps ε ++ fps δ, upd H p o a = H a := fun a ha => upd_ne fun e => h.w.pnotin hp (e ▸ ha)
  exact ⟨h.w.newF hp, oks_mono (Ex.new (h.w.gnone hp)) (fun a ha => k a (List.mem_append_left _ ha)) h.t, oks_mono (Ex.new (h.w.gnone hp)) (fun a ha => k a (List.mem_append_right _ ha)) h.s⟩
/-- a new owned object, on the stack -/
theorem S2.newO (h : S2 F G H τ ε σ δ) (hp : H p = none) (hf : sd.fp = [p]) (hok : SD.ok F.K G (upd H p o) (some v) sd) : S2 F G (upd H p o) (some v :: τ) (sd :: ε) σ δ := by
  have k : ∀ a ∈ fps ε ++ fps δ, upd H p o a = H a := fun a ha => upd_ne fun e => h.w.pnotin hp (e ▸ ha)
  refine ⟨?_, ⟨hok, oks_mono (Ex.refl _) (fun a ha => k a (List.mem_append_left _ ha)) h.t⟩, oks_mono (Ex.refl _) (fun a ha => k a (List.mem_append_right _ ha)) h.s⟩
  have := h.w.newO (o := o) hp
  show Wd F G _ ((sd.fp ++ fps ε) ++ fps δ)
  rw [hf]
  exact this
theorem S2.push (h : S2 F G H τ ε σ δ) (hf : sd.fp = []) (hok : SD.ok F.K G H (some v) sd) : S2 F G H (some v :: τ) (sd :: ε) σ δ := by
  refine ⟨?_, ⟨hok, h.t⟩, h.s⟩
  show Wd F G H ((sd.fp ++ fps ε) ++ fps δ)
  rw [hf]
  exact h.w
theorem S2.pop {ov : Option V} (h : S2 F G H (ov :: τ) (sd :: ε) σ δ) : S2 F G H τ ε σ δ :=
  ⟨h.w.sub (by show ((fps ε) ++ fps δ).Sublist ((sd.fp ++ fps ε) ++ fps δ); rw [List.append_assoc]; exact List.sublist_append_right _ _), h.t.2, h.s⟩
theorem S2.top {ov : Option V} (h : S2 F G H (ov :: τ) (sd :: ε) σ δ) : SD.ok F.K G H ov sd := h.t.1
theorem S2.slot {i : Nat} (h : S2 F G H τ ε σ δ) (e : δ[i]? = some sd) : ∃ ov, σ[i]? = some ov ∧ SD.ok F.K G H ov sd := h.s.get e
theorem sd_some {G H : Hp} {ov : Option V} {sd : SD} (hn : sd ≠ .no) (h : SD.ok K G H ov sd) : ∃ v, ov = some v := by
  cases ov with
  | some v => exact ⟨v, rfl⟩
  | none => cases sd <;> first | exact (hn rfl).elim | exact h.elim
/-- the top of the stack goes into a slot that owns nothing -/
theorem S2.store {i : Nat} {old : SD} (h : S2 F G H (some v :: τ) (sd :: ε) σ δ) (e : δ[i]? = some old) : S2 F G H τ ε (σ.set i (some v)) (δ.set i sd) := by
  refine ⟨?_, h.t.2, Oks.set h.t.1 i h.s⟩
  obtain ⟨l, h1, h2⟩ := fps_set_perm (s' := sd) e
  have w := h.w
  have w1 : Wd F G H ((sd.fp ++ fps ε) ++ fps δ) := w
  have p1 : ((sd.fp ++ fps ε) ++ (old.fp ++ l)).Perm ((sd.fp ++ fps ε) ++ fps δ) := List.Perm.append_left _ h1.symm
  have w2 := w1.perm p1
  have s1 : ((sd.fp ++ fps ε) ++ l).Sublist ((sd.fp ++ fps ε) ++ (old.fp ++ l)) := List.Sublist.append_left (List.sublist_append_right _ _) _
  have w3 := w2.sub s1
  refine w3.perm ?_
  refine (List.Perm.append_left (fps ε) h2).trans ?_
  rw [← List.append_assoc]
  exact List.Perm.append_right l List.perm_append_comm
/-- a slot is forgotten -/
theorem S2.drop {i : Nat} {old : SD} (h : S2 F G H τ ε σ δ) (e : δ[i]? = some old) : S2 F G H τ ε σ (δ.set i .no) := by
  refine ⟨?_, h.t, Oks.setD (fun _ _ => trivial) h.s⟩
  obtain ⟨l, h1, h2⟩ := fps_set_perm (s' := SD.no) e
  have w1 := h.w.perm (List.Perm.append_left (fps ε) h1.symm)
  have w2 := w1.sub (List.Sublist.append_left (List.sublist_append_right old.fp l) (fps ε))
  exact w2.perm (List.Perm.append_left (fps ε) h2)
theorem oks_mut {old new : SD} : ∀ {σ : List (Option V)} {δ : List SD} {i : Nat}, Oks K G H σ δ → (fps δ).Nodup → δ[i]? = some old → (∀ a ∈ fps δ, a ∉ old.fp → H' a = H a) →
    (∀ ov, σ[i]? = some ov → SD.ok K G H' ov new) → Oks K G H' σ (δ.set i new)
  | [], [], _, _, _, e, _, _ => by simp at e
  | [], _ :: _, _, h, _, _, _, _ => h.elim
  | _ :: _, [], _, h, _, _, _, _ => h.elim
  | v :: σ, x :: r, 0, h, nd, e, hk, hok => by
    simp at e
    subst e
    have n := List.nodup_append.mp (show (x.fp ++ fps r).Nodup from nd)
    refine ⟨hok v rfl, oks_mono (Ex.refl _) (fun a ha => hk a (List.mem_append_right _ ha) fun z => n.2.2 a z a ha rfl) h.2⟩
  | v :: σ, x :: r, i + 1, h, nd, e, hk, hok => by
    have n := List.nodup_append.mp (show (x.fp ++ fps r).Nodup from nd)
    have e' : r[i]? = some old := by simpa using e
    refine ⟨ok_mono (Ex.refl _) (fun a ha => hk a (List.mem_append_left _ ha) fun z => n.2.2 a ha a (fps_mem e' z) rfl) h.1, oks_mut (i := i) h.2 n.2.1 e' (fun a ha => hk a (List.mem_append_right _ ha)) fun ov q => hok ov (by simpa using q)⟩
/-- the object of a slot's is changed -/
theorem S2.mut {i : Nat} {old new : SD} (h : S2 F G H τ ε σ δ) (e : δ[i]? = some old) (h1 : old.fp = [p]) (h2 : new.fp = [p]) (hok : ∀ ov, σ[i]? = some ov → SD.ok F.K G (upd H p o) ov new) : S2 F G (upd H p o) τ ε σ (δ.set i new) := by
  obtain ⟨l, q1, q2⟩ := fps_set_perm (s' := new) e
  rw [h1] at q1
  rw [h2] at q2
  have hp : p ∈ fps δ := q1.mem_iff.mpr (by simp)
  have wm := h.w.mut (o := o) (List.mem_append_right (fps ε) hp)
  have n := List.nodup_append.mp h.w.nd
  refine ⟨wm.perm ((List.Perm.append_left (fps ε) (q2.trans q1.symm))), oks_mono (Ex.refl _) (fun a ha => upd_ne fun z => n.2.2 a ha p hp z) h.t, ?_⟩
  exact oks_mut h.s n.2.1 e (fun a _ ha => upd_ne fun z => ha (by rw [h1, z]; simp)) hok
/-- a slot's list is frozen -/
theorem S2.freezeL {i : Nat} {ds : List PyData} (h : S2 F G H τ ε σ δ) (e : δ[i]? = some (.ol p ds)) (hio : p ∉ F.io) : ∃ o, G p = none ∧ S2 F (upd G p o) H τ ε σ (δ.set i (.fz (.list ds))) := by
  obtain ⟨ov, e1, ok1⟩ := h.slot e
  obtain ⟨v, rfl⟩ := sd_some (by intro z; cases z) ok1
  obtain ⟨rfl, xs, hx, hd⟩ := ok1
  obtain ⟨l, q1, q2⟩ := fps_set_perm (s' := SD.fz (.list ds)) e
  have q1' : (fps δ).Perm (p :: l) := q1
  have q2' : (fps (δ.set i (.fz (.list ds)))).Perm l := q2
  have w1 : Wd F G H (p :: (fps ε ++ l)) := h.w.perm (by
    refine List.Perm.trans ?_ (List.Perm.append_left (fps ε) q1'.symm)
    exact (List.perm_middle (l₁ := fps ε) (a := p) (l₂ := l)).symm)
  have gp : G p = none := (w1.own p List.mem_cons_self).1
  have ex : Ex G (upd G p (.lst xs)) := Ex.new gp
  have w2 := w1.freeze hx hio
  refine ⟨.lst xs, gp, w2.perm (List.Perm.append_left (fps ε) q2'), oks_mono ex (fun _ _ => rfl) h.t, ?_⟩
  refine Oks.setD (fun ov q => ?_) (oks_mono ex (fun _ _ => rfl) h.s)
  rw [e1] at q
  cases q
  exact Dp.lst (Rd.of upd_same) (dpAllMono ex _ _ hd)
/-- the list on top of the stack is frozen -/
theorem S2.freezeT {ov : Option V} {ds : List PyData} (h : S2 F G H (ov :: τ) (.ol p ds :: ε) σ δ) (hio : p ∉ F.io) : ∃ o, G p = none ∧ S2 F (upd G p o) H (ov :: τ) (.fz (.list ds) :: ε) σ δ := by
  obtain ⟨v, rfl⟩ := sd_some (by intro z; cases z) h.top
  obtain ⟨rfl, xs, hx, hd⟩ := h.top
  have w1 : Wd F G H (p :: (fps ε ++ fps δ)) := h.w
  have gp : G p = none := (w1.own p List.mem_cons_self).1
  have ex : Ex G (upd G p (.lst xs)) := Ex.new gp
  exact ⟨.lst xs, gp, w1.freeze hx hio, ⟨Dp.lst (Rd.of upd_same) (dpAllMono ex _ _ hd), oks_mono ex (fun _ _ => rfl) h.t.2⟩, oks_mono ex (fun _ _ => rfl) h.s⟩
end

/-! ### the judgements -/
/-- what is wanted of a value and of the slots -/
abbrev PV := SD → List SD → Prop
section
variable (F : Fm)
/-- te, from the slots δ, gives a value and slots of which P holds -/
def E (te : TE) (δ : List SD) (P : PV) : Prop := ∀ τ ε G H σ Q, S2 F G H τ ε σ δ → (∀ v r δ' G' H', P r δ' → Ex G G' → S2 F G' H' (some v :: τ) (r :: ε) σ δ' → Q v H') → te σ H Q
def T (tt : TT) (δ : List SD) (P : Bool → List SD → Prop) : Prop := ∀ τ ε G H σ Q, S2 F G H τ ε σ δ → (∀ b δ' G' H', P b δ' → Ex G G' → S2 F G' H' τ ε σ δ' → Q b H') → tt σ H Q
/-- an argument list: the values on the stack, the first one on top -/
def EA (ta : TA) (δ : List SD) (P : List SD → List SD → Prop) : Prop := ∀ τ ε G H σ Q, S2 F G H τ ε σ δ → (∀ vs rs δ' G' H', P rs δ' → Ex G G' → vs.length = rs.length → S2 F G' H' (vs.map some ++ τ) (rs ++ ε) σ δ' → Q vs H') → ta σ H Q
/-- a statement -/
def Rn (ts : TS) (δ : List SD) (D : Ends) : Prop := ∀ G H σ, S2 F G H [] [] σ δ → ts D σ H
/-- what follows, from the slots δ -/
def Nx (n : St → Hp → Prop) (δ : List SD) : Prop := ∀ G H σ, S2 F G H [] [] σ δ → n σ H
/-- a return -/
def Rt (rt : VK) (P : PV) : Prop := ∀ v r δ G H σ, P r δ → S2 F G H [some v] [r] σ δ → rt v H
end
/-- a later frame -/
structure Le (F F' : Fm) : Prop where
  k : F'.K = F.K
  g : Ex F.G0 F'.G0
  io : F'.io = F.io
  up : ∀ {G H fs}, Wd F' G H fs → Wd F G H fs
section
variable {F F' : Fm} {G H : Hp} {τ σ : List (Option V)} {ε δ : List SD}
theorem Le.refl (F : Fm) : Le F F := ⟨rfl, Ex.refl _, rfl, fun w => w⟩
theorem Le.trans {F1 F2 F3 : Fm} (a : Le F1 F2) (b : Le F2 F3) : Le F1 F3 := ⟨b.k.trans a.k, Ex.trans a.g b.g, b.io.trans a.io, fun w => a.up (b.up w)⟩
theorem S2.up (l : Le F F') (h : S2 F' G H τ ε σ δ) : S2 F G H τ ε σ δ := ⟨l.up h.w, l.k ▸ h.t, l.k ▸ h.s⟩
/-- the frame as it is now -/
theorem S2.rebase (h : S2 F G H τ ε σ δ) : Le F { F with G0 := G } ∧ S2 { F with G0 := G } G H τ ε σ δ := by
  refine ⟨⟨rfl, h.w.g0, rfl, fun {G' H' fs} w => ?_⟩, ⟨{ h.w with g0 := Ex.refl _, nw := fun a o e => .inl e }, h.t, h.s⟩⟩
  have q : ∀ a o, G' a = some o → F.G0 a = some o ∨ F.H0 a = none := fun a o e => by
    rcases w.nw a o e with q | q
    · exact h.w.nw a o q
    · exact .inr q
  exact { w with g0 := Ex.trans h.w.g0 w.g0, nw := q }
end
end SL

namespace SL
open PySem L2 Evl
section
variable {F F' : Fm} {G G' H H' : Hp} {τ σ : List (Option V)} {ε δ : List SD} {v : V} {P : PV} {te ta tb : TE} {tt tu : TT}

theorem fz_sc {d : PyData} {ov : Option V} (h : SD.ok F.K G H ov (.fz d)) : ∃ v, ov = some v ∧ Dp F.K G v d := by
  obtain ⟨v, rfl⟩ := sd_some (by intro z; cases z) h
  exact ⟨v, rfl, h⟩
theorem dp_int {K : PySem.W.Frag} {i : Int} (h : Dp K G v (.int i)) : v = .int i := by cases h; rfl
theorem dp_bl {K : PySem.W.Frag} {i : Bool} (h : Dp K G v (.bool i)) : v = .bl i := by cases h; rfl
theorem dp_str {K : PySem.W.Frag} {i : Str} (h : Dp K G v (.str i)) : v = .str i := by cases h; rfl
theorem dp_non {K : PySem.W.Frag} (h : Dp K G v .none) : v = .non := by cases h; rfl
theorem dp_lst {K : PySem.W.Frag} {ds : List PyData} (h : Dp K G v (.list ds)) : ∃ a xs, v = .ref a ∧ SqL K G a xs ∧ DpAll K G xs ds := by
  cases h with
  | lst s a => exact ⟨_, _, rfl, .inl s, a⟩
theorem dp_tup {K : PySem.W.Frag} {ds : List PyData} (h : Dp K G v (.tuple ds)) : ∃ a xs, v = .ref a ∧ SqT K G a xs ∧ DpAll K G xs ds := by
  cases h with
  | tup s a => exact ⟨_, _, rfl, .inl (.inl s), a⟩
theorem dp_tupH {K : PySem.W.Frag} {ds : List PyData} (h : Dp K G v (.tuple ds)) : ∃ a xs, v = .ref a ∧ G a = some (.tup xs) ∧ DpAll K G xs ds := by
  cases h with
  | tup s a => exact ⟨_, _, rfl, s, a⟩
theorem dp_lstR {K : PySem.W.Frag} {ds : List PyData} (h : Dp K G v (.list ds)) : ∃ a xs, v = .ref a ∧ Rd G a (.lst xs) ∧ DpAll K G xs ds := by
  cases h with
  | lst s a => exact ⟨_, _, rfl, s, a⟩

/-! ### expressions -/
theorem E.mono {P' : PV} (h : E F te δ P) (k : ∀ r δ', P r δ' → P' r δ') : E F te δ P' := fun τ ε G H σ Q s q => h τ ε G H σ Q s fun v r δ' G' H' p => q v r δ' G' H' (k r δ' p)
theorem ev_fz {i : Nat} {d : PyData} (h : δ[i]? = some (.fz d)) (k : P (.fz d) δ) : E F (tVar i) δ P := fun τ ε G H σ Q s q => by
  obtain ⟨ov, e, ok⟩ := s.slot h
  obtain ⟨v, rfl, hd⟩ := fz_sc ok
  exact ⟨v, e, q v _ δ G H k (Ex.refl _) (s.push rfl hd)⟩
theorem ev_al {i : Nat} {p : Addr} (h : δ[i]? = some (.al p)) (k : P (.al p) δ) : E F (tVar i) δ P := fun τ ε G H σ Q s q => by
  obtain ⟨ov, e, ok⟩ := s.slot h
  obtain ⟨v, rfl⟩ := sd_some (by intro z; cases z) ok
  exact ⟨v, e, q v _ δ G H k (Ex.refl _) (s.push rfl ok)⟩
theorem ev_ol {i : Nat} {p : Addr} {ds : List PyData} (h : δ[i]? = some (.ol p ds)) (k : P (.al p) δ) : E F (tVar i) δ P := fun τ ε G H σ Q s q => by
  obtain ⟨ov, e, ok⟩ := s.slot h
  obtain ⟨v, rfl⟩ := sd_some (by intro z; cases z) ok
  exact ⟨v, e, q v _ δ G H k (Ex.refl _) (s.push rfl ok.1)⟩
theorem ev_od {i : Nat} {p : Addr} {ds : List (Key × PyData)} (h : δ[i]? = some (.od p ds)) (k : P (.al p) δ) : E F (tVar i) δ P := fun τ ε G H σ Q s q => by
  obtain ⟨ov, e, ok⟩ := s.slot h
  obtain ⟨v, rfl⟩ := sd_some (by intro z; cases z) ok
  exact ⟨v, e, q v _ δ G H k (Ex.refl _) (s.push rfl ok.1)⟩
theorem ev_ot {i : Nat} {p : Addr} {ds : List (List Key × PyData)} (h : δ[i]? = some (.ot p ds)) (k : P (.al p) δ) : E F (tVar i) δ P := fun τ ε G H σ Q s q => by
  obtain ⟨ov, e, ok⟩ := s.slot h
  obtain ⟨v, rfl⟩ := sd_some (by intro z; cases z) ok
  exact ⟨v, e, q v _ δ G H k (Ex.refl _) (s.push rfl ok.1)⟩
/-- a slot's thing moves to the stack -/
theorem ev_mv {i : Nat} {r : SD} (h : δ[i]? = some r) (hn : r ≠ .no) (k : P r (δ.set i .no)) : E F (tVar i) δ P := fun τ ε G H σ Q s q => by
  obtain ⟨ov, e, ok⟩ := s.slot h
  obtain ⟨v, rfl⟩ := sd_some hn ok
  refine ⟨v, e, q v _ _ G H k (Ex.refl _) ⟨?_, ⟨ok, s.t⟩, Oks.setD (fun _ _ => trivial) s.s⟩⟩
  obtain ⟨l, q1, q2⟩ := fps_set_perm (s' := SD.no) h
  refine s.w.perm ?_
  show ((r.fp ++ fps ε) ++ fps (δ.set i .no)).Perm (fps ε ++ fps δ)
  refine (List.Perm.append_left _ q2).trans (List.Perm.trans ?_ (List.Perm.append_left _ q1.symm))
  show ((r.fp ++ fps ε) ++ l).Perm _
  rw [← List.append_assoc]
  exact List.Perm.append_right l List.perm_append_comm
theorem ev_int {n : Int} (k : P (.fz (.int n)) δ) : E F (tC (.int n)) δ P := fun τ ε G H σ Q s q => q _ _ δ G H k (Ex.refl _) (s.push rfl (.int n))
theorem ev_bl {n : Bool} (k : P (.fz (.bool n)) δ) : E F (tC (.bl n)) δ P := fun τ ε G H σ Q s q => q _ _ δ G H k (Ex.refl _) (s.push rfl (.bl n))
theorem ev_str {n : Str} (k : P (.fz (.str n)) δ) : E F (tC (.str n)) δ P := fun τ ε G H σ Q s q => q _ _ δ G H k (Ex.refl _) (s.push rfl (.str n))
theorem ev_non (k : P (.fz .none) δ) : E F (tC .non) δ P := fun τ ε G H σ Q s q => q _ _ δ G H k (Ex.refl _) (s.push rfl .non)

/-- two operands on the stack, the second on top -/
def O2 (F : Fm) (r : R2) (ra rb : SD) (δ : List SD) (P : PV) : Prop := ∀ τ ε G H σ Q x y, S2 F G H (some y :: some x :: τ) (rb :: ra :: ε) σ δ → (∀ v r δ' G' H', P r δ' → Ex G G' → S2 F G' H' (some v :: τ) (r :: ε) σ δ' → Q v H') → r x y H Q
def O1 (F : Fm) (r : V → Hp → VK → Prop) (ra : SD) (δ : List SD) (P : PV) : Prop := ∀ τ ε G H σ Q x, S2 F G H (some x :: τ) (ra :: ε) σ δ → (∀ v r δ' G' H', P r δ' → Ex G G' → S2 F G' H' (some v :: τ) (r :: ε) σ δ' → Q v H') → r x H Q
theorem ev_op {r : R2} (h : E F ta δ fun ra δ1 => E F tb δ1 fun rb δ2 => O2 F r ra rb δ2 P) : E F (tOp r ta tb) δ P := fun τ ε G H σ Q s q =>
  h τ ε G H σ _ s fun x ra δ1 G1 H1 h1 e1 s1 => h1 _ _ G1 H1 σ _ s1 fun y rb δ2 G2 H2 h2 e2 s2 => h2 τ ε G2 H2 σ Q x y s2 fun z rc δ3 G3 H3 p e3 s3 => q z rc δ3 G3 H3 p (Ex.trans e1 (Ex.trans e2 e3)) s3
theorem ev_un {r : V → Hp → VK → Prop} (h : E F ta δ fun ra δ1 => O1 F r ra δ1 P) : E F (tUn r ta) δ P := fun τ ε G H σ Q s q =>
  h τ ε G H σ _ s fun x ra δ1 G1 H1 h1 e1 s1 => h1 τ ε G1 H1 σ Q x s1 fun z rc δ3 G3 H3 p e3 s3 => q z rc δ3 G3 H3 p (Ex.trans e1 e3) s3
theorem S2.pop2 {a b : Option V} {r1 r2 : SD} (s : S2 F G H (a :: b :: τ) (r1 :: r2 :: ε) σ δ) : S2 F G H τ ε σ δ := s.pop.pop
theorem fz_top {x : V} {d : PyData} (s : S2 F G H (some x :: τ) (.fz d :: ε) σ δ) : Dp F.K G x d := s.top
theorem fz_top2 {x y : V} {d : PyData} {r : SD} (s : S2 F G H (some y :: some x :: τ) (r :: .fz d :: ε) σ δ) : Dp F.K G x d := s.pop.top
theorem o_int {f : Int → Int → Int} {i j : Int} (k : P (.fz (.int (f i j))) δ) : O2 F (rI0 fun i j => .int (f i j)) (.fz (.int i)) (.fz (.int j)) δ P := fun τ ε G H σ Q x y s q =>
  ⟨i, j, dp_int (fz_top2 s), dp_int (fz_top s), q _ _ δ G H k (Ex.refl _) (s.pop2.push rfl (.int _))⟩
theorem o_bl {f : Int → Int → Bool} {i j : Int} (k : P (.fz (.bool (f i j))) δ) : O2 F (rI0 fun i j => .bl (f i j)) (.fz (.int i)) (.fz (.int j)) δ P := fun τ ε G H σ Q x y s q =>
  ⟨i, j, dp_int (fz_top2 s), dp_int (fz_top s), q _ _ δ G H k (Ex.refl _) (s.pop2.push rfl (.bl _))⟩
theorem o_intC {C : Int → Int → Prop} {f : Int → Int → Int} {i j : Int} (hc : C i j) (k : P (.fz (.int (f i j))) δ) : O2 F (rI C fun i j => .int (f i j)) (.fz (.int i)) (.fz (.int j)) δ P := fun τ ε G H σ Q x y s q =>
  ⟨i, j, dp_int (fz_top2 s), dp_int (fz_top s), hc, q _ _ δ G H k (Ex.refl _) (s.pop2.push rfl (.int _))⟩
theorem u_int {f : Int → Int} {i : Int} (k : P (.fz (.int (f i))) δ) : O1 F (rU fun i => .int (f i)) (.fz (.int i)) δ P := fun τ ε G H σ Q x s q =>
  ⟨i, dp_int (fz_top s), q _ _ δ G H k (Ex.refl _) (s.pop.push rfl (.int _))⟩
theorem o_eqI {i j : Int} (k : P (.fz (.bool (decide (i = j)))) δ) : O2 F rEq (.fz (.int i)) (.fz (.int j)) δ P := fun τ ε G H σ Q x y s q => by
  obtain rfl := dp_int (fz_top2 s)
  obtain rfl := dp_int (fz_top s)
  refine ⟨rfl, q _ _ δ G H k (Ex.refl _) (s.pop2.push rfl ?_)⟩
  have e : (decide (V.int i = V.int j)) = decide (i = j) := by
    by_cases h : i = j
    · subst h; simp
    · rw [decide_eq_false h, decide_eq_false (fun z => h (by injection z))]
  rw [e]; exact .bl _
theorem o_neI {i j : Int} (k : P (.fz (.bool (!decide (i = j)))) δ) : O2 F rNe (.fz (.int i)) (.fz (.int j)) δ P := fun τ ε G H σ Q x y s q => by
  obtain rfl := dp_int (fz_top2 s)
  obtain rfl := dp_int (fz_top s)
  refine ⟨rfl, q _ _ δ G H k (Ex.refl _) (s.pop2.push rfl ?_)⟩
  have e : (decide (V.int i = V.int j)) = decide (i = j) := by
    by_cases h : i = j
    · subst h; simp
    · rw [decide_eq_false h, decide_eq_false (fun z => h (by injection z))]
  rw [e]; exact .bl _
theorem o_eqS {i j : Str} (k : P (.fz (.bool (decide (i = j)))) δ) : O2 F rEq (.fz (.str i)) (.fz (.str j)) δ P := fun τ ε G H σ Q x y s q => by
  obtain rfl := dp_str (fz_top2 s)
  obtain rfl := dp_str (fz_top s)
  refine ⟨rfl, q _ _ δ G H k (Ex.refl _) (s.pop2.push rfl ?_)⟩
  have e : (decide (V.str i = V.str j)) = decide (i = j) := by
    by_cases h : i = j
    · subst h; simp
    · rw [decide_eq_false h, decide_eq_false (fun z => h (by injection z))]
  rw [e]; exact .bl _
theorem o_neS {i j : Str} (k : P (.fz (.bool (!decide (i = j)))) δ) : O2 F rNe (.fz (.str i)) (.fz (.str j)) δ P := fun τ ε G H σ Q x y s q => by
  obtain rfl := dp_str (fz_top2 s)
  obtain rfl := dp_str (fz_top s)
  refine ⟨rfl, q _ _ δ G H k (Ex.refl _) (s.pop2.push rfl ?_)⟩
  have e : (decide (V.str i = V.str j)) = decide (i = j) := by
    by_cases h : i = j
    · subst h; simp
    · rw [decide_eq_false h, decide_eq_false (fun z => h (by injection z))]
  rw [e]; exact .bl _
theorem o_eqD {d e : PyData} (h1 : SeqAt.shaped d = true) (h2 : SeqAt.shaped e = true) (k : P (.fz (.bool (PyData.eqv d e))) δ) : O2 F (rEqD F.K) (.fz d) (.fz e) δ P := fun τ ε G H σ Q x y s q =>
  ⟨d, e, dpTo _ _ (dpMono s.w.gh _ _ (fz_top2 s)), dpTo _ _ (dpMono s.w.gh _ _ (fz_top s)), h1, h2, q _ _ δ G H k (Ex.refl _) (s.pop2.push rfl (.bl _))⟩
theorem o_neD {d e : PyData} (h1 : SeqAt.shaped d = true) (h2 : SeqAt.shaped e = true) (k : P (.fz (.bool (!PyData.eqv d e))) δ) : O2 F (rNeD F.K) (.fz d) (.fz e) δ P := fun τ ε G H σ Q x y s q =>
  ⟨d, e, dpTo _ _ (dpMono s.w.gh _ _ (fz_top2 s)), dpTo _ _ (dpMono s.w.gh _ _ (fz_top s)), h1, h2, q _ _ δ G H k (Ex.refl _) (s.pop2.push rfl (.bl _))⟩
theorem o_addS {i j : Str} (h : i.length + j.length ≤ sizeLine) (k : P (.fz (.str (i ++ j))) δ) : O2 F (fun x y H Q => ∃ i j, x = .str i ∧ y = .str j ∧ i.length + j.length ≤ sizeLine ∧ Q (.str (i ++ j)) H) (.fz (.str i)) (.fz (.str j)) δ P := fun τ ε G H σ Q x y s q =>
  ⟨i, j, dp_str (fz_top2 s), dp_str (fz_top s), h, q _ _ δ G H k (Ex.refl _) (s.pop2.push rfl (.str _))⟩
/-- an item of a frozen list, of a frozen tuple -/
theorem atI_dp {K : PySem.W.Frag} {xs : List V} {ds : List PyData} {i : Int} {d : PyData} (h : DpAll K G xs ds) (e : atI ds i = some d) : ∃ x, atI xs i = some x ∧ Dp K G x d := by
  unfold atI at e ⊢
  have el := DpAll.len h
  rw [el]
  cases q : ixN ds.length i with
  | none => rw [q] at e; cases e
  | some j =>
    rw [q] at e
    obtain ⟨x, h1, h2⟩ := DpAll.get' h (show ds[j]? = some d from e)
    exact ⟨x, h1, h2⟩
theorem o_ixL {ds : List PyData} {i : Int} {d : PyData} (e : atI ds i = some d) (k : P (.fz d) δ) : O2 F (rIxL F.K) (.fz (.list ds)) (.fz (.int i)) δ P := fun τ ε G H σ Q x y s q => by
  obtain ⟨a, xs, rfl, sq, da⟩ := dp_lst (fz_top2 s)
  obtain rfl := dp_int (fz_top s)
  obtain ⟨z, h1, h2⟩ := atI_dp da e
  exact ⟨a, xs, i, z, rfl, rfl, ex_l s.w.gh sq, h1, q _ _ δ G H k (Ex.refl _) (s.pop2.push rfl h2)⟩
theorem o_ixT {ds : List PyData} {i : Int} {d : PyData} (e : atI ds i = some d) (k : P (.fz d) δ) : O2 F (rIxT F.K) (.fz (.tuple ds)) (.fz (.int i)) δ P := fun τ ε G H σ Q x y s q => by
  obtain ⟨a, xs, rfl, sq, da⟩ := dp_tup (fz_top2 s)
  obtain rfl := dp_int (fz_top s)
  obtain ⟨z, h1, h2⟩ := atI_dp da e
  exact ⟨a, xs, i, z, rfl, rfl, ex_t s.w.gh sq, h1, q _ _ δ G H k (Ex.refl _) (s.pop2.push rfl h2)⟩
/-- an item of an owned list that stands in slot j -/
theorem o_ixO {ds : List PyData} {i : Int} {d : PyData} {p : Addr} {j : Nat} (hj : δ[j]? = some (.ol p ds)) (e : atI ds i = some d) (k : P (.fz d) δ) : O2 F (rIxL F.K) (.al p) (.fz (.int i)) δ P := fun τ ε G H σ Q x y s q => by
  obtain ⟨ov, _, ok⟩ := s.slot hj
  obtain ⟨w, rfl⟩ := sd_some (by intro z; cases z) ok
  obtain ⟨rfl, xs, hx, hd⟩ := ok
  have hx' : x = .ref p := s.pop.top
  obtain rfl := dp_int (fz_top s)
  obtain ⟨z, h1, h2⟩ := atI_dp hd e
  exact ⟨p, xs, i, z, hx', rfl, SqL.of hx, h1, q _ _ δ G H k (Ex.refl _) (s.pop2.push rfl h2)⟩
theorem o_ixS {z : Str} {i : Int} {c : Nat} (hz : z.length ≤ sizeLine) (e : atI z.cps.toList i = some c) (k : P (.fz (.str ⟨#[c]⟩)) δ) : O2 F rIxS (.fz (.str z)) (.fz (.int i)) δ P := fun τ ε G H σ Q x y s q =>
  ⟨z, i, c, dp_str (fz_top2 s), dp_int (fz_top s), hz, e, q _ _ δ G H k (Ex.refl _) (s.pop2.push rfl (.str _))⟩

/-! ### and, or, not, if as values; chains -/
theorem ev_and (h : E F ta δ fun ra δ1 => ∃ c, ra = .fz (.bool c) ∧ if c = true then E F tb δ1 P else P (.fz (.bool false)) δ1) : E F (tAndV ta tb) δ P := fun τ ε G H σ Q s q =>
  h τ ε G H σ _ s fun x ra δ1 G1 H1 ⟨c, hr, h1⟩ e1 s1 => by
    subst hr
    refine ⟨c, dp_bl (fz_top s1), ?_⟩
    cases c with
    | true => exact h1 τ ε G1 H1 σ Q s1.pop fun z r δ2 G2 H2 p e2 s2 => q z r δ2 G2 H2 p (Ex.trans e1 e2) s2
    | false => exact q _ _ δ1 G1 H1 h1 e1 (s1.pop.push rfl (.bl _))
theorem ev_or (h : E F ta δ fun ra δ1 => ∃ c, ra = .fz (.bool c) ∧ if c = true then P (.fz (.bool true)) δ1 else E F tb δ1 P) : E F (tOrV ta tb) δ P := fun τ ε G H σ Q s q =>
  h τ ε G H σ _ s fun x ra δ1 G1 H1 ⟨c, hr, h1⟩ e1 s1 => by
    subst hr
    refine ⟨c, dp_bl (fz_top s1), ?_⟩
    cases c with
    | false => exact h1 τ ε G1 H1 σ Q s1.pop fun z r δ2 G2 H2 p e2 s2 => q z r δ2 G2 H2 p (Ex.trans e1 e2) s2
    | true => exact q _ _ δ1 G1 H1 h1 e1 (s1.pop.push rfl (.bl _))
theorem ev_not (h : E F ta δ fun ra δ1 => ∃ c, ra = .fz (.bool c) ∧ P (.fz (.bool (!c))) δ1) : E F (tNotV ta) δ P := fun τ ε G H σ Q s q =>
  h τ ε G H σ _ s fun x ra δ1 G1 H1 ⟨c, hr, h1⟩ e1 s1 => by
    subst hr
    exact ⟨c, dp_bl (fz_top s1), q _ _ δ1 G1 H1 h1 e1 (s1.pop.push rfl (.bl _))⟩
theorem ev_if (h : T F tt δ fun c δ1 => if c = true then E F ta δ1 P else E F tb δ1 P) : E F (tIf tt ta tb) δ P := fun τ ε G H σ Q s q =>
  h τ ε G H σ _ s fun c δ1 G1 H1 h1 e1 s1 => by
    cases c with
    | true => exact h1 τ ε G1 H1 σ Q s1 fun z r δ2 G2 H2 p e2 s2 => q z r δ2 G2 H2 p (Ex.trans e1 e2) s2
    | false => exact h1 τ ε G1 H1 σ Q s1 fun z r δ2 G2 H2 p e2 s2 => q z r δ2 G2 H2 p (Ex.trans e1 e2) s2
/-! ### tests -/
variable {PT : Bool → List SD → Prop}
theorem t_test (h : E F te δ fun r δ1 => ∃ c, r = .fz (.bool c) ∧ PT c δ1) : T F (tTest te) δ PT := fun τ ε G H σ Q s q =>
  h τ ε G H σ _ s fun x ra δ1 G1 H1 ⟨c, hr, h1⟩ e1 s1 => by
    subst hr
    exact ⟨c, dp_bl (fz_top s1), q c δ1 G1 H1 h1 e1 s1.pop⟩
theorem t_B (h : E F te δ fun r δ1 => ∃ c, r = .fz (.bool c) ∧ PT c δ1) : T F (tB te) δ PT := fun τ ε G H σ Q s q =>
  h τ ε G H σ _ s fun x ra δ1 G1 H1 ⟨c, hr, h1⟩ e1 s1 => by
    subst hr
    exact ⟨c, dp_bl (fz_top s1), q c δ1 G1 H1 h1 e1 s1.pop⟩
theorem t_and (h : T F tt δ fun c δ1 => if c = true then T F tu δ1 PT else PT false δ1) : T F (tAnd tt tu) δ PT := fun τ ε G H σ Q s q =>
  h τ ε G H σ _ s fun c δ1 G1 H1 h1 e1 s1 => by
    cases c with
    | true => exact h1 τ ε G1 H1 σ Q s1 fun b δ2 G2 H2 p e2 s2 => q b δ2 G2 H2 p (Ex.trans e1 e2) s2
    | false => exact q false δ1 G1 H1 h1 e1 s1
theorem t_or (h : T F tt δ fun c δ1 => if c = true then PT true δ1 else T F tu δ1 PT) : T F (tOr tt tu) δ PT := fun τ ε G H σ Q s q =>
  h τ ε G H σ _ s fun c δ1 G1 H1 h1 e1 s1 => by
    cases c with
    | false => exact h1 τ ε G1 H1 σ Q s1 fun b δ2 G2 H2 p e2 s2 => q b δ2 G2 H2 p (Ex.trans e1 e2) s2
    | true => exact q true δ1 G1 H1 h1 e1 s1
theorem t_not (h : T F tt δ fun c δ1 => PT (!c) δ1) : T F (tNot tt) δ PT := fun τ ε G H σ Q s q =>
  h τ ε G H σ _ s fun c δ1 G1 H1 h1 e1 s1 => q (!c) δ1 G1 H1 h1 e1 s1
theorem t_yes (h : PT true δ) : T F tYes δ PT := fun τ ε G H σ Q s q => q true δ G H h (Ex.refl _) s
theorem ev_chain {r r' : R2} {tc : TE} (h : E F ta δ fun ra δ1 => E F tb δ1 fun rb δ2 => ∃ d e, ra = .fz d ∧ rb = .fz e ∧ O2 F r (.fz d) (.fz e) δ2 fun rc δ3 => ∃ c, rc = .fz (.bool c) ∧ if c = true then E F tc δ3 fun rd δ4 => O2 F r' (.fz e) rd δ4 P else P (.fz (.bool false)) δ3) :
    E F (tChain r r' ta tb tc) δ P := fun τ ε G H σ Q s q =>
  h τ ε G H σ _ s fun x ra δ1 G1 H1 h1 e1 s1 => h1 _ _ G1 H1 σ _ s1 fun y rb δ2 G2 H2 ⟨d, e, hra, hrb, h2⟩ e2 s2 => by
    subst hra
    subst hrb
    have hy := fz_top s2
    refine h2 τ ε G2 H2 σ _ x y s2 fun z rc δ3 G3 H3 ⟨c, hc, h3⟩ e3 s3 => ?_
    subst hc
    refine ⟨c, dp_bl (fz_top s3), ?_⟩
    cases c with
    | false => exact q _ _ δ3 G3 H3 h3 (Ex.trans e1 (Ex.trans e2 e3)) (s3.pop.push rfl (.bl _))
    | true =>
      exact h3 _ _ G3 H3 σ _ (s3.pop.push (sd := .fz e) rfl (dpMono e3 _ _ hy)) fun w rd δ4 G4 H4 h4 e4 s4 => h4 τ ε G4 H4 σ Q y w s4 fun u ru δ5 G5 H5 p e5 s5 => q u ru δ5 G5 H5 p (Ex.trans e1 (Ex.trans e2 (Ex.trans e3 (Ex.trans e4 e5)))) s5

/-! ### arguments, displays, calls of builtins -/
variable {PL : List SD → List SD → Prop} {tr : TA}
theorem a_nil (k : PL [] δ) : EA F tNil δ PL := fun τ ε G H σ Q s q => q [] [] δ G H k (Ex.refl _) rfl s
/-- one argument -/
theorem a_one (h : E F te δ fun r δ1 => PL [r] δ1) : EA F (tCons te tNil) δ PL := fun τ ε G H σ Q s q =>
  h τ ε G H σ _ s fun x r δ1 G1 H1 h1 e1 s1 => q [x] [r] δ1 G1 H1 h1 e1 rfl s1
theorem Oks.app {K : PySem.W.Frag} : ∀ {τ τ' : List (Option V)} {ε ε' : List SD}, Oks K G H τ ε → Oks K G H τ' ε' → Oks K G H (τ ++ τ') (ε ++ ε')
  | [], _, [], _, _, h => h
  | [], _, _ :: _, _, h, _ => h.elim
  | _ :: _, _, [], _, h, _ => h.elim
  | _ :: _, _, _ :: _, _, h, h' => ⟨h.1, Oks.app h.2 h'⟩
theorem Oks.split {K : PySem.W.Frag} : ∀ {τ τ' : List (Option V)} {ε ε' : List SD}, τ.length = ε.length → Oks K G H (τ ++ τ') (ε ++ ε') → Oks K G H τ ε ∧ Oks K G H τ' ε'
  | [], _, [], _, _, h => ⟨trivial, h⟩
  | [], _, _ :: _, _, e, _ => by simp at e
  | _ :: _, _, [], _, e, _ => by simp at e
  | _ :: _, _, _ :: _, _, e, h => let ⟨a, b⟩ := Oks.split (by simpa using e) h.2; ⟨⟨h.1, a⟩, b⟩
/-- the first argument frozen, then the rest -/
theorem a_cons (h : E F te δ fun r δ1 => EA F tr δ1 fun rs δ2 => PL (r :: rs) δ2) : EA F (tCons te tr) δ PL := fun τ ε G H σ Q s q =>
  h τ ε G H σ _ s fun x r δ1 G1 H1 h1 e1 s1 => h1 _ _ G1 H1 σ _ s1 fun xs rs δ2 G2 H2 h2 e2 el s2 => by
    refine q (x :: xs) (r :: rs) δ2 G2 H2 h2 (Ex.trans e1 e2) (by simp [el]) ?_
    have sp := Oks.split (τ := xs.map some) (ε := rs) (by simpa using el) s2.t
    refine ⟨s2.w.perm ?_, ⟨sp.2.1, Oks.app sp.1 sp.2.2⟩, s2.s⟩
    show ((r.fp ++ fps (rs ++ ε)) ++ fps δ2).Perm (fps (rs ++ r :: ε) ++ fps δ2)
    refine List.Perm.append_right _ ?_
    rw [fps_app, fps_app]
    show (r.fp ++ (fps rs ++ fps ε)).Perm (fps rs ++ (r.fp ++ fps ε))
    rw [← List.append_assoc, ← List.append_assoc]
    exact List.Perm.append_right _ List.perm_append_comm
/-- the values of an argument list -/
def OA (F : Fm) (r : List V → Hp → VK → Prop) (rs : List SD) (δ : List SD) (P : PV) : Prop := ∀ τ ε G H σ Q vs, vs.length = rs.length → S2 F G H (vs.map some ++ τ) (rs ++ ε) σ δ → (∀ v r δ' G' H', P r δ' → Ex G G' → S2 F G' H' (some v :: τ) (r :: ε) σ δ' → Q v H') → r vs H Q
theorem ev_cb {r : List V → Hp → VK → Prop} (h : EA F tr δ fun rs δ1 => OA F r rs δ1 P) : E F (tCB r tr) δ P := fun τ ε G H σ Q s q =>
  h τ ε G H σ _ s fun vs rs δ1 G1 H1 h1 e1 el s1 => h1 τ ε G1 H1 σ Q vs el s1 fun z rc δ3 G3 H3 p e3 s3 => q z rc δ3 G3 H3 p (Ex.trans e1 e3) s3
theorem one_of {vs : List V} {r : SD} (e : vs.length = [r].length) : ∃ x, vs = [x] := by
  match vs, e with
  | [x], _ => exact ⟨x, rfl⟩
theorem two_of {vs : List V} {r r' : SD} (e : vs.length = [r, r'].length) : ∃ x y, vs = [x, y] := by
  match vs, e with
  | [x, y], _ => exact ⟨x, y, rfl⟩
/-- frozen data of a list of slots -/
theorem oks_fz {K : PySem.W.Frag} : ∀ {vs : List V} {ds : List PyData}, Oks K G H (vs.map some) (ds.map SD.fz) → DpAll K G vs ds
  | [], [], _ => .nil
  | [], _ :: _, h => h.elim
  | _ :: _, [], h => h.elim
  | _ :: _, _ :: _, h => .cons h.1 (oks_fz h.2)
theorem fps_fz : ∀ (ds : List PyData), fps (ds.map SD.fz) = []
  | [] => rfl
  | _ :: ds => fps_fz ds
theorem S2.popN {rs : List SD} {vs : List V} (el : vs.length = rs.length) (s : S2 F G H (vs.map some ++ τ) (rs ++ ε) σ δ) : S2 F G H τ ε σ δ :=
  ⟨s.w.sub (by rw [fps_app, List.append_assoc]; exact List.sublist_append_right _ _), (Oks.split (by simpa using el) s.t).2, s.s⟩
/-- a tuple of frozen things -/
theorem ev_tup (h : EA F tr δ fun rs δ1 => ∃ ds, rs = ds.map SD.fz ∧ ds.length ≤ sizeLine ∧ P (.fz (.tuple ds)) δ1) : E F (tTup tr) δ P := fun τ ε G H σ Q s q =>
  h τ ε G H σ _ s fun vs rs δ1 G1 H1 ⟨ds, hr, hl, k⟩ e1 el s1 => by
    subst hr
    have el' : vs.length = ds.length := by simpa using el
    refine ⟨by omega, fun p hp => ?_⟩
    have sp := Oks.split (by simpa using el) s1.t
    have da := oks_fz sp.1
    have s2 := (S2.popN el s1).newF (o := .tup vs) hp
    have ex := Ex.new (o := .tup vs) (s1.w.gnone hp)
    exact q _ _ δ1 _ _ k (Ex.trans e1 ex) (s2.push rfl (Dp.tup upd_same (dpAllMono ex _ _ da)))
/-- a new list of frozen things, owned -/
theorem ev_lst (h : EA F tr δ fun rs δ1 => ∃ ds, rs = ds.map SD.fz ∧ ds.length ≤ sizeLine ∧ ∀ p, p ∉ F.io → P (.ol p ds) δ1) : E F (tLst tr) δ P := fun τ ε G H σ Q s q =>
  h τ ε G H σ _ s fun vs rs δ1 G1 H1 ⟨ds, hr, hl, k⟩ e1 el s1 => by
    subst hr
    have el' : vs.length = ds.length := by simpa using el
    refine ⟨by omega, fun p hp => ?_⟩
    have sp := Oks.split (by simpa using el) s1.t
    have da := oks_fz sp.1
    have hio : p ∉ F.io := fun z => by
      obtain ⟨o, e⟩ := s1.w.io p z
      rw [hp] at e; cases e
    exact q _ _ δ1 _ _ (k p hio) e1 ((S2.popN el s1).newO hp rfl ⟨rfl, vs, upd_same, da⟩)
/-- what is on top is frozen -/
theorem E.freeze (h : E F te δ fun r δ1 => (∃ p ds, p ∉ F.io ∧ r = .ol p ds ∧ P (.fz (.list ds)) δ1)) : E F te δ P := fun τ ε G H σ Q s q =>
  h τ ε G H σ _ s fun v r δ1 G1 H1 ⟨p, ds, hio, hr, k⟩ e1 s1 => by
    subst hr
    obtain ⟨o, gp, s2⟩ := s1.freezeT hio
    exact q v _ δ1 _ _ k (Ex.trans e1 (Ex.new gp)) s2
/-- a slot is frozen -/
theorem E.freezeS {i : Nat} {p : Addr} {ds : List PyData} (e : δ[i]? = some (.ol p ds)) (hio : p ∉ F.io) (h : E F te (δ.set i (.fz (.list ds))) P) : E F te δ P := fun τ ε G H σ Q s q => by
  obtain ⟨o, gp, s2⟩ := s.freezeL e hio
  exact h τ ε _ H σ Q s2 fun v r δ' G' H' p e' s' => q v r δ' G' H' p (Ex.trans (Ex.new gp) e') s'
theorem T.freezeS {i : Nat} {p : Addr} {ds : List PyData} (e : δ[i]? = some (.ol p ds)) (hio : p ∉ F.io) (h : T F tt (δ.set i (.fz (.list ds))) PT) : T F tt δ PT := fun τ ε G H σ Q s q => by
  obtain ⟨o, gp, s2⟩ := s.freezeL e hio
  exact h τ ε _ H σ Q s2 fun b δ' G' H' p e' s' => q b δ' G' H' p (Ex.trans (Ex.new gp) e') s'
end
end SL

namespace SL
open PySem L2 Evl
section
variable {F F' : Fm} {G G' H H' : Hp} {τ σ : List (Option V)} {ε δ : List SD} {v : V} {P : PV} {te ta tb : TE} {tt tu : TT} {ts tw : TS} {D : Ends} {N : St → Hp → Prop} {g : TG} {PT : Bool → List SD → Prop}

/-! ### statements -/
theorem Nx.up (l : Le F F') (h : Nx F N δ) : Nx F' N δ := fun G H σ s => h G H σ (s.up l)
theorem Rn.up (l : Le F F') (h : Rn F ts δ D) : Rn F' ts δ D := fun G H σ s => h G H σ (s.up l)
theorem rn_seq (h : Rn F ts δ { D with nx := tw D }) : Rn F (tSeq ts tw) δ D := h
theorem rn_next (h : Nx F D.nx δ) : Rn F tNext δ D := h
theorem rn_cont (h : Nx F D.ct δ) : Rn F tCont δ D := h
theorem rn_break (h : Nx F D.bk δ) : Rn F tBreak δ D := h
/-- the value on top goes to a target -/
def Ga (F : Fm) (g : TG) (r : SD) (δ : List SD) (N : St → Hp → Prop) : Prop := ∀ G H σ v, S2 F G H [some v] [r] σ δ → g v σ H N
theorem rn_asg (h : E F te δ fun r δ1 => Ga F g r δ1 D.nx) : Rn F (tAsg te g) δ D := fun G H σ s => h [] [] G H σ _ s fun v r δ1 G1 H1 h1 _ s1 => h1 G1 H1 σ v s1
theorem ga_name {i : Nat} {r : SD} (hi : i < δ.length) (h : Nx F N (δ.set i r)) : Ga F (gName i) r δ N := fun G H σ v s => h G H _ (s.store (List.getElem?_eq_getElem hi))
theorem lt_of_get {α : Type} {l : List α} {i : Nat} {x : α} (h : l[i]? = some x) : i < l.length := (List.getElem?_eq_some_iff.mp h).1
theorem rn_set {i : Nat} (h : E F te δ fun r δ1 => ∃ old, δ1[i]? = some old ∧ Nx F D.nx (δ1.set i r)) : Rn F (tAsg te (gName i)) δ D := rn_asg (h.mono fun _ _ ⟨_, k1, k2⟩ => ga_name (lt_of_get k1) k2)
theorem nx_seq (h : Rn F tw δ D) : Nx F (Ends.nx (Ends.mk (tw D) D.rt D.bk D.ct)) δ := h
theorem rn_asgN {i : Nat} {r : SD} {old : SD} (hi : δ[i]? = some old) (h : Nx F N (δ.set i r)) : Ga F (gName i) r δ N := ga_name (lt_of_get hi) h
theorem rn_if (h : T F tt δ fun b δ1 => if b = true then Rn F ts δ1 D else Rn F tw δ1 D) : Rn F (tIfS tt ts tw) δ D := fun G H σ s => h [] [] G H σ _ s fun b δ1 G1 H1 h1 _ s1 => by
  cases b with
  | true => exact h1 G1 H1 σ s1
  | false => exact h1 G1 H1 σ s1
theorem rn_drop (h : E F te δ fun _ δ1 => Nx F D.nx δ1) : Rn F (tDrop te) δ D := fun G H σ s => h [] [] G H σ _ s fun v r δ1 G1 H1 h1 _ s1 => h1 G1 H1 σ s1.pop
/-- a return, the value told by r, the slots by δ -/
def Ro (F : Fm) (rt : VK) (r : SD) (δ : List SD) : Prop := ∀ v G H σ, S2 F G H [some v] [r] σ δ → rt v H
theorem Ro.up {rt : VK} {r : SD} (l : Le F F') (h : Ro F rt r δ) : Ro F' rt r δ := fun v G H σ s => h v G H σ (s.up l)
theorem rn_ret (h : E F te δ fun r δ1 => Ro F D.rt r δ1) : Rn F (tRet te) δ D := fun G H σ s => h [] [] G H σ _ s fun v r δ1 G1 H1 h1 _ s1 => h1 v G1 H1 σ s1
theorem rn_retN (h : Ro F D.rt (.fz .none) δ) : Rn F tRetN δ D := fun G H σ s => h .non G H σ (s.push rfl .non)
theorem Nx.freezeS {i : Nat} {p : Addr} {ds : List PyData} (e : δ[i]? = some (.ol p ds)) (hio : p ∉ F.io) (h : Nx F N (δ.set i (.fz (.list ds)))) : Nx F N δ := fun G H σ s => by
  obtain ⟨o, gp, s2⟩ := s.freezeL e hio
  exact h _ H σ s2
theorem Rn.freezeS {i : Nat} {p : Addr} {ds : List PyData} (e : δ[i]? = some (.ol p ds)) (hio : p ∉ F.io) (h : Rn F ts (δ.set i (.fz (.list ds))) D) : Rn F ts δ D := Nx.freezeS (N := ts D) e hio h
theorem Nx.drop {i : Nat} {r : SD} (e : δ[i]? = some r) (h : Nx F N (δ.set i .no)) : Nx F N δ := fun G H σ s => h G H σ (s.drop e)
theorem Rn.drop {i : Nat} {r : SD} (e : δ[i]? = some r) (h : Rn F ts (δ.set i .no) D) : Rn F ts δ D := Nx.drop (N := ts D) e h
/-- a, b = a frozen tuple -/
def Gas (F : Fm) (u : TGs) (ds : List PyData) (δ : List SD) (N : St → Hp → Prop) : Prop := ∀ G H σ vs, S2 F G H [] [] σ δ → DpAll F.K G vs ds → u vs σ H N
theorem ga_tup {n : Nat} {u : TGs} {ds : List PyData} (hn : ds.length = n) (h : Gas F u ds δ N) : Ga F (gTup F.K n u) (.fz (.tuple ds)) δ N := fun G H σ v s => by
  obtain ⟨a, xs, rfl, sq, da⟩ := dp_tup (fz_top s)
  exact ⟨a, xs, rfl, ex_t s.w.gh sq, by rw [DpAll.len da, hn], h G H σ xs s.pop da⟩
theorem gas_nil (h : Nx F N δ) : Gas F gNil [] δ N := fun G H σ vs s da => by
  cases da
  exact ⟨rfl, h G H σ s⟩
theorem gas_name {i : Nat} {u : TGs} {d : PyData} {ds : List PyData} {old : SD} (hi : δ[i]? = some old) (h : Gas F u ds (δ.set i (.fz d)) N) : Gas F (gCons (gName i) u) (d :: ds) δ N := fun G H σ vs s da => by
  cases da with
  | cons a b => exact ⟨_, _, rfl, h G H _ _ ((s.push (sd := .fz d) rfl a).store hi) b⟩

/-! ### what a loop walks: frozen items -/
def ItOk (K : PySem.W.Frag) (J : It) (G' : Hp) (items : List PyData) : Prop := ∃ Gc Y, Walk J items.length Gc Y ∧ (∀ G H, Ex G' G → Ex G H → Gc H) ∧
  ∀ i H x H2 d, items[i]? = some d → Y i H x H2 → ∀ (F2 : Fm) G τ ε σ δ, F2.K = K → S2 F2 G H τ ε σ δ → Ex G' G → ∃ G2, Ex G G2 ∧ S2 F2 G2 H2 (some x :: τ) (.fz d :: ε) σ δ
def Iw (F : Fm) (wi : TI) (δ : List SD) (P : List PyData → List SD → Prop) : Prop := ∀ τ ε G H σ R, S2 F G H τ ε σ δ → (∀ J items δ' G' H', P items δ' → Ex G G' → S2 F G' H' τ ε σ δ' → ItOk F.K J G' items → R J H') → wi σ H R
variable {PI : List PyData → List SD → Prop} {wi : TI} {tr : TA}
theorem itOk_list {K : PySem.W.Frag} {a : Addr} {xs : List V} {ds : List PyData} (sq : SqL K G a xs) (da : DpAll K G xs ds) : ItOk K (Itl K a) G ds := by
  refine ⟨_, _, by rw [← DpAll.len da]; exact walk_list, fun G1 H1 e1 e2 => ex_l (Ex.trans e1 e2) sq, ?_⟩
  rintro i H x H2 d hd ⟨rfl, hx⟩ F2 G1 τ ε σ δ hK s e
  obtain ⟨d', h1, h2⟩ := DpAll.get da hx
  rw [hd] at h1
  cases h1
  exact ⟨G1, Ex.refl _, s.push rfl (by show Dp F2.K G1 x d; rw [hK]; exact dpMono e _ _ h2)⟩
theorem itOk_tup {K : PySem.W.Frag} {a : Addr} {xs : List V} {ds : List PyData} (sq : SqT K G a xs) (da : DpAll K G xs ds) : ItOk K (Itt K a) G ds := by
  refine ⟨_, _, by rw [← DpAll.len da]; exact walk_tup, fun G1 H1 e1 e2 => ex_t (Ex.trans e1 e2) sq, ?_⟩
  rintro i H x H2 d hd ⟨rfl, hx⟩ F2 G1 τ ε σ δ hK s e
  obtain ⟨d', h1, h2⟩ := DpAll.get da hx
  rw [hd] at h1
  cases h1
  exact ⟨G1, Ex.refl _, s.push rfl (by show Dp F2.K G1 x d; rw [hK]; exact dpMono e _ _ h2)⟩
/-- a new pair of two frozen things -/
theorem S2.pair {T : Addr} {x y : V} {d e : PyData} (s : S2 F G H τ ε σ δ) (hT : H T = none) (hx : Dp F.K G x d) (hy : Dp F.K G y e) : ∃ G2, Ex G G2 ∧ S2 F G2 (upd H T (.tup [x, y])) (some (.ref T) :: τ) (.fz (.tuple [d, e]) :: ε) σ δ := by
  have ex := Ex.new (o := .tup [x, y]) (s.w.gnone hT)
  exact ⟨_, ex, (s.newF hT).push rfl (Dp.tup upd_same (.cons (dpMono ex _ _ hx) (.cons (dpMono ex _ _ hy) .nil)))⟩
def enumD : Nat → List PyData → List PyData
  | _, [] => []
  | i, d :: ds => .tuple [.int (i : Nat), d] :: enumD (i + 1) ds
theorem enumD_len : ∀ (i : Nat) (ds : List PyData), (enumD i ds).length = ds.length
  | _, [] => rfl
  | i, _ :: ds => by simp [enumD, enumD_len (i + 1) ds]
theorem enumD_get : ∀ (k : Nat) (ds : List PyData) (i : Nat), (enumD k ds)[i]? = ds[i]?.map fun d => .tuple [.int ((k + i : Nat) : Int), d]
  | _, [], _ => by simp [enumD]
  | k, d :: ds, 0 => by simp [enumD]
  | k, d :: ds, i + 1 => by
    simp only [enumD, List.getElem?_cons_succ]
    rw [enumD_get (k + 1) ds i]
    have : k + 1 + i = k + (i + 1) := by omega
    rw [this]
theorem itOk_enum {K : PySem.W.Frag} {a : Addr} {xs : List V} {ds : List PyData} (sq : SqL K G a xs) (da : DpAll K G xs ds) : ItOk K (Ite K a) G (enumD 0 ds) := by
  refine ⟨_, _, by rw [enumD_len, ← DpAll.len da]; exact walk_enum, fun G1 H1 e1 e2 => ex_l (Ex.trans e1 e2) sq, ?_⟩
  rintro i H x H2 d hd ⟨T, x1, y1, rfl, hT, rfl, h1, h2⟩ F2 G1 τ ε σ δ hK s e
  rw [enumD_get] at hd
  obtain ⟨d', h3, h4⟩ := DpAll.get da h2
  rw [h3] at hd
  simp only [Option.map_some, Option.some.injEq, Nat.zero_add] at hd
  subst hd
  cases h1
  exact s.pair hT (.int _) (by rw [hK]; exact dpMono e _ _ h4)
def rangeD (lo : Int) (n : Nat) : List PyData := (List.range n).map fun i => .int (lo + (i : Nat))
theorem itOk_range {K : PySem.W.Frag} (lo : Int) (n : Nat) : ItOk K (Itr lo n) G (rangeD lo n) := by
  refine ⟨_, _, by rw [show (rangeD lo n).length = n by simp [rangeD]]; exact walk_range, fun _ _ _ _ => trivial, ?_⟩
  rintro i H x H2 d hd ⟨rfl, rfl⟩ F2 G1 τ ε σ δ hK s e
  have : d = .int (lo + (i : Nat)) := by
    simp only [rangeD, List.getElem?_map] at hd
    cases q : (List.range n)[i]? with
    | none => rw [q] at hd; cases hd
    | some j =>
      rw [q] at hd
      have := List.getElem?_eq_some_iff.mp q
      obtain ⟨h1, h2⟩ := this
      simp at h2
      subst h2
      simpa using hd.symm
  subst this
  exact ⟨G1, Ex.refl _, s.push rfl (.int _)⟩
def signsD (z : Str) : List PyData := z.cps.toList.map fun c => .str ⟨#[c]⟩
theorem itOk_str {K : PySem.W.Frag} (z : Str) : ItOk K (Its z) G (signsD z) := by
  refine ⟨_, _, by rw [show (signsD z).length = z.cps.size by simp [signsD]]; exact walk_str, fun _ _ _ _ => trivial, ?_⟩
  rintro i H x H2 d hd ⟨rfl, c, hc, rfl⟩ F2 G1 τ ε σ δ hK s e
  have : d = .str ⟨#[c]⟩ := by
    simp only [signsD, List.getElem?_map] at hd
    have q : z.cps.toList[i]? = some c := by simpa using hc
    rw [q] at hd
    simpa using hd.symm
  subst this
  exact ⟨G1, Ex.refl _, s.push rfl (.str _)⟩
theorem iw_list (h : E F te δ fun r δ1 => ∃ ds, r = .fz (.list ds) ∧ PI ds δ1) : Iw F (iList F.K te) δ PI := fun τ ε G H σ R s q =>
  h τ ε G H σ _ s fun v r δ1 G1 H1 ⟨ds, hr, k⟩ e1 s1 => by
    subst hr
    obtain ⟨a, xs, rfl, sq, da⟩ := dp_lst (fz_top s1)
    exact ⟨a, rfl, ⟨xs, ex_l s1.w.gh sq⟩, q _ ds δ1 G1 H1 k e1 s1.pop (itOk_list sq da)⟩
theorem iw_tup (h : E F te δ fun r δ1 => ∃ ds, r = .fz (.tuple ds) ∧ PI ds δ1) : Iw F (iTup F.K te) δ PI := fun τ ε G H σ R s q =>
  h τ ε G H σ _ s fun v r δ1 G1 H1 ⟨ds, hr, k⟩ e1 s1 => by
    subst hr
    obtain ⟨a, xs, rfl, sq, da⟩ := dp_tup (fz_top s1)
    exact ⟨a, rfl, ⟨xs, ex_t s1.w.gh sq⟩, q _ ds δ1 G1 H1 k e1 s1.pop (itOk_tup sq da)⟩
theorem iw_str (h : E F te δ fun r δ1 => ∃ z, r = .fz (.str z) ∧ PI (signsD z) δ1) : Iw F (iStr te) δ PI := fun τ ε G H σ R s q =>
  h τ ε G H σ _ s fun v r δ1 G1 H1 ⟨z, hr, k⟩ e1 s1 => by
    subst hr
    exact ⟨z, dp_str (fz_top s1), q _ _ δ1 G1 H1 k e1 s1.pop (itOk_str z)⟩
theorem iw_enum (h : EA F tr δ fun rs δ1 => ∃ ds, rs = [.fz (.list ds)] ∧ PI (enumD 0 ds) δ1) : Iw F (iEnum F.K tr) δ PI := fun τ ε G H σ R s q =>
  h τ ε G H σ _ s fun vs rs δ1 G1 H1 ⟨ds, hr, k⟩ e1 el s1 => by
    subst hr
    obtain ⟨x, rfl⟩ := one_of el
    obtain ⟨a, xs, rfl, sq, da⟩ := dp_lst (fz_top s1)
    exact ⟨a, xs, rfl, ex_l s1.w.gh sq, q _ _ δ1 G1 H1 k e1 s1.pop (itOk_enum sq da)⟩
theorem iw_range1 (h : EA F tr δ fun rs δ1 => ∃ j : Int, rs = [.fz (.int j)] ∧ -(2 ^ 62) ≤ j ∧ j < 2 ^ 62 ∧ PI (rangeD 0 j.toNat) δ1) : Iw F (iRng1 tr) δ PI := fun τ ε G H σ R s q =>
  h τ ε G H σ _ s fun vs rs δ1 G1 H1 ⟨j, hr, h1, h2, k⟩ e1 el s1 => by
    subst hr
    obtain ⟨x, rfl⟩ := one_of el
    obtain rfl := dp_int (fz_top s1)
    exact ⟨j, rfl, h1, h2, q _ _ δ1 G1 H1 k e1 s1.pop (itOk_range 0 _)⟩
theorem iw_range2 (h : EA F tr δ fun rs δ1 => ∃ i j : Int, rs = [.fz (.int i), .fz (.int j)] ∧ (-(2 ^ 62) ≤ i ∧ i < 2 ^ 62 ∧ -(2 ^ 62) ≤ j ∧ j < 2 ^ 62) ∧ PI (rangeD i (j - i).toNat) δ1) : Iw F (iRng2 tr) δ PI := fun τ ε G H σ R s q =>
  h τ ε G H σ _ s fun vs rs δ1 G1 H1 ⟨i, j, hr, h1, k⟩ e1 el s1 => by
    subst hr
    obtain ⟨x, y, rfl⟩ := two_of el
    obtain rfl := dp_int (fz_top s1)
    obtain rfl := dp_int (fz_top s1.pop)
    exact ⟨i, j, rfl, h1, q _ _ δ1 G1 H1 k e1 s1.pop.pop (itOk_range i _)⟩

/-! ### for -/
theorem rn_for {tb : TS} (h : Iw F wi δ fun items δ1 => ∃ I : Nat → List SD → Prop, I 0 δ1 ∧
      (∀ F' i d δ' N, Le F F' → items[i]? = some d → I i δ' → (∀ δ'', I (i + 1) δ'' → Nx F' N δ'') → Ga F' g (.fz d) δ' fun σ2 H2 => tb { D with nx := N, ct := N, bk := D.nx } σ2 H2) ∧ (∀ δ', I items.length δ' → Nx F D.nx δ')) :
    Rn F (tFor wi g tb) δ D := fun G H σ s => h [] [] G H σ _ s fun J items δ1 G1 H1 ⟨I, i0, step, fin⟩ e1 s1 ⟨Gc, Y, wk, hg, hy⟩ => by
  refine for_it wk (fun i σ H => ∃ G δ', Ex G1 G ∧ I i δ' ∧ S2 F G H [] [] σ δ') ⟨G1, δ1, Ex.refl _, i0, s1⟩ (fun i σ H _ ⟨G, δ', ex, _, s⟩ => hg G H ex s.w.gh) ?_ (fun σ H ⟨G, δ', _, hi, s⟩ => fin δ' hi G H σ s)
  rintro i x σ H H' hi ⟨G, δ', ex, hI, s⟩ y
  have hd : items[i]? = some items[i] := List.getElem?_eq_getElem hi
  obtain ⟨G2, ex2, s2⟩ := hy i H x H' _ hd y F G [] [] σ δ' rfl s ex
  obtain ⟨l, s3⟩ := s2.rebase
  exact step _ i _ δ' _ l hd hI (fun δ'' hi' G4 H4 σ4 s4 => ⟨G4, δ'', Ex.trans (Ex.trans ex ex2) s4.w.g0, hi', s4.up l⟩) G2 H' σ x s3
/-- while, by a word of the slots and a measure -/
theorem rn_while {tb : TS} (I : Nat → List SD → Prop) (m0 : Nat) (h0 : I m0 δ)
    (hs : ∀ F' m δ', Le F F' → I m δ' → T F' tt δ' fun b δ1 => if b = true then ∀ N, (∀ m' δ'', m' < m → I m' δ'' → Nx F' N δ'') → Rn F' tb δ1 { D with nx := N, ct := N, bk := D.nx } else Nx F' D.nx δ1) : Rn F (tWhile tt tb) δ D := fun G H σ s => by
  refine ⟨fun m σ H => ∃ G δ', I m δ' ∧ S2 F G H [] [] σ δ', ⟨m0, G, δ, h0, s⟩, ?_⟩
  rintro m σ H ⟨G, δ', hI, s⟩
  obtain ⟨l, s3⟩ := s.rebase
  refine hs _ m δ' l hI [] [] G H σ _ s3 fun b δ1 G1 H1 h1 e1 s1 => ?_
  cases b with
  | true =>
    refine ⟨fun σ' H' => ∃ m', m' < m ∧ ∃ G δ', I m' δ' ∧ S2 F G H' [] [] σ' δ', fun σ' H' hh => hh, ?_⟩
    exact h1 _ (fun m' δ'' hm hi G4 H4 σ4 s4 => ⟨m', hm, G4, δ'', hi, s4.up l⟩) G1 H1 σ s1
  | false => exact h1 G1 H1 σ s1

/-! ### comprehensions -/
theorem set_set_none (σ : List (Option V)) (j : Nat) (x : Option V) : (((σ.set j none).set j x).set j none) = σ.set j none := by
  simp
theorem oks_wipe {K : PySem.W.Frag} {j : Nat} (hj : δ[j]? = some .no) : ∀ {σ : List (Option V)}, Oks K G H σ δ → Oks K G H (σ.set j none) δ := by
  intro σ h
  have := Oks.set (ov := none) (s := SD.no) trivial j h
  have e : δ.set j .no = δ := by
    apply List.ext_getElem?
    intro k
    by_cases hk : j = k
    · subst hk
      have hl := (List.getElem?_eq_some_iff.mp hj).1
      rw [List.getElem?_set_self hl, hj]
    · rw [List.getElem?_set_ne hk]
  rw [e] at this
  exact this
theorem oks_unwipe {K : PySem.W.Frag} {j : Nat} : ∀ {σ : List (Option V)} {δ : List SD} {j : Nat}, δ[j]? = some .no → Oks K G H (σ.set j none) δ → Oks K G H σ δ
  | [], [], _, e, _ => by simp at e
  | [], _ :: _, _, _, h => h.elim
  | _ :: _, [], _, e, _ => by simp at e
  | _ :: _, s :: _, 0, e, h => by
    simp at e
    subst e
    exact ⟨trivial, h.2⟩
  | _ :: _, s :: _, j + 1, e, h => ⟨h.1, oks_unwipe (K := K) (j := j) (by simpa using e) h.2⟩
/-- one clause, one name; what is made of the items, told by I (turn, list so far, slots) -/
theorem ev_lc {j : Nat} {te : TE} (h : Iw F wi δ fun items δ1 => δ1[j]? = some .no ∧ items.length < 100000 ∧ ∃ I : Nat → List PyData → List SD → Prop, I 0 [] δ1 ∧ (∀ i acc δ', I i acc δ' → δ'[j]? = some .no ∧ acc.length ≤ i) ∧
      (∀ F' i d acc δ', Le F F' → items[i]? = some d → I i acc δ' → T F' tt (δ'.set j (.fz d)) fun b δ2 => if b = true then E F' te δ2 fun r δ3 => ∃ d', r = .fz d' ∧ ∃ r3, δ3[j]? = some r3 ∧ I (i + 1) (acc ++ [d']) (δ3.set j .no) else ∃ r2, δ2[j]? = some r2 ∧ I (i + 1) acc (δ2.set j .no)) ∧
      (∀ acc δ' p, p ∉ F.io → I items.length acc δ' → P (.ol p acc) δ')) :
    E F (tLc wi (gName j) tt te [j]) δ P := fun τ ε G H σ Q s q => h τ ε G H σ _ s fun J items δ1 G1 H1 ⟨hj, hlen, I, i0, keep, step, fin⟩ e1 s1 ⟨Gc, Y, wk, hg, hy⟩ => by
  intro Dl hD
  have hio : Dl ∉ F.io := fun z => by
    obtain ⟨o, e⟩ := s1.w.io Dl z
    rw [hD] at e; cases e
  have sw : S2 F G1 H1 τ ε (wipe σ [j]) δ1 := ⟨s1.w, s1.t, oks_wipe hj s1.s⟩
  have s0 : S2 F G1 (upd H1 Dl (.lst [])) (some (.ref Dl) :: τ) (.ol Dl [] :: ε) (wipe σ [j]) δ1 := sw.newO hD rfl ⟨rfl, [], upd_same, .nil⟩
  refine lc_it wk (fun i H => ∃ G acc δ', Ex G1 G ∧ I i acc δ' ∧ S2 F G H (some (.ref Dl) :: τ) (.ol Dl acc :: ε) (wipe σ [j]) δ') ⟨G1, [], δ1, Ex.refl _, i0, s0⟩ (fun i H _ ⟨G, acc, δ', ex, _, s⟩ => hg G H ex s.w.gh) ?_ ?_
  · rintro i x H H' hi ⟨G, acc, δ', ex, hI, s⟩ y
    have hd : items[i]? = some items[i] := List.getElem?_eq_getElem hi
    obtain ⟨G2, ex2, s2⟩ := hy i H x H' _ hd y F G _ _ _ δ' rfl s ex
    obtain ⟨l, s3⟩ := s2.rebase
    obtain ⟨k1, k2⟩ := keep i acc δ' hI
    have s4 := s3.store k1
    refine ⟨set_set_none _ _ _, ?_⟩
    have back : ∀ {G5 H5 acc5 δ5 r5}, δ5[j]? = some r5 → S2 { F with G0 := G2 } G5 H5 (some (.ref Dl) :: τ) (.ol Dl acc5 :: ε) ((wipe σ [j]).set j (some x)) δ5 → S2 F G5 H5 (some (.ref Dl) :: τ) (.ol Dl acc5 :: ε) (wipe σ [j]) (δ5.set j .no) := by
      intro G5 H5 acc5 δ5 r5 hr h5
      have h6 := (h5.up l).drop hr
      have hl : (δ5.set j SD.no)[j]? = some SD.no := List.getElem?_set_self (List.getElem?_eq_some_iff.mp hr).1
      have h7 := oks_wipe hl h6.s
      refine ⟨h6.w, h6.t, ?_⟩
      have e : ((wipe σ [j]).set j (some x)).set j none = wipe σ [j] := by
        show (((σ.set j none).set j (some x)).set j none) = σ.set j none
        simp
      rw [e] at h7
      exact h7
    refine step _ i _ acc δ' l hd hI _ _ G2 H' _ _ s4 fun b δ2 G5 H5 h5 e5 s5 => ?_
    cases b with
    | true =>
      refine h5 _ _ G5 H5 _ _ s5 fun w r δ3 G6 H6 ⟨d', hr, r3, hr3, hI'⟩ e6 s6 => ?_
      subst hr
      have hw := fz_top s6
      have s7 := s6.pop
      obtain ⟨_, xs, hx, hda⟩ := s7.top
      have hlx := DpAll.len hda
      refine ⟨xs, hx, ?_, G6, acc ++ [d'], δ3.set j .no, Ex.trans (Ex.trans ex ex2) s6.w.g0, hI', ?_⟩
      · exact Nat.lt_of_lt_of_le (show xs.length < 100000 by omega) (by decide)
      · -- the list has one more
        have wm : Wd { F with G0 := G2 } G6 (upd H6 Dl (.lst (xs ++ [w]))) (Dl :: (fps ε ++ fps δ3)) := s7.w.mut List.mem_cons_self
        have nd := (List.nodup_cons.mp (show (Dl :: (fps ε ++ fps δ3)).Nodup from s7.w.nd)).1
        have s8 : S2 { F with G0 := G2 } G6 (upd H6 Dl (.lst (xs ++ [w]))) (some (.ref Dl) :: τ) (.ol Dl (acc ++ [d']) :: ε) ((wipe σ [j]).set j (some x)) δ3 :=
          ⟨wm, ⟨⟨rfl, _, upd_same, DpAll.app hda (SL.DpAll.one hw)⟩, oks_mono (Ex.refl _) (fun a ha => upd_ne fun z => nd (z ▸ List.mem_append_left _ ha)) s7.t.2⟩, oks_mono (Ex.refl _) (fun a ha => upd_ne fun z => nd (z ▸ List.mem_append_right _ ha)) s7.s⟩
        exact back hr3 s8
    | false =>
      obtain ⟨r2, hr2, hI'⟩ := h5
      exact ⟨G5, acc, δ2.set j .no, Ex.trans (Ex.trans ex ex2) s5.w.g0, hI', back hr2 s5⟩
  · rintro H ⟨G, acc, δ', ex, hI, s⟩
    obtain ⟨k1, k2⟩ := keep _ acc δ' hI
    exact q _ _ δ' G H (fin acc δ' Dl hio hI) (Ex.trans e1 ex) ⟨s.w, s.t, oks_unwipe (K := F.K) (j := j) k1 s.s⟩
end
end SL

namespace SL
open PySem L2 Evl
section
variable {K : PySem.W.Frag} {F F' : Fm} {G G' H H' : Hp} {τ σ : List (Option V)} {ε δ : List SD} {v : V} {P : PV} {te ta tb : TE} {tt tu : TT} {ts tw : TS} {D : Ends} {N : St → Hp → Prop} {g : TG} {PT : Bool → List SD → Prop} {tr : TA}

/-! ### a def whose arguments are frozen -/
abbrev WF := List PyData → (SD → Prop) → Prop
def SpF (K : PySem.W.Frag) (W : WF) : Sp := fun vs H Q _ => ∃ G ds post, Ex G H ∧ DpAll K G vs ds ∧ W ds post ∧ ∀ r, post r → ∀ v G' H', S2 ⟨K, G, H, []⟩ G' H' [some v] [r] [] [] → Q v H'
/-- behind a call: what the callee leaves, in the caller's frame -/
theorem S2.call {G1 H1 : Hp} {r : SD} (s : S2 F G H τ ε σ δ) (c : S2 ⟨F.K, G, H, []⟩ G1 H1 [some v] [r] [] []) : S2 F G1 H1 (some v :: τ) (r :: ε) σ δ := by
  have w := c.w
  have hk : ∀ a ∈ fps ε ++ fps δ, H1 a = H a := fun a ha => by
    obtain ⟨_, o, e⟩ := s.w.own a ha
    rw [e]
    exact w.fr a o e (by simp)
  have new : ∀ a ∈ r.fp, H a = none := fun a ha => by
    rcases w.of a (by simp [fps, ha]) with q | q
    · simp at q
    · exact q
  refine ⟨⟨w.gh, ?_, ?_, Ex.trans s.w.g0 w.g0, ?_, ?_, ?_, ?_⟩, ⟨c.top, oks_mono w.g0 (fun a ha => hk a (List.mem_append_left _ ha)) s.t⟩, oks_mono w.g0 (fun a ha => hk a (List.mem_append_right _ ha)) s.s⟩
  · intro a ha
    have ha' : a ∈ r.fp ++ (fps ε ++ fps δ) := by rw [← List.append_assoc]; exact ha
    rcases List.mem_append.mp ha' with q | q
    · exact w.own a (by simp [fps, q])
    · obtain ⟨gn, o, e⟩ := s.w.own a q
      refine ⟨?_, o, w.fr a o e (by simp)⟩
      cases q1 : G1 a with
      | none => rfl
      | some u =>
        rcases w.nw a u q1 with z | z
        · rw [show G a = some u from z] at gn; cases gn
        · rw [show H a = none from z] at e; cases e
  · show ((r.fp ++ fps ε) ++ fps δ).Nodup
    rw [List.append_assoc]
    refine List.nodup_append.mpr ⟨?_, s.w.nd, ?_⟩
    · have := w.nd
      simp only [fps, List.append_nil] at this
      exact this
    · intro a ha b hb z
      subst z
      obtain ⟨_, o, e⟩ := s.w.own a hb
      rw [new a ha] at e; cases e
  · intro a o e hi
    exact w.fr a o (s.w.fr a o e hi) (by simp)
  · intro a o e
    rcases w.nw a o e with z | z
    · exact s.w.nw a o z
    · exact .inr (s.w.h0none z)
  · intro a ha
    have ha' : a ∈ r.fp ++ (fps ε ++ fps δ) := by rw [← List.append_assoc]; exact ha
    rcases List.mem_append.mp ha' with q | q
    · exact .inr (s.w.h0none (new a q))
    · exact s.w.of a q
  · intro a ha
    obtain ⟨o, e⟩ := s.w.io a ha
    exact ⟨o, w.fr a o e (by simp)⟩
/-- the call of a def whose arguments are frozen -/
theorem ev_callF {W : WF} {X0 : XK} (h : EA F tr δ fun rs δ1 => ∃ ds, rs = ds.map SD.fz ∧ W ds fun r => (∀ a ∈ r.fp, a ∉ F.io) → P r δ1) : E F (tCall (SpF F.K W) [] X0 tr) δ P := fun τ ε G H σ Q s q =>
  h τ ε G H σ _ s fun vs rs δ1 G1 H1 ⟨ds, hr, k⟩ e1 el s1 => by
    subst hr
    rw [List.append_nil]
    have sp := Oks.split (by simpa using el) s1.t
    have s0 := S2.popN el s1
    refine ⟨G1, ds, _, s1.w.gh, oks_fz sp.1, k, fun r p v G' H' c => ?_⟩
    refine q v r δ1 G' H' (p fun a ha hi => ?_) (Ex.trans e1 c.w.g0) (s0.call c)
    obtain ⟨o, e⟩ := s1.w.io a hi
    rcases c.w.of a (by simp [fps, ha]) with z | z
    · simp at z
    · rw [show H1 a = none from z] at e; cases e
theorem fz_map : ∀ {rs : List SD} {ds : List PyData}, rs = ds.map SD.fz → rs = ds.map SD.fz := fun h => h
/-- the slots at a def's start -/
def startD (n : Nat) (δ : List SD) : List SD := δ ++ List.replicate (n - δ.length) .no
theorem oks_nones {K : PySem.W.Frag} : ∀ (n : Nat), Oks K G H (List.replicate n none) (List.replicate n .no)
  | 0 => trivial
  | n + 1 => ⟨trivial, oks_nones n⟩
theorem oks_ofDp {K : PySem.W.Frag} : ∀ {vs : List V} {ds : List PyData}, DpAll K G vs ds → Oks K G H (vs.map some) (ds.map SD.fz)
  | _, _, .nil => trivial
  | _, _, .cons a b => ⟨a, oks_ofDp b⟩
/-- the body of a def whose arguments are frozen: from the frozen data, in a frame of its own -/
theorem bodyF {W : WF} {N : List Str} {vs : List V} {Q : VK} {X0 : XK} {t : TS} (h : SpF K W vs H Q X0)
    (hb : ∀ F ds post, F.K = K → F.io = [] → W ds post → (∀ r δ, post r → Ro F Q r δ) → Rn F t (startD N.length (ds.map SD.fz)) { nx := fun _ H' => Q .non H', rt := Q }) : t { nx := fun _ H' => Q .non H', rt := Q } (start N vs) H := by
  obtain ⟨G, ds, post, ex, da, w, k⟩ := h
  refine hb ⟨K, G, H, []⟩ ds post rfl rfl w (fun r δ p v G' H' σ s => k r p v G' H' ⟨s.w.sub ?_, s.t, trivial⟩) G H _ ?_
  · show (fps [r] ++ fps []).Sublist (fps [r] ++ fps δ)
    exact List.Sublist.append_left (List.nil_sublist _) _
  · have hl : fps (startD N.length (ds.map SD.fz)) = [] := by
      unfold startD
      rw [fps_app, fps_fz]
      have : ∀ n, fps (List.replicate n SD.no) = [] := fun n => by
        induction n with
        | zero => rfl
        | succ n ih => exact ih
      rw [this]
      rfl
    refine ⟨?_, trivial, ?_⟩
    · rw [hl]
      exact ⟨ex, fun a ha => by simp [fps] at ha, by simp [fps], Ex.refl _, fun a o e _ => e, fun a o e => .inl e, fun a ha => by simp [fps] at ha, fun a ha => by simp at ha⟩
    · unfold L2.start startD
      rw [List.length_map, ← DpAll.len da]
      exact Oks.app (oks_ofDp da) (oks_nones _)
end
end SL

/-! Rules of our own over the hand layer. -/
namespace L2
open PySem PySem.Spec PyProof.Rows
section
variable {X : Cx}
/-- list + list, both read -/
def rCatS (K : PySem.W.Frag) : R2 := fun x y H Q => ∃ l b xs zs, x = .ref l ∧ y = .ref b ∧ SqL K H l xs ∧ SqL K H b zs ∧ xs.length + zs.length ≤ sizeLine ∧ ∀ p, H p = none → Q (.ref p) (upd H p (.lst (xs ++ zs)))
theorem op_catS : OpR X (binaryOp .Add) (rCatS X.K) := by
  intro pins s σ H x y v u Q I rx ry h
  obtain ⟨l, b, xs, zs, rfl, rfl, hH, hB, hz, q⟩ := h
  cases rx
  cases ry
  obtain ⟨its, r, p, z⟩ := I.list hH
  obtain ⟨its2, r2, p2, z2⟩ := I.list hB
  have hl := r.length
  have hl2 := r2.length
  obtain ⟨⟨cls, dd, data, sl⟩, ho, hc, n, hd⟩ := p.isList
  obtain ⟨⟨cls2, dd2, data2, sl2⟩, ho2, hc2, n2, hd2⟩ := p2.isList
  simp only at hc hd hc2 hd2
  subst hc hd hc2 hd2
  have ea : its.toArray ++ its2.toArray = (its ++ its2).toArray := by simp
  refine concat_meets ⟨_, ho, rfl⟩ ⟨_, ho2, rfl⟩ noFill_list_add seq_list_add PySem.F.slot_list_add PySem.F.entry_list_add (PySem.F.args_list_add_2 _ _) (list_addW l b its.toArray its2.toArray n n2 dd dd2 sl sl2 (by rw [List.size_toArray, List.size_toArray]; omega)) ⟨ho, ho2, ?_⟩
  rw [ea]
  exact ⟨.ref _, _, I.lnew (t' := s.toks) (r.append r2) (by rw [List.length_append]; omega), rfl, q _ I.fresh⟩
end
end L2

/-! for a, b in enumerate(t), t a tuple. -/
namespace L2
open PySem PySem.Spec PyProof.Rows
def IteT (K : PySem.W.Frag) (a : Addr) : It :=
  ⟨fun i H => ∃ (xs : List V) (x : V), SqT K H a xs ∧ xs[i]? = some x, fun i H v H' => ∃ T x, v = .ref T ∧ H T = none ∧ H' = upd H T (.tup [.int (i : Nat), x]) ∧ ∀ xs, SqT K H a xs → xs[i]? = some x, fun i H => ∃ xs : List V, SqT K H a xs ∧ xs.length = i⟩
end L2
namespace PySem
set_option maxHeartbeats 1000000 in
theorem meets_enum1B {v : Value} {o : Obj} {H : Heap → Prop} (B : Begins v o H) :
    Meets (Builtin.«enumerate.__new__» ⟨[.type "enumerate", v], []⟩) (fun _ R s => H s.heap ∧
      R (.ok (.ret (.ref (s.heap.push o).objs.size))) { s with heap := (s.heap.push o).push { cls := .type "enumerate", data := .fields #[.none, .bool false, .ref s.heap.objs.size, rawInt 0, .none, .none] } }) :=
  .of_wp fun prog w A R s h => by
    obtain ⟨hp, g, d, tk, os⟩ := s; obtain ⟨h1, h⟩ := h
    have hsub := sub_enumerate
    have q1 : ∀ {A' : Around} {E : Value → Shared → Prop} {Q : Value → Shared → Prop}, Q (.ref hp.objs.size) ⟨hp.push o, g, d, tk, os⟩ → wpAny (model prog w) A' (pyIter v) Q E ⟨hp, g, d, tk, os⟩ :=
      fun q => B.iter prog w _ _ ⟨hp, g, d, tk, os⟩ _ h1 q
    wp_walk using q1
    refine wpAny_stack_any fun st => wpAny_pure ?_
    split
    · rename_i c _ _ _ _ _
      cases (c == Value.type "enumerate")
      · wp_walk using q1
        exact ⟨_, rfl, h⟩
      · wp_walk using q1
        exact ⟨_, rfl, h⟩
    · wp_walk using q1
      exact ⟨_, rfl, h⟩
theorem enum_begins1 {prog : Program} {w : World} {A : Around} {E : Value → Shared → Prop} {s : Shared} {v : Value} {o : Obj} {H : Heap → Prop} {Q : Value → Shared → Prop} (B : Begins v o H) (h1 : H s.heap)
    (h : ∀ h', IsEnum h' (s.heap.objs.size + 1) s.heap.objs.size 0 .none → h'.get? s.heap.objs.size = some o → h'.objs.size = s.heap.objs.size + 2 →
      (∀ b o, s.heap.get? b = some o → h'.get? b = some o) → Q (.ref (s.heap.objs.size + 1)) { s with heap := h' }) :
    wpAny (model prog w) A (call (.type "enumerate") [v]) Q E s := by
  refine callType_new F.called_enumerate (by decide) (F.typeCall_enumerate_1 _) (F.newCall_enumerate_1 _) (fun obj => F.args_object_init_2 obj _) F.entry_enumerate_new
    (meets_enum1B B) ⟨h1, ?_⟩
  have hz : (s.heap.push o).objs.size = s.heap.objs.size + 1 := Heap.size_push ..
  show _ ∧ _
  rw [hz]
  have he : IsEnum ((s.heap.push o).push { cls := .type "enumerate", data := .fields #[.none, .bool false, .ref s.heap.objs.size, rawInt 0, .none, .none] }) (s.heap.objs.size + 1) s.heap.objs.size 0 .none := by
    have := Heap.get?_push_size (s.heap.push o) (o := { cls := .type "enumerate", data := .fields #[.none, .bool false, .ref s.heap.objs.size, rawInt 0, .none, .none] }) rfl
    rw [hz] at this; exact this
  refine ⟨⟨_, he, rfl⟩, h _ he (Heap.get?_push_of_some _ (Heap.get?_push_size _ B.free)) (by rw [Heap.size_push, hz]) fun b o x => Heap.get?_push_of_some _ (Heap.get?_push_of_some _ x)⟩
end PySem
namespace L2
open PySem PySem.Spec PyProof.Rows
theorem turn_enumT {P : Program} {w : World} {K : PySem.W.Frag} {elts : List Expr} {kk : Nat} {tpos : Pos} (a e it : Addr) (hai : a ≠ it) :
    Turn P w K (.Tuple elts kk tpos) (IteT K a) [e, it] e (fun i h => (∃ old, IsEnum h e it ((i : Nat) : Int) old) ∧ h.IsTupleIter it a i ∧ e ≠ it ∧ a ≠ e) where
  mem := by simp
  obj := fun i h st b hb => by
    obtain ⟨⟨old, he⟩, ⟨o, ho, hc, hd⟩, _⟩ := st
    have e' : b = e ∨ b = it := by simpa using hb
    rcases e' with z | z
    · rw [z]; exact ⟨_, he, fun v q => nomatch q⟩
    · rw [z]; exact ⟨o, ho, fun v q => by rw [hd] at q; cases q⟩
  keep := fun i h h' st k => let ⟨⟨old, he⟩, hi, hne⟩ := st; ⟨⟨old, k e (by simp) _ he⟩, hi.at fun o q => k it (by simp) o q, hne⟩
  item := by
    intro X hP hw hK hc i pins s σ H E I hf st hg
    subst hP hw hK
    obtain ⟨⟨old, he⟩, hit, hne, hae⟩ := st
    obtain ⟨xs, x, hq, hx⟩ := hg
    obtain ⟨its, rv, p, hz⟩ := I.tuple hq
    obtain ⟨u, hu, ru⟩ := rv.get hx
    have hel : e < s.heap.objs.size := Heap.lt_size he
    have hil : it < s.heap.objs.size := by obtain ⟨_, q, _⟩ := hit; exact Heap.lt_size q
    have hlt : i < its.toArray.size := by
      have := (List.getElem?_eq_some_iff.mp hu).1
      simpa using this
    have hui : its.toArray[i]? = some u := by simpa using hu
    refine wpAny_pyNext_enum_itemD (Draws.tuple (A := X.A.in1) (I.ok.hd hc) it a hai its.toArray) he ⟨hit, p⟩ hlt hne (by simp [hne, hae.symm]) fun x' h' tk hx' ho hit' hT hsz hk => ?_
    rw [hui] at hx'
    cases hx'
    refine ⟨_, rfl, wpAny_letOwnedTupleGo_enum (s := { s with heap := h', toks := tk + 1 }) ho fun h'' he' sb => ?_⟩
    have hT2 : h''.get? s.heap.objs.size = some { cls := .type "tuple", data := .seq #[.int i tk, u] } := (sb.2 _ (Nat.ne_of_gt hel)).trans hT
    have new : ObjOk X.prog X.w (upd H s.heap.objs.size (.tup [.int (i : Nat), x])) h'' s.heap.objs.size (.tup [.int (i : Nat), x]) :=
      ⟨by show 2 ≤ sizeLine; decide, [.int i tk, u], .cons ⟨_, rfl⟩ (.cons ru .nil), ⟨_, hT2, rfl, _, rfl⟩⟩
    have I1 : Inv X pins σ (upd H s.heap.objs.size (.tup [.int (i : Nat), x])) { s with heap := h'', toks := tk + 1 } :=
      I.turnedNew (ch := [e, it]) (fun b ob hb q => (sb.2 b (fun z => hb (by simp [z]))).trans (hk b ob (fun z => hb (by simp [z])) (fun z => hb (by simp [z])) q)) hf (Nat.le_refl _) new
    refine ⟨.ref s.heap.objs.size, _, I1, rfl, ⟨_, x, rfl, I.hok.fresh (Nat.le_refl _), rfl, fun ys hy => by rw [I.tuple_inj hy hq]; exact hx⟩, ⟨⟨u, ?_⟩, hit'.1.at fun o q => (sb.2 it (Ne.symm hne)).trans q, hne, hae⟩, fun b hb => ?_⟩
    · have e1 : ((i + 1 : Nat) : Int) = (i : Int) + 1 := by omega
      rw [e1]; exact he'
    · have hb' : b < s.heap.objs.size := by
        have e' : b = e ∨ b = it := by simpa using hb
        rcases e' with z | z
        · rw [z]; exact hel
        · rw [z]; exact hil
      rw [upd_ne (Nat.ne_of_lt hb')]
      exact (hf b hb).1
  done := by
    intro X hP hw hK hc i pins s σ H E I hf st hg
    subst hP hw hK
    obtain ⟨⟨old, he⟩, hit, hne, hae⟩ := st
    obtain ⟨xs, hq, hx⟩ := hg
    obtain ⟨its, rv, p, hz⟩ := I.tuple hq
    obtain ⟨f0, f1, f2, f3, f4, f5⟩ := hf it (by simp)
    have hl := rv.length
    have ei : its.toArray.size = i := by rw [List.size_toArray]; omega
    exact wpAny_pyNext_enum_endD (Draws.tuple (A := X.A.in1) (I.ok.hd hc) it a hai its.toArray) he ⟨by rw [ei]; exact hit, p⟩ fun h' eb => ⟨rfl, I.turned (t' := s.toks) (fun b o hb q => eb b o hb q) f0 f1 f3 f4 f5⟩
  self := fun A i s Q E st h => let ⟨⟨_, he⟩, _⟩ := st; wpAny_pyIter_enum he h
def iEnumT (K : PySem.W.Frag) (ta : TA) : TI := fun σ H R => ta σ H fun vs H1 => ∃ a xs, vs = [.ref a] ∧ SqT K H1 a xs ∧ R (IteT K a) H1
theorem pi_enumT {X : Cx} {e : Expr} {ta : TA} {p pos tpos : Pos} {elts : List Expr} {kk : Nat} (hg : Gl X "enumerate") (hm : X.mg "enumerate" = none) (ha : PA X [e] ta) (hs : starEach [e] X.env = [(false, eval e X.env)] := by rfl) :
    PI X (.Tuple elts kk tpos) (.Call (.Name "enumerate" p) [e] [] pos) (iEnumT X.K ta) := by
  refine ⟨fun pins s σ H R I h => ?_⟩
  refine Call_ (ld_blt I hg hm boot_enumerate (PyProof.Rows.callWith_type1 (thn (ha.run pos pins s σ H _ I h) fun us s1 ⟨vs, H1, I1, r1, q1⟩ => ?_) hs rfl))
  obtain ⟨a, xs, ex, hq, q⟩ := q1
  subst ex
  cases r1 with
  | cons r rr =>
    cases rr
    cases r
    obtain ⟨its, rv, p', hz⟩ := I1.tuple hq
    have hlt : a < s1.heap.objs.size := p'.lt
    refine enum_begins1 (begins_tuple a its.toArray) p' fun h' he hit hsz hk => wpAny_pyIter_enum he ?_
    have I2 : Inv X pins σ H1 { s1 with heap := h' } := I1.kept (t' := s1.toks) hk
    refine ⟨s1.heap.objs.size + 1, [s1.heap.objs.size + 1, s1.heap.objs.size], _, _, H1, rfl, I2, turn_enumT a (s1.heap.objs.size + 1) s1.heap.objs.size (Nat.ne_of_lt hlt), ⟨⟨.none, he⟩, ⟨_, hit, rfl, rfl⟩, Nat.succ_ne_self _, Nat.ne_of_lt (Nat.lt_succ_of_lt hlt)⟩, fun b hb => ?_, q⟩
    have e' : b = s1.heap.objs.size + 1 ∨ b = s1.heap.objs.size := by simpa using hb
    have hle : s1.heap.objs.size ≤ b := by
      rcases e' with z | z
      · rw [z]; exact Nat.le_add_right _ _
      · rw [z]; exact Nat.le_refl _
    exact I1.fpOk hle (I1.hok.fresh hle)
theorem walk_enumT {K : PySem.W.Frag} {a : Addr} {xs : List V} : Walk (IteT K a) xs.length (fun H => SqT K H a xs) (YPair (fun i => some (.int (i : Nat))) (fun i => xs[i]?)) := by
  refine ⟨fun i _ hi q => ⟨xs, xs[i], q, by simp [hi]⟩, fun _ q => ⟨xs, q, rfl⟩, fun i H v H' _ q y => ?_⟩
  obtain ⟨T, x, h1, h2, h3, h4⟩ := y
  exact ⟨T, .int (i : Nat), x, h1, h2, h3, rfl, h4 xs q⟩
end L2

/-! enumerate and zip over lists, tuples and texts alike. -/
namespace L2
open PySem PySem.Spec PyProof.Rows
inductive Kd | l | t | s
/-- what may be walked: a list, a tuple, a text; its items -/
def SrcK (K : PySem.W.Frag) : Kd → Hp → V → List V → Prop
  | .l, H, v, xs => ∃ a, v = .ref a ∧ SqL K H a xs
  | .t, H, v, xs => ∃ a, v = .ref a ∧ SqT K H a xs
  | .s, _, v, xs => ∃ z : Str, v = .str z ∧ xs = z.cps.toList.map fun c => .str ⟨#[c]⟩
/-- its iterator at it; all else that it reads lies below lim -/
structure Sc (K : PySem.W.Frag) (it lim : Addr) (xs : List V) (Gc : Hp → Prop) (IS : Nat → Heap → Prop) : Prop where
  keep : ∀ i h h', IS i h → (∀ o, h.get? it = some o → h'.get? it = some o) → IS i h'
  obj : ∀ i h, IS i h → ∃ o, h.get? it = some o ∧ ∀ v, o.data ≠ .cell v
  dr : ∀ {X : Cx} {pins : List (Addr × Obj)} {σ : St} {H : Hp} {s : Shared}, X.K = K → X.calm = true → Inv X pins σ H s → Gc H → ∃ (fp : List Addr) (P : Nat → Value → Prop) (St : Nat → Heap → Prop),
    Draws X.prog X.w X.A.in1 it fp xs.length P St ∧ it ∈ fp ∧ (∀ b ∈ fp, b = it ∨ b < lim) ∧ (∀ i, IS i s.heap → St i s.heap) ∧ (∀ i h', St i h' → IS i h') ∧ ∀ i u, P i u → ∃ v, xs[i]? = some v ∧ RelV v u
theorem vals_get' {xs : List V} {its : List Value} (r : Vals xs its) {i : Nat} {u : Value} (h : its.toArray[i]? = some u) : ∃ v, xs[i]? = some v ∧ RelV v u := by
  have h' : its[i]? = some u := by simpa using h
  cases e : xs[i]? with
  | none => rw [r.none_of e] at h'; cases h'
  | some v =>
    obtain ⟨u', h1, h2⟩ := r.get e
    rw [h'] at h1
    cases h1
    exact ⟨v, rfl, h2⟩
theorem sc_list {K : PySem.W.Frag} {a it lim : Addr} {xs : List V} (h1 : a ≠ it) (h2 : a < lim) : Sc K it lim xs (fun H => SqL K H a xs) (fun i h => h.IsListIter it a i) where
  keep := fun i h h' st k => st.at k
  obj := fun i h ⟨o, ho, hc, hd⟩ => ⟨o, ho, fun v q => by rw [hd] at q; cases q⟩
  dr := by
    intro X pins σ H s hK hc I hq
    subst hK
    obtain ⟨its, rv, p, hz⟩ := I.list hq
    have hl := rv.length
    have D := Draws.list (prog := X.prog) (w := X.w) (A := X.A.in1) (I.ok.hd hc) it a h1 its.toArray
    have e : its.toArray.size = xs.length := by rw [List.size_toArray, hl]
    rw [e] at D
    exact ⟨_, _, _, D, by simp, fun b hb => by
      have : b = it ∨ b = a := by simpa using hb
      rcases this with z | z
      · exact .inl z
      · exact .inr (z ▸ h2), fun i st => ⟨st, p.isList⟩, fun i h' st => st.1, fun i u hu => vals_get' rv hu⟩
theorem sc_tup {K : PySem.W.Frag} {a it lim : Addr} {xs : List V} (h1 : a ≠ it) (h2 : a < lim) : Sc K it lim xs (fun H => SqT K H a xs) (fun i h => h.IsTupleIter it a i) where
  keep := fun i h h' st k => st.at k
  obj := fun i h ⟨o, ho, hc, hd⟩ => ⟨o, ho, fun v q => by rw [hd] at q; cases q⟩
  dr := by
    intro X pins σ H s hK hc I hq
    subst hK
    obtain ⟨its, rv, p, hz⟩ := I.tuple hq
    have hl := rv.length
    have D := Draws.tuple (prog := X.prog) (w := X.w) (A := X.A.in1) (I.ok.hd hc) it a h1 its.toArray
    have e : its.toArray.size = xs.length := by rw [List.size_toArray, hl]
    rw [e] at D
    exact ⟨_, _, _, D, by simp, fun b hb => by
      have : b = it ∨ b = a := by simpa using hb
      rcases this with z | z
      · exact .inl z
      · exact .inr (z ▸ h2), fun i st => ⟨st, p⟩, fun i h' st => st.1, fun i u hu => vals_get' rv hu⟩
theorem sc_str {K : PySem.W.Frag} {it lim : Addr} {z : Str} {t : Tok} : Sc K it lim (z.cps.toList.map fun c => V.str ⟨#[c]⟩) (fun H => True) (fun i h => h.IsStrIter it (strIterType z) z t i) where
  keep := fun i h h' ⟨o, ho, r⟩ k => ⟨o, k o ho, r⟩
  obj := fun i h ⟨o, ho, hc, hd⟩ => ⟨o, ho, fun v q => by rw [hd] at q; cases q⟩
  dr := by
    intro X pins σ H s hK hc I hq
    subst hK
    have D := Draws.text (prog := X.prog) (w := X.w) (A := X.A.in1) (I.ok.hd hc) it z t
    have e : z.cps.size = (z.cps.toList.map fun c => V.str ⟨#[c]⟩).length := by simp
    rw [e] at D
    refine ⟨_, _, _, D, by simp, fun b hb => .inl (by simpa using hb), fun i st => st, fun i h' st => st, fun i u ⟨c, tk, hx, hu⟩ => ⟨.str ⟨#[c]⟩, ?_, tk, hu⟩⟩
    have : z.cps.toList[i]? = some c := by simpa using hx
    rw [List.getElem?_map, this]
    rfl
/-- what is walked begins -/
theorem src_begin {X : Cx} {pins : List (Addr × Obj)} {σ : St} {H : Hp} {s : Shared} {k : Kd} {v : V} {u : Value} {xs : List V} (I : Inv X pins σ H s) (h : SrcK X.K k H v xs) (r : RelV v u) :
    ∃ (o : Obj) (C : Heap → Prop) (IS : Addr → Nat → Heap → Prop), Begins u o C ∧ C s.heap ∧ (∀ it h, h.get? it = some o → IS it 0 h) ∧ ∀ it, s.heap.objs.size ≤ it → Sc X.K it s.heap.objs.size xs (fun H' => SrcK X.K k H' v xs) (IS it) := by
  have weak : ∀ {it lim : Addr} {Gc Gc' : Hp → Prop} {IS : Nat → Heap → Prop}, (∀ H', Gc' H' → Gc H') → Sc X.K it lim xs Gc IS → Sc X.K it lim xs Gc' IS := fun {it lim Gc Gc' IS} hw sc =>
    ⟨sc.keep, sc.obj, fun hK hc I hg => sc.dr hK hc I (hw _ hg)⟩
  cases k with
  | l =>
    obtain ⟨a, rfl, hq⟩ := h
    cases r
    obtain ⟨its, rv, p, hz⟩ := I.list hq
    have la : a < s.heap.objs.size := p.lt
    exact ⟨_, _, fun it i h => h.IsListIter it a i, begins_list a its.toArray, p.isList, fun it h e => ⟨_, e, rfl, rfl⟩, fun it hi => weak (fun H' ⟨b, e, q⟩ => by cases e; exact q) (sc_list (Nat.ne_of_lt (Nat.lt_of_lt_of_le la hi)) la)⟩
  | t =>
    obtain ⟨a, rfl, hq⟩ := h
    cases r
    obtain ⟨its, rv, p, hz⟩ := I.tuple hq
    have la : a < s.heap.objs.size := p.lt
    exact ⟨_, _, fun it i h => h.IsTupleIter it a i, begins_tuple a its.toArray, p, fun it h e => ⟨_, e, rfl, rfl⟩, fun it hi => weak (fun H' ⟨b, e, q⟩ => by cases e; exact q) (sc_tup (Nat.ne_of_lt (Nat.lt_of_lt_of_le la hi)) la)⟩
  | s =>
    obtain ⟨z, rfl, rfl⟩ := h
    obtain ⟨t, rfl⟩ := r
    exact ⟨_, _, fun it i h => h.IsStrIter it (strIterType z) z t i, begins_text z t, trivial, fun it h e => ⟨_, e, rfl, rfl⟩, fun it hi => weak (fun _ _ => trivial) sc_str⟩
/-- two sources, the items in new pairs -/
def Itzz (K : PySem.W.Frag) (k1 k2 : Kd) (v1 v2 : V) (xs ys : List V) : It :=
  ⟨fun i H => SrcK K k1 H v1 xs ∧ SrcK K k2 H v2 ys ∧ i < xs.length ∧ i < ys.length,
    fun i H v H' => ∃ T x y, v = .ref T ∧ H T = none ∧ H' = upd H T (.tup [x, y]) ∧ xs[i]? = some x ∧ ys[i]? = some y,
    fun i H => SrcK K k1 H v1 xs ∧ SrcK K k2 H v2 ys ∧ i ≤ xs.length ∧ i ≤ ys.length ∧ (i = xs.length ∨ i = ys.length)⟩
theorem turn_zz {P : Program} {w : World} {K : PySem.W.Frag} {elts : List Expr} {kk : Nat} {tpos : Pos} {k1 k2 : Kd} {v1 v2 : V} {xs ys : List V} {N : Addr} {IS1 IS2 : Nat → Heap → Prop}
    (S1 : Sc K N N xs (fun H => SrcK K k1 H v1 xs) IS1) (S2 : Sc K (N + 1) N ys (fun H => SrcK K k2 H v2 ys) IS2) :
    Turn P w K (.Tuple elts kk tpos) (Itzz K k1 k2 v1 v2 xs ys) [N + 4, N + 2, N + 3, N, N + 1] (N + 4) (fun i h => IsZip h (N + 4) (N + 2) (N + 3) .none ∧ IsTupOf2 h (N + 2) (.ref N) (.ref (N + 1)) ∧ (∃ x y, IsTupOf2 h (N + 3) x y) ∧ IS1 i h ∧ IS2 i h) where
  mem := by simp
  obj := fun i h st c hc => by
    obtain ⟨hz, hTI, ⟨x, y, hTO⟩, st1, st2⟩ := st
    have e' : c = N + 4 ∨ c = N + 2 ∨ c = N + 3 ∨ c = N ∨ c = N + 1 := by simpa using hc
    rcases e' with q | q | q | q | q
    · rw [q]; exact ⟨_, hz, fun v q => nomatch q⟩
    · rw [q]; exact ⟨_, hTI, fun v q => nomatch q⟩
    · rw [q]; exact ⟨_, hTO, fun v q => nomatch q⟩
    · rw [q]; exact S1.obj _ _ st1
    · rw [q]; exact S2.obj _ _ st2
  keep := fun i h h' st k => by
    obtain ⟨hz, hTI, ⟨x, y, hTO⟩, st1, st2⟩ := st
    exact ⟨k _ (by simp) _ hz, k _ (by simp) _ hTI, ⟨x, y, k _ (by simp) _ hTO⟩, S1.keep _ _ _ st1 fun o q => k N (by simp) o q, S2.keep _ _ _ st2 fun o q => k (N + 1) (by simp) o q⟩
  item := by
    intro X hP hw hK hc i pins s σ H E I hf st hg
    subst hP hw hK
    obtain ⟨hz, hTI, ⟨x0, y0, hTO⟩, st1, st2⟩ := st
    obtain ⟨hq1, hq2, hi1, hi2⟩ := hg
    obtain ⟨fp1, P1, St1, D1, m1, l1, to1, of1, p1⟩ := S1.dr rfl hc I hq1
    obtain ⟨fp2, P2, St2, D2, m2, l2, to2, of2, p2⟩ := S2.dr rfl hc I hq2
    have hsep : ZipSep2 (N + 4) (N + 2) (N + 3) N (N + 1) fp1 fp2 := by
      have n1 : ∀ k : Nat, 0 < k → N + k ∉ fp1 := fun k hk hm => by
        rcases l1 _ hm with q | q
        · exact absurd q (Nat.ne_of_gt (Nat.lt_add_of_pos_right hk))
        · exact absurd q (Nat.not_lt_of_le (Nat.le_add_right _ _))
      have n2 : ∀ k : Nat, 1 < k → N + k ∉ fp2 := fun k hk hm => by
        rcases l2 _ hm with q | q
        · exact absurd q (Nat.ne_of_gt (Nat.add_lt_add_left hk N))
        · exact absurd q (Nat.not_lt_of_le (Nat.le_add_right _ _))
      have n3 : N ∉ fp2 := fun hm => by
        rcases l2 _ hm with q | q
        · exact absurd q (Nat.ne_of_lt (Nat.lt_succ_self N))
        · exact absurd q (Nat.lt_irrefl _)
      have ne : ∀ a b : Nat, a ≠ b → N + a ≠ N + b := fun a b h q => h (Nat.add_left_cancel q)
      exact ⟨ne 2 4 (by decide), ne 3 4 (by decide), ne 2 3 (by decide), ne 2 0 (by decide), m1, n1 4 (by decide), n1 3 (by decide), ne 2 1 (by decide), m2, n2 4 (by decide), n2 3 (by decide), n3, n1 1 (by decide)⟩
    have hzl : N + 4 < s.heap.objs.size := Heap.lt_size hz
    refine wpAny_pyNext_zipD2_item hsep D1 D2 hz hTI hTO (to1 i st1) (to2 i st2) hi1 hi2 fun u1 u2 h' tk q1 q2 z' TO' s1' s2' hT hsz hk => ?_
    obtain ⟨x, hx, rx⟩ := p1 i u1 q1
    obtain ⟨y, hy, ry⟩ := p2 i u2 q2
    refine ⟨_, rfl, wpAny_letOwnedTupleGo_zip (s := { s with heap := h', toks := tk }) z' fun h'' z'' sb => ?_⟩
    have hT2 : h''.get? s.heap.objs.size = some { cls := .type "tuple", data := .seq #[u1, u2] } := (sb.2 _ (Nat.ne_of_gt hzl)).trans hT
    have new : ObjOk X.prog X.w (upd H s.heap.objs.size (.tup [x, y])) h'' s.heap.objs.size (.tup [x, y]) :=
      ⟨by show 2 ≤ sizeLine; decide, [u1, u2], .cons rx (.cons ry .nil), ⟨_, hT2, rfl, _, rfl⟩⟩
    have I1 : Inv X pins σ (upd H s.heap.objs.size (.tup [x, y])) { s with heap := h'', toks := tk } :=
      I.turnedNew (t' := tk) (ch := [N + 4, N + 2, N + 3, N, N + 1]) (fun c o hb q => (sb.2 c (fun q' => hb (by simp [q']))).trans (hk c o (fun q' => hb (by simp [q'])) (fun q' => hb (by simp [q'])) (fun q' => hb (by simp [q'])) (fun q' => hb (by simp [q'])) q)) hf (Nat.le_refl _) new
    have sN : h''.get? N = h'.get? N := sb.2 _ hsep.zi1.symm
    have sN1 : h''.get? (N + 1) = h'.get? (N + 1) := sb.2 _ hsep.zi2.symm
    refine ⟨.ref s.heap.objs.size, _, I1, rfl, ⟨_, x, y, rfl, I.hok.fresh (Nat.le_refl _), rfl, hx, hy⟩, ⟨z'', ?_, ⟨u1, u2, ?_⟩, ?_, ?_⟩, fun c hcm => ?_⟩
    · exact (sb.2 _ hsep.TIz).trans (hk _ _ hsep.TIz hsep.TITO hsep.TIi1 hsep.TIi2 hTI)
    · exact (sb.2 _ hsep.TOz).trans TO'
    · exact S1.keep _ _ _ (of1 _ _ s1') fun o q => sN.trans q
    · exact S2.keep _ _ _ (of2 _ _ s2') fun o q => sN1.trans q
    · have hlt : c < s.heap.objs.size := by
        have e' : c = N + 4 ∨ c = N + 2 ∨ c = N + 3 ∨ c = N ∨ c = N + 1 := by simpa using hcm
        have lt : ∀ k : Nat, k ≤ 4 → N + k < s.heap.objs.size := fun k hk => Nat.lt_of_le_of_lt (Nat.add_le_add_left hk N) hzl
        rcases e' with q | q | q | q | q
        · rw [q]; exact hzl
        · rw [q]; exact lt 2 (by decide)
        · rw [q]; exact lt 3 (by decide)
        · rw [q]; exact lt 0 (by decide)
        · rw [q]; exact lt 1 (by decide)
      rw [upd_ne (Nat.ne_of_lt hlt)]
      exact (hf c hcm).1
  done := by
    intro X hP hw hK hc i pins s σ H E I hf st hg
    subst hP hw hK
    obtain ⟨hz, hTI, ⟨x0, y0, hTO⟩, st1, st2⟩ := st
    obtain ⟨hq1, hq2, hi1, hi2, hend⟩ := hg
    obtain ⟨fp1, P1, St1, D1, m1, l1, to1, of1, p1⟩ := S1.dr rfl hc I hq1
    obtain ⟨fp2, P2, St2, D2, m2, l2, to2, of2, p2⟩ := S2.dr rfl hc I hq2
    have hsep : ZipSep2 (N + 4) (N + 2) (N + 3) N (N + 1) fp1 fp2 := by
      have n1 : ∀ k : Nat, 0 < k → N + k ∉ fp1 := fun k hk hm => by
        rcases l1 _ hm with q | q
        · exact absurd q (Nat.ne_of_gt (Nat.lt_add_of_pos_right hk))
        · exact absurd q (Nat.not_lt_of_le (Nat.le_add_right _ _))
      have n2 : ∀ k : Nat, 1 < k → N + k ∉ fp2 := fun k hk hm => by
        rcases l2 _ hm with q | q
        · exact absurd q (Nat.ne_of_gt (Nat.add_lt_add_left hk N))
        · exact absurd q (Nat.not_lt_of_le (Nat.le_add_right _ _))
      have n3 : N ∉ fp2 := fun hm => by
        rcases l2 _ hm with q | q
        · exact absurd q (Nat.ne_of_lt (Nat.lt_succ_self N))
        · exact absurd q (Nat.lt_irrefl _)
      have ne : ∀ a b : Nat, a ≠ b → N + a ≠ N + b := fun a b h q => h (Nat.add_left_cancel q)
      exact ⟨ne 2 4 (by decide), ne 3 4 (by decide), ne 2 3 (by decide), ne 2 0 (by decide), m1, n1 4 (by decide), n1 3 (by decide), ne 2 1 (by decide), m2, n2 4 (by decide), n2 3 (by decide), n3, n1 1 (by decide)⟩
    exact wpAny_pyNext_zipD2_end hsep D1 D2 hz hTI hTO (to1 i st1) (to2 i st2) hi1 hi2 hend fun h' tk hk => ⟨rfl, I.turnedL (t' := tk) (ch := [N + 4, N + 2, N + 3, N, N + 1]) (fun c o hb q =>
      hk c o (fun q' => hb (by simp [q'])) (fun q' => hb (by simp [q'])) (fun q' => hb (by simp [q'])) (fun q' => hb (by simp [q'])) q) hf⟩
  self := fun A i s Q E st h => wpAny_pyIter_zip st.1 h
def iZZ (K : PySem.W.Frag) (ta : TA) : TI := fun σ H R => ta σ H fun vs H1 => ∃ k1 k2 v1 v2 xs ys, vs = [v1, v2] ∧ SrcK K k1 H1 v1 xs ∧ SrcK K k2 H1 v2 ys ∧ R (Itzz K k1 k2 v1 v2 xs ys) H1
theorem pi_zz {X : Cx} {e e2 : Expr} {ta : TA} {p pos tpos : Pos} {elts : List Expr} {kk : Nat} (hg : Gl X "zip") (hm : X.mg "zip" = none) (ha : PA X [e, e2] ta)
    (hs : starEach [e, e2] X.env = (false, eval e X.env) :: starEach [e2] X.env := by rfl) (hpl : (backTo pos (starEach [e2] X.env)).any (·.1) = false := by rfl) :
    PI X (.Tuple elts kk tpos) (.Call (.Name "zip" p) [e, e2] [] pos) (iZZ X.K ta) := by
  refine ⟨fun pins s σ H R I h => ?_⟩
  refine Call_ (ld_blt I hg hm PyProof.Rows.boot_zip (PyProof.Rows.callWith_type1 (thn (ha.run pos pins s σ H _ I h) fun us s1 ⟨vs, H1, I1, r1, q1⟩ => ?_) hs hpl))
  obtain ⟨k1, k2, v1, v2, xs, ys, ex, hq1, hq2, q⟩ := q1
  subst ex
  cases r1 with
  | cons r rr =>
    cases rr with
    | cons r' rr =>
      cases rr
      obtain ⟨o1, C1, IS1, B1, c1, st1, S1⟩ := src_begin I1 hq1 r
      obtain ⟨o2, C2, IS2, B2, c2, st2, S2⟩ := src_begin I1 hq2 r'
      refine zip_begins2 B1 B2 c1 c2 fun h' hz hTI hTO h1 h2 hsz hk => wpAny_pyIter_zip hz ?_
      have I2 : Inv X pins σ H1 { s1 with heap := h' } := I1.kept (t' := s1.toks) hk
      refine ⟨s1.heap.objs.size + 4, [s1.heap.objs.size + 4, s1.heap.objs.size + 2, s1.heap.objs.size + 3, s1.heap.objs.size, s1.heap.objs.size + 1], _, _, H1, rfl, I2, turn_zz (S1 _ (Nat.le_refl _)) (S2 _ (Nat.le_succ _)), ⟨hz, hTI, ⟨_, _, hTO⟩, st1 _ _ h1, st2 _ _ h2⟩, fun c hcm => ?_, q⟩
      have e' : c = s1.heap.objs.size + 4 ∨ c = s1.heap.objs.size + 2 ∨ c = s1.heap.objs.size + 3 ∨ c = s1.heap.objs.size ∨ c = s1.heap.objs.size + 1 := by simpa using hcm
      have hle : s1.heap.objs.size ≤ c := by
        rcases e' with z | z | z | z | z
        · rw [z]; exact Nat.le_add_right _ _
        · rw [z]; exact Nat.le_add_right _ _
        · rw [z]; exact Nat.le_add_right _ _
        · rw [z]; exact Nat.le_refl _
        · rw [z]; exact Nat.le_add_right _ _
      exact I1.fpOk hle (I1.hok.fresh hle)
theorem walk_zz {K : PySem.W.Frag} {k1 k2 : Kd} {v1 v2 : V} {xs ys : List V} : Walk (Itzz K k1 k2 v1 v2 xs ys) (min xs.length ys.length) (fun H => SrcK K k1 H v1 xs ∧ SrcK K k2 H v2 ys) (YPair (fun i => xs[i]?) (fun i => ys[i]?)) := by
  refine ⟨fun i _ hi q => ⟨q.1, q.2, by omega, by omega⟩, fun _ q => ⟨q.1, q.2, by omega, by omega, by omega⟩, fun i H v H' _ q y => ?_⟩
  obtain ⟨T, x, z, h1, h2, h3, h4, h5⟩ := y
  exact ⟨T, x, z, h1, h2, h3, h4, h5⟩
end L2

namespace SL
open PySem L2 Evl
section
variable {K : PySem.W.Frag} {F F' : Fm} {G G' H H' : Hp} {τ σ : List (Option V)} {ε δ : List SD} {v : V} {P : PV} {te ta tb : TE} {tt tu : TT} {ts tw : TS} {D : Ends} {N : St → Hp → Prop} {g : TG} {PT : Bool → List SD → Prop} {tr : TA} {PI : List PyData → List SD → Prop}

/-! ### enumerate of a tuple, zip -/
theorem itOk_enumT {a : Addr} {xs : List V} {ds : List PyData} (sq : SqT K G a xs) (da : DpAll K G xs ds) : ItOk K (IteT K a) G (enumD 0 ds) := by
  refine ⟨_, _, by rw [enumD_len, ← DpAll.len da]; exact walk_enumT, fun G1 H1 e1 e2 => ex_t (Ex.trans e1 e2) sq, ?_⟩
  rintro i H x H2 d hd ⟨T, x1, y1, rfl, hT, rfl, h1, h2⟩ F2 G1 τ ε σ δ hK s e
  rw [enumD_get] at hd
  obtain ⟨d', h3, h4⟩ := DpAll.get da h2
  rw [h3] at hd
  simp only [Option.map_some, Option.some.injEq, Nat.zero_add] at hd
  subst hd
  cases h1
  exact s.pair hT (.int _) (by rw [hK]; exact dpMono e _ _ h4)
theorem iw_enumT (h : EA F tr δ fun rs δ1 => ∃ ds, rs = [.fz (.tuple ds)] ∧ PI (enumD 0 ds) δ1) : Iw F (iEnumT F.K tr) δ PI := fun τ ε G H σ R s q =>
  h τ ε G H σ _ s fun vs rs δ1 G1 H1 ⟨ds, hr, k⟩ e1 el s1 => by
    subst hr
    obtain ⟨x, rfl⟩ := one_of el
    obtain ⟨a, xs, rfl, sq, da⟩ := dp_tup (fz_top s1)
    exact ⟨a, xs, rfl, ex_t s1.w.gh sq, q _ _ δ1 G1 H1 k e1 s1.pop (itOk_enumT sq da)⟩
/-- the items of data that may be walked -/
def itemsD : PyData → Option (List PyData)
  | .list ds => some ds
  | .tuple ds => some ds
  | .str z => some (signsD z)
  | _ => none
theorem src_dp {d : PyData} {ds : List PyData} (h : Dp K G v d) (hi : itemsD d = some ds) : ∃ k xs, SrcK K k G v xs ∧ DpAll K G xs ds := by
  cases d with
  | list es =>
    cases hi
    obtain ⟨a, xs, rfl, sq, da⟩ := dp_lst h
    exact ⟨.l, xs, ⟨a, rfl, sq⟩, da⟩
  | tuple es =>
    cases hi
    obtain ⟨a, xs, rfl, sq, da⟩ := dp_tup h
    exact ⟨.t, xs, ⟨a, rfl, sq⟩, da⟩
  | str z =>
    cases hi
    obtain rfl := dp_str h
    refine ⟨.s, _, ⟨z, rfl, rfl⟩, ?_⟩
    unfold signsD
    generalize z.cps.toList = l
    induction l with
    | nil => exact .nil
    | cons c r ih => exact .cons (.str _) ih
  | _ => cases hi
theorem src_ex {k : Kd} {xs : List V} (e : Ex G G') (h : SrcK K k G v xs) : SrcK K k G' v xs := by
  cases k with
  | l => obtain ⟨a, h1, h2⟩ := h; exact ⟨a, h1, ex_l e h2⟩
  | t => obtain ⟨a, h1, h2⟩ := h; exact ⟨a, h1, ex_t e h2⟩
  | s => exact h
def zipD (ds es : List PyData) : List PyData := List.zipWith (fun d e => .tuple [d, e]) ds es
theorem itOk_zz {k1 k2 : Kd} {v1 v2 : V} {xs ys : List V} {ds es : List PyData} (h1 : SrcK K k1 G v1 xs) (h2 : SrcK K k2 G v2 ys) (da : DpAll K G xs ds) (db : DpAll K G ys es) : ItOk K (Itzz K k1 k2 v1 v2 xs ys) G (zipD ds es) := by
  have el : (zipD ds es).length = min xs.length ys.length := by
    unfold zipD
    rw [List.length_zipWith, DpAll.len da, DpAll.len db]
  refine ⟨fun H => SrcK K k1 H v1 xs ∧ SrcK K k2 H v2 ys, _, by rw [el]; exact walk_zz, fun G1 H1 e1 e2 => ⟨src_ex (Ex.trans e1 e2) h1, src_ex (Ex.trans e1 e2) h2⟩, ?_⟩
  rintro i H x H2 d hd ⟨T, x1, y1, rfl, hT, rfl, q1, q2⟩ F2 G1 τ ε σ δ hK s e
  obtain ⟨d1, a1, b1⟩ := DpAll.get da q1
  obtain ⟨d2, a2, b2⟩ := DpAll.get db q2
  have : d = .tuple [d1, d2] := by
    unfold zipD at hd
    rw [List.getElem?_zipWith, a1, a2] at hd
    simpa using hd.symm
  subst this
  exact s.pair hT (by rw [hK]; exact dpMono e _ _ b1) (by rw [hK]; exact dpMono e _ _ b2)
theorem iw_zip (h : EA F tr δ fun rs δ1 => ∃ d e ds es, rs = [.fz d, .fz e] ∧ itemsD d = some ds ∧ itemsD e = some es ∧ PI (zipD ds es) δ1) : Iw F (iZZ F.K tr) δ PI := fun τ ε G H σ R s q =>
  h τ ε G H σ _ s fun vs rs δ1 G1 H1 ⟨d, e, ds, es, hr, i1, i2, k⟩ e1 el s1 => by
    subst hr
    obtain ⟨x, y, rfl⟩ := two_of el
    obtain ⟨k1, xs, a1, b1⟩ := src_dp (fz_top s1) i1
    obtain ⟨k2, ys, a2, b2⟩ := src_dp (fz_top s1.pop) i2
    exact ⟨k1, k2, x, y, xs, ys, rfl, src_ex s1.w.gh a1, src_ex s1.w.gh a2, q _ _ δ1 G1 H1 k e1 s1.pop.pop (itOk_zz a1 a2 b1 b2)⟩

/-! ### a def whose first argument is an owned list that it may change -/
abbrev WM := List PyData → List PyData → (SD → List PyData → Prop) → Prop
def SpM (K : PySem.W.Frag) (W : WM) : Sp := fun vs H Q _ => ∃ G p xs ds0 ws as post, vs = .ref p :: ws ∧ Ex G H ∧ G p = none ∧ H p = some (.lst xs) ∧ DpAll K G xs ds0 ∧ DpAll K G ws as ∧ W ds0 as post ∧
  ∀ r ds1, post r ds1 → ∀ v G' H', S2 ⟨K, G, H, [p]⟩ G' H' [some v] [r] [some (.ref p)] [.ol p ds1] → Q v H'
theorem S2.callM {G1 H1 : Hp} {r : SD} {p : Addr} {j : Nat} {ds0 ds1 : List PyData} (s : S2 F G H τ ε σ δ) (hj : δ[j]? = some (.ol p ds0)) (c : S2 ⟨F.K, G, H, [p]⟩ G1 H1 [some v] [r] [some (.ref p)] [.ol p ds1]) : S2 F G1 H1 (some v :: τ) (r :: ε) σ (δ.set j (.ol p ds1)) := by
  have w := c.w
  obtain ⟨l, q1, q2⟩ := fps_set_perm (s' := SD.ol p ds1) hj
  have q1' : (fps δ).Perm (p :: l) := q1
  have q2' : (fps (δ.set j (.ol p ds1))).Perm (p :: l) := q2
  have hp : p ∈ fps δ := q1'.mem_iff.mpr List.mem_cons_self
  have nd := List.nodup_append.mp s.w.nd
  have hk : ∀ a ∈ fps ε ++ fps δ, a ≠ p → H1 a = H a := fun a ha hne => by
    obtain ⟨_, o, e⟩ := s.w.own a ha
    rw [e]
    exact w.fr a o e (by simpa using hne)
  have new : ∀ a ∈ r.fp, H a = none := fun a ha => by
    rcases w.of a (by simp [fps, ha]) with q | q
    · have z : a = p := by simpa using q
      have n2 := w.nd
      have n3 : (r.fp ++ [p]).Nodup := by simpa [fps, SD.fp] using n2
      exact absurd rfl ((List.nodup_append.mp n3).2.2 a ha p (by simp) |> fun f => z ▸ f)
    · exact q
  have gnew : ∀ a ∈ fps ε ++ fps δ, G1 a = none := fun a ha => by
    obtain ⟨gn, o, e⟩ := s.w.own a ha
    cases q1 : G1 a with
    | none => rfl
    | some u =>
      rcases w.nw a u q1 with z | z
      · rw [show G a = some u from z] at gn; cases gn
      · rw [show H a = none from z] at e; cases e
  have hq : ∀ a, a ∈ fps (δ.set j (.ol p ds1)) ↔ a ∈ fps δ := fun a => (q2'.trans q1'.symm).mem_iff
  obtain ⟨_, xs1, hx1, hd1⟩ := c.s.1
  have pH1 : ∃ o, H1 p = some o := ⟨_, hx1⟩
  refine ⟨⟨w.gh, ?_, ?_, Ex.trans s.w.g0 w.g0, ?_, ?_, ?_, ?_⟩, ⟨c.top, oks_mono w.g0 (fun a ha => hk a (List.mem_append_left _ ha) (fun z => nd.2.2 a ha p hp z)) s.t⟩, ?_⟩
  · intro a ha
    have ha' : a ∈ r.fp ++ (fps ε ++ fps (δ.set j (.ol p ds1))) := by rw [← List.append_assoc]; exact ha
    rcases List.mem_append.mp ha' with q | q
    · exact w.own a (by simp [fps, q])
    · have q' : a ∈ fps ε ++ fps δ := by
        rcases List.mem_append.mp q with z | z
        · exact List.mem_append_left _ z
        · exact List.mem_append_right _ ((hq a).mp z)
      refine ⟨gnew a q', ?_⟩
      by_cases z : a = p
      · rw [z]; exact pH1
      · rw [hk a q' z]; exact (s.w.own a q').2
  · show ((r.fp ++ fps ε) ++ fps (δ.set j (.ol p ds1))).Nodup
    rw [List.append_assoc]
    have perm : (fps ε ++ fps (δ.set j (.ol p ds1))).Perm (fps ε ++ fps δ) := List.Perm.append_left _ (q2'.trans q1'.symm)
    refine List.nodup_append.mpr ⟨?_, perm.nodup_iff.mpr s.w.nd, ?_⟩
    · have n2 := w.nd
      have n3 : (r.fp ++ [p]).Nodup := by simpa [fps, SD.fp] using n2
      exact (List.nodup_append.mp n3).1
    · intro a ha b hb z
      subst z
      obtain ⟨_, o, e⟩ := s.w.own a (perm.mem_iff.mp hb)
      rw [new a ha] at e; cases e
  · intro a o e hi
    have e2 := s.w.fr a o e hi
    by_cases z : a = p
    · subst z
      rcases s.w.of a (List.mem_append_right _ hp) with q | q
      · exact (hi q).elim
      · rw [q] at e; cases e
    · exact w.fr a o e2 (by simpa using z)
  · intro a o e
    rcases w.nw a o e with z | z
    · exact s.w.nw a o z
    · exact .inr (s.w.h0none z)
  · intro a ha
    have ha' : a ∈ r.fp ++ (fps ε ++ fps (δ.set j (.ol p ds1))) := by rw [← List.append_assoc]; exact ha
    rcases List.mem_append.mp ha' with q | q
    · exact .inr (s.w.h0none (new a q))
    · refine s.w.of a ?_
      rcases List.mem_append.mp q with z | z
      · exact List.mem_append_left _ z
      · exact List.mem_append_right _ ((hq a).mp z)
  · intro a ha
    obtain ⟨o, e⟩ := s.w.io a ha
    by_cases z : a = p
    · rw [z]; exact pH1
    · exact ⟨o, w.fr a o e (by simpa using z)⟩
  · have s1 : Oks F.K G1 H σ δ := oks_mono w.g0 (fun _ _ => rfl) s.s
    obtain ⟨ov, e1, ok1⟩ := s.slot hj
    obtain ⟨vv, rfl⟩ := sd_some (by intro z; cases z) ok1
    obtain ⟨rfl, _⟩ := ok1
    refine oks_mut s1 nd.2.1 hj (fun a hm ha => ?_) (fun ov e => ?_)
    · have hne : a ≠ p := by simpa [SD.fp] using ha
      exact hk a (List.mem_append_right _ hm) hne
    · rw [e1] at e
      cases e
      exact ⟨rfl, xs1, hx1, hd1⟩
theorem ev_callM {W : WM} {X0 : XK} (h : EA F tr δ fun rs δ1 => ∃ p as j ds0, rs = .al p :: as.map SD.fz ∧ δ1[j]? = some (.ol p ds0) ∧ W ds0 as fun r ds1 => (∀ a ∈ r.fp, a ∉ F.io) → P r (δ1.set j (.ol p ds1))) : E F (tCall (SpM F.K W) [] X0 tr) δ P := fun τ ε G H σ Q s q =>
  h τ ε G H σ _ s fun vs rs δ1 G1 H1 ⟨p, as, j, ds0, hr, hj, k⟩ e1 el s1 => by
    subst hr
    rw [List.append_nil]
    have sp := Oks.split (by simpa using el) s1.t
    have s0 := S2.popN el s1
    obtain ⟨ov, e2, ok1⟩ := s1.slot hj
    obtain ⟨vv, rfl⟩ := sd_some (by intro z; cases z) ok1
    obtain ⟨rfl, xs, hx, hd⟩ := ok1
    match vs, el, sp with
    | w :: ws, el, sp =>
      obtain ⟨hw, hws⟩ := sp.1
      have hw' : w = .ref p := hw
      subst hw'
      have gp : G1 p = none := (s1.w.own p (List.mem_append_right _ (fps_mem hj (by simp [SD.fp])))).1
      refine ⟨G1, p, xs, ds0, ws, as, _, rfl, s1.w.gh, gp, hx, hd, oks_fz hws, k, fun r ds1 pp v G' H' c => ?_⟩
      refine q v r _ G' H' (pp fun a ha hi => ?_) (Ex.trans e1 c.w.g0) (s0.callM hj c)
      obtain ⟨o, e⟩ := s1.w.io a hi
      rcases c.w.of a (by simp [fps, ha]) with z | z
      · have n2 := c.w.nd
        have n3 : (r.fp ++ [p]).Nodup := by simpa [fps, SD.fp] using n2
        have z' : a = p := by simpa using z
        exact (List.nodup_append.mp n3).2.2 a ha p (by simp) z'
      · rw [show H1 a = none from z] at e; cases e
theorem fps_no (n : Nat) : fps (List.replicate n SD.no) = [] := by
  induction n with
  | zero => rfl
  | succ n ih => exact ih
/-- the body of a def that may change its first argument -/
theorem bodyM {W : WM} {N : List Str} {vs : List V} {Q : VK} {X0 : XK} {t : TS} (h : SpM K W vs H Q X0)
    (hb : ∀ F p ds0 as post, F.K = K → F.io = [p] → W ds0 as post → (∀ r δ ds1, δ[0]? = some (.ol p ds1) → post r ds1 → Ro F Q r δ) → Rn F t (startD N.length (.ol p ds0 :: as.map SD.fz)) { nx := fun _ H' => Q .non H', rt := Q }) : t { nx := fun _ H' => Q .non H', rt := Q } (L2.start N vs) H := by
  obtain ⟨G, p, xs, ds0, ws, as, post, rfl, ex, gp, hp, hd, da, w, k⟩ := h
  refine hb ⟨K, G, H, [p]⟩ p ds0 as post rfl rfl w (fun r δ ds1 h0 pp v G' H' σ s => k r ds1 pp v G' H' ?_) G H _ ?_
  · match δ, h0, s with
    | d :: δ', h0, s =>
      have e : d = .ol p ds1 := by simpa using h0
      subst e
      have s0 := s.s
      match σ, s0 with
      | ov :: σ', s0 =>
        obtain ⟨vv, rfl⟩ := sd_some (by intro z; cases z) s0.1
        obtain ⟨rfl, x1⟩ := s0.1
        refine ⟨s.w.sub ?_, s.t, ⟨⟨rfl, x1⟩, trivial⟩⟩
        show (fps [r] ++ ([p] ++ [])).Sublist (fps [r] ++ ([p] ++ fps δ'))
        exact List.Sublist.append_left (List.Sublist.append_left (List.nil_sublist _) _) _
  · have hl : fps (startD N.length (.ol p ds0 :: as.map SD.fz)) = [p] := by
      unfold startD
      rw [fps_app, fps_no]
      show ([p] ++ fps (as.map SD.fz)) ++ [] = [p]
      rw [fps_fz]
      rfl
    refine ⟨?_, trivial, ?_⟩
    · rw [hl]
      refine ⟨ex, fun a ha => ?_, by simp [fps], Ex.refl _, fun a o e _ => e, fun a o e => .inl e, fun a ha => .inl (by simpa [fps] using ha), fun a ha => ?_⟩
      · have : a = p := by simpa [fps] using ha
        rw [this]; exact ⟨gp, _, hp⟩
      · have : a = p := by simpa using ha
        rw [this]; exact ⟨_, hp⟩
    · unfold L2.start startD
      have e1 : (SD.ol p ds0 :: as.map SD.fz).length = (V.ref p :: ws).length := by simp [DpAll.len da]
      rw [e1]
      exact Oks.app (τ := (V.ref p :: ws).map some) ⟨⟨rfl, xs, hp, hd⟩, oks_ofDp da⟩ (oks_nones _)

/-! ### builtins -/
def rLenQ (K : PySem.W.Frag) : List V → Hp → VK → Prop := fun xs H Q => ∃ p ys, xs = [.ref p] ∧ (SqL K H p ys ∨ SqT K H p ys) ∧ Q (.int ys.length) H
def rTupQ (K : PySem.W.Frag) : List V → Hp → VK → Prop := fun xs H Q => ∃ p ys, xs = [.ref p] ∧ ((SqL K H p ys ∧ ∀ l, H l = none → Q (.ref l) (upd H l (.tup ys))) ∨ (SqT K H p ys ∧ Q (.ref p) H))
def rLstQ (K : PySem.W.Frag) : List V → Hp → VK → Prop := fun xs H Q => ∃ p ys, xs = [.ref p] ∧ (SqL K H p ys ∨ SqT K H p ys) ∧ ∀ l, H l = none → Q (.ref l) (upd H l (.lst ys))
def rLenX : List V → Hp → VK → Prop := fun xs H Q => ∃ z, xs = [.str z] ∧ z.length ≤ sizeLine ∧ Q (.int z.length) H
def rIntQ : List V → Hp → VK → Prop := fun xs H Q => (∃ i, xs = [.int i] ∧ Q (.int i) H) ∨ ∃ k, xs = [.bl k] ∧ Q (.int (if k then 1 else 0)) H
def rAbsQ : List V → Hp → VK → Prop := fun xs H Q => ∃ i, xs = [.int i] ∧ Q (.int (if i < 0 then -i else i)) H
theorem oa_one {r : List V → Hp → VK → Prop} {d : SD} (h : O1 F (fun x H Q => r [x] H Q) d δ P) : OA F r [d] δ P := fun τ ε G H σ Q vs el s q => by
  obtain ⟨x, rfl⟩ := one_of el
  exact h τ ε G H σ Q x s q
theorem b_lenL {ds : List PyData} (k : P (.fz (.int (ds.length : Int))) δ) : OA F (rLenQ F.K) [.fz (.list ds)] δ P := fun τ ε G H σ Q vs el s q => by
  obtain ⟨x, rfl⟩ := one_of el
  obtain ⟨a, xs, rfl, sq, da⟩ := dp_lst (fz_top s)
  refine ⟨a, xs, rfl, .inl (ex_l s.w.gh sq), ?_⟩
  rw [DpAll.len da]
  exact q _ _ δ G H k (Ex.refl _) (s.pop.push rfl (.int _))
theorem b_lenT {ds : List PyData} (k : P (.fz (.int (ds.length : Int))) δ) : OA F (rLenQ F.K) [.fz (.tuple ds)] δ P := fun τ ε G H σ Q vs el s q => by
  obtain ⟨x, rfl⟩ := one_of el
  obtain ⟨a, xs, rfl, sq, da⟩ := dp_tup (fz_top s)
  refine ⟨a, xs, rfl, .inr (ex_t s.w.gh sq), ?_⟩
  rw [DpAll.len da]
  exact q _ _ δ G H k (Ex.refl _) (s.pop.push rfl (.int _))
theorem b_lenO {p : Addr} {j : Nat} {ds : List PyData} (hj : δ[j]? = some (.ol p ds)) (k : P (.fz (.int (ds.length : Int))) δ) : OA F (rLenQ F.K) [.al p] δ P := fun τ ε G H σ Q vs el s q => by
  obtain ⟨x, rfl⟩ := one_of el
  have hx : x = .ref p := s.top
  subst hx
  obtain ⟨ov, _, ok⟩ := s.slot hj
  obtain ⟨w, rfl⟩ := sd_some (by intro z; cases z) ok
  obtain ⟨rfl, xs, hx, hd⟩ := ok
  refine ⟨p, xs, rfl, .inl (SqL.of hx), ?_⟩
  rw [DpAll.len hd]
  exact q _ _ δ G H k (Ex.refl _) (s.pop.push rfl (.int _))
theorem b_lenS {z : Str} (hz : z.length ≤ sizeLine) (k : P (.fz (.int (z.length : Int))) δ) : OA F rLenX [.fz (.str z)] δ P := fun τ ε G H σ Q vs el s q => by
  obtain ⟨x, rfl⟩ := one_of el
  obtain rfl := dp_str (fz_top s)
  exact ⟨z, rfl, hz, q _ _ δ G H k (Ex.refl _) (s.pop.push rfl (.int _))⟩
/-- tuple(list): a new tuple -/
theorem b_tupL {ds : List PyData} (k : P (.fz (.tuple ds)) δ) : OA F (rTupQ F.K) [.fz (.list ds)] δ P := fun τ ε G H σ Q vs el s q => by
  obtain ⟨x, rfl⟩ := one_of el
  obtain ⟨a, xs, rfl, sq, da⟩ := dp_lst (fz_top s)
  refine ⟨a, xs, rfl, .inl ⟨ex_l s.w.gh sq, fun l hl => ?_⟩⟩
  have ex := Ex.new (o := .tup xs) (s.w.gnone hl)
  exact q _ _ δ _ _ k ex ((s.pop.newF hl).push rfl (Dp.tup upd_same (dpAllMono ex _ _ da)))
theorem b_tupT {ds : List PyData} (k : P (.fz (.tuple ds)) δ) : OA F (rTupQ F.K) [.fz (.tuple ds)] δ P := fun τ ε G H σ Q vs el s q => by
  obtain ⟨x, rfl⟩ := one_of el
  obtain ⟨a, xs, rfl, sq, da⟩ := dp_tup (fz_top s)
  exact ⟨a, xs, rfl, .inr ⟨ex_t s.w.gh sq, q _ _ δ _ _ k (Ex.refl _) s⟩⟩
/-- tuple(list) of an owned list on the stack -/
theorem b_tupO {p : Addr} {ds : List PyData} (k : P (.fz (.tuple ds)) δ) : OA F (rTupQ F.K) [.ol p ds] δ P := fun τ ε G H σ Q vs el s q => by
  obtain ⟨x, rfl⟩ := one_of el
  obtain ⟨rfl, xs, hx, da⟩ := s.top
  refine ⟨p, xs, rfl, .inl ⟨SqL.of hx, fun l hl => ?_⟩⟩
  have ex := Ex.new (o := .tup xs) (s.w.gnone hl)
  exact q _ _ δ _ _ k ex ((s.pop.newF hl).push rfl (Dp.tup upd_same (dpAllMono ex _ _ da)))
/-- tuple(x), x an owned list in a slot -/
theorem b_tupA {p : Addr} {j : Nat} {ds : List PyData} (hj : δ[j]? = some (.ol p ds)) (k : P (.fz (.tuple ds)) δ) : OA F (rTupQ F.K) [.al p] δ P := fun τ ε G H σ Q vs el s q => by
  obtain ⟨x, rfl⟩ := one_of el
  have hx : x = .ref p := s.top
  subst hx
  obtain ⟨ov, _, ok⟩ := s.slot hj
  obtain ⟨w, rfl⟩ := sd_some (by intro z; cases z) ok
  obtain ⟨rfl, xs, hx, da⟩ := ok
  refine ⟨p, xs, rfl, .inl ⟨SqL.of hx, fun l hl => ?_⟩⟩
  have ex := Ex.new (o := .tup xs) (s.w.gnone hl)
  exact q _ _ δ _ _ k ex ((s.pop.newF hl).push rfl (Dp.tup upd_same (dpAllMono ex _ _ da)))
/-- list(x): a new list, owned -/
theorem b_list {d : PyData} {ds : List PyData} (hd : d = .list ds ∨ d = .tuple ds) (k : ∀ p, p ∉ F.io → P (.ol p ds) δ) : OA F (rLstQ F.K) [.fz d] δ P := fun τ ε G H σ Q vs el s q => by
  obtain ⟨x, rfl⟩ := one_of el
  obtain ⟨a, xs, hx, sq, da⟩ : ∃ a xs, x = .ref a ∧ (SqL F.K H a xs ∨ SqT F.K H a xs) ∧ DpAll F.K G xs ds := by
    rcases hd with rfl | rfl
    · obtain ⟨a, xs, h1, sq, da⟩ := dp_lst (fz_top s)
      exact ⟨a, xs, h1, .inl (ex_l s.w.gh sq), da⟩
    · obtain ⟨a, xs, h1, sq, da⟩ := dp_tup (fz_top s)
      exact ⟨a, xs, h1, .inr (ex_t s.w.gh sq), da⟩
  subst hx
  refine ⟨a, xs, rfl, sq, fun l hl => ?_⟩
  have hio : l ∉ F.io := fun z => by
    obtain ⟨o, e⟩ := s.w.io l z
    rw [hl] at e; cases e
  exact q _ _ δ _ _ (k l hio) (Ex.refl _) (s.pop.newO hl rfl ⟨rfl, xs, upd_same, da⟩)
/-- xs.append(e), xs an owned list in slot j -/
theorem ev_append (h : E F ta δ fun r δ1 => ∃ p j ds0, r = .al p ∧ δ1[j]? = some (.ol p ds0) ∧ E F te δ1 fun r2 δ2 => ∃ d ds, r2 = .fz d ∧ δ2[j]? = some (.ol p ds) ∧ ds.length < 1000000 ∧ P (.fz .none) (δ2.set j (.ol p (ds ++ [d])))) :
    E F (tBM F.K "list" rAppend ta (tCons te tNil)) δ P := fun τ ε G H σ Q s q =>
  h τ ε G H σ _ s fun x r δ1 G1 H1 ⟨p, j, ds0, hr, hj, h1⟩ e1 s1 => by
    subst hr
    have hx : x = .ref p := s1.top
    subst hx
    obtain ⟨ov, _, ok⟩ := s1.slot hj
    obtain ⟨w, rfl⟩ := sd_some (by intro z; cases z) ok
    obtain ⟨rfl, xs, hx, _⟩ := ok
    refine ⟨.inl ⟨rfl, xs, SqL.of hx⟩, ?_⟩
    refine h1 _ _ G1 H1 σ _ s1.pop fun y r2 δ2 G2 H2 ⟨d, ds, hr, hj2, hl, k⟩ e2 s2 => ?_
    subst hr
    have hy := fz_top s2
    obtain ⟨ov, e3, ok⟩ := s2.slot hj2
    obtain ⟨w, rfl⟩ := sd_some (by intro z; cases z) ok
    obtain ⟨rfl, ys, hys, hd⟩ := ok
    have hl2 := DpAll.len hd
    refine ⟨p, ys, y, rfl, rfl, hys, Nat.lt_of_lt_of_le (show ys.length < 1000000 by omega) (by decide), ?_⟩
    refine q _ _ _ G2 _ k (Ex.trans e1 e2) ((s2.pop.mut (o := .lst (ys ++ [y])) (new := .ol p (ds ++ [d])) hj2 rfl rfl fun ov e => ?_).push rfl .non)
    rw [e3] at e
    cases e
    exact ⟨rfl, _, upd_same, DpAll.app hd (SL.DpAll.one hy)⟩
/-- xs[i] = e, xs an owned list in slot j -/
theorem rn_setL {to ti : TE} (h : E F te δ fun r δ1 => ∃ d, r = .fz d ∧ E F to δ1 fun r2 δ2 => ∃ p, r2 = .al p ∧ E F ti δ2 fun r3 δ3 => ∃ i j k ds, r3 = .fz (.int i) ∧ δ3[j]? = some (.ol p ds) ∧ ixN ds.length i = some k ∧ Nx F D.nx (δ3.set j (.ol p (ds.set k d)))) :
    Rn F (tAsg te (gSub to ti rSetL)) δ D := fun G H σ s => h [] [] G H σ _ s fun v r δ1 G1 H1 ⟨d, hr, h1⟩ _ s1 => by
  subst hr
  refine h1 _ _ G1 H1 σ _ s1 fun o r2 δ2 G2 H2 ⟨p, hr2, h2⟩ e2 s2 => ?_
  subst hr2
  have ho : o = .ref p := s2.top
  refine h2 _ _ G2 H2 σ _ s2 fun iv r3 δ3 G3 H3 ⟨i, j, k, ds, hr3, hj, hk, nx⟩ e3 s3 => ?_
  subst hr3
  obtain rfl := dp_int (fz_top s3)
  obtain ⟨ov, e4, ok⟩ := s3.slot hj
  obtain ⟨w, rfl⟩ := sd_some (by intro z; cases z) ok
  obtain ⟨rfl, ys, hys, hd⟩ := ok
  have hv := fz_top s3.pop.pop
  refine ⟨p, ys, i, k, ho, rfl, hys, by rw [DpAll.len hd]; exact hk, ?_⟩
  refine nx G3 _ σ (s3.pop.pop.pop.mut (o := .lst (ys.set k v)) (new := .ol p (ds.set k d)) hj rfl rfl fun ov e => ?_)
  rw [e4] at e
  cases e
  exact ⟨rfl, _, upd_same, DpAll.set hv k hd⟩
end
end SL

namespace SL
open PySem L2 Evl
theorem cxK {CX : CXT} {P : Program} {w : World} {K : PySem.W.Frag} {mg : Str → Option Value} {base : Heap} {N : List Str} {q : Str} {sc : Scope} {f : Addr} {cdv : Value} {A : Around} {outer : List Env} {s : Shared} {H : Hp} {E : XK} : (cxOf CX P w K mg base N q sc f cdv A outer s H E).nox.K = K := rfl
theorem cxK' {CX : CXT} {P : Program} {w : World} {K : PySem.W.Frag} {mg : Str → Option Value} {base : Heap} {N : List Str} {q : Str} {sc : Scope} {f : Addr} {cdv : Value} {A : Around} {outer : List Env} {s : Shared} {H : Hp} {E : XK} : (cxOf CX P w K mg base N q sc f cdv A outer s H E).K = K := rfl
section
variable {K : PySem.W.Frag} {F F' : Fm} {G G' H H' : Hp} {τ σ : List (Option V)} {ε δ : List SD} {v : V} {P : PV} {te ta tb : TE} {tt tu : TT} {ts tw : TS} {D : Ends} {N : St → Hp → Prop} {g : TG} {PT : Bool → List SD → Prop} {tr : TA} {PI : List PyData → List SD → Prop}
theorem b_abs {i : Int} (k : P (.fz (.int (if i < 0 then -i else i))) δ) : OA F rAbsQ [.fz (.int i)] δ P := fun τ ε G H σ Q vs el s q => by
  obtain ⟨x, rfl⟩ := one_of el
  obtain rfl := dp_int (fz_top s)
  exact ⟨i, rfl, q _ _ δ G H k (Ex.refl _) (s.pop.push rfl (.int _))⟩
theorem b_int {i : Int} (k : P (.fz (.int i)) δ) : OA F rIntQ [.fz (.int i)] δ P := fun τ ε G H σ Q vs el s q => by
  obtain ⟨x, rfl⟩ := one_of el
  obtain rfl := dp_int (fz_top s)
  exact .inl ⟨i, rfl, q _ _ δ G H k (Ex.refl _) (s.pop.push rfl (.int _))⟩
theorem b_intb {i : Bool} (k : P (.fz (.int (if i then 1 else 0))) δ) : OA F rIntQ [.fz (.bool i)] δ P := fun τ ε G H σ Q vs el s q => by
  obtain ⟨x, rfl⟩ := one_of el
  obtain rfl := dp_bl (fz_top s)
  exact .inr ⟨i, rfl, q _ _ δ G H k (Ex.refl _) (s.pop.push rfl (.int _))⟩
/-- an item, of whatever kind -/
theorem o_sqL {ds : List PyData} {i : Int} {d : PyData} (e : atI ds i = some d) (k : P (.fz d) δ) : O2 F (rIx F.K) (.fz (.list ds)) (.fz (.int i)) δ P := fun τ ε G H σ Q x y s q => .inl (o_ixL e k τ ε G H σ Q x y s q)
theorem o_sqT {ds : List PyData} {i : Int} {d : PyData} (e : atI ds i = some d) (k : P (.fz d) δ) : O2 F (rIx F.K) (.fz (.tuple ds)) (.fz (.int i)) δ P := fun τ ε G H σ Q x y s q => .inr (.inl (o_ixT e k τ ε G H σ Q x y s q))
theorem o_sqO {ds : List PyData} {i : Int} {d : PyData} {p : Addr} {j : Nat} (hj : δ[j]? = some (.ol p ds)) (e : atI ds i = some d) (k : P (.fz d) δ) : O2 F (rIx F.K) (.al p) (.fz (.int i)) δ P := fun τ ε G H σ Q x y s q => .inl (o_ixO hj e k τ ε G H σ Q x y s q)
end
end SL

/-! defs, methods and classes that may be called by their names. -/
namespace SL
open PySem L2
structure Cal (P : Program) (w : World) (K : PySem.W.Frag) (mg : Str → Option Value) (base : Heap) (k : Nat) (x : Str) (sp : Sp) : Prop where
  ex : ∃ (f : Addr) (fd : FuncData) (ps : List Str), FnOk P w K mg base CX0 k f fd ps sp ∧ mg x = some (.ref f) ∧ PySem.W.keepIn K (.ref f) = true ∧ Binds K fd ps []
structure Met (P : Program) (w : World) (K : PySem.W.Frag) (mg : Str → Option Value) (base : Heap) (k : Nat) (C : Addr) (m : Str) (sp : Sp) : Prop where
  ex : ∃ (f : Addr) (fd : FuncData) (ps : List Str), Cls K C ∧ Meth K C m f ∧ FnOk P w K mg base CX0 k f fd ps sp ∧ Binds K fd ps []
structure Mak (P : Program) (w : World) (K : PySem.W.Frag) (mg : Str → Option Value) (base : Heap) (k : Nat) (x : Str) (C : Addr) (sp : Sp) : Prop where
  ex : ∃ (f : Addr) (fd : FuncData) (ps : List Str), Mk K C f ∧ FnOk P w K mg base CX0 k f fd ps sp ∧ mg x = some (.ref C) ∧ Binds K fd ps []
section
variable {X : Cx} {k j : Nat} {C : Addr} {x m : Str} {sp : Sp} {p pos apos : Pos} {e o : Expr} {es : List Expr} {ta : TE} {t : TA}
theorem pe_c (c : Cal X.prog X.w X.K X.mg X.base k x sp) (hr : Room j X.A) (hk : k ≤ j) (hg : Gl X x) (ha : PA X (e :: es) t)
    (hdb : (x == ("__debug__" : Str)) = false := by decide) (he : starEach (e :: es) X.env = (false, eval e X.env) :: starEach es X.env := by rfl) (hpl : (backTo pos (starEach es X.env)).any (·.1) = false := by rfl) :
    PE X (.Call (.Name x p) (e :: es) [] pos) (tCall sp [] E0 t) := by
  obtain ⟨f, fd, ps, F, hm, kp, b⟩ := c.ex
  exact pe_call F (hr.mono hk) hg hm kp b .nil pass0 ha hdb he hpl
theorem pe_c0 (c : Cal X.prog X.w X.K X.mg X.base k x sp) (hr : Room j X.A) (hk : k ≤ j) (hg : Gl X x) (hdb : (x == ("__debug__" : Str)) = false := by decide) :
    PE X (.Call (.Name x p) [] [] pos) (tCall sp [] E0 tNil) := by
  obtain ⟨f, fd, ps, F, hm, kp, b⟩ := c.ex
  exact pe_call0 F (hr.mono hk) hg hm kp b .nil pass0 hdb
theorem pe_mk (c : Mak X.prog X.w X.K X.mg X.base k x C sp) (hr : Room j X.A) (hk : k + 1 ≤ j) (hg : Gl X x) (ha : PA X (e :: es) t)
    (hdb : (x == ("__debug__" : Str)) = false := by decide) (he : starEach (e :: es) X.env = (false, eval e X.env) :: starEach es X.env := by rfl) (hpl : (backTo pos (starEach es X.env)).any (·.1) = false := by rfl) :
    PE X (.Call (.Name x p) (e :: es) [] pos) (tMake C sp [] E0 t) := by
  obtain ⟨f, fd, ps, M, F, hm, b⟩ := c.ex
  exact pe_make M F (hr.mono hk) hg hm b .nil pass0 ha hdb he hpl
theorem pe_mt {pl : Sem Bool} (c : Met X.prog X.w X.K X.mg X.base k C m sp) (hr : Room j X.A) (hk : k ≤ j) (he : PE X o ta) (ha : PA X (e :: es) t)
    (hst : starEach (e :: es) X.env = (false, eval e X.env) :: starEach es X.env := by rfl) (hpl : (backTo pos (starEach es X.env)).any (·.1) = false := by rfl)
    (ht : eval (.Call (.Attribute o m apos) (e :: es) [] pos) X.env = (do
      let ov ← eval o X.env
      standAt apos.atName
      let (f, first) ← holding [ov] (getMethod ov m pl)
      callWith pos f first (backTo pos (starEach (e :: es) X.env)) (backToKw pos (keywordEach [] X.env))) := by rfl) :
    PE X (.Call (.Attribute o m apos) (e :: es) [] pos) (tMeth C m sp [] E0 ta t) := by
  obtain ⟨f, fd, ps, hc, hm, F, b⟩ := c.ex
  exact pe_meth (pl := pl) he hc hm F (hr.mono hk) b .nil pass0 ha hst hpl ht
theorem pe_mt0 {pl : Sem Bool} (c : Met X.prog X.w X.K X.mg X.base k C m sp) (hr : Room j X.A) (hk : k ≤ j) (he : PE X o ta)
    (ht : eval (.Call (.Attribute o m apos) [] [] pos) X.env = (do
      let ov ← eval o X.env
      standAt apos.atName
      let (f, first) ← holding [ov] (getMethod ov m pl)
      callWith pos f first (backTo pos (starEach [] X.env)) (backToKw pos (keywordEach [] X.env))) := by rfl) :
    PE X (.Call (.Attribute o m apos) [] [] pos) (tMeth C m sp [] E0 ta tNil) := by
  obtain ⟨f, fd, ps, hc, hm, F, b⟩ := c.ex
  exact pe_meth0 (pl := pl) he hc hm F (hr.mono hk) b .nil pass0 ht
/-- a constant of the module -/
theorem pe_gc {v : V} (hg : Gl X x) (h : ∃ u, X.mg x = some u ∧ RelV v u) (hd : (x == ("__debug__" : Str)) = false := by decide) : PE X (.Name x pos) (tC v) := by
  obtain ⟨u, h1, h2⟩ := h
  exact pe_glob hg h1 h2 hd
end
end SL

/-! the rules whose readings name the written part, with that part told apart (so that they serve within comprehensions' blocks). -/
namespace SL
open PySem L2
section
variable {X : Cx} {K : PySem.W.Frag} {tg e o value : Expr} {f : Str} {pos pos' p apos cpos tpos : Pos} {ta te tl tv to : TE} {t : TA} {es elts : List Expr} {kk : Nat}
theorem ix_list' (K : PySem.W.Frag) (hK : X.K = K := by rfl) : IxR X (rIxL K) := hK ▸ ix_list
theorem ix_tup' (K : PySem.W.Frag) (hK : X.K = K := by rfl) : IxR X (rIxT K) := hK ▸ ix_tup
theorem ix_seq' (K : PySem.W.Frag) (hK : X.K = K := by rfl) : IxR X (rIx K) := hK ▸ ix_seq
theorem sl_list' (K : PySem.W.Frag) (hK : X.K = K := by rfl) : SlR X (rSlL K) := hK ▸ sl_list
theorem sl_tupA' (K : PySem.W.Frag) (hK : X.K = K := by rfl) : SlR X (rSlA K) := hK ▸ sl_tupA
theorem op_in_seq' (K : PySem.W.Frag) (hK : X.K = K := by rfl) : OpR X (compareOp .In) (rIn K false) := hK ▸ op_in_seq
theorem op_notIn_seq' (K : PySem.W.Frag) (hK : X.K = K := by rfl) : OpR X (compareOp .NotIn) (rIn K true) := hK ▸ op_notIn_seq
theorem op_eqD' (K : PySem.W.Frag) (hu : X.A.units + 64 < cLine) (hK : X.K = K := by rfl) : OpR X (compareOp .Eq) (rEqD K) := hK ▸ op_eqD hu
theorem op_neD' (K : PySem.W.Frag) (hu : X.A.units + 64 < cLine) (hK : X.K = K := by rfl) : OpR X (compareOp .NotEq) (rNeD K) := hK ▸ op_neD hu
theorem op_catS' (K : PySem.W.Frag) (hK : X.K = K := by rfl) : OpR X (binaryOp .Add) (rCatS K) := hK ▸ op_catS
theorem op_catA' (K : PySem.W.Frag) (hK : X.K = K := by rfl) : OpR X (binaryOp .Add) (rCatA K) := hK ▸ op_catA
theorem call_len_seq' (K : PySem.W.Frag) (hK : X.K = K := by rfl) : CallR X (.builtin "len") (rLenQ K) := hK ▸ call_len_seq
theorem call_len_str' : CallR X (.builtin "len") rLenX := call_len_str
theorem call_int1' : CallR X (.type "int") rIntQ := call_int1
theorem call_abs' : CallR X (.builtin "abs") rAbsQ := call_abs
theorem call_tuple_of' (K : PySem.W.Frag) (hK : X.K = K := by rfl) : CallR X (.type "tuple") (rTupQ K) := hK ▸ call_tuple_of
theorem call_list_of' (K : PySem.W.Frag) (hK : X.K = K := by rfl) : CallR X (.type "list") (rLstQ K) := hK ▸ call_list_of
theorem cr_all' (K : PySem.W.Frag) (hc : X.calm = true) (hK : X.K = K := by rfl) : CallR X (.builtin "all") (rAll K) := hK ▸ cr_all hc
theorem cr_any' (K : PySem.W.Frag) (hc : X.calm = true) (hK : X.K = K := by rfl) : CallR X (.builtin "any") (rAny K) := hK ▸ cr_any hc
theorem cr_sum' (K : PySem.W.Frag) (hc : X.calm = true) (hK : X.K = K := by rfl) : CallR X (.builtin "sum") (rSum K) := hK ▸ cr_sum hc
theorem cr_max' (K : PySem.W.Frag) (hc : X.calm = true) (hK : X.K = K := by rfl) : CallR X (.builtin "max") (rMax K) := hK ▸ cr_max hc
theorem cr_sortedI' (K : PySem.W.Frag) (hK : X.K = K := by rfl) : CallR X (.builtin "sorted") (rSortedI K) := hK ▸ cr_sortedI
theorem call_isi' (K : PySem.W.Frag) (hK : X.K = K := by rfl) : CallR X (.builtin "isinstance") (rIsi K) := hK ▸ call_isi
theorem call_isiT' (K : PySem.W.Frag) (hK : X.K = K := by rfl) : CallR X (.builtin "isinstance") (rIsiT K) := hK ▸ call_isiT
theorem mt_index' (K : PySem.W.Frag) (hK : X.K = K := by rfl) : MtR X "list.index" (rIndex K) := hK ▸ mt_index
theorem mt_lcount' (K : PySem.W.Frag) (hK : X.K = K := by rfl) : MtR X "list.count" (rCntI K) := hK ▸ mt_lcount
theorem pe_fld' (K : PySem.W.Frag) (he : PE X e ta) (hb : attributeBase e f X.env (eval e X.env) = eval e X.env) (hK : X.K = K := by rfl) : PE X (.Attribute e f pos) (tFld K ta f) := hK ▸ pe_fld he hb
theorem pi_list' (K : PySem.W.Frag) (hl : PE X e tl) (hK : X.K = K := by rfl) : PI X tg e (iList K tl) := hK ▸ pi_list hl
theorem pi_tup' (K : PySem.W.Frag) (hl : PE X e tl) (hK : X.K = K := by rfl) : PI X tg e (iTup K tl) := hK ▸ pi_tup hl
theorem pi_enum' (K : PySem.W.Frag) (hg : Gl X "enumerate") (hm : X.mg "enumerate" = none) (ha : PA X [e] t) (hs : starEach [e] X.env = [(false, eval e X.env)] := by rfl) (hK : X.K = K := by rfl) :
    PI X (.Tuple elts kk tpos) (.Call (.Name "enumerate" p) [e] [] pos) (iEnum K t) := hK ▸ pi_enum hg hm ha hs
theorem pi_enumT' (K : PySem.W.Frag) (hg : Gl X "enumerate") (hm : X.mg "enumerate" = none) (ha : PA X [e] t) (hs : starEach [e] X.env = [(false, eval e X.env)] := by rfl) (hK : X.K = K := by rfl) :
    PI X (.Tuple elts kk tpos) (.Call (.Name "enumerate" p) [e] [] pos) (iEnumT K t) := hK ▸ pi_enumT hg hm ha hs
theorem pi_zz' (K : PySem.W.Frag) {e2 : Expr} (hg : Gl X "zip") (hm : X.mg "zip" = none) (ha : PA X [e, e2] t)
    (hs : starEach [e, e2] X.env = (false, eval e X.env) :: starEach [e2] X.env := by rfl) (hpl : (backTo pos (starEach [e2] X.env)).any (·.1) = false := by rfl) (hK : X.K = K := by rfl) :
    PI X (.Tuple elts kk tpos) (.Call (.Name "zip" p) [e, e2] [] pos) (iZZ K t) := hK ▸ pi_zz hg hm ha hs hpl
theorem pg_tup' (K : PySem.W.Frag) {k : Nat} {u : TGs} {n : Nat} (hc : X.calm = true) (h : PGs X elts u) (hn : (assignEach elts X.env).length = n := by rfl) (hst : (assignEach elts X.env).findIdx? (·.1) = none := by rfl) (hK : X.K = K := by rfl) : PG X (.Tuple elts k pos) (gTup K n u) :=
  hK ▸ pg_tup hc h hn hst
theorem pe_bm' (K : PySem.W.Frag) {T : String} {name : Str} {id : String} {r : V → List V → Hp → VK → Prop} (pa : PlainAttrs T) (slot : Slot T name id) (hty : typeOf (.builtin id) = pure (.type "method_descriptor")) (hm : MtR X id r) (ho : PE X o to) (ha : PA X (e :: es) t)
    (hbase : attributeBase o name X.env (eval o X.env) = eval o X.env := by rfl)
    (hfew : ((backTo cpos (starEach (e :: es) X.env)).all (fun x => !x.1) && (backToKw cpos (keywordEach [] X.env)).all (fun x => x.1.isSome)
      && decide ((e :: es).length + ([] : List Keyword).length + (if ([] : List Keyword).isEmpty then 0 else 1) < 30)) = true := by rfl)
    (hline : (apos.endLine == cpos.line) = true := by rfl) (hs : starEach (e :: es) X.env = (false, eval e X.env) :: starEach es X.env := by rfl) (hplain : (backTo cpos (starEach es X.env)).any (·.1) = false := by rfl) (hK : X.K = K := by rfl) :
    PE X (.Call (.Attribute o name apos) (e :: es) [] cpos) (tBM K T r to t) := hK ▸ pe_bm pa slot hty hm ho ha hbase hfew hline hs hplain
theorem pe_bm0' (K : PySem.W.Frag) {T : String} {name : Str} {id : String} {r : V → List V → Hp → VK → Prop} (pa : PlainAttrs T) (slot : Slot T name id) (hty : typeOf (.builtin id) = pure (.type "method_descriptor")) (hm : MtR X id r) (ho : PE X o to)
    (hbase : attributeBase o name X.env (eval o X.env) = eval o X.env := by rfl) (hline : (apos.endLine == cpos.line) = true := by rfl) (hK : X.K = K := by rfl) : PE X (.Call (.Attribute o name apos) [] [] cpos) (tBM0 K T r to) := hK ▸ pe_bm0 pa slot hty hm ho hbase hline
theorem pe_revL' (K : PySem.W.Frag) {k : Nat} {p1 p2 p3 : Pos} (he : PE X e te) (hK : X.K = K := by rfl) : PE X (.Subscript e (.Slice none none (some (.UnaryOp .USub (.Constant (.int 1) k p1) p2)) p3) pos) (tRevL K te) := hK ▸ pe_revL he
theorem pe_lcv (vs : List Nat) {own : List (Str × Nat)} {wi : TI} {g : TG} {tt : TT} {te : TE} (h : PE X e (tLc wi g tt te (own.map (·.2)))) (hv : own.map (·.2) = vs := by rfl) : PE X e (tLc wi g tt te vs) := hv ▸ h
theorem ps_lcv (vs : List Nat) {st : Stmt} {own : List (Str × Nat)} {wi : TI} {g h : TG} {tt : TT} {te : TE} (k : PS X st (tAsg (tLc wi g tt te (own.map (·.2))) h)) (hv : own.map (·.2) = vs := by rfl) : PS X st (tAsg (tLc wi g tt te vs) h) := hv ▸ k
end
end SL

namespace L2
open PySem
/-- {e: v}, e a tuple; the new dict stands empty while the pair is made -/
def tDisp1T (tk tv : TE) : TE := fun σ H Q => ∀ p, H p = none → tk σ (upd H p (.dT [])) fun y H1 => tv σ H1 fun v H2 => H2 p = some (.dT []) ∧ ∃ b k, y = .ref b ∧ H2 b = some (.tup (k.map kV)) ∧ Q (.ref p) (upd H2 p (.dT [(k, v)]))
theorem pe_disp1T {X : Cx} {pos : Pos} {k v : Expr} {tk tv : TE} (hu : X.A.units + 1 < cLine) (hk : PE X k tk) (hv : PE X v tv) : PE X (.Dict [some k] [v] pos) (tDisp1T tk tv) := by
  refine ⟨fun pins s σ H Q I q => ?_⟩
  have hn := I.hok.fresh (Nat.le_refl s.heap.objs.size)
  have I1 := I.laid (a := s.heap.objs.size) (o := .dT []) (h' := s.heap.push { cls := .type "dict", data := .dict #[] }) (t' := s.toks) (fun _ _ q => Heap.get?_push_of_some _ q) (Nat.le_refl _) (dt_empty s.heap I.big)
  refine wpAny_Dict_any rfl rfl (by simp) (by simp) ?_
  refine pairTrees_cons_walk (thn (hk.run pins _ σ _ _ I1 (q _ hn)) fun u s1 ⟨x, H1, I2, rx, q1⟩ => thn (hv.run pins s1 σ H1 _ I2 q1) fun w2 s2 ⟨y, H2, I3, ry, e, b, ks, ex, eb, q2⟩ => pairTrees_nil_walk ?_)
  subst ex
  obtain rfl : u = Value.ref b := rx
  obtain ⟨z, hd, xs, rel, dd⟩ := dt_of I3.hok e
  have hx : xs = [] := by cases rel; rfl
  subst hx
  unfold storeAll
  rw [List.forIn_cons]
  refine wpAny_bind (wpAny_bind ?_)
  refine wpAny_dictSet_heap (knd := tupleKind (mixKind X.prog X.w)) (hsz := Nat.zero_le _) (show X.A.units < cLine by omega) (key_of I3.hok eb) dd fun h' dd' hs => ?_
  refine wpAny_pure ?_
  simp only [List.forIn_nil]
  refine wpAny_pure ⟨.ref s.heap.objs.size, _, ?_, rfl, q2⟩
  obtain ⟨qo, es, ep, hq, h2, h3, h4, _, h5⟩ := dd'
  have rp : KT (upd H2 s.heap.objs.size (.dT [(ks, y)])) [(ks, y)] (storedH [] ks b w2) := by
    have := (KT.keeps (H' := upd H2 s.heap.objs.size (.dT [(ks, y)])) (rel.put ks eb ry) fun c ys ec => by rw [upd_ne (ne_of ec e (fun z => nomatch z))]; exact ec)
    exact this
  exact d_write I3 (by rw [e]; exact True.intro) hs ⟨qo, hq⟩ ⟨by show 1 ≤ sizeLine; rw [sizeLine_eq]; omega, hd, _, rp, qo, es, ep, hq, h2, h3, h4, h5⟩
end L2
namespace SL
open PySem L2 Evl
section
variable {κ : Type} [DecidableEq κ]
def dlook (ks : List (κ × PyData)) (k : κ) : Option PyData := (ks.find? fun kv => decide (kv.1 = k)).map (·.2)
def dput (ks : List (κ × PyData)) (k : κ) (d : PyData) : List (κ × PyData) :=
  if (ks.any fun kv => decide (kv.1 = k)) = true then ks.map (fun kv => if kv.1 = k then (kv.1, d) else kv) else ks ++ [(k, d)]
variable {K : PySem.W.Frag} {G : Hp}
theorem KD.none {k : κ} : ∀ {xs : List (κ × V)} {ks : List (κ × PyData)}, KD K G xs ks → dlook ks k = none → valV xs k = none
  | _, _, .nil, _ => rfl
  | _, _, .cons (k := k') a b, e => by
    by_cases h : k' = k
    · simp [dlook, List.find?_cons, h] at e
    · rw [valV_neg h]
      refine KD.none b ?_
      simpa [dlook, List.find?_cons, h] using e
theorem KD.some {k : κ} {d : PyData} : ∀ {xs : List (κ × V)} {ks : List (κ × PyData)}, KD K G xs ks → dlook ks k = some d → ∃ v, valV xs k = some v ∧ Dp K G v d
  | _, _, .nil, e => by cases e
  | _, _, .cons (k := k') a b, e => by
    by_cases h : k' = k
    · simp only [dlook, List.find?_cons, h, decide_true, Option.map_some, Option.some.injEq] at e
      subst e
      exact ⟨_, valV_pos h, a⟩
    · obtain ⟨v, h1, h2⟩ := KD.some (d := d) (k := k) b (by simpa [dlook, List.find?_cons, h] using e)
      exact ⟨v, by rw [valV_neg h]; exact h1, h2⟩
theorem KD.any {k : κ} : ∀ {xs : List (κ × V)} {ks : List (κ × PyData)}, KD K G xs ks → (xs.any fun kv => decide (kv.1 = k)) = (ks.any fun kv => decide (kv.1 = k))
  | _, _, .nil => rfl
  | _, _, .cons a b => by simp only [List.any_cons, KD.any b]
theorem KD.len : ∀ {xs : List (κ × V)} {ks : List (κ × PyData)}, KD K G xs ks → xs.length = ks.length
  | _, _, .nil => rfl
  | _, _, .cons a b => by simp [KD.len b]
theorem KD.map {k : κ} {v : V} {d : PyData} (h : Dp K G v d) : ∀ {xs : List (κ × V)} {ks : List (κ × PyData)}, KD K G xs ks → KD K G (xs.map fun kv => if kv.1 = k then (kv.1, v) else kv) (ks.map fun kv => if kv.1 = k then (kv.1, d) else kv)
  | _, _, .nil => .nil
  | _, _, .cons (k := k') a b => by
    simp only [List.map_cons]
    by_cases e : k' = k
    · rw [if_pos e, if_pos e]; exact .cons h (KD.map h b)
    · rw [if_neg e, if_neg e]; exact .cons a (KD.map h b)
theorem KD.snoc {k : κ} {v : V} {d : PyData} (h : Dp K G v d) : ∀ {xs : List (κ × V)} {ks : List (κ × PyData)}, KD K G xs ks → KD K G (xs ++ [(k, v)]) (ks ++ [(k, d)])
  | _, _, .nil => .cons h .nil
  | _, _, .cons a b => .cons a (KD.snoc h b)
theorem KD.put {k : κ} {v : V} {d : PyData} (h : Dp K G v d) {xs : List (κ × V)} {ks : List (κ × PyData)} (r : KD K G xs ks) : KD K G (putK xs k v) (dput ks k d) := by
  unfold putK dput
  rw [KD.any r]
  split
  · exact KD.map h r
  · exact KD.snoc h r
theorem dlook_dput (ks : List (κ × PyData)) (k j : κ) (d : PyData) : dlook (dput ks k d) j = if j = k then some d else dlook ks j := by
  have aux : ∀ (l : List (κ × PyData)), (l.any fun kv => decide (kv.1 = k)) = false → dlook (l ++ [(k, d)]) j = if j = k then some d else dlook l j := by
    intro l
    induction l with
    | nil =>
      intro _
      by_cases h : j = k
      · subst h; simp [dlook]
      · have h' : ¬ k = j := fun z => h z.symm
        simp [dlook, h, h']
    | cons p r ih =>
      intro hn
      obtain ⟨p1, p2⟩ := p
      simp only [List.any_cons, Bool.or_eq_false_iff, decide_eq_false_iff_not] at hn
      by_cases h1 : p1 = j
      · have : ¬ j = k := fun z => hn.1 (h1.trans z)
        simp [dlook, h1, this]
      · have := ih hn.2
        simp only [dlook, List.cons_append, List.find?_cons, h1, decide_false] at this ⊢
        exact this
  have aux2 : ∀ (l : List (κ × PyData)), dlook (l.map fun kv => if kv.1 = k then (kv.1, d) else kv) j = if j = k then (dlook l j).map (fun _ => d) else dlook l j := by
    intro l
    induction l with
    | nil => by_cases h : j = k <;> simp [dlook, h]
    | cons p r ih =>
      obtain ⟨p1, p2⟩ := p
      by_cases h1 : p1 = j
      · subst h1
        by_cases h2 : p1 = k
        · subst h2; simp [dlook]
        · simp [dlook, h2]
      · have e : dlook (((p1, p2) :: r).map fun kv => if kv.1 = k then (kv.1, d) else kv) j = dlook (r.map fun kv => if kv.1 = k then (kv.1, d) else kv) j := by
          rw [List.map_cons]
          by_cases h2 : p1 = k
          · rw [if_pos h2]
            unfold dlook
            rw [List.find?_cons]
            simp only [h1, decide_false]
          · rw [if_neg h2]
            unfold dlook
            rw [List.find?_cons]
            simp only [h1, decide_false]
        rw [e, ih]
        have e2 : dlook ((p1, p2) :: r) j = dlook r j := by simp [dlook, h1]
        rw [e2]
  unfold dput
  split
  · rename_i h
    rw [aux2]
    by_cases hj : j = k
    · subst hj
      rw [if_pos rfl, if_pos rfl]
      obtain ⟨x, hx, he⟩ := List.any_eq_true.mp h
      cases q : dlook ks j with
      | some _ => rfl
      | none =>
        unfold dlook at q
        rw [Option.map_eq_none_iff, List.find?_eq_none] at q
        exact absurd he (q x hx)
    · rw [if_neg hj, if_neg hj]
  · rename_i h
    exact aux ks (Bool.eq_false_iff.mpr h)
theorem dput_len (ks : List (κ × PyData)) (k : κ) (d : PyData) : (dput ks k d).length ≤ ks.length + 1 := by
  unfold dput
  split <;> simp
theorem dput_new (ks : List (κ × PyData)) (k : κ) (d : PyData) (h : dlook ks k = none) : dput ks k d = ks ++ [(k, d)] := by
  unfold dput
  rw [if_neg]
  intro z
  obtain ⟨x, hx, he⟩ := List.any_eq_true.mp z
  unfold dlook at h
  rw [Option.map_eq_none_iff, List.find?_eq_none] at h
  exact h x hx he
end
def keyD : Key → PyData
  | .inl i => .int i
  | .inr x => .str x
section
variable {K : PySem.W.Frag} {F F' : Fm} {G G' H H' : Hp} {τ σ : List (Option V)} {ε δ : List SD} {v : V} {P : PV} {te ta tb td ty tv : TE} {tt tu : TT} {ts tw : TS} {D : Ends} {N : St → Hp → Prop} {g : TG} {PT : Bool → List SD → Prop} {tr : TA}
theorem dp_key {k : Key} (h : Dp K G v (keyD k)) : v = kV k := by
  cases k with
  | inl i => exact dp_int h
  | inr x => exact dp_str h
theorem dpAll_keys : ∀ {vs : List V} {k : List Key}, DpAll K G vs (k.map keyD) → vs = k.map kV
  | [], [], _ => rfl
  | _ :: _, [], h => by cases h
  | [], _ :: _, h => by cases h
  | v :: vs, n :: ns, h => by
    cases h with
    | cons a b => rw [dp_key a, dpAll_keys b]; rfl
theorem dp_keyT {k : List Key} (h : Dp K G v (.tuple (k.map keyD))) : ∃ b, v = .ref b ∧ G b = some (.tup (k.map kV)) := by
  obtain ⟨a, xs, rfl, ht, da⟩ := dp_tupH h
  rw [dpAll_keys da] at ht
  exact ⟨a, rfl, ht⟩
/-- the dict with tuple keys in slot j -/
theorem ot_at {j : Nat} {p : Addr} {kvs : List (List Key × PyData)} (s : S2 F G H τ ε σ δ) (hj : δ[j]? = some (.ot p kvs)) : σ[j]? = some (some (.ref p)) ∧ ∃ xs, H p = some (.dT xs) ∧ KD F.K G xs kvs := by
  obtain ⟨ov, e, ok⟩ := s.slot hj
  obtain ⟨w, rfl⟩ := sd_some (by intro z; cases z) ok
  obtain ⟨rfl, h⟩ := ok
  exact ⟨e, h⟩
theorem ev_dnotinT (h : E F ty δ fun r δ1 => ∃ k : List Key, r = .fz (.tuple (k.map keyD)) ∧ E F td δ1 fun r2 δ2 => ∃ (p : Addr) (j : Nat) (kvs : List (List Key × PyData)), r2 = .al p ∧ δ2[j]? = some (.ot p kvs) ∧ P (.fz (.bool (!(dlook kvs k).isSome))) δ2) : E F (tDNotIn ty td) δ P := fun τ ε G H σ Q s q =>
  h τ ε G H σ _ s fun y r δ1 G1 H1 ⟨k, hr, h1⟩ e1 s1 => by
    subst hr
    have hy := fz_top s1
    refine h1 _ _ G1 H1 σ _ s1 fun x r2 δ2 G2 H2 ⟨p, j, kvs, hr2, hj, k2⟩ e2 s2 => ?_
    subst hr2
    have hx : x = .ref p := s2.top
    subst hx
    obtain ⟨b, rfl, hb⟩ := dp_keyT hy
    obtain ⟨_, xs, hxs, kd⟩ := ot_at s2 hj
    refine ⟨p, _, rfl, DGet.t hxs (s2.w.gh _ _ (e2 _ _ hb)), ?_⟩
    have e : (valV xs k).isSome = (dlook kvs k).isSome := by
      cases q1 : dlook kvs k with
      | none => rw [KD.none kd q1]; rfl
      | some d => obtain ⟨v, hv, _⟩ := KD.some kd q1; rw [hv]; rfl
    rw [e]
    exact q _ _ δ2 G2 H2 k2 (Ex.trans e1 e2) (s2.pop2.push rfl (.bl _))
theorem ev_dgetT (h : E F td δ fun r δ1 => ∃ p, r = .al p ∧ E F ty δ1 fun r2 δ2 => ∃ (k : List Key) (j : Nat) (kvs : List (List Key × PyData)) (d : PyData), r2 = .fz (.tuple (k.map keyD)) ∧ δ2[j]? = some (.ot p kvs) ∧ dlook kvs k = some d ∧ P (.fz d) δ2) : E F (tDGet td ty) δ P := fun τ ε G H σ Q s q =>
  h τ ε G H σ _ s fun x r δ1 G1 H1 ⟨p, hr, h1⟩ e1 s1 => by
    subst hr
    have hx : x = .ref p := s1.top
    subst hx
    refine h1 _ _ G1 H1 σ _ s1 fun y r2 δ2 G2 H2 ⟨k, j, kvs, d, hr2, hj, hd, k2⟩ e2 s2 => ?_
    subst hr2
    obtain ⟨b, rfl, hb⟩ := dp_keyT (fz_top s2)
    obtain ⟨_, xs, hxs, kd⟩ := ot_at s2 hj
    obtain ⟨v, hv, hdp⟩ := KD.some kd hd
    refine ⟨p, v, rfl, ?_, q _ _ δ2 G2 H2 k2 (Ex.trans e1 e2) (s2.pop2.push rfl hdp)⟩
    rw [← hv]
    exact DGet.t hxs (s2.w.gh _ _ hb)
theorem rn_dputT (h : E F tv δ fun r δ1 => ∃ d, r = .fz d ∧ E F td δ1 fun r2 δ2 => ∃ p, r2 = .al p ∧ E F ty δ2 fun r3 δ3 => ∃ (k : List Key) (j : Nat) (kvs : List (List Key × PyData)), r3 = .fz (.tuple (k.map keyD)) ∧ δ3[j]? = some (.ot p kvs) ∧ kvs.length < 100000 ∧ Nx F D.nx (δ3.set j (.ot p (dput kvs k d)))) :
    Rn F (sDPut td ty tv) δ D := fun G H σ s => h [] [] G H σ _ s fun v r δ1 G1 H1 ⟨d, hr, h1⟩ _ s1 => by
  subst hr
  refine h1 _ _ G1 H1 σ _ s1 fun x r2 δ2 G2 H2 ⟨p, hr2, h2⟩ e2 s2 => ?_
  subst hr2
  have hx : x = .ref p := s2.top
  subst hx
  refine h2 _ _ G2 H2 σ _ s2 fun y r3 δ3 G3 H3 ⟨k, j, kvs, hr3, hj, hl, nx⟩ e3 s3 => ?_
  subst hr3
  obtain ⟨b, rfl, hb⟩ := dp_keyT (fz_top s3)
  obtain ⟨e4, xs, hxs, kd⟩ := ot_at s3 hj
  have hv := fz_top s3.pop.pop
  have hl' := KD.len kd
  refine ⟨p, _, rfl, DPut.t hxs (s3.w.gh _ _ hb) (Nat.lt_of_lt_of_le (show xs.length < 100000 by omega) (by decide)), ?_⟩
  refine nx G3 _ σ (s3.pop.pop.pop.mut (o := .dT (putK xs k v)) (new := .ot p (dput kvs k d)) hj rfl rfl fun ov e => ?_)
  rw [e4] at e
  cases e
  exact ⟨rfl, _, upd_same, KD.put hv kd⟩
/-- the owned thing on top of the stack is changed -/
theorem S2.mutT {o : HO} {p : Addr} {old new : SD} {ov : Option V} (h : S2 F G H (ov :: τ) (old :: ε) σ δ) (h1 : old.fp = [p]) (h2 : new.fp = [p]) (hok : SD.ok F.K G (upd H p o) ov new) : S2 F G (upd H p o) (ov :: τ) (new :: ε) σ δ := by
  have w1 : Wd F G H ((old.fp ++ fps ε) ++ fps δ) := h.w
  rw [h1] at w1
  have wm := w1.mut (o := o) (p := p) (by simp)
  have nd := (List.nodup_cons.mp (show (p :: (fps ε ++ fps δ)).Nodup from w1.nd)).1
  refine ⟨?_, ⟨hok, oks_mono (Ex.refl _) (fun a ha => upd_ne fun z => nd (z ▸ List.mem_append_left _ ha)) h.t.2⟩, oks_mono (Ex.refl _) (fun a ha => upd_ne fun z => nd (z ▸ List.mem_append_right _ ha)) h.s⟩
  show Wd F G _ ((new.fp ++ fps ε) ++ fps δ)
  rw [h2]
  exact wm
/-- {e: v}, e a tuple of numbers and texts -/
theorem ev_disp1T (h : E F ty δ fun r δ1 => ∃ k : List Key, r = .fz (.tuple (k.map keyD)) ∧ E F tv δ1 fun r2 δ2 => ∃ d, r2 = .fz d ∧ ∀ p, p ∉ F.io → P (.ot p [(k, d)]) δ2) : E F (tDisp1T ty tv) δ P := fun τ ε G H σ Q s q => by
  intro p hp
  have hio : p ∉ F.io := fun z => by
    obtain ⟨o, e⟩ := s.w.io p z
    rw [hp] at e; cases e
  have s0 : S2 F G (upd H p (.dT [])) (some (.ref p) :: τ) (.ot p [] :: ε) σ δ := s.newO hp rfl ⟨rfl, [], upd_same, .nil⟩
  refine h _ _ G _ σ _ s0 fun y r δ1 G1 H1 ⟨k, hr, h1⟩ e1 s1 => ?_
  subst hr
  have hy := fz_top s1
  refine h1 _ _ G1 H1 σ _ s1 fun v r2 δ2 G2 H2 ⟨d, hr2, k2⟩ e2 s2 => ?_
  subst hr2
  have hv := fz_top s2
  obtain ⟨b, rfl, hb⟩ := dp_keyT hy
  have s3 := s2.pop.pop
  obtain ⟨_, xs, hxs, kd⟩ := s3.top
  cases kd
  refine ⟨hxs, b, k, rfl, s2.w.gh _ _ (e2 _ _ hb), ?_⟩
  exact q _ _ δ2 G2 _ (k2 p hio) (Ex.trans e1 e2) (s3.mutT (p := p) (o := .dT [(k, v)]) rfl rfl ⟨rfl, _, upd_same, .cons hv .nil⟩)
end
end SL

namespace SL
open PySem L2 Evl
/-- what serves as a list: frozen, owned on the stack, owned in a slot -/
inductive LSrc (δ : List SD) : SD → List PyData → Prop
  | fz {ds : List PyData} : LSrc δ (.fz (.list ds)) ds
  | ol {p : Addr} {ds : List PyData} : LSrc δ (.ol p ds) ds
  | al {p : Addr} {ds : List PyData} (j : Nat) : δ[j]? = some (.ol p ds) → LSrc δ (.al p) ds
section
variable {K : PySem.W.Frag} {F F' : Fm} {G G' H H' : Hp} {τ σ : List (Option V)} {ε δ : List SD} {v x : V} {P : PV} {te ta tb td ty tv : TE} {tt tu : TT} {ts tw : TS} {D : Ends} {N : St → Hp → Prop} {g : TG} {PT : Bool → List SD → Prop} {tr : TA} {r ra rb : SD} {ds es : List PyData}
theorem S2.ol_at {j : Nat} {p : Addr} (s : S2 F G H τ ε σ δ) (hj : δ[j]? = some (.ol p ds)) : σ[j]? = some (some (.ref p)) ∧ ∃ xs, H p = some (.lst xs) ∧ DpAll F.K G xs ds := by
  obtain ⟨ov, e, ok⟩ := s.slot hj
  obtain ⟨w, rfl⟩ := sd_some (by intro z; cases z) ok
  obtain ⟨rfl, h⟩ := ok
  exact ⟨e, h⟩
theorem S2.lsrc (s : S2 F G H τ ε σ δ) (ok : SD.ok F.K G H (some x) r) (h : LSrc δ r ds) : ∃ a xs, x = .ref a ∧ SqL F.K H a xs ∧ DpAll F.K G xs ds := by
  cases h with
  | fz =>
    obtain ⟨a, xs, h1, h2, h3⟩ := dp_lst ok
    exact ⟨a, xs, h1, ex_l s.w.gh h2, h3⟩
  | ol =>
    obtain ⟨h1, xs, h2, h3⟩ := ok
    exact ⟨_, xs, h1, SqL.of h2, h3⟩
  | al j hj =>
    obtain ⟨_, xs, h2, h3⟩ := s.ol_at hj
    exact ⟨_, xs, ok, SqL.of h2, h3⟩
theorem S2.fresh_io {p : Addr} (s : S2 F G H τ ε σ δ) (hp : H p = none) : p ∉ F.io := fun z => by
  obtain ⟨o, e⟩ := s.w.io p z
  rw [hp] at e; cases e
theorem b_len (h : LSrc δ r ds) (k : P (.fz (.int (ds.length : Int))) δ) : OA F (rLenQ F.K) [r] δ P := fun τ ε G H σ Q vs el s q => by
  obtain ⟨x, rfl⟩ := one_of el
  obtain ⟨a, xs, rfl, sq, da⟩ := s.lsrc s.top h
  refine ⟨a, xs, rfl, .inl sq, ?_⟩
  rw [DpAll.len da]
  exact q _ _ δ G H k (Ex.refl _) (s.pop.push rfl (.int _))
theorem b_tup (h : LSrc δ r ds) (k : P (.fz (.tuple ds)) δ) : OA F (rTupQ F.K) [r] δ P := fun τ ε G H σ Q vs el s q => by
  obtain ⟨x, rfl⟩ := one_of el
  obtain ⟨a, xs, rfl, sq, da⟩ := s.lsrc s.top h
  refine ⟨a, xs, rfl, .inl ⟨sq, fun l hl => ?_⟩⟩
  have ex := Ex.new (o := .tup xs) (s.w.gnone hl)
  exact q _ _ δ _ _ k ex ((s.pop.newF hl).push rfl (Dp.tup upd_same (dpAllMono ex _ _ da)))
theorem b_lstS (h : LSrc δ r ds) (k : ∀ p, p ∉ F.io → P (.ol p ds) δ) : OA F (rLstQ F.K) [r] δ P := fun τ ε G H σ Q vs el s q => by
  obtain ⟨x, rfl⟩ := one_of el
  obtain ⟨a, xs, rfl, sq, da⟩ := s.lsrc s.top h
  exact ⟨a, xs, rfl, .inl sq, fun l hl => q _ _ δ _ _ (k l (s.fresh_io hl)) (Ex.refl _) (s.pop.newO hl rfl ⟨rfl, xs, upd_same, da⟩)⟩
theorem o_cat (ha : LSrc δ ra ds) (hb : LSrc δ rb es) (hl : ds.length + es.length ≤ 1000000) (k : ∀ p, p ∉ F.io → P (.ol p (ds ++ es)) δ) : O2 F (rCatS F.K) ra rb δ P := fun τ ε G H σ Q x y s q => by
  obtain ⟨b, zs, rfl, sq2, db⟩ := s.lsrc s.top hb
  obtain ⟨a, xs, rfl, sq1, da⟩ := s.pop.lsrc s.pop.top ha
  have h1 := DpAll.len da
  have h2 := DpAll.len db
  refine ⟨a, b, xs, zs, rfl, rfl, sq1, sq2, Nat.le_trans (show _ ≤ 1000000 by omega) (by decide), fun p hp => ?_⟩
  exact q _ _ δ _ _ (k p (s.fresh_io hp)) (Ex.refl _) (s.pop2.newO hp rfl ⟨rfl, _, upd_same, DpAll.app da db⟩)
theorem dpAll_rep (n : Nat) {xs : List V} (h : DpAll K G xs ds) : DpAll K G (List.replicate n xs).flatten (List.replicate n ds).flatten := by
  induction n with
  | zero => exact .nil
  | succ n ih =>
    simp only [List.replicate_succ, List.flatten_cons]
    exact DpAll.app h ih
/-- [x, ..] * n -/
theorem o_rep {p : Addr} {n : Int} (hn : n ≤ 1000000) (hm : -1000000 ≤ n) (hl : ds.length * n.toNat ≤ 1000000) (k : ∀ q, q ∉ F.io → P (.ol q (List.replicate n.toNat ds).flatten) δ) : O2 F rRep (.ol p ds) (.fz (.int n)) δ P := fun τ ε G H σ Q x y s q => by
  obtain rfl := dp_int (fz_top s)
  obtain ⟨rfl, xs, hx, da⟩ := s.pop.top
  have h1 := DpAll.len da
  refine ⟨p, n, xs, rfl, rfl, hx, by omega, by omega, Nat.le_trans (show _ ≤ 1000000 by rw [h1]; exact hl) (by decide), fun p' hp => ?_⟩
  exact q _ _ δ _ _ (k p' (s.fresh_io hp)) (Ex.refl _) (s.pop2.newO hp rfl ⟨rfl, _, upd_same, dpAll_rep _ da⟩)
theorem b_sum {ns : List Int} (h : LSrc δ r (ns.map PyData.int)) (k : P (.fz (.int ns.sum)) δ) : OA F (rSum F.K) [r] δ P := fun τ ε G H σ Q vs el s q => by
  obtain ⟨x, rfl⟩ := one_of el
  obtain ⟨a, xs, rfl, sq, da⟩ := s.lsrc s.top h
  rw [DpAll.ints da] at sq
  exact ⟨a, ns, rfl, sq, q _ _ δ G H k (Ex.refl _) (s.pop.push rfl (.int _))⟩
theorem b_max {ns : List Int} (h : LSrc δ r (ns.map PyData.int)) (h0 : 0 < ns.length) (k : ∀ m, m ∈ ns → (∀ y, y ∈ ns → y ≤ m) → P (.fz (.int m)) δ) : OA F (rMax F.K) [r] δ P := fun τ ε G H σ Q vs el s q => by
  obtain ⟨x, rfl⟩ := one_of el
  obtain ⟨a, xs, rfl, sq, da⟩ := s.lsrc s.top h
  rw [DpAll.ints da] at sq
  exact ⟨a, ns, rfl, sq, h0, fun m h1 h2 => q _ _ δ G H (k m h1 h2) (Ex.refl _) (s.pop.push rfl (.int _))⟩
theorem b_all {bs : List Bool} (h : LSrc δ r (bs.map PyData.bool)) (k : P (.fz (.bool (bs.all id))) δ) : OA F (rAll F.K) [r] δ P := fun τ ε G H σ Q vs el s q => by
  obtain ⟨x, rfl⟩ := one_of el
  obtain ⟨a, xs, rfl, sq, da⟩ := s.lsrc s.top h
  rw [DpAll.bls da] at sq
  exact ⟨a, bs, rfl, sq, q _ _ δ G H k (Ex.refl _) (s.pop.push rfl (.bl _))⟩
theorem o_ix {i : Int} {d : PyData} (h : LSrc δ ra ds) (e : atI ds i = some d) (k : P (.fz d) δ) : O2 F (rIxL F.K) ra (.fz (.int i)) δ P := fun τ ε G H σ Q x y s q => by
  obtain rfl := dp_int (fz_top s)
  obtain ⟨a, xs, rfl, sq, da⟩ := s.pop.lsrc s.pop.top h
  obtain ⟨z, h1, h2⟩ := atI_dp da e
  exact ⟨a, xs, i, z, rfl, rfl, sq, h1, q _ _ δ G H k (Ex.refl _) (s.pop2.push rfl h2)⟩
/-- i in a list of ints -/
theorem all_flat : ∀ (ns : List Int), (ns.map V.int).all flatV = true
  | [] => rfl
  | n :: ns => by simp [flatV]
theorem inV_int (i : Int) : ∀ (ns : List Int), inV (.int i) (ns.map V.int) = decide (i ∈ ns)
  | [] => rfl
  | n :: ns => by
    have ih := inV_int i ns
    unfold inV at ih ⊢
    rw [List.map_cons, List.any_cons, ih]
    by_cases h : n = i
    · subst h; simp [eqV]
    · have h' : ¬ i = n := fun z => h z.symm
      simp [eqV, h, h']
theorem o_notinI {ns : List Int} {i : Int} (h : LSrc δ rb (ns.map PyData.int)) (k : P (.fz (.bool (!decide (i ∈ ns)))) δ) : O2 F (rIn F.K true) (.fz (.int i)) rb δ P := fun τ ε G H σ Q x y s q => by
  obtain ⟨a, xs, rfl, sq, da⟩ := s.lsrc s.top h
  obtain rfl := dp_int (fz_top2 s)
  rw [DpAll.ints da] at sq
  refine ⟨a, _, rfl, .inl sq, rfl, all_flat ns, ?_⟩
  rw [if_pos rfl, inV_int]
  exact q _ _ δ G H k (Ex.refl _) (s.pop2.push rfl (.bl _))
/-- xs[::-1] -/
theorem DpAll.rev {G : Hp} : ∀ {vs : List V} {ds : List PyData}, DpAll K G vs ds → DpAll K G vs.reverse ds.reverse
  | _, _, .nil => .nil
  | _, _, .cons a b => by
    simp only [List.reverse_cons]
    exact DpAll.app (DpAll.rev b) (SL.DpAll.one a)
theorem ev_revL (h : E F te δ fun r δ1 => ∃ ds, LSrc δ1 r ds ∧ ∀ p, p ∉ F.io → P (.ol p ds.reverse) δ1) : E F (tRevL F.K te) δ P := fun τ ε G H σ Q s q =>
  h τ ε G H σ _ s fun x r δ1 G1 H1 ⟨ds, hl, k⟩ e1 s1 => by
    obtain ⟨a, xs, rfl, sq, da⟩ := s1.lsrc s1.top hl
    exact ⟨a, xs, rfl, sq, fun p hp => q _ _ δ1 _ _ (k p (s1.fresh_io hp)) e1 (s1.pop.newO hp rfl ⟨rfl, _, upd_same, DpAll.rev da⟩)⟩
/-- xs[n:] -/
theorem ev_from {i : Nat} (h : E F te δ fun r δ1 => ∃ ds, LSrc δ1 r ds ∧ ∀ p, p ∉ F.io → P (.ol p (ds.drop i)) δ1) : E F (tSl (rSlL F.K) te (tPart (tC (.int (i : Int)))) tNoPart) δ P := fun τ ε G H σ Q s q =>
  h τ ε G H σ _ s fun x r δ1 G1 H1 ⟨ds, hl, k⟩ e1 s1 => by
    obtain ⟨a, xs, rfl, sq, da⟩ := s1.lsrc s1.top hl
    refine ⟨(i : Int), rfl, a, xs, rfl, sq, fun p hp => q _ _ δ1 _ _ (k p (s1.fresh_io hp)) e1 (s1.pop.newO hp rfl ⟨rfl, _, upd_same, ?_⟩)⟩
    unfold cutV
    rw [HT.sIx_none, HT.sIx_nat]
    have hd : xs.drop (min i xs.length) = xs.drop i := by
      by_cases h : i ≤ xs.length
      · rw [Nat.min_eq_left h]
      · rw [Nat.min_eq_right (by omega), List.drop_length, List.drop_eq_nil_of_le (by omega)]
    rw [hd, List.take_of_length_le (by rw [List.length_drop]; omega)]
    exact SL.DpAll.drop i da
/-- xs[:n] -/
theorem ev_upto {i : Nat} (h : E F te δ fun r δ1 => ∃ ds, LSrc δ1 r ds ∧ ∀ p, p ∉ F.io → P (.ol p (ds.take i)) δ1) : E F (tSl (rSlL F.K) te tNoPart (tPart (tC (.int (i : Int))))) δ P := fun τ ε G H σ Q s q =>
  h τ ε G H σ _ s fun x r δ1 G1 H1 ⟨ds, hl, k⟩ e1 s1 => by
    obtain ⟨a, xs, rfl, sq, da⟩ := s1.lsrc s1.top hl
    refine ⟨(i : Int), rfl, a, xs, rfl, sq, fun p hp => q _ _ δ1 _ _ (k p (s1.fresh_io hp)) e1 (s1.pop.newO hp rfl ⟨rfl, _, upd_same, ?_⟩)⟩
    unfold cutV
    rw [HT.sIx_none, HT.sIx_nat, List.drop_zero, Nat.sub_zero]
    have hd : xs.take (min i xs.length) = xs.take i := by
      by_cases h : i ≤ xs.length
      · rw [Nat.min_eq_left h]
      · rw [Nat.min_eq_right (by omega), List.take_length, List.take_of_length_le (by omega)]
    rw [hd]
    exact SL.DpAll.take i da
/-- xs.extend(new list) -/
theorem ev_extend (h : E F ta δ fun r δ1 => ∃ p j ds0, r = .al p ∧ δ1[j]? = some (.ol p ds0) ∧ E F te δ1 fun r2 δ2 => ∃ q es ds, r2 = .ol q es ∧ δ2[j]? = some (.ol p ds) ∧ ds.length + es.length ≤ 1000000 ∧ P (.fz .none) (δ2.set j (.ol p (ds ++ es)))) :
    E F (tBM F.K "list" rExtend ta (tCons te tNil)) δ P := fun τ ε G H σ Q s q =>
  h τ ε G H σ _ s fun x r δ1 G1 H1 ⟨p, j, ds0, hr, hj, h1⟩ e1 s1 => by
    subst hr
    have hx : x = .ref p := s1.top
    subst hx
    obtain ⟨_, xs, hx, _⟩ := s1.ol_at hj
    refine ⟨.inl ⟨rfl, xs, SqL.of hx⟩, ?_⟩
    refine h1 _ _ G1 H1 σ _ s1.pop fun y r2 δ2 G2 H2 ⟨q', es, ds, hr, hj2, hl, k⟩ e2 s2 => ?_
    subst hr
    obtain ⟨rfl, zs, hz, dz⟩ := s2.top
    obtain ⟨e3, ys, hys, hd⟩ := s2.ol_at hj2
    have hl1 := DpAll.len hd
    have hl2 := DpAll.len dz
    refine ⟨p, q', ys, zs, rfl, rfl, hys, hz, Nat.le_trans (show _ ≤ 1000000 by omega) (by decide), ?_⟩
    refine q _ _ _ G2 _ k (Ex.trans e1 e2) ((s2.pop.mut (o := .lst (ys ++ zs)) (new := .ol p (ds ++ es)) hj2 rfl rfl fun ov e => ?_).push rfl .non)
    rw [e3] at e
    cases e
    exact ⟨rfl, _, upd_same, DpAll.app hd dz⟩
/-- xs.reverse() -/
theorem ev_reverse (h : E F ta δ fun r δ1 => ∃ p j ds, r = .al p ∧ δ1[j]? = some (.ol p ds) ∧ P (.fz .none) (δ1.set j (.ol p ds.reverse))) : E F (tBM0 F.K "list" rReverse ta) δ P := fun τ ε G H σ Q s q =>
  h τ ε G H σ _ s fun x r δ1 G1 H1 ⟨p, j, ds, hr, hj, k⟩ e1 s1 => by
    subst hr
    have hx : x = .ref p := s1.top
    subst hx
    obtain ⟨e3, xs, hx, hd⟩ := s1.ol_at hj
    refine ⟨.inl ⟨rfl, xs, SqL.of hx⟩, p, xs, rfl, rfl, hx, ?_⟩
    refine q _ _ _ G1 _ k e1 ((s1.pop.mut (o := .lst xs.reverse) (new := .ol p ds.reverse) hj rfl rfl fun ov e => ?_).push rfl .non)
    rw [e3] at e
    cases e
    exact ⟨rfl, _, upd_same, DpAll.rev hd⟩
/-- a list in a slot or on the way as what a loop walks: it is frozen on the stack first -/
theorem iw_listO {PI : List PyData → List SD → Prop} (h : E F te δ fun r δ1 => ∃ p ds, p ∉ F.io ∧ r = .ol p ds ∧ PI ds δ1) : Iw F (iList F.K te) δ PI :=
  iw_list (E.freeze (h.mono fun r δ1 ⟨p, ds, h1, h2, h3⟩ => ⟨p, ds, h1, h2, ds, rfl, h3⟩))

/-! ### isinstance of frozen data, built-in classes -/
def tyN : PyData → String
  | .none => "NoneType"
  | .bool _ => "bool"
  | .int _ => "int"
  | .str _ => "str"
  | .list _ => "list"
  | .tuple _ => "tuple"
  | .dict _ => "dict"
theorem dp_ty {d : PyData} (e : Ex G H) (h : Dp K G v d) : TyX K H v (.type (tyN d)) := by
  cases h with
  | non => exact .base .non
  | bl b => exact .base (.bl b)
  | int i => exact .base (.int i)
  | str x => exact .base (.str x)
  | lst s a =>
    rcases ex_rd e s with q | ⟨o, q⟩
    · exact .base (.lst q)
    · exact .base (.frz q)
  | tup s a => exact .base (.tup (e _ _ s))
theorem ev_isi {n : String} (h : E F te δ fun r δ1 => ∃ d b, r = .fz d ∧ kitB (tyN d) n = some b ∧ P (.fz (.bool b)) δ1) : E F (tCB (rIsi F.K) (tCons te (tCons (tC (.ty n)) tNil))) δ P := fun τ ε G H σ Q s q =>
  h τ ε G H σ _ s fun x r δ1 G1 H1 ⟨d, b, hr, hb, k⟩ e1 s1 => by
    subst hr
    exact ⟨x, .ty n, _, _, b, rfl, .ty n, dp_ty s1.w.gh (fz_top s1), kit_ty hb, q _ _ δ1 G1 H1 k e1 (s1.pop.push rfl (.bl _))⟩
theorem ev_isi2 {m n : String} (h : E F te δ fun r δ1 => ∃ d b c, r = .fz d ∧ kitB (tyN d) m = some b ∧ kitB (tyN d) n = some c ∧ P (.fz (.bool (b || c))) δ1) : E F (tCB (rIsiT F.K) (tCons te (tCons (tTup (tCons (tC (.ty m)) (tCons (tC (.ty n)) tNil))) tNil))) δ P := fun τ ε G H σ Q s q =>
  h τ ε G H σ _ s fun x r δ1 G1 H1 ⟨d, b, c, hr, hb, hc, k⟩ e1 s1 => by
    subst hr
    refine ⟨by show 2 ≤ sizeLine; decide, fun p hp => ?_⟩
    have s2 := s1.newF (o := .tup [.ty m, .ty n]) hp
    refine ⟨x, p, [.ty m, .ty n], _, [.type m, .type n], b || c, rfl, upd_same, .cons (.ty m) (.cons (.ty n) .nil), dp_ty s2.w.gh (fz_top s2), ?_, q _ _ δ1 _ _ k (Ex.trans e1 (Ex.new (s1.w.gnone hp))) (s2.pop.push rfl (.bl _))⟩
    refine kitAny_cons (kit_ty hb) (fun z => ?_) (fun z => by rw [z]; rfl)
    refine kitAny_cons (r := b || c) (kit_ty hc) (fun z2 => ?_) (fun z2 => by rw [z2]; simp)
    rw [z, z2]
    exact kitAny_nil
end
end SL

namespace L2
theorem Room.u1 {k : Nat} {A : PySem.Around} (r : Room k A) : A.units + 1 < PySem.cLine := by have := r.un; omega
end L2
namespace SL
open PySem L2 Evl
section
variable {K : PySem.W.Frag} {F F' : Fm} {G G' H H' : Hp} {τ σ : List (Option V)} {ε δ : List SD} {v x : V} {P : PV} {te ta tb td ty tv : TE} {tt tu : TT} {ts tw : TS} {D : Ends} {N : St → Hp → Prop} {g : TG} {PT : Bool → List SD → Prop} {tr : TA} {r ra rb : SD} {ds es : List PyData}
theorem three_of {vs : List V} {r r' r'' : SD} (e : vs.length = [r, r', r''].length) : ∃ x y z, vs = [x, y, z] := by
  match vs, e with
  | [x, y, z], _ => exact ⟨x, y, z, rfl⟩
theorem rn_par {i j : Nat} (h : EA F tr δ fun rs δ1 => ∃ r1 r2 o1 o2, rs = [r1, r2] ∧ δ1[i]? = some o1 ∧ (δ1.set i r1)[j]? = some o2 ∧ Nx F D.nx ((δ1.set i r1).set j r2)) : Rn F (tPar i j tr) δ D := fun G H σ s =>
  h [] [] G H σ _ s fun vs rs δ1 G1 H1 ⟨r1, r2, o1, o2, hr, h1, h2, k⟩ e1 el s1 => by
    subst hr
    obtain ⟨x, y, rfl⟩ := two_of el
    exact ⟨x, y, rfl, k G1 H1 _ ((S2.store (S2.store s1 h1) h2))⟩
theorem rn_par3 {i j l : Nat} (h : EA F tr δ fun rs δ1 => ∃ r1 r2 r3 o1 o2 o3, rs = [r1, r2, r3] ∧ δ1[i]? = some o1 ∧ (δ1.set i r1)[j]? = some o2 ∧ ((δ1.set i r1).set j r2)[l]? = some o3 ∧ Nx F D.nx (((δ1.set i r1).set j r2).set l r3)) : Rn F (tPar3 i j l tr) δ D := fun G H σ s =>
  h [] [] G H σ _ s fun vs rs δ1 G1 H1 ⟨r1, r2, r3, o1, o2, o3, hr, h1, h2, h3, k⟩ e1 el s1 => by
    subst hr
    obtain ⟨x, y, z, rfl⟩ := three_of el
    exact ⟨x, y, z, rfl, k G1 H1 _ (S2.store (S2.store (S2.store s1 h1) h2) h3)⟩
/-- range(n) as data -/
def rgD (n : Nat) : List PyData := (List.range n).map fun i => .int (i : Nat)
theorem dpAll_rg (a b : Int) (n : Nat) (ha : a = 0) (hb : b = (n : Int)) : DpAll K G (rgV a b) (rgD n) := by
  subst ha hb
  have : rgV 0 (n : Int) = (List.range n).map fun i => V.int (i : Nat) := by
    unfold rgV
    simp
  rw [this]
  unfold rgD
  generalize List.range n = l
  induction l with
  | nil => exact .nil
  | cons c r ih => exact .cons (.int _) ih
theorem ev_tupRg {te : TE} (h : E F te δ fun r δ1 => ∃ n : Nat, r = .fz (.int (n : Int)) ∧ n < 100000 ∧ P (.fz (.tuple (rgD n))) δ1) : E F (tTupRg (tRg1 te)) δ P := fun τ ε G H σ Q s q =>
  h τ ε G H σ _ s fun x r δ1 G1 H1 ⟨n, hr, hn, k⟩ e1 s1 => by
    subst hr
    obtain rfl := dp_int (fz_top s1)
    refine ⟨(n : Int), rfl, ⟨by omega, by omega, by omega, by omega, ?_⟩, fun p hp => ?_⟩
    · refine Nat.le_trans (show _ ≤ 100000 by omega) (by decide)
    have ex := Ex.new (o := .tup (rgV 0 (n : Int))) (s1.w.gnone hp)
    exact q _ _ δ1 _ _ k (Ex.trans e1 ex) ((s1.pop.newF hp).push rfl (Dp.tup upd_same (dpAll_rg 0 _ n rfl rfl)))
theorem ev_listRg {te : TE} (h : E F te δ fun r δ1 => ∃ n : Nat, r = .fz (.int (n : Int)) ∧ n < 100000 ∧ ∀ p, p ∉ F.io → P (.ol p (rgD n)) δ1) : E F (tLstRg (tRg1 te)) δ P := fun τ ε G H σ Q s q =>
  h τ ε G H σ _ s fun x r δ1 G1 H1 ⟨n, hr, hn, k⟩ e1 s1 => by
    subst hr
    obtain rfl := dp_int (fz_top s1)
    refine ⟨(n : Int), rfl, ⟨by omega, by omega, by omega, by omega, ?_⟩, fun p hp => ?_⟩
    · refine Nat.le_trans (show _ ≤ 100000 by omega) (by decide)
    exact q _ _ δ1 _ _ (k p (s1.fresh_io hp)) e1 (s1.pop.newO hp rfl ⟨rfl, _, upd_same, dpAll_rg 0 _ n rfl rfl⟩)
theorem rn_setDT (h : E F tv δ fun r δ1 => ∃ d, r = .fz d ∧ E F td δ1 fun r2 δ2 => ∃ p, r2 = .al p ∧ E F ty δ2 fun r3 δ3 => ∃ (k : List Key) (j : Nat) (kvs : List (List Key × PyData)), r3 = .fz (.tuple (k.map keyD)) ∧ δ3[j]? = some (.ot p kvs) ∧ kvs.length < 100000 ∧ Nx F D.nx (δ3.set j (.ot p (dput kvs k d)))) :
    Rn F (tAsg tv (gSub td ty rSetD)) δ D := by
  intro G H σ s
  have := rn_dputT h G H σ s
  unfold sDPut at this
  unfold tAsg gSub rSetD
  exact this
end
end SL

namespace L2
open PySem PySem.Spec PyProof.Rows PySem.SeqAt PySem.P3
/-- xs.count(d), by data -/
def rCntD (K : PySem.W.Frag) : V → List V → Hp → VK → Prop := fun x xs H Q => ∃ (p : Addr) (y : V) (vs : List V) (ds : List PyData) (d : PyData), x = .ref p ∧ xs = [y] ∧ SqL K H p vs ∧ L2.DpAll K H vs ds ∧ L2.Dp K H y d ∧
  PyData.canLayAll0 ds = true ∧ d.canLay0 = true ∧ d.depth ≤ 60 ∧ Q (.int (ds.countP (fun e => PyData.eqv e d) : Nat)) H
theorem mt_lcountD {X : Cx} (K : PySem.W.Frag) (hu : X.A.units + 64 < cLine) (hK : X.K = K := by rfl) : MtR X "list.count" (rCntD K) := by
  subst hK
  intro pins s σ H x xs v us Q I rx rxs h
  obtain ⟨p, y, vs, ds, d, rfl, rfl, hs, hds, hd, c1, c2, hdep, q⟩ := h
  cases rx
  obtain ⟨u, rfl, ru⟩ := rxs.one
  obtain ⟨its, rv, ⟨⟨cls, dd, data, sl⟩, n, ho, hc, hdn, hdat⟩, hlen⟩ := I.list hs
  simp only at hc hdat
  subst hc hdat
  obtain ⟨as, r1⟩ := Dp.readsAll I ds vs its hds rv
  obtain ⟨bs, r2⟩ := Dp.reads I d y u hd ru
  refine call_meets PySem.F.slot_list_count ⟨_, ho, rfl⟩ PySem.F.entry_list_count (PySem.F.args_list_count_2 _ _)
    (SeqAt.list_countAt p its.toArray n dd sl u (fun y => PyData.eqv (readOf s.heap y) d)) ⟨ho, ?_, ?_⟩
  · exact items_eqAt (A := X.A) (vs := its.toArray) (xs := ds) (by simpa using r1) r2 c1 c2 (by
      have := Nat.min_le_right (PyData.depthAll ds) d.depth
      omega)
  · have ec : its.toArray.toList.countP (fun y => PyData.eqv (readOf s.heap y) d) = ds.countP (fun e => PyData.eqv e d) := by
      rw [← readsAll_map ds _ _ c1 r1, List.countP_map]
      rfl
    refine ⟨.int (ds.countP (fun e => PyData.eqv e d) : Nat), H, I.tok _, ⟨s.toks, ?_⟩, q⟩
    show Value.int ((its.toArray.toList.countP (fun y => PyData.eqv (readOf s.heap y) d) : Nat) : Int) s.toks = _
    rw [ec]
end L2
namespace SL
open PySem L2 Evl
section
variable {K : PySem.W.Frag} {F F' : Fm} {G G' H H' : Hp} {τ σ : List (Option V)} {ε δ : List SD} {v x : V} {P : PV} {te ta tb td ty tv : TE} {r ra rb : SD} {ds es : List PyData}
/-- xs.count(e) -/
theorem ev_count (h : E F ta δ fun r δ1 => ∃ ds0, LSrc δ1 r ds0 ∧ E F te δ1 fun r2 δ2 => ∃ d ds, r2 = .fz d ∧ LSrc δ2 r ds ∧ PyData.canLayAll0 ds = true ∧ d.canLay0 = true ∧ d.depth ≤ 60 ∧ P (.fz (.int (ds.countP (fun e => PyData.eqv e d) : Nat))) δ2) :
    E F (tBM F.K "list" (rCntD F.K) ta (tCons te tNil)) δ P := fun τ ε G H σ Q s q =>
  h τ ε G H σ _ s fun x r δ1 G1 H1 ⟨ds0, hl, h1⟩ e1 s1 => by
    obtain ⟨a, xs, rfl, sq, da⟩ := s1.lsrc s1.top hl
    refine ⟨.inl ⟨rfl, xs, sq⟩, ?_⟩
    refine h1 _ _ G1 H1 σ _ s1 fun y r2 δ2 G2 H2 ⟨d, ds, hr, hl2, c1, c2, c3, k⟩ e2 s2 => ?_
    subst hr
    obtain ⟨a2, ys, ha, sq2, db⟩ := s2.pop.lsrc s2.pop.top hl2
    cases ha
    refine ⟨a, y, ys, ds, d, rfl, rfl, sq2, dpAllTo _ _ (dpAllMono s2.w.gh _ _ db), dpTo _ _ (dpMono s2.w.gh _ _ (fz_top s2)), c1, c2, c3, ?_⟩
    exact q _ _ δ2 G2 H2 k (Ex.trans e1 e2) (s2.pop2.push rfl (.int _))
end
/-! ### shapes of data -/
theorem lay_all : ∀ (ds : List PyData), (∀ d ∈ ds, d.canLay0 = true) → PyData.canLayAll0 ds = true
  | [], _ => by simp [PyData.canLayAll0]
  | d :: ds, h => by
    have h1 := h d (by simp)
    have h2 := lay_all ds fun e he => h e (by simp [he])
    simp [PyData.canLayAll0, h1, h2]
theorem dep_all {k : Nat} : ∀ (ds : List PyData), (∀ d ∈ ds, d.depth ≤ k) → PyData.depthAll ds ≤ k
  | [], _ => by simp [PyData.depthAll]
  | d :: ds, h => by
    have h1 := h d (by simp)
    have h2 := dep_all ds fun e he => h e (by simp [he])
    simp only [PyData.depthAll]
    omega
theorem lay_list {ds : List PyData} (h : ∀ d ∈ ds, d.canLay0 = true) : (PyData.list ds).canLay0 = true := by
  simp [PyData.canLay0, lay_all ds h]
theorem lay_tup {ds : List PyData} (h : ∀ d ∈ ds, d.canLay0 = true) : (PyData.tuple ds).canLay0 = true := by
  simp [PyData.canLay0, lay_all ds h]
theorem dep_list {k : Nat} {ds : List PyData} (h : ∀ d ∈ ds, d.depth ≤ k) : (PyData.list ds).depth ≤ k + 1 := by
  have := dep_all ds h
  simp only [PyData.depth]
  omega
theorem dep_tup {k : Nat} {ds : List PyData} (h : ∀ d ∈ ds, d.depth ≤ k) : (PyData.tuple ds).depth ≤ k + 1 := by
  have := dep_all ds h
  simp only [PyData.depth]
  omega
theorem shaped_of {d : PyData} (h1 : d.canLay0 = true) (h2 : d.depth ≤ 60) : SeqAt.shaped d = true := by
  unfold SeqAt.shaped
  rw [h1]
  simp
  omega
theorem lay_int (i : Int) : (PyData.int i).canLay0 = true := by simp [PyData.canLay0]
theorem dep_int (i : Int) : (PyData.int i).depth ≤ 0 := by simp [PyData.depth]
/-- equal data of one shape are one -/
theorem eqv_ints : ∀ (xs ys : List Int), PyData.eqvAll (xs.map PyData.int) (ys.map PyData.int) = decide (xs = ys)
  | [], [] => by simp [PyData.eqvAll]
  | [], _ :: _ => by simp [PyData.eqvAll]
  | _ :: _, [] => by simp [PyData.eqvAll]
  | x :: xs, y :: ys => by
    have ih := eqv_ints xs ys
    simp only [List.map_cons, PyData.eqvAll, PyData.eqv, ih]
    by_cases h : x = y
    · subst h; simp
    · simp [h]
theorem eqv_tupI (xs ys : List Int) : PyData.eqv (.tuple (xs.map PyData.int)) (.tuple (ys.map PyData.int)) = decide (xs = ys) := by
  simp only [PyData.eqv, eqv_ints]
theorem eqv_lstI (xs ys : List Int) : PyData.eqv (.list (xs.map PyData.int)) (.list (ys.map PyData.int)) = decide (xs = ys) := by
  simp only [PyData.eqv, eqv_ints]
end SL

/-! instances: fields that are frozen, or names of owned dicts. -/
namespace SL
open PySem L2 Evl
inductive FS (K : PySem.W.Frag) (G : Hp) : List (Str × V) → List (Str × SD) → Prop
  | nil : FS K G [] []
  | fz {f : Str} {v : V} {d : PyData} {xs : List (Str × V)} {fs : List (Str × SD)} : Dp K G v d → FS K G xs fs → FS K G ((f, v) :: xs) ((f, .fz d) :: fs)
  | al {f : Str} {q : Addr} {xs : List (Str × V)} {fs : List (Str × SD)} : FS K G xs fs → FS K G ((f, .ref q) :: xs) ((f, .al q) :: fs)
def putS (f : Str) (v : SD) : List (Str × SD) → List (Str × SD)
  | [] => [(f, v)]
  | (g, x) :: r => if g = f then (g, v) :: r else (g, x) :: putS f v r
section
variable {K : PySem.W.Frag} {G G' : Hp} {f : Str}
theorem FS.mono (e : Ex G G') : ∀ {xs : List (Str × V)} {fs : List (Str × SD)}, FS K G xs fs → FS K G' xs fs
  | _, _, .nil => .nil
  | _, _, .fz a b => .fz (dpMono e _ _ a) (FS.mono e b)
  | _, _, .al b => .al (FS.mono e b)
theorem FS.len : ∀ {xs : List (Str × V)} {fs : List (Str × SD)}, FS K G xs fs → xs.length = fs.length
  | _, _, .nil => rfl
  | _, _, .fz _ b => by simp [FS.len b]
  | _, _, .al b => by simp [FS.len b]
theorem FS.none : ∀ {xs : List (Str × V)} {fs : List (Str × SD)}, FS K G xs fs → fs.lookup f = none → xs.lookup f = none
  | _, _, .nil, _ => rfl
  | _, _, .fz (f := g) _ b, e => by
    rw [List.lookup_cons] at e ⊢
    cases h : f == g with
    | true => rw [h] at e; cases e
    | false => rw [h] at e; exact FS.none b e
  | _, _, .al (f := g) b, e => by
    rw [List.lookup_cons] at e ⊢
    cases h : f == g with
    | true => rw [h] at e; cases e
    | false => rw [h] at e; exact FS.none b e
theorem FS.someZ {d : PyData} : ∀ {xs : List (Str × V)} {fs : List (Str × SD)}, FS K G xs fs → fs.lookup f = some (.fz d) → ∃ v, xs.lookup f = some v ∧ Dp K G v d
  | _, _, .nil, e => by cases e
  | _, _, .fz (f := g) a b, e => by
    rw [List.lookup_cons] at e
    rw [List.lookup_cons]
    cases h : f == g with
    | true => rw [h] at e; cases e; exact ⟨_, rfl, a⟩
    | false => rw [h] at e; exact FS.someZ b e
  | _, _, .al (f := g) b, e => by
    rw [List.lookup_cons] at e
    rw [List.lookup_cons]
    cases h : f == g with
    | true => rw [h] at e; cases e
    | false => rw [h] at e; exact FS.someZ b e
theorem FS.someA {q : Addr} : ∀ {xs : List (Str × V)} {fs : List (Str × SD)}, FS K G xs fs → fs.lookup f = some (.al q) → xs.lookup f = some (.ref q)
  | _, _, .nil, e => by cases e
  | _, _, .fz (f := g) a b, e => by
    rw [List.lookup_cons] at e ⊢
    cases h : f == g with
    | true => rw [h] at e; cases e
    | false => rw [h] at e; exact FS.someA b e
  | _, _, .al (f := g) b, e => by
    rw [List.lookup_cons] at e ⊢
    cases h : f == g with
    | true => rw [h] at e; cases e; rfl
    | false => rw [h] at e; exact FS.someA b e
theorem FS.putZ {v : V} {d : PyData} (h : Dp K G v d) : ∀ {xs : List (Str × V)} {fs : List (Str × SD)}, FS K G xs fs → FS K G (putF f v xs) (putS f (.fz d) fs)
  | _, _, .nil => .fz h .nil
  | _, _, .fz (f := g) a b => by
    unfold putF putS
    by_cases e : g = f
    · rw [if_pos e, if_pos e]; exact .fz h b
    · rw [if_neg e, if_neg e]; exact .fz a (FS.putZ h b)
  | _, _, .al (f := g) b => by
    unfold putF putS
    by_cases e : g = f
    · rw [if_pos e, if_pos e]; exact .fz h b
    · rw [if_neg e, if_neg e]; exact .al (FS.putZ h b)
theorem FS.putA {q : Addr} : ∀ {xs : List (Str × V)} {fs : List (Str × SD)}, FS K G xs fs → FS K G (putF f (.ref q) xs) (putS f (.al q) fs)
  | _, _, .nil => .al .nil
  | _, _, .fz (f := g) a b => by
    unfold putF putS
    by_cases e : g = f
    · rw [if_pos e, if_pos e]; exact .al b
    · rw [if_neg e, if_neg e]; exact .fz a (FS.putA b)
  | _, _, .al (f := g) b => by
    unfold putF putS
    by_cases e : g = f
    · rw [if_pos e, if_pos e]; exact .al b
    · rw [if_neg e, if_neg e]; exact .al (FS.putA b)
end
/-- what is known of an own dict -/
structure DD where
  ok : Hp → HO → Prop
  mono : ∀ {G G' : Hp} {o : HO}, Ex G G' → ok G o → ok G' o
/-- a dict of numbers and texts -/
def kD (K : PySem.W.Frag) (kvs : List (Key × PyData)) : DD where
  ok := fun G o => ∃ ys, o = .dK ys ∧ KD K G ys kvs
  mono := fun e ⟨ys, h1, h2⟩ => ⟨ys, h1, h2.mono e⟩
/-- an instance: its class, its fields, its own dicts -/
def insO (K : PySem.W.Frag) (p dx C : Addr) (fs : List (Str × SD)) (m : List (Addr × DD)) : Ow where
  fp := p :: dx :: m.map (·.1)
  R := fun G H v => v = .ref p ∧ H dx = some (.own p) ∧ (∃ xs, H p = some (.ins C dx xs) ∧ FS K G xs fs) ∧ ∀ x ∈ m, ∃ o, H x.1 = some o ∧ x.2.ok G o
  loc := fun {G G' H H' v} e k ⟨h1, h2, ⟨xs, h3, h4⟩, h5⟩ => by
    refine ⟨h1, by rw [k dx (by simp)]; exact h2, ⟨xs, by rw [k p (by simp)]; exact h3, h4.mono e⟩, fun x hx => ?_⟩
    obtain ⟨ys, h6, h7⟩ := h5 x hx
    exact ⟨ys, by rw [k x.1 (by simp only [List.mem_cons]; exact .inr (.inr (List.mem_map_of_mem hx)))]; exact h6, x.2.mono e h7⟩
section
variable {K : PySem.W.Frag} {F F' : Fm} {G G' H H' : Hp} {τ σ : List (Option V)} {ε δ : List SD} {v x : V} {P : PV} {te ta tb td ty tv : TE} {tt tu : TT} {ts tw : TS} {D : Ends} {N : St → Hp → Prop} {g : TG} {PT : Bool → List SD → Prop} {tr : TA} {r ra rb : SD} {ds es : List PyData}
  {p dx C q : Addr} {fs : List (Str × SD)} {m : List (Addr × DD)} {f : Str} {j : Nat}
theorem S2.ins_at (s : S2 F G H τ ε σ δ) (hj : δ[j]? = some (.ow (insO F.K p dx C fs m))) : σ[j]? = some (some (.ref p)) ∧ H dx = some (.own p) ∧ (∃ xs, H p = some (.ins C dx xs) ∧ FS F.K G xs fs) ∧ ∀ x ∈ m, ∃ o, H x.1 = some o ∧ x.2.ok G o := by
  obtain ⟨ov, e, ok⟩ := s.slot hj
  obtain ⟨w, rfl⟩ := sd_some (by intro z; cases z) ok
  obtain ⟨rfl, h⟩ := ok
  exact ⟨e, h⟩
theorem ev_oi {i : Nat} (h : δ[i]? = some (.ow (insO F.K p dx C fs m))) (k : P (.al p) δ) : E F (tVar i) δ P := fun τ ε G H σ Q s q => by
  obtain ⟨e, _⟩ := s.ins_at h
  exact ⟨_, e, q _ _ δ G H k (Ex.refl _) (s.push (sd := .al p) rfl rfl)⟩
/-- the object of a slot's is changed at one address -/
theorem S2.mutG {o : HO} {a : Addr} {old new : SD} (h : S2 F G H τ ε σ δ) (e : δ[j]? = some old) (ha : a ∈ old.fp) (hf : new.fp = old.fp) (hok : ∀ ov, σ[j]? = some ov → SD.ok F.K G (upd H a o) ov new) : S2 F G (upd H a o) τ ε σ (δ.set j new) := by
  obtain ⟨l, q1, q2⟩ := fps_set_perm (s' := new) e
  rw [hf] at q2
  have hp : a ∈ fps δ := q1.mem_iff.mpr (List.mem_append_left _ ha)
  have wm := h.w.mut (o := o) (List.mem_append_right (fps ε) hp)
  have n := List.nodup_append.mp h.w.nd
  refine ⟨wm.perm ((List.Perm.append_left (fps ε) (q2.trans q1.symm))), oks_mono (Ex.refl _) (fun b hb => upd_ne fun z => n.2.2 b hb a hp z) h.t, ?_⟩
  exact oks_mut h.s n.2.1 e (fun b _ hb => upd_ne fun z => hb (z ▸ ha)) hok
/-- e.f, a frozen field -/
theorem ev_fldZ (h : E F ta δ fun r δ1 => ∃ (p dx C : Addr) (fs : List (Str × SD)) (m : List (Addr × DD)) (j : Nat) (d : PyData), r = .al p ∧ δ1[j]? = some (.ow (insO F.K p dx C fs m)) ∧ Cls F.K C ∧ NoAttr F.K C f ∧ fs.lookup f = some (.fz d) ∧ P (.fz d) δ1) : E F (tFld F.K ta f) δ P := fun τ ε G H σ Q s q =>
  h τ ε G H σ _ s fun x r δ1 G1 H1 ⟨p, dx, C, fs, m, j, d, hr, hj, c, n, l, k⟩ e1 s1 => by
    subst hr
    have hx : x = .ref p := s1.top
    subst hx
    obtain ⟨_, _, ⟨xs, h3, h4⟩, _⟩ := s1.ins_at hj
    obtain ⟨v, h5, h6⟩ := FS.someZ h4 l
    exact ⟨p, C, dx, xs, v, rfl, h3, c, n, h5, q _ _ δ1 G1 H1 k e1 (s1.pop.push rfl h6)⟩
/-- e.f, a field that names an owned dict -/
theorem ev_fldA (h : E F ta δ fun r δ1 => ∃ (p dx C : Addr) (fs : List (Str × SD)) (m : List (Addr × DD)) (j : Nat) (a : Addr), r = .al p ∧ δ1[j]? = some (.ow (insO F.K p dx C fs m)) ∧ Cls F.K C ∧ NoAttr F.K C f ∧ fs.lookup f = some (.al a) ∧ P (.al a) δ1) : E F (tFld F.K ta f) δ P := fun τ ε G H σ Q s q =>
  h τ ε G H σ _ s fun x r δ1 G1 H1 ⟨p, dx, C, fs, m, j, a, hr, hj, c, n, l, k⟩ e1 s1 => by
    subst hr
    have hx : x = .ref p := s1.top
    subst hx
    obtain ⟨_, _, ⟨xs, h3, h4⟩, _⟩ := s1.ins_at hj
    exact ⟨p, C, dx, xs, _, rfl, h3, c, n, FS.someA h4 l, q _ _ δ1 G1 H1 k e1 (s1.pop.push (sd := .al a) rfl rfl)⟩
theorem ins_nd (s : S2 F G H τ ε σ δ) (hj : δ[j]? = some (.ow (insO F.K p dx C fs m))) : (p :: dx :: m.map (·.1)).Nodup := by
  obtain ⟨l, q1, _⟩ := fps_set_perm (s' := SD.no) hj
  have n := (List.nodup_append.mp s.w.nd).2.1
  have n2 := q1.nodup_iff.mp n
  exact (List.nodup_append.mp n2).1
theorem ins_upd {xs : List (Str × V)} {fs' : List (Str × SD)} (nd : (p :: dx :: m.map (·.1)).Nodup) (h2 : H dx = some (.own p)) (h5 : ∀ x ∈ m, ∃ o, H x.1 = some o ∧ x.2.ok G o) (hf : FS K G xs fs') : (insO K p dx C fs' m).R G (upd H p (.ins C dx xs)) (.ref p) := by
  have n1 := List.nodup_cons.mp nd
  refine ⟨rfl, ?_, ⟨xs, upd_same, hf⟩, fun x hx => ?_⟩
  · rw [upd_ne (fun z => n1.1 (by rw [z]; simp))]; exact h2
  · obtain ⟨ys, h6, h7⟩ := h5 x hx
    exact ⟨ys, by rw [upd_ne (fun z => n1.1 (by rw [← z]; exact List.mem_cons_of_mem _ (List.mem_map_of_mem hx)))]; exact h6, h7⟩
/-- e.f = value, frozen -/
theorem rn_fldZ (h : E F tv δ fun r δ1 => ∃ d, r = .fz d ∧ E F ta δ1 fun r2 δ2 => ∃ (p dx C : Addr) (fs : List (Str × SD)) (m : List (Addr × DD)) (j : Nat), r2 = .al p ∧ δ2[j]? = some (.ow (insO F.K p dx C fs m)) ∧ Cls F.K C ∧ NoAttr F.K C f ∧ fs.length < 1000 ∧ Nx F D.nx (δ2.set j (.ow (insO F.K p dx C (putS f (.fz d) fs) m)))) :
    Rn F (sFld F.K ta tv f) δ D := fun G H σ s => h [] [] G H σ _ s fun v r δ1 G1 H1 ⟨d, hr, h1⟩ _ s1 => by
  subst hr
  refine h1 _ _ G1 H1 σ _ s1 fun o r2 δ2 G2 H2 ⟨p, dx, C, fs, m, j, hr2, hj, c, n, hl, nx⟩ e2 s2 => ?_
  subst hr2
  have ho : o = .ref p := s2.top
  subst ho
  have hv := fz_top s2.pop
  obtain ⟨e3, h2, ⟨xs, h3, h4⟩, h5⟩ := s2.ins_at hj
  refine ⟨p, C, dx, xs, rfl, h3, c, n, by rw [FS.len h4]; exact hl, ?_⟩
  refine nx G2 _ σ (s2.pop.pop.mutG (new := .ow (insO F.K p dx C (putS f (.fz d) fs) m)) hj (by show p ∈ _; simp [SD.fp, insO]) rfl fun ov e => ?_)
  rw [e3] at e
  cases e
  exact ins_upd (ins_nd s2 hj) h2 h5 (FS.putZ hv h4)
/-- e.f = a dict on the stack, the instance's own from now on -/
theorem rn_fldD (h : E F tv δ fun r δ1 => ∃ q kvs, r = .od q kvs ∧ E F ta δ1 fun r2 δ2 => ∃ (p dx C : Addr) (fs : List (Str × SD)) (m : List (Addr × DD)) (j : Nat), r2 = .al p ∧ δ2[j]? = some (.ow (insO F.K p dx C fs m)) ∧ Cls F.K C ∧ NoAttr F.K C f ∧ fs.length < 1000 ∧ Nx F D.nx (δ2.set j (.ow (insO F.K p dx C (putS f (.al q) fs) (m ++ [(q, kD F.K kvs)]))))) :
    Rn F (sFld F.K ta tv f) δ D := fun G H σ s => h [] [] G H σ _ s fun v r δ1 G1 H1 ⟨q, kvs, hr, h1⟩ _ s1 => by
  subst hr
  refine h1 _ _ G1 H1 σ _ s1 fun o r2 δ2 G2 H2 ⟨p, dx, C, fs, m, j, hr2, hj, c, n, hl, nx⟩ e2 s2 => ?_
  subst hr2
  have ho : o = .ref p := s2.top
  subst ho
  have s3 := s2.pop
  obtain ⟨hv, ys, hys, hkd⟩ := s3.top
  have hv' : v = .ref q := hv
  subst hv'
  obtain ⟨e3, h2, ⟨xs, h3, h4⟩, h5⟩ := s3.ins_at hj
  refine ⟨p, C, dx, xs, rfl, h3, c, n, by rw [FS.len h4]; exact hl, ?_⟩
  -- the dict's address goes to the slot
  obtain ⟨l, q1, q2⟩ := fps_set_perm (s' := SD.ow (insO F.K p dx C (putS f (.al q) fs) (m ++ [(q, kD F.K kvs)]))) hj
  have w3 : Wd F G2 H2 (q :: fps δ2) := s3.w
  have f1 : (SD.ow (insO F.K p dx C fs m)).fp = p :: dx :: m.map (·.1) := rfl
  have f2 : (SD.ow (insO F.K p dx C (putS f (.al q) fs) (m ++ [(q, kD F.K kvs)]))).fp = p :: dx :: (m.map (·.1) ++ [q]) := by
    show p :: dx :: (m ++ [(q, kD F.K kvs)]).map (·.1) = _
    rw [List.map_append]; rfl
  rw [f1] at q1
  rw [f2] at q2
  have w4 : Wd F G2 H2 ((p :: dx :: (m.map (·.1) ++ [q])) ++ l) := w3.perm (by
    refine List.Perm.trans ?_ (List.Perm.cons q q1.symm)
    have : (p :: dx :: (m.map (·.1) ++ [q])) ++ l = (p :: dx :: m.map (·.1)) ++ (q :: l) := by simp
    rw [this]
    exact List.perm_middle)
  have nd := w4.nd
  have nd2 : (p :: dx :: (m.map (·.1) ++ [q])).Nodup := (List.nodup_append.mp nd).1
  have wm := w4.mut (o := .ins C dx (putF f (.ref q) xs)) (p := p) (by simp)
  have n1 := List.nodup_cons.mp nd2
  refine nx G2 _ σ ⟨wm.perm q2, trivial, ?_⟩
  have n3 : (q :: fps δ2).Nodup := w3.nd
  refine oks_mut (old := .ow (insO F.K p dx C fs m)) s3.s (List.nodup_cons.mp n3).2 hj (fun b _ hb => upd_ne fun z => hb (by rw [z, f1]; simp)) fun ov e => ?_
  rw [e3] at e
  cases e
  refine ⟨rfl, ?_, ⟨_, upd_same, FS.putA h4⟩, fun x hx => ?_⟩
  · rw [upd_ne (fun z => n1.1 (by rw [z]; simp))]; exact h2
  · rcases List.mem_append.mp hx with hx | hx
    · obtain ⟨zs, h6, h7⟩ := h5 x hx
      exact ⟨zs, by rw [upd_ne (fun z => n1.1 (by rw [← z]; exact List.mem_cons_of_mem _ (List.mem_append_left _ (List.mem_map_of_mem hx))))]; exact h6, h7⟩
    · have : x = (q, kD F.K kvs) := by simpa using hx
      subst this
      exact ⟨.dK ys, by rw [upd_ne (fun z => n1.1 (by rw [← z]; simp))]; exact hys, ys, rfl, hkd⟩
/-- {} as an owned dict of numbers and texts -/
theorem ev_dnewK (k : ∀ p, p ∉ F.io → P (.od p []) δ) : E F tDNewK δ P := fun τ ε G H σ Q s q => fun p hp =>
  q _ _ δ G _ (k p (s.fresh_io hp)) (Ex.refl _) (s.newO hp rfl ⟨rfl, [], upd_same, .nil⟩)
/-- where a dict of numbers and texts stands -/
inductive DSrc (K : PySem.W.Frag) (δ : List SD) : Addr → List (Key × PyData) → Prop
  | od {q : Addr} {kvs : List (Key × PyData)} (j : Nat) : δ[j]? = some (.od q kvs) → DSrc K δ q kvs
  | ins {q p dx C : Addr} {fs : List (Str × SD)} {m : List (Addr × DD)} {kvs : List (Key × PyData)} (j : Nat) : δ[j]? = some (.ow (insO K p dx C fs m)) → (q, kD K kvs) ∈ m → DSrc K δ q kvs
theorem S2.dsrc {kvs : List (Key × PyData)} (s : S2 F G H τ ε σ δ) (h : DSrc F.K δ q kvs) : ∃ ys, H q = some (.dK ys) ∧ KD F.K G ys kvs := by
  cases h with
  | od j hj =>
    obtain ⟨ov, e, ok⟩ := s.slot hj
    obtain ⟨w, rfl⟩ := sd_some (by intro z; cases z) ok
    exact ok.2
  | ins j hj hm =>
    obtain ⟨o, h1, ys, rfl, h2⟩ := (s.ins_at hj).2.2.2 _ hm
    exact ⟨ys, h1, h2⟩
theorem ev_dnotinK (h : E F ty δ fun r δ1 => ∃ k : Key, r = .fz (keyD k) ∧ E F td δ1 fun r2 δ2 => ∃ (q : Addr) (kvs : List (Key × PyData)), r2 = .al q ∧ DSrc F.K δ2 q kvs ∧ P (.fz (.bool (!(dlook kvs k).isSome))) δ2) : E F (tDNotIn ty td) δ P := fun τ ε G H σ Q s q =>
  h τ ε G H σ _ s fun y r δ1 G1 H1 ⟨k, hr, h1⟩ e1 s1 => by
    subst hr
    have hy := fz_top s1
    refine h1 _ _ G1 H1 σ _ s1 fun x r2 δ2 G2 H2 ⟨p, kvs, hr2, hj, k2⟩ e2 s2 => ?_
    subst hr2
    have hx : x = .ref p := s2.top
    subst hx
    obtain rfl := dp_key hy
    obtain ⟨xs, hxs, kd⟩ := s2.dsrc hj
    refine ⟨p, _, rfl, DGet.k hxs, ?_⟩
    have e : (valV xs k).isSome = (dlook kvs k).isSome := by
      cases q1 : dlook kvs k with
      | none => rw [KD.none kd q1]; rfl
      | some d => obtain ⟨v, hv, _⟩ := KD.some kd q1; rw [hv]; rfl
    rw [e]
    exact q _ _ δ2 G2 H2 k2 (Ex.trans e1 e2) (s2.pop2.push rfl (.bl _))
theorem ev_dgetK (h : E F td δ fun r δ1 => ∃ p, r = .al p ∧ E F ty δ1 fun r2 δ2 => ∃ (k : Key) (kvs : List (Key × PyData)) (d : PyData), r2 = .fz (keyD k) ∧ DSrc F.K δ2 p kvs ∧ dlook kvs k = some d ∧ P (.fz d) δ2) : E F (tDGet td ty) δ P := fun τ ε G H σ Q s q =>
  h τ ε G H σ _ s fun x r δ1 G1 H1 ⟨p, hr, h1⟩ e1 s1 => by
    subst hr
    have hx : x = .ref p := s1.top
    subst hx
    refine h1 _ _ G1 H1 σ _ s1 fun y r2 δ2 G2 H2 ⟨k, kvs, d, hr2, hj, hd, k2⟩ e2 s2 => ?_
    subst hr2
    obtain rfl := dp_key (fz_top s2)
    obtain ⟨xs, hxs, kd⟩ := s2.dsrc hj
    obtain ⟨v, hv, hdp⟩ := KD.some kd hd
    refine ⟨p, v, rfl, ?_, q _ _ δ2 G2 H2 k2 (Ex.trans e1 e2) (s2.pop2.push rfl hdp)⟩
    rw [← hv]
    exact DGet.k hxs
/-- d[k] = v, d the only own dict of the instance in slot j -/
theorem rn_setDI (h : E F tv δ fun r δ1 => ∃ d, r = .fz d ∧ E F td δ1 fun r2 δ2 => ∃ q, r2 = .al q ∧ E F ty δ2 fun r3 δ3 => ∃ (k : Key) (j : Nat) (p dx C : Addr) (fs : List (Str × SD)) (kvs : List (Key × PyData)), r3 = .fz (keyD k) ∧
      δ3[j]? = some (.ow (insO F.K p dx C fs [(q, kD F.K kvs)])) ∧ kvs.length < 100000 ∧ Nx F D.nx (δ3.set j (.ow (insO F.K p dx C fs [(q, kD F.K (dput kvs k d))])))) :
    Rn F (tAsg tv (gSub td ty rSetD)) δ D := fun G H σ s => h [] [] G H σ _ s fun v r δ1 G1 H1 ⟨d, hr, h1⟩ _ s1 => by
  subst hr
  refine h1 _ _ G1 H1 σ _ s1 fun x r2 δ2 G2 H2 ⟨q, hr2, h2⟩ e2 s2 => ?_
  subst hr2
  have hx : x = .ref q := s2.top
  subst hx
  refine h2 _ _ G2 H2 σ _ s2 fun y r3 δ3 G3 H3 ⟨k, j, p, dx, C, fs, kvs, hr3, hj, hl, nx⟩ e3 s3 => ?_
  subst hr3
  obtain rfl := dp_key (fz_top s3)
  obtain ⟨e4, g2, ⟨xs, g3, g4⟩, g5⟩ := s3.ins_at hj
  obtain ⟨_, hys, ys, rfl, kd⟩ := g5 (q, kD F.K kvs) (by simp)
  have hv := fz_top s3.pop.pop
  have hl' : ys.length = kvs.length := KD.len kd
  have nd := ins_nd s3 hj
  have n1 := List.nodup_cons.mp nd
  have n2 := List.nodup_cons.mp n1.2
  refine ⟨q, _, rfl, DPut.k hys (Nat.lt_of_lt_of_le (show ys.length < 100000 by omega) (by decide)), ?_⟩
  refine nx G3 _ σ (s3.pop.pop.pop.mutG (o := .dK (putK ys k v)) (new := .ow (insO F.K p dx C fs [(q, kD F.K (dput kvs k d))])) hj (by show q ∈ _; simp [SD.fp, insO]) rfl fun ov e => ?_)
  rw [e4] at e
  cases e
  refine ⟨rfl, ?_, ⟨xs, ?_, g4⟩, fun z hz => ?_⟩
  · rw [upd_ne (fun z => n2.1 (by rw [z]; simp))]; exact g2
  · rw [upd_ne (fun z => n1.1 (by rw [z]; simp))]; exact g3
  · have : z = (q, kD F.K (dput kvs k d)) := by simpa using hz
    subst this
    exact ⟨_, upd_same, _, rfl, KD.put hv kd⟩

/-! ### a def whose first argument is an owned thing -/
abbrev WO := SD → List PyData → (SD → SD → Prop) → Prop
def SpO (K : PySem.W.Frag) (W : WO) : Sp := fun vs H Q _ => ∃ G v0 ws r0 as post, vs = v0 :: ws ∧ Ex G H ∧ SD.ok K G H (some v0) r0 ∧ (∀ a ∈ r0.fp, G a = none ∧ ∃ o, H a = some o) ∧ r0.fp.Nodup ∧ DpAll K G ws as ∧ W r0 as post ∧
  ∀ r r1, post r r1 → (∀ a ∈ r0.fp, a ∈ r1.fp) → ∀ v G' H', S2 ⟨K, G, H, r0.fp⟩ G' H' [some v] [r] [some v0] [r1] → Q v H'
theorem S2.callO {G1 H1 : Hp} {r r0 r1 : SD} {v0 : V} (s : S2 F G H τ ε σ δ) (hj : δ[j]? = some r0) (hv : σ[j]? = some (some v0)) (c : S2 ⟨F.K, G, H, r0.fp⟩ G1 H1 [some v] [r] [some v0] [r1]) : S2 F G1 H1 (some v :: τ) (r :: ε) σ (δ.set j r1) := by
  have w := c.w
  have wf : fps [r] ++ fps [r1] = r.fp ++ r1.fp := by simp [fps]
  obtain ⟨l, q1, q2⟩ := fps_set_perm (s' := r1) hj
  have pd : (fps ε ++ fps δ).Perm (r0.fp ++ (fps ε ++ l)) := by
    refine (List.Perm.append_left (fps ε) q1).trans ?_
    rw [← List.append_assoc, ← List.append_assoc]
    exact List.Perm.append_right l List.perm_append_comm
  have pn : ((r.fp ++ fps ε) ++ fps (δ.set j r1)).Perm ((r.fp ++ r1.fp) ++ (fps ε ++ l)) := by
    refine (List.Perm.append_left _ q2).trans ?_
    rw [List.append_assoc, List.append_assoc]
    refine List.Perm.append_left _ ?_
    rw [← List.append_assoc, ← List.append_assoc]
    exact List.Perm.append_right l List.perm_append_comm
  have ndd := pd.nodup_iff.mp s.w.nd
  have nd3 := List.nodup_append.mp ndd
  have inD : ∀ a, a ∈ fps ε ++ l → a ∈ fps ε ++ fps δ := fun a ha => pd.mem_iff.mpr (List.mem_append_right _ ha)
  have in0 : ∀ a, a ∈ r0.fp → a ∈ fps ε ++ fps δ := fun a ha => pd.mem_iff.mpr (List.mem_append_left _ ha)
  have not0 : ∀ a, a ∈ fps ε ++ l → a ∉ r0.fp := fun a ha h0 => nd3.2.2 a h0 a ha rfl
  have hk : ∀ a ∈ fps ε ++ l, H1 a = H a := fun a ha => by
    obtain ⟨_, o, e⟩ := s.w.own a (inD a ha)
    rw [e]
    exact w.fr a o e (not0 a ha)
  have gnew : ∀ a ∈ fps ε ++ fps δ, G1 a = none := fun a ha => by
    obtain ⟨gn, o, e⟩ := s.w.own a ha
    cases z1 : G1 a with
    | none => rfl
    | some u =>
      rcases w.nw a u z1 with z | z
      · rw [show G a = some u from z] at gn; cases gn
      · rw [show H a = none from z] at e; cases e
  have orig : ∀ a ∈ r.fp ++ r1.fp, a ∈ r0.fp ∨ H a = none := fun a ha => w.of a (by rw [wf]; exact ha)
  refine ⟨⟨w.gh, ?_, ?_, Ex.trans s.w.g0 w.g0, ?_, ?_, ?_, ?_⟩, ⟨c.top, oks_mono w.g0 (fun a ha => hk a (List.mem_append_left _ ha)) s.t⟩, ?_⟩
  · intro a ha
    rcases List.mem_append.mp (pn.mem_iff.mp ha) with z | z
    · exact w.own a (by rw [wf]; exact z)
    · exact ⟨gnew a (inD a z), by rw [hk a z]; exact (s.w.own a (inD a z)).2⟩
  · refine pn.nodup_iff.mpr (List.nodup_append.mpr ⟨by have := w.nd; rw [wf] at this; exact this, nd3.2.1, fun a ha b hb e => ?_⟩)
    subst e
    rcases orig a ha with z | z
    · exact not0 a hb z
    · obtain ⟨_, o, e⟩ := s.w.own a (inD a hb)
      rw [z] at e; cases e
  · intro a o e hi
    refine w.fr a o (s.w.fr a o e hi) fun z => ?_
    rcases s.w.of a (in0 a z) with z2 | z2
    · exact hi z2
    · rw [z2] at e; cases e
  · intro a o e
    rcases w.nw a o e with z | z
    · exact s.w.nw a o z
    · exact .inr (s.w.h0none z)
  · intro a ha
    rcases List.mem_append.mp (pn.mem_iff.mp ha) with z | z
    · rcases orig a z with y | y
      · exact s.w.of a (in0 a y)
      · exact .inr (s.w.h0none y)
    · exact s.w.of a (inD a z)
  · intro a ha
    obtain ⟨o, e⟩ := s.w.io a ha
    by_cases z : a ∈ r0.fp
    · exact w.io a z
    · exact ⟨o, w.fr a o e z⟩
  · have s1 : Oks F.K G1 H σ δ := oks_mono w.g0 (fun _ _ => rfl) s.s
    refine oks_mut s1 (List.nodup_append.mp s.w.nd).2.1 hj (fun a hm ha => ?_) (fun ov e => ?_)
    · refine hk a ?_
      rcases List.mem_append.mp (pd.mem_iff.mp (List.mem_append_right (fps ε) hm)) with z | z
      · exact (ha z).elim
      · exact z
    · rw [hv] at e
      cases e
      exact c.s.1
/-- what S2 says of a slot, for a call -/
theorem S2.own_of {r0 : SD} (s : S2 F G H τ ε σ δ) (hj : δ[j]? = some r0) : (∀ a ∈ r0.fp, G a = none ∧ ∃ o, H a = some o) ∧ r0.fp.Nodup := by
  obtain ⟨l, q1, _⟩ := fps_set_perm (s' := SD.no) hj
  refine ⟨fun a ha => s.w.own a (List.mem_append_right _ (q1.mem_iff.mpr (List.mem_append_left _ ha))), ?_⟩
  have n := (List.nodup_append.mp s.w.nd).2.1
  exact (List.nodup_append.mp (q1.nodup_iff.mp n)).1
theorem new_io {G1 H1 : Hp} {r r0 r1 : SD} {v0 : V} (s : S2 F G H τ ε σ δ) (c : S2 ⟨F.K, G, H, r0.fp⟩ G1 H1 [some v] [r] [some v0] [r1]) (hs : ∀ a ∈ r0.fp, a ∈ r1.fp) : ∀ a ∈ r.fp, a ∉ F.io := fun a ha hi => by
  have wf : fps [r] ++ fps [r1] = r.fp ++ r1.fp := by simp [fps]
  obtain ⟨o, e⟩ := s.w.io a hi
  rcases c.w.of a (by rw [wf]; exact List.mem_append_left _ ha) with z | z
  · have nd := c.w.nd
    rw [wf] at nd
    exact (List.nodup_append.mp nd).2.2 a ha a (hs a z) rfl
  · rw [show H a = none from z] at e; cases e
/-- o.m(..), o the instance in slot j -/
theorem ev_meth {W : WO} {X0 : XK} {mn : Str} (h : E F ta δ fun r δ1 => ∃ (p dx : Addr) (fs : List (Str × SD)) (m : List (Addr × DD)) (j : Nat), r = .al p ∧ δ1[j]? = some (.ow (insO F.K p dx C fs m)) ∧ fs.lookup mn = none ∧ EA F tr δ1 fun rs δ2 => ∃ (as : List PyData) (dx' C' : Addr) (fs' : List (Str × SD)) (m' : List (Addr × DD)), rs = as.map SD.fz ∧ δ2[j]? = some (.ow (insO F.K p dx' C' fs' m')) ∧
      W (.ow (insO F.K p dx' C' fs' m')) as fun r r1 => (∀ a ∈ r.fp, a ∉ F.io) → P r (δ2.set j r1)) : E F (tMeth C mn (SpO F.K W) [] X0 ta tr) δ P := fun τ ε G H σ Q s q =>
  h τ ε G H σ _ s fun x r δ1 G1 H1 ⟨p, dx, fs, m, j, hr, hj, hl, h1⟩ e1 s1 => by
    subst hr
    have hx : x = .ref p := s1.top
    subst hx
    obtain ⟨_, _, ⟨xs, h3, h4⟩, _⟩ := s1.ins_at hj
    refine ⟨p, dx, xs, rfl, h3, FS.none h4 hl, ?_⟩
    refine h1 _ _ G1 H1 σ _ s1.pop fun vs rs δ2 G2 H2 ⟨as, dx', C', fs', m', hrs, hj2, k⟩ e2 el s2 => ?_
    subst hrs
    rw [List.append_nil]
    have sp := Oks.split (by simpa using el) s2.t
    have s0 := S2.popN el s2
    obtain ⟨e3, g2, g3, g5⟩ := s0.ins_at hj2
    obtain ⟨ow, nd⟩ := s0.own_of hj2
    refine ⟨G2, .ref p, vs, SD.ow (insO F.K p dx' C' fs' m'), as, _, rfl, s2.w.gh, ⟨rfl, g2, g3, g5⟩, ow, nd, oks_fz sp.1, k, fun r r1 pp hs v G' H' c => ?_⟩
    exact q v r _ G' H' (pp (new_io s0 c hs)) (Ex.trans (Ex.trans e1 e2) c.w.g0) (s0.callO hj2 e3 c)
/-- a call of a def, its first argument an instance in slot j -/
theorem ev_callO {W : WO} {X0 : XK} (h : EA F tr δ fun rs δ1 => ∃ (p dx C : Addr) (fs : List (Str × SD)) (m : List (Addr × DD)) (j : Nat) (as : List PyData), rs = .al p :: as.map SD.fz ∧ δ1[j]? = some (.ow (insO F.K p dx C fs m)) ∧ W (.ow (insO F.K p dx C fs m)) as fun r r1 => (∀ a ∈ r.fp, a ∉ F.io) → P r (δ1.set j r1)) : E F (tCall (SpO F.K W) [] X0 tr) δ P := fun τ ε G H σ Q s q =>
  h τ ε G H σ _ s fun vs rs δ1 G1 H1 ⟨p, dx, C, fs, m, j, as, hrs, hj, k⟩ e1 el s1 => by
    subst hrs
    rw [List.append_nil]
    have sp := Oks.split (by simpa using el) s1.t
    have s0 := S2.popN el s1
    obtain ⟨e3, g2, g3, g5⟩ := s0.ins_at hj
    obtain ⟨ow, nd⟩ := s0.own_of hj
    match vs, el, sp with
    | w :: ws, el, sp =>
      obtain ⟨hw, hws⟩ := sp.1
      have hw' : w = .ref p := hw
      subst hw'
      refine ⟨G1, .ref p, ws, SD.ow (insO F.K p dx C fs m), as, _, rfl, s1.w.gh, ⟨rfl, g2, g3, g5⟩, ow, nd, oks_fz hws, k, fun r r1 pp hs v G' H' c => ?_⟩
      exact q v r _ G' H' (pp (new_io s0 c hs)) (Ex.trans e1 c.w.g0) (s0.callO hj e3 c)
/-- C(..): a new instance -/
theorem ev_make {W : WO} {X0 : XK} (h : EA F tr δ fun rs δ1 => ∃ as, rs = as.map SD.fz ∧ ∀ p dx, p ∉ F.io → dx ∉ F.io → W (.ow (insO F.K p dx C [] [])) as fun r r1 => r = .fz .none ∧ P r1 δ1) : E F (tMake C (SpO F.K W) [] X0 tr) δ P := fun τ ε G H σ Q s q =>
  h τ ε G H σ _ s fun vs rs δ1 G1 H1 ⟨as, hrs, k⟩ e1 el s1 => by
    subst hrs
    intro x dx hx hdx hne
    rw [List.append_nil]
    have sp := Oks.split (by simpa using el) s1.t
    have s0 := S2.popN el s1
    have pio := s0.fresh_io hx
    have dio := s0.fresh_io hdx
    have hx2 : upd H1 dx (.own x) x = none := by rw [upd_ne (fun z => hne z.symm)]; exact hx
    -- the new objects stand in a slot ahead of the others
    have w1 := (s0.w.newO (o := .own x) hdx).newO (o := .ins C dx []) hx2
    have k1 : ∀ a ∈ fps ε ++ fps δ1, upd (upd H1 dx (.own x)) x (.ins C dx []) a = H1 a := fun a ha => by
      have n1 : a ≠ x := fun z => s0.w.pnotin hx (z ▸ ha)
      have n2 : a ≠ dx := fun z => s0.w.pnotin hdx (z ▸ ha)
      rw [upd_ne n1, upd_ne n2]
    have okx : (insO F.K x dx C [] []).R G1 (upd (upd H1 dx (.own x)) x (.ins C dx [])) (.ref x) := ⟨rfl, by rw [upd_ne hne, upd_same], ⟨[], upd_same, .nil⟩, fun z hz => by simp at hz⟩
    have s2 : S2 F G1 (upd (upd H1 dx (.own x)) x (.ins C dx [])) τ ε (some (.ref x) :: σ) (.ow (insO F.K x dx C [] []) :: δ1) := by
      refine ⟨w1.perm ?_, oks_mono (Ex.refl _) (fun a ha => k1 a (List.mem_append_left _ ha)) s0.t, ⟨okx, oks_mono (Ex.refl _) (fun a ha => k1 a (List.mem_append_right _ ha)) s0.s⟩⟩
      show (fps ε ++ (([x, dx] : List Addr) ++ fps δ1)).Perm (([x, dx] : List Addr) ++ (fps ε ++ fps δ1))
      rw [← List.append_assoc, ← List.append_assoc]
      exact List.Perm.append_right _ List.perm_append_comm
    obtain ⟨ow, nd⟩ := s2.own_of (j := 0) rfl
    have da := oks_fz sp.1
    refine ⟨G1, .ref x, vs, SD.ow (insO F.K x dx C [] []), as, _, rfl, s2.w.gh, okx, ow, nd, da, k x dx pio dio, fun r r1 ⟨hr, pp⟩ hs v G' H' c => ?_⟩
    subst hr
    have s3 := (s2.callO (j := 0) rfl rfl c)
    refine ⟨dp_non (fz_top s3), ?_⟩
    have s4 := s3.pop
    have s5 : S2 F G' H' (some (.ref x) :: τ) (r1 :: ε) σ δ1 := by
      refine ⟨s4.w.perm ?_, ⟨s4.s.1, s4.t⟩, s4.s.2⟩
      show ((r1.fp ++ fps ε) ++ fps δ1).Perm (fps ε ++ (r1.fp ++ fps δ1))
      rw [← List.append_assoc]
      exact List.Perm.append_right _ List.perm_append_comm
    exact q _ _ δ1 G' H' pp (Ex.trans e1 c.w.g0) s5
/-- what stands in the slot is the object at p -/
def Pins (K : PySem.W.Frag) (r : SD) (p : Addr) : Prop := r ≠ .no ∧ ∀ G H v, SD.ok K G H (some v) r → v = .ref p
theorem pins_ins : Pins K (.ow (insO K p dx C fs m)) p := ⟨fun z => (by cases z), fun G H v h => h.1⟩
/-- the body of a def whose first argument is an owned thing -/
theorem bodyO {W : WO} {N : List Str} {vs : List V} {Q : VK} {X0 : XK} {t : TS} (h : SpO K W vs H Q X0)
    (hb : ∀ F r0 as post, F.K = K → F.io = r0.fp → W r0 as post → (∀ r δ r1 p, δ[0]? = some r1 → Pins K r0 p → Pins K r1 p → post r r1 → (∀ a ∈ r0.fp, a ∈ r1.fp) → Ro F Q r δ) → Rn F t (startD N.length (r0 :: as.map SD.fz)) { nx := fun _ H' => Q .non H', rt := Q }) : t { nx := fun _ H' => Q .non H', rt := Q } (L2.start N vs) H := by
  obtain ⟨G, v0, ws, r0, as, post, rfl, ex, ok, ow, nd, da, w, k⟩ := h
  refine hb ⟨K, G, H, r0.fp⟩ r0 as post rfl rfl w (fun r δ r1 p h0 p0 p1 pp hs v G' H' σ s => ?_) G H _ ?_
  · refine k r r1 pp hs v G' H' ?_
    have ev0 : v0 = .ref p := p0.2 G H v0 ok
    match δ, h0, s with
    | d :: δ', h0, s =>
      have e : d = r1 := by simpa using h0
      subst e
      have s0 := s.s
      match σ, s0 with
      | ov :: σ', s0 =>
        obtain ⟨vv, rfl⟩ := sd_some p1.1 s0.1
        have e2 : vv = .ref p := p1.2 G' H' vv s0.1
        subst e2
        subst ev0
        refine ⟨s.w.sub ?_, s.t, ⟨s0.1, trivial⟩⟩
        show (fps [r] ++ (d.fp ++ [])).Sublist (fps [r] ++ (d.fp ++ fps δ'))
        exact List.Sublist.append_left (List.Sublist.append_left (List.nil_sublist _) _) _
  · have hl : fps (startD N.length (r0 :: as.map SD.fz)) = r0.fp := by
      unfold startD
      rw [fps_app, fps_no]
      show (r0.fp ++ fps (as.map SD.fz)) ++ [] = r0.fp
      rw [fps_fz]
      simp
    refine ⟨?_, trivial, ?_⟩
    · show Wd _ G H (fps [] ++ _)
      rw [hl]
      exact ⟨ex, ow, nd, Ex.refl _, fun a o e _ => e, fun a o e => .inl e, fun a ha => .inl ha, fun a ha => (ow a ha).2⟩
    · unfold L2.start startD
      have e1 : (r0 :: as.map SD.fz).length = (v0 :: ws).length := by simp [DpAll.len da]
      rw [e1]
      exact Oks.app (τ := (v0 :: ws).map some) ⟨ok, oks_ofDp da⟩ (oks_nones _)
end
end SL
namespace L2
open PySem
theorem ps_fld' {X : Cx} {o value : Expr} {f : Str} {pos pos' : Pos} {ta tv : TE} (K : PySem.W.Frag) (ha : PE X o ta) (hv : PE X value tv) (hs : swapsWith value (some (.Attribute o f pos')) pos.line X.env = pure false := by rfl) (hK : X.K = K := by rfl) : PS X (.Assign [.Attribute o f pos'] value pos) (sFld K ta tv f) := hK ▸ ps_fld ha hv hs
end L2

/-! defs that are called while no text of an object is being made (repr of lists asks for that). -/
namespace L2
open PySem PySem.Spec PyProof.Rows
/-- a def, where no guards stand around its call -/
structure FnG (P : Program) (w : World) (K : PySem.W.Frag) (mg : Str → Option Value) (base : Heap) (k : Nat) (f : Addr) (fd : FuncData) (ps : List Str) (sp : Sp) : Prop where
  len : ∀ vs H Q, sp vs H Q E0 → vs.length = ps.length
  go : ∀ {A : Around} {outer : List Env} {s : Shared} {H : Hp} {args : Args} {us : List Value} {vs : List V} {Q : VK}, A.guards = some [] → Room k A → Env0 P w K mg base A outer s H → BindsTo s fd args (ps.zip us) → Vals vs us → sp vs H Q E0 →
    codeAny (model P w) A (.call (.ref f) args) (CR CX0 outer P w H s Q E0) s
theorem FnG.ofOk {P : Program} {w : World} {K : PySem.W.Frag} {mg : Str → Option Value} {base : Heap} {k : Nat} {f : Addr} {fd : FuncData} {ps : List Str} {sp : Sp} (h : FnOk P w K mg base CX0 k f fd ps sp) : FnG P w K mg base k f fd ps sp :=
  ⟨fun vs H Q q => h.len vs H Q _ q, fun _ hr e0 hb r q => h.run _ _ _ _ _ _ _ _ _ hr e0 hb r q⟩
section
variable {P : Program} {w : World} {K : PySem.W.Frag} {mg : Str → Option Value} {base : Heap}
theorem Fun.okG {x qual : Str} {st : Stmt} {f : Addr} {fd : FuncData} {N ps : List Str} {k : Nat} {sp : Sp} (F : Fun K x qual st f fd) (S : FnScope N ps (defScope st)) (len : ∀ vs H Q, sp vs H Q E0 → vs.length = ps.length)
    (body : ∀ (cdv : Value) (A : Around) (outer : List Env) (s : Shared) (H : Hp) (vs : List V) (Q : VK), A.guards = some [] → Room k (A.deeper (envOfC qual (defScope st) s.heap.objs.size f cdv)) → sp vs H Q E0 →
      ∃ t, PSs (cxOf CX0 P w K mg base N qual (defScope st) f cdv A outer s H E0).nox (defBody st) t ∧ t { nx := fun _ H' => Q .non H', rt := Q } (start N vs) H) : FnG P w K mg base (k + 1) f fd ps sp := by
  obtain ⟨oc, od, kV, doc, pm, an, cdv, ct, osl, rfl, lk, hcd⟩ := F.ex
  constructor
  · exact len
  intro A outer s H args us vs Q hgd hr e0 hb r hsp
  have old : ∀ b o, base.get? b = some o → s.heap.get? b = some o := fun b o e => (e0.bs b o e).1
  have kin : K.In s.heap := e0.mod.kin.keeps old
  have par : ∀ y ∈ ps.zip us, (defScope st).names.lookup y.1 = some .local ∨ ((defScope st).names.lookup y.1 = some .cell ∧ ((cellsFrom (s.heap.objs.size + 1) (defScope st).names []).lookup y.1).isSome = true) := by
    rintro ⟨n, v⟩ hy
    rcases S.par n (List.of_mem_zip hy).1 with q | q
    · exact .inl q
    · exact .inr ⟨q, PySem.W.cellsFrom_some _ _ _ (.inl q)⟩
  obtain ⟨t, ht, hq⟩ := body cdv A outer s H vs Q hgd (hr.deeper _) hsp
  refine codeAny_call_function hr.depth (kin _ _ lk) rfl S.co S.gen rfl (PySem.W.codeRec_of kin hcd) (hb _ _ _ _ (wpAny_newFunctionEnv_cells S.kind par fun env he s1 x => ?_))
  subst he
  refine ⟨(e0.mod.nolimit.keeps old).keeps x.toInCall.keep, codeAny_func ?_⟩
  have start := inv_start (CX := CX0) (N := N) (E := E0) S hr.hd e0 (len _ _ _ hsp) r x
  refine wpAny_mono (ht.nox.run [] s1 _ H _ start hq) (fun fl s' hs => ?_) fun e s' hs => hs
  match fl, hs with
  | .ret u, ⟨v, σ', H', J, rv, q⟩ => exact ⟨v, H', J.os, J.bare, J.base, J.hok, rv, q⟩
  | .next, ⟨σ', H', J, q⟩ => exact ⟨.non, H', J.os, J.bare, J.base, J.hok, rfl, q⟩
  | .brk, ⟨_, _, _, q⟩ => exact q.elim
  | .cont, ⟨_, _, _, q⟩ => exact q.elim
end
section
variable {X : Cx} {k j : Nat} {x : Str} {sp : Sp} {p pos : Pos} {e : Expr} {es : List Expr} {t : TA}
/-- such a def by its name -/
structure CalG (P : Program) (w : World) (K : PySem.W.Frag) (mg : Str → Option Value) (base : Heap) (k : Nat) (x : Str) (sp : Sp) : Prop where
  ex : ∃ (f : Addr) (fd : FuncData) (ps : List Str), FnG P w K mg base k f fd ps sp ∧ mg x = some (.ref f) ∧ PySem.W.keepIn K (.ref f) = true ∧ Binds K fd ps []
theorem pe_cG (c : CalG X.prog X.w X.K X.mg X.base k x sp) (hgd : X.A.guards = some []) (hr : Room j X.A) (hk : k ≤ j) (hg : Gl X x) (ha : PA X (e :: es) t)
    (hdb : (x == ("__debug__" : Str)) = false := by decide) (he : starEach (e :: es) X.env = (false, eval e X.env) :: starEach es X.env := by rfl) (hpl : (backTo pos (starEach es X.env)).any (·.1) = false := by rfl) :
    PE X (.Call (.Name x p) (e :: es) [] pos) (tCall sp [] E0 t) := by
  obtain ⟨f, fd, ps, F, hm, kp, b⟩ := c.ex
  refine ⟨fun pins s σ H Q I h => wpAny_Call_Name_kw (ld_glob I hg hm (PySem.W.callWith_K (h₀ := X.base) I.ok.mod.kin kp (thn (ha.run pos pins s σ H _ I h) fun us s1 ⟨vs, H1, I1, r, q⟩ => ⟨I1.kIn, ?_⟩) he hpl) hdb)⟩
  have q' : sp vs H1 Q E0 := by simpa using q
  have hl : us.length = ps.length := by rw [← r.length]; exact F.len _ _ _ q'
  have bt : BindsTo s1 fd ⟨us, []⟩ (ps.zip us) := by
    have := b s1 us I1.kIn (by simpa using hl)
    simpa using this
  refine wpAny_call (codeAny_mono (F.go (args := ⟨us, []⟩) hgd (hr.mono hk) I1.env0 bt r q') fun res s' hq => ?_)
  match res, hq with
  | .error e, hq => exact hq.elim
  | .ok (.ret u), hq => exact I1.after hq
  | .ok .next, hq => exact hq.elim
  | .ok .brk, hq => exact hq.elim
  | .ok .cont, hq => exact hq.elim
end
/-- repr(x), by data -/
def rReprD (K : PySem.W.Frag) : List V → Hp → VK → Prop := fun xs H Q => ∃ (a : Addr) (d : PyData), xs = [.ref a] ∧ L2.Dp K H (.ref a) d ∧ d.canLay0 = true ∧ d.depth ≤ 60 ∧ d.showable = true ∧ d.shown.length ≤ sizeLine ∧ Q (.str d.shown) H
theorem call_reprD {X : Cx} (K : PySem.W.Frag) (hgd : X.A.guards = some []) (hu : X.A.units + 64 < cLine) (hK : X.K = K := by rfl) : CallR X (.builtin "repr") (rReprD K) := by
  subst hK
  intro pins s σ H xs us Q I r h
  obtain ⟨a, d, rfl, hd, c1, c2, c3, c4, q⟩ := h
  obtain ⟨u, rfl, ru⟩ := r.one
  obtain ⟨as, rd⟩ := Dp.reads I d _ u hd ru
  cases ru
  exact repr_of_reads' rd c3 (PyData.noDict_hsm (PyData.hasDict_of_canLay d c1)) hgd (by omega) (fun _ _ e => e) (fun h' u tk hk => ⟨.str _, H, I.kept (t' := tk) hk, ⟨u, rfl⟩, q⟩) c4
/-- the law's own call, where its def is one of these -/
theorem law_callG {P : Program} {w : World} {K : PySem.W.Frag} {mg mb : Str → Option Value} {k : Nat} {fa a : Addr} {fd : FuncData} {x : Str} {sp : Sp} {s1 : Shared} {vs : List Value} {ns : List Int}
    (KX : K.In s1.heap) (hns : s1.heap.Ns mainGlobals mg) (hb : s1.heap.Ns builtinsNs mb) (hbb : ∀ x : Str, x ≠ "__name__" → mb x = bootBuiltins x) (hlim : s1.heap.NoLimit) (hg : s1.gens = #[])
    (ha : s1.heap.get? a = some { cls := .type "list", data := .seq vs.toArray }) (hi : IntsAre vs ns) (hl : ns.length ≤ sizeLine) (hr : Room k callerA)
    (F : ∀ base : Heap, K.In base → base.Ns mainGlobals mg → FnG P w K mg base k fa fd [x] sp) (bind : ∀ (s : Shared) (u : Value), BindsTo s fd ⟨[u], []⟩ [(x, u)])
    (hsp : ∀ H : Hp, Only H → SqL K H a (ns.map V.int) → sp [.ref a] H (fun v _ => v = .bl true) E0) :
    codeAny (model P w) callerA (.call (.ref fa) ⟨[.ref a], []⟩) (fun r s' => r = .ok (.ret (.bool true)) ∧ OldK s1.heap s'.heap ∧ s'.os = s1.os ∧ AllBare s'.gens) s1 := by
  have rv := vals_ints hi
  have lenV := hi.length
  have main : ∀ H : Hp, Only H → SqL K H a (ns.map V.int) → HOk P w H s1.heap → (∀ b, b ≠ a → H b = none) → (H a ≠ none → K.lookup a = none) →
      codeAny (model P w) callerA (.call (.ref fa) ⟨[.ref a], []⟩) (fun r s' => r = .ok (.ret (.bool true)) ∧ OldK s1.heap s'.heap ∧ s'.os = s1.os ∧ AllBare s'.gens) s1 := by
    intro H hO hS hok only hK
    have hid : ∀ {b : Addr} {o : Obj}, s1.heap.get? b = some o → H b = none → (hidT s1.heap H).get? b = some o := fun e n => hidT_get e n
    have dict : ∀ {b : Addr} {m : Str → Option Value}, s1.heap.Ns b m → (hidT s1.heap H).Ns b m := by
      rintro b m ⟨o, es, ep, e, d, r⟩
      refine ⟨o, es, ep, hid e ?_, d, r⟩
      by_cases z : b = a
      · rw [z, ha] at e
        cases e
        cases (show Data.seq vs.toArray _ = Data.dict es ep from d)
      · exact only b z
    have kin : K.In (hidT s1.heap H) := fun b o e => hid (KX b o e) (by
      by_cases z : b = a
      · cases q : H b with
        | none => rfl
        | some u =>
          rw [z] at q e
          rw [hK (by rw [q]; simp)] at e
          cases e
      · exact only b z)
    obtain ⟨mc, n1, n2⟩ := hlim
    have md : Mod K mg (hidT s1.heap H) := ⟨kin, dict hns, ⟨mb, dict hb, hbb⟩, ⟨mc, dict n1, n2⟩⟩
    have nil : ∀ b : Addr, b ∉ ([] : List Addr) := fun b z => by simp at z
    have e0 : Env0 P w K mg (hidT s1.heap H) callerA [] s1 H := ⟨rfl, md, fun b o e => of_hidT e, Nat.le_of_eq (hidT_size _ _), trivial, fun b z => (nil b z).elim, hok, .of_eq hg⟩
    refine codeAny_mono ((F _ kin (dict hns)).go (A := callerA) (args := ⟨[.ref a], []⟩) (us := [.ref a]) (vs := [.ref a]) rfl hr e0 (bind s1 (.ref a)) (.cons rfl .nil) (hsp H hO hS)) fun r s' h => ?_
    match r, h with
    | .error e, h => exact h.elim
    | .ok .next, h => exact h.elim
    | .ok .brk, h => exact h.elim
    | .ok .cont, h => exact h.elim
    | .ok (.ret u), ⟨v, H', os, bare, un, hok', r', q⟩ =>
      have e1 : v = .bl true := q
      subst e1
      have e2 : u = Value.bool true := r'
      subst e2
      refine ⟨rfl, OldK.of_keep fun b o e => ?_, os, bare⟩
      rcases hO b with z | ⟨ob, xs, z⟩
      · exact un.keep b o e z (nil b) (by simp)
      · obtain ⟨e3, _⟩ := hok b _ z
        obtain ⟨e4, _⟩ := hok' b _ (un.frzs b ob _ z)
        rw [e] at e3
        cases e3
        exact e4
  cases hk : K.lookup a with
  | some o =>
    have e := KX a o hk
    rw [ha] at e
    cases e
    exact main (fun _ => none) (fun _ => .inl rfl) (.inr ⟨_, vs.toArray, _, hk, rfl, rfl, rfl, by rw [List.size_toArray, lenV]; exact hl, by simpa using rv⟩) (fun b u z => by cases (show (none : Option HO) = some u from z)) (fun _ _ => rfl) fun z => absurd rfl z
  | none =>
    refine main (fun b => if b = a then some (.frz { cls := .type "list", data := .seq vs.toArray } (.lst (ns.map V.int))) else none) (fun b => ?_) (.inl (.inr ⟨{ cls := .type "list", data := .seq vs.toArray }, if_pos rfl⟩)) (fun b u z => ?_) (fun b z => if_neg z) fun _ => hk
    · by_cases z : b = a
      · exact .inr ⟨_, _, if_pos z⟩
      · exact .inl (if_neg z)
    · by_cases hb : b = a
      · subst hb
        have z' := (if_pos rfl).symm.trans z
        cases z'
        exact ⟨ha, by rw [List.length_map]; exact hl, vs, _, rv, ha⟩
      · cases (if_neg hb).symm.trans z
theorem walk_ofG {l : PySem.W.OpenLaw} {n k : Nat} {q : Program} {loose : List Str} {XP : (Str → Option Value) → Heap → Prop} {YP : World → Heap → Prop} {d : DefRec} {x : Str}
    (hn : l.most = some n) (hn2 : n ≤ sizeLine) (hdf : d.params.defaults = []) (hr : Room k callerA)
    (F : ∀ (w : World) (mg : Str → Option Value) (fa : Addr) (h : Heap), YP w h → h.Ns mainGlobals mg → mg d.name = some (.ref fa) →
      ∃ (K : PySem.W.Frag) (fd : FuncData) (sp : Sp), K.In h ∧ (∀ (s : Shared) (u : Value), BindsTo s fd ⟨[u], []⟩ [(x, u)]) ∧
        (∀ (H : Hp) (a : Addr) (ns : List Int), ns.length ≤ n → Only H → SqL K H a (ns.map V.int) → sp [.ref a] H (fun v _ => v = .bl true) E0) ∧
        ∀ base : Heap, K.In base → base.Ns mainGlobals mg → FnG l.prog w K mg base k fa fd [x] sp) :
    PySem.W.WalkO q loose XP YP l.row.toRowW d [] (fun f vs => PySem.call f vs) :=
  Att.attach_call hn hdf fun w _ s1 mg mb fa _ _ _ _ a vs ns G Y _ _ _ hmg hobj hints hlen hg => by
    obtain ⟨K, fd, sp, KX, hb, hsp, hF⟩ := F w mg fa _ Y G.T.g hmg
    exact law_callG KX G.T.g G.T.b G.T.builtins G.T.nolimit hg hobj hints (Nat.le_trans hlen hn2) hr hF hb fun H hO hS => hsp H a ns hlen hO hS
end L2
namespace SL
open PySem L2 Evl
section
variable {K : PySem.W.Frag} {F F' : Fm} {G G' H H' : Hp} {τ σ : List (Option V)} {ε δ : List SD} {v x : V} {P : PV}
/-- the data of a list that is read -/
theorem b_reprD {d : PyData} (hd : (∃ xs, d = .list xs) ∨ ∃ xs, d = .tuple xs) (h1 : d.canLay0 = true) (h2 : d.depth ≤ 60) (h3 : d.showable = true) (h4 : d.shown.length ≤ sizeLine) (k : P (.fz (.str d.shown)) δ) : OA F (rReprD F.K) [.fz d] δ P := fun τ ε G H σ Q vs el s q => by
  obtain ⟨x, rfl⟩ := one_of el
  have hx := dpTo _ _ (dpMono s.w.gh _ _ (fz_top s))
  have hr : ∃ a, x = .ref a := by
    rcases hd with ⟨xs, rfl⟩ | ⟨xs, rfl⟩ <;> cases hx <;> exact ⟨_, rfl⟩
  obtain ⟨a, rfl⟩ := hr
  exact ⟨a, d, rfl, hx, h1, h2, h3, h4, q _ _ δ G H k (Ex.refl _) (s.pop.push rfl (.str _))⟩
theorem b_reprS {r : SD} {ds : List PyData} (hl : LSrc δ r ds) (h1 : (PyData.list ds).canLay0 = true) (h2 : (PyData.list ds).depth ≤ 60) (h3 : (PyData.list ds).showable = true) (h4 : (PyData.list ds).shown.length ≤ sizeLine) (k : P (.fz (.str (PyData.list ds).shown)) δ) : OA F (rReprD F.K) [r] δ P := fun τ ε G H σ Q vs el s q => by
  obtain ⟨x, rfl⟩ := one_of el
  obtain ⟨a, xs, rfl, sq, da⟩ := s.lsrc s.top hl
  exact ⟨a, _, rfl, .lst sq (dpAllTo _ _ (dpAllMono s.w.gh _ _ da)), h1, h2, h3, h4, q _ _ δ G H k (Ex.refl _) (s.pop.push rfl (.str _))⟩
end
end SL

/-! methods of an instance that stands in no slot; more of comparisons; texts of lists of numbers. -/
namespace SL
open PySem L2 Evl
section
variable {K : PySem.W.Frag} {F F' : Fm} {G G' H H' : Hp} {τ σ : List (Option V)} {ε δ : List SD} {v x : V} {P : PV} {te ta tb : TE} {tr : TA} {C : Addr}
/-- what stands on the stack, as a slot ahead of the others -/
theorem S2.toSlot {ov : Option V} {r : SD} (s : S2 F G H (ov :: τ) (r :: ε) σ δ) : S2 F G H τ ε (ov :: σ) (r :: δ) := by
  refine ⟨s.w.perm ?_, s.t.2, ⟨s.t.1, s.s⟩⟩
  show (fps ε ++ (r.fp ++ fps δ)).Perm ((r.fp ++ fps ε) ++ fps δ)
  rw [← List.append_assoc]
  exact List.Perm.append_right _ List.perm_append_comm
theorem S2.unslot {ov : Option V} {r : SD} (s : S2 F G H τ ε (ov :: σ) (r :: δ)) : S2 F G H τ ε σ δ := by
  refine ⟨s.w.sub ?_, s.t, s.s.2⟩
  show (fps ε ++ fps δ).Sublist (fps ε ++ (r.fp ++ fps δ))
  exact List.Sublist.append_left (List.sublist_append_right _ _) _
/-- e.m(..), e a new instance that is then let go -/
theorem ev_methT {W : WO} {X0 : XK} {mn : Str} (h : E F ta δ fun r δ1 => ∃ (p dx : Addr) (fs : List (Str × SD)) (m : List (Addr × DD)), r = .ow (insO F.K p dx C fs m) ∧ fs.lookup mn = none ∧ EA F tr δ1 fun rs δ2 => ∃ as : List PyData, rs = as.map SD.fz ∧
      W (.ow (insO F.K p dx C fs m)) as fun r r1 => (∀ a ∈ r.fp, a ∉ F.io) → P r δ2) : E F (tMeth C mn (SpO F.K W) [] X0 ta tr) δ P := fun τ ε G H σ Q s q =>
  h τ ε G H σ _ s fun x r δ1 G1 H1 ⟨p, dx, fs, m, hr, hl, h1⟩ e1 s1 => by
    subst hr
    obtain ⟨ex1, _, ⟨xs, h3, h4⟩, _⟩ := S2.ins_at (j := 0) s1.toSlot rfl
    have hx : x = .ref p := by simpa using ex1
    subst hx
    refine ⟨p, dx, xs, rfl, h3, FS.none h4 hl, ?_⟩
    refine h1 _ _ G1 H1 σ _ s1 fun vs rs δ2 G2 H2 ⟨as, hrs, k⟩ e2 el s2 => ?_
    subst hrs
    rw [List.append_nil]
    have sp := Oks.split (by simpa using el) s2.t
    have s0 := (S2.popN el s2).toSlot
    obtain ⟨e3, g2, g3, g5⟩ := S2.ins_at (j := 0) s0 rfl
    obtain ⟨ow, nd⟩ := S2.own_of (j := 0) s0 rfl
    refine ⟨G2, .ref p, vs, SD.ow (insO F.K p dx C fs m), as, _, rfl, s2.w.gh, ⟨rfl, g2, g3, g5⟩, ow, nd, oks_fz sp.1, k, fun r r1 pp hs v G' H' c => ?_⟩
    exact q v r _ G' H' (pp (new_io s0 c hs)) (Ex.trans (Ex.trans e1 e2) c.w.g0) (S2.unslot (S2.callO (j := 0) s0 rfl e3 c))
end
/-! ### texts of lists of numbers -/
theorem shortAll {B : Nat} : ∀ (ns : List Nat), (∀ x ∈ ns, (PyData.shown (.int (x : Int))).length ≤ B) → PyData.intsShortAll B (ns.map fun (x : Nat) => PyData.int (x : Int)) = true
  | [], _ => rfl
  | x :: r, h => by
    simp only [List.map_cons, PyData.intsShortAll, PyData.intsShort, Bool.and_eq_true, decide_eq_true_eq]
    exact ⟨h x (by simp), shortAll r fun y hy => h y (by simp [hy])⟩
theorem showAll : ∀ (ns : List Nat), (∀ x ∈ ns, x < 10 ^ 9) → PyData.showableAll (ns.map fun (x : Nat) => PyData.int (x : Int)) = true
  | [], _ => rfl
  | x :: r, h => by
    simp only [List.map_cons, PyData.showableAll, PyData.showable, Bool.and_eq_true, decide_eq_true_eq]
    refine ⟨?_, showAll r fun y hy => h y (by simp [hy])⟩
    have hx := h x (by simp)
    by_cases h0 : x = 0
    · subst h0; decide
    · rw [Int.natAbs_natCast]
      have : x.log2 < 30 := (Nat.log2_lt h0).mpr (Nat.lt_of_lt_of_le hx (by decide))
      omega
theorem weighAll : ∀ (ns : List Nat), (∀ x ∈ ns, x < 10 ^ 9) → PyData.weightAll (ns.map fun (x : Nat) => PyData.int (x : Int)) ≤ 32 * ns.length
  | [], _ => by simp [PyData.weightAll]
  | x :: r, h => by
    have ih := weighAll r fun y hy => h y (by simp [hy])
    have hx := h x (by simp)
    simp only [List.map_cons, PyData.weightAll, PyData.weight, List.length_cons]
    have hw : (if ((x : Int) == 0) = true then 0 else (x : Int).natAbs.log2 + 1) ≤ 31 := by
      split
      · omega
      · rename_i h0
        have h1 : x ≠ 0 := fun z => h0 (by simp [z])
        rw [Int.natAbs_natCast]
        have : x.log2 < 30 := (Nat.log2_lt h1).mpr (Nat.lt_of_lt_of_le hx (by decide))
        omega
    omega
theorem int_shown (x : Nat) (h : x < 10 ^ 9) : (PyData.shown (.int (x : Int))).length ≤ 13 := by
  have h1 := int_text_length_le10 (a := (x : Int)) (k := 9) (by decide) (by rw [Int.natAbs_natCast]; exact h)
  have h2 : (PyData.shown (.int (x : Int))).length = (toString (x : Int)).length := by
    simp only [PyData.shown]
    exact ofString_length _
  omega
/-- all that repr asks of a list of numbers -/
theorem reprN (ns : List Nat) (h1 : ns.length ≤ 10000) (h2 : ∀ x ∈ ns, x < 10 ^ 9) : (PyData.list (ns.map fun (x : Nat) => PyData.int (x : Int))).canLay0 = true ∧ (PyData.list (ns.map fun (x : Nat) => PyData.int (x : Int))).depth ≤ 60 ∧
    (PyData.list (ns.map fun (x : Nat) => PyData.int (x : Int))).showable = true ∧ (PyData.list (ns.map fun (x : Nat) => PyData.int (x : Int))).shown.length ≤ sizeLine := by
  have c1 : (PyData.list (ns.map fun (x : Nat) => PyData.int (x : Int))).canLay0 = true := lay_list fun d hd => by
    obtain ⟨x, _, rfl⟩ := List.mem_map.mp hd
    exact lay_int _
  have c2 : (PyData.list (ns.map fun (x : Nat) => PyData.int (x : Int))).depth ≤ 1 := dep_list fun d hd => by
    obtain ⟨x, _, rfl⟩ := List.mem_map.mp hd
    exact dep_int _
  have c3 : (PyData.list (ns.map fun (x : Nat) => PyData.int (x : Int))).showable = true := by
    simp only [PyData.showable]
    exact showAll ns h2
  refine ⟨c1, by omega, c3, ?_⟩
  have lay : PyData.layable0 (PyData.list (ns.map fun (x : Nat) => PyData.int (x : Int))) = true := by
    unfold PyData.layable0
    rw [c1]
    simp only [Bool.true_and, Bool.and_eq_true, decide_eq_true_eq]
    refine ⟨by omega, ?_⟩
    simp only [PyData.weight]
    have := weighAll ns h2
    have e : (2 : Nat) ^ 20 = 1048576 := by decide
    omega
  have sh := PyProof.Rows.shown_le13 lay (by simp only [PyData.intsShort]; exact shortAll ns fun x hx => int_shown x (h2 x hx))
  exact Nat.le_trans sh (by decide)
theorem eqv_natsAll : ∀ (xs ys : List Nat), PyData.eqvAll (xs.map fun (x : Nat) => PyData.int (x : Int)) (ys.map fun (x : Nat) => PyData.int (x : Int)) = decide (xs = ys)
  | [], [] => by simp [PyData.eqvAll]
  | [], _ :: _ => by simp [PyData.eqvAll]
  | _ :: _, [] => by simp [PyData.eqvAll]
  | x :: xs, y :: ys => by
    simp only [List.map_cons, PyData.eqvAll, PyData.eqv, eqv_natsAll xs ys]
    by_cases h : x = y
    · subst h; simp
    · have h' : ¬ (x : Int) = (y : Int) := fun z => h (by omega)
      simp [h, h']
theorem eqv_lstN (xs ys : List Nat) : PyData.eqv (.list (xs.map fun (x : Nat) => PyData.int (x : Int))) (.list (ys.map fun (x : Nat) => PyData.int (x : Int))) = decide (xs = ys) := by
  simp only [PyData.eqv, eqv_natsAll]
theorem eqv_tupN (xs ys : List Nat) : PyData.eqv (.tuple (xs.map fun (x : Nat) => PyData.int (x : Int))) (.tuple (ys.map fun (x : Nat) => PyData.int (x : Int))) = decide (xs = ys) := by
  simp only [PyData.eqv, eqv_natsAll]
theorem shaped_lstN (xs : List Nat) : SeqAt.shaped (.list (xs.map fun (x : Nat) => PyData.int (x : Int))) = true :=
  shaped_of (lay_list fun d hd => by obtain ⟨x, _, rfl⟩ := List.mem_map.mp hd; exact lay_int _) (Nat.le_trans (dep_list (k := 0) fun d hd => by obtain ⟨x, _, rfl⟩ := List.mem_map.mp hd; exact dep_int _) (by decide))
end SL

/-! the end: from the head's facts to defs by name; the law's own def and its script. -/
namespace SL
open PySem L2 Evl
section
variable {P : Program} {w : World} {K : PySem.W.Frag} {mg : Str → Option Value} {base : Heap} {k : Nat} {C f : Addr} {fd : FuncData} {x q m : Str} {st : Stmt} {ps : List Str} {sp : Sp}
theorem fun_ofD (F : FunD K x q (defArgs st) (defBody st) (defScope st) [] [] f fd) : Fun K x q st f fd := by
  obtain ⟨oc, od, dV, kV, doc, pm, an, cdv, ct, osl, e, lk, hcd, hD, _⟩ := F.ex
  rcases hD with ⟨_, rfl⟩ | ⟨z, _⟩
  · exact ⟨⟨oc, od, kV, doc, pm, an, cdv, ct, osl, e, lk, hcd⟩, F.kp⟩
  · exact absurd rfl z
theorem cal_of (F : Fun K x q st f fd) (hb : Binds K fd ps []) (hm : mg x = some (.ref f)) (ok : FnOk P w K mg base CX0 k f fd ps sp) : Cal P w K mg base k x sp := ⟨f, fd, ps, ok, hm, F.kp, hb⟩
theorem calG_of (F : Fun K x q st f fd) (hb : Binds K fd ps []) (hm : mg x = some (.ref f)) (ok : FnG P w K mg base k f fd ps sp) : CalG P w K mg base k x sp := ⟨f, fd, ps, ok, hm, F.kp, hb⟩
theorem met_of (c : Cls K C) (hm : Meth K C m f) (hb : Binds K fd ps []) (ok : FnOk P w K mg base CX0 k f fd ps sp) : Met P w K mg base k C m sp := ⟨f, fd, ps, c, hm, ok, hb⟩
theorem mak_of (M : Mk K C f) (hb : Binds K fd ps []) (hm : mg x = some (.ref C)) (ok : FnOk P w K mg base CX0 k f fd ps sp) : Mak P w K mg base k x C sp := ⟨f, fd, ps, M, ok, hm, hb⟩
theorem gint {i : Int} (h : ∃ t, mg x = some (.int i t)) : ∃ u, mg x = some u ∧ RelV (.int i) u := by
  obtain ⟨t, e⟩ := h
  exact ⟨_, e, t, rfl⟩
theorem gstr {i : Str} (h : ∃ t, mg x = some (.str i t)) : ∃ u, mg x = some u ∧ RelV (.str i) u := by
  obtain ⟨t, e⟩ := h
  exact ⟨_, e, t, rfl⟩
end
/-! ### the script -/
/-- the script: a list of ints that is read alone, wherever it stands -/
def scrO (K : PySem.W.Frag) (a : Addr) (ns : List Int) : Ow where
  fp := []
  R := fun G _ v => v = .ref a ∧ SqL K G a (ns.map V.int)
  loc := fun e _ h => ⟨h.1, ex_l e h.2⟩
def SpS (K : PySem.W.Frag) : Sp := fun vs H Q _ => ∃ (G : Hp) (a : Addr) (ns : List Int), Ex G H ∧ vs = [.ref a] ∧ SqL K G a (ns.map V.int) ∧ ns.length ≤ 63 ∧ ∀ v G' H', S2 ⟨K, G, H, []⟩ G' H' [some v] [.fz (.bool true)] [] [] → Q v H'
section
variable {K : PySem.W.Frag} {F F' : Fm} {G G' H H' : Hp} {τ σ : List (Option V)} {ε δ : List SD} {v x : V} {P : PV}
theorem bodyS {N : List Str} {vs : List V} {Q : VK} {X0 : XK} {t : TS} (h : SpS K vs H Q X0)
    (hb : ∀ F a ns, F.K = K → F.io = [] → ns.length ≤ 63 → (∀ δ, Ro F Q (.fz (.bool true)) δ) → Rn F t (startD N.length [.ow (scrO F.K a ns)]) { nx := fun _ H' => Q .non H', rt := Q }) : t { nx := fun _ H' => Q .non H', rt := Q } (L2.start N vs) H := by
  obtain ⟨G, a, ns, ex, rfl, sq, hn, k⟩ := h
  refine hb ⟨K, G, H, []⟩ a ns rfl rfl hn (fun δ v G' H' σ s => k v G' H' ⟨s.w.sub ?_, s.t, trivial⟩) G H _ ?_
  · show ([] : List Addr).Sublist _
    exact List.nil_sublist _
  · have hl : fps (startD N.length [SD.ow (scrO K a ns)]) = [] := by
      unfold startD
      rw [fps_app, fps_no]
      rfl
    refine ⟨?_, trivial, ?_⟩
    · show Wd _ G H (fps [] ++ fps (startD N.length [SD.ow (scrO K a ns)]))
      rw [hl]
      exact ⟨ex, fun a ha => by simp [fps] at ha, by simp [fps], Ex.refl _, fun a o e _ => e, fun a o e => .inl e, fun a ha => by simp [fps] at ha, fun a ha => by simp at ha⟩
    · unfold L2.start startD
      exact Oks.app (τ := [some (.ref a)]) ⟨⟨rfl, sq⟩, trivial⟩ (oks_nones _)
theorem ev_scr {i : Nat} {a : Addr} {ns : List Int} (h : δ[i]? = some (.ow (scrO F.K a ns))) (k : P (.ow (scrO F.K a ns)) δ) : E F (tVar i) δ P := fun τ ε G H σ Q s q => by
  obtain ⟨ov, e, ok⟩ := s.slot h
  obtain ⟨v, rfl⟩ := sd_some (by intro z; cases z) ok
  exact ⟨v, e, q v _ δ G H k (Ex.refl _) (s.push rfl ok)⟩
theorem o_catScr {a p : Addr} {ns : List Int} {es : List PyData} (hl : ns.length + es.length ≤ 1000000) (k : ∀ p, p ∉ F.io → P (.ol p (ns.map PyData.int ++ es)) δ) : O2 F (rCatS F.K) (.ow (scrO F.K a ns)) (.ol p es) δ P := fun τ ε G H σ Q x y s q => by
  obtain ⟨rfl, sq⟩ : x = .ref a ∧ SqL F.K G a (ns.map V.int) := s.pop.top
  obtain ⟨b, ys, rfl, sq2, db⟩ := s.lsrc s.top .ol
  have hl2 := DpAll.len db
  refine ⟨a, b, ns.map V.int, ys, rfl, rfl, ex_l s.w.gh sq, sq2, Nat.le_trans (show (ns.map V.int).length + ys.length ≤ 1000000 by rw [List.length_map, hl2]; exact hl) (by decide), fun l hn => ?_⟩
  exact q _ _ δ _ _ (k l (s.fresh_io hn)) (Ex.refl _) (s.pop2.newO hn rfl ⟨rfl, _, upd_same, DpAll.app (DpAll.ofInts ns) db⟩)
/-- (script + [0])[:n] as what a for walks: some ints -/
theorem iw_script {i n : Nat} {a : Addr} {ns : List Int} {PI : List PyData → List SD → Prop} (h : δ[i]? = some (.ow (scrO F.K a ns))) (hn : ns.length ≤ 63) (k : ∀ cells : List Int, cells.length ≤ n → PI (cells.map PyData.int) δ) :
    Iw F (iList F.K (tSl (rSlL F.K) (tOp (rCatS F.K) (tVar i) (tLst (tCons (tC (.int 0)) tNil))) tNoPart (tPart (tC (.int (n : Int)))))) δ PI := by
  refine iw_listO (ev_upto (i := n) (ev_op (ev_scr h (ev_lst (a_one (ev_int ⟨[_], rfl, (by show 1 ≤ sizeLine; decide), fun p1 q1 => ?_⟩))))))
  refine o_catScr (by simp; omega) fun p2 q2 => ⟨_, .ol, fun p3 q3 => ⟨p3, _, q3, rfl, ?_⟩⟩
  have e : (ns.map PyData.int ++ [PyData.int 0]).take n = ((ns ++ [0]).take n).map PyData.int := by simp [List.map_take]
  rw [e]
  exact k _ (by simp; omega)
end
end SL

/-! dicts whose keys are ints, texts and tuples of these, side by side. -/
namespace Mx
open PySem L2 PySem.SeqAt PySem.P3
section
variable {prog : Program} {w : World} {A : Around} {E : Value → Shared → Prop} {s : Shared} {d : Addr} {o : Obj} {es : Array DictEntry} {ep : Nat} {key : Value} {h : Int}
/-- what is known of a key against the entries of a table -/
structure Asks (prog : Program) (w : World) (A : Around) (E : Value → Shared → Prop) (s : Shared) (es : Array DictEntry) (key : Value) (h : Int) (eqs : Nat → Bool) : Prop where
  eq : ∀ (i : Nat) (e : DictEntry), es[i]? = some e → e.hash = h → ∀ Q : Bool → Shared → Prop, Q (eqs i) s → wpAny (model prog w) A (eqBool e.key key) Q E s
  hit : ∀ (i : Nat) (e : DictEntry), es[i]? = some e → eqs i = true → e.hash = h
  far : ∀ i, es.size ≤ i → eqs i = false
  one : ∀ i j, eqs i = true → eqs j = true → i = j
  quiet : ∀ Q : Bool → Shared → Prop, Q true s → wpAny (model prog w) A (eqIsQuiet 8 key) Q E s
  quiets : ∀ (i : Nat) (e : DictEntry), es[i]? = some e → ∀ Q : Bool → Shared → Prop, Q true s → wpAny (model prog w) A (eqIsQuiet 8 e.key) Q E s
  ref : ∀ a, key = .ref a → (es.any fun e => e.key == key && e.hash != h) = false
  kind : (∃ x t, key = .int x t) ∨ (∃ x t, key = .str x t) ∨ ∃ a, key = .ref a
  str : ∀ x t, key = .str x t → (es.all fun e => isExactStrKey e.key) = true → ∀ (i : Nat) (e : DictEntry), es[i]? = some e → e.key.isStr x = eqs i
variable {eqs : Nat → Bool} {res : Option Nat}
theorem mem_places {i n : Nat} {f : Nat → Option Int} {h : Int} (hi : i ∈ placesWithHash n f h) : i < n ∧ f i = some h := by
  unfold placesWithHash at hi
  obtain ⟨h1, h2⟩ := List.mem_filter.mp hi
  exact ⟨List.mem_range.mp h1, by simpa using h2⟩
theorem in_places {i n : Nat} {f : Nat → Option Int} {h : Int} (h1 : i < n) (h2 : f i = some h) : i ∈ placesWithHash n f h := by
  unfold placesWithHash
  exact List.mem_filter.mpr ⟨List.mem_range.mpr h1, by simp [h2]⟩
theorem tell_quiet {stored : List Value} {Q : Bool → Shared → Prop} (h1 : ∀ Q : Bool → Shared → Prop, Q true s → wpAny (model prog w) A (eqIsQuiet 8 key) Q E s)
    (h2 : ∀ v ∈ stored, ∀ Q : Bool → Shared → Prop, Q true s → wpAny (model prog w) A (eqIsQuiet 8 v) Q E s) (q : Q false s) : wpAny (model prog w) A (tableMayTell key stored) Q E s := by
  unfold tableMayTell
  split
  · exact wpAny_pure q
  refine wpAny_bind (h1 _ ?_)
  simp only [Bool.not_true, Bool.false_eq_true, if_false]
  refine wpAny_bind (wpAny_forIn_list _ (fun rest r s' => s' = s ∧ r = (none, ()) ∧ ∀ v ∈ rest, v ∈ stored) _ ?_ ?_ _ _ ⟨rfl, rfl, fun _ hv => hv⟩)
  · rintro v rest r s' ⟨rfl, rfl, hr⟩
    refine wpAny_bind (h2 v (hr v List.mem_cons_self) _ ?_)
    simp only [Bool.not_true, Bool.false_eq_true, if_false]
    exact wpAny_pure ⟨rfl, rfl, fun u hu => hr u (List.mem_cons_of_mem _ hu)⟩
  · rintro r s' ⟨rfl, rfl, _⟩
    exact wpAny_pure q
/-- the walk where all keys of this hash are carried by value -/
theorem walk_plain {Q : Option Nat → Shared → Prop} (ho : s.heap.get? d = some o) (hd : o.data = .dict es ep) (k : Asks prog w A E s es key h eqs) (hres : ∀ i, eqs i = true ↔ res = some i) (q : Q res s) :
    wpAny (model prog w) A (dictWalkPlain d key h es (placesWithHash es.size (fun i => es[i]?.map (·.hash)) h)) Q E s := by
  unfold dictWalkPlain
  refine wpAny_bind (wpAny_forIn_list _ (fun rest r s' => s' = s ∧ r = (none, ()) ∧ (∀ i ∈ rest, i < es.size ∧ (es[i]?.map (·.hash)) = some h) ∧ ∀ i, eqs i = true → i ∈ rest) _ ?_ ?_ _ _ ⟨rfl, rfl, fun i hi => mem_places hi, fun i hi => ?_⟩)
  · rintro i rest r s' ⟨rfl, rfl, hr, hall⟩
    obtain ⟨hi, hh⟩ := hr i List.mem_cons_self
    obtain ⟨e, he⟩ : ∃ e, es[i]? = some e := ⟨es[i], Array.getElem?_eq_getElem hi⟩
    rw [he] at hh
    have hh' : e.hash = h := by simpa using hh
    simp only [he]
    rw [if_pos (by simp [hh'])]
    refine wpAny_bind (wpAny_dictEpoch ho hd (wpAny_bind (k.eq i e he hh' _ (wpAny_bind (wpAny_dictEpoch ho hd ?_)))))
    show wpAny _ _ (if (ep != ep) = true then _ else _) _ E _
    rw [if_neg (by simp)]
    cases hq : eqs i with
    | true =>
      have er := (hres i).mp hq
      simp only [if_true]
      refine wpAny_bind (wpAny_rule ?_)
      refine wpAny_pure ?_
      rw [er] at q
      exact wpAny_pure q
    | false =>
      simp only [Bool.false_eq_true, if_false]
      refine wpAny_bind (wpAny_rule (wpAny_pure ⟨rfl, rfl, fun j hj => hr j (List.mem_cons_of_mem _ hj), fun j hj => ?_⟩))
      rcases List.mem_cons.mp (hall j hj) with z | z
      · subst z; rw [hq] at hj; cases hj
      · exact z
  · rintro r s' ⟨rfl, rfl, _, hall⟩
    have er : res = none := by
      cases hq : res with
      | none => rfl
      | some i =>
        have := hall i ((hres i).mpr hq)
        simp at this
    rw [er] at q
    exact wpAny_pure q
  · by_cases hi2 : i < es.size
    · obtain ⟨e, he⟩ : ∃ e, es[i]? = some e := ⟨es[i], Array.getElem?_eq_getElem hi2⟩
      exact in_places hi2 (by rw [he]; simp [k.hit i e he hi])
    · rw [k.far i (by omega)] at hi; cases hi
/-- dictFind, whatever the keys -/
theorem find {Q : Option Nat → Shared → Prop} (ho : s.heap.get? d = some o) (hd : o.data = .dict es ep) (k : Asks prog w A E s es key h eqs) (hres : ∀ i, eqs i = true ↔ res = some i) (q : Q res s) :
    wpAny (model prog w) A (dictFind d key h) Q E s := by
  have inp : ∀ i, eqs i = true → i ∈ placesWithHash es.size (fun i => es[i]?.map (·.hash)) h := fun i hi => by
    by_cases hi2 : i < es.size
    · obtain ⟨e, he⟩ : ∃ e, es[i]? = some e := ⟨es[i], Array.getElem?_eq_getElem hi2⟩
      exact in_places hi2 (by rw [he]; simp [k.hit i e he hi])
    · rw [k.far i (by omega)] at hi; cases hi
  have hst : ∀ v ∈ (placesWithHash es.size (fun i => es[i]?.map (·.hash)) h).filterMap (fun i => es[i]?.map (·.key)), ∀ Q : Bool → Shared → Prop, Q true s → wpAny (model prog w) A (eqIsQuiet 8 v) Q E s := by
    intro v hv Q q
    obtain ⟨i, _, hi⟩ := List.mem_filterMap.mp hv
    cases hei : es[i]? with
    | none => rw [hei] at hi; cases hi
    | some e =>
      rw [hei] at hi
      obtain rfl : e.key = v := by simpa using hi
      exact k.quiets i e hei Q q
  have nd : (placesWithHash es.size (fun i => es[i]?.map (·.hash)) h).Nodup := by
    unfold placesWithHash
    exact List.filter_sublist.nodup List.nodup_range
  have none_of : (∀ i, eqs i = true → i ∈ ([] : List Nat)) → res = none := fun hall => by
    cases hq : res with
    | none => rfl
    | some i => have := hall i ((hres i).mpr hq); simp at this
  unfold dictFind
  try with_reducible refine wpAny_holding ?_
  refine wpAny_bind (wpAny_dictEntries ho hd ?_)
  dsimp only
  generalize hps : placesWithHash es.size (fun i => es[i]?.map (·.hash)) h = ps at *
  have hp0 : ∀ i ∈ ps, i < es.size ∧ (es[i]?.map (·.hash)) = some h := fun i hi => mem_places (hps ▸ hi)
  have plain : wpAny (model prog w) A (dictWalkPlain d key h es ps) Q E s := by
    rw [← hps]
    exact walk_plain ho hd k hres q
  have hany : ∀ a, key = .ref a → ¬ (es.any fun e => e.key == key && e.hash != h) = true := fun a e => by rw [k.ref a e]; simp
  have hstr : ∀ x t, key = .str x t → (es.all fun e => isExactStrKey e.key) = true → wpAny (model prog w) A (foundByValue d key es x) Q E s := by
    intro x t ek ha
    subst ek
    have hs := k.str x t rfl ha
    unfold foundByValue
    cases hf : es.findIdx? (fun e => e.key.isStr x) with
    | none =>
      have er : res = none := by
        cases hq : res with
        | none => rfl
        | some i =>
          have hi := (hres i).mpr hq
          have hlt : i < es.size := Nat.lt_of_not_le fun z => by rw [k.far i z] at hi; cases hi
          have h1 := Array.findIdx?_eq_none_iff.mp hf es[i] (Array.getElem_mem hlt)
          rw [hs i es[i] (Array.getElem?_eq_getElem hlt), hi] at h1
          cases h1
      rw [er] at q
      exact wpAny_pure q
    | some i =>
      obtain ⟨hlt, hi, _⟩ := Array.findIdx?_eq_some_iff_getElem.mp hf
      have he : es[i]? = some es[i] := Array.getElem?_eq_getElem hlt
      have hq : eqs i = true := by rw [← hs i _ he]; exact hi
      have er := (hres i).mp hq
      rw [er] at q
      simp only [he]
      refine wpAny_bind (wpAny_dictEpoch ho hd (wpAny_bind (k.eq i _ he (k.hit i _ he hq) _ (wpAny_bind (wpAny_dictEpoch ho hd ?_)))))
      show wpAny _ _ (if (ep != ep) = true then _ else _) _ E _
      rw [if_neg (by simp), hq]
      simp only [if_true]
      exact wpAny_bind (wpAny_rule (wpAny_pure q))
  have href : ∀ a, key = .ref a → ¬ ((key :: ps.filterMap (fun i => es[i]?.map (·.key))).all carriedByValue) = true := fun a e => by rw [e]; simp [carriedByValue]
  have kq := k.quiet
  have keq := k.eq
  have khit := k.hit
  have kone := k.one
  have kk := k.kind
  clear k
  rcases kk with ⟨x, t, rfl⟩ | ⟨x, t, rfl⟩ | ⟨a, rfl⟩
  · by_cases hv : ((Value.int x t :: ps.filterMap (fun i => es[i]?.map (·.key))).all carriedByValue) = true
    · rw [if_pos hv]
      first | exact plain | exact wpAny_bind (wpAny_mono plain (fun r s' hr => wpAny_pure hr) fun _ _ z => z)
    · rw [if_neg hv]
      by_cases hone : (ps.filterMap (fun i => es[i]?.map (·.key)) == [Value.int x t]) = true <;>
      (first | rw [if_pos hone] | rw [if_neg hone]) <;> (first | refine wpAny_bind (wpAny_pure ?_) | refine wpAny_bind (tell_quiet kq hst ?_)) <;> (
        rw [if_neg (by simp)]
        refine wpAny_bind (wpAny_forIn_list _ (fun rest r s' => s' = s ∧ ∃ hit, r = (none, hit) ∧ (∀ i ∈ rest, i < es.size ∧ (es[i]?.map (·.hash)) = some h) ∧ rest.Nodup ∧ ((hit = none ∧ ∀ i, eqs i = true → i ∈ rest) ∨ ∃ j, hit = some j ∧ eqs j = true ∧ j ∉ rest)) _ ?_ ?_ _ _ ⟨rfl, none, rfl, hp0, nd, .inl ⟨rfl, inp⟩⟩)
        · rintro i rest r s' ⟨rfl, hit, rfl, hr, hnd, hH⟩
          obtain ⟨hi, hh⟩ := hr i List.mem_cons_self
          obtain ⟨e, he⟩ : ∃ e, es[i]? = some e := ⟨es[i], Array.getElem?_eq_getElem hi⟩
          rw [he] at hh
          have hh' : e.hash = h := by simpa using hh
          have hr' : ∀ i ∈ rest, i < es.size ∧ (es[i]?.map (·.hash)) = some h := fun j hj => hr j (List.mem_cons_of_mem _ hj)
          have hnd' := (List.nodup_cons.mp hnd)
          simp only [he]
          rw [if_pos (by simp [hh'])]
          refine wpAny_bind (wpAny_dictEpoch ho hd (wpAny_bind (keq i e he hh' _ (wpAny_bind (wpAny_dictEpoch ho hd ?_)))))
          show wpAny _ _ (if (ep != ep) = true then _ else _) _ E _
          rw [if_neg (by simp)]
          cases hq : eqs i with
          | true =>
            have hn : hit = none := by
              rcases hH with ⟨z, _⟩ | ⟨j, _, hj, hjn⟩
              · exact z
              · have := kone i j hq hj
                subst this
                exact absurd List.mem_cons_self hjn
            subst hn
            simp only [if_true, Option.isSome_none, Bool.false_eq_true, if_false]
            refine wpAny_bind (wpAny_rule ?_)
            split
            · refine wpAny_pure ?_
              have er := (hres i).mp hq
              rw [er] at q
              exact wpAny_pure q
            · exact wpAny_pure ⟨rfl, some i, rfl, hr', hnd'.2, .inr ⟨i, rfl, hq, hnd'.1⟩⟩
          | false =>
            simp only [Bool.false_eq_true, if_false]
            refine wpAny_bind (wpAny_rule ?_)
            have hH' : (hit = none ∧ ∀ i, eqs i = true → i ∈ rest) ∨ ∃ j, hit = some j ∧ eqs j = true ∧ j ∉ rest := by
              rcases hH with ⟨z, hall⟩ | ⟨j, hj1, hj2, hj3⟩
              · refine .inl ⟨z, fun j hj => ?_⟩
                rcases List.mem_cons.mp (hall j hj) with y | y
                · subst y; rw [hq] at hj; cases hj
                · exact y
              · exact .inr ⟨j, hj1, hj2, fun z => hj3 (List.mem_cons_of_mem _ z)⟩
            first | exact wpAny_pure ⟨rfl, hit, rfl, hr', hnd'.2, hH'⟩ | (rw [if_neg (by simp)]; exact wpAny_pure ⟨rfl, hit, rfl, hr', hnd'.2, hH'⟩)
        · rintro r s' ⟨rfl, hit, rfl, _, _, hH⟩
          rcases hH with ⟨rfl, hall⟩ | ⟨j, rfl, hj, _⟩
          · rw [none_of hall] at q
            exact wpAny_pure q
          · rw [(hres j).mp hj] at q
            exact wpAny_pure q)
  · dsimp only
    by_cases ha : (es.all fun e => isExactStrKey e.key) = true
    · rw [if_pos ha]
      first | exact hstr x t rfl ha | exact wpAny_bind (wpAny_mono (hstr x t rfl ha) (fun r s' hr => wpAny_pure hr) fun _ _ z => z)
    · rw [if_neg ha]
      by_cases hv : ((Value.str x t :: ps.filterMap (fun i => es[i]?.map (·.key))).all carriedByValue) = true
      · rw [if_pos hv]
        first | exact plain | exact wpAny_bind (wpAny_mono plain (fun r s' hr => wpAny_pure hr) fun _ _ z => z)
      · rw [if_neg hv]
        by_cases hone : (ps.filterMap (fun i => es[i]?.map (·.key)) == [Value.str x t]) = true <;>
        (first | rw [if_pos hone] | rw [if_neg hone]) <;> (first | refine wpAny_bind (wpAny_pure ?_) | refine wpAny_bind (tell_quiet kq hst ?_)) <;> (
          rw [if_neg (by simp)]
          refine wpAny_bind (wpAny_forIn_list _ (fun rest r s' => s' = s ∧ ∃ hit, r = (none, hit) ∧ (∀ i ∈ rest, i < es.size ∧ (es[i]?.map (·.hash)) = some h) ∧ rest.Nodup ∧ ((hit = none ∧ ∀ i, eqs i = true → i ∈ rest) ∨ ∃ j, hit = some j ∧ eqs j = true ∧ j ∉ rest)) _ ?_ ?_ _ _ ⟨rfl, none, rfl, hp0, nd, .inl ⟨rfl, inp⟩⟩)
          · rintro i rest r s' ⟨rfl, hit, rfl, hr, hnd, hH⟩
            obtain ⟨hi, hh⟩ := hr i List.mem_cons_self
            obtain ⟨e, he⟩ : ∃ e, es[i]? = some e := ⟨es[i], Array.getElem?_eq_getElem hi⟩
            rw [he] at hh
            have hh' : e.hash = h := by simpa using hh
            have hr' : ∀ i ∈ rest, i < es.size ∧ (es[i]?.map (·.hash)) = some h := fun j hj => hr j (List.mem_cons_of_mem _ hj)
            have hnd' := (List.nodup_cons.mp hnd)
            simp only [he]
            rw [if_pos (by simp [hh'])]
            refine wpAny_bind (wpAny_dictEpoch ho hd (wpAny_bind (keq i e he hh' _ (wpAny_bind (wpAny_dictEpoch ho hd ?_)))))
            show wpAny _ _ (if (ep != ep) = true then _ else _) _ E _
            rw [if_neg (by simp)]
            cases hq : eqs i with
            | true =>
              have hn : hit = none := by
                rcases hH with ⟨z, _⟩ | ⟨j, _, hj, hjn⟩
                · exact z
                · have := kone i j hq hj
                  subst this
                  exact absurd List.mem_cons_self hjn
              subst hn
              simp only [if_true, Option.isSome_none, Bool.false_eq_true, if_false]
              refine wpAny_bind (wpAny_rule ?_)
              split
              · refine wpAny_pure ?_
                have er := (hres i).mp hq
                rw [er] at q
                exact wpAny_pure q
              · exact wpAny_pure ⟨rfl, some i, rfl, hr', hnd'.2, .inr ⟨i, rfl, hq, hnd'.1⟩⟩
            | false =>
              simp only [Bool.false_eq_true, if_false]
              refine wpAny_bind (wpAny_rule ?_)
              have hH' : (hit = none ∧ ∀ i, eqs i = true → i ∈ rest) ∨ ∃ j, hit = some j ∧ eqs j = true ∧ j ∉ rest := by
                rcases hH with ⟨z, hall⟩ | ⟨j, hj1, hj2, hj3⟩
                · refine .inl ⟨z, fun j hj => ?_⟩
                  rcases List.mem_cons.mp (hall j hj) with y | y
                  · subst y; rw [hq] at hj; cases hj
                  · exact y
                · exact .inr ⟨j, hj1, hj2, fun z => hj3 (List.mem_cons_of_mem _ z)⟩
              first | exact wpAny_pure ⟨rfl, hit, rfl, hr', hnd'.2, hH'⟩ | (rw [if_neg (by simp)]; exact wpAny_pure ⟨rfl, hit, rfl, hr', hnd'.2, hH'⟩)
          · rintro r s' ⟨rfl, hit, rfl, _, _, hH⟩
            rcases hH with ⟨rfl, hall⟩ | ⟨j, rfl, hj, _⟩
            · rw [none_of hall] at q
              exact wpAny_pure q
            · rw [(hres j).mp hj] at q
              exact wpAny_pure q)
  · rw [if_neg (href a rfl), if_neg (hany a rfl)]
    by_cases hone : (ps.filterMap (fun i => es[i]?.map (·.key)) == [Value.ref a]) = true <;>
    (first | rw [if_pos hone] | rw [if_neg hone]) <;> (first | refine wpAny_bind (wpAny_pure ?_) | refine wpAny_bind (tell_quiet kq hst ?_)) <;> (
      rw [if_neg (by simp)]
      refine wpAny_bind (wpAny_forIn_list _ (fun rest r s' => s' = s ∧ ∃ hit, r = (none, hit) ∧ (∀ i ∈ rest, i < es.size ∧ (es[i]?.map (·.hash)) = some h) ∧ rest.Nodup ∧ ((hit = none ∧ ∀ i, eqs i = true → i ∈ rest) ∨ ∃ j, hit = some j ∧ eqs j = true ∧ j ∉ rest)) _ ?_ ?_ _ _ ⟨rfl, none, rfl, hp0, nd, .inl ⟨rfl, inp⟩⟩)
      · rintro i rest r s' ⟨rfl, hit, rfl, hr, hnd, hH⟩
        obtain ⟨hi, hh⟩ := hr i List.mem_cons_self
        obtain ⟨e, he⟩ : ∃ e, es[i]? = some e := ⟨es[i], Array.getElem?_eq_getElem hi⟩
        rw [he] at hh
        have hh' : e.hash = h := by simpa using hh
        have hr' : ∀ i ∈ rest, i < es.size ∧ (es[i]?.map (·.hash)) = some h := fun j hj => hr j (List.mem_cons_of_mem _ hj)
        have hnd' := (List.nodup_cons.mp hnd)
        simp only [he]
        rw [if_pos (by simp [hh'])]
        refine wpAny_bind (wpAny_dictEpoch ho hd (wpAny_bind (keq i e he hh' _ (wpAny_bind (wpAny_dictEpoch ho hd ?_)))))
        show wpAny _ _ (if (ep != ep) = true then _ else _) _ E _
        rw [if_neg (by simp)]
        cases hq : eqs i with
        | true =>
          have hn : hit = none := by
            rcases hH with ⟨z, _⟩ | ⟨j, _, hj, hjn⟩
            · exact z
            · have := kone i j hq hj
              subst this
              exact absurd List.mem_cons_self hjn
          subst hn
          simp only [if_true, Option.isSome_none, Bool.false_eq_true, if_false]
          refine wpAny_bind (wpAny_rule ?_)
          split
          · refine wpAny_pure ?_
            have er := (hres i).mp hq
            rw [er] at q
            exact wpAny_pure q
          · exact wpAny_pure ⟨rfl, some i, rfl, hr', hnd'.2, .inr ⟨i, rfl, hq, hnd'.1⟩⟩
        | false =>
          simp only [Bool.false_eq_true, if_false]
          refine wpAny_bind (wpAny_rule ?_)
          have hH' : (hit = none ∧ ∀ i, eqs i = true → i ∈ rest) ∨ ∃ j, hit = some j ∧ eqs j = true ∧ j ∉ rest := by
            rcases hH with ⟨z, hall⟩ | ⟨j, hj1, hj2, hj3⟩
            · refine .inl ⟨z, fun j hj => ?_⟩
              rcases List.mem_cons.mp (hall j hj) with y | y
              · subst y; rw [hq] at hj; cases hj
              · exact y
            · exact .inr ⟨j, hj1, hj2, fun z => hj3 (List.mem_cons_of_mem _ z)⟩
          first | exact wpAny_pure ⟨rfl, hit, rfl, hr', hnd'.2, hH'⟩ | (rw [if_neg (by simp)]; exact wpAny_pure ⟨rfl, hit, rfl, hr', hnd'.2, hH'⟩)
      · rintro r s' ⟨rfl, hit, rfl, _, _, hH⟩
        rcases hH with ⟨rfl, hall⟩ | ⟨j, rfl, hj, _⟩
        · rw [none_of hall] at q
          exact wpAny_pure q
        · rw [(hres j).mp hj] at q
          exact wpAny_pure q)
end
end Mx

/-! such dicts in the hand layer. -/
namespace Mx
open PySem L2 PySem.SeqAt PySem.P3
abbrev MK := Key ⊕ List Key
def datK : MK → PyData
  | .inl k => SL.keyD k
  | .inr ks => .tuple (ks.map SL.keyD)
def hashK (P : Program) (w : World) : MK → Int
  | .inl k => (mixKind P w).hash k
  | .inr ks => (tupleKind (mixKind P w)).hash ks
/-- an entry: its key (a tuple's address), its value -/
abbrev ME := MK × Addr × V
def RelE (P : Program) (w : World) (x : ME) (e : DictEntry) : Prop := RelV x.2.2 e.val ∧ e.hash = hashK P w x.1 ∧ match x.1 with
  | .inl k => (mixKind P w).is k e.key = true
  | .inr _ => e.key = .ref x.2.1
def mixP (P : Program) (w : World) (q : Addr) (xs : List ME) (h : Heap) : Prop := (q == sysModules) = false ∧ xs.length ≤ sizeLine ∧ ∃ o es ep, h.get? q = some o ∧ o.ExactDict ∧ o.data = .dict es ep ∧ Paired (RelE P w) xs es.toList
/-- a dict with such keys -/
def mixO (P : Program) (w : World) (q : Addr) (xs : List ME) : HO := .ext (mixP P w q xs)
theorem mixO_ok {P : Program} {w : World} {q : Addr} {xs : List ME} {H : Hp} {h : Heap} (k : mixP P w q xs h) : ObjOk P w H h q (mixO P w q xs) := by
  refine ⟨k, ?_, fun h1 h2 k1 hk => ?_⟩
  · obtain ⟨_, _, o, _, _, e, _⟩ := k
    exact ⟨o, e⟩
  · obtain ⟨a, b, o, es, ep, e, r⟩ := k1
    exact ⟨a, b, o, es, ep, hk o e, r⟩
/-- the keys that are tuples stand in the heap; no key twice -/
structure KeysOk (H : Hp) (xs : List ME) : Prop where
  tup : ∀ x ∈ xs, ∀ ks, x.1 = .inr ks → H x.2.1 = some (.tup (ks.map kV))
  nd : (xs.map (·.1)).Nodup
  lay : ∀ x ∈ xs, (datK x.1).canLay0 = true
/-- a value as a key -/
def KeyV (H : Hp) : MK → V → Prop
  | .inl k, y => y = kV k
  | .inr ks, y => ∃ b, y = .ref b ∧ H b = some (.tup (ks.map kV))
def lookM (xs : List ME) (k : MK) : Option V := (xs.find? fun x => decide (x.1 = k)).map (·.2.2)
/-! ### data of keys -/
theorem eqv_key : ∀ (a b : Key), PyData.eqv (SL.keyD a) (SL.keyD b) = decide (a = b)
  | .inl i, .inl j => by
    simp only [SL.keyD, PyData.eqv]
    by_cases z : i = j
    · subst z; simp
    · have : ¬ (Sum.inl i : Key) = Sum.inl j := fun e => z (Sum.inl.inj e)
      simp [z, this]
  | .inr x, .inr y => by
    simp only [SL.keyD, PyData.eqv]
    by_cases z : x = y
    · subst z; simp
    · have : ¬ (Sum.inr x : Key) = Sum.inr y := fun e => z (Sum.inr.inj e)
      simp [z, this]
  | .inl i, .inr y => by simp [SL.keyD, PyData.eqv]
  | .inr x, .inl j => by simp [SL.keyD, PyData.eqv]
theorem eqv_keys : ∀ (a b : List Key), PyData.eqvAll (a.map SL.keyD) (b.map SL.keyD) = decide (a = b)
  | [], [] => by simp [PyData.eqvAll]
  | [], _ :: _ => by simp [PyData.eqvAll]
  | _ :: _, [] => by simp [PyData.eqvAll]
  | x :: xs, y :: ys => by
    simp only [List.map_cons, PyData.eqvAll, eqv_key, eqv_keys xs ys]
    by_cases z : x = y
    · subst z; simp
    · simp [z]
theorem eqv_dat (a b : MK) : PyData.eqv (datK a) (datK b) = decide (a = b) := by
  match a, b with
  | .inl x, .inl y =>
    rw [show datK (.inl x) = SL.keyD x from rfl, show datK (.inl y) = SL.keyD y from rfl, eqv_key]
    by_cases z : x = y
    · subst z; simp
    · have : ¬ (Sum.inl x : MK) = Sum.inl y := fun e => z (Sum.inl.inj e)
      simp [z, this]
  | .inr x, .inr y =>
    rw [show datK (.inr x) = .tuple (x.map SL.keyD) from rfl, show datK (.inr y) = .tuple (y.map SL.keyD) from rfl]
    simp only [PyData.eqv, eqv_keys]
    by_cases z : x = y
    · subst z; simp
    · have : ¬ (Sum.inr x : MK) = Sum.inr y := fun e => z (Sum.inr.inj e)
      simp [z, this]
  | .inl (.inl x), .inr y => simp [datK, SL.keyD, PyData.eqv]
  | .inl (.inr x), .inr y => simp [datK, SL.keyD, PyData.eqv]
  | .inr x, .inl (.inl y) => simp [datK, SL.keyD, PyData.eqv]
  | .inr x, .inl (.inr y) => simp [datK, SL.keyD, PyData.eqv]
theorem dep_key : ∀ k : Key, (SL.keyD k).depth ≤ 0
  | .inl i => by simp [SL.keyD, PyData.depth]
  | .inr x => by simp [SL.keyD, PyData.depth]
theorem dep_dat (k : MK) : (datK k).depth ≤ 1 := by
  match k with
  | .inl k => exact Nat.le_trans (dep_key k) (by decide)
  | .inr ks =>
    refine SL.dep_tup fun d hd => ?_
    obtain ⟨x, _, rfl⟩ := List.mem_map.mp hd
    exact dep_key x
theorem paired_get {α β : Type} {F : α → β → Prop} : ∀ {l : List α} {m : List β} {i : Nat} {b : β}, Paired F l m → m[i]? = some b → ∃ a, l[i]? = some a ∧ F a b
  | _, _, _, _, .nil, h => by simp at h
  | _, _, 0, _, .cons h _, e => by
    simp at e
    subst e
    exact ⟨_, rfl, h⟩
  | _, _, i + 1, b, .cons _ t, e => by
    obtain ⟨a, h1, h2⟩ := paired_get (i := i) (b := b) t (by simpa using e)
    exact ⟨a, by simpa using h1, h2⟩
theorem paired_len {α β : Type} {F : α → β → Prop} : ∀ {l : List α} {m : List β}, Paired F l m → l.length = m.length
  | _, _, .nil => rfl
  | _, _, .cons _ t => by simp [paired_len t]
def eqsOf (xs : List ME) (k : MK) (i : Nat) : Bool := match xs[i]? with
  | some x => decide (x.1 = k)
  | none => false
theorem eqsOf_true {xs : List ME} {k : MK} {i : Nat} (h : eqsOf xs k i = true) : ∃ x, xs[i]? = some x ∧ x.1 = k := by
  unfold eqsOf at h
  cases e : xs[i]? with
  | none => rw [e] at h; cases h
  | some x => rw [e] at h; exact ⟨x, rfl, of_decide_eq_true h⟩
theorem eqsOf_at {xs : List ME} {k : MK} {i : Nat} {x : ME} (h : xs[i]? = some x) : eqsOf xs k i = decide (x.1 = k) := by
  unfold eqsOf
  rw [h]
theorem nodup_at {xs : List ME} (nd : (xs.map (·.1)).Nodup) {i j : Nat} {x y : ME} (hi : xs[i]? = some x) (hj : xs[j]? = some y) (e : x.1 = y.1) : i = j := by
  have h1 : (xs.map (·.1))[i]? = some x.1 := by rw [List.getElem?_map, hi]; rfl
  have h2 : (xs.map (·.1))[j]? = some x.1 := by rw [List.getElem?_map, hj, e]; rfl
  obtain ⟨a1, a2⟩ := List.getElem?_eq_some_iff.mp h1
  obtain ⟨b1, b2⟩ := List.getElem?_eq_some_iff.mp h2
  rcases Nat.lt_trichotomy i j with z | z | z
  · exact absurd (a2.trans b2.symm) (List.pairwise_iff_getElem.mp nd i j a1 b1 z)
  · exact z
  · exact absurd (b2.trans a2.symm) (List.pairwise_iff_getElem.mp nd j i b1 a1 z)
/-! ### a key as it stands -/
section
variable {X : Cx} {pins : List (Addr × Obj)} {σ : St} {H : Hp} {s : Shared} {A : Around} {E : Value → Shared → Prop} {q : Addr} {xs : List ME} {k : MK} {y : V} {u : Value}
/-- the value of an entry's key, of the asked key -/
def IsU (P : Program) (w : World) (H : Hp) : MK → Value → Prop
  | .inl k, u => (mixKind P w).is k u = true
  | .inr ks, u => ∃ b, u = .ref b ∧ H b = some (.tup (ks.map kV))
theorem isU_of (h : KeyV H k y) (r : RelV y u) : IsU X.prog X.w H k u := by
  match k, h with
  | .inl k, h =>
    have h' : y = kV k := h
    subst h'
    exact kV_is r
  | .inr ks, ⟨b, e1, e2⟩ =>
    subst e1
    exact ⟨b, r, e2⟩
theorem isU_entry {x : ME} {e : DictEntry} (h : RelE X.prog X.w x e) (ko : ∀ ks, x.1 = .inr ks → H x.2.1 = some (.tup (ks.map kV))) : IsU X.prog X.w H x.1 e.key := by
  obtain ⟨_, _, h3⟩ := h
  obtain ⟨k, b, v⟩ := x
  match k, h3, ko with
  | .inl k, h3, _ => exact h3
  | .inr ks, h3, ko => exact ⟨b, h3, ko ks rfl⟩
theorem key_shape {P : Program} {w : World} {k : Key} {u : Value} (h : (mixKind P w).is k u = true) : (∃ i t, k = Sum.inl i ∧ u = Value.int i t) ∨ (∃ x t, k = Sum.inr x ∧ u = Value.str x t) := keyIs_shape h
theorem isU_reads (I : Inv X pins σ H s) (h : IsU X.prog X.w H k u) : ∃ as, Reads s.heap u (datK k) as := by
  match k, h with
  | .inl k, h =>
    rcases key_shape h with ⟨i, t, rfl, rfl⟩ | ⟨x, t, rfl, rfl⟩
    · exact Dp.reads I _ (.int i) _ (.int i) ⟨t, rfl⟩
    · exact Dp.reads I _ (.str x) _ (.str x) ⟨t, rfl⟩
  | .inr ks, ⟨b, e, hb⟩ =>
    subst e
    refine Dp.reads I _ (.ref b) _ (.tup (.inl (.inl hb)) ?_) rfl
    have aux : ∀ l : List Key, L2.DpAll X.K H (l.map kV) (l.map SL.keyD) := by
      intro l
      induction l with
      | nil => exact .nil
      | cons c r ih =>
        refine .cons ?_ ih
        cases c with
        | inl i => exact .int i
        | inr x => exact .str x
    exact aux ks
theorem isU_hash (hu : A.units + 1 < cLine) (I : Inv X pins σ H s) (h : IsU X.prog X.w H k u) {Q : Int → Shared → Prop} (q : ∀ n, Q (hashK X.prog X.w k) { s with toks := n }) : wpAny (model X.prog X.w) A (pyHash u) Q E s := by
  match k, h with
  | .inl k, h => exact (mixKind X.prog X.w).pyHash h (q _)
  | .inr ks, ⟨b, e, hb⟩ =>
    subst e
    exact (tupleKind (mixKind X.prog X.w)).pyHash (show A.units < cLine by omega) (key_of I.hok hb) (q _)
theorem isU_quiet (I : Inv X pins σ H s) (h : IsU X.prog X.w H k u) {Q : Bool → Shared → Prop} (q : Q true s) : wpAny (model X.prog X.w) A (eqIsQuiet 8 u) Q E s := by
  match k, h with
  | .inl k, h =>
    rw [eqIsQuiet_byValue _ ((mixKind X.prog X.w).byValue k u h)]
    exact wpAny_pure q
  | .inr ks, ⟨b, e, hb⟩ =>
    subst e
    exact (tupleKind (mixKind X.prog X.w)).quiet (key_of I.hok hb) q
theorem isU_eq (hu : A.units + 2 < cLine) (I : Inv X pins σ H s) {j : MK} {v : Value} (h1 : IsU X.prog X.w H j u) (h2 : IsU X.prog X.w H k v) (l1 : (datK j).canLay0 = true) (l2 : (datK k).canLay0 = true) {Q : Bool → Shared → Prop} (q : Q (decide (j = k)) s) :
    wpAny (model X.prog X.w) A (eqBool u v) Q E s := by
  obtain ⟨as, ra⟩ := isU_reads I h1
  obtain ⟨bs, rb⟩ := isU_reads I h2
  refine eqAt_reads _ _ A s u v as bs ra rb l1 l2 ?_ X.prog X.w E Q (by rw [eqv_dat]; exact q)
  have d1 := dep_dat j
  have d2 := Nat.min_le_left (datK j).depth (datK k).depth
  omega
theorem asks (hu : A.units + 2 < cLine) (I : Inv X pins σ H s) (ko : KeysOk H xs) {es : Array DictEntry} (pr : Paired (RelE X.prog X.w) xs es.toList) (hk : IsU X.prog X.w H k u) (lk : (datK k).canLay0 = true) :
    Asks X.prog X.w A E s es u (hashK X.prog X.w k) (eqsOf xs k) where
  eq := fun i e he _ Q q => by
    obtain ⟨x, hx, re⟩ := paired_get pr (show es.toList[i]? = some e by rw [Array.getElem?_toList]; exact he)
    have hm := List.mem_of_getElem? hx
    rw [eqsOf_at hx] at q
    exact isU_eq hu I (isU_entry re (ko.tup x hm)) hk (ko.lay x hm) lk q
  hit := fun i e he hi => by
    obtain ⟨x, hx, re⟩ := paired_get pr (show es.toList[i]? = some e by rw [Array.getElem?_toList]; exact he)
    obtain ⟨x', hx', e1⟩ := eqsOf_true hi
    rw [hx] at hx'
    cases hx'
    rw [re.2.1, e1]
  far := fun i hi => by
    have hl : xs.length = es.size := (paired_len pr).trans Array.length_toList
    unfold eqsOf
    have hx : xs[i]? = none := List.getElem?_eq_none (by rw [hl]; exact hi)
    rw [hx]
  one := fun i j hi hj => by
    obtain ⟨x, hx, e1⟩ := eqsOf_true hi
    obtain ⟨y, hy, e2⟩ := eqsOf_true hj
    exact nodup_at ko.nd hx hy (e1.trans e2.symm)
  quiet := fun Q q => isU_quiet I hk q
  quiets := fun i e he Q q => by
    obtain ⟨x, hx, re⟩ := paired_get pr (show es.toList[i]? = some e by rw [Array.getElem?_toList]; exact he)
    exact isU_quiet I (isU_entry re (ko.tup x (List.mem_of_getElem? hx))) q
  ref := fun a ea => by
    subst ea
    cases hq : (es.any fun e => e.key == Value.ref a && e.hash != hashK X.prog X.w k) with
    | false => rfl
    | true =>
      rw [← Array.any_toList, List.any_eq_true] at hq
      obtain ⟨e, he, hc⟩ := hq
      obtain ⟨i, hi⟩ := List.getElem?_of_mem he
      obtain ⟨x, hx, re⟩ := paired_get pr hi
      simp only [Bool.and_eq_true, beq_iff_eq, bne_iff_ne, ne_eq] at hc
      have h1 := isU_entry re (ko.tup x (List.mem_of_getElem? hx))
      have h2 := re.2.1
      exfalso
      apply hc.2
      rw [h2]
      rw [hc.1] at h1
      have same : x.1 = k := by
        match hx1 : x.1, h1, k, hk with
        | .inl c, h1, _, _ => rcases key_shape h1 with ⟨_, _, _, z⟩ | ⟨_, _, _, z⟩ <;> cases z
        | .inr c, _, .inl c', hk => rcases key_shape hk with ⟨_, _, _, z⟩ | ⟨_, _, _, z⟩ <;> cases z
        | .inr c, ⟨b, eb, hb⟩, .inr c', ⟨b', eb', hb'⟩ =>
          cases eb
          cases eb'
          rw [hb] at hb'
          have e3 : c.map kV = c'.map kV := by injection (Option.some.inj hb')
          have inj : ∀ (l m : List Key), l.map kV = m.map kV → l = m := by
            intro l
            induction l with
            | nil => intro m e; cases m with
              | nil => rfl
              | cons _ _ => simp at e
            | cons a r ih => intro m e; cases m with
              | nil => simp at e
              | cons b r' =>
                simp only [List.map_cons, List.cons.injEq] at e
                have : a = b := by
                  cases a <;> cases b <;> simp [kV] at e <;> simp [e.1]
                rw [this, ih r' e.2]
          rw [inj c c' e3]
      rw [same]
  kind := by
    match k, hk with
    | .inl c, hk =>
      rcases key_shape hk with ⟨i, t, _, z⟩ | ⟨x, t, _, z⟩
      · exact .inl ⟨i, t, z⟩
      · exact .inr (.inl ⟨x, t, z⟩)
    | .inr c, ⟨b, eb, _⟩ => exact .inr (.inr ⟨b, eb⟩)
  str := fun x t ex hall i e he => by
    subst ex
    obtain ⟨y, hy, re⟩ := paired_get pr (show es.toList[i]? = some e by rw [Array.getElem?_toList]; exact he)
    rw [eqsOf_at hy]
    have h1 := isU_entry re (ko.tup y (List.mem_of_getElem? hy))
    have hex : isExactStrKey e.key = true := by
      rw [← Array.all_toList, List.all_eq_true] at hall
      exact hall e (List.mem_of_getElem? (show es.toList[i]? = some e by rw [Array.getElem?_toList]; exact he))
    have hkx : k = .inl (.inr x) := by
      match k, hk with
      | .inl c, hk =>
        rcases key_shape hk with ⟨_, _, _, z⟩ | ⟨x', t', z1, z2⟩
        · cases z
        · cases z2
          rw [z1]
      | .inr c, ⟨b, eb, _⟩ => cases eb
    subst hkx
    match hy1 : y.1, h1 with
    | .inl c, h1 =>
      rcases key_shape h1 with ⟨i2, t2, z1, z2⟩ | ⟨x2, t2, z1, z2⟩
      · rw [z2] at hex; cases hex
      · rw [z2, z1]
        show (x2 == x) = _
        by_cases zz : x2 = x
        · subst zz; simp
        · have : ¬ (Sum.inl (Sum.inr x2) : MK) = Sum.inl (Sum.inr x) := fun e => zz (Sum.inr.inj (Sum.inl.inj e))
          simp [zz, this]
    | .inr c, ⟨b, eb, _⟩ => rw [eb] at hex; cases hex
/-! ### asking, storing -/
theorem lookM_some {v : V} (h : lookM xs k = some v) : ∃ (i : Nat) (x : ME), xs[i]? = some x ∧ x.1 = k ∧ x.2.2 = v := by
  unfold lookM at h
  obtain ⟨x, hx, e⟩ := Option.map_eq_some_iff.mp h
  obtain ⟨i, hi⟩ := List.getElem?_of_mem (List.mem_of_find?_eq_some hx)
  have h2 := List.find?_some hx
  exact ⟨i, x, hi, of_decide_eq_true h2, e⟩
theorem lookM_none (h : lookM xs k = none) : ∀ x ∈ xs, x.1 ≠ k := by
  unfold lookM at h
  intro x hx e
  have := List.find?_eq_none.mp (Option.map_eq_none_iff.mp h) x hx
  exact this (decide_eq_true e)
/-- what the dict at a holds at y -/
structure MGet (P : Program) (w : World) (H : Hp) (a : Addr) (y : V) (xs : List ME) (k : MK) : Prop where
  at_ : H a = some (mixO P w a xs)
  ko : KeysOk H xs
  key : KeyV H k y
  lay : (datK k).canLay0 = true
theorem mix_of (I : Inv X pins σ H s) (e : H q = some (mixO X.prog X.w q xs)) : mixP X.prog X.w q xs s.heap := (I.hok q _ e).1
theorem get_mix (hu : A.units + 2 < cLine) (I : Inv X pins σ H s) (g : MGet X.prog X.w H q y xs k) (ry : RelV y u) {Q : Option Value → Shared → Prop}
    (h : ∀ s' (ov : Option Value), Inv X pins σ H s' → RelO (lookM xs k) ov → Q ov s') : wpAny (model X.prog X.w) A (dictGet q u) Q E s := by
  obtain ⟨hq, hz, o, es, ep, ho, hc, hd, pr⟩ := mix_of I g.at_
  have hk := isU_of (X := X) g.key ry
  unfold dictGet
  try with_reducible refine wpAny_holding ?_
  refine wpAny_bind (isU_hash (by omega) I hk fun n => ?_)
  have I' := I.tok n
  cases hl : lookM xs k with
  | none =>
    refine wpAny_bind (find (s := { s with toks := n }) (res := none) ho hd (asks hu I' g.ko pr hk g.lay) (fun i => ⟨fun hi => ?_, fun z => by cases z⟩) ?_)
    · obtain ⟨x, hx, e⟩ := eqsOf_true hi
      exact absurd e (lookM_none hl x (List.mem_of_getElem? hx))
    · exact wpAny_pure (h _ none I' (by rw [hl]; exact True.intro))
  | some v =>
    obtain ⟨i, x, hx, e1, e2⟩ := lookM_some hl
    refine wpAny_bind (find (s := { s with toks := n }) (res := some i) ho hd (asks hu I' g.ko pr hk g.lay) (fun j => ⟨fun hj => ?_, fun z => ?_⟩) ?_)
    · obtain ⟨x', hx', e'⟩ := eqsOf_true hj
      rw [nodup_at g.ko.nd hx hx' (e1.trans e'.symm)]
    · cases z
      rw [eqsOf_at hx]
      exact decide_eq_true e1
    · refine wpAny_bind (wpAny_dictEntries (s := { s with toks := n }) ho hd ?_)
      have hlt : i < es.toList.length := by rw [← paired_len pr]; exact (List.getElem?_eq_some_iff.mp hx).1
      obtain ⟨x', hx', re⟩ := paired_get pr (List.getElem?_eq_getElem hlt)
      rw [hx] at hx'
      cases hx'
      have he : es[i]? = some es.toList[i] := by rw [← Array.getElem?_toList]; exact List.getElem?_eq_getElem hlt
      rw [he]
      refine wpAny_pure (h _ _ I' ?_)
      rw [hl, ← e2]
      exact re.1
theorem relO_isSome {o : Option V} {p : Option Value} (h : RelO o p) : o.isSome = p.isSome := by
  cases o <;> cases p <;> first | rfl | exact h.elim
theorem mix_type (I : Inv X pins σ H s) (e : H q = some (mixO X.prog X.w q xs)) : s.TypeIs (.ref q) "dict" := by
  obtain ⟨_, _, o, _, _, ho, hc, _⟩ := mix_of I e
  exact ⟨o, ho, hc.1⟩
/-- d[y] = v, y not there -/
theorem set_mix {v : V} {r : Value} (hu : A.units + 2 < cLine) (I : Inv X pins σ H s) (g : MGet X.prog X.w H q y xs k) (hn : lookM xs k = none) (hz1 : xs.length < sizeLine) (ry : RelV y u) (rv : RelV v r) {b : Addr} (hb : ∀ ks, k = .inr ks → y = .ref b) {Q : Unit → Shared → Prop}
    (h : ∀ s', Inv X pins σ (upd H q (mixO X.prog X.w q (xs ++ [(k, b, v)]))) s' → Q () s') : wpAny (model X.prog X.w) A (dictSet q u r) Q E s := by
  obtain ⟨hq, hz, o, es, ep, ho, hc, hd, pr⟩ := mix_of I g.at_
  have hk := isU_of (X := X) g.key ry
  unfold dictSet
  try with_reducible refine wpAny_holding ?_
  refine wpAny_bind (isU_hash (by omega) I hk fun n => ?_)
  have I' := I.tok n
  unfold dictSetHashed
  try with_reducible refine wpAny_holding ?_
  refine wpAny_bind (find (s := { s with toks := n }) (res := none) ho hd (asks hu I' g.ko pr hk g.lay) (fun i => ⟨fun hi => ?_, fun z => by cases z⟩) ?_)
  · obtain ⟨x, hx, e⟩ := eqsOf_true hi
    exact absurd e (lookM_none hn x (List.mem_of_getElem? hx))
  · have hl : xs.length = es.size := (paired_len pr).trans Array.length_toList
    refine wpAny_bind (wpAny_rule (wpAny_updateDictKeys (hz := by omega) (s := { s with toks := n }) ho hd ?_))
    have g1 : (s.heap.update q (Obj.mapDictKeys fun es => es.push ⟨hashK X.prog X.w k, u, r⟩)).get? q = _ := Heap.get?_update_self _ ho (Obj.isFreed_of_dict (Obj.data_mapDictKeys hd _))
    refine h _ (d_write I' (by rw [g.at_]; exact True.intro) (Heap.SameBut.update ..) ⟨_, g1⟩ (mixO_ok ⟨hq, by simp; omega, _, _, _, g1, hc.mapDictKeys _, Obj.data_mapDictKeys hd _, ?_⟩))
    rw [Array.toList_push]
    refine Paired.snoc pr ⟨rv, rfl, ?_⟩
    match k, hk, hb with
    | .inl c, hk, _ => exact hk
    | .inr c, ⟨b', eb, _⟩, hb =>
      have := hb c rfl
      subst this
      exact ry
/-! ### the roads -/
theorem m_getItem {v : V} (hu : A.units + 3 < cLine) (I : Inv X pins σ H s) (g : MGet X.prog X.w H q y xs k) (hv : lookM xs k = some v) (ry : RelV y u) {Q : Value → Shared → Prop} (h : ∀ w' s', Inv X pins σ H s' → RelV v w' → Q w' s') :
    wpAny (model X.prog X.w) A (getItem (.ref q) u) Q E s := by
  have ty := mix_type I g.at_
  unfold getItem
  try with_reducible refine wpAny_holding ?_
  refine wpAny_bind (wpAny_sequenceKey ty (by decide) ?_)
  refine wpAny_bind (wpAny_callSpecial?_slot (name := Str.ofString "__getitem__") ty slot_dict_getitem (wpAny_call_entry slot_dict_getitem ty entry_dict_getitem ?_ (args_dict_getitem _ _)))
  show wpAny _ _ (dictGet q u >>= _) _ _ s
  refine wpAny_bind (get_mix (A := A.in1) (by show A.units + 1 + 2 < cLine; omega) I g ry fun s' ov I' ro => ?_)
  rw [hv] at ro
  cases ov with
  | none => exact ro.elim
  | some w' => exact wpAny_pure ⟨w', rfl, wpAny_pure (h w' s' I' ro)⟩
theorem m_notIn (hu : A.units + 3 < cLine) (I : Inv X pins σ H s) (g : MGet X.prog X.w H q y xs k) (ry : RelV y u) {Q : Value → Shared → Prop} (h : ∀ s', Inv X pins σ H s' → Q (.bool (!(lookM xs k).isSome)) s') :
    wpAny (model X.prog X.w) A (compareOp .NotIn u (.ref q)) Q E s := by
  have ty := mix_type I g.at_
  have hq := (mix_of I g.at_).1
  show wpAny _ _ (do return .bool (!(← contains (.ref q) u))) Q E s
  refine wpAny_bind ?_
  unfold contains
  try with_reducible refine wpAny_holding ?_
  refine wpAny_bind (wpAny_specialOf ty slot_dict_contains.lookup ?_)
  show wpAny _ _ (if (some (Value.builtin "dict.__contains__") == some Value.none) = true then _ else _) _ E s
  rw [if_neg (by rw [beq_builtin_none]; exact Bool.false_ne_true)]
  refine wpAny_bind (wpAny_callSpecialUnlessNone?_slot (name := Str.ofString "__contains__") ty slot_dict_contains (wpAny_call_entry slot_dict_contains ty entry_dict_contains ?_ (args_dict_contains _ _)))
  show wpAny _ _ (dictGet q u >>= _) _ _ s
  refine wpAny_bind (get_mix (A := A.in1) (by show A.units + 1 + 2 < cLine; omega) I g ry fun s' ov I' ro => ?_)
  have e := relO_isSome ro
  have hh := h s' I'
  rw [e] at hh
  cases ov with
  | some p =>
    show wpAny _ _ (ret (.bool true)) _ _ _
    exact wpAny_pure ⟨_, rfl, wpAny_truthy_bool (wpAny_pure hh)⟩
  | none =>
    show wpAny _ _ (Builtin.Dict.pendingKey? q u >>= _) _ _ _
    exact wpAny_bind (wpAny_pendingKey_other hq (wpAny_pure ⟨_, rfl, wpAny_truthy_bool (wpAny_pure hh)⟩))
theorem m_setItem {v : V} {r : Value} (hu : A.units + 3 < cLine) (I : Inv X pins σ H s) (g : MGet X.prog X.w H q y xs k) (hn : lookM xs k = none) (hz1 : xs.length < sizeLine) (ry : RelV y u) (rv : RelV v r) {b : Addr} (hb : ∀ ks, k = .inr ks → y = .ref b) {Q : Unit → Shared → Prop}
    (h : ∀ s', Inv X pins σ (upd H q (mixO X.prog X.w q (xs ++ [(k, b, v)]))) s' → Q () s') : wpAny (model X.prog X.w) A (setItem (.ref q) u r) Q E s := by
  have ty := mix_type I g.at_
  unfold setItem
  try with_reducible refine wpAny_holding ?_
  refine wpAny_bind (wpAny_sequenceKey ty (by decide) ?_)
  refine wpAny_bind (wpAny_callSpecial?_slot (name := Str.ofString "__setitem__") ty slot_dict_setitem (wpAny_call_entry slot_dict_setitem ty entry_dict_setitem ?_ (args_dict_setitem _ _ _)))
  show wpAny _ _ (Builtin.Dict.notOrdered "__setitem__" ⟨[.ref q, u, r], []⟩ >>= _) _ _ s
  refine wpAny_bind (wpAny_notOrdered_dict ty ?_)
  show wpAny _ _ (dictSet q u r >>= _) _ _ s
  exact wpAny_bind (set_mix (A := A.in1) (by show A.units + 1 + 2 < cLine; omega) I g hn hz1 ry rv hb fun s' I' => wpAny_pure ⟨.none, rfl, wpAny_pure (h s' I')⟩)
end
/-! ### readings, rules -/
def tDNewM (P : Program) (w : World) : TE := fun _ H Q => ∀ p, H p = none → Q (.ref p) (upd H p (mixO P w p []))
def tDGetM (P : Program) (w : World) (td ty : TE) : TE := fun σ H Q => td σ H fun x H1 => ty σ H1 fun y H2 => ∃ a xs k v, x = .ref a ∧ MGet P w H2 a y xs k ∧ lookM xs k = some v ∧ Q v H2
def tDNotInM (P : Program) (w : World) (ty td : TE) : TE := fun σ H Q => ty σ H fun y H1 => td σ H1 fun x H2 => ∃ a xs k, x = .ref a ∧ MGet P w H2 a y xs k ∧ Q (.bl (!(lookM xs k).isSome)) H2
def rSetM (P : Program) (w : World) : V → V → V → Hp → (Hp → Prop) → Prop := fun o i v H Q => ∃ a xs k b, o = .ref a ∧ MGet P w H a i xs k ∧ lookM xs k = none ∧ xs.length < sizeLine ∧ (∀ ks, k = .inr ks → i = .ref b) ∧ Q (upd H a (mixO P w a (xs ++ [(k, b, v)])))
section
variable {X : Cx} {o i : Expr} {td ty : TE} {pos : Pos}
theorem pe_dnewM (P : Program) (w : World) (hP : X.prog = P := by rfl) (hw : X.w = w := by rfl) : PE X (.Dict [] [] pos) (tDNewM P w) := ⟨fun pins s σ H Q I h => by
  subst hP hw
  refine wpAny_Dict_empty ⟨.ref s.heap.objs.size, _, I.laid (a := s.heap.objs.size) (o := mixO X.prog X.w s.heap.objs.size []) (t' := s.toks) (fun _ _ q => Heap.get?_push_of_some _ q) (Nat.le_refl _) (mixO_ok ?_), rfl, h _ (I.hok.fresh (Nat.le_refl _))⟩
  have hb := I.big
  exact ⟨beq_eq_false_iff_ne.mpr (Nat.ne_of_gt hb), Nat.zero_le _, _, #[], 0, Heap.get?_push_size _ rfl, ⟨rfl, rfl, rfl⟩, rfl, .nil⟩⟩
theorem pe_dgetM (P : Program) (w : World) (hu : X.A.units + 3 < cLine) (ho : PE X o td) (hi : PE X i ty) (hs : NoSl i) (hP : X.prog = P := by rfl) (hw : X.w = w := by rfl) : PE X (.Subscript o i pos) (tDGetM P w td ty) := by
  subst hP hw
  refine ⟨fun pins s σ H Q I h => ?_⟩
  refine subD_of PySem.F.slot_dict_getitem.lookup hs (thn (ho.run pins s σ H _ I h) fun u s1 ⟨x, H1, I1, rx, q1⟩ => thn (hi.run pins s1 σ H1 _ I1 q1) fun iv s2 ⟨y, H2, I2, ry, a, xs, k, v, ex, g, hv, q2⟩ => ?_)
  subst ex
  obtain rfl : u = Value.ref a := rx
  exact ⟨mix_type I2 g.at_, m_getItem hu I2 g hv ry fun w' s3 I3 rw' => ⟨v, H2, I3, rw', q2⟩⟩
theorem pc_dnotinM (P : Program) (w : World) (hu : X.A.units + 3 < cLine) (hi : PE X i ty) (ho : PE X o td) (hP : X.prog = P := by rfl) (hw : X.w = w := by rfl) : PC X .NotIn i o (tDNotInM P w ty td) := by
  subst hP hw
  refine ⟨fun pins s σ H Q I h => ?_⟩
  refine thn (hi.run pins s σ H _ I h) fun iv s1 ⟨y, H1, I1, ry, q1⟩ => thn (ho.run pins s1 σ H1 _ I1 q1) fun u s2 ⟨x, H2, I2, rx, a, xs, k, ex, g, q2⟩ => ?_
  subst ex
  obtain rfl : u = Value.ref a := rx
  exact m_notIn hu I2 g ry fun s3 I3 => ⟨.bl (!(lookM xs k).isSome), H2, I3, rfl, q2⟩
theorem set_mixR (P : Program) (w : World) (hu : X.A.units + 3 < cLine) (hP : X.prog = P := by rfl) (hw : X.w = w := by rfl) : PSet X (rSetM P w) := by
  subst hP hw
  intro pins s σ H o i v ov iv u Q I ro ri rv h
  obtain ⟨a, xs, k, b, eo, g, hn, hz, hb, q⟩ := h
  subst eo
  cases (show ov = Value.ref a from ro)
  exact m_setItem hu I g hn hz ri rv hb fun s' I' => ⟨_, I', q⟩
end
end Mx

/-! dicts of mixed keys, owned by an instance or on the stack. -/
theorem L2.Room.u3 {k : Nat} {A : PySem.Around} (r : L2.Room k A) : A.units + 3 < PySem.cLine := by have := r.un; omega
namespace SL
open PySem L2 Evl Mx
/-- entries and their data -/
def MKD (K : PySem.W.Frag) (G : Hp) : List ME → List (MK × PyData) → Prop
  | [], [] => True
  | x :: xs, k :: ks => x.1 = k.1 ∧ Dp K G x.2.2 k.2 ∧ MKD K G xs ks
  | _, _ => False
def mlook (ks : List (MK × PyData)) (k : MK) : Option PyData := (ks.find? fun x => decide (x.1 = k)).map (·.2)
section
variable {K : PySem.W.Frag} {G G' H : Hp}
theorem MKD.mono (e : Ex G G') : ∀ {xs : List ME} {ks : List (MK × PyData)}, MKD K G xs ks → MKD K G' xs ks
  | [], [], _ => trivial
  | [], _ :: _, h => h.elim
  | _ :: _, [], h => h.elim
  | _ :: _, _ :: _, ⟨h1, h2, h3⟩ => ⟨h1, dpMono e _ _ h2, MKD.mono e h3⟩
theorem MKD.len : ∀ {xs : List ME} {ks : List (MK × PyData)}, MKD K G xs ks → xs.length = ks.length
  | [], [], _ => rfl
  | [], _ :: _, h => h.elim
  | _ :: _, [], h => h.elim
  | _ :: _, _ :: _, ⟨_, _, h⟩ => by simp [MKD.len h]
theorem MKD.snoc {x : ME} {k : MK × PyData} (h1 : x.1 = k.1) (h2 : Dp K G x.2.2 k.2) : ∀ {xs : List ME} {ks : List (MK × PyData)}, MKD K G xs ks → MKD K G (xs ++ [x]) (ks ++ [k])
  | [], [], _ => ⟨h1, h2, trivial⟩
  | [], _ :: _, h => h.elim
  | _ :: _, [], h => h.elim
  | _ :: _, _ :: _, ⟨a, b, h⟩ => ⟨a, b, MKD.snoc h1 h2 h⟩
theorem MKD.none {k : MK} : ∀ {xs : List ME} {ks : List (MK × PyData)}, MKD K G xs ks → mlook ks k = none → lookM xs k = none
  | [], [], _, _ => rfl
  | [], _ :: _, h, _ => h.elim
  | _ :: _, [], h, _ => h.elim
  | x :: xs, y :: ks, ⟨a, b, h⟩, e => by
    by_cases z : y.1 = k
    · simp [mlook, z] at e
    · have e2 : mlook ks k = Option.none := by simpa [mlook, z] using e
      have := MKD.none h e2
      have z' : ¬ x.1 = k := by rw [a]; exact z
      simpa [lookM, z'] using this
theorem MKD.some {k : MK} {d : PyData} : ∀ {xs : List ME} {ks : List (MK × PyData)}, MKD K G xs ks → mlook ks k = some d → ∃ v, lookM xs k = some v ∧ Dp K G v d
  | [], [], _, e => by cases e
  | [], _ :: _, h, _ => h.elim
  | _ :: _, [], h, _ => h.elim
  | x :: xs, y :: ks, ⟨a, b, h⟩, e => by
    by_cases z : y.1 = k
    · have z' : x.1 = k := a.trans z
      simp only [mlook, List.find?_cons, z, decide_true, Option.map_some, Option.some.injEq] at e
      subst e
      exact ⟨x.2.2, by simp [lookM, z'], b⟩
    · have e2 : mlook ks k = Option.some d := by simpa [mlook, z] using e
      obtain ⟨v, h1, h2⟩ := MKD.some h e2
      have z' : ¬ x.1 = k := by rw [a]; exact z
      exact ⟨v, by simpa [lookM, z'] using h1, h2⟩
theorem keysMono (e : Ex G G') {xs : List ME} (h : KeysOk G xs) : KeysOk G' xs := ⟨fun x hx ks z => e _ _ (h.tup x hx ks z), h.nd, h.lay⟩
end
/-- what is known of such a dict -/
def mD (K : PySem.W.Frag) (P : Program) (w : World) (q : Addr) (kvs : List (MK × PyData)) : DD where
  ok := fun G o => ∃ xs, o = mixO P w q xs ∧ KeysOk G xs ∧ MKD K G xs kvs
  mono := fun e ⟨xs, h1, h2, h3⟩ => ⟨xs, h1, keysMono e h2, h3.mono e⟩
/-- one on the stack or in a slot -/
def mixW (K : PySem.W.Frag) (P : Program) (w : World) (q : Addr) (kvs : List (MK × PyData)) : Ow where
  fp := [q]
  R := fun G H v => v = .ref q ∧ ∃ o, H q = some o ∧ (mD K P w q kvs).ok G o
  loc := fun {G G' H H' v} e k ⟨h1, o, h2, h3⟩ => ⟨h1, o, by rw [k q (by simp)]; exact h2, (mD K P w q kvs).mono e h3⟩
section
variable {K : PySem.W.Frag} {F F' : Fm} {G G' H H' : Hp} {τ σ : List (Option V)} {ε δ : List SD} {v x : V} {P : PV} {te ta tb td ty tv : TE} {D : Ends} {N : St → Hp → Prop}
  {p dx C q : Addr} {fs : List (Str × SD)} {m : List (Addr × DD)} {f : Str} {j : Nat} {Pr : Program} {w : World}
theorem ev_dnewM (k : ∀ p, p ∉ F.io → P (.ow (mixW F.K Pr w p [])) δ) : E F (tDNewM Pr w) δ P := fun τ ε G H σ Q s q => fun p hp =>
  q _ _ δ G _ (k p (s.fresh_io hp)) (Ex.refl _) (s.newO hp rfl ⟨rfl, _, upd_same, [], rfl, ⟨fun x hx => by simp at hx, by simp, fun x hx => by simp at hx⟩, trivial⟩)
/-- the key of data -/
theorem keyV_of {k : MK} {d : PyData} (e : Ex G H) (hd : d = datK k) (h : Dp K G v d) : KeyV H k v := by
  subst hd
  match k with
  | .inl c => exact dp_key h
  | .inr ks =>
    obtain ⟨b, h1, h2⟩ := dp_keyT h
    exact ⟨b, h1, e _ _ h2⟩
/-- where such a dict stands -/
inductive MSrc (K : PySem.W.Frag) (P : Program) (w : World) (δ : List SD) : Addr → List (MK × PyData) → Prop
  | ins {q p dx C : Addr} {fs : List (Str × SD)} {m : List (Addr × DD)} {kvs : List (MK × PyData)} (j : Nat) : δ[j]? = some (.ow (insO K p dx C fs m)) → (q, mD K P w q kvs) ∈ m → MSrc K P w δ q kvs
  | ow {q : Addr} {kvs : List (MK × PyData)} (j : Nat) : δ[j]? = some (.ow (mixW K P w q kvs)) → MSrc K P w δ q kvs
theorem S2.msrc {kvs : List (MK × PyData)} (s : S2 F G H τ ε σ δ) (h : MSrc F.K Pr w δ q kvs) : ∃ xs, H q = some (mixO Pr w q xs) ∧ KeysOk G xs ∧ MKD F.K G xs kvs := by
  cases h with
  | ins j hj hm =>
    obtain ⟨o, h1, xs, rfl, h2⟩ := (s.ins_at hj).2.2.2 _ hm
    exact ⟨xs, h1, h2⟩
  | ow j hj =>
    obtain ⟨ov, e, ok⟩ := s.slot hj
    obtain ⟨z, rfl⟩ := sd_some (by intro z; cases z) ok
    obtain ⟨_, o, h1, xs, rfl, h2⟩ := ok
    exact ⟨xs, h1, h2⟩
theorem ev_dnotinM (h : E F ty δ fun r δ1 => ∃ k : MK, r = .fz (datK k) ∧ (datK k).canLay0 = true ∧ E F td δ1 fun r2 δ2 => ∃ (q : Addr) (kvs : List (MK × PyData)), r2 = .al q ∧ MSrc F.K Pr w δ2 q kvs ∧ P (.fz (.bool (!(mlook kvs k).isSome))) δ2) : E F (tDNotInM Pr w ty td) δ P := fun τ ε G H σ Q s q =>
  h τ ε G H σ _ s fun y r δ1 G1 H1 ⟨k, hr, lk, h1⟩ e1 s1 => by
    subst hr
    have hy := fz_top s1
    refine h1 _ _ G1 H1 σ _ s1 fun x r2 δ2 G2 H2 ⟨a, kvs, hr2, hj, k2⟩ e2 s2 => ?_
    subst hr2
    have hx : x = .ref a := s2.top
    subst hx
    obtain ⟨xs, hxs, ko, kd⟩ := s2.msrc hj
    refine ⟨a, xs, k, rfl, ⟨hxs, keysMono s2.w.gh ko, keyV_of (K := F.K) s2.w.gh rfl (dpMono e2 _ _ hy), lk⟩, ?_⟩
    have e : (lookM xs k).isSome = (mlook kvs k).isSome := by
      cases q1 : mlook kvs k with
      | none => rw [MKD.none kd q1]; rfl
      | some d => obtain ⟨v, hv, _⟩ := MKD.some kd q1; rw [hv]; rfl
    rw [e]
    exact q _ _ δ2 G2 H2 k2 (Ex.trans e1 e2) (s2.pop2.push rfl (.bl _))
theorem ev_dgetM (h : E F td δ fun r δ1 => ∃ q, r = .al q ∧ E F ty δ1 fun r2 δ2 => ∃ (k : MK) (kvs : List (MK × PyData)) (d : PyData), r2 = .fz (datK k) ∧ (datK k).canLay0 = true ∧ MSrc F.K Pr w δ2 q kvs ∧ mlook kvs k = some d ∧ P (.fz d) δ2) : E F (tDGetM Pr w td ty) δ P := fun τ ε G H σ Q s q =>
  h τ ε G H σ _ s fun x r δ1 G1 H1 ⟨a, hr, h1⟩ e1 s1 => by
    subst hr
    have hx : x = .ref a := s1.top
    subst hx
    refine h1 _ _ G1 H1 σ _ s1 fun y r2 δ2 G2 H2 ⟨k, kvs, d, hr2, lk, hj, hd, k2⟩ e2 s2 => ?_
    subst hr2
    obtain ⟨xs, hxs, ko, kd⟩ := s2.msrc hj
    obtain ⟨v, hv, hdp⟩ := MKD.some kd hd
    exact ⟨a, xs, k, v, rfl, ⟨hxs, keysMono s2.w.gh ko, keyV_of (K := F.K) s2.w.gh rfl (fz_top s2), lk⟩, hv, q _ _ δ2 G2 H2 k2 (Ex.trans e1 e2) (s2.pop2.push rfl hdp)⟩
/-- d[k] = v, k not there, d the only own dict of the instance in slot j -/
theorem rn_setMI (h : E F tv δ fun r δ1 => ∃ d, r = .fz d ∧ E F td δ1 fun r2 δ2 => ∃ q, r2 = .al q ∧ E F ty δ2 fun r3 δ3 => ∃ (k : MK) (j : Nat) (p dx C : Addr) (fs : List (Str × SD)) (kvs : List (MK × PyData)), r3 = .fz (datK k) ∧ (datK k).canLay0 = true ∧
      δ3[j]? = some (.ow (insO F.K p dx C fs [(q, mD F.K Pr w q kvs)])) ∧ mlook kvs k = none ∧ kvs.length < 100000 ∧ Nx F D.nx (δ3.set j (.ow (insO F.K p dx C fs [(q, mD F.K Pr w q (kvs ++ [(k, d)]))])))) :
    Rn F (tAsg tv (gSub td ty (rSetM Pr w))) δ D := fun G H σ s => h [] [] G H σ _ s fun v r δ1 G1 H1 ⟨d, hr, h1⟩ _ s1 => by
  subst hr
  refine h1 _ _ G1 H1 σ _ s1 fun x r2 δ2 G2 H2 ⟨q, hr2, h2⟩ e2 s2 => ?_
  subst hr2
  have hx : x = .ref q := s2.top
  subst hx
  refine h2 _ _ G2 H2 σ _ s2 fun y r3 δ3 G3 H3 ⟨k, j, p, dx, C, fs, kvs, hr3, lk, hj, hn, hl, nx⟩ e3 s3 => ?_
  subst hr3
  have hy := fz_top s3
  obtain ⟨e4, g2, ⟨zs, g3, g4⟩, g5⟩ := s3.ins_at hj
  obtain ⟨_, hxs, xs, rfl, ko, kd⟩ := g5 (q, mD F.K Pr w q kvs) (by simp)
  have hv := fz_top s3.pop.pop
  have hl' := MKD.len kd
  have nd := ins_nd s3 hj
  have n1 := List.nodup_cons.mp nd
  have n2 := List.nodup_cons.mp n1.2
  have kn := MKD.none kd hn
  have kv := keyV_of (K := F.K) s3.w.gh rfl hy
  obtain ⟨b, hb1, hb2⟩ : ∃ b : Addr, (∀ ks, k = .inr ks → y = .ref b) ∧ ∀ ks, k = .inr ks → G3 b = some (.tup (ks.map kV)) := by
    match k, hy with
    | .inl c, _ => exact ⟨0, (fun ks z => by cases z), (fun ks z => by cases z)⟩
    | .inr ks, hy =>
      obtain ⟨b, h1, h2⟩ := dp_keyT hy
      exact ⟨b, (fun _ _ => h1), (fun ks' z => by cases z; exact h2)⟩
  refine ⟨q, xs, k, b, rfl, ⟨hxs, keysMono s3.w.gh ko, kv, lk⟩, kn, Nat.lt_of_lt_of_le (show xs.length < 100000 by omega) (by decide), hb1, ?_⟩
  refine nx G3 _ σ (s3.pop.pop.pop.mutG (o := mixO Pr w q (xs ++ [(k, b, v)])) (new := .ow (insO F.K p dx C fs [(q, mD F.K Pr w q (kvs ++ [(k, d)]))])) hj (by show q ∈ _; simp [SD.fp, insO]) rfl fun ov e => ?_)
  rw [e4] at e
  cases e
  refine ⟨rfl, ?_, ⟨zs, ?_, g4⟩, fun z hz => ?_⟩
  · rw [upd_ne (fun z => n2.1 (by rw [z]; simp))]; exact g2
  · rw [upd_ne (fun z => n1.1 (by rw [z]; simp))]; exact g3
  · have : z = (q, mD F.K Pr w q (kvs ++ [(k, d)])) := by simpa using hz
    subst this
    refine ⟨_, upd_same, _, rfl, ⟨fun z hz ks e => ?_, ?_, fun z hz => ?_⟩, kd.snoc rfl hv⟩
    · rcases List.mem_append.mp hz with a | a
      · exact ko.tup z a ks e
      · have : z = (k, b, v) := by simpa using a
        subst this
        exact hb2 ks e
    · rw [List.map_append]
      refine List.nodup_append.mpr ⟨ko.nd, by simp, fun a ha b' hb' z => ?_⟩
      have : b' = k := by simpa using hb'
      subst this
      subst z
      obtain ⟨y', hy', ey⟩ := List.mem_map.mp ha
      exact lookM_none kn y' hy' ey
    · rcases List.mem_append.mp hz with a | a
      · exact ko.lay z a
      · have : z = (k, b, v) := by simpa using a
        subst this
        exact lk
/-- e.f = such a dict on the stack, the instance's own from now on -/
theorem rn_fldM {kvs0 : List (MK × PyData)} (h : E F tv δ fun r δ1 => ∃ q kvs, r = .ow (mixW F.K Pr w q kvs) ∧ E F ta δ1 fun r2 δ2 => ∃ (p dx C : Addr) (fs : List (Str × SD)) (m : List (Addr × DD)) (j : Nat), r2 = .al p ∧ δ2[j]? = some (.ow (insO F.K p dx C fs m)) ∧ Cls F.K C ∧ NoAttr F.K C f ∧ fs.length < 1000 ∧ Nx F D.nx (δ2.set j (.ow (insO F.K p dx C (putS f (.al q) fs) (m ++ [(q, mD F.K Pr w q kvs)]))))) :
    Rn F (sFld F.K ta tv f) δ D := fun G H σ s => h [] [] G H σ _ s fun v r δ1 G1 H1 ⟨q, kvs, hr, h1⟩ _ s1 => by
  subst hr
  refine h1 _ _ G1 H1 σ _ s1 fun o r2 δ2 G2 H2 ⟨p, dx, C, fs, m, j, hr2, hj, c, n, hl, nx⟩ e2 s2 => ?_
  subst hr2
  have ho : o = .ref p := s2.top
  subst ho
  have s3 := s2.pop
  obtain ⟨hv, oo, hys, hkd⟩ := s3.top
  have hv' : v = .ref q := hv
  subst hv'
  obtain ⟨e3, h2, ⟨xs, h3, h4⟩, h5⟩ := s3.ins_at hj
  refine ⟨p, C, dx, xs, rfl, h3, c, n, by rw [FS.len h4]; exact hl, ?_⟩
  obtain ⟨l, q1, q2⟩ := fps_set_perm (s' := SD.ow (insO F.K p dx C (putS f (.al q) fs) (m ++ [(q, mD F.K Pr w q kvs)]))) hj
  have w3 : Wd F G2 H2 (q :: fps δ2) := s3.w
  have f1 : (SD.ow (insO F.K p dx C fs m)).fp = p :: dx :: m.map (·.1) := rfl
  have f2 : (SD.ow (insO F.K p dx C (putS f (.al q) fs) (m ++ [(q, mD F.K Pr w q kvs)]))).fp = p :: dx :: (m.map (·.1) ++ [q]) := by
    show p :: dx :: (m ++ [(q, mD F.K Pr w q kvs)]).map (·.1) = _
    rw [List.map_append]; rfl
  rw [f1] at q1
  rw [f2] at q2
  have w4 : Wd F G2 H2 ((p :: dx :: (m.map (·.1) ++ [q])) ++ l) := w3.perm (by
    refine List.Perm.trans ?_ (List.Perm.cons q q1.symm)
    have : (p :: dx :: (m.map (·.1) ++ [q])) ++ l = (p :: dx :: m.map (·.1)) ++ (q :: l) := by simp
    rw [this]
    exact List.perm_middle)
  have nd := w4.nd
  have nd2 : (p :: dx :: (m.map (·.1) ++ [q])).Nodup := (List.nodup_append.mp nd).1
  have wm := w4.mut (o := .ins C dx (putF f (.ref q) xs)) (p := p) (by simp)
  have n1 := List.nodup_cons.mp nd2
  refine nx G2 _ σ ⟨wm.perm q2, trivial, ?_⟩
  have n3 : (q :: fps δ2).Nodup := w3.nd
  refine oks_mut (old := .ow (insO F.K p dx C fs m)) s3.s (List.nodup_cons.mp n3).2 hj (fun b _ hb => upd_ne fun z => hb (by rw [z, f1]; simp)) fun ov e => ?_
  rw [e3] at e
  cases e
  refine ⟨rfl, ?_, ⟨_, upd_same, FS.putA h4⟩, fun x hx => ?_⟩
  · rw [upd_ne (fun z => n1.1 (by rw [z]; simp))]; exact h2
  · rcases List.mem_append.mp hx with hx | hx
    · obtain ⟨zs, h6, h7⟩ := h5 x hx
      exact ⟨zs, by rw [upd_ne (fun z => n1.1 (by rw [← z]; exact List.mem_cons_of_mem _ (List.mem_append_left _ (List.mem_map_of_mem hx))))]; exact h6, h7⟩
    · have : x = (q, mD F.K Pr w q kvs) := by simpa using hx
      subst this
      exact ⟨oo, by rw [upd_ne (fun z => n1.1 (by rw [← z]; simp))]; exact hys, hkd⟩
end
end SL

/-! texts, data in lists, dicts of numbers in slots. -/
namespace L2
open PySem PySem.SeqAt PySem.P3
theorem op_inD' {X : Cx} (K : PySem.W.Frag) (hu : X.A.units + 65 < cLine) (hK : X.K = K := by rfl) : OpR X (compareOp .In) (rInD K) := hK ▸ op_inD hu
theorem op_notInD' {X : Cx} (K : PySem.W.Frag) (hu : X.A.units + 65 < cLine) (hK : X.K = K := by rfl) : OpR X (compareOp .NotIn) (rNotInD K) := hK ▸ op_notInD hu
theorem Room.u65 {k : Nat} {A : Around} (r : Room k A) : A.units + 65 < cLine := by have := r.un; omega
theorem mt_indexD' {X : Cx} (K : PySem.W.Frag) (hu : X.A.units + 65 < cLine) (hK : X.K = K := by rfl) : MtR X "list.index" (rIndexD K) := hK ▸ mt_indexD hu
def rJoin (K : PySem.W.Frag) : V → List V → Hp → VK → Prop := fun x xs H Q => ∃ a p, ∃ ys : List Str, x = .str a ∧ xs = [.ref p] ∧ (SqL K H p (ys.map V.str) ∨ SqT K H p (ys.map V.str)) ∧ (ys.map (·.length)).sum + ys.length * a.length ≤ 16777216 ∧ Q (.str (Txt.join a ys)) H
theorem mt_join' {X : Cx} (K : PySem.W.Frag) (hK : X.K = K := by rfl) : MtR X "str.join" (rJoin K) := hK ▸ mt_join
def rSIndex : V → List V → Hp → VK → Prop := fun x xs H Q => ∃ a b i rest, x = .str a ∧ xs = [.str b] ∧ Builtin.Str.occurrences a b 0 a.length 1 = i :: rest ∧ Q (.int (i : Nat)) H
theorem mt_sindex' {X : Cx} : MtR X "str.index" rSIndex := mt_sindex
def rNotSign : R2 := fun x y H Q => ∃ (c : Nat) (z : Str), x = .str ⟨#[c]⟩ ∧ y = .str z ∧ Q (.bl (!decide (c ∈ z.cps.toList))) H
theorem op_notIn_sign' {X : Cx} : OpR X (compareOp .NotIn) rNotSign := op_notIn_sign
def rLenD : List V → Hp → VK → Prop := fun xs H Q => ∃ a kvs, xs = [V.ref a] ∧ H a = some (.dK kvs) ∧ Q (.int kvs.length) H
theorem call_lenD' {X : Cx} : CallR X (.builtin "len") rLenD := call_lenD
def rTxtI : List V → Hp → VK → Prop := fun xs H Q => ∃ i, xs = [.int i] ∧ i.natAbs.log2 < 1920 ∧ Q (.str (toString i)) H
theorem call_strI' {X : Cx} : CallR X (.type "str") rTxtI := call_str_int
theorem call_reprI' {X : Cx} : CallR X (.builtin "repr") rTxtI := SkE.call_repr_int
end L2
namespace SL
open PySem L2 Evl
section
variable {K : PySem.W.Frag} {F F' : Fm} {G G' H H' : Hp} {τ σ : List (Option V)} {ε δ : List SD} {v x : V} {P : PV} {te ta tb td ty tv tl th : TE} {D : Ends} {N : St → Hp → Prop} {tr : TA} {r ra rb : SD} {ds es : List PyData}
theorem o_inD {d : PyData} (h : LSrc δ rb ds) (c1 : SeqAt.shaped d = true) (c2 : SeqAt.shaped (.list ds) = true) (k : P (.fz (.bool (ds.any fun e => PyData.eqv e d))) δ) : O2 F (rInD F.K) (.fz d) rb δ P := fun τ ε G H σ Q x y s q => by
  obtain ⟨a, xs, rfl, sq, da⟩ := s.lsrc s.top h
  exact ⟨d, ds, dpTo _ _ (dpMono s.w.gh _ _ (fz_top2 s)), .lst sq (dpAllTo _ _ (dpAllMono s.w.gh _ _ da)), c1, c2, q _ _ δ G H k (Ex.refl _) (s.pop2.push rfl (.bl _))⟩
theorem o_notinD {d : PyData} (h : LSrc δ rb ds) (c1 : SeqAt.shaped d = true) (c2 : SeqAt.shaped (.list ds) = true) (k : P (.fz (.bool (!(ds.any fun e => PyData.eqv e d)))) δ) : O2 F (rNotInD F.K) (.fz d) rb δ P := fun τ ε G H σ Q x y s q => by
  obtain ⟨a, xs, rfl, sq, da⟩ := s.lsrc s.top h
  exact ⟨d, ds, dpTo _ _ (dpMono s.w.gh _ _ (fz_top2 s)), .lst sq (dpAllTo _ _ (dpAllMono s.w.gh _ _ da)), c1, c2, q _ _ δ G H k (Ex.refl _) (s.pop2.push rfl (.bl _))⟩
theorem o_notSign {c : Nat} {z : Str} (k : P (.fz (.bool (!decide (c ∈ z.cps.toList)))) δ) : O2 F rNotSign (.fz (.str ⟨#[c]⟩)) (.fz (.str z)) δ P := fun τ ε G H σ Q x y s q => by
  obtain rfl := dp_str (fz_top2 s)
  obtain rfl := dp_str (fz_top s)
  exact ⟨c, z, rfl, rfl, q _ _ δ G H k (Ex.refl _) (s.pop2.push rfl (.bl _))⟩
/-- xs.index(e), by data -/
theorem ev_indexD (h : E F ta δ fun r δ1 => ∃ ds0, LSrc δ1 r ds0 ∧ E F te δ1 fun r2 δ2 => ∃ (d : PyData) (ds : List PyData) (j : Nat) (z : PyData), r2 = .fz d ∧ LSrc δ2 r ds ∧ SeqAt.shaped (.list ds) = true ∧ SeqAt.shaped d = true ∧ ds[j]? = some z ∧ PyData.eqv z d = true ∧ (∀ (m : Nat) (z' : PyData), m < j → ds[m]? = some z' → PyData.eqv z' d = false) ∧ P (.fz (.int (j : Nat))) δ2) :
    E F (tBM F.K "list" (rIndexD F.K) ta (tCons te tNil)) δ P := fun τ ε G H σ Q s q =>
  h τ ε G H σ _ s fun x r δ1 G1 H1 ⟨ds0, hl, h1⟩ e1 s1 => by
    obtain ⟨a, xs, rfl, sq, da⟩ := s1.lsrc s1.top hl
    refine ⟨.inl ⟨rfl, xs, sq⟩, ?_⟩
    refine h1 _ _ G1 H1 σ _ s1 fun y r2 δ2 G2 H2 ⟨d, ds, j, z, hr, hl2, c1, c2, c3, c4, c5, k⟩ e2 s2 => ?_
    subst hr
    obtain ⟨a2, ys, ha, sq2, db⟩ := s2.pop.lsrc s2.pop.top hl2
    cases ha
    exact ⟨a, y, d, ds, j, z, rfl, rfl, .lst sq2 (dpAllTo _ _ (dpAllMono s2.w.gh _ _ db)), dpTo _ _ (dpMono s2.w.gh _ _ (fz_top s2)), c1, c2, c3, c4, c5, q _ _ δ2 G2 H2 k (Ex.trans e1 e2) (s2.pop2.push rfl (.int _))⟩
/-- s.index(sign) -/
theorem ev_sindex (h : E F ta δ fun r δ1 => ∃ a, r = .fz (.str a) ∧ E F te δ1 fun r2 δ2 => ∃ (b : Str) (i : Nat) (rest : List Nat), r2 = .fz (.str b) ∧ Builtin.Str.occurrences a b 0 a.length 1 = i :: rest ∧ P (.fz (.int (i : Nat))) δ2) :
    E F (tBM F.K "str" rSIndex ta (tCons te tNil)) δ P := fun τ ε G H σ Q s q =>
  h τ ε G H σ _ s fun x r δ1 G1 H1 ⟨a, hr, h1⟩ e1 s1 => by
    subst hr
    obtain rfl := dp_str (fz_top s1)
    refine ⟨rfl, ?_⟩
    refine h1 _ _ G1 H1 σ _ s1 fun y r2 δ2 G2 H2 ⟨b, i, rest, hr, ho, k⟩ e2 s2 => ?_
    subst hr
    obtain rfl := dp_str (fz_top s2)
    exact ⟨a, b, i, rest, rfl, rfl, ho, q _ _ δ2 G2 H2 k (Ex.trans e1 e2) (s2.pop2.push rfl (.int _))⟩
/-- sep.join(xs) -/
theorem ev_join (h : E F ta δ fun r δ1 => ∃ a, r = .fz (.str a) ∧ E F te δ1 fun r2 δ2 => ∃ ys : List Str, LSrc δ2 r2 (ys.map PyData.str) ∧ (ys.map (·.length)).sum + ys.length * a.length ≤ 16777216 ∧ P (.fz (.str (Txt.join a ys))) δ2) :
    E F (tBM F.K "str" (rJoin F.K) ta (tCons te tNil)) δ P := fun τ ε G H σ Q s q =>
  h τ ε G H σ _ s fun x r δ1 G1 H1 ⟨a, hr, h1⟩ e1 s1 => by
    subst hr
    obtain rfl := dp_str (fz_top s1)
    refine ⟨rfl, ?_⟩
    refine h1 _ _ G1 H1 σ _ s1 fun y r2 δ2 G2 H2 ⟨ys, hl, hz, k⟩ e2 s2 => ?_
    obtain ⟨p, vs, rfl, sq, da⟩ := s2.lsrc s2.top hl
    rw [DpAll.strs da] at sq
    exact ⟨a, p, ys, rfl, rfl, .inl sq, hz, q _ _ δ2 G2 H2 k (Ex.trans e1 e2) (s2.pop2.push rfl (.str _))⟩
/-- z[lo:hi] of a text -/
theorem ev_slX (h : E F te δ fun r δ1 => ∃ z : Str, r = .fz (.str z) ∧ z.length ≤ sizeLine ∧ E F tl δ1 fun r2 δ2 => ∃ i : Int, r2 = .fz (.int i) ∧ E F th δ2 fun r3 δ3 => ∃ j : Int, r3 = .fz (.int j) ∧ P (.fz (.str (Txt.slice z (some i) (some j)))) δ3) :
    E F (tSl C8.rSlX te (tPart tl) (tPart th)) δ P := fun τ ε G H σ Q s q =>
  h τ ε G H σ _ s fun x r δ1 G1 H1 ⟨z, hr, hz, h1⟩ e1 s1 => by
    subst hr
    obtain rfl := dp_str (fz_top s1)
    refine h1 _ _ G1 H1 σ _ s1 fun y r2 δ2 G2 H2 ⟨i, hr, h2⟩ e2 s2 => ?_
    subst hr
    refine ⟨i, dp_int (fz_top s2), ?_⟩
    refine h2 _ _ G2 H2 σ _ s2 fun y3 r3 δ3 G3 H3 ⟨j, hr, k⟩ e3 s3 => ?_
    subst hr
    exact ⟨j, dp_int (fz_top s3), z, rfl, hz, q _ _ δ3 G3 H3 k (Ex.trans (Ex.trans e1 e2) e3) (s3.pop.pop.pop.push rfl (.str _))⟩
theorem ev_slXto (h : E F te δ fun r δ1 => ∃ z : Str, r = .fz (.str z) ∧ z.length ≤ sizeLine ∧ E F th δ1 fun r3 δ3 => ∃ j : Int, r3 = .fz (.int j) ∧ P (.fz (.str (Txt.slice z none (some j)))) δ3) :
    E F (tSl C8.rSlX te tNoPart (tPart th)) δ P := fun τ ε G H σ Q s q =>
  h τ ε G H σ _ s fun x r δ1 G1 H1 ⟨z, hr, hz, h1⟩ e1 s1 => by
    subst hr
    obtain rfl := dp_str (fz_top s1)
    refine h1 _ _ G1 H1 σ _ s1 fun y3 r3 δ3 G3 H3 ⟨j, hr, k⟩ e3 s3 => ?_
    subst hr
    exact ⟨j, dp_int (fz_top s3), z, rfl, hz, q _ _ δ3 G3 H3 k (Ex.trans e1 e3) (s3.pop2.push rfl (.str _))⟩
theorem ev_slXfrom (h : E F te δ fun r δ1 => ∃ z : Str, r = .fz (.str z) ∧ z.length ≤ sizeLine ∧ E F tl δ1 fun r2 δ2 => ∃ i : Int, r2 = .fz (.int i) ∧ P (.fz (.str (Txt.slice z (some i) none))) δ2) :
    E F (tSl C8.rSlX te (tPart tl) tNoPart) δ P := fun τ ε G H σ Q s q =>
  h τ ε G H σ _ s fun x r δ1 G1 H1 ⟨z, hr, hz, h1⟩ e1 s1 => by
    subst hr
    obtain rfl := dp_str (fz_top s1)
    refine h1 _ _ G1 H1 σ _ s1 fun y r2 δ2 G2 H2 ⟨i, hr, k⟩ e2 s2 => ?_
    subst hr
    exact ⟨i, dp_int (fz_top s2), z, rfl, hz, q _ _ δ2 G2 H2 k (Ex.trans e1 e2) (s2.pop2.push rfl (.str _))⟩
theorem b_txtI {i : Int} (hz : i.natAbs.log2 < 1920) (k : P (.fz (.str (toString i))) δ) : OA F rTxtI [.fz (.int i)] δ P := fun τ ε G H σ Q vs el s q => by
  obtain ⟨x, rfl⟩ := one_of el
  obtain rfl := dp_int (fz_top s)
  exact ⟨i, rfl, hz, q _ _ δ G H k (Ex.refl _) (s.pop.push rfl (.str _))⟩
theorem b_lenD {a : Addr} {kvs : List (Key × PyData)} (h : DSrc F.K δ a kvs) (k : P (.fz (.int (kvs.length : Int))) δ) : OA F rLenD [.al a] δ P := fun τ ε G H σ Q vs el s q => by
  obtain ⟨x, rfl⟩ := one_of el
  have hx : x = .ref a := s.top
  subst hx
  obtain ⟨ys, h1, kd⟩ := s.dsrc h
  refine ⟨a, ys, rfl, h1, ?_⟩
  rw [KD.len kd]
  exact q _ _ δ G H k (Ex.refl _) (s.pop.push rfl (.int _))
/-- d[k] = v, d a dict of numbers and texts in slot j -/
theorem rn_setDO (h : E F tv δ fun r δ1 => ∃ d, r = .fz d ∧ E F td δ1 fun r2 δ2 => ∃ a, r2 = .al a ∧ E F ty δ2 fun r3 δ3 => ∃ (k : Key) (j : Nat) (kvs : List (Key × PyData)), r3 = .fz (keyD k) ∧ δ3[j]? = some (.od a kvs) ∧ kvs.length < 100000 ∧ Nx F D.nx (δ3.set j (.od a (dput kvs k d)))) :
    Rn F (tAsg tv (gSub td ty rSetD)) δ D := fun G H σ s => h [] [] G H σ _ s fun v r δ1 G1 H1 ⟨d, hr, h1⟩ _ s1 => by
  subst hr
  refine h1 _ _ G1 H1 σ _ s1 fun x r2 δ2 G2 H2 ⟨a, hr2, h2⟩ e2 s2 => ?_
  subst hr2
  have hx : x = .ref a := s2.top
  subst hx
  refine h2 _ _ G2 H2 σ _ s2 fun y r3 δ3 G3 H3 ⟨k, j, kvs, hr3, hj, hl, nx⟩ e3 s3 => ?_
  subst hr3
  obtain rfl := dp_key (fz_top s3)
  obtain ⟨ov, e4, ok⟩ := s3.slot hj
  obtain ⟨z, rfl⟩ := sd_some (by intro z; cases z) ok
  obtain ⟨rfl, ys, hys, kd⟩ := ok
  have hv := fz_top s3.pop.pop
  have hl' := KD.len kd
  refine ⟨a, _, rfl, DPut.k hys (Nat.lt_of_lt_of_le (show ys.length < 100000 by omega) (by decide)), ?_⟩
  refine nx G3 _ σ (s3.pop.pop.pop.mut (o := .dK (putK ys k v)) (new := .od a (dput kvs k d)) hj rfl rfl fun ov e => ?_)
  rw [e4] at e
  cases e
  exact ⟨rfl, _, upd_same, KD.put hv kd⟩
end
theorem bit1 (n : Nat) : Builtin.bitAnd (n : Int) 1 = ((n % 2 : Nat) : Int) := by
  have h : Builtin.bitAnd (n : Int) 1 = (((n : Int).toNat &&& (1 : Int).toNat : Nat) : Int) := by simp [Builtin.bitAnd]
  rw [h]
  simp [Nat.and_one_is_mod]
end SL

/-! defs whose first two arguments are owned things. -/
namespace SL
open PySem L2 Evl
/-- two owned things as one -/
def combO (K : PySem.W.Frag) (v0 v1 : V) (r0 r1 : SD) : Ow where
  fp := r0.fp ++ r1.fp
  R := fun G H v => v = v0 ∧ SD.ok K G H (some v0) r0 ∧ SD.ok K G H (some v1) r1
  loc := fun {G G' H H' v} e k ⟨h1, h2, h3⟩ => ⟨h1, ok_mono e (fun a ha => k a (List.mem_append_left _ ha)) h2, ok_mono e (fun a ha => k a (List.mem_append_right _ ha)) h3⟩
abbrev WB := SD → SD → List PyData → (SD → SD → SD → Prop) → Prop
def SpB (K : PySem.W.Frag) (W : WB) : Sp := fun vs H Q _ => ∃ G v0 v1 ws r0 r1 as post, vs = v0 :: v1 :: ws ∧ Ex G H ∧ SD.ok K G H (some v0) r0 ∧ SD.ok K G H (some v1) r1 ∧ (∀ a ∈ r0.fp ++ r1.fp, G a = none ∧ ∃ o, H a = some o) ∧ (r0.fp ++ r1.fp).Nodup ∧ DpAll K G ws as ∧ W r0 r1 as post ∧
  ∀ r s0 s1, post r s0 s1 → (∀ a ∈ r0.fp ++ r1.fp, a ∈ s0.fp ++ s1.fp) → ∀ v G' H', S2 ⟨K, G, H, r0.fp ++ r1.fp⟩ G' H' [some v] [r] [some v0, some v1] [s0, s1] → Q v H'
section
variable {K : PySem.W.Frag} {F F' : Fm} {G G' H H' : Hp} {τ σ : List (Option V)} {ε δ : List SD} {v x v0 v1 : V} {P : PV} {tr : TA} {r r0 r1 s0 s1 : SD} {j j0 j1 : Nat}
theorem S2.mv (s : S2 F G H τ ε σ δ) (hj : δ[j]? = some r) (hv : σ[j]? = some (some v)) : S2 F G H (some v :: τ) (r :: ε) σ (δ.set j .no) := by
  obtain ⟨ov, e, ok⟩ := s.slot hj
  rw [hv] at e
  cases e
  obtain ⟨l, q1, q2⟩ := fps_set_perm (s' := SD.no) hj
  refine ⟨s.w.perm ?_, ⟨ok, s.t⟩, Oks.setD (fun _ _ => trivial) s.s⟩
  show ((r.fp ++ fps ε) ++ fps (δ.set j .no)).Perm (fps ε ++ fps δ)
  refine (List.Perm.append_left _ q2).trans (List.Perm.trans ?_ (List.Perm.append_left _ q1.symm))
  show ((r.fp ++ fps ε) ++ l).Perm _
  rw [← List.append_assoc]
  exact List.Perm.append_right l List.perm_append_comm
theorem S2.fromSlot {ov : Option V} (s : S2 F G H τ ε (ov :: σ) (r :: δ)) : S2 F G H (ov :: τ) (r :: ε) σ δ := by
  refine ⟨s.w.perm ?_, ⟨s.s.1, s.t⟩, s.s.2⟩
  show ((r.fp ++ fps ε) ++ fps δ).Perm (fps ε ++ (r.fp ++ fps δ))
  rw [← List.append_assoc]
  exact List.Perm.append_right _ List.perm_append_comm
theorem S2.comb (s : S2 F G H (some v0 :: some v1 :: τ) (r0 :: r1 :: ε) σ δ) : S2 F G H (some v0 :: τ) (.ow (combO F.K v0 v1 r0 r1) :: ε) σ δ := by
  refine ⟨?_, ⟨⟨rfl, s.t.1, s.t.2.1⟩, s.t.2.2⟩, s.s⟩
  have w : Wd F G H ((r0.fp ++ (r1.fp ++ fps ε)) ++ fps δ) := s.w
  show Wd F G H (((r0.fp ++ r1.fp) ++ fps ε) ++ fps δ)
  rw [List.append_assoc r0.fp]
  exact w
theorem S2.uncomb (s : S2 F G H (some v0 :: τ) (.ow (combO F.K v0 v1 r0 r1) :: ε) σ δ) : S2 F G H (some v0 :: some v1 :: τ) (r0 :: r1 :: ε) σ δ := by
  obtain ⟨_, h1, h2⟩ := s.t.1
  refine ⟨?_, ⟨h1, h2, s.t.2⟩, s.s⟩
  have w : Wd F G H (((r0.fp ++ r1.fp) ++ fps ε) ++ fps δ) := s.w
  show Wd F G H ((r0.fp ++ (r1.fp ++ fps ε)) ++ fps δ)
  rw [List.append_assoc r0.fp] at w
  exact w
theorem set_same {σ : List (Option V)} (h : σ[j]? = some (some v)) : σ.set j (some v) = σ := by
  apply List.ext_getElem?
  intro i
  by_cases e : j = i
  · subst e
    rw [List.getElem?_set_self (List.getElem?_eq_some_iff.mp h).1, h]
  · rw [List.getElem?_set_ne e]
/-- behind such a call -/
theorem S2.callB {G1 H1 : Hp} (s : S2 F G H τ ε σ δ) (h1 : δ[j1]? = some r1) (h0 : (δ.set j1 .no)[j0]? = some r0) (e0 : σ[j0]? = some (some v0)) (e1 : σ[j1]? = some (some v1))
    (c : S2 ⟨F.K, G, H, r0.fp ++ r1.fp⟩ G1 H1 [some v] [r] [some v0, some v1] [s0, s1]) (hs : ∀ a ∈ r0.fp ++ r1.fp, a ∈ s0.fp ++ s1.fp) :
    S2 F G1 H1 (some v :: τ) (r :: ε) σ (((((δ.set j1 .no).set j0 .no)).set j0 s0).set j1 s1) ∧ ∀ a ∈ r.fp, a ∉ F.io := by
  have a1 := ((s.mv h1 e1).mv h0 e0).comb.toSlot
  have c1 : S2 ⟨F.K, G, H, (SD.ow (combO F.K v0 v1 r0 r1)).fp⟩ G1 H1 [some v] [r] [some v0] [.ow (combO F.K v0 v1 s0 s1)] := by
    refine ⟨?_, c.t, ⟨⟨rfl, c.s.1, c.s.2.1⟩, trivial⟩⟩
    have w : Wd ⟨F.K, G, H, r0.fp ++ r1.fp⟩ G1 H1 ((r.fp ++ []) ++ (s0.fp ++ (s1.fp ++ []))) := c.w
    show Wd ⟨F.K, G, H, r0.fp ++ r1.fp⟩ G1 H1 ((r.fp ++ []) ++ ((s0.fp ++ s1.fp) ++ []))
    simpa using w
  have io := new_io a1 c1 hs
  have a2 := (S2.callO (j := 0) a1 rfl rfl c1).fromSlot.uncomb
  have l0 : (((δ.set j1 SD.no).set j0 .no))[j0]? = some SD.no := List.getElem?_set_self (by have := (List.getElem?_eq_some_iff.mp h0).1; simpa using this)
  have a3 := a2.store l0
  have lj1 : j1 < ((((δ.set j1 SD.no).set j0 .no)).set j0 s0).length := by
    have := (List.getElem?_eq_some_iff.mp h1).1
    simpa using this
  have a4 := a3.store (List.getElem?_eq_getElem lj1)
  rw [set_same e0, set_same e1] at a4
  exact ⟨a4, io⟩
theorem ev_callB {W : WB} {X0 : XK} (h : EA F tr δ fun rs δ1 => ∃ p0 p1 r0 r1 j0 j1 as, rs = .al p0 :: .al p1 :: as.map SD.fz ∧ δ1[j1]? = some r1 ∧ (δ1.set j1 .no)[j0]? = some r0 ∧ Pins F.K r0 p0 ∧ Pins F.K r1 p1 ∧ W r0 r1 as fun r s0 s1 => (∀ a ∈ r.fp, a ∉ F.io) → P r (((((δ1.set j1 .no).set j0 .no)).set j0 s0).set j1 s1)) :
    E F (tCall (SpB F.K W) [] X0 tr) δ P := fun τ ε G H σ Q s q =>
  h τ ε G H σ _ s fun vs rs δ1 G1 H1 ⟨p0, p1, r0, r1, j0, j1, as, hrs, h1, h0, n0, n1, k⟩ e1 el s1 => by
    subst hrs
    rw [List.append_nil]
    have sp := Oks.split (by simpa using el) s1.t
    have sc := S2.popN el s1
    match vs, el, sp with
    | w0 :: w1 :: ws, el, sp =>
      obtain ⟨hw0, hw1, hws⟩ := sp.1
      have hw0' : w0 = .ref p0 := hw0
      have hw1' : w1 = .ref p1 := hw1
      subst hw0' hw1'
      obtain ⟨ov1, e3, ok1⟩ := sc.slot h1
      obtain ⟨x1, rfl⟩ := sd_some n1.1 ok1
      obtain rfl := n1.2 _ _ _ ok1
      have sd := sc.mv h1 e3
      obtain ⟨ov0, e4, ok0⟩ := sd.slot h0
      obtain ⟨x0, rfl⟩ := sd_some n0.1 ok0
      obtain rfl := n0.2 _ _ _ ok0
      have se := (sd.mv h0 e4).comb.toSlot
      obtain ⟨ow, nd⟩ := S2.own_of (j := 0) se rfl
      refine ⟨G1, .ref p0, .ref p1, ws, r0, r1, as, _, rfl, s1.w.gh, ok0, ok1, ow, nd, oks_fz hws, k, fun r s0 s1' pp hs v G' H' c => ?_⟩
      obtain ⟨a4, io⟩ := sc.callB h1 h0 e4 e3 c hs
      exact q v r _ G' H' (pp io) (Ex.trans e1 c.w.g0) a4
theorem bodyB {W : WB} {N : List Str} {vs : List V} {Q : VK} {X0 : XK} {t : TS} (h : SpB K W vs H Q X0)
    (hb : ∀ F r0 r1 as post, F.K = K → F.io = r0.fp ++ r1.fp → W r0 r1 as post → (∀ r δ s0 s1 p0 p1, δ[0]? = some s0 → δ[1]? = some s1 → Pins K r0 p0 → Pins K r1 p1 → Pins K s0 p0 → Pins K s1 p1 → post r s0 s1 → (∀ a ∈ r0.fp ++ r1.fp, a ∈ s0.fp ++ s1.fp) → Ro F Q r δ) →
      Rn F t (startD N.length (r0 :: r1 :: as.map SD.fz)) { nx := fun _ H' => Q .non H', rt := Q }) : t { nx := fun _ H' => Q .non H', rt := Q } (L2.start N vs) H := by
  obtain ⟨G, v0, v1, ws, r0, r1, as, post, rfl, ex, ok0, ok1, ow, nd, da, w, k⟩ := h
  refine hb ⟨K, G, H, r0.fp ++ r1.fp⟩ r0 r1 as post rfl rfl w (fun r δ s0 s1 p0 p1 h0 h1 n0 n1 m0 m1 pp hs v G' H' σ s => ?_) G H _ ?_
  · refine k r s0 s1 pp hs v G' H' ?_
    obtain rfl : v0 = .ref p0 := n0.2 G H v0 ok0
    obtain rfl : v1 = .ref p1 := n1.2 G H v1 ok1
    match δ, h0, h1, s with
    | d0 :: d1 :: δ', h0, h1, s =>
      have e0 : d0 = s0 := by simpa using h0
      have e1 : d1 = s1 := by simpa using h1
      subst e0 e1
      have ss := s.s
      match σ, ss with
      | o0 :: o1 :: σ', ss =>
        obtain ⟨u0, rfl⟩ := sd_some m0.1 ss.1
        obtain ⟨u1, rfl⟩ := sd_some m1.1 ss.2.1
        obtain rfl : u0 = .ref p0 := m0.2 G' H' u0 ss.1
        obtain rfl : u1 = .ref p1 := m1.2 G' H' u1 ss.2.1
        refine ⟨s.w.sub ?_, s.t, ⟨ss.1, ss.2.1, trivial⟩⟩
        show (fps [r] ++ (d0.fp ++ (d1.fp ++ []))).Sublist (fps [r] ++ (d0.fp ++ (d1.fp ++ fps δ')))
        exact List.Sublist.append_left (List.Sublist.append_left (List.Sublist.append_left (List.nil_sublist _) _) _) _
  · have hl : fps (startD N.length (r0 :: r1 :: as.map SD.fz)) = r0.fp ++ r1.fp := by
      unfold startD
      rw [fps_app, fps_no]
      show (r0.fp ++ (r1.fp ++ fps (as.map SD.fz))) ++ [] = r0.fp ++ r1.fp
      rw [fps_fz]
      simp
    refine ⟨?_, trivial, ?_⟩
    · show Wd _ G H (fps [] ++ _)
      rw [hl]
      exact ⟨ex, ow, nd, Ex.refl _, fun a o e _ => e, fun a o e => .inl e, fun a ha => .inl ha, fun a ha => (ow a ha).2⟩
    · unfold L2.start startD
      have e1 : (r0 :: r1 :: as.map SD.fz).length = (v0 :: v1 :: ws).length := by simp [DpAll.len da]
      rw [e1]
      exact Oks.app (τ := (v0 :: v1 :: ws).map some) ⟨ok0, ok1, oks_ofDp da⟩ (oks_nones _)
theorem pins_ol {p : Addr} {ds : List PyData} : Pins K (.ol p ds) p := ⟨fun z => (by cases z), fun G H v h => h.1⟩
end
end SL

/-! dict(zip(a list, a range)): the range's iterator in a zip, the zip while its pair is still held. -/
namespace PySem
open Sem (wp)
section
variable {prog : Program} {w : World} {A : Around} {E : Value → Shared → Prop} {s : Shared}
theorem nextOf_range_item {it : Addr} {x left step : Int} {Q : Value → Shared → Prop} (hit : IsRangeIter s.heap it x left step) (hleft : 0 < left)
    (hQ : ∀ h', IsRangeIter h' it (x + step) (left - 1) step → Heap.SameBut it s.heap h' → Q (.int x s.toks) { s with heap := h', toks := s.toks + 1 }) :
    wpAny (model prog w) A (Builtin.SmallTypes.nextOf (.ref it)) Q E s := by
  have hT : s.TypeIs (.ref it) "range_iterator" := ⟨_, hit, rfl⟩
  unfold Builtin.SmallTypes.nextOf
  refine wpAny_bind (wpAny_callSpecial?_slot (name := Str.ofString "__next__") hT F.slot_range_iterator_next
    (call_meets F.slot_range_iterator_next hT F.entry_range_iterator_next (F.args_range_iterator_next_1 _) (AutoRange.range_iterator___next___range_iterator_1 it x left step (by omega)) ⟨hit, ?_⟩))
  exact wpAny_pure (hQ _ (Heap.get?_update_self _ (Heap.get?_update_self _ hit rfl) rfl) ((Heap.SameBut.update ..).trans (Heap.SameBut.update ..)))
theorem nextOf_range_end {it : Addr} {x left step : Int} {Q : Value → Shared → Prop} (hh : A.handled = none) (hit : IsRangeIter s.heap it x left step) (hleft : left ≤ 0)
    (hE : ∀ h' e, Heap.ExtBut it s.heap h' → (∃ o, h'.get? e = some o ∧ o.cls = .type "StopIteration") → E (.ref e) { s with heap := h' }) : wpAny (model prog w) A (Builtin.SmallTypes.nextOf (.ref it)) Q E s := by
  have hT : s.TypeIs (.ref it) "range_iterator" := ⟨_, hit, rfl⟩
  unfold Builtin.SmallTypes.nextOf
  refine wpAny_bind (wpAny_callSpecial?_slot (name := Str.ofString "__next__") hT F.slot_range_iterator_next
    (wpAny_call_entry F.slot_range_iterator_next hT F.entry_range_iterator_next ?_ (F.args_range_iterator_next_1 _)))
  show wpAny _ _ (field (.ref it) 0 >>= _) _ _ s
  refine wpAny_bind (wpAny_field hit rfl (x := rawInt x) rfl ?_)
  show wpAny _ _ (field (.ref it) 1 >>= _) _ _ s
  refine wpAny_bind (wpAny_field hit rfl (x := rawInt left) rfl ?_)
  show wpAny _ _ (field (.ref it) 2 >>= _) _ _ s
  refine wpAny_bind (wpAny_field hit rfl (x := rawInt step) rfl ?_)
  show wpAny _ _ (if left ≤ 0 then _ else _) _ _ s
  rw [if_pos hleft]
  refine wpAny_bind (wpAny_rule ?_)
  refine wpAny_bind ?_
  show wpAny _ _ (newExc (.type "StopIteration") [] >>= _) _ _ _
  refine wpAny_bind ?_
  simp only [newExc, newTuple]
  refine wpAny_bind (wpAny_newObj_type ?_ (by size_fits))
  refine wpAny_bind (m := firstArgMember _ _) (wpAny_of_eq (a := Value.none) (by first | rfl | (simp only [firstArgMember]; rfl)) ?_)
  refine wpAny_newObj_type ?_ (by size_fits)
  simp only [raiseNew]
  refine wpAny_bind (wpAny_handled ?_)
  first | rw [show A.in1.handled = none from hh] | rw [hh]
  refine wpAny_bind (wpAny_pure (wpAny_throw ?_))
  exact hE _ _ (((Heap.ExtBut.refl it s.heap).push _).push _) ⟨_, Heap.get?_push_size _ rfl, rfl⟩
theorem drawsRange (hh : A.handled = none) (it : Addr) (n : Nat) : Draws prog w A it [it] n (fun i v => ∃ t, v = .int (i : Int) t) (fun i h => IsRangeIter h it (i : Int) ((n : Int) - (i : Int)) 1) where
  live := fun _ _ st => ⟨_, st⟩
  frame := fun _ _ _ st hk => hk it (by simp) _ st
  item := fun i s Q E hi st hQ => nextOf_range_item st (by omega) fun h' hit' hs' => hQ _ h' _ ⟨_, rfl⟩ (by
    have e : (n : Int) - (i : Int) - 1 = (n : Int) - ((i + 1 : Nat) : Int) := by omega
    rw [e] at hit'
    exact hit') hs'
  done := fun s Q E st hE => nextOf_range_end hh st (by omega) hE
theorem begins_range {r : Addr} {n : Int} {t u v : Tok} (hs : Builtin.Range.small 0 n 1 = true) : Begins (.ref r) { cls := .type "range_iterator", data := .fields #[rawInt 0, rawInt (Builtin.Range.rangeSize 0 n 1), rawInt 1] } fun h => IsRange h r 0 n 1 t u v where
  iter := fun prog w A E s Q hr h => wpAny_pyIter_range hr hs h
  keeps := fun h h' x hk => hk r _ x
  free := rfl
end
section
variable {prog : Program} {w : World} {A : Around} {E : Value → Shared → Prop} {s : Shared} {z TI TO i1 i2 T : Addr} {f : Bool} {oT : Obj} {fp1 fp2 : List Addr} {n1 n2 i : Nat} {P1 P2 : Nat → Value → Prop} {St1 St2 : Nat → Heap → Prop}
theorem zipHeld_item {Q : Value → Shared → Prop} (S : ZipSep2 z TI TO i1 i2 fp1 fp2) (D1 : Draws prog w A i1 fp1 n1 P1 St1) (D2 : Draws prog w A i2 fp2 n2 P2 St2)
    (hz : IsZipHeld s.heap z TI TO T f) (hT : s.heap.get? T = some oT) (hTI : IsTupOf2 s.heap TI (.ref i1) (.ref i2)) (st1 : St1 i s.heap) (st2 : St2 i s.heap) (hlt1 : i < n1) (hlt2 : i < n2)
    (hQ : ∀ x1 x2 h' tk, P1 i x1 → P2 i x2 → IsZipHeld h' z TI TO T true → St1 (i + 1) h' → St2 (i + 1) h' → IsTupOf2 h' s.heap.objs.size x1 x2 → h'.objs.size = s.heap.objs.size + 1 →
      (∀ c o, c ≠ z → c ≠ i1 → c ≠ i2 → s.heap.get? c = some o → h'.get? c = some o) → Q (.ref s.heap.objs.size) { s with heap := h', toks := tk }) :
    wpAny (model prog w) A (Builtin.«zip.__next__» ⟨[.ref z], []⟩) (fun fin s' => ∃ v, fin = .done (.ret v) ∧ Q v s') E s := by
  show wpAny _ _ (field (.ref z) 2 >>= _) _ _ _
  refine wpAny_bind (wpAny_field hz rfl (x := .bool false) rfl ?_)
  show wpAny _ _ (field (.ref z) 3 >>= _) _ _ _
  refine wpAny_bind (wpAny_field hz rfl (x := .ref TI) rfl ?_)
  refine wpAny_bind (wpAny_seqItems hTI rfl ?_)
  show wpAny _ _ (Builtin.SmallTypes.ownedTupleIsFree (.ref z) >>= _) _ _ _
  refine wpAny_bind (wpAny_tupleHeld_zip hz hT fun h₁ hz₁ hs₁ => ?_)
  simp only [Bool.false_eq_true, if_false]
  refine wpAny_bind ?_
  rw [← Array.forIn_toList]
  simp only [List.forIn_cons, List.forIn_nil]
  refine wpAny_bind (wpAny_bind (wpAny_holding ?_))
  show wpAny _ _ (Builtin.SmallTypes.nextOf (.ref i1) >>= _) _ _ _
  refine wpAny_bind (D1.item i { s with heap := h₁ } _ _ hlt1 (D1.over st1 hs₁ S.zf1) fun x h₂ tk₂ p1 st1₂ hs₂ => wpAny_pure ?_)
  refine wpAny_pure ?_
  refine wpAny_bind (wpAny_bind (wpAny_holding ?_))
  show wpAny _ _ (Builtin.SmallTypes.nextOf (.ref i2) >>= _) _ _ _
  refine wpAny_bind (D2.item i { s with heap := h₂, toks := tk₂ } _ _ hlt2 (D2.over (D2.over st2 hs₁ S.zf2) hs₂ S.sep1_2) fun y h₃ tk₃ p2 st2₃ hs₃ => wpAny_pure ?_)
  refine wpAny_pure (wpAny_pure ?_)
  show wpAny _ _ (newTuple [x, y] >>= _) _ _ _
  refine wpAny_bind (wpAny_newTuple ?_)
  have hsz : h₃.objs.size = s.heap.objs.size := by rw [hs₃.1, hs₂.1, hs₁.1]
  have hz₃ : IsZipHeld h₃ z TI TO T true := hs₃.extBut _ _ S.zi2 (hs₂.extBut _ _ S.zi1 hz₁)
  have hk : ∀ c o, c ≠ z → c ≠ i1 → c ≠ i2 → s.heap.get? c = some o → h₃.get? c = some o := fun c o c1 c2 c3 e => hs₃.extBut _ _ c3 (hs₂.extBut _ _ c2 (hs₁.extBut _ _ c1 e))
  have st1₃ : St1 (i + 1) h₃ := D1.over st1₂ hs₃ S.sep2_1
  refine wpAny_pure ⟨_, rfl, ?_⟩
  show Q (.ref h₃.objs.size) _
  have hp : IsTupOf2 (h₃.push { cls := .type "tuple", data := .seq #[x, y] }) h₃.objs.size x y := Heap.get?_push_size _ rfl
  have hz4 : (h₃.push { cls := .type "tuple", data := .seq #[x, y] }).objs.size = h₃.objs.size + 1 := Heap.size_push ..
  rw [hsz] at hp hz4 ⊢
  exact hQ x y _ tk₃ p1 p2 (Heap.get?_push_of_some _ hz₃) (D1.frame _ _ _ st1₃ fun b _ o e => Heap.get?_push_of_some _ e) (D2.frame _ _ _ st2₃ fun b _ o e => Heap.get?_push_of_some _ e) hp hz4 fun c o c1 c2 c3 e => Heap.get?_push_of_some _ (hk c o c1 c2 c3 e)
/-- the first one ends first -/
theorem zipHeld_end {Q : Fin → Shared → Prop} (S : ZipSep2 z TI TO i1 i2 fp1 fp2) (D1 : Draws prog w A i1 fp1 n1 P1 St1)
    (hz : IsZipHeld s.heap z TI TO T f) (hT : s.heap.get? T = some oT) (hTI : IsTupOf2 s.heap TI (.ref i1) (.ref i2)) (st1 : St1 n1 s.heap)
    (hE : ∀ h' e, (∀ c o, c ≠ z → c ≠ i1 → c ≠ i2 → s.heap.get? c = some o → h'.get? c = some o) → (∃ o, h'.get? e = some o ∧ o.cls = .type "StopIteration") → E (.ref e) { s with heap := h' }) :
    wpAny (model prog w) A (Builtin.«zip.__next__» ⟨[.ref z], []⟩) Q E s := by
  show wpAny _ _ (field (.ref z) 2 >>= _) _ _ _
  refine wpAny_bind (wpAny_field hz rfl (x := .bool false) rfl ?_)
  show wpAny _ _ (field (.ref z) 3 >>= _) _ _ _
  refine wpAny_bind (wpAny_field hz rfl (x := .ref TI) rfl ?_)
  refine wpAny_bind (wpAny_seqItems hTI rfl ?_)
  show wpAny _ _ (Builtin.SmallTypes.ownedTupleIsFree (.ref z) >>= _) _ _ _
  refine wpAny_bind (wpAny_tupleHeld_zip hz hT fun h₁ hz₁ hs₁ => ?_)
  simp only [Bool.false_eq_true, if_false]
  refine wpAny_bind ?_
  rw [← Array.forIn_toList]
  simp only [List.forIn_cons, List.forIn_nil]
  refine wpAny_bind (wpAny_bind (wpAny_holding ?_))
  show wpAny _ _ (Builtin.SmallTypes.nextOf (.ref i1) >>= _) _ _ _
  refine wpAny_bind (D1.done { s with heap := h₁ } _ _ (D1.over st1 hs₁ S.zf1) fun h₂ e hs₂ he => ?_)
  exact hE h₂ e (fun c o c1 c2 _ x => hs₂ _ _ c2 (hs₁.extBut _ _ c1 x)) he
theorem next_zipHeld_item {Q : Option Value → Shared → Prop} (S : ZipSep2 z TI TO i1 i2 fp1 fp2) (D1 : Draws prog w A.in1 i1 fp1 n1 P1 St1) (D2 : Draws prog w A.in1 i2 fp2 n2 P2 St2)
    (hz : IsZipHeld s.heap z TI TO T f) (hT : s.heap.get? T = some oT) (hTI : IsTupOf2 s.heap TI (.ref i1) (.ref i2)) (st1 : St1 i s.heap) (st2 : St2 i s.heap) (hlt1 : i < n1) (hlt2 : i < n2)
    (hQ : ∀ x1 x2 h' tk, P1 i x1 → P2 i x2 → IsZipHeld h' z TI TO T true → St1 (i + 1) h' → St2 (i + 1) h' → IsTupOf2 h' s.heap.objs.size x1 x2 → h'.objs.size = s.heap.objs.size + 1 →
      (∀ c o, c ≠ z → c ≠ i1 → c ≠ i2 → s.heap.get? c = some o → h'.get? c = some o) → Q (some (.ref s.heap.objs.size)) { s with heap := h', toks := tk }) :
    wpAny (model prog w) A (pyNext (.ref z)) Q E s := by
  have hTy : s.TypeIs (.ref z) "zip" := ⟨_, hz, rfl⟩
  unfold pyNext
  exact wpAny_bind (wpAny_attempt (wpAny_callSpecial?_slot (name := Str.ofString "__next__") hTy F.slot_zip_next
    (wpAny_call_entry F.slot_zip_next hTy F.entry_zip_next
      (zipHeld_item S D1 D2 hz hT hTI st1 st2 hlt1 hlt2 fun x1 x2 h' tk y1 y2 a1 a3 a4 a5 a6 a7 => wpAny_pure (hQ x1 x2 h' tk y1 y2 a1 a3 a4 a5 a6 a7)) (F.args_zip_next_1 _))))
theorem next_zipHeld_end {Q : Option Value → Shared → Prop} (S : ZipSep2 z TI TO i1 i2 fp1 fp2) (D1 : Draws prog w A.in1 i1 fp1 n1 P1 St1)
    (hz : IsZipHeld s.heap z TI TO T f) (hT : s.heap.get? T = some oT) (hTI : IsTupOf2 s.heap TI (.ref i1) (.ref i2)) (st1 : St1 n1 s.heap)
    (hQ : ∀ h', (∀ c o, c ≠ z → c ≠ i1 → c ≠ i2 → s.heap.get? c = some o → h'.get? c = some o) → Q none { s with heap := h' }) : wpAny (model prog w) A (pyNext (.ref z)) Q E s := by
  have hTy : s.TypeIs (.ref z) "zip" := ⟨_, hz, rfl⟩
  unfold pyNext
  refine wpAny_bind (wpAny_attempt (wpAny_callSpecial?_slot (name := Str.ofString "__next__") hTy F.slot_zip_next
    (wpAny_call_entry F.slot_zip_next hTy F.entry_zip_next (zipHeld_end S D1 hz hT hTI st1 fun h' e hk he => ?_) (F.args_zip_next_1 _))))
  obtain ⟨o, ho, hc⟩ := he
  refine wpAny_bind (wpAny_isInstance (T := "StopIteration") (b := true) ⟨o, ho, hc⟩ isSubtype_stop ?_)
  exact wpAny_pure (hQ _ hk)
end
/-- zip(a list, range(n)) as what dict() takes -/
theorem pairZipR {prog : Program} {w : World} {z TI TO i1 i2 l : Addr} (S : ZipSep2 z TI TO i1 i2 [i1, l] [i2]) (xs : Array Value) :
    PairArg prog w "zip" z [z, TI, TO, i1, i2, l] [z, TO, i1, i2] xs.size (fun i k v => xs[i]? = some k ∧ ∃ t, v = .int (i : Int) t)
      (fun h => IsZip h z TI TO .none ∧ IsTupOf2 h TI (.ref i1) (.ref i2) ∧ (∃ a b, IsTupOf2 h TO a b) ∧ (h.IsListIter i1 l 0 ∧ h.IsList l xs) ∧ IsRangeIter h i2 ((0 : Nat) : Int) ((xs.size : Int) - ((0 : Nat) : Int)) 1) where
  type := fun s ok => ⟨_, ok.1, rfl⟩
  notDict := by decide
  keep := fun h h' ok hk => by
    obtain ⟨hz, hTI, ⟨a, b, hTO⟩, ⟨h1, hl1⟩, h2⟩ := ok
    exact ⟨hk _ _ hz, hk _ _ hTI, ⟨a, b, hk _ _ hTO⟩, ⟨h1.at fun o e => hk _ o e, hl1.at fun o e => hk _ o e⟩, hk _ _ h2⟩
  there := fun h ok b hb => by
    obtain ⟨hz, hTI, ⟨a, c, hTO⟩, ⟨⟨o1, h1, _⟩, ⟨o3, hl1, _⟩⟩, h2⟩ := ok
    simp only [List.mem_cons, List.not_mem_nil, or_false] at hb
    rcases hb with rfl | rfl | rfl | rfl | rfl | rfl
    all_goals first | exact ⟨_, hz⟩ | exact ⟨_, hTI⟩ | exact ⟨_, hTO⟩ | exact ⟨_, h1⟩ | exact ⟨_, h2⟩ | exact ⟨_, hl1⟩
  sub := fun b hb => by simp at hb ⊢; rcases hb with rfl | rfl | rfl | rfl <;> simp
  noKeys := fun A s Q E hA ok h => getAttrOr_miss_zip ok.1 rfl rfl rfl zip_no_keys (by decide +kernel) hA h
  iter := fun A s d Q E hA ok hd hdf h => by
    obtain ⟨hz, hTI, ⟨a, b, hTO⟩, st1, st2⟩ := ok
    simp only [List.mem_cons, List.not_mem_nil, or_false, not_or] at hdf
    obtain ⟨dz, dTI, dTO, di1, di2, dl⟩ := hdf
    have li1 : l ≠ i1 := by
      obtain ⟨⟨o1, e1, c1, _⟩, ⟨o2, e2, c2, _⟩⟩ := st1
      intro e
      subst e
      rw [e1] at e2
      cases e2
      rw [c1] at c2
      exact absurd c2 (by decide)
    have D1 : Draws prog w A.in1 i1 [i1, l] xs.size _ _ := Draws.list (A := A.in1) hA i1 l li1 xs
    have D2 : Draws prog w A.in1 i2 [i2] xs.size _ _ := drawsRange (A := A.in1) hA i2 xs.size
    refine wpAny_pyIter_zip hz (h z [z, TO, i1, i2] (fun i h => IsTupOf2 h TI (.ref i1) (.ref i2) ∧ (h.IsListIter i1 l i ∧ h.IsList l xs) ∧ IsRangeIter h i2 (i : Int) ((xs.size : Int) - (i : Int)) 1 ∧
      ((IsZip h z TI TO .none ∧ ∃ a b, IsTupOf2 h TO a b) ∨ ∃ T f oT, IsZipHeld h z TI TO T f ∧ h.get? T = some oT ∧ T ≠ z ∧ T ≠ i1 ∧ T ≠ i2 ∧ T ≠ d)) s.heap s.toks ?_
      ⟨hTI, st1, st2, .inl ⟨hz, a, b, hTO⟩⟩ (fun _ _ e => e) fun b hb => .inl hb)
    exact {
      off := fun hm => by
        simp only [List.mem_cons, List.not_mem_nil, or_false] at hm
        rcases hm with e | e | e | e
        · exact dz e
        · exact dTO e
        · exact di1 e
        · exact di2 e
      frame := fun i h₁ h₂ st hk => by
        obtain ⟨hTI, ⟨h1, hl1⟩, h2, hz⟩ := st
        refine ⟨hk _ _ (Ne.symm dTI) hTI, ⟨h1.at fun o e => hk _ o (Ne.symm di1) e, hl1.at fun o e => hk _ o (Ne.symm dl) e⟩, hk _ _ (Ne.symm di2) h2, ?_⟩
        rcases hz with ⟨hz, a, b, hTO⟩ | ⟨T, f, oT, hz, hT, r1, r2, r3, r4⟩
        · exact .inl ⟨hk _ _ (Ne.symm dz) hz, a, b, hk _ _ (Ne.symm dTO) hTO⟩
        · exact .inr ⟨T, f, oT, hk _ _ (Ne.symm dz) hz, hk _ _ r4 hT, r1, r2, r3, r4⟩
      item := fun i s₁ Q₁ E₁ hi st hds hQ => by
        obtain ⟨hTI, st1, st2, hz⟩ := st
        have lt : ∀ {c o}, s₁.heap.get? c = some o → s₁.heap.objs.size ≠ c := fun e => Nat.ne_of_gt (Heap.lt_size e)
        have n1 : s₁.heap.objs.size ≠ i1 := let ⟨_, e, _⟩ := st1.1; lt e
        have n2 : s₁.heap.objs.size ≠ i2 := lt st2
        rcases hz with ⟨hz, a, b, hTO⟩ | ⟨T, f, oT, hz, hT, r1, r2, r3, r4⟩
        · refine wpAny_pyNext_zipD2_item S D1 D2 hz hTI hTO st1 st2 hi hi fun x1 x2 h' tk p1 p2 a1 a2 a3 a4 a5 a6 hk => ?_
          exact hQ s₁.heap.objs.size _ _ h' tk ⟨p1, p2⟩ (.inl ⟨_, a5, rfl, _, rfl⟩)
            ⟨hk _ _ S.TIz S.TITO S.TIi1 S.TIi2 hTI, a3, a4, .inr ⟨s₁.heap.objs.size, false, _, a1, a5, lt hz, n1, n2, Nat.ne_of_gt hds⟩⟩
            fun c o hc e => hk c o (fun x => hc (by simp [x])) (fun x => hc (by simp [x])) (fun x => hc (by simp [x])) (fun x => hc (by simp [x])) e
        · refine next_zipHeld_item S D1 D2 hz hT hTI st1 st2 hi hi fun x1 x2 h' tk p1 p2 a1 a3 a4 a5 a6 hk => ?_
          exact hQ s₁.heap.objs.size _ _ h' tk ⟨p1, p2⟩ (.inl ⟨_, a5, rfl, _, rfl⟩)
            ⟨hk _ _ S.TIz S.TIi1 S.TIi2 hTI, a3, a4, .inr ⟨T, true, oT, a1, hk _ _ r1 r2 r3 hT, r1, r2, r3, r4⟩⟩
            fun c o hc e => hk c o (fun x => hc (by simp [x])) (fun x => hc (by simp [x])) (fun x => hc (by simp [x])) e
      done := fun s₁ Q₁ E₁ st hQ => by
        obtain ⟨hTI, st1, st2, hz⟩ := st
        rcases hz with ⟨hz, a, b, hTO⟩ | ⟨T, f, oT, hz, hT, r1, r2, r3, r4⟩
        · exact wpAny_pyNext_zipD2_end S D1 D2 hz hTI hTO st1 st2 (Nat.le_refl _) (Nat.le_refl _) (.inl rfl) fun h' tk hk => hQ h' tk fun c o hc e => hk c o (fun x => hc (by simp [x])) (fun x => hc (by simp [x])) (fun x => hc (by simp [x])) (fun x => hc (by simp [x])) e
        · exact next_zipHeld_end S D1 hz hT hTI st1 fun h' hk => hQ h' s₁.toks fun c o hc e => hk c o (fun x => hc (by simp [x])) (fun x => hc (by simp [x])) (fun x => hc (by simp [x])) e }
end PySem

/-! dict(zip(keys, range(n))): tuples as keys. -/
namespace L2
open PySem PySem.Spec PyProof.Rows
def numV (ks : List (List Key)) : List (List Key × V) := ks.zipIdx.map fun p => (p.1, V.int (p.2 : Int))
theorem numV_len (ks : List (List Key)) : (numV ks).length = ks.length := by simp [numV]
theorem numV_take (ks : List (List Key)) {i : Nat} {k : List Key} (h : ks[i]? = some k) : (numV ks).take (i + 1) = (numV ks).take i ++ [(k, .int (i : Int))] := by
  have e : (numV ks)[i]? = some (k, .int (i : Int)) := by
    unfold numV
    rw [List.getElem?_map, List.getElem?_zipIdx, h]
    simp
  rw [List.take_succ, e]
  rfl
theorem numV_put {ks : List (List Key)} (nd : ks.Nodup) {i : Nat} {k : List Key} (h : ks[i]? = some k) : putK ((numV ks).take i) k (.int (i : Int)) = (numV ks).take (i + 1) := by
  have hn : (((numV ks).take i).any fun kv => decide (kv.1 = k)) = false := by
    rw [List.any_eq_false]
    intro kv hkv
    simp only [decide_eq_true_eq]
    intro e
    obtain ⟨j, hj⟩ := List.getElem?_of_mem hkv
    have hji : j < i := by
      have := (List.getElem?_eq_some_iff.mp hj).1
      rw [List.length_take] at this
      omega
    rw [List.getElem?_take_of_lt hji] at hj
    unfold numV at hj
    rw [List.getElem?_map, List.getElem?_zipIdx] at hj
    cases hk : ks[j]? with
    | none => rw [hk] at hj; simp at hj
    | some k2 =>
      rw [hk] at hj
      have : kv.1 = k2 := by
        have := Option.some.inj hj
        rw [← this]
      rw [this] at e
      subst e
      have hj1 := (List.getElem?_eq_some_iff.mp hk)
      have hi1 := (List.getElem?_eq_some_iff.mp h)
      exact (List.pairwise_iff_getElem.mp nd) j i hj1.1 hi1.1 hji (hj1.2.trans hi1.2.symm)
  unfold putK
  rw [hn, numV_take ks h]
  rfl
def tDZip (K : PySem.W.Frag) (te : TE) (tr : St → Hp → (Int → Int → Hp → Prop) → Prop) : TE := fun σ H Q => te σ H fun v H1 => tr σ H1 fun a b H2 => ∃ (l : Addr) (xs : List V) (ks : List (List Key)), v = .ref l ∧ SqL K H2 l xs ∧ a = 0 ∧ b = (xs.length : Int) ∧ xs.length ≤ 100000 ∧ ks.length = xs.length ∧ ks.Nodup ∧
  (∀ (i : Nat) k, ks[i]? = some k → ∃ b, xs[i]? = some (.ref b) ∧ H2 b = some (.tup (k.map kV))) ∧ ∀ q, H2 q = none → Q (.ref q) (upd H2 q (.dT (numV ks)))
theorem pe_dzip {X : Cx} {e er : Expr} {te : TE} {tr : St → Hp → (Int → Int → Hp → Prop) → Prop} {p p2 pos pos2 : Pos} (hc : X.calm = true) (hu : X.A.units + 64 < cLine) (hg1 : Gl X "dict") (hm1 : X.mg "dict" = none) (hg2 : Gl X "zip") (hm2 : X.mg "zip" = none) (he : PE X e te) (hr : PRg X er tr)
    (na : starEach [e, er] X.env = (false, eval e X.env) :: starEach [er] X.env := by rfl) (nb : starEach [er] X.env = (false, eval er X.env) :: starEach [] X.env := by rfl) (hp : (backTo pos2 (starEach [er] X.env)).any (·.1) = false := by rfl)
    (nz : starEach [Expr.Call (.Name "zip" p2) [e, er] [] pos2] X.env = (false, eval (Expr.Call (.Name "zip" p2) [e, er] [] pos2) X.env) :: starEach [] X.env := by rfl) :
    PE X (.Call (.Name "dict" p) [.Call (.Name "zip" p2) [e, er] [] pos2] [] pos) (tDZip X.K te tr) := by
  refine ⟨fun pins s σ H Q I h => ?_⟩
  refine Call_ (ld_blt I hg1 hm1 PyProof.Rows.boot_dict (PyProof.Rows.callWith_type1 (args_cons (Call_ (ld_blt I hg2 hm2 PyProof.Rows.boot_zip (PyProof.Rows.callWith_type1 (args_cons (thn (he.run pins s σ H _ I h) fun v s1 ⟨x, H1, I1, r1, q1⟩ =>
    args_cons (thn (hr pins s1 σ H1 _ I1 q1) fun y s2 ⟨r, a, b, t, u, v', H2, ex, hrg, I2, q⟩ => args_nil ?_) nb) na) na hp))) nz) nz))
  obtain ⟨l, xs, ks, rfl, hs, rfl, rfl, hx, hkl, nd, keys, q⟩ := q
  subst ex
  obtain rfl : v = .ref l := r1
  obtain ⟨its, rv, pl, hz⟩ := I2.list hs
  have hlen := rv.length
  have la : l < s2.heap.objs.size := pl.lt
  have hsmall : Builtin.Range.small 0 (xs.length : Int) 1 = true := small_one (by omega) (by omega) (by omega) (by omega)
  have hrs : Builtin.Range.rangeSize 0 (xs.length : Int) 1 = (its.toArray.size : Int) := by
    have := rangeSize_nat 0 (xs.length : Int)
    rw [List.size_toArray, ← hlen]
    omega
  refine zip_begins2 (begins_list l its.toArray) (begins_range hsmall) pl.isList hrg fun h' hz' hTI hTO h1 h2 hsz hk => args_nil ?_
  have sep : ZipSep2 (s2.heap.objs.size + 4) (s2.heap.objs.size + 2) (s2.heap.objs.size + 3) s2.heap.objs.size (s2.heap.objs.size + 1) [s2.heap.objs.size, l] [s2.heap.objs.size + 1] := by
    generalize s2.heap.objs.size = N at la
    refine ⟨?_, ?_, ?_, ?_, by simp, ?_, ?_, ?_, by simp, ?_, ?_, ?_, ?_⟩
    all_goals intro z
    all_goals try simp only [List.mem_cons, List.not_mem_nil, or_false] at z
    all_goals have la' : (l : Nat) < N := la
    · exact absurd (show N + 2 = N + 4 from z) (by omega)
    · exact absurd (show N + 3 = N + 4 from z) (by omega)
    · exact absurd (show N + 2 = N + 3 from z) (by omega)
    · exact absurd (show N + 2 = N from z) (by omega)
    · rcases z with z | z
      · exact absurd (show N + 4 = N from z) (by omega)
      · exact absurd (show N + 4 < N from (show N + 4 = l from z) ▸ la) (Nat.not_lt_of_le (Nat.le_add_right _ _))
    · rcases z with z | z
      · exact absurd (show N + 3 = N from z) (by omega)
      · exact absurd (show N + 3 < N from (show N + 3 = l from z) ▸ la) (Nat.not_lt_of_le (Nat.le_add_right _ _))
    · exact absurd (show N + 2 = N + 1 from z) (by omega)
    · exact absurd (show N + 4 = N + 1 from z) (by omega)
    · exact absurd (show N + 3 = N + 1 from z) (by omega)
    · exact absurd (show N = N + 1 from z) (by omega)
    · rcases z with z | z
      · exact absurd (show N + 1 = N from z) (by omega)
      · exact absurd (show N + 1 < N from (show N + 1 = l from z) ▸ la) (Nat.not_lt_of_le (Nat.le_add_right _ _))
  have P := pairZipR (prog := X.prog) (w := X.w) sep its.toArray
  have hh : X.A.handled = none := I2.ok.hd hc
  rw [hrs] at h2
  refine call_dict_arg P ⟨hz', hTI, ⟨_, _, hTO⟩, ⟨⟨_, h1, rfl, rfl⟩, pl.isList.at fun o e => hk _ o e⟩, by simpa using h2⟩ fun s₁ hs₁ hdf ok₁ => ?_
  subst hs₁
  have old : ∀ b o, s2.heap.get? b = some o → b < s2.heap.objs.size := fun b o e => Heap.lt_size e
  let knd := tupleKind (mixKind X.prog X.w)
  have his : ∀ (hh' : Heap) (kvs : List (List Key × V)) (ps : List (List Key × Addr × Value)), KT H2 kvs ps → (∀ b o, s2.heap.get? b = some o → hh'.get? b = some o) → ∀ y ∈ ps, knd.is hh' y.1 y.2.1 := by
    intro hh' kvs ps kt kp y hy
    have I3 : Inv X pins σ H2 { s2 with heap := hh' } := I2.kept (t' := s2.toks) kp
    clear h2 h1 hk
    induction kt with
    | nil => cases hy
    | cons hpq _ ih =>
      rcases List.mem_cons.mp hy with rfl | hy
      · refine key_of I3.hok ?_
        obtain ⟨e1, e2, _⟩ := hpq
        first | exact e2 | (rw [← e1]; exact e2)
      · exact ih hy
  refine updateFrom_arg (A := X.A.in1) (Tab := fun i g => ∃ ps, g.DictOfH knd h'.objs.size ps ∧ KT H2 ((numV ks).take i) ps ∧ ∀ b o, s2.heap.get? b = some o → g.get? b = some o) P .none hh ok₁ hdf
    ⟨[], Heap.DictOfH.new h', .nil, fun b o e => Heap.get?_push_of_some _ (hk b o e)⟩ (fun _ _ tb => let ⟨_, d, _⟩ := tb; d.lt_size) ?_ ?_ ?_
  · rintro i g g' wr' hd hw ⟨ps, d, kt, kp⟩ hkk
    have kp' : ∀ b o, s2.heap.get? b = some o → g'.get? b = some o := fun b o e => hkk b o (fun hm => by
      rcases hw b hm with z | z
      · have := old b o e
        simp only [List.mem_cons, List.not_mem_nil, or_false] at z
        rcases z with z | z | z | z <;> rw [z] at this <;> first | exact absurd this (Nat.not_lt_of_le (Nat.le_add_right _ _)) | exact absurd this (Nat.lt_irrefl _)
      · have e2 : (h'.push { cls := .type "dict", data := .dict #[] }).get? b = some o := Heap.get?_push_of_some _ (hk b o e)
        rw [show (h'.push { cls := .type "dict", data := .dict #[] }).get? b = none from z] at e2
        cases e2) (kp b o e)
    exact ⟨ps, d.at' (fun o e => hkk _ o hd e) (his g' _ _ kt kp'), kt, kp'⟩
  · rintro i key v s' Q' E' hi ⟨hrel, t2, rfl⟩ ⟨ps, d, kt, kp⟩ _ hQ
    have hi' : i < ks.length := by rw [hkl, hlen]; simpa using hi
    have hki := List.getElem?_eq_getElem hi'
    obtain ⟨b, hxb, hHb⟩ := keys i _ hki
    obtain ⟨v2, e1, e2⟩ := vals_get' rv hrel
    rw [hxb] at e1
    cases e1
    obtain rfl : key = .ref b := e2
    have hps : ps.length = i := by
      have := Paired.length kt
      rw [List.length_take, numV_len] at this
      omega
    refine wpAny_dictSet_heap (knd := knd) (hsz := by rw [hps]; rw [sizeLine_eq]; omega) (show X.A.in1.in1.units < cLine by rw [show X.A.in1.in1.units = X.A.units + 2 from rfl]; omega) (key_of (I2.kept (t' := s2.toks) kp).hok hHb) d fun g' d' hsb => ?_
    refine hQ g' _ ⟨_, d', ?_, fun c o e => hsb.extBut c o (fun z => ?_) (kp c o e)⟩ hsb
    · rw [← numV_put nd hki]
      exact kt.put _ hHb ⟨t2, rfl⟩
    · have := old c o e
      rw [z] at this
      rw [hsz] at this
      exact absurd this (Nat.not_lt_of_le (Nat.le_add_right _ _))
  · rintro g tk ⟨ps, d, kt, kp⟩ hkk
    have hd0 : H2 h'.objs.size = none := I2.hok.fresh (by omega)
    obtain ⟨qo, es, ep, hq, c2, c3, c4, _, c5⟩ := d
    have efull : (numV ks).take its.toArray.size = numV ks := List.take_of_length_le (by rw [numV_len, hkl, hlen]; simp)
    rw [efull] at kt
    refine ⟨rfl, .ref h'.objs.size, upd H2 h'.objs.size (.dT (numV ks)), I2.laid (t' := tk) kp (by omega) ?_, rfl, q _ hd0⟩
    have hbig := I2.big
    refine ⟨by rw [numV_len, hkl, sizeLine_eq]; omega, beq_eq_false_iff_ne.mpr (fun z => ?_), ps, kt.keeps fun c ys ec => ?_, qo, es, ep, hq, c2, c3, c4, c5⟩
    · rw [← z, hsz] at hbig
      exact absurd hbig (Nat.not_lt_of_le (Nat.le_add_right _ _))
    · rw [upd_ne (fun z => by rw [z, hd0] at ec; cases ec)]
      exact ec
theorem pe_dzip' {X : Cx} (K : PySem.W.Frag) {e er : Expr} {te : TE} {tr : St → Hp → (Int → Int → Hp → Prop) → Prop} {p p2 pos pos2 : Pos} (hc : X.calm = true) (hu : X.A.units + 64 < cLine) (hg1 : Gl X "dict") (hm1 : X.mg "dict" = none) (hg2 : Gl X "zip") (hm2 : X.mg "zip" = none) (he : PE X e te) (hr : PRg X er tr) (hK : X.K = K := by rfl)
    (na : starEach [e, er] X.env = (false, eval e X.env) :: starEach [er] X.env := by rfl) (nb : starEach [er] X.env = (false, eval er X.env) :: starEach [] X.env := by rfl) (hp : (backTo pos2 (starEach [er] X.env)).any (·.1) = false := by rfl)
    (nz : starEach [Expr.Call (.Name "zip" p2) [e, er] [] pos2] X.env = (false, eval (Expr.Call (.Name "zip" p2) [e, er] [] pos2) X.env) :: starEach [] X.env := by rfl) :
    PE X (.Call (.Name "dict" p) [.Call (.Name "zip" p2) [e, er] [] pos2] [] pos) (tDZip K te tr) := by
  subst hK
  exact pe_dzip hc hu hg1 hm1 hg2 hm2 he hr na nb hp nz
end L2
namespace SL
open PySem L2 Evl
theorem kd_num (K : PySem.W.Frag) (G : Hp) : ∀ (ks : List (List Key)) (j : Nat), KD K G ((ks.zipIdx j).map fun p => (p.1, V.int (p.2 : Int))) ((ks.zipIdx j).map fun p => (p.1, PyData.int (p.2 : Int)))
  | [], _ => .nil
  | k :: r, j => by
    rw [List.zipIdx_cons, List.map_cons, List.map_cons]
    exact .cons (.int _) (kd_num K G r (j + 1))
section
variable {F : Fm} {δ : List SD} {P : PV} {te ti : TE}
theorem ev_dzip (h : E F te δ fun r δ1 => E F ti δ1 fun r2 δ2 => ∃ (n : Nat) (ks : List (List Key)), r2 = .fz (.int (n : Int)) ∧ LSrc δ2 r (ks.map fun k => PyData.tuple (k.map keyD)) ∧ n = ks.length ∧ ks.Nodup ∧ ks.length < 100000 ∧ ∀ p, p ∉ F.io → P (.ot p (ks.zipIdx.map fun p => (p.1, PyData.int (p.2 : Int)))) δ2) :
    E F (tDZip F.K te (tRg1 ti)) δ P := fun τ ε G H σ Q s q =>
  h τ ε G H σ _ s fun x r δ1 G1 H1 h1 e1 s1 => by
    refine h1 _ _ G1 H1 σ _ s1 fun y r2 δ2 G2 H2 ⟨n, ks, hr, hl, hn, nd, hlt, k⟩ e2 s2 => ?_
    subst hr
    obtain rfl := dp_int (fz_top s2)
    obtain ⟨a, xs, rfl, sq, da⟩ := s2.pop.lsrc s2.pop.top hl
    have hlen : xs.length = ks.length := by rw [DpAll.len da, List.length_map]
    refine ⟨(n : Int), rfl, a, xs, ks, rfl, sq, rfl, by rw [hlen, hn], by omega, hlen.symm, nd, fun i kk hk => ?_, fun p hp => ?_⟩
    · obtain ⟨v, hv, hd⟩ := DpAll.get' da (show (ks.map fun k => PyData.tuple (k.map keyD))[i]? = some (.tuple (kk.map keyD)) by rw [List.getElem?_map, hk]; rfl)
      obtain ⟨b, rfl, hb⟩ := dp_keyT hd
      exact ⟨b, hv, s2.w.gh _ _ hb⟩
    · exact q _ _ δ2 G2 _ (k p (s2.fresh_io hp)) (Ex.trans e1 e2) (s2.pop2.newO hp rfl ⟨rfl, _, upd_same, kd_num F.K G2 ks 0⟩)
/-- xs[:-1] -/
theorem ev_butlast (h : E F te δ fun r δ1 => ∃ ds, LSrc δ1 r ds ∧ ∀ p, p ∉ F.io → P (.ol p (ds.take (ds.length - 1))) δ1) : E F (tSl (rSlL F.K) te tNoPart (tPart (tUn (rU fun i => .int (-i)) (tC (.int 1))))) δ P := fun τ ε G H σ Q s q =>
  h τ ε G H σ _ s fun x r δ1 G1 H1 ⟨ds, hl, k⟩ e1 s1 => by
    obtain ⟨a, xs, rfl, sq, da⟩ := s1.lsrc s1.top hl
    refine ⟨1, rfl, -1, rfl, a, xs, rfl, sq, fun p hp => q _ _ δ1 _ _ (k p (s1.fresh_io hp)) e1 (s1.pop.newO hp rfl ⟨rfl, _, upd_same, ?_⟩)⟩
    have e : HT.sIx xs.length xs.length (some (-1)) = ds.length - 1 := by
      show (if (-1 : Int) < 0 then ((-1 : Int) + (xs.length : Int)).toNat else min (-1 : Int).toNat xs.length) = _
      rw [if_pos (by decide), DpAll.len da]
      omega
    unfold cutV
    rw [HT.sIx_none, e, List.drop_zero, Nat.sub_zero]
    exact SL.DpAll.take _ da
end
end SL

/-! Plain laws about tables of monoids of maps: no program in sight. -/
namespace Mt
open PySem
/-- first x, then m -/
def comp (x m : List Nat) : List Nat := x.map fun i => m.getD i 0
/-- a map of n points -/
def IsMap (n : Nat) (ns : List Nat) : Prop := ns.length = n ∧ ∀ x ∈ ns, x < n
def letS (l : Nat) : Str := ⟨#[97 + l]⟩
/-- the first places of the elements 1, 2, .. -/
def stp (o i l : Nat) (t : List (Nat × Nat)) : List (Nat × Nat) := if o = t.length + 1 then t ++ [(i, l)] else t
theorem stp_new {o i l : Nat} {t : List (Nat × Nat)} (h : o = t.length + 1) : stp o i l t = t ++ [(i, l)] := if_pos h
theorem stp_old {o i l : Nat} {t : List (Nat × Nat)} (h : ¬ o = t.length + 1) : stp o i l t = t := if_neg h
def scanRow (i : Nat) : Nat → List Nat → List (Nat × Nat) → List (Nat × Nat)
  | _, [], t => t
  | l, o :: r, t => scanRow i (l + 1) r (stp o i l t)
def scanRows : Nat → List (List Nat) → List (Nat × Nat) → List (Nat × Nat)
  | _, [], t => t
  | i, row :: rs, t => scanRows (i + 1) rs (scanRow i 0 row t)
def ordRow (i : Nat) : Nat → List Nat → List (Nat × Nat) → Prop
  | _, [], _ => True
  | l, o :: r, t => o ≤ t.length + 1 ∧ ordRow i (l + 1) r (stp o i l t)
def ordRows : Nat → List (List Nat) → List (Nat × Nat) → Prop
  | _, [], _ => True
  | i, row :: rs, t => i < t.length + 1 ∧ ordRow i 0 row t ∧ ordRows (i + 1) rs (scanRow i 0 row t)
theorem scanRow_snoc (i o : Nat) : ∀ (row : List Nat) (l : Nat) (t : List (Nat × Nat)), scanRow i l (row ++ [o]) t = stp o i (l + row.length) (scanRow i l row t)
  | [], l, t => by simp [scanRow]
  | a :: r, l, t => by
    simp only [List.cons_append, scanRow]
    rw [scanRow_snoc i o r (l + 1)]
    have : l + 1 + r.length = l + (a :: r).length := by simp; omega
    rw [this]
theorem scanRows_snoc (row : List Nat) : ∀ (rs : List (List Nat)) (i : Nat) (t : List (Nat × Nat)), scanRows i (rs ++ [row]) t = scanRow (i + rs.length) 0 row (scanRows i rs t)
  | [], i, t => by simp [scanRows]
  | a :: r, i, t => by
    simp only [List.cons_append, scanRows]
    rw [scanRows_snoc row r (i + 1)]
    have : i + 1 + r.length = i + (a :: r).length := by simp; omega
    rw [this]
theorem ordRow_snoc (i o : Nat) : ∀ (row : List Nat) (l : Nat) (t : List (Nat × Nat)), ordRow i l row t → o ≤ (scanRow i l row t).length + 1 → ordRow i l (row ++ [o]) t
  | [], l, t, _, h => ⟨h, trivial⟩
  | a :: r, l, t, h, h2 => ⟨h.1, ordRow_snoc i o r (l + 1) _ h.2 h2⟩
theorem ordRows_snoc (row : List Nat) : ∀ (rs : List (List Nat)) (i : Nat) (t : List (Nat × Nat)), ordRows i rs t → i + rs.length < (scanRows i rs t).length + 1 → ordRow (i + rs.length) 0 row (scanRows i rs t) → ordRows i (rs ++ [row]) t
  | [], i, t, _, h, h2 => ⟨h, h2, trivial⟩
  | a :: r, i, t, h, h2, h3 => by
    have e : i + 1 + r.length = i + (a :: r).length := by simp; omega
    exact ⟨h.1, h.2.1, ordRows_snoc row r (i + 1) _ h.2.2 (by rw [e]; exact h2) (by rw [e]; exact h3)⟩
/-- the words of the elements, by the first places -/
def wordsOf (t : List (Nat × Nat)) : List Str := t.foldl (fun ws p => ws ++ [ws.getD p.1 ⟨#[]⟩ ++ letS p.2]) [⟨#[]⟩]
theorem wordsOf_snoc (t : List (Nat × Nat)) (p : Nat × Nat) : wordsOf (t ++ [p]) = wordsOf t ++ [(wordsOf t).getD p.1 ⟨#[]⟩ ++ letS p.2] := by
  unfold wordsOf
  rw [List.foldl_append]
  rfl
theorem wordsOf_len (t : List (Nat × Nat)) : (wordsOf t).length = t.length + 1 := by
  unfold wordsOf
  have : ∀ (t : List (Nat × Nat)) (ws : List Str), (t.foldl (fun ws p => ws ++ [ws.getD p.1 ⟨#[]⟩ ++ letS p.2]) ws).length = ws.length + t.length := by
    intro t
    induction t with
    | nil => intro ws; rfl
    | cons p r ih => intro ws; rw [List.foldl_cons, ih]; simp; omega
  rw [this]; simp; omega
/-- the table so far: rows done, a row under way -/
structure TabI (n : Nat) (ms found : List (List Nat)) (words : List Str) (rows : List (List Nat)) (row : List Nat) : Prop where
  one : found[0]? = some (List.range n)
  nd : found.Nodup
  mp : ∀ x ∈ found, IsMap n x
  len : found.length = (scanRow rows.length 0 row (scanRows 0 rows [])).length + 1
  wd : words = wordsOf (scanRow rows.length 0 row (scanRows 0 rows []))
  o1 : ordRows 0 rows []
  o2 : ordRow rows.length 0 row (scanRows 0 rows [])
  rl : ∀ r ∈ rows, r.length = ms.length
  en : ∀ (i : Nat) (r : List Nat), rows[i]? = some r → ∀ (l o : Nat), r[l]? = some o → ∃ x m : List Nat, found[i]? = some x ∧ ms[l]? = some m ∧ found[o]? = some (comp x m)
  en2 : ∀ (l o : Nat), row[l]? = some o → ∃ x m : List Nat, found[rows.length]? = some x ∧ ms[l]? = some m ∧ found[o]? = some (comp x m)
theorem isMap_range (n : Nat) : IsMap n (List.range n) := ⟨by simp, fun x hx => by simpa using hx⟩
theorem isMap_comp {n : Nat} {x m : List Nat} (hx : IsMap n x) (hm : IsMap n m) : IsMap n (comp x m) := by
  refine ⟨by simp [comp, hx.1], fun y hy => ?_⟩
  unfold comp at hy
  obtain ⟨i, hi, rfl⟩ := List.mem_map.mp hy
  have h1 : i < m.length := by rw [hm.1]; exact hx.2 i hi
  rw [List.getD_eq_getElem?_getD, List.getElem?_eq_getElem h1]
  exact hm.2 _ (List.getElem_mem h1)
theorem tabI_start (n : Nat) (ms : List (List Nat)) : TabI n ms [List.range n] [⟨#[]⟩] [] [] where
  one := rfl
  nd := by simp
  mp := fun x hx => by
    have : x = List.range n := by simpa using hx
    subst this
    exact isMap_range n
  len := rfl
  wd := rfl
  o1 := trivial
  o2 := trivial
  rl := by simp
  en := by simp
  en2 := by simp
section
variable {n : Nat} {ms found rows : List (List Nat)} {words : List Str} {row : List Nat}
theorem get_app {α : Type} {l : List α} {i : Nat} {x y : α} (h : l[i]? = some x) : (l ++ [y])[i]? = some x := by
  rw [List.getElem?_append_left (List.getElem?_eq_some_iff.mp h).1]
  exact h
/-- an entry that is met already -/
theorem TabI.old {o : Nat} {x m : List Nat} (h : TabI n ms found words rows row) (hx : found[rows.length]? = some x) (hm : ms[row.length]? = some m) (ho : found[o]? = some (comp x m)) : TabI n ms found words rows (row ++ [o]) := by
  have lo : o < found.length := (List.getElem?_eq_some_iff.mp ho).1
  have e : scanRow rows.length 0 (row ++ [o]) (scanRows 0 rows []) = scanRow rows.length 0 row (scanRows 0 rows []) := by
    rw [scanRow_snoc, stp_old]
    have := h.len
    omega
  refine { h with len := by rw [e]; exact h.len, wd := by rw [e]; exact h.wd, o2 := ordRow_snoc _ _ _ _ _ h.o2 (by have := h.len; omega), en2 := fun l o' hl => ?_ }
  by_cases hlt : l < row.length
  · rw [List.getElem?_append_left hlt] at hl
    exact h.en2 l o' hl
  · have : l = row.length := by
      have := (List.getElem?_eq_some_iff.mp hl).1
      simp at this
      omega
    subst this
    rw [List.getElem?_append_right (Nat.le_refl _)] at hl
    simp at hl
    subst hl
    exact ⟨x, m, hx, hm, ho⟩
/-- a new element -/
theorem TabI.new {x m : List Nat} {wx : Str} (h : TabI n ms found words rows row) (hx : found[rows.length]? = some x) (hm : ms[row.length]? = some m) (hM : IsMap n m) (hn : comp x m ∉ found) (hw : words[rows.length]? = some wx) :
    TabI n ms (found ++ [comp x m]) (words ++ [wx ++ letS row.length]) rows (row ++ [found.length]) := by
  have hxm : IsMap n x := h.mp x (List.mem_of_getElem? hx)
  have e : scanRow rows.length 0 (row ++ [found.length]) (scanRows 0 rows []) = scanRow rows.length 0 row (scanRows 0 rows []) ++ [(rows.length, row.length)] := by
    rw [scanRow_snoc, stp_new h.len, Nat.zero_add]
  refine ⟨get_app h.one, ?_, ?_, ?_, ?_, h.o1, ordRow_snoc _ _ _ _ _ h.o2 (by have := h.len; omega), h.rl, ?_, ?_⟩
  · refine List.nodup_append.mpr ⟨h.nd, by simp, fun a ha b hb e => ?_⟩
    have : b = comp x m := by simpa using hb
    subst this
    exact hn (e ▸ ha)
  · intro y hy
    rcases List.mem_append.mp hy with q | q
    · exact h.mp y q
    · have : y = comp x m := by simpa using q
      subst this
      exact isMap_comp hxm hM
  · rw [e]
    simp [h.len]
  · rw [e, wordsOf_snoc, ← h.wd]
    have : words.getD rows.length ⟨#[]⟩ = wx := by rw [List.getD_eq_getElem?_getD, hw]; rfl
    rw [this]
  · intro i r hr l o ho
    obtain ⟨x', m', h1, h2, h3⟩ := h.en i r hr l o ho
    exact ⟨x', m', get_app h1, h2, get_app h3⟩
  · intro l o' hl
    by_cases hlt : l < row.length
    · rw [List.getElem?_append_left hlt] at hl
      obtain ⟨x', m', h1, h2, h3⟩ := h.en2 l o' hl
      exact ⟨x', m', get_app h1, h2, get_app h3⟩
    · have : l = row.length := by
        have := (List.getElem?_eq_some_iff.mp hl).1
        simp at this
        omega
      subst this
      rw [List.getElem?_append_right (Nat.le_refl _)] at hl
      simp at hl
      subst hl
      exact ⟨x, m, get_app hx, hm, by rw [List.getElem?_append_right (Nat.le_refl _)]; simp⟩
/-- a row is done -/
theorem TabI.done (h : TabI n ms found words rows row) (hl : row.length = ms.length) (hlt : rows.length < (scanRows 0 rows []).length + 1) : TabI n ms found words (rows ++ [row]) [] := by
  have e : scanRow (rows ++ [row]).length 0 [] (scanRows 0 (rows ++ [row]) []) = scanRow rows.length 0 row (scanRows 0 rows []) := by
    rw [scanRows_snoc, Nat.zero_add]; rfl
  refine { one := h.one, nd := h.nd, mp := h.mp, len := by rw [e]; exact h.len, wd := by rw [e]; exact h.wd, o1 := ?_, o2 := trivial, rl := ?_, en := ?_, en2 := by simp }
  · exact ordRows_snoc row rows 0 [] h.o1 (by rw [Nat.zero_add]; exact hlt) (by rw [Nat.zero_add]; exact h.o2)
  · intro r hr
    rcases List.mem_append.mp hr with q | q
    · exact h.rl r q
    · have : r = row := by simpa using q
      subst this
      exact hl
  · intro i r hr l o ho
    by_cases hi : i < rows.length
    · rw [List.getElem?_append_left hi] at hr
      exact h.en i r hr l o ho
    · have : i = rows.length := by
        have := (List.getElem?_eq_some_iff.mp hr).1
        simp at this
        omega
      subst this
      rw [List.getElem?_append_right (Nat.le_refl _)] at hr
      simp at hr
      subst hr
      exact h.en2 l o ho
/-- a table that is done -/
structure Tab (n : Nat) (ms found : List (List Nat)) (words : List Str) (table : List (List Nat)) : Prop where
  one : found[0]? = some (List.range n)
  nd : found.Nodup
  mp : ∀ x ∈ found, IsMap n x
  tl : table.length = found.length
  len : found.length = (scanRows 0 table []).length + 1
  wd : words = wordsOf (scanRows 0 table [])
  ord : ordRows 0 table []
  rl : ∀ r ∈ table, r.length = ms.length
  en : ∀ (i : Nat) (r : List Nat), table[i]? = some r → ∀ (l o : Nat), r[l]? = some o → ∃ x m : List Nat, found[i]? = some x ∧ ms[l]? = some m ∧ found[o]? = some (comp x m)
theorem TabI.tab (h : TabI n ms found words rows []) (hl : rows.length = found.length) : Tab n ms found words rows :=
  { one := h.one, nd := h.nd, mp := h.mp, tl := hl, len := h.len, wd := h.wd, ord := h.o1, rl := h.rl, en := h.en }
end
/-! ### at most n ^ n maps -/
theorem nodup_below : ∀ (M : Nat) (l : List Nat), l.Nodup → (∀ x ∈ l, x < M) → l.length ≤ M
  | 0, l, _, h => by
    cases l with
    | nil => simp
    | cons a r => exact absurd (h a (by simp)) (by omega)
  | M + 1, l, nd, h => by
    have h1 : (l.erase M).length ≤ M := nodup_below M (l.erase M) (nd.erase M) fun x hx => by
      have hm := List.mem_of_mem_erase hx
      have hne : x ≠ M := fun z => by
        subst z
        exact (List.Nodup.not_mem_erase nd) hx
      have := h x hm
      omega
    by_cases hM : M ∈ l
    · rw [List.length_erase_of_mem hM] at h1
      omega
    · rw [List.erase_of_not_mem hM] at h1
      omega
def code (n : Nat) : List Nat → Nat
  | [] => 0
  | a :: r => a + n * code n r
theorem code_lt (n : Nat) : ∀ (x : List Nat), (∀ a ∈ x, a < n) → code n x < n ^ x.length
  | [], _ => by simp [code]
  | a :: r, h => by
    have h1 := code_lt n r fun b hb => h b (by simp [hb])
    have h2 := h a (by simp)
    simp only [code, List.length_cons, Nat.pow_succ]
    calc a + n * code n r < n + n * code n r := by omega
      _ = n * (code n r + 1) := by rw [Nat.mul_add, Nat.mul_one, Nat.add_comm]
      _ ≤ n * n ^ r.length := Nat.mul_le_mul_left n h1
      _ = n ^ r.length * n := Nat.mul_comm _ _
theorem code_inj (n : Nat) : ∀ (x y : List Nat), x.length = y.length → (∀ a ∈ x, a < n) → (∀ a ∈ y, a < n) → code n x = code n y → x = y
  | [], [], _, _, _, _ => rfl
  | [], _ :: _, e, _, _, _ => by simp at e
  | _ :: _, [], e, _, _, _ => by simp at e
  | a :: r, b :: q, e, h1, h2, h3 => by
    have ha := h1 a (by simp)
    have hb := h2 b (by simp)
    simp only [code] at h3
    have e1 : a = b := by
      have := congrArg (· % n) h3
      simpa [Nat.add_mul_mod_self_left, Nat.mod_eq_of_lt ha, Nat.mod_eq_of_lt hb] using this
    subst e1
    have e2 : code n r = code n q := Nat.eq_of_mul_eq_mul_left (by omega) (by omega : n * code n r = n * code n q)
    rw [code_inj n r q (by simpa using e) (fun c hc => h1 c (by simp [hc])) (fun c hc => h2 c (by simp [hc])) e2]
theorem maps_most {n : Nat} {l : List (List Nat)} (nd : l.Nodup) (h : ∀ x ∈ l, IsMap n x) : l.length ≤ n ^ n := by
  have h1 := nodup_below (n ^ n) (l.map (code n)) ?_ ?_
  · simpa using h1
  · rw [List.Nodup, List.pairwise_map]
    refine List.Pairwise.imp_of_mem (fun {a b} ha hb hne e => hne ?_) nd
    exact code_inj n a b ((h a ha).1.trans (h b hb).1.symm) (h a ha).2 (h b hb).2 e
  · intro x hx
    obtain ⟨y, hy, rfl⟩ := List.mem_map.mp hx
    have := code_lt n y (h y hy).2
    rw [(h y hy).1] at this
    exact this
theorem maps_few {n : Nat} (hn : n ≤ 4) {l : List (List Nat)} (nd : l.Nodup) (h : ∀ x ∈ l, IsMap n x) : l.length ≤ 256 := by
  have := maps_most nd h
  have h2 : n = 0 ∨ n = 1 ∨ n = 2 ∨ n = 3 ∨ n = 4 := by omega
  rcases h2 with q | q | q | q | q <;> subst q <;> omega
end Mt

namespace Mt
open PySem
def colR (right : List (List Nat)) (l x : Nat) : Nat := (right.getD x []).getD l 0
def leftsOf (right : List (List Nat)) (t : List (Nat × Nat)) : List (List Nat) := t.foldl (fun ls p => ls ++ [(ls.getD p.1 []).map (colR right p.2)]) [right.getD 0 []]
theorem leftsOf_snoc (right : List (List Nat)) (t : List (Nat × Nat)) (p : Nat × Nat) : leftsOf right (t ++ [p]) = leftsOf right t ++ [((leftsOf right t).getD p.1 []).map (colR right p.2)] := by
  unfold leftsOf
  rw [List.foldl_append]
  rfl
theorem leftsOf_len (right : List (List Nat)) (t : List (Nat × Nat)) : (leftsOf right t).length = t.length + 1 := by
  unfold leftsOf
  have : ∀ (t : List (Nat × Nat)) (ws : List (List Nat)), (t.foldl (fun ls p => ls ++ [(ls.getD p.1 []).map (colR right p.2)]) ws).length = ws.length + t.length := by
    intro t
    induction t with
    | nil => intro ws; rfl
    | cons p r ih => intro ws; rw [List.foldl_cons, ih]; simp; omega
  rw [this]; simp; omega
/-- a table that Monoid takes -/
structure Good (right : List (List Nat)) (L : Nat) : Prop where
  n1 : 1 ≤ right.length
  n2 : right.length ≤ 2000
  l1 : 1 ≤ L
  l2 : L ≤ 6
  rl : ∀ r ∈ right, r.length = L
  en : ∀ r ∈ right, ∀ o ∈ r, o < right.length
  ord : ordRows 0 right []
  len : right.length = (scanRows 0 right []).length + 1
  pr : ∀ (i l o : Nat) (r : List Nat), right[i]? = some r → r[l]? = some o → (leftsOf right (scanRows 0 right [])).getD o [] = ((leftsOf right (scanRows 0 right [])).getD i []).map (colR right l)
/-- where the elements are met first -/
def TreeOk (right : List (List Nat)) (t : List (Nat × Nat)) : Prop := ∀ (k a l : Nat), t[k]? = some (a, l) → a ≤ k ∧ ∃ r, right[a]? = some r ∧ r[l]? = some (k + 1)
theorem treeOk_row {right : List (List Nat)} {i : Nat} {r0 : List Nat} (h0 : right[i]? = some r0) : ∀ (row : List Nat) (l : Nat) (t : List (Nat × Nat)), (∀ j o, row[j]? = some o → r0[l + j]? = some o) → i < t.length + 1 → TreeOk right t → TreeOk right (scanRow i l row t) ∧ t.length ≤ (scanRow i l row t).length
  | [], l, t, _, _, h => ⟨h, Nat.le_refl _⟩
  | o :: row, l, t, hr, hi, h => by
    have hr' : ∀ j o', row[j]? = some o' → r0[l + 1 + j]? = some o' := fun j o' e => by
      have := hr (j + 1) o' (by simpa using e)
      rw [show l + 1 + j = l + (j + 1) by omega]
      exact this
    simp only [scanRow]
    by_cases ho : o = t.length + 1
    · rw [stp_new ho]
      have := treeOk_row h0 row (l + 1) (t ++ [(i, l)]) hr' (by simp; omega) (fun k a l' e => by
        by_cases hk : k < t.length
        · rw [List.getElem?_append_left hk] at e
          exact h k a l' e
        · have hk2 : k = t.length := by
            have := (List.getElem?_eq_some_iff.mp e).1
            simp at this
            omega
          subst hk2
          rw [List.getElem?_append_right (Nat.le_refl _)] at e
          simp at e
          obtain ⟨rfl, rfl⟩ := e
          refine ⟨by omega, r0, h0, ?_⟩
          have := hr 0 o (by simp)
          rw [ho] at this
          simpa using this)
      refine ⟨this.1, ?_⟩
      have h2 := this.2
      simp at h2
      omega
    · rw [stp_old ho]
      exact treeOk_row h0 row (l + 1) t hr' hi h
theorem treeOk_rows {right : List (List Nat)} : ∀ (rows : List (List Nat)) (i : Nat) (t : List (Nat × Nat)), (∀ j r, rows[j]? = some r → right[i + j]? = some r) → ordRows i rows t → TreeOk right t → TreeOk right (scanRows i rows t)
  | [], i, t, _, _, h => h
  | row :: rows, i, t, hr, ho, h => by
    simp only [scanRows]
    have h1 := treeOk_row (right := right) (i := i) (r0 := row) (by have := hr 0 row (by simp); simpa using this) row 0 t (fun j o e => by simpa using e) ho.1 h
    refine treeOk_rows rows (i + 1) _ (fun j r e => ?_) ho.2.2 h1.1
    have := hr (j + 1) r (by simpa using e)
    rw [show i + 1 + j = i + (j + 1) by omega]
    exact this
theorem treeOk {right : List (List Nat)} (h : ordRows 0 right []) : TreeOk right (scanRows 0 right []) :=
  treeOk_rows right 0 [] (fun j r e => by simpa using e) h (fun k a l e => by simp at e)
/-- maps go together -/
theorem comp_assoc {n : Nat} {x y z : List Nat} (hx : ∀ i ∈ x, i < n) (hy : y.length = n) : comp (comp x y) z = comp x (comp y z) := by
  unfold comp
  rw [List.map_map]
  refine List.map_congr_left fun i hi => ?_
  have h1 : i < y.length := by rw [hy]; exact hx i hi
  simp only [Function.comp_apply, List.getD_eq_getElem?_getD, List.getElem?_map, List.getElem?_eq_getElem h1, Option.map_some, Option.getD_some]
theorem comp_one {n : Nat} {x : List Nat} (hx : IsMap n x) : comp x (List.range n) = x := by
  unfold comp
  conv => rhs; rw [← List.map_id x]
  refine List.map_congr_left fun i hi => ?_
  simp only [List.getD_eq_getElem?_getD, List.getElem?_range (hx.2 i hi), Option.getD_some, id]
theorem one_comp {n : Nat} {x : List Nat} (hx : IsMap n x) : comp (List.range n) x = x := by
  unfold comp
  apply List.ext_getElem?
  intro i
  rw [List.getElem?_map]
  by_cases h : i < n
  · have h1 : i < x.length := by rw [hx.1]; exact h
    rw [List.getElem?_range h]
    simp only [Option.map_some, List.getD_eq_getElem?_getD, List.getElem?_eq_getElem h1, Option.getD_some]
  · rw [List.getElem?_eq_none (by simp; omega), List.getElem?_eq_none (by rw [hx.1]; omega)]
    rfl
section
variable {n : Nat} {ms found table : List (List Nat)} {words : List Str}
theorem nd_inj {l : List (List Nat)} (nd : l.Nodup) {i j : Nat} {x : List Nat} (hi : l[i]? = some x) (hj : l[j]? = some x) : i = j := by
  obtain ⟨h1, h2⟩ := List.getElem?_eq_some_iff.mp hi
  obtain ⟨h3, h4⟩ := List.getElem?_eq_some_iff.mp hj
  have pw := List.pairwise_iff_getElem.mp nd
  rcases Nat.lt_trichotomy i j with q | q | q
  · exact absurd (h2.trans h4.symm) (pw i j h1 h3 q)
  · exact q
  · exact absurd (h4.trans h2.symm) (pw j i h3 h1 q)
theorem Tab.row (h : Tab n ms found words table) {i : Nat} {x : List Nat} (hx : found[i]? = some x) : ∃ r, table[i]? = some r ∧ r.length = ms.length := by
  have h1 := (List.getElem?_eq_some_iff.mp hx).1
  rw [← h.tl] at h1
  exact ⟨table[i], List.getElem?_eq_getElem h1, h.rl _ (List.getElem_mem h1)⟩
/-- what stands in the table -/
theorem Tab.at_ (h : Tab n ms found words table) {i l : Nat} {x m : List Nat} (hx : found[i]? = some x) (hm : ms[l]? = some m) : ∃ r o, table[i]? = some r ∧ r[l]? = some o ∧ colR table l i = o ∧ found[o]? = some (comp x m) := by
  obtain ⟨r, hr, hl⟩ := h.row hx
  have h1 : l < r.length := by rw [hl]; exact (List.getElem?_eq_some_iff.mp hm).1
  have h2 : r[l]? = some r[l] := List.getElem?_eq_getElem h1
  obtain ⟨x', m', e1, e2, e3⟩ := h.en i r hr l _ h2
  rw [hx] at e1
  rw [hm] at e2
  cases e1
  cases e2
  refine ⟨r, _, hr, h2, ?_, e3⟩
  unfold colR
  simp only [List.getD_eq_getElem?_getD, hr, h2, Option.getD_some]
/-- the letters in front -/
theorem Tab.lefts (h : Tab n ms found words table) (hms : ∀ m ∈ ms, IsMap n m) : ∀ (t : List (Nat × Nat)) (t2 : List (Nat × Nat)), t ++ t2 = scanRows 0 table [] → ∀ (k : Nat) (x : List Nat), k < t.length + 1 → found[k]? = some x →
    ∃ r, (leftsOf table t)[k]? = some r ∧ r.length = ms.length ∧ ∀ (c : Nat) (m : List Nat), ms[c]? = some m → ∃ o, r[c]? = some o ∧ found[o]? = some (comp m x) := by
  intro t
  have key : ∀ (N : Nat) (t : List (Nat × Nat)), t.length = N → ∀ t2, t ++ t2 = scanRows 0 table [] → ∀ (k : Nat) (x : List Nat), k < t.length + 1 → found[k]? = some x →
      ∃ r, (leftsOf table t)[k]? = some r ∧ r.length = ms.length ∧ ∀ (c : Nat) (m : List Nat), ms[c]? = some m → ∃ o, r[c]? = some o ∧ found[o]? = some (comp m x) := by
    intro N
    induction N with
    | zero =>
      intro t ht t2 e k x hk hx
      have : t = [] := List.length_eq_zero_iff.mp ht
      subst this
      have hk0 : k = 0 := by simp at hk; omega
      subst hk0
      obtain ⟨r, hr, hl⟩ := h.row hx
      refine ⟨r, by simp [leftsOf, List.getD_eq_getElem?_getD, hr], hl, fun c m hm => ?_⟩
      obtain ⟨r', o, h1, h2, _, h3⟩ := h.at_ hx hm
      rw [hr] at h1
      cases h1
      refine ⟨o, h2, ?_⟩
      have h0 := h.one
      rw [hx] at h0
      cases h0
      have im := hms m (List.mem_of_getElem? hm)
      rw [h3, one_comp im, comp_one im]
    | succ N ih =>
      intro t ht t2 e k x hk hx
      rcases List.eq_nil_or_concat t with e0 | ⟨t', p, e0⟩
      · subst e0; simp at ht
      · rw [List.concat_eq_append] at e0
        subst e0
        have ht' : t'.length = N := by simpa using ht
        have e' : t' ++ (p :: t2) = scanRows 0 table [] := by rw [← e]; simp
        rw [leftsOf_snoc]
        by_cases hlt : k < t'.length + 1
        · obtain ⟨r, h1, h2⟩ := ih t' ht' _ e' k x hlt hx
          exact ⟨r, by rw [List.getElem?_append_left (List.getElem?_eq_some_iff.mp h1).1]; exact h1, h2⟩
        · have hke : k = t'.length + 1 := by simp at hk; omega
          have hp : (scanRows 0 table [])[t'.length]? = some p := by rw [← e']; simp
          obtain ⟨a, l⟩ := p
          obtain ⟨ha, r, hra, hrl⟩ := treeOk h.ord t'.length a l hp
          obtain ⟨y, m, hy, hm, hk2⟩ := h.en a r hra l _ hrl
          rw [← hke, hx] at hk2
          cases hk2
          obtain ⟨q, hq, hql, hqc⟩ := ih t' ht' _ e' a y (by omega) hy
          refine ⟨q.map (colR table l), ?_, by simp [hql], fun c mc hmc => ?_⟩
          · rw [List.getElem?_append_right (by rw [leftsOf_len]; omega)]
            rw [hke, leftsOf_len, Nat.sub_self]
            simp [List.getD_eq_getElem?_getD, hq]
          · obtain ⟨o, ho, hfo⟩ := hqc c mc hmc
            obtain ⟨r2, o2, _, _, hc2, hf2⟩ := h.at_ hfo hm
            refine ⟨o2, by rw [List.getElem?_map, ho, Option.map_some, hc2], ?_⟩
            have imc := hms mc (List.mem_of_getElem? hmc)
            have imy := h.mp y (List.mem_of_getElem? hy)
            rw [hf2, comp_assoc imc.2 imy.1]
  exact key t.length t rfl
/-- the table of a monoid of maps is one that Monoid takes -/
theorem Tab.good (h : Tab n ms found words table) (hn : n ≤ 4) (hms : ∀ m ∈ ms, IsMap n m) (l1 : 1 ≤ ms.length) (l6 : ms.length ≤ 6) : Good table ms.length where
  n1 := by rw [h.tl, h.len]; omega
  n2 := by rw [h.tl]; have := maps_few hn h.nd h.mp; omega
  l1 := l1
  l2 := l6
  rl := h.rl
  en := fun r hr o ho => by
    obtain ⟨i, hi⟩ := List.getElem?_of_mem hr
    obtain ⟨l, hl⟩ := List.getElem?_of_mem ho
    obtain ⟨x, m, _, _, h3⟩ := h.en i r hi l o hl
    rw [h.tl]
    exact (List.getElem?_eq_some_iff.mp h3).1
  ord := h.ord
  len := by rw [h.tl]; exact h.len
  pr := fun i l o r hi hl => by
    obtain ⟨x, m, hx, hm, ho⟩ := h.en i r hi l o hl
    have le := h.len
    obtain ⟨q, hq, hql, hqc⟩ := h.lefts hms (scanRows 0 table []) [] (by simp) i x (by rw [← le]; exact (List.getElem?_eq_some_iff.mp hx).1) hx
    obtain ⟨q2, hq2, hql2, hqc2⟩ := h.lefts hms (scanRows 0 table []) [] (by simp) o (comp x m) (by rw [← le]; exact (List.getElem?_eq_some_iff.mp ho).1) ho
    rw [List.getD_eq_getElem?_getD, hq2, Option.getD_some, List.getD_eq_getElem?_getD, hq, Option.getD_some]
    apply List.ext_getElem?
    intro c
    by_cases hc : c < ms.length
    · obtain ⟨mc, hmc⟩ : ∃ mc, ms[c]? = some mc := ⟨_, List.getElem?_eq_getElem hc⟩
      obtain ⟨a, ha, hfa⟩ := hqc c mc hmc
      obtain ⟨b, hb, hfb⟩ := hqc2 c mc hmc
      obtain ⟨_, a2, _, _, hc2, hf2⟩ := h.at_ hfa hm
      rw [hb, List.getElem?_map, ha, Option.map_some, hc2]
      have imc := hms mc (List.mem_of_getElem? hmc)
      have imx := h.mp x (List.mem_of_getElem? hx)
      rw [comp_assoc imc.2 imx.1] at hf2
      rw [nd_inj h.nd hfb hf2]
    · rw [List.getElem?_eq_none (by omega), List.getElem?_eq_none (by simp; omega)]
end
end Mt
namespace Mt
theorem scanRow_le (i : Nat) : ∀ (row : List Nat) (l : Nat) (t : List (Nat × Nat)), t.length ≤ (scanRow i l row t).length
  | [], _, _ => Nat.le_refl _
  | o :: r, l, t => by
    simp only [scanRow]
    have h1 := scanRow_le i r (l + 1) (stp o i l t)
    have h2 : t.length ≤ (stp o i l t).length := by
      by_cases h : o = t.length + 1
      · rw [stp_new h]; simp
      · rw [stp_old h]; exact Nat.le_refl _
    omega
theorem scanRows_le : ∀ (rows : List (List Nat)) (i : Nat) (t : List (Nat × Nat)), t.length ≤ (scanRows i rows t).length
  | [], _, _ => Nat.le_refl _
  | row :: r, i, t => by
    simp only [scanRows]
    have h1 := scanRow_le i row 0 t
    have h2 := scanRows_le r (i + 1) (scanRow i 0 row t)
    omega
section
variable {t : List (List Nat)} {L : Nat}
theorem drop_get {α : Type} {l : List α} {i : Nat} {x : α} (h : l[i]? = some x) : l.drop i = x :: l.drop (i + 1) := by
  obtain ⟨h1, h2⟩ := List.getElem?_eq_some_iff.mp h
  rw [List.drop_eq_getElem_cons h1, h2]
theorem Good.col (g : Good t L) {x l : Nat} (hx : x < t.length) (hl : l < L) : ∃ rx, t[x]? = some rx ∧ rx[l]? = some (colR t l x) ∧ colR t l x < t.length := by
  have h1 : t[x]? = some t[x] := List.getElem?_eq_getElem hx
  have h2 := g.rl _ (List.getElem_mem hx)
  have h3 : l < (t[x]).length := by rw [h2]; exact hl
  have h4 : (t[x])[l]? = some (t[x])[l] := List.getElem?_eq_getElem h3
  have h5 : colR t l x = (t[x])[l] := by
    unfold colR
    simp only [List.getD_eq_getElem?_getD, h1, h4, Option.getD_some]
  exact ⟨t[x], h1, by rw [h5]; exact h4, by rw [h5]; exact g.en _ (List.getElem_mem hx) _ (List.getElem_mem h3)⟩
theorem Good.tree (g : Good t L) {k a l : Nat} (h : (scanRows 0 t [])[k]? = some (a, l)) : a ≤ k ∧ l < L ∧ a < t.length := by
  obtain ⟨h1, r, h2, h3⟩ := treeOk g.ord k a l h
  refine ⟨h1, ?_, (List.getElem?_eq_some_iff.mp h2).1⟩
  have := (List.getElem?_eq_some_iff.mp h3).1
  rw [g.rl r (List.mem_of_getElem? h2)] at this
  exact this
theorem Good.lefts (g : Good t L) : ∀ (N : Nat) (tr : List (Nat × Nat)), tr.length = N → ∀ t2, tr ++ t2 = scanRows 0 t [] → ∀ q ∈ leftsOf t tr, q.length = L ∧ ∀ x ∈ q, x < t.length := by
  intro N
  induction N with
  | zero =>
    intro tr ht t2 e q hq
    have : tr = [] := List.length_eq_zero_iff.mp ht
    subst this
    have hn : 0 < t.length := by have := g.n1; omega
    have h0 : t[0]? = some t[0] := List.getElem?_eq_getElem hn
    have : q = t[0] := by simpa [leftsOf, List.getD_eq_getElem?_getD, h0] using hq
    subst this
    exact ⟨g.rl _ (List.getElem_mem _), g.en _ (List.getElem_mem _)⟩
  | succ N ih =>
    intro tr ht t2 e q hq
    rcases List.eq_nil_or_concat tr with e0 | ⟨t', p, e0⟩
    · subst e0; simp at ht
    · rw [List.concat_eq_append] at e0
      subst e0
      have ht' : t'.length = N := by simpa using ht
      have e' : t' ++ (p :: t2) = scanRows 0 t [] := by rw [← e]; simp
      rw [leftsOf_snoc] at hq
      rcases List.mem_append.mp hq with hq | hq
      · exact ih t' ht' _ e' q hq
      · have hq2 : q = ((leftsOf t t').getD p.1 []).map (colR t p.2) := by simpa using hq
        obtain ⟨a, l⟩ := p
        have hp : (scanRows 0 t [])[t'.length]? = some (a, l) := by rw [← e']; simp
        obtain ⟨h1, h2, h3⟩ := g.tree hp
        have hn : a < (leftsOf t t').length := by rw [leftsOf_len]; omega
        have h4 : (leftsOf t t')[a]? = some (leftsOf t t')[a] := List.getElem?_eq_getElem hn
        obtain ⟨h5, h6⟩ := ih t' ht' _ e' _ (List.mem_of_getElem? h4)
        rw [hq2]
        simp only [List.getD_eq_getElem?_getD, h4, Option.getD_some]
        refine ⟨by rw [List.length_map]; exact h5, fun x hx => ?_⟩
        obtain ⟨y, hy, rfl⟩ := List.mem_map.mp hx
        obtain ⟨_, _, _, h7⟩ := g.col (h6 y hy) h2
        exact h7
theorem Good.left (g : Good t L) {k : Nat} (hk : k < t.length) : ∃ q, (leftsOf t (scanRows 0 t []))[k]? = some q ∧ q.length = L ∧ ∀ x ∈ q, x < t.length := by
  have hn : k < (leftsOf t (scanRows 0 t [])).length := by rw [leftsOf_len, ← g.len]; exact hk
  have h1 : (leftsOf t (scanRows 0 t []))[k]? = some (leftsOf t (scanRows 0 t []))[k] := List.getElem?_eq_getElem hn
  exact ⟨_, h1, g.lefts _ _ rfl [] (by simp) _ (List.mem_of_getElem? h1)⟩
end
end Mt

/-! counting words, letter by letter and one by one. -/
namespace Mt
open PySem
def addAt (a : List Nat) (o v : Nat) : List Nat := a.set o (a.getD o 0 + v)
def rowAdd (v : Nat) : List Nat → List Nat → List Nat
  | [], a => a
  | o :: r, a => rowAdd v r (addAt a o v)
def rowsAdd (c : List Nat) : Nat → List (List Nat) → List Nat → List Nat
  | _, [], a => a
  | i, row :: rs, a => rowsAdd c (i + 1) rs (rowAdd (c.getD i 0) row a)
def stepC (t : List (List Nat)) (c : List Nat) : List Nat := rowsAdd c 0 t (List.replicate c.length 0)
def cnt (t : List (List Nat)) : Nat → List Nat
  | 0 => 1 :: List.replicate (t.length - 1) 0
  | k + 1 => stepC t (cnt t k)
theorem addAt_len (a : List Nat) (o v : Nat) : (addAt a o v).length = a.length := by simp [addAt]
theorem rowAdd_len (v : Nat) : ∀ (r a : List Nat), (rowAdd v r a).length = a.length
  | [], _ => rfl
  | o :: r, a => by simp only [rowAdd]; rw [rowAdd_len v r, addAt_len]
theorem rowsAdd_len (c : List Nat) : ∀ (rs : List (List Nat)) (i : Nat) (a : List Nat), (rowsAdd c i rs a).length = a.length
  | [], _, _ => rfl
  | r :: rs, i, a => by simp only [rowsAdd]; rw [rowsAdd_len c rs, rowAdd_len]
theorem cnt_len {t : List (List Nat)} (h : 1 ≤ t.length) : ∀ k, (cnt t k).length = t.length
  | 0 => by simp [cnt]; omega
  | k + 1 => by simp only [cnt, stepC]; rw [rowsAdd_len, List.length_replicate, cnt_len h k]
theorem addAt_val (a : List Nat) (o v x : Nat) (h : o < a.length) : (addAt a o v).getD x 0 = a.getD x 0 + (if x = o then v else 0) := by
  unfold addAt
  simp only [List.getD_eq_getElem?_getD, List.getElem?_set]
  by_cases hx : x = o
  · subst hx; simp [h]
  · have : ¬ o = x := fun z => hx z.symm
    simp [hx, this]
theorem rowAdd_val (v x : Nat) : ∀ (r a : List Nat), (∀ o ∈ r, o < a.length) → (rowAdd v r a).getD x 0 = a.getD x 0 + v * r.count x
  | [], a, _ => by simp [rowAdd]
  | o :: r, a, h => by
    simp only [rowAdd]
    rw [rowAdd_val v x r _ (fun z hz => by rw [addAt_len]; exact h z (by simp [hz])), addAt_val _ _ _ _ (h o (by simp)), List.count_cons]
    by_cases hx : x = o
    · subst hx; simp [Nat.mul_add]; omega
    · have : ¬ o = x := fun z => hx z.symm
      simp [hx, this]
def sumW (c : List Nat) (x : Nat) : Nat → List (List Nat) → Nat
  | _, [] => 0
  | i, row :: rs => c.getD i 0 * row.count x + sumW c x (i + 1) rs
theorem rowsAdd_val (c : List Nat) (x : Nat) : ∀ (rs : List (List Nat)) (i : Nat) (a : List Nat), (∀ r ∈ rs, ∀ o ∈ r, o < a.length) → (rowsAdd c i rs a).getD x 0 = a.getD x 0 + sumW c x i rs
  | [], _, _, _ => by simp [rowsAdd, sumW]
  | r :: rs, i, a, h => by
    simp only [rowsAdd, sumW]
    rw [rowsAdd_val c x rs (i + 1) _ (fun q hq o ho => by rw [rowAdd_len]; exact h q (by simp [hq]) o ho), rowAdd_val _ _ _ _ (h r (by simp))]
    omega
/-- all products of k letters, one by one -/
def allP (n : Nat) (ms : List (List Nat)) : Nat → List (List Nat)
  | 0 => [List.range n]
  | k + 1 => (allP n ms k).flatMap fun x => ms.map (comp x)
theorem allP_len (n : Nat) (ms : List (List Nat)) : ∀ k, (allP n ms k).length = ms.length ^ k
  | 0 => by simp [allP]
  | k + 1 => by
    simp only [allP, List.length_flatMap]
    have : ∀ l : List (List Nat), (l.map fun x => (ms.map (comp x)).length).sum = l.length * ms.length := by
      intro l
      induction l with
      | nil => simp
      | cons a r ih => rw [List.map_cons, List.sum_cons, ih, List.length_map, List.length_cons, Nat.add_mul]; omega
    rw [this, allP_len n ms k, Nat.pow_succ]
/-- a sum over a list, by how often each stands in it -/
theorem sum_one {f : List Nat → Nat} {y : List Nat} : ∀ (l : List (List Nat)), l.Nodup → y ∈ l → (l.map fun x => if x = y then f x else 0).sum = f y
  | [], _, h => by simp at h
  | a :: r, nd, h => by
    have hn := List.nodup_cons.mp nd
    simp only [List.map_cons, List.sum_cons]
    by_cases e : a = y
    · subst e
      have z : (r.map fun x => if x = a then f x else 0).sum = 0 := by
        have : ∀ l : List (List Nat), a ∉ l → (l.map fun x => if x = a then f x else 0).sum = 0 := by
          intro l
          induction l with
          | nil => simp
          | cons b q ih =>
            intro hq
            have h1 : ¬ b = a := fun z => hq (by simp [z])
            simp only [List.map_cons, List.sum_cons, if_neg h1, ih (fun z => hq (by simp [z]))]
        exact this r hn.1
      simp [z]
    · rw [if_neg e, sum_one r hn.2 (by rcases List.mem_cons.mp h with z | z; exact absurd z.symm e; exact z)]
      omega
theorem sum_add (f g : List Nat → Nat) : ∀ (l : List (List Nat)), (l.map fun x => f x + g x).sum = (l.map f).sum + (l.map g).sum
  | [] => rfl
  | a :: r => by simp only [List.map_cons, List.sum_cons, sum_add f g r]; omega
theorem sum_by {f : List Nat → Nat} {found : List (List Nat)} (nd : found.Nodup) : ∀ (S : List (List Nat)), (∀ x ∈ S, x ∈ found) → (S.map f).sum = (found.map fun x => S.count x * f x).sum
  | [], _ => by
    have : ∀ l : List (List Nat), (l.map fun x => ([] : List (List Nat)).count x * f x).sum = 0 := by
      intro l
      induction l with
      | nil => rfl
      | cons a r ih => simp only [List.map_cons, List.sum_cons, ih]; simp
    rw [this]; rfl
  | y :: S, h => by
    simp only [List.map_cons, List.sum_cons]
    rw [sum_by nd S fun x hx => h x (by simp [hx])]
    have e : (found.map fun x => (y :: S).count x * f x) = found.map fun x => (if x = y then f x else 0) + S.count x * f x := by
      refine List.map_congr_left fun x _ => ?_
      rw [List.count_cons]
      by_cases e : x = y
      · subst e; simp [Nat.add_mul]; omega
      · have : ¬ y = x := fun z => e z.symm
        simp [e, this]
    rw [e, sum_add, sum_one found nd (h y (by simp))]
section
variable {n : Nat} {ms found table : List (List Nat)} {words : List Str}
theorem Tab.all (h : Tab n ms found words table) : ∀ k, ∀ x ∈ allP n ms k, x ∈ found
  | 0, x, hx => by
    have : x = List.range n := by simpa [allP] using hx
    subst this
    exact List.mem_of_getElem? h.one
  | k + 1, x, hx => by
    simp only [allP, List.mem_flatMap] at hx
    obtain ⟨y, hy, hm0⟩ := hx
    obtain ⟨m, hm, rfl⟩ := List.mem_map.mp hm0
    obtain ⟨i, hi⟩ := List.getElem?_of_mem (h.all k y hy)
    obtain ⟨l, hl⟩ := List.getElem?_of_mem hm
    obtain ⟨_, o, _, _, _, ho⟩ := h.at_ hi hl
    exact List.mem_of_getElem? ho
/-- how often a row leads to o -/
theorem Tab.cntRow (h : Tab n ms found words table) {i o : Nat} {x y r : List Nat} (hx : found[i]? = some x) (hr : table[i]? = some r) (hy : found[o]? = some y) : r.count o = (ms.map (comp x)).count y := by
  have key : ∀ (r : List Nat) (ms' : List (List Nat)), r.length = ms'.length → (∀ (l o : Nat) (m : List Nat), r[l]? = some o → ms'[l]? = some m → found[o]? = some (comp x m)) → r.count o = (ms'.map (comp x)).count y := by
    intro r
    induction r with
    | nil =>
      intro ms' e _
      cases ms' with
      | nil => rfl
      | cons _ _ => simp at e
    | cons a r ih =>
      intro ms' e q
      cases ms' with
      | nil => simp at e
      | cons m ms' =>
        rw [List.map_cons, List.count_cons, List.count_cons, ih ms' (by simpa using e) (fun l o' m' h1 h2 => q (l + 1) o' m' (by simpa using h1) (by simpa using h2))]
        have ha := q 0 a m (by simp) (by simp)
        by_cases z : a = o
        · subst z
          rw [hy] at ha
          cases ha
          simp
        · have : ¬ comp x m = y := fun w => z (nd_inj h.nd (by rw [w] at ha; exact ha) hy)
          simp [z, this]
  refine key r ms (h.rl r (List.mem_of_getElem? hr)) fun l o' m h1 h2 => ?_
  obtain ⟨x', m', e1, e2, e3⟩ := h.en i r hr l o' h1
  rw [hx] at e1
  rw [h2] at e2
  cases e1
  cases e2
  exact e3
theorem Tab.sumW (h : Tab n ms found words table) {c : List Nat} {S : List (List Nat)} {o : Nat} {y : List Nat} (hy : found[o]? = some y) (hc : ∀ (i : Nat) (x : List Nat), found[i]? = some x → c.getD i 0 = S.count x) :
    ∀ (rs fs : List (List Nat)) (i : Nat), rs = table.drop i → fs = found.drop i → Mt.sumW c o i rs = (fs.map fun x => S.count x * (ms.map (comp x)).count y).sum
  | [], fs, i, e1, e2 => by
    have : fs = [] := by
      rw [e2, List.drop_eq_nil_iff]
      have := e1.symm
      rw [List.drop_eq_nil_iff, h.tl] at this
      exact this
    subst this
    rfl
  | r :: rs, fs, i, e1, e2 => by
    have hi : i < table.length := by
      rcases Nat.lt_or_ge i table.length with z | z
      · exact z
      · rw [List.drop_eq_nil_of_le z] at e1; cases e1
    have hi2 : i < found.length := by rw [← h.tl]; exact hi
    rw [List.drop_eq_getElem_cons hi] at e1
    rw [List.drop_eq_getElem_cons hi2] at e2
    have h1 : r = table[i] := (List.cons.inj e1).1
    have h2 : rs = table.drop (i + 1) := (List.cons.inj e1).2
    have hx : found[i]? = some found[i] := List.getElem?_eq_getElem hi2
    have hr : table[i]? = some r := by rw [h1]; exact List.getElem?_eq_getElem hi
    rw [e2]
    simp only [Mt.sumW, List.map_cons, List.sum_cons]
    rw [h.sumW hy hc rs _ (i + 1) h2 rfl, hc i _ hx, h.cntRow hx hr hy]
theorem count_flat (y : List Nat) (f : List Nat → List (List Nat)) : ∀ (S : List (List Nat)), (S.flatMap f).count y = (S.map fun x => (f x).count y).sum
  | [] => rfl
  | a :: r => by rw [List.flatMap_cons, List.count_append, count_flat y f r]; rfl
/-- letter by letter is one by one -/
theorem Tab.cnt (h : Tab n ms found words table) : ∀ k, Mt.cnt table k = found.map fun x => (allP n ms k).count x := by
  have n1 : 1 ≤ table.length := by rw [h.tl, h.len]; omega
  have fromVal : ∀ k, (∀ (i : Nat) (x : List Nat), found[i]? = some x → (Mt.cnt table k).getD i 0 = (allP n ms k).count x) → Mt.cnt table k = found.map fun x => (allP n ms k).count x := by
    intro k hv
    apply List.ext_getElem?
    intro i
    rw [List.getElem?_map]
    by_cases hi : i < found.length
    · have hx : found[i]? = some found[i] := List.getElem?_eq_getElem hi
      have h1 : i < (Mt.cnt table k).length := by rw [cnt_len n1, h.tl]; exact hi
      have h2 := hv i _ hx
      rw [List.getD_eq_getElem?_getD, List.getElem?_eq_getElem h1, Option.getD_some] at h2
      rw [hx, Option.map_some, List.getElem?_eq_getElem h1, h2]
    · rw [List.getElem?_eq_none (by rw [cnt_len n1, h.tl]; omega), List.getElem?_eq_none (by omega)]
      rfl
  intro k
  induction k with
  | zero =>
    refine fromVal 0 fun i x hx => ?_
    have h0 := h.one
    have e : (allP n ms 0).count x = if i = 0 then 1 else 0 := by
      simp only [allP, List.count_cons, List.count_nil]
      by_cases z : i = 0
      · subst z
        rw [hx] at h0
        cases h0
        simp
      · have : ¬ List.range n = x := fun w => z (nd_inj h.nd hx (by rw [← w]; exact h0))
        simp [z, this]
    rw [e]
    cases i with
    | zero => simp [Mt.cnt]
    | succ j =>
      simp only [Mt.cnt, List.getD_eq_getElem?_getD, List.getElem?_cons_succ]
      by_cases z : j < table.length - 1
      · rw [List.getElem?_replicate, if_pos z]; simp
      · rw [List.getElem?_replicate, if_neg z]; simp
  | succ k ih =>
    refine fromVal (k + 1) fun o y hy => ?_
    have hc : ∀ (i : Nat) (x : List Nat), found[i]? = some x → (Mt.cnt table k).getD i 0 = (allP n ms k).count x := fun i x hx => by
      rw [ih, List.getD_eq_getElem?_getD, List.getElem?_map, hx]; rfl
    simp only [Mt.cnt, stepC]
    rw [rowsAdd_val _ _ _ _ _ (fun r hr o' ho' => by
      rw [List.length_replicate, cnt_len n1]
      obtain ⟨i, hi⟩ := List.getElem?_of_mem hr
      obtain ⟨l, hl⟩ := List.getElem?_of_mem ho'
      obtain ⟨_, _, _, _, h3⟩ := h.en i r hi l o' hl
      rw [h.tl]
      exact (List.getElem?_eq_some_iff.mp h3).1)]
    have z0 : (List.replicate (Mt.cnt table k).length 0).getD o 0 = 0 := by
      rw [List.getD_eq_getElem?_getD, List.getElem?_replicate]
      split <;> rfl
    rw [z0, Nat.zero_add, h.sumW hy hc table found 0 (by simp) (by simp)]
    simp only [allP]
    rw [count_flat, sum_by h.nd _ (h.all k)]
theorem Tab.sum (h : Tab n ms found words table) (k : Nat) : (Mt.cnt table k).sum = ms.length ^ k := by
  rw [h.cnt k, ← allP_len n ms k]
  have e := sum_by (f := fun _ => 1) h.nd (allP n ms k) (h.all k)
  have e2 : ((allP n ms k).map fun _ => 1).sum = (allP n ms k).length := by
    generalize allP n ms k = l
    induction l with
    | nil => rfl
    | cons a r ih => simp only [List.map_cons, List.sum_cons, ih, List.length_cons]; omega
  rw [e2] at e
  simp only [Nat.mul_one] at e
  exact e.symm
end
end Mt

namespace Mt
open PySem
theorem strLen (a b : Str) : (a ++ b).length = a.length + b.length := by
  show (a.cps ++ b.cps).size = a.cps.size + b.cps.size
  simp
/-- the lengths of the words -/
def lenOf (t : List (Nat × Nat)) : List Nat := t.foldl (fun ls p => ls ++ [ls.getD p.1 0 + 1]) [0]
theorem lenOf_snoc (t : List (Nat × Nat)) (p : Nat × Nat) : lenOf (t ++ [p]) = lenOf t ++ [(lenOf t).getD p.1 0 + 1] := by
  unfold lenOf
  rw [List.foldl_append]
  rfl
theorem lens_of : ∀ (N : Nat) (t : List (Nat × Nat)), t.length = N → (wordsOf t).map (fun w => w.length) = lenOf t := by
  intro N
  induction N with
  | zero =>
    intro t ht
    have : t = [] := List.length_eq_zero_iff.mp ht
    subst this
    rfl
  | succ N ih =>
    intro t ht
    rcases List.eq_nil_or_concat t with e0 | ⟨t', p, e0⟩
    · subst e0; simp at ht
    · rw [List.concat_eq_append] at e0
      subst e0
      have ht' : t'.length = N := by simpa using ht
      rw [wordsOf_snoc, lenOf_snoc, List.map_append, ih t' ht', ← ih t' ht']
      simp only [List.map_cons, List.map_nil]
      rw [strLen]
      have e1 : (letS p.2).length = 1 := rfl
      rw [e1]
      congr 3
      simp only [List.getD_eq_getElem?_getD, List.getElem?_map]
      cases (wordsOf t')[p.1]? <;> rfl
theorem lenOf_len (t : List (Nat × Nat)) : (lenOf t).length = t.length + 1 := by
  rw [← lens_of _ t rfl, List.length_map, wordsOf_len]
/-- rows are met in order -/
def Asc (i : Nat) (t : List (Nat × Nat)) : Prop := t.Pairwise (fun p q => p.1 ≤ q.1) ∧ ∀ p ∈ t, p.1 ≤ i
theorem asc_row (i : Nat) : ∀ (row : List Nat) (l : Nat) (t : List (Nat × Nat)), Asc i t → Asc i (scanRow i l row t)
  | [], _, _, h => h
  | o :: r, l, t, h => by
    simp only [scanRow]
    refine asc_row i r (l + 1) _ ?_
    by_cases ho : o = t.length + 1
    · rw [stp_new ho]
      refine ⟨List.pairwise_append.mpr ⟨h.1, by simp, fun p hp q hq => ?_⟩, fun p hp => ?_⟩
      · have : q = (i, l) := by simpa using hq
        subst this
        exact h.2 p hp
      · rcases List.mem_append.mp hp with z | z
        · exact h.2 p z
        · have : p = (i, l) := by simpa using z
          subst this
          exact Nat.le_refl _
    · rw [stp_old ho]; exact h
theorem asc_rows : ∀ (rows : List (List Nat)) (i : Nat) (t : List (Nat × Nat)), Asc i t → (scanRows i rows t).Pairwise (fun p q => p.1 ≤ q.1)
  | [], _, _, h => h.1
  | row :: rs, i, t, h => by
    simp only [scanRows]
    have h1 := asc_row i row 0 t h
    exact asc_rows rs (i + 1) _ ⟨h1.1, fun p hp => Nat.le_succ_of_le (h1.2 p hp)⟩
theorem asc (t : List (List Nat)) : (scanRows 0 t []).Pairwise (fun p q => p.1 ≤ q.1) := asc_rows t 0 [] ⟨by simp, by simp⟩
/-- how lengths go on -/
theorem lenOf_at : ∀ (N : Nat) (t : List (Nat × Nat)), t.length = N → ∀ (k a l : Nat), t[k]? = some (a, l) → a ≤ k → (lenOf t).getD (k + 1) 0 = (lenOf t).getD a 0 + 1 := by
  intro N
  induction N with
  | zero =>
    intro t ht k a l h _
    have : t = [] := List.length_eq_zero_iff.mp ht
    subst this
    simp at h
  | succ N ih =>
    intro t ht k a l h hak
    rcases List.eq_nil_or_concat t with e0 | ⟨t', p, e0⟩
    · subst e0; simp at ht
    · rw [List.concat_eq_append] at e0
      subst e0
      have ht' : t'.length = N := by simpa using ht
      rw [lenOf_snoc]
      have keep : ∀ j, j < t'.length + 1 → (lenOf t' ++ [(lenOf t').getD p.1 0 + 1]).getD j 0 = (lenOf t').getD j 0 := fun j hj => by
        simp only [List.getD_eq_getElem?_getD]
        rw [List.getElem?_append_left (by rw [lenOf_len]; exact hj)]
      by_cases hk : k < t'.length
      · rw [List.getElem?_append_left hk] at h
        rw [keep (k + 1) (by omega), keep a (by omega)]
        exact ih t' ht' k a l h hak
      · have hk2 : k = t'.length := by
          have := (List.getElem?_eq_some_iff.mp h).1
          simp at this
          omega
        subst hk2
        rw [List.getElem?_append_right (Nat.le_refl _)] at h
        simp at h
        subst h
        rw [keep a (by omega)]
        rw [List.getD_eq_getElem?_getD, List.getElem?_append_right (by rw [lenOf_len]; exact Nat.le_refl _), lenOf_len]
        simp
section
variable {t : List (Nat × Nat)} (h1 : ∀ (k a l : Nat), t[k]? = some (a, l) → a ≤ k) (h2 : t.Pairwise (fun p q => p.1 ≤ q.1))
include h1 h2
theorem len_step : ∀ k, k < t.length → (lenOf t).getD k 0 ≤ (lenOf t).getD (k + 1) 0 ∧ (lenOf t).getD (k + 1) 0 ≤ (lenOf t).getD k 0 + 1 := by
  intro k
  induction k using Nat.strongRecOn with
  | _ k ih =>
    intro hk
    have mono : ∀ d i, i + d ≤ k → (lenOf t).getD i 0 ≤ (lenOf t).getD (i + d) 0 := by
      intro d
      induction d with
      | zero => intro i _; exact Nat.le_refl _
      | succ d ihd =>
        intro i hi
        have a1 := ihd i (by omega)
        have a2 := (ih (i + d) (by omega) (by omega)).1
        rw [show i + (d + 1) = i + d + 1 by omega]
        omega
    obtain ⟨a, l, hal⟩ : ∃ a l, t[k]? = some (a, l) := ⟨_, _, List.getElem?_eq_getElem hk⟩
    have ha := h1 k a l hal
    have e := lenOf_at _ t rfl k a l hal ha
    have m1 := mono (k - a) a (by omega)
    rw [show a + (k - a) = k by omega] at m1
    refine ⟨?_, by omega⟩
    cases k with
    | zero =>
      have : a = 0 := by omega
      subst this
      omega
    | succ j =>
      obtain ⟨b, l', hbl⟩ : ∃ b l', t[j]? = some (b, l') := ⟨_, _, List.getElem?_eq_getElem (by omega : j < t.length)⟩
      have hb := h1 j b l' hbl
      have e2 := lenOf_at _ t rfl j b l' hbl hb
      have hba : b ≤ a := by
        have pw := List.pairwise_iff_getElem.mp h2 j (j + 1) (by omega) hk (by omega)
        obtain ⟨q1, q2⟩ := List.getElem?_eq_some_iff.mp hbl
        obtain ⟨q3, q4⟩ := List.getElem?_eq_some_iff.mp hal
        rw [q2, q4] at pw
        exact pw
      have m2 := mono (a - b) b (by omega)
      rw [show b + (a - b) = a by omega] at m2
      omega
theorem len_mono : ∀ d i, i + d ≤ t.length → (lenOf t).getD i 0 ≤ (lenOf t).getD (i + d) 0 := by
  intro d
  induction d with
  | zero => intro i _; exact Nat.le_refl _
  | succ d ih =>
    intro i hi
    have a1 := ih i (by omega)
    have a2 := (len_step h1 h2 (i + d) (by omega)).1
    rw [show i + (d + 1) = i + d + 1 by omega]
    omega
/-- the last one is the greatest -/
theorem len_last : ∀ x ∈ lenOf t, x ≤ (lenOf t).getD t.length 0 := by
  intro x hx
  obtain ⟨i, hi⟩ := List.getElem?_of_mem hx
  have hl := (List.getElem?_eq_some_iff.mp hi).1
  rw [lenOf_len] at hl
  have m := len_mono h1 h2 (t.length - i) i (by omega)
  rw [show i + (t.length - i) = t.length by omega] at m
  rw [List.getD_eq_getElem?_getD, hi] at m
  exact m
theorem len_all : ∀ k, k ≤ t.length → ∀ l, l ≤ (lenOf t).getD k 0 → l ∈ lenOf t := by
  have at0 : (lenOf t).getD 0 0 = 0 := by
    have : ∀ (N : Nat) (t : List (Nat × Nat)), t.length = N → (lenOf t)[0]? = some 0 := by
      intro N
      induction N with
      | zero =>
        intro t ht
        have : t = [] := List.length_eq_zero_iff.mp ht
        subst this
        rfl
      | succ N ih =>
        intro t ht
        rcases List.eq_nil_or_concat t with e0 | ⟨t', p, e0⟩
        · subst e0; simp at ht
        · rw [List.concat_eq_append] at e0
          subst e0
          rw [lenOf_snoc, List.getElem?_append_left (by rw [lenOf_len]; omega)]
          exact ih t' (by simpa using ht)
    rw [List.getD_eq_getElem?_getD, this _ t rfl]
    rfl
  have inl : ∀ k, k ≤ t.length → (lenOf t).getD k 0 ∈ lenOf t := fun k hk => by
    have hn : k < (lenOf t).length := by rw [lenOf_len]; omega
    rw [List.getD_eq_getElem?_getD, List.getElem?_eq_getElem hn]
    exact List.getElem_mem hn
  intro k
  induction k with
  | zero =>
    intro _ l hl
    rw [at0] at hl
    have : l = 0 := by omega
    subst this
    have := inl 0 (by omega)
    rw [at0] at this
    exact this
  | succ k ih =>
    intro hk l hl
    have s := len_step h1 h2 k (by omega)
    by_cases z : l ≤ (lenOf t).getD k 0
    · exact ih (by omega) l z
    · have : l = (lenOf t).getD (k + 1) 0 := by omega
      rw [this]
      exact inl (k + 1) hk
end
/-- the growth -/
theorem grow_eq (ls : List Nat) (m : Nat) (h : ∀ x ∈ ls, x ≤ m) : rowAdd 1 ls (List.replicate (m + 1) 0) = (List.range (m + 1)).map fun x => ls.count x := by
  apply List.ext_getElem?
  intro i
  have hl : (rowAdd 1 ls (List.replicate (m + 1) 0)).length = m + 1 := by rw [rowAdd_len, List.length_replicate]
  by_cases hi : i < m + 1
  · have v := rowAdd_val 1 i ls (List.replicate (m + 1) 0) (fun o ho => by rw [List.length_replicate]; have := h o ho; omega)
    rw [List.getD_eq_getElem?_getD, List.getElem?_eq_getElem (by rw [hl]; exact hi), Option.getD_some] at v
    rw [List.getElem?_map, List.getElem?_range hi, List.getElem?_eq_getElem (by rw [hl]; exact hi), v]
    have z : (List.replicate (m + 1) 0).getD i 0 = 0 := by
      rw [List.getD_eq_getElem?_getD, List.getElem?_replicate]; split <;> rfl
    rw [z]
    simp
  · rw [List.getElem?_eq_none (by rw [hl]; omega), List.getElem?_eq_none (by simp; omega)]
end Mt

/-! words as steps; products, powers. -/
namespace Mt
open PySem
def act (t : List (List Nat)) (x : Nat) (path : List Nat) : Nat := path.foldl (fun x l => colR t l x) x
theorem act_snoc (t : List (List Nat)) (x : Nat) (p : List Nat) (l : Nat) : act t x (p ++ [l]) = colR t l (act t x p) := by
  simp [act, List.foldl_append]
theorem act_app (t : List (List Nat)) (x : Nat) (p q : List Nat) : act t x (p ++ q) = act t (act t x p) q := by
  simp [act, List.foldl_append]
theorem act_cons (t : List (List Nat)) (x l : Nat) (p : List Nat) : act t x (l :: p) = act t (colR t l x) p := rfl
/-- the places of the letters of a word -/
def lets (w : Str) : List Nat := w.cps.toList.map (· - 97)
theorem lets_app (a b : Str) : lets (a ++ b) = lets a ++ lets b := by
  show ((a.cps ++ b.cps).toList).map _ = _
  rw [Array.toList_append, List.map_append]
  rfl
theorem lets_let (l : Nat) : lets (letS l) = [l] := by
  show ([97 + l] : List Nat).map (· - 97) = [l]
  simp
theorem lets_len (w : Str) : (lets w).length = w.length := by
  simp [lets, Str.length]
/-- the path of an element -/
def pathOf (t : List (List Nat)) (k : Nat) : List Nat := lets ((wordsOf (scanRows 0 t [])).getD k ⟨#[]⟩)
/-- words of letters up to L -/
def WordL (L : Nat) (w : Str) : Prop := ∀ c ∈ w.cps.toList, 97 ≤ c ∧ c < 97 + L
theorem wordL_app {L : Nat} {a b : Str} (h1 : WordL L a) (h2 : WordL L b) : WordL L (a ++ b) := by
  intro c hc
  have e : (a ++ b).cps.toList = a.cps.toList ++ b.cps.toList := by show (a.cps ++ b.cps).toList = _; rw [Array.toList_append]
  rw [e] at hc
  rcases List.mem_append.mp hc with z | z
  · exact h1 c z
  · exact h2 c z
theorem wordL_let {L l : Nat} (h : l < L) : WordL L (letS l) := by
  intro c hc
  have : c = 97 + l := by
    have hc' : c ∈ ([97 + l] : List Nat) := hc
    simpa using hc'
  omega
theorem lets_lt {L : Nat} {w : Str} (h : WordL L w) : ∀ l ∈ lets w, l < L := by
  intro l hl
  obtain ⟨c, hc, rfl⟩ := List.mem_map.mp hl
  have := h c hc
  omega
section
variable {t : List (List Nat)} {L : Nat}
theorem wordsOf_run (g : Good t L) : ∀ (N : Nat) (tr : List (Nat × Nat)), tr.length = N → ∀ t2, tr ++ t2 = scanRows 0 t [] → ∀ k, k < tr.length + 1 → ∃ w, (wordsOf tr)[k]? = some w ∧ WordL L w ∧ act t 0 (lets w) = k := by
  intro N
  induction N with
  | zero =>
    intro tr ht t2 _ k hk
    have : tr = [] := List.length_eq_zero_iff.mp ht
    subst this
    have : k = 0 := by simpa using hk
    subst this
    exact ⟨⟨#[]⟩, rfl, fun c hc => by simp at hc, rfl⟩
  | succ N ih =>
    intro tr ht t2 e k hk
    rcases List.eq_nil_or_concat tr with e0 | ⟨tr', p, e0⟩
    · subst e0; simp at ht
    · rw [List.concat_eq_append] at e0
      subst e0
      have ht' : tr'.length = N := by simpa using ht
      have e' : tr' ++ (p :: t2) = scanRows 0 t [] := by rw [← e]; simp
      have hl : (wordsOf tr').length = tr'.length + 1 := wordsOf_len _
      rw [wordsOf_snoc]
      by_cases hk2 : k < tr'.length + 1
      · obtain ⟨w, h1, h2, h3⟩ := ih tr' ht' (p :: t2) e' k hk2
        exact ⟨w, by rw [List.getElem?_append_left (by omega)]; exact h1, h2, h3⟩
      · have hkk : k = tr'.length + 1 := by simp at hk; omega
        subst hkk
        obtain ⟨a, l⟩ := p
        have hp : (scanRows 0 t [])[tr'.length]? = some (a, l) := by
          rw [← e']
          simp
        obtain ⟨c1, c2, c3⟩ := g.tree hp
        obtain ⟨_, r, hr1, hr2⟩ := treeOk g.ord _ _ _ hp
        obtain ⟨w, h1, h2, h3⟩ := ih tr' ht' _ e' a (by omega)
        have eg : (wordsOf tr').getD a ⟨#[]⟩ = w := by rw [List.getD_eq_getElem?_getD, h1]; rfl
        refine ⟨w ++ letS l, ?_, wordL_app h2 (wordL_let c2), ?_⟩
        · rw [List.getElem?_append_right (by omega), hl]
          show [(wordsOf tr').getD a ⟨#[]⟩ ++ letS l][tr'.length + 1 - (tr'.length + 1)]? = _
          rw [eg, Nat.sub_self]
          rfl
        · rw [lets_app, lets_let, act_snoc, h3]
          unfold colR
          rw [List.getD_eq_getElem?_getD, List.getD_eq_getElem?_getD, hr1, Option.getD_some, hr2]
          rfl
theorem Good.word (g : Good t L) {k : Nat} (hk : k < t.length) : ∃ w, (wordsOf (scanRows 0 t []))[k]? = some w ∧ WordL L w ∧ act t 0 (lets w) = k ∧ pathOf t k = lets w := by
  obtain ⟨w, h1, h2, h3⟩ := wordsOf_run g _ (scanRows 0 t []) rfl [] (by simp) k (by rw [← g.len]; exact hk)
  exact ⟨w, h1, h2, h3, by unfold pathOf; rw [List.getD_eq_getElem?_getD, h1]; rfl⟩
theorem Good.path (g : Good t L) {k : Nat} (hk : k < t.length) : act t 0 (pathOf t k) = k ∧ ∀ l ∈ pathOf t k, l < L := by
  obtain ⟨w, _, h2, h3, h4⟩ := g.word hk
  rw [h4]
  exact ⟨h3, lets_lt h2⟩
theorem Good.act_lt (g : Good t L) : ∀ (p : List Nat) (x : Nat), x < t.length → (∀ l ∈ p, l < L) → act t x p < t.length
  | [], x, hx, _ => hx
  | l :: p, x, hx, hl => by
    obtain ⟨_, _, _, h⟩ := g.col hx (hl l (by simp))
    exact g.act_lt p _ h fun m hm => hl m (by simp [hm])
end
section
variable {n : Nat} {ms found table : List (List Nat)} {words : List Str}
/-- what a word does -/
def doP (ms : List (List Nat)) (x : List Nat) (p : List Nat) : List Nat := p.foldl (fun x l => comp x (ms.getD l [])) x
theorem Tab.act (h : Tab n ms found words table) : ∀ (p : List Nat) (i : Nat) (x : List Nat), found[i]? = some x → (∀ l ∈ p, l < ms.length) → found[Mt.act table i p]? = some (doP ms x p)
  | [], i, x, hx, _ => hx
  | l :: p, i, x, hx, hl => by
    have hl0 := hl l (by simp)
    have hm : ms[l]? = some (ms.getD l []) := by
      rw [List.getD_eq_getElem?_getD, List.getElem?_eq_getElem hl0]; rfl
    obtain ⟨_, o, _, _, ho, hf⟩ := h.at_ hx hm
    rw [act_cons, ho]
    exact h.act p o _ hf fun m hm => hl m (by simp [hm])
theorem doP_comp {n : Nat} (hms : ∀ m ∈ ms, IsMap n m) : ∀ (p : List Nat) (x : List Nat), IsMap n x → (∀ l ∈ p, l < ms.length) → doP ms x p = comp x (doP ms (List.range n) p) ∧ IsMap n (doP ms (List.range n) p) := by
  have key : ∀ (N : Nat) (p : List Nat), p.length = N → ∀ x, IsMap n x → (∀ l ∈ p, l < ms.length) → doP ms x p = comp x (doP ms (List.range n) p) ∧ IsMap n (doP ms (List.range n) p) := by
    intro N
    induction N with
    | zero =>
      intro p hp x hx _
      have : p = [] := List.length_eq_zero_iff.mp hp
      subst this
      exact ⟨(comp_one hx).symm, isMap_range n⟩
    | succ N ih =>
      intro p hp x hx hl
      rcases List.eq_nil_or_concat p with e0 | ⟨p', l, e0⟩
      · subst e0; simp at hp
      · rw [List.concat_eq_append] at e0
        subst e0
        obtain ⟨h1, h2⟩ := ih p' (by simpa using hp) x hx fun m hm => hl m (by simp [hm])
        have hl0 := hl l (by simp)
        have im : IsMap n (ms.getD l []) := by
          rw [List.getD_eq_getElem?_getD, List.getElem?_eq_getElem hl0]
          exact hms _ (List.getElem_mem _)
        have e1 : ∀ y, doP ms y (p' ++ [l]) = comp (doP ms y p') (ms.getD l []) := fun y => by simp [doP, List.foldl_append]
        rw [e1, e1, h1]
        exact ⟨comp_assoc hx.2 h2.1, isMap_comp h2 im⟩
  exact fun p x => key _ p rfl x
/-- the product of two elements -/
theorem Tab.mul (h : Tab n ms found words table) (g : Good table ms.length) (hms : ∀ m ∈ ms, IsMap n m) {i j : Nat} {x y : List Nat} (hx : found[i]? = some x) (hy : found[j]? = some y) : found[Mt.act table i (pathOf table j)]? = some (comp x y) := by
  have hj : j < table.length := by rw [h.tl]; exact (List.getElem?_eq_some_iff.mp hy).1
  obtain ⟨p1, p2⟩ := g.path hj
  have ix := h.mp x (List.mem_of_getElem? hx)
  have e1 := h.act (pathOf table j) i x hx p2
  have e2 := h.act (pathOf table j) 0 _ h.one p2
  rw [p1, hy] at e2
  rw [e1, (doP_comp hms _ x ix p2).1]
  cases e2
  rfl
end
end Mt

/-! powers, cycles. -/
namespace Mt
open PySem
def mulE (t : List (List Nat)) (x y : Nat) : Nat := act t x (pathOf t y)
/-- by squares -/
def powA (t : List (List Nat)) (f s : Nat) (c : Nat) : Nat := if h : c = 0 then f else powA t (if c % 2 = 1 then mulE t f s else f) (mulE t s s) (c / 2)
termination_by c
decreasing_by omega
theorem powA_zero (t : List (List Nat)) (f s : Nat) : powA t f s 0 = f := by rw [powA]; rfl
theorem powA_step (t : List (List Nat)) (f s c : Nat) (h : c ≠ 0) : powA t f s c = powA t (if c % 2 = 1 then mulE t f s else f) (mulE t s s) (c / 2) := by
  rw [powA, dif_neg h]
/-- one by one -/
def pw (t : List (List Nat)) (x : Nat) : Nat → Nat
  | 0 => 0
  | k + 1 => mulE t (pw t x k) x
/-- the first power that comes again is that with k, as with i -/
structure Cyc {α : Type} (f : Nat → α) (i k : Nat) : Prop where
  lt : i < k
  eq : f i = f k
  ne : ∀ a b, a < b → b < k → f a ≠ f b
theorem Cyc.unique {α : Type} {f : Nat → α} {i k i' k' : Nat} (h : Cyc f i k) (h' : Cyc f i' k') : i = i' ∧ k = k' := by
  have hk : k = k' := by
    rcases Nat.lt_trichotomy k k' with z | z | z
    · exact absurd h.eq (h'.ne i k h.lt z)
    · exact z
    · exact absurd h'.eq (h.ne i' k' h'.lt z)
  subst hk
  refine ⟨?_, rfl⟩
  rcases Nat.lt_trichotomy i i' with z | z | z
  · exact absurd (h.eq.trans h'.eq.symm) (h.ne i i' z h'.lt)
  · exact z
  · exact absurd (h'.eq.trans h.eq.symm) (h.ne i' i z h.lt)
section
variable {t : List (List Nat)} {L : Nat}
theorem Good.mul_lt (g : Good t L) {x y : Nat} (hx : x < t.length) (hy : y < t.length) : mulE t x y < t.length := g.act_lt _ _ hx (g.path hy).2
theorem Good.pw_lt (g : Good t L) {x : Nat} (hx : x < t.length) : ∀ k, pw t x k < t.length
  | 0 => g.n1
  | k + 1 => g.mul_lt (g.pw_lt hx k) hx
end
section
variable {n : Nat} {ms found table : List (List Nat)} {words : List Str}
/-- powers of maps -/
def pwM (n : Nat) (x : List Nat) : Nat → List Nat
  | 0 => List.range n
  | k + 1 => comp (pwM n x k) x
theorem isMap_pw {n : Nat} {x : List Nat} (h : IsMap n x) : ∀ k, IsMap n (pwM n x k)
  | 0 => isMap_range n
  | k + 1 => isMap_comp (isMap_pw h k) h
theorem pwM_add {n : Nat} {x : List Nat} (h : IsMap n x) (a : Nat) : ∀ b, pwM n x (a + b) = comp (pwM n x a) (pwM n x b)
  | 0 => (comp_one (isMap_pw h a)).symm
  | b + 1 => by
    show comp (pwM n x (a + b)) x = comp (pwM n x a) (comp (pwM n x b) x)
    rw [pwM_add h a b, comp_assoc (isMap_pw h a).2 (isMap_pw h b).1]
theorem pwM_sq {n : Nat} {x : List Nat} (h : IsMap n x) : ∀ c, pwM n (comp x x) c = pwM n x (2 * c)
  | 0 => rfl
  | c + 1 => by
    show comp (pwM n (comp x x) c) (comp x x) = pwM n x (2 * c + 1 + 1)
    rw [pwM_sq h c]
    show _ = comp (comp (pwM n x (2 * c)) x) x
    rw [comp_assoc (isMap_pw h _).2 h.1]
theorem pwM_one {n : Nat} {x : List Nat} (h : IsMap n x) : pwM n x 1 = x := one_comp h
theorem Tab.pow (h : Tab n ms found words table) (g : Good table ms.length) (hms : ∀ m ∈ ms, IsMap n m) : ∀ (c f s : Nat) (x y : List Nat), found[f]? = some x → found[s]? = some y → found[powA table f s c]? = some (comp x (pwM n y c)) := by
  intro c
  induction c using Nat.strongRecOn with
  | _ c ih =>
    intro f s x y hx hy
    have ix := h.mp x (List.mem_of_getElem? hx)
    have iy := h.mp y (List.mem_of_getElem? hy)
    by_cases h0 : c = 0
    · subst h0
      rw [powA_zero]
      show found[f]? = some (comp x (List.range n))
      rw [comp_one ix]
      exact hx
    · rw [powA_step _ _ _ _ h0]
      have hsq : found[mulE table s s]? = some (comp y y) := h.mul g hms hy hy
      have hfs : found[mulE table f s]? = some (comp x y) := h.mul g hms hx hy
      by_cases h1 : c % 2 = 1
      · rw [if_pos h1, ih (c / 2) (by omega) _ _ _ _ hfs hsq, pwM_sq iy]
        have e : c = 1 + 2 * (c / 2) := by omega
        congr 1
        conv => rhs; rw [e]
        rw [pwM_add iy, pwM_one iy, comp_assoc ix.2 iy.1]
      · rw [if_neg h1, ih (c / 2) (by omega) _ _ _ _ hx hsq, pwM_sq iy]
        have e : 2 * (c / 2) = c := by omega
        rw [e]
theorem Tab.pw (h : Tab n ms found words table) (g : Good table ms.length) (hms : ∀ m ∈ ms, IsMap n m) {i : Nat} {x : List Nat} (hx : found[i]? = some x) : ∀ k, found[Mt.pw table i k]? = some (pwM n x k)
  | 0 => h.one
  | k + 1 => h.mul g hms (h.pw g hms hx k) hx
/-- great counts go round the cycle -/
theorem pwM_round {n : Nat} {x : List Nat} (h : IsMap n x) {i k : Nat} (hik : i < k) (e : pwM n x i = pwM n x k) : ∀ c, i ≤ c → pwM n x c = pwM n x (i + (c - i) % (k - i)) := by
  intro c
  induction c using Nat.strongRecOn with
  | _ c ih =>
    intro hc
    by_cases h1 : c < k
    · have : (c - i) % (k - i) = c - i := Nat.mod_eq_of_lt (by omega)
      rw [this]
      congr 1
      omega
    · have e1 : pwM n x c = pwM n x (c - (k - i)) := by
        have e2 : c = k + (c - k) := by omega
        have e3 : c - (k - i) = i + (c - k) := by omega
        rw [e3, pwM_add h i, e, ← pwM_add h k]
        congr 1
      rw [e1, ih (c - (k - i)) (by omega) (by omega)]
      congr 2
      have e4 : c - i = (c - (k - i) - i) + (k - i) := by omega
      rw [e4, Nat.add_mod_right]
end
end Mt

/-! words of maps of four points are short: a way of products without a repetition has at most 64 of them. -/
namespace Mt
open PySem
def hasN : List Nat → Nat → Bool
  | [], _ => false
  | y :: r, x => Nat.beq y x || hasN r x
def nubL : List Nat → List Nat → List Nat
  | acc, [] => acc
  | acc, x :: r => nubL (bif hasN acc x then acc else acc ++ [x]) r
def cod : List Nat → Nat
  | [] => 0
  | x :: r => x + 1 + 5 * cod r
def c1 (p : List Nat) : Nat := cod (nubL [] p)
def putN : List Nat → Nat → List Nat
  | l, x => bif hasN l x then l else l ++ [x]
def vals4 : List Nat := ((List.range 4).flatMap fun a => (List.range 4).flatMap fun b => (List.range 4).flatMap fun c => (List.range 4).map fun d => c1 [a, b, c, d]).foldl putN []
def idxN : List Nat → Nat → Nat
  | [], _ => 0
  | y :: r, x => bif Nat.beq y x then 0 else idxN r x + 1
def f4 (p : List Nat) : Nat := idxN vals4 (c1 p)
def stuckB : Bool := (List.range 4).all fun a => (List.range 4).all fun b => (List.range 4).all fun c => (List.range 4).all fun d => (List.range 4).all fun e => (List.range 4).all fun f => (List.range 4).all fun g => (List.range 4).all fun h =>
  !(Nat.beq (c1 (comp [a, b, c, d] [e, f, g, h])) (c1 [a, b, c, d])) || decide (comp [a, b, c, d] [e, f, g, h] = [a, b, c, d])
theorem stuckB_ok : stuckB = true := by decide +kernel
def idxB : Bool := vals4.all fun x => vals4.all fun y => !(Nat.beq (idxN vals4 x) (idxN vals4 y)) || Nat.beq x y
theorem idxB_ok : idxB = true := by decide +kernel
def ltB : Bool := (List.range 4).all fun a => (List.range 4).all fun b => (List.range 4).all fun c => (List.range 4).all fun d => hasN vals4 (c1 [a, b, c, d]) && decide (f4 [a, b, c, d] < 64)
theorem ltB_ok : ltB = true := by decide +kernel
theorem hasN_mem : ∀ {l : List Nat} {x : Nat}, hasN l x = true → x ∈ l
  | y :: r, x, h => by
    rcases Bool.or_eq_true_iff.mp h with z | z
    · rw [Nat.eq_of_beq_eq_true z]; simp
    · exact List.mem_cons_of_mem _ (hasN_mem z)
theorem map4 {x : List Nat} (h : IsMap 4 x) : ∃ a b c d, x = [a, b, c, d] ∧ a < 4 ∧ b < 4 ∧ c < 4 ∧ d < 4 := by
  obtain ⟨h1, h2⟩ := h
  match x, h1, h2 with
  | [a, b, c, d], _, h2 => exact ⟨a, b, c, d, rfl, h2 a (by simp), h2 b (by simp), h2 c (by simp), h2 d (by simp)⟩
theorem f4_ok {x : List Nat} (h : IsMap 4 x) : c1 x ∈ vals4 ∧ f4 x < 64 := by
  obtain ⟨a, b, c, d, rfl, ha, hb, hc, hd⟩ := map4 h
  have z := ltB_ok
  unfold ltB at z
  have z1 := List.all_eq_true.mp (List.all_eq_true.mp (List.all_eq_true.mp (List.all_eq_true.mp z a (List.mem_range.mpr ha)) b (List.mem_range.mpr hb)) c (List.mem_range.mpr hc)) d (List.mem_range.mpr hd)
  rw [Bool.and_eq_true] at z1
  exact ⟨hasN_mem z1.1, of_decide_eq_true z1.2⟩
theorem f4_stuck {x m : List Nat} (hx : IsMap 4 x) (hm : IsMap 4 m) (e : f4 (comp x m) = f4 x) : comp x m = x := by
  have hc := isMap_comp hx hm
  have i := idxB_ok
  unfold idxB at i
  have i1 := List.all_eq_true.mp (List.all_eq_true.mp i _ (f4_ok hc).1) _ (f4_ok hx).1
  have ec : c1 (comp x m) = c1 x := by
    rcases Bool.or_eq_true_iff.mp i1 with z | z
    · have e' : idxN vals4 (c1 (comp x m)) = idxN vals4 (c1 x) := e
      rw [e', Nat.beq_refl] at z
      exact absurd z (by decide)
    · exact Nat.eq_of_beq_eq_true z
  obtain ⟨a, b, c, d, rfl, ha, hb, hc', hd⟩ := map4 hx
  obtain ⟨a', b', c', d', rfl, ha', hb', hc'', hd'⟩ := map4 hm
  have z := stuckB_ok
  unfold stuckB at z
  have z1 := List.all_eq_true.mp (List.all_eq_true.mp (List.all_eq_true.mp (List.all_eq_true.mp z a (List.mem_range.mpr ha)) b (List.mem_range.mpr hb)) c (List.mem_range.mpr hc')) d (List.mem_range.mpr hd)
  have z2 := List.all_eq_true.mp (List.all_eq_true.mp (List.all_eq_true.mp (List.all_eq_true.mp z1 a' (List.mem_range.mpr ha')) b' (List.mem_range.mpr hb')) c' (List.mem_range.mpr hc'')) d' (List.mem_range.mpr hd')
  rw [ec, Nat.beq_refl] at z2
  exact of_decide_eq_true (by simpa using z2)
/-- a number of a map that tells whether it is stuck -/
theorem tell {n : Nat} (hn : n ≤ 4) : ∃ f : List Nat → Nat, (∀ x, IsMap n x → f x < 64) ∧ ∀ x m, IsMap n x → IsMap n m → f (comp x m) = f x → comp x m = x := by
  by_cases h4 : n = 4
  · subst h4
    exact ⟨f4, fun x hx => (f4_ok hx).2, fun x m hx hm e => f4_stuck hx hm e⟩
  · refine ⟨code n, fun x hx => ?_, fun x m hx hm e => ?_⟩
    · have := code_lt n x hx.2
      rw [hx.1] at this
      have : n ^ n < 64 := by
        match n, (by omega : n ≤ 3) with
        | 0, _ => decide
        | 1, _ => decide
        | 2, _ => decide
        | 3, _ => decide
      omega
    · have hc := isMap_comp hx hm
      exact code_inj n _ _ (by rw [hc.1, hx.1]) hc.2 hx.2 e
section
variable {n : Nat} {ms found table : List (List Nat)} {words : List Str}
theorem Tab.chain (h : Tab n ms found words table) (g : Good table ms.length) (hms : ∀ m ∈ ms, IsMap n m) {f : List Nat → Nat} (hf : ∀ x m, IsMap n x → IsMap n m → f (comp x m) = f x → comp x m = x) :
    ∀ (N : Nat) (tr : List (Nat × Nat)), tr.length = N → ∀ t2, tr ++ t2 = scanRows 0 table [] → ∀ k, k < tr.length + 1 → ∃ (w : Str) (x : List Nat) (vs : List Nat), (wordsOf tr)[k]? = some w ∧ found[k]? = some x ∧ vs.length = w.length + 1 ∧ vs.Nodup ∧
      ∀ v ∈ vs, ∃ c y m, c ≤ k ∧ found[c]? = some y ∧ IsMap n m ∧ v = f y ∧ x = comp y m := by
  intro N
  induction N with
  | zero =>
    intro tr ht t2 _ k hk
    have : tr = [] := List.length_eq_zero_iff.mp ht
    subst this
    have : k = 0 := by simpa using hk
    subst this
    refine ⟨⟨#[]⟩, _, [f (List.range n)], rfl, h.one, rfl, by simp, fun v hv => ?_⟩
    have : v = f (List.range n) := by simpa using hv
    exact ⟨0, _, List.range n, Nat.le_refl 0, h.one, isMap_range n, this, (comp_one (isMap_range n)).symm⟩
  | succ N ih =>
    intro tr ht t2 e k hk
    rcases List.eq_nil_or_concat tr with e0 | ⟨tr', p, e0⟩
    · subst e0; simp at ht
    · rw [List.concat_eq_append] at e0
      subst e0
      have ht' : tr'.length = N := by simpa using ht
      have e' : tr' ++ (p :: t2) = scanRows 0 table [] := by rw [← e]; simp
      have hl : (wordsOf tr').length = tr'.length + 1 := wordsOf_len _
      rw [wordsOf_snoc]
      by_cases hk2 : k < tr'.length + 1
      · obtain ⟨w, x, vs, h1, h2⟩ := ih tr' ht' (p :: t2) e' k hk2
        exact ⟨w, x, vs, by rw [List.getElem?_append_left (by omega)]; exact h1, h2⟩
      · have hkk : k = tr'.length + 1 := by simp at hk; omega
        subst hkk
        obtain ⟨a, l⟩ := p
        have hp : (scanRows 0 table [])[tr'.length]? = some (a, l) := by
          rw [← e']
          simp
        obtain ⟨q1, q2, q3⟩ := g.tree hp
        obtain ⟨_, r, hr1, hr2⟩ := treeOk g.ord _ _ _ hp
        obtain ⟨w, x, vs, h1, h2, h3, h4, h5⟩ := ih tr' ht' _ e' a (by omega)
        have eg : (wordsOf tr').getD a ⟨#[]⟩ = w := by rw [List.getD_eq_getElem?_getD, h1]; rfl
        have hm : ms[l]? = some (ms[l]) := List.getElem?_eq_getElem q2
        have im : IsMap n ms[l] := hms _ (List.getElem_mem _)
        obtain ⟨r', o, hr1', hr2', _, hfo⟩ := h.at_ h2 hm
        rw [hr1] at hr1'
        cases hr1'
        rw [hr2] at hr2'
        cases hr2'
        have ix := h.mp _ (List.mem_of_getElem? h2)
        have all : ∀ v ∈ vs, ∃ c y m, c ≤ a ∧ found[c]? = some y ∧ IsMap n m ∧ v = f y ∧ comp x ms[l] = comp y m := by
          intro v hv
          obtain ⟨c, y, m, hc, hy, hm', hv', hx'⟩ := h5 v hv
          have iy := h.mp _ (List.mem_of_getElem? hy)
          exact ⟨c, y, comp m ms[l], hc, hy, isMap_comp hm' im, hv', by rw [hx']; exact comp_assoc iy.2 hm'.1⟩
        refine ⟨w ++ letS l, comp x ms[l], vs ++ [f (comp x ms[l])], ?_, hfo, ?_, ?_, ?_⟩
        · rw [List.getElem?_append_right (by omega), hl]
          show [(wordsOf tr').getD a ⟨#[]⟩ ++ letS l][tr'.length + 1 - (tr'.length + 1)]? = _
          rw [eg, Nat.sub_self]
          rfl
        · rw [List.length_append, h3, strLen]; rfl
        · refine List.nodup_append.mpr ⟨h4, by simp, ?_⟩
          intro v hv v' hv' e2
          have : v' = f (comp x ms[l]) := by simpa using hv'
          obtain ⟨c, y, m, hc, hy, hm', hvy, hx'⟩ := all v hv
          have iy := h.mp _ (List.mem_of_getElem? hy)
          have es := hf y m iy hm' (by rw [← hx', ← hvy, e2, this])
          rw [hx', es] at hfo
          have := nd_inj h.nd hy hfo
          omega
        · intro v hv
          rcases List.mem_append.mp hv with z | z
          · obtain ⟨c, y, m, hc, hy, hm', hvy, hx'⟩ := all v z
            exact ⟨c, y, m, by omega, hy, hm', hvy, hx'⟩
          · have : v = f (comp x ms[l]) := by simpa using z
            exact ⟨_, _, List.range n, Nat.le_refl _, hfo, isMap_range n, this, (comp_one (isMap_comp ix im)).symm⟩
theorem Tab.short (h : Tab n ms found words table) (g : Good table ms.length) (hn : n ≤ 4) (hms : ∀ m ∈ ms, IsMap n m) : ∀ w ∈ wordsOf (scanRows 0 table []), w.length ≤ 63 := by
  intro w hw
  obtain ⟨k, hk⟩ := List.getElem?_of_mem hw
  have hkl : k < (scanRows 0 table []).length + 1 := by rw [← wordsOf_len]; exact (List.getElem?_eq_some_iff.mp hk).1
  obtain ⟨f, f1, f2⟩ := tell hn
  obtain ⟨w', x, vs, h1, h2, h3, h4, h5⟩ := h.chain g hms f2 _ _ rfl [] (by simp) k hkl
  rw [hk] at h1
  cases h1
  have := nodup_below 64 vs h4 fun v hv => by
    obtain ⟨c, y, m, hc, hy, hm', hv', hx'⟩ := h5 v hv
    rw [hv']
    exact f1 y (h.mp _ (List.mem_of_getElem? hy))
  omega
end
end Mt

namespace My
open PySem L2 SL
def top (i : Nat) : Stmt := PySem.Challenge.pw_letterfolds_k14_words_and_products.main.body.getD i (.Pass ⟨0, 0, 0, 0⟩)
/-- the built-ins that no name of the text hides -/
structure Bt (mg : Str → Option Value) : Prop where
  b_len : mg "len" = none
  b_abs : mg "abs" = none
  b_int : mg "int" = none
  b_tuple : mg "tuple" = none
  b_list : mg "list" = none
  b_range : mg "range" = none
  b_enumerate : mg "enumerate" = none
  b_zip : mg "zip" = none
  b_all : mg "all" = none
  b_repr : mg "repr" = none
  b_isinstance : mg "isinstance" = none
  b_bool : mg "bool" = none
  b_str : mg "str" = none
  b_dict : mg "dict" = none
/-- the constants of the text -/
structure Ct (mg : Str → Option Value) : Prop where
  g_MOST_ELEMENTS : ∃ u, mg "MOST_ELEMENTS" = some u ∧ RelV (.int 2000) u
  g_MOST_LETTERS : ∃ u, mg "MOST_LETTERS" = some u ∧ RelV (.int 6) u
  g_MOST_WORD : ∃ u, mg "MOST_WORD" = some u ∧ RelV (.int 100) u
  g_MOST_COUNT : ∃ u, mg "MOST_COUNT" = some u ∧ RelV (.int (10 ^ 30)) u
  g_LETTERS : ∃ u, mg "LETTERS" = some u ∧ RelV (.str "abcdef") u
/-- numbers as data; a tuple, a list of numbers -/
abbrev intN (k : Nat) : PyData := .int (k : Int)
def tupN (ns : List Nat) : PyData := .tuple (ns.map intN)
def lstN (ns : List Nat) : PyData := .list (ns.map intN)
end My

namespace My
open PySem L2 SL
/-- the state of a source of draws -/
def SrcD (ds : List PyData) : Prop := ∃ a b c : Int, ds = [.int a, .int b, .int c] ∧ 0 ≤ a ∧ 0 ≤ b
def Wsource : WF := fun as post => ∃ n : Int, as = [.int n] ∧ ∀ p ds, SrcD ds → post (.ol p ds)
def Wdraw : WM := fun ds0 as post => SrcD ds0 ∧ ∃ m : Int, as = [.int m] ∧ 1 ≤ m ∧ m ≤ 1000000000000000000000000000000 ∧ ∀ d ds1, 0 ≤ d → d < m → SrcD ds1 → post (.fz (.int d)) ds1
local macro_rules | `(tactic| walk_at "e1") => `(tactic| first
  | with_reducible refine nx_seq ?_ | with_reducible refine rn_seq ?_
  | with_reducible refine rn_set ?_ | with_reducible refine rn_ret ?_ | with_reducible refine rn_if ?_ | with_reducible refine rn_drop ?_ | with_reducible refine rn_next ?_
  | with_reducible refine ev_int ?_ | with_reducible refine ev_str ?_ | with_reducible refine ev_bl ?_ | with_reducible refine ev_non ?_
  | ((with_reducible refine' ev_fz ?vv ?_); (case vv => exact rfl))
  | ((with_reducible refine' ev_ol ?vv ?_); (case vv => exact rfl))
  | ((with_reducible refine' ev_al ?vv ?_); (case vv => exact rfl))
  | with_reducible refine ev_op ?_ | with_reducible refine ev_un ?_
  | with_reducible refine o_int ?_ | with_reducible refine o_bl ?_ | with_reducible refine u_int ?_
  | with_reducible refine o_eqI ?_ | with_reducible refine o_neI ?_ | with_reducible refine o_eqS ?_ | with_reducible refine o_neS ?_
  | with_reducible refine ev_isi ?_ | with_reducible refine ev_isi2 ?_ | with_reducible refine ev_cb ?_ | with_reducible refine a_one ?_ | with_reducible refine a_cons ?_ | with_reducible refine a_nil ?_
  | with_reducible refine b_abs ?_ | with_reducible refine b_int ?_ | with_reducible refine b_intb ?_
  | with_reducible refine b_lenL ?_ | with_reducible refine b_lenT ?_
  | with_reducible refine b_tupO ?_ | with_reducible refine b_tupL ?_ | with_reducible refine b_tupT ?_ | with_reducible refine t_yes ?_ | with_reducible refine iteT ?_ | with_reducible refine iteF ?_
  | with_reducible refine t_test ?_ | with_reducible refine t_B ?_ | with_reducible refine t_not ?_ | with_reducible refine t_and ?_ | with_reducible refine t_or ?_
  | with_reducible refine ev_lst ?_ | with_reducible refine ev_tup ?_ | with_reducible refine ev_callM ?_ | with_reducible refine ev_callF ?_ | with_reducible refine rn_setL ?_ | with_reducible refine rn_setDT ?_ | with_reducible refine rn_asg ?_ | ((with_reducible refine' ga_tup ?vv ?_); (case vv => exact rfl)) | with_reducible refine gas_nil ?_ | ((with_reducible refine' gas_name ?vv ?_); (case vv => exact rfl)) | ((with_reducible refine' rn_asgN ?vv ?_); (case vv => exact rfl))
  | with_reducible refine rn_par3 ?_ | with_reducible refine rn_par ?_ | with_reducible refine ev_tupRg ?_ | with_reducible refine ev_listRg ?_ | with_reducible refine ev_disp1T ?_ | with_reducible refine ev_dgetT ?_ | with_reducible refine ev_dnotinT ?_
  | with_reducible refine ev_append ?_ | with_reducible refine ev_extend ?_ | with_reducible refine ev_reverse ?_ | with_reducible refine ev_revL ?_
  | with_reducible refine ev_chain ?_ | with_reducible refine ev_and ?_ | with_reducible refine ev_or ?_ | with_reducible refine ev_not ?_ | with_reducible refine ev_if ?_
  | ((with_reducible refine' ev_oi ?vv ?_); (case vv => exact rfl)) | ((with_reducible refine' ev_ot ?vv ?_); (case vv => exact rfl)) | ((with_reducible refine' ev_od ?vv ?_); (case vv => exact rfl))
  | refine ⟨_, rfl, ?_⟩)
local macro_rules | `(tactic| walk_at "ev") => `(tactic| repeat (walk_at "e1"))

section
variable {P : Program} {w : World} {K : PySem.W.Frag} {mg : Str → Option Value} {base : Heap}
abbrev s_law_source : Stmt := top 23
abbrev N_law_source : List Str := ["_law_cell"]
theorem sc_law_source : FnScope N_law_source ["_law_cell"] (defScope s_law_source) := ⟨rfl, rfl, rfl, by decide +kernel, rfl, by decide +kernel, by decide +kernel⟩

theorem ok_source {f : Addr} {fd : FuncData} (Fn : Fun K "_law_source" "_law_source" s_law_source f fd) (B : Bt mg) : FnOk P w K mg base CX0 1 f fd ["_law_cell"] (SpF K Wsource) := by
  refine Fn.ok sc_law_source (fun vs H Q E h => ?_) (fun cdv A outer s H vs Q E hr h => ?_)
  · obtain ⟨G, ds, post, _, da, ⟨n, rfl, _⟩, _⟩ := h
    exact DpAll.len da
  · refine ⟨_, (pss_cons (ps_set (i := 0) sc_law_source.nd rfl (Or.inl rfl) (pe_callB call_abs' rfl B.b_abs (by decide +kernel) (pa_cons (pv 0) pa_nil)))
 (pss_one (ps_ret (pe_lst (pa_cons (pe_op op_mul (pv 0) (pe_callTy call_int1' rfl B.b_int (by decide +kernel) (pa_cons (pe_cmpR op_ge (pv 0) (pe_op op_pow pe_int pe_int) (nomark _)) pa_nil))) (pa_cons (pe_op op_mod (pe_callTy call_int1' rfl B.b_int (by decide +kernel) (pa_cons (pv 0) pa_nil)) pe_int) (pa_cons pe_int pa_nil))))))), bodyF h fun F ds post hK hio hW ret => ?_⟩
    subst hK
    obtain ⟨n, rfl, k⟩ := hW
    show Rn F _ [.fz (.int n)] _
    walk_at "ev"
    refine o_intC ⟨by decide, by decide, by decide⟩ ?_
    walk_at "ev"
    generalize hm : (if n < 0 then -n else n) = m
    have m0 : 0 ≤ m := by split at hm <;> omega
    generalize hc : (if decide (10 ^ Int.toNat 18 ≤ m) = true then (1 : Int) else 0) = c
    have c01 : c = 1 ∨ c = 0 := by split at hc <;> simp [← hc]
    refine o_intC (Or.inr ⟨by omega, by omega⟩) ?_
    walk_at "ev"
    refine o_intC (by decide) ?_
    walk_at "ev"
    refine ⟨[_, _, _], rfl, (by show 3 ≤ sizeLine; decide), fun p _ => ret _ _ (k p _ ⟨_, _, _, rfl, ?_, ?_⟩)⟩
    · rcases c01 with h | h <;> subst h <;> simp <;> omega
    · exact Int.emod_nonneg _ (by decide)
abbrev s_law_draw : Stmt := top 24
abbrev N_law_draw : List Str := ["_law_source_here", "_law_many", "_law_digit", "_law_mixed"]
theorem sc_law_draw : FnScope N_law_draw ["_law_source_here", "_law_many"] (defScope s_law_draw) := ⟨rfl, rfl, rfl, by decide +kernel, rfl, by decide +kernel, by decide +kernel⟩

local macro_rules | `(tactic| walk_at "ix") => `(tactic| repeat (first | walk_at "e1" | ((with_reducible refine' o_ixO (j := 0) ?vj ?ve ?_); (case vj => exact rfl); (case ve => exact rfl))))
theorem ok_draw {f : Addr} {fd : FuncData} (Fn : Fun K "_law_draw" "_law_draw" s_law_draw f fd) (B : Bt mg) : FnOk P w K mg base CX0 1 f fd ["_law_source_here", "_law_many"] (SpM K Wdraw) := by
  refine Fn.ok sc_law_draw (fun vs H Q E h => ?_) (fun cdv A outer s H vs Q E hr h => ?_)
  · obtain ⟨G, p, xs, ds0, ws, as, post, rfl, _, _, _, _, da, ⟨_, m, rfl, _⟩, _⟩ := h
    have := DpAll.len da
    simpa using this
  · refine ⟨_, (pss_cons (ps_if (pt_cmpR op_gt (pe_ix (ix_list' K) (pv 0) pe_int (fun _ _ => rfl)) pe_int (nomark _)) (pss_cons (ps_set (i := 2) sc_law_draw.nd rfl (Or.inl rfl) (pe_op op_mod (pe_callTy call_int1' rfl B.b_int (by decide +kernel) (pa_cons (pe_ix (ix_list' K) (pv 0) pe_int (fun _ _ => rfl)) pa_nil)) (pv 1)))
 (pss_cons (ps_asg (pe_op op_fdivW (pe_ix (ix_list' K) (pv 0) pe_int (fun _ _ => rfl)) (pv 1)) (pg_sub (pv 0) pe_int set_list))
 (pss_one (ps_ret (pv 2))))) pss_nil)
 (pss_cons (ps_asg (pe_op op_add (pe_ix (ix_list' K) (pv 0) pe_int (fun _ _ => rfl)) pe_int) (pg_sub (pv 0) pe_int set_list))
 (pss_cons (ps_set (i := 3) sc_law_draw.nd rfl (Or.inl rfl) (pe_op op_mod (pe_callTy call_int1' rfl B.b_int (by decide +kernel) (pa_cons (pe_op op_mul (pe_op op_add (pe_op op_add (pe_ix (ix_list' K) (pv 0) pe_int (fun _ _ => rfl)) (pe_op op_mul pe_int (pe_ix (ix_list' K) (pv 0) pe_int (fun _ _ => rfl)))) pe_int) pe_int) pa_nil)) pe_int))
 (pss_cons (ps_set (i := 3) sc_law_draw.nd rfl (Or.inl rfl) (pe_op op_mod (pe_callTy call_int1' rfl B.b_int (by decide +kernel) (pa_cons (pe_op op_mul (pv 3) (pe_op op_add (pe_op op_fdiv (pv 3) pe_int) pe_int)) pa_nil)) pe_int))
 (pss_one (ps_ret (pe_op op_mod (pe_callTy call_int1' rfl B.b_int (by decide +kernel) (pa_cons (pe_op op_fdiv (pe_op op_mod (pe_callTy call_int1' rfl B.b_int (by decide +kernel) (pa_cons (pe_op op_mul (pv 3) (pe_op op_add (pe_op op_fdiv (pv 3) pe_int) pe_int)) pa_nil)) pe_int) pe_int) pa_nil)) (pv 1)))))))), bodyM h fun F p ds0 as post hK hio hW ret => ?_⟩
    subst hK
    obtain ⟨⟨a, b, c, rfl, a0, b0⟩, m, rfl, m1, m2, k⟩ := hW
    have lg : m.natAbs.log2 < 9000 := by
      have h1 : m.natAbs.log2 < 100 := (Nat.log2_lt (by omega)).mpr (Nat.lt_of_le_of_lt (show m.natAbs ≤ 1000000000000000000000000000000 by omega) (by decide))
      omega
    show Rn F _ [.ol p [.int a, .int b, .int c], .fz (.int m), .no, .no] _
    walk_at "ix"
    refine ite2 (fun hc => ?_) (fun hc => ?_)
    · walk_at "ix"
      refine o_intC (by show (0 : Int) < m; omega) ?_
      walk_at "ix"
      refine o_intC ⟨by show (0 : Int) < m; omega, lg⟩ ?_
      walk_at "ix"
      refine ⟨_, 0, _, _, rfl, rfl, rfl, ?_⟩
      walk_at "ix"
      exact ret _ _ _ rfl (k _ _ (Int.emod_nonneg _ (by omega)) (Int.emod_lt_of_pos _ (by omega)) ⟨_, _, _, rfl, Int.ediv_nonneg a0 (by omega), b0⟩)
    · walk_at "ix"
      refine ⟨_, 0, _, _, rfl, rfl, rfl, ?_⟩
      walk_at "ix"
      refine o_intC (Or.inl ⟨by decide, by decide⟩) ?_
      walk_at "ix"
      refine o_intC (Or.inr ⟨by decide, by decide⟩) ?_
      walk_at "ix"
      refine o_intC (by decide) ?_
      walk_at "ix"
      generalize hx : ((b + 7919 * (c + 1) + 13) * 48271) % 2147483629 = x
      have x0 : 0 ≤ x ∧ x < 2147483629 := by rw [← hx]; exact ⟨Int.emod_nonneg _ (by decide), Int.emod_lt_of_pos _ (by decide)⟩
      refine o_intC ⟨by decide, by decide⟩ ?_
      walk_at "ix"
      refine o_intC (Or.inl ⟨by omega, by omega⟩) ?_
      walk_at "ix"
      refine o_intC (by decide) ?_
      walk_at "ix"
      generalize hy : (x * (x / 1019 + 69621)) % 2147483579 = y
      have y0 : 0 ≤ y ∧ y < 2147483579 := by rw [← hy]; exact ⟨Int.emod_nonneg _ (by decide), Int.emod_lt_of_pos _ (by decide)⟩
      refine o_intC ⟨by decide, by decide⟩ ?_
      walk_at "ix"
      refine o_intC (Or.inl ⟨by omega, by omega⟩) ?_
      walk_at "ix"
      refine o_intC (by decide) ?_
      walk_at "ix"
      refine o_intC ⟨by decide, by decide⟩ ?_
      walk_at "ix"
      refine o_intC (by show (0 : Int) < m; omega) ?_
      exact ret _ _ _ rfl (k _ _ (Int.emod_nonneg _ (by omega)) (Int.emod_lt_of_pos _ (by omega)) ⟨_, _, _, rfl, a0, b0⟩)
end
end My

namespace My
open PySem L2 SL Mt
local macro_rules | `(tactic| walk_at "e1") => `(tactic| first
  | with_reducible refine nx_seq ?_ | with_reducible refine rn_seq ?_
  | with_reducible refine rn_set ?_ | with_reducible refine rn_ret ?_ | with_reducible refine rn_if ?_ | with_reducible refine rn_drop ?_ | with_reducible refine rn_next ?_
  | with_reducible refine ev_int ?_ | with_reducible refine ev_str ?_ | with_reducible refine ev_bl ?_ | with_reducible refine ev_non ?_
  | ((with_reducible refine' ev_fz ?vv ?_); (case vv => exact rfl))
  | ((with_reducible refine' ev_ol ?vv ?_); (case vv => exact rfl))
  | ((with_reducible refine' ev_al ?vv ?_); (case vv => exact rfl))
  | with_reducible refine ev_op ?_ | with_reducible refine ev_un ?_
  | with_reducible refine o_int ?_ | with_reducible refine o_bl ?_ | with_reducible refine u_int ?_
  | with_reducible refine o_eqI ?_ | with_reducible refine o_neI ?_ | with_reducible refine o_eqS ?_ | with_reducible refine o_neS ?_
  | with_reducible refine ev_isi ?_ | with_reducible refine ev_isi2 ?_ | with_reducible refine ev_cb ?_ | with_reducible refine a_one ?_ | with_reducible refine a_cons ?_ | with_reducible refine a_nil ?_
  | with_reducible refine b_abs ?_ | with_reducible refine b_int ?_ | with_reducible refine b_intb ?_
  | with_reducible refine b_lenL ?_ | with_reducible refine b_lenT ?_
  | with_reducible refine b_tupO ?_ | with_reducible refine b_tupL ?_ | with_reducible refine b_tupT ?_ | with_reducible refine t_yes ?_ | with_reducible refine iteT ?_ | with_reducible refine iteF ?_
  | with_reducible refine t_test ?_ | with_reducible refine t_B ?_ | with_reducible refine t_not ?_ | with_reducible refine t_and ?_ | with_reducible refine t_or ?_
  | with_reducible refine ev_lst ?_ | with_reducible refine ev_tup ?_ | with_reducible refine ev_callM ?_ | with_reducible refine ev_callF ?_ | with_reducible refine rn_setL ?_ | with_reducible refine rn_setDT ?_ | with_reducible refine rn_asg ?_ | ((with_reducible refine' ga_tup ?vv ?_); (case vv => exact rfl)) | with_reducible refine gas_nil ?_ | ((with_reducible refine' gas_name ?vv ?_); (case vv => exact rfl)) | ((with_reducible refine' rn_asgN ?vv ?_); (case vv => exact rfl))
  | with_reducible refine rn_par3 ?_ | with_reducible refine rn_par ?_ | with_reducible refine ev_tupRg ?_ | with_reducible refine ev_listRg ?_ | with_reducible refine ev_disp1T ?_ | with_reducible refine ev_dgetT ?_ | with_reducible refine ev_dnotinT ?_
  | with_reducible refine ev_append ?_ | with_reducible refine ev_extend ?_ | with_reducible refine ev_reverse ?_ | with_reducible refine ev_revL ?_
  | with_reducible refine ev_chain ?_ | with_reducible refine ev_and ?_ | with_reducible refine ev_or ?_ | with_reducible refine ev_not ?_ | with_reducible refine ev_if ?_
  | ((with_reducible refine' ev_oi ?vv ?_); (case vv => exact rfl)) | ((with_reducible refine' ev_ot ?vv ?_); (case vv => exact rfl)) | ((with_reducible refine' ev_od ?vv ?_); (case vv => exact rfl))
  | refine ⟨_, rfl, ?_⟩)
local macro_rules | `(tactic| walk_at "ev") => `(tactic| repeat (walk_at "e1"))

def Wmaps : WM := fun ds0 as post => SrcD ds0 ∧ ∃ mp ml : Nat, as = [intN mp, intN ml] ∧ 1 ≤ mp ∧ mp ≤ 100 ∧ 1 ≤ ml ∧ ml ≤ 100 ∧
  ∀ p n (maps : List (List Nat)) ds1, 1 ≤ n → n ≤ mp → 1 ≤ maps.length → maps.length ≤ ml → (∀ m ∈ maps, IsMap n m) → SrcD ds1 → post (.ol p (maps.map tupN)) ds1
section
variable {P : Program} {w : World} {K : PySem.W.Frag} {mg : Str → Option Value} {base : Heap}
abbrev s_law_maps : Stmt := top 26
abbrev N_law_maps : List Str := ["_law_source_here", "_law_most_points", "_law_most_letters", "_law_size", "_law_many", "_law_turn", "_law_point"]
theorem sc_law_maps : FnScope N_law_maps ["_law_source_here", "_law_most_points", "_law_most_letters"] (defScope s_law_maps) := ⟨rfl, rfl, rfl, by decide +kernel, rfl, by decide +kernel, by decide +kernel⟩

theorem ok_maps {f : Addr} {fd : FuncData} (Fn : Fun K "_law_maps" "_law_maps" s_law_maps f fd) (B : Bt mg) (f_law_draw : Cal P w K mg base 1 "_law_draw" (SpM K Wdraw)) : FnOk P w K mg base CX0 2 f fd ["_law_source_here", "_law_most_points", "_law_most_letters"] (SpM K Wmaps) := by
  refine Fn.ok sc_law_maps (fun vs H Q E h => ?_) (fun cdv A outer s H vs Q E hr h => ?_)
  · obtain ⟨G, p, xs, ds0, ws, as, post, rfl, _, _, _, _, da, ⟨_, mp, ml, rfl, _⟩, _⟩ := h
    have := DpAll.len da
    simpa using this
  · refine ⟨_, (pss_cons (ps_asg (pe_tup (pa_cons (pe_op op_add pe_int (pe_c f_law_draw hr (by decide) rfl (pa_cons (pv 0) (pa_cons (pv 1) pa_nil)))) (pa_cons (pe_op op_add pe_int (pe_c f_law_draw hr (by decide) rfl (pa_cons (pv 0) (pa_cons (pv 2) pa_nil)))) pa_nil))) (pg_tup' K (n := 2) rfl (pgs_cons (pg_name (i := 3) sc_law_maps.nd rfl (Or.inr rfl)) (pgs_cons (pg_name (i := 4) sc_law_maps.nd rfl (Or.inl rfl)) pgs_nil))))
 (pss_one (ps_ret (pe_lcv [5] (pe_lc (own := [("_law_turn", 5)]) (g := gName 5) (tt := tYes) rfl sc_law_maps.nd (pi_range1 rfl B.b_range (pa_cons (pv 4) pa_nil)) (blkOk_by (own := [("_law_turn", 5)]) (N := N_law_maps) (by kernel_rfl)) (fun _ _ _ _ _ => pg_name (i := 5) sc_law_maps.nd rfl (Or.inl rfl)) (fun _ _ _ _ _ => pts_nil) (fun _ _ _ _ _ => (pe_callTy (call_tuple_of' K) rfl B.b_tuple (by decide +kernel) (pa_cons (pe_lcv [6] (pe_lc (own := [("_law_point", 6)]) (g := gName 6) (tt := tYes) rfl sc_law_maps.nd (pi_range1 rfl B.b_range (pa_cons (pv 3) pa_nil)) (blkOk_by (own := [("_law_point", 6)]) (N := N_law_maps) (by kernel_rfl)) (fun _ _ _ _ _ => pg_name (i := 6) sc_law_maps.nd rfl (Or.inl rfl)) (fun _ _ _ _ _ => pts_nil) (fun _ _ _ _ _ => (pe_c f_law_draw hr (by decide) rfl (pa_cons (pv 0) (pa_cons (pv 3) pa_nil)))))) pa_nil)))))))), bodyM h fun F p ds0 as post hK hio hW ret => ?_⟩
    subst hK
    obtain ⟨hs, mp, ml, rfl, p1, p2, l1, l2, k⟩ := hW
    show Rn F _ [.ol p ds0, .fz (intN mp), .fz (intN ml), .no, .no, .no, .no] _
    walk_at "ev"
    refine ⟨p, [_], 0, _, rfl, rfl, hs, (mp : Int), rfl, by omega, by omega, fun d ds1 d0 dm hs1 _ => ?_⟩
    walk_at "ev"
    refine ⟨p, [_], 0, _, rfl, rfl, hs1, (ml : Int), rfl, by omega, by omega, fun e ds2 e0 em hs2 _ => ?_⟩
    walk_at "ev"
    refine ⟨[_, _], rfl, (by show 2 ≤ sizeLine; decide), ?_⟩
    walk_at "ev"
    obtain ⟨n, hn⟩ : ∃ n : Nat, 1 + d = (n : Int) := ⟨(1 + d).toNat, by omega⟩
    obtain ⟨m, hm⟩ : ∃ m : Nat, 1 + e = (m : Int) := ⟨(1 + e).toNat, by omega⟩
    rw [hn, hm]
    refine ev_lc (iw_range1 ?_)
    walk_at "ev"
    refine ⟨by omega, by omega, rfl, (by simp [rangeD]; omega), fun i acc δ' => ∃ (maps : List (List Nat)) (ds3 : List PyData), acc = maps.map tupN ∧ maps.length = i ∧ (∀ x ∈ maps, IsMap n x) ∧ SrcD ds3 ∧
      δ' = [.ol p ds3, .fz (intN mp), .fz (intN ml), .fz (intN n), .fz (intN m), .no, .no], ⟨[], ds2, rfl, rfl, by simp, hs2, rfl⟩, ?_, ?_, ?_⟩
    · rintro i acc δ' ⟨maps, ds3, rfl, hl, _, _, rfl⟩
      exact ⟨rfl, by simp [hl]⟩
    · rintro F' i d5 acc δ' hle hd5 ⟨maps, ds3, rfl, hl, hmaps, hs3, rfl⟩
      rw [← hle.k]
      walk_at "ev"
      refine ev_lc (iw_range1 ?_)
      walk_at "ev"
      refine ⟨by omega, by omega, rfl, (by simp [rangeD]; omega), fun i2 acc δ' => ∃ (ns : List Nat) (ds4 : List PyData), acc = ns.map intN ∧ ns.length = i2 ∧ (∀ x ∈ ns, x < n) ∧ SrcD ds4 ∧
        δ' = [.ol p ds4, .fz (intN mp), .fz (intN ml), .fz (intN n), .fz (intN m), .fz d5, .no], ⟨[], ds3, rfl, rfl, by simp, hs3, rfl⟩, ?_, ?_, ?_⟩
      · rintro i2 acc δ' ⟨ns, ds4, rfl, hl, _, _, rfl⟩
        exact ⟨rfl, by simp [hl]⟩
      · rintro F2 i2 d6 acc δ' hle2 hd6 ⟨ns, ds4, rfl, hl2, hns, hs4, rfl⟩
        rw [← hle2.k]
        walk_at "ev"
        refine ⟨p, [_], 0, _, rfl, rfl, hs4, (n : Int), rfl, by omega, by omega, fun x ds5 x0 xm hs5 _ => ⟨_, rfl, _, rfl, ns ++ [x.toNat], ds5, ?_, by simp [hl2], ?_, hs5, rfl⟩⟩
        · simp [intN, Int.toNat_of_nonneg x0]
        · intro y hy
          rcases List.mem_append.mp hy with h | h
          · exact hns y h
          · have : y = x.toNat := by simpa using h
            omega
      · rintro acc δ' q hq ⟨ns, ds4, rfl, hl2, hns, hs4, rfl⟩
        walk_at "ev"
        refine ⟨maps ++ [ns], ds4, ?_, by simp [hl], ?_, hs4, rfl⟩
        · simp [tupN]
        · intro y hy
          rcases List.mem_append.mp hy with h | h
          · exact hmaps y h
          · have : y = ns := by simpa using h
            subst this
            refine ⟨?_, hns⟩
            rw [hl2]
            simp [rangeD]
    · rintro acc δ' q hq ⟨maps, ds3, rfl, hl, hmaps, hs3, rfl⟩
      have hl' : maps.length = m := by rw [hl]; simp [rangeD]
      exact ret _ _ _ rfl (k q n maps ds3 (by omega) (by omega) (by omega) (by omega) hmaps hs3)
end
end My

namespace My
open PySem L2 SL Mt
local macro_rules | `(tactic| walk_at "e1") => `(tactic| first
  | with_reducible refine nx_seq ?_ | with_reducible refine rn_seq ?_
  | with_reducible refine rn_set ?_ | with_reducible refine rn_ret ?_ | with_reducible refine rn_if ?_ | with_reducible refine rn_drop ?_ | with_reducible refine rn_next ?_
  | with_reducible refine ev_int ?_ | with_reducible refine ev_str ?_ | with_reducible refine ev_bl ?_ | with_reducible refine ev_non ?_
  | ((with_reducible refine' ev_fz ?vv ?_); (case vv => exact rfl))
  | ((with_reducible refine' ev_ol ?vv ?_); (case vv => exact rfl))
  | ((with_reducible refine' ev_al ?vv ?_); (case vv => exact rfl))
  | with_reducible refine ev_op ?_ | with_reducible refine ev_un ?_
  | with_reducible refine o_int ?_ | with_reducible refine o_bl ?_ | with_reducible refine u_int ?_
  | with_reducible refine o_eqI ?_ | with_reducible refine o_neI ?_ | with_reducible refine o_eqS ?_ | with_reducible refine o_neS ?_
  | with_reducible refine ev_isi ?_ | with_reducible refine ev_isi2 ?_ | with_reducible refine ev_cb ?_ | with_reducible refine a_one ?_ | with_reducible refine a_cons ?_ | with_reducible refine a_nil ?_
  | with_reducible refine b_abs ?_ | with_reducible refine b_int ?_ | with_reducible refine b_intb ?_
  | with_reducible refine b_lenL ?_ | with_reducible refine b_lenT ?_
  | with_reducible refine b_tupO ?_ | with_reducible refine b_tupL ?_ | with_reducible refine b_tupT ?_ | with_reducible refine t_yes ?_ | with_reducible refine iteT ?_ | with_reducible refine iteF ?_
  | with_reducible refine t_test ?_ | with_reducible refine t_B ?_ | with_reducible refine t_not ?_ | with_reducible refine t_and ?_ | with_reducible refine t_or ?_
  | with_reducible refine ev_lst ?_ | with_reducible refine ev_tup ?_ | with_reducible refine ev_callM ?_ | with_reducible refine ev_callF ?_ | with_reducible refine rn_setL ?_ | with_reducible refine rn_setDT ?_ | with_reducible refine rn_asg ?_ | ((with_reducible refine' ga_tup ?vv ?_); (case vv => exact rfl)) | with_reducible refine gas_nil ?_ | ((with_reducible refine' gas_name ?vv ?_); (case vv => exact rfl)) | ((with_reducible refine' rn_asgN ?vv ?_); (case vv => exact rfl))
  | with_reducible refine rn_par3 ?_ | with_reducible refine rn_par ?_ | with_reducible refine ev_tupRg ?_ | with_reducible refine ev_listRg ?_ | with_reducible refine ev_disp1T ?_ | with_reducible refine ev_dgetT ?_ | with_reducible refine ev_dnotinT ?_
  | with_reducible refine ev_append ?_ | with_reducible refine ev_extend ?_ | with_reducible refine ev_reverse ?_ | with_reducible refine ev_revL ?_
  | with_reducible refine ev_chain ?_ | with_reducible refine ev_and ?_ | with_reducible refine ev_or ?_ | with_reducible refine ev_not ?_ | with_reducible refine ev_if ?_
  | ((with_reducible refine' ev_oi ?vv ?_); (case vv => exact rfl)) | ((with_reducible refine' ev_ot ?vv ?_); (case vv => exact rfl)) | ((with_reducible refine' ev_od ?vv ?_); (case vv => exact rfl))
  | refine ⟨_, rfl, ?_⟩)
local macro_rules | `(tactic| walk_at "ev") => `(tactic| repeat (walk_at "e1"))

def keyN (y : List Nat) : List Key := y.map fun (j : Nat) => (Sum.inl (j : Int) : Key)
theorem tupN_key (y : List Nat) : tupN y = .tuple ((keyN y).map keyD) := by
  unfold tupN keyN
  rw [List.map_map]
  rfl
theorem keyN_inj {x y : List Nat} (h : keyN x = keyN y) : x = y := by
  unfold keyN at h
  exact List.map_inj_right (fun a b e => by have e2 : (a : Int) = (b : Int) := Sum.inl.inj e; omega) |>.mp h
def kvsOf (found : List (List Nat)) : List (List Key × PyData) := found.zipIdx.map fun p => (keyN p.1, intN p.2)
theorem kvsOf_snoc (found : List (List Nat)) (y : List Nat) : kvsOf (found ++ [y]) = kvsOf found ++ [(keyN y, intN found.length)] := by
  unfold kvsOf
  rw [List.zipIdx_append]
  simp
theorem look_none {found : List (List Nat)} {y : List Nat} (h : y ∉ found) : dlook (kvsOf found) (keyN y) = none := by
  unfold dlook kvsOf
  rw [Option.map_eq_none_iff, List.find?_eq_none]
  intro x hx
  obtain ⟨p, hp, rfl⟩ := List.mem_map.mp hx
  simp only [decide_eq_true_eq]
  intro e
  have h1 := keyN_inj e
  have h2 := List.mem_zipIdx hp
  apply h
  rw [← h1]
  obtain ⟨_, h3, h4⟩ := h2
  rw [h4]
  exact List.getElem_mem _
theorem look_at {y : List Nat} : ∀ (found : List (List Nat)) (k i : Nat), found.Nodup → found[i]? = some y → ((found.zipIdx k).map fun p => (keyN p.1, intN p.2)).find? (fun kv => decide (kv.1 = keyN y)) = some (keyN y, intN (k + i))
  | [], _, _, _, h => by simp at h
  | a :: r, k, 0, _, h => by
    simp at h
    subst h
    simp
  | a :: r, k, i + 1, nd, h => by
    have h' : r[i]? = some y := by simpa using h
    have hn := List.nodup_cons.mp nd
    have hne : ¬ keyN a = keyN y := fun e => hn.1 (by rw [keyN_inj e]; exact List.mem_of_getElem? h')
    simp only [List.zipIdx_cons, List.map_cons, List.find?_cons, hne, decide_false]
    rw [look_at r (k + 1) i hn.2 h']
    have : k + 1 + i = k + (i + 1) := by omega
    rw [this]
theorem look_some {found : List (List Nat)} {y : List Nat} {i : Nat} (nd : found.Nodup) (h : found[i]? = some y) : dlook (kvsOf found) (keyN y) = some (intN i) := by
  unfold dlook kvsOf
  rw [look_at found 0 i nd h]
  simp
theorem kvsOf_len (found : List (List Nat)) : (kvsOf found).length = found.length := by simp [kvsOf]
theorem str_app_len (a b : Str) : (a ++ b).length = a.length + b.length := by
  show (a.cps ++ b.cps).size = a.cps.size + b.cps.size
  simp
theorem wordsOf_short (t : List (Nat × Nat)) : ∀ w ∈ wordsOf t, w.length ≤ t.length := by
  have key : ∀ (n : Nat) (t : List (Nat × Nat)), t.length = n → ∀ w ∈ wordsOf t, w.length ≤ t.length := by
    intro n
    induction n with
    | zero =>
      intro t ht w hw
      have : t = [] := List.length_eq_zero_iff.mp ht
      subst this
      have : w = ⟨#[]⟩ := by simpa [Mt.wordsOf] using hw
      subst this
      exact Nat.le_refl _
    | succ n ih =>
      intro t ht w hw
      rcases List.eq_nil_or_concat t with e | ⟨t', p, e⟩
      · subst e; simp at ht
      · rw [List.concat_eq_append] at e
        subst e
        have ht' : t'.length = n := by simpa using ht
        rw [wordsOf_snoc] at hw
        rcases List.mem_append.mp hw with q | q
        · have := ih t' ht' w q
          simp; omega
        · have : w = (wordsOf t').getD p.1 ⟨#[]⟩ ++ letS p.2 := by simpa using q
          subst this
          rw [str_app_len]
          have h1 : ((wordsOf t').getD p.1 ⟨#[]⟩).length ≤ t'.length := by
            rw [List.getD_eq_getElem?_getD]
            cases q2 : (wordsOf t')[p.1]? with
            | none => exact Nat.zero_le _
            | some w' => exact ih t' ht' w' (List.mem_of_getElem? q2)
          have h2 : (letS p.2).length = 1 := rfl
          simp only [List.length_append, List.length_cons, List.length_nil]
          omega
  exact key t.length t rfl
def strS (w : Str) : PyData := .str w
def Wtable : WF := fun as post => ∃ (n : Nat) (ms : List (List Nat)), as = [.list (ms.map tupN)] ∧ 1 ≤ n ∧ n ≤ 4 ∧ 1 ≤ ms.length ∧ ms.length ≤ 6 ∧ (∀ m ∈ ms, IsMap n m) ∧
  ∀ found words table, Tab n ms found words table → post (.fz (.tuple [.list (found.map tupN), .list (words.map strS), .list (table.map lstN)]))
theorem zip_items {ms : List (List Nat)} (hl : ms.length ≤ 6) : (zipD (signsD "abcdef") (ms.map tupN)).length = ms.length := by
  unfold zipD
  have : (signsD "abcdef").length = 6 := rfl
  rw [List.length_zipWith, this, List.length_map]
  omega
theorem signs_get {l : Nat} (h : l < 6) : (signsD "abcdef")[l]? = some (.str (letS l)) := by
  have h2 : l = 0 ∨ l = 1 ∨ l = 2 ∨ l = 3 ∨ l = 4 ∨ l = 5 := by omega
  rcases h2 with q | q | q | q | q | q <;> subst q <;> rfl
theorem zip_get {ms : List (List Nat)} {l : Nat} {m : List Nat} (hl : ms.length ≤ 6) (h : ms[l]? = some m) : (zipD (signsD "abcdef") (ms.map tupN))[l]? = some (.tuple [.str (letS l), tupN m]) := by
  have h1 : l < ms.length := (List.getElem?_eq_some_iff.mp h).1
  unfold zipD
  rw [List.getElem?_zipWith, signs_get (by omega), List.getElem?_map, h]
  rfl
theorem range_item {n i : Nat} {d : PyData} (h : (rangeD 0 n)[i]? = some d) : d = intN i := by
  have hlt := (List.getElem?_eq_some_iff.mp h).1
  rw [show (rangeD 0 n).length = n from by simp [rangeD]] at hlt
  have h2 : (rangeD 0 n)[i]? = some (intN i) := by
    unfold rangeD
    rw [List.getElem?_map, List.getElem?_range hlt]
    simp [intN]
  rw [h2] at h
  exact (Option.some.inj h).symm
theorem rangeD_len (lo : Int) (n : Nat) : (rangeD lo n).length = n := by simp [rangeD]
section
variable {P : Program} {w : World} {K : PySem.W.Frag} {mg : Str → Option Value} {base : Heap}
abbrev s_law_table : Stmt := top 27
abbrev N_law_table : List Str := ["_law_rows", "_law_found", "_law_words", "_law_table_here", "_law_numbers", "_law_at", "_law_row", "_law_letter", "_law_other", "_law_product_here", "_law_image"]
theorem sc_law_table : FnScope N_law_table ["_law_rows"] (defScope s_law_table) := ⟨rfl, rfl, rfl, by decide +kernel, rfl, by decide +kernel, by decide +kernel⟩

theorem ok_table {f : Addr} {fd : FuncData} (Fn : Fun K "_law_table" "_law_table" s_law_table f fd) (B : Bt mg) : FnOk P w K mg base CX0 1 f fd ["_law_rows"] (SpF K Wtable) := by
  refine Fn.ok sc_law_table (fun vs H Q E h => ?_) (fun cdv A outer s H vs Q E hr h => ?_)
  · obtain ⟨G, ds, post, _, da, ⟨n, ms, rfl, _⟩, _⟩ := h
    exact DpAll.len da
  · refine ⟨_, (pss_cons (ps_par3 rfl sc_law_table.nd (i := 1) (j := 2) (l := 3) rfl rfl rfl (by decide) (by decide) (by decide) rfl rfl rfl (pa_cons (pe_lst (pa_cons (pe_tupRg rfl rfl B.b_tuple (prg_1 rfl B.b_range (pe_callB (call_len_seq' K) rfl B.b_len (by decide +kernel) (pa_cons (pe_ix (ix_list' K) (pv 0) pe_int (fun _ _ => rfl)) pa_nil)))) pa_nil)) (pa_cons (pe_lst (pa_cons pe_str pa_nil)) (pa_cons (pe_lst pa_nil) pa_nil))) rfl)
 (pss_cons (ps_set (i := 4) sc_law_table.nd rfl (Or.inl rfl) (pe_disp1T hr.u1 (pe_ix (ix_list' K) (pv 1) pe_int (fun _ _ => rfl)) pe_int))
 (pss_cons (ps_for PassesOwn.never rfl (pi_range1 rfl B.b_range (pa_cons pe_int pa_nil)) (pg_name (i := 5) sc_law_table.nd rfl (Or.inl rfl)) (pss_cons (ps_if (pt_cmpR op_ge (pv 5) (pe_callB (call_len_seq' K) rfl B.b_len (by decide +kernel) (pa_cons (pv 1) pa_nil)) (nomark _)) (pss_one (ps_ret (pe_tup (pa_cons (pv 1) (pa_cons (pv 2) (pa_cons (pv 3) pa_nil)))))) pss_nil)
 (pss_cons (ps_set (i := 6) sc_law_table.nd rfl (Or.inl rfl) (pe_lst pa_nil))
 (pss_cons (ps_for PassesOwn.never rfl (pi_zz' K rfl B.b_zip (pa_cons pe_str (pa_cons (pv 0) pa_nil))) (pg_tup' K (n := 2) rfl (pgs_cons (pg_name (i := 7) sc_law_table.nd rfl (Or.inl rfl)) (pgs_cons (pg_name (i := 8) sc_law_table.nd rfl (Or.inr rfl)) pgs_nil))) (pss_cons (ps_set (i := 9) sc_law_table.nd rfl (Or.inl rfl) (pe_callTy (call_tuple_of' K) rfl B.b_tuple (by decide +kernel) (pa_cons (pe_lcv [10] (pe_lc (own := [("_law_image", 10)]) (g := gName 10) (tt := tYes) rfl sc_law_table.nd (pi_tup' K (pe_ix (ix_list' K) (pv 1) (pv 5) (fun _ _ => rfl))) (blkOk_by (own := [("_law_image", 10)]) (N := N_law_table) (by kernel_rfl)) (fun _ _ _ _ _ => pg_name (i := 10) sc_law_table.nd rfl (Or.inl rfl)) (fun _ _ _ _ _ => pts_nil) (fun _ _ _ _ _ => (pe_ix (ix_tup' K) (pv 8) (pv 10) (fun _ _ => rfl))))) pa_nil)))
 (pss_cons (ps_if (pt_cmp (pc_dnotin hr.u1 (pv 9) (pv 4))) (pss_cons (ps_asg (pe_callB (call_len_seq' K) rfl B.b_len (by decide +kernel) (pa_cons (pv 1) pa_nil)) (pg_sub (pv 4) (pv 9) (set_dict hr.u1)))
 (pss_cons (ps_expr (pe_bm' K PySem.F.plainAttrs_list PySem.F.slot_list_append PySem.F.type_list_append mt_append (pv 1) (pa_cons (pv 9) pa_nil)))
 (pss_one (ps_expr (pe_bm' K PySem.F.plainAttrs_list PySem.F.slot_list_append PySem.F.type_list_append mt_append (pv 2) (pa_cons (pe_op op_add_str (pe_ix (ix_list' K) (pv 2) (pv 5) (fun _ _ => rfl)) (pv 7)) pa_nil)))))) pss_nil)
 (pss_one (ps_expr (pe_bm' K PySem.F.plainAttrs_list PySem.F.slot_list_append PySem.F.type_list_append mt_append (pv 6) (pa_cons (pe_dget hr.u1 (pv 4) (pv 9) (fun _ _ => rfl)) pa_nil)))))))
 (pss_one (ps_expr (pe_bm' K PySem.F.plainAttrs_list PySem.F.slot_list_append PySem.F.type_list_append mt_append (pv 3) (pa_cons (pv 6) pa_nil))))))))
 (pss_one (ps_ret (pe_tup (pa_cons (pv 1) (pa_cons (pv 2) (pa_cons (pv 3) pa_nil))))))))), bodyF h fun F ds post hK hio hW ret => ?_⟩
    subst hK
    obtain ⟨n, ms, rfl, n1, n4, l1, l6, hms, k⟩ := hW
    show Rn F _ [.fz (.list (ms.map tupN)), .no, .no, .no, .no, .no, .no, .no, .no, .no, .no] _
    have hm0 : ∃ m, ms[0]? = some m ∧ IsMap n m := ⟨ms[0], List.getElem?_eq_getElem (by omega), hms _ (List.getElem_mem _)⟩
    obtain ⟨m0, hm0, im0⟩ := hm0
    walk_at "ev"
    refine o_ixL (atI_nat (j := 0) (by rw [List.getElem?_map, hm0]; rfl)) ?_
    refine b_lenT ?_
    have lm0 : ((m0.map intN).length : Int) = (n : Int) := by rw [List.length_map, im0.1]
    rw [lm0]
    refine ⟨n, rfl, by omega, [_], rfl, (by show 1 ≤ sizeLine; decide), fun p1 q1 => ?_⟩
    walk_at "ev"
    refine ⟨[_], rfl, (by show 1 ≤ sizeLine; decide), fun p2 q2 => ?_⟩
    walk_at "ev"
    refine ⟨[], rfl, (by show 0 ≤ sizeLine; decide), fun p3 q3 => ?_⟩
    refine ⟨_, _, _, _, _, _, rfl, rfl, rfl, rfl, ?_⟩
    walk_at "ev"
    refine o_ix (.al 1 rfl) (atI_nat (j := 0) rfl) ?_
    have ert : PyData.tuple (rgD n) = tupN (List.range n) := rfl
    rw [ert, tupN_key]
    refine ⟨keyN (List.range n), rfl, ?_⟩
    walk_at "ev"
    intro p4 q4
    rw [← tupN_key]
    walk_at "ev"
    refine rn_for (iw_range1 ?_)
    walk_at "ev"
    refine ⟨by decide, by decide, fun at' δ' => ∃ (found : List (List Nat)) (words : List Str) (rows : List (List Nat)) (s5 s6 s7 s8 s9 : SD), TabI n ms found words rows [] ∧ rows.length = at' ∧ at' ≤ found.length ∧
      δ' = [.fz (.list (ms.map tupN)), .ol p1 (found.map tupN), .ol p2 (words.map strS), .ol p3 (rows.map lstN), .ot p4 (kvsOf found), s5, s6, s7, s8, s9, .no],
      ⟨[List.range n], [⟨#[]⟩], [], _, _, _, _, _, tabI_start n ms, rfl, by simp, rfl⟩, ?_, ?_⟩
    · rintro F' at' d δ' N hle hd ⟨found, words, rows, s5, s6, s7, s8, s9, hT, hat, hlt, rfl⟩ hN
      have hd' : d = intN at' := range_item hd
      subst hd'
      rw [← hle.k]
      have hio' : F'.io = [] := hle.io.trans hio
      have few := maps_few n4 hT.nd hT.mp
      refine rn_asgN (i := 5) rfl ?_
      walk_at "ev"
      refine b_len (.al 1 rfl) ?_
      walk_at "ev"
      rw [List.length_map]
      refine ite2 (fun hc => ?_) (fun hc => ?_)
      · have hge : found.length ≤ at' := by simpa using hc
        have heq : at' = found.length := by omega
        refine Rn.freezeS (i := 1) rfl (by rw [hio']; simp) (Rn.freezeS (i := 2) rfl (by rw [hio']; simp) (Rn.freezeS (i := 3) rfl (by rw [hio']; simp) ?_))
        walk_at "ev"
        refine ⟨[_, _, _], rfl, (by show 3 ≤ sizeLine; decide), ?_⟩
        exact Ro.up hle (ret _ _ (k found words rows (hT.tab (by omega))))
      · have hlt2 : at' < found.length := by
          have : ¬ found.length ≤ at' := by simpa using hc
          omega
        obtain ⟨x, hx⟩ : ∃ x, found[at']? = some x := ⟨_, List.getElem?_eq_getElem hlt2⟩
        have imx : IsMap n x := hT.mp x (List.mem_of_getElem? hx)
        have hsc : rows.length < (scanRows 0 rows []).length + 1 := by
          have e1 := hT.len
          simp only [scanRow] at e1
          omega
        walk_at "ev"
        refine ⟨[], rfl, (by show 0 ≤ sizeLine; decide), fun p6 q6 => ?_⟩
        walk_at "ev"
        refine rn_for (iw_zip ?_)
        walk_at "ev"
        refine ⟨_, _, _, _, rfl, rfl, rfl, fun l δ' => ∃ (found : List (List Nat)) (words : List Str) (row : List Nat) (s7 s8 s9 : SD), TabI n ms found words rows row ∧ row.length = l ∧ at' < found.length ∧ found[at']? = some x ∧
          δ' = [.fz (.list (ms.map tupN)), .ol p1 (found.map tupN), .ol p2 (words.map strS), .ol p3 (rows.map lstN), .ot p4 (kvsOf found), .fz (intN at'), .ol p6 (row.map intN), s7, s8, s9, .no],
          ⟨found, words, [], _, _, _, hT, rfl, hlt2, hx, rfl⟩, ?_, ?_⟩
        · rintro F2 l d δ' N2 hle2 hd2 ⟨found, words, row, s7, s8, s9, hT, hl, hlt, hx, rfl⟩ hN2
          have hlm : l < ms.length := by
            have := (List.getElem?_eq_some_iff.mp hd2).1
            rw [zip_items l6] at this
            exact this
          obtain ⟨m, hm⟩ : ∃ m, ms[l]? = some m := ⟨_, List.getElem?_eq_getElem hlm⟩
          have imm : IsMap n m := hms m (List.mem_of_getElem? hm)
          rw [zip_get l6 hm] at hd2
          cases hd2
          rw [← hle2.k]
          have hio2 : F2.io = [] := hle2.io.trans hio'
          have few := maps_few n4 hT.nd hT.mp
          walk_at "ev"
          refine ev_lc (iw_tup ?_)
          walk_at "ev"
          refine o_ix (.al 1 rfl) (atI_nat (j := at') (by rw [List.getElem?_map, hx]; rfl)) ?_
          refine ⟨_, rfl, rfl, (by rw [List.length_map, imx.1]; omega), fun i acc δ' => acc = ((x.take i).map fun j => intN (m.getD j 0)) ∧
            δ' = [.fz (.list (ms.map tupN)), .ol p1 (found.map tupN), .ol p2 (words.map strS), .ol p3 (rows.map lstN), .ot p4 (kvsOf found), .fz (intN at'), .ol p6 (row.map intN), .fz (.str (letS l)), .fz (tupN m), s9, .no], ⟨by simp, rfl⟩, ?_, ?_, ?_⟩
          · rintro i acc δ' ⟨rfl, rfl⟩
            exact ⟨rfl, by simp; omega⟩
          · rintro F3 i d acc δ' hle3 hd3 ⟨rfl, rfl⟩
            rw [← hle3.k]
            rw [List.getElem?_map] at hd3
            obtain ⟨j, hj, rfl⟩ := Option.map_eq_some_iff.mp hd3
            have hjn : j < m.length := by rw [imm.1]; exact imx.2 j (List.mem_of_getElem? hj)
            walk_at "ev"
            refine o_ixT (atI_nat (j := j) (v := intN (m.getD j 0)) (by rw [List.getElem?_map, List.getElem?_eq_getElem hjn, List.getD_eq_getElem?_getD, List.getElem?_eq_getElem hjn]; rfl)) ?_
            refine ⟨_, rfl, _, rfl, ?_, rfl⟩
            rw [List.take_succ, hj]
            simp
          · rintro acc δ' q hq ⟨rfl, rfl⟩
            have ecomp : PyData.tuple (((x.take (x.map intN).length).map fun j => intN (m.getD j 0))) = tupN (comp x m) := by
              rw [List.length_map, List.take_length]
              unfold tupN comp
              rw [List.map_map]
              rfl
            refine b_tupO ?_
            rw [ecomp]
            walk_at "ev"
            rw [tupN_key]
            refine ⟨_, rfl, ?_⟩
            rw [← tupN_key]
            walk_at "ev"
            refine ⟨p4, 4, _, rfl, rfl, _, rfl, ?_⟩
            by_cases hmem : comp x m ∈ found
            · obtain ⟨o, ho⟩ := List.getElem?_of_mem hmem
              rw [look_some hT.nd ho]
              refine (if_neg (by simp)).mpr ?_
              walk_at "ev"
              refine ⟨p6, 6, _, rfl, rfl, ?_⟩
              walk_at "ev"
              refine ⟨keyN (comp x m), 4, _, intN o, by rw [tupN_key], rfl, look_some hT.nd ho, ?_⟩
              refine ⟨_, _, rfl, rfl, by rw [List.length_map]; omega, ?_⟩
              refine hN2 _ ⟨found, words, row ++ [o], .fz (.str (letS l)), .fz (tupN m), .fz (tupN (comp x m)), hT.old (by rw [hat]; exact hx) (by rw [hl]; exact hm) ho, by simp [hl], hlt, hx, ?_⟩
              rw [List.map_append]
              rfl
            · rw [look_none hmem]
              refine (if_pos (by simp)).mpr ?_
              obtain ⟨wx, hwx⟩ : ∃ wx, words[at']? = some wx := by
                refine ⟨_, List.getElem?_eq_getElem ?_⟩
                rw [hT.wd, wordsOf_len, ← hT.len]
                exact hlt
              have hws : wx.length ≤ 256 := by
                have h1 : wx ∈ words := List.mem_of_getElem? hwx
                rw [hT.wd] at h1
                have h2 := wordsOf_short _ wx h1
                have h3 := hT.len
                omega
              have hT' := hT.new (x := x) (m := m) (wx := wx) (by rw [hat]; exact hx) (by rw [hl]; exact hm) imm hmem (by rw [hat]; exact hwx)
              walk_at "ev"
              refine b_len (.al 1 rfl) ?_
              walk_at "ev"
              refine ⟨keyN (comp x m), 4, _, by rw [tupN_key], rfl, by rw [kvsOf_len]; omega, ?_⟩
              rw [dput_new _ _ _ (look_none hmem)]
              have ekv : kvsOf found ++ [(keyN (comp x m), PyData.int ((found.map tupN).length : Nat))] = kvsOf (found ++ [comp x m]) := by
                rw [kvsOf_snoc, List.length_map]
              rw [ekv]
              walk_at "ev"
              refine ⟨p1, 1, _, rfl, rfl, ?_⟩
              walk_at "ev"
              refine ⟨_, _, rfl, rfl, by rw [List.length_map]; omega, ?_⟩
              walk_at "ev"
              refine ⟨p2, 2, _, rfl, rfl, ?_⟩
              walk_at "ev"
              refine o_ix (.al 2 rfl) (atI_nat (j := at') (v := strS wx) (by rw [List.getElem?_map, hwx]; rfl)) ?_
              walk_at "ev"
              refine o_addS (Nat.le_trans (show wx.length + (letS l).length ≤ 1000 by show wx.length + 1 ≤ 1000; omega) (by decide)) ?_
              refine ⟨_, _, rfl, rfl, by rw [List.length_map, hT.wd, wordsOf_len, ← hT.len]; omega, ?_⟩
              walk_at "ev"
              refine ⟨p6, 6, _, rfl, rfl, ?_⟩
              walk_at "ev"
              refine ⟨keyN (comp x m), 4, _, intN found.length, by rw [tupN_key], rfl, look_some hT'.nd (by rw [List.getElem?_append_right (Nat.le_refl _)]; simp), ?_⟩
              refine ⟨_, _, rfl, rfl, by rw [List.length_map]; omega, ?_⟩
              refine hN2 _ ⟨found ++ [comp x m], words ++ [wx ++ letS l], row ++ [found.length], .fz (.str (letS l)), .fz (tupN m), .fz (tupN (comp x m)), by rw [hl] at hT'; exact hT', by simp [hl], by simp; omega, get_app hx, ?_⟩
              rw [List.map_append, List.map_append, List.map_append]
              rfl
        · rintro δ' ⟨found, words, row, s7, s8, s9, hT, hl, hlt, hx, rfl⟩
          have few := maps_few n4 hT.nd hT.mp
          rw [zip_items l6] at hl
          refine nx_seq ?_
          refine Rn.freezeS (i := 6) rfl (by rw [hio']; simp) ?_
          walk_at "ev"
          refine ⟨p3, 3, _, rfl, rfl, ?_⟩
          walk_at "ev"
          refine ⟨_, _, rfl, rfl, by rw [List.length_map]; omega, ?_⟩
          refine hN _ ⟨found, words, rows ++ [row], .fz (intN at'), .fz (lstN row), s7, s8, s9, hT.done hl hsc, by simp [hat], by omega, ?_⟩
          rw [List.map_append]
          rfl
    · rintro δ' ⟨found, words, rows, s5, s6, s7, s8, s9, hT, hat, hlt, rfl⟩
      have few := maps_few n4 hT.nd hT.mp
      have : (rangeD 0 (Int.toNat 3000)).length = 3000 := by simp [rangeD]
      omega
end
end My

namespace My
open PySem L2 SL Mt
local macro_rules | `(tactic| walk_at "e1") => `(tactic| first
  | with_reducible refine nx_seq ?_ | with_reducible refine rn_seq ?_
  | with_reducible refine rn_set ?_ | with_reducible refine rn_ret ?_ | with_reducible refine rn_if ?_ | with_reducible refine rn_drop ?_ | with_reducible refine rn_next ?_
  | with_reducible refine ev_int ?_ | with_reducible refine ev_str ?_ | with_reducible refine ev_bl ?_ | with_reducible refine ev_non ?_
  | ((with_reducible refine' ev_fz ?vv ?_); (case vv => exact rfl))
  | ((with_reducible refine' ev_ol ?vv ?_); (case vv => exact rfl))
  | ((with_reducible refine' ev_al ?vv ?_); (case vv => exact rfl))
  | with_reducible refine ev_op ?_ | with_reducible refine ev_un ?_
  | with_reducible refine o_int ?_ | with_reducible refine o_bl ?_ | with_reducible refine u_int ?_
  | with_reducible refine o_eqI ?_ | with_reducible refine o_neI ?_ | with_reducible refine o_eqS ?_ | with_reducible refine o_neS ?_
  | with_reducible refine ev_isi ?_ | with_reducible refine ev_isi2 ?_ | with_reducible refine ev_cb ?_ | with_reducible refine a_one ?_ | with_reducible refine a_cons ?_ | with_reducible refine a_nil ?_
  | with_reducible refine b_abs ?_ | with_reducible refine b_int ?_ | with_reducible refine b_intb ?_
  | with_reducible refine b_lenL ?_ | with_reducible refine b_lenT ?_
  | with_reducible refine b_tupO ?_ | with_reducible refine b_tupL ?_ | with_reducible refine b_tupT ?_ | with_reducible refine t_yes ?_ | with_reducible refine iteT ?_ | with_reducible refine iteF ?_
  | with_reducible refine t_test ?_ | with_reducible refine t_B ?_ | with_reducible refine t_not ?_ | with_reducible refine t_and ?_ | with_reducible refine t_or ?_
  | with_reducible refine ev_lst ?_ | with_reducible refine ev_tup ?_ | with_reducible refine ev_callM ?_ | with_reducible refine ev_callF ?_ | with_reducible refine rn_setL ?_ | with_reducible refine rn_setDT ?_ | with_reducible refine rn_asg ?_ | ((with_reducible refine' ga_tup ?vv ?_); (case vv => exact rfl)) | with_reducible refine gas_nil ?_ | ((with_reducible refine' gas_name ?vv ?_); (case vv => exact rfl)) | ((with_reducible refine' rn_asgN ?vv ?_); (case vv => exact rfl))
  | with_reducible refine rn_par3 ?_ | with_reducible refine rn_par ?_ | with_reducible refine ev_tupRg ?_ | with_reducible refine ev_listRg ?_ | with_reducible refine ev_disp1T ?_ | with_reducible refine ev_dgetT ?_ | with_reducible refine ev_dnotinT ?_
  | with_reducible refine ev_append ?_ | with_reducible refine ev_extend ?_ | with_reducible refine ev_reverse ?_ | with_reducible refine ev_revL ?_
  | with_reducible refine ev_chain ?_ | with_reducible refine ev_and ?_ | with_reducible refine ev_or ?_ | with_reducible refine ev_not ?_ | with_reducible refine ev_if ?_
  | ((with_reducible refine' ev_oi ?vv ?_); (case vv => exact rfl)) | ((with_reducible refine' ev_ot ?vv ?_); (case vv => exact rfl)) | ((with_reducible refine' ev_od ?vv ?_); (case vv => exact rfl))
  | refine ⟨_, rfl, ?_⟩)
local macro_rules | `(tactic| walk_at "ev") => `(tactic| repeat (walk_at "e1"))

def isNum : PyData → Bool
  | .int _ => true
  | _ => false
def isSeq : PyData → Bool
  | .list _ => true
  | .tuple _ => true
  | _ => false
def pairN (p : Nat × Nat) : PyData := .tuple [intN p.1, intN p.2]
def Wnum : WF := fun as post => ∃ d, as = [d] ∧ post (.fz (.bool (isNum d)))
def Wseq : WF := fun as post => ∃ d, as = [d] ∧ post (.fz (.bool (isSeq d)))
def Wform : WF := fun as post => ∃ t L, as = [.list (t.map lstN)] ∧ Good t L ∧ post (.fz .none)
def Worder : WF := fun as post => ∃ t, as = [.tuple (t.map tupN)] ∧ ordRows 0 t [] ∧ post (.fz .none)
def Wtree : WF := fun as post => ∃ t L, as = [.tuple (t.map tupN)] ∧ Good t L ∧ ∀ p, post (.ol p (.none :: (scanRows 0 t []).map pairN))
def Wleft : WF := fun as post => ∃ t L, as = [.tuple (t.map tupN), .list (.none :: (scanRows 0 t []).map pairN)] ∧ Good t L ∧ post (.fz (.tuple ((leftsOf t (scanRows 0 t [])).map tupN)))
def Wprod : WF := fun as post => ∃ t L, as = [.tuple (t.map tupN), .tuple ((leftsOf t (scanRows 0 t [])).map tupN)] ∧ Good t L ∧ post (.fz .none)
theorem kit_num : ∀ d : PyData, ∃ b c, kitB (tyN d) "int" = some b ∧ kitB (tyN d) "bool" = some c ∧ (b && !c) = isNum d
  | .none => ⟨false, false, (by decide +kernel : kitB "NoneType" "int" = some false), (by decide +kernel : kitB "NoneType" "bool" = some false), rfl⟩
  | .bool _ => ⟨true, true, (by decide +kernel : kitB "bool" "int" = some true), (by decide +kernel : kitB "bool" "bool" = some true), rfl⟩
  | .int _ => ⟨true, false, (by decide +kernel : kitB "int" "int" = some true), (by decide +kernel : kitB "int" "bool" = some false), rfl⟩
  | .str _ => ⟨false, false, (by decide +kernel : kitB "str" "int" = some false), (by decide +kernel : kitB "str" "bool" = some false), rfl⟩
  | .list _ => ⟨false, false, (by decide +kernel : kitB "list" "int" = some false), (by decide +kernel : kitB "list" "bool" = some false), rfl⟩
  | .tuple _ => ⟨false, false, (by decide +kernel : kitB "tuple" "int" = some false), (by decide +kernel : kitB "tuple" "bool" = some false), rfl⟩
  | .dict _ => ⟨false, false, (by decide +kernel : kitB "dict" "int" = some false), (by decide +kernel : kitB "dict" "bool" = some false), rfl⟩
theorem kit_seq : ∀ d : PyData, ∃ b c, kitB (tyN d) "list" = some b ∧ kitB (tyN d) "tuple" = some c ∧ (b || c) = isSeq d
  | .none => ⟨false, false, (by decide +kernel : kitB "NoneType" "list" = some false), (by decide +kernel : kitB "NoneType" "tuple" = some false), rfl⟩
  | .bool _ => ⟨false, false, (by decide +kernel : kitB "bool" "list" = some false), (by decide +kernel : kitB "bool" "tuple" = some false), rfl⟩
  | .int _ => ⟨false, false, (by decide +kernel : kitB "int" "list" = some false), (by decide +kernel : kitB "int" "tuple" = some false), rfl⟩
  | .str _ => ⟨false, false, (by decide +kernel : kitB "str" "list" = some false), (by decide +kernel : kitB "str" "tuple" = some false), rfl⟩
  | .list _ => ⟨true, false, (by decide +kernel : kitB "list" "list" = some true), (by decide +kernel : kitB "list" "tuple" = some false), rfl⟩
  | .tuple _ => ⟨false, true, (by decide +kernel : kitB "tuple" "list" = some false), (by decide +kernel : kitB "tuple" "tuple" = some true), rfl⟩
  | .dict _ => ⟨false, false, (by decide +kernel : kitB "dict" "list" = some false), (by decide +kernel : kitB "dict" "tuple" = some false), rfl⟩
section
variable {P : Program} {w : World} {K : PySem.W.Frag} {mg : Str → Option Value} {base : Heap}
abbrev s_is_number : Stmt := top 8
abbrev N_is_number : List Str := ["thing"]
theorem sc_is_number : FnScope N_is_number ["thing"] (defScope s_is_number) := ⟨rfl, rfl, rfl, by decide +kernel, rfl, by decide +kernel, by decide +kernel⟩

theorem ok_is_number {f : Addr} {fd : FuncData} (Fn : Fun K "is_number" "is_number" s_is_number f fd) (B : Bt mg) : FnOk P w K mg base CX0 1 f fd ["thing"] (SpF K Wnum) := by
  refine Fn.ok sc_is_number (fun vs H Q E h => ?_) (fun cdv A outer s H vs Q E hr h => ?_)
  · obtain ⟨G, ds, post, _, da, ⟨d, rfl, _⟩, _⟩ := h
    exact DpAll.len da
  · refine ⟨_, (pss_one (ps_ret (pe_and (pe_callB (call_isi' K) rfl B.b_isinstance (by decide +kernel) (pa_cons (pv 0) (pa_cons (pe_bltn (v := .ty "int") (u := .type "int") rfl B.b_int (by decide +kernel) rfl) pa_nil))) (pe_one (pe_not (pe_callB (call_isi' K) rfl B.b_isinstance (by decide +kernel) (pa_cons (pv 0) (pa_cons (pe_bltn (v := .ty "bool") (u := .type "bool") rfl B.b_bool (by decide +kernel) rfl) pa_nil)))))))), bodyF h fun F ds post hK hio hW ret => ?_⟩
    subst hK
    obtain ⟨d, rfl, k⟩ := hW
    show Rn F _ [.fz d] _
    obtain ⟨b, c, hb, hc, hbc⟩ := kit_num d
    walk_at "ev"
    refine ⟨_, _, rfl, hb, _, rfl, ?_⟩
    cases b with
    | true =>
      rw [if_pos rfl]
      walk_at "ev"
      refine ⟨_, _, rfl, hc, _, rfl, ret _ _ ?_⟩
      rw [← hbc] at k
      exact k
    | false =>
      rw [if_neg (by simp)]
      rw [← hbc] at k
      exact ret _ _ k
abbrev s_is_sequence : Stmt := top 9
abbrev N_is_sequence : List Str := ["thing"]
theorem sc_is_sequence : FnScope N_is_sequence ["thing"] (defScope s_is_sequence) := ⟨rfl, rfl, rfl, by decide +kernel, rfl, by decide +kernel, by decide +kernel⟩

theorem ok_is_sequence {f : Addr} {fd : FuncData} (Fn : Fun K "is_sequence" "is_sequence" s_is_sequence f fd) (B : Bt mg) : FnOk P w K mg base CX0 1 f fd ["thing"] (SpF K Wseq) := by
  refine Fn.ok sc_is_sequence (fun vs H Q E h => ?_) (fun cdv A outer s H vs Q E hr h => ?_)
  · obtain ⟨G, ds, post, _, da, ⟨d, rfl, _⟩, _⟩ := h
    exact DpAll.len da
  · refine ⟨_, (pss_one (ps_ret (pe_callB (call_isiT' K) rfl B.b_isinstance (by decide +kernel) (pa_cons (pv 0) (pa_cons (pe_tup (pa_cons (pe_bltn (v := .ty "list") (u := .type "list") rfl B.b_list (by decide +kernel) rfl) (pa_cons (pe_bltn (v := .ty "tuple") (u := .type "tuple") rfl B.b_tuple (by decide +kernel) rfl) pa_nil))) pa_nil))))), bodyF h fun F ds post hK hio hW ret => ?_⟩
    subst hK
    obtain ⟨d, rfl, k⟩ := hW
    show Rn F _ [.fz d] _
    obtain ⟨b, c, hb, hc, hbc⟩ := kit_seq d
    walk_at "ev"
    refine ⟨_, _, _, rfl, hb, hc, ret _ _ ?_⟩
    rw [hbc]
    exact k
abbrev s_check_form : Stmt := top 16
abbrev N_check_form : List Str := ["right", "place", "row", "number"]
theorem sc_check_form : FnScope N_check_form ["right"] (defScope s_check_form) := ⟨rfl, rfl, rfl, by decide +kernel, rfl, by decide +kernel, by decide +kernel⟩

theorem ok_check_form {f : Addr} {fd : FuncData} (Fn : Fun K "check_form" "check_form" s_check_form f fd) (B : Bt mg) (C : Ct mg) (f_is_number : Cal P w K mg base 1 "is_number" (SpF K Wnum)) (f_is_sequence : Cal P w K mg base 1 "is_sequence" (SpF K Wseq)) :
    FnOk P w K mg base CX0 2 f fd ["right"] (SpF K Wform) := by
  refine Fn.ok sc_check_form (fun vs H Q E h => ?_) (fun cdv A outer s H vs Q E hr h => ?_)
  · obtain ⟨G, ds, post, _, da, ⟨t, L, rfl, _⟩, _⟩ := h
    exact DpAll.len da
  · refine ⟨_, (pss_cons (ps_if (PW.pt (pw_or (pt_not (pt_val (pe_c f_is_sequence hr (by decide) rfl (pa_cons (pv 0) pa_nil)))) (pw_or1 (pt_not (pt_chain op_le op_le pe_int (pe_callB (call_len_seq' K) rfl B.b_len (by decide +kernel) (pa_cons (pv 0) pa_nil)) (pe_gc rfl C.g_MOST_ELEMENTS)))))) (pss_one ps_never) pss_nil)
 (pss_one (ps_for PassesOwn.never rfl (pi_enum' K rfl B.b_enumerate (pa_cons (pv 0) pa_nil)) (pg_tup' K (n := 2) rfl (pgs_cons (pg_name (i := 1) sc_check_form.nd rfl (Or.inl rfl)) (pgs_cons (pg_name (i := 2) sc_check_form.nd rfl (Or.inl rfl)) pgs_nil))) (pss_cons (ps_if (PW.pt (pw_or (pt_not (pt_val (pe_c f_is_sequence hr (by decide) rfl (pa_cons (pv 2) pa_nil)))) (pw_or (pt_not (pt_chain op_le op_le pe_int (pe_callB (call_len_seq' K) rfl B.b_len (by decide +kernel) (pa_cons (pv 2) pa_nil)) (pe_gc rfl C.g_MOST_LETTERS))) (pw_or1 (pt_cmpR op_ne (pe_callB (call_len_seq' K) rfl B.b_len (by decide +kernel) (pa_cons (pv 2) pa_nil)) (pe_callB (call_len_seq' K) rfl B.b_len (by decide +kernel) (pa_cons (pe_ix (ix_list' K) (pv 0) pe_int (fun _ _ => rfl)) pa_nil)) (nomark _)))))) (pss_one ps_never) pss_nil)
 (pss_one (ps_if (pt_not (pt_val (pe_callB (cr_all' K rfl) rfl B.b_all (by decide +kernel) (pa_cons (pe_lcv [3] (pe_lc (own := [("number", 3)]) (g := gName 3) (tt := tYes) rfl sc_check_form.nd (pi_list' K (pv 2)) (blkOk_by (own := [("number", 3)]) (N := N_check_form) (by kernel_rfl)) (fun _ _ _ _ _ => pg_name (i := 3) sc_check_form.nd rfl (Or.inl rfl)) (fun _ _ _ _ _ => pts_nil) (fun _ _ _ _ _ => (pe_and (pe_c f_is_number hr (by decide) rfl (pa_cons (pv 3) pa_nil)) (pe_one (pe_chain op_le op_lt pe_int (pv 3) (pe_callB (call_len_seq' K) rfl B.b_len (by decide +kernel) (pa_cons (pv 0) pa_nil)))))))) pa_nil)))) (pss_one ps_never) pss_nil)))))), bodyF h fun F ds post hK hio hW ret => ?_⟩
    subst hK
    obtain ⟨t, L, rfl, g, k⟩ := hW
    show Rn F _ [.fz (.list (t.map lstN)), .no, .no, .no] _
    walk_at "ev"
    refine ⟨[_], rfl, _, rfl, fun _ => ⟨_, rfl, ?_⟩⟩
    refine (if_neg (by simp [isSeq])).mpr ?_
    walk_at "ev"
    refine ⟨_, _, rfl, rfl, ?_⟩
    rw [List.length_map]
    walk_at "ev"
    have g1 := g.n1
    have g2 := g.n2
    have g3 := g.l1
    have g4 := g.l2
    rw [decide_eq_true (by omega : (1 : Int) ≤ (t.length : Int)), if_pos rfl]
    walk_at "ev"
    rw [decide_eq_true (by omega : (t.length : Int) ≤ 2000)]
    refine (if_neg (by simp)).mpr ?_
    walk_at "ev"
    obtain ⟨r0, hr0⟩ : ∃ r0, t[0]? = some r0 := ⟨_, List.getElem?_eq_getElem (by omega)⟩
    have lr0 : r0.length = L := g.rl r0 (List.mem_of_getElem? hr0)
    refine rn_for (iw_enum ?_)
    walk_at "ev"
    refine ⟨fun i δ' => ∃ s1 s2, δ' = [.fz (.list (t.map lstN)), s1, s2, .no], ⟨_, _, rfl⟩, ?_, ?_⟩
    · rintro F' i d δ' N hle hd ⟨s1, s2, rfl⟩ hN
      rw [← hle.k]
      have hio' : F'.io = [] := hle.io.trans hio
      rw [enumD_get, List.getElem?_map] at hd
      cases hr : t[i]? with
      | none => rw [hr] at hd; simp at hd
      | some r =>
        rw [hr] at hd
        have hd' : d = .tuple [.int ((0 + i : Nat) : Int), lstN r] := by simpa using hd.symm
        subst hd'
        have lr : r.length = L := g.rl r (List.mem_of_getElem? hr)
        walk_at "ev"
        refine ⟨[_], rfl, _, rfl, fun _ => ⟨_, rfl, ?_⟩⟩
        refine (if_neg (by simp [isSeq, lstN])).mpr ?_
        walk_at "ev"
        refine b_lenL (ds := r.map intN) ?_
        refine ⟨_, _, rfl, rfl, ?_⟩
        rw [List.length_map, lr]
        walk_at "ev"
        rw [decide_eq_true (by omega : (1 : Int) ≤ (L : Int)), if_pos rfl]
        walk_at "ev"
        rw [decide_eq_true (by omega : (L : Int) ≤ 6)]
        refine (if_neg (by simp)).mpr ?_
        walk_at "ev"
        refine b_lenL (ds := r.map intN) ?_
        rw [List.length_map, lr]
        walk_at "ev"
        refine o_ixL (atI_nat (j := 0) (v := lstN r0) (by rw [List.getElem?_map, hr0]; rfl)) ?_
        refine b_lenL (ds := r0.map intN) ?_
        rw [List.length_map, lr0]
        walk_at "ev"
        rw [decide_eq_true (rfl : (L : Int) = L)]
        refine (if_neg (by simp)).mpr ?_
        walk_at "ev"
        refine ev_lc (iw_list ?_)
        walk_at "ev"
        refine ⟨rfl, (by rw [List.length_map]; omega), fun j acc δ' => acc = (List.replicate j true).map PyData.bool ∧ δ' = [.fz (.list (t.map lstN)), .fz (intN i), .fz (lstN r), .no], ⟨rfl, by simp⟩, ?_, ?_, ?_⟩
        · rintro j acc δ' ⟨rfl, rfl⟩
          exact ⟨rfl, by simp⟩
        · rintro F3 j d acc δ' hle3 hd3 ⟨rfl, rfl⟩
          rw [← hle3.k]
          rw [List.getElem?_map] at hd3
          obtain ⟨o, ho, rfl⟩ := Option.map_eq_some_iff.mp hd3
          have hon : o < t.length := g.en r (List.mem_of_getElem? hr) o (List.mem_of_getElem? ho)
          walk_at "ev"
          refine ⟨[_], rfl, _, rfl, fun _ => ⟨_, rfl, ?_⟩⟩
          refine (if_pos (by simp [isNum])).mpr ?_
          walk_at "ev"
          refine ⟨_, _, rfl, rfl, ?_⟩
          walk_at "ev"
          rw [decide_eq_true (by omega : (0 : Int) ≤ (o : Int)), if_pos rfl]
          walk_at "ev"
          trace_state
          rw [List.length_map, decide_eq_true (by omega : (o : Int) < (t.length : Int))]
          refine ⟨?_, rfl⟩
          rw [List.replicate_succ', List.map_append]
          rfl
        · rintro acc δ' q hq ⟨rfl, rfl⟩
          refine b_all .ol ?_
          have e : (List.replicate (r.map intN).length true).all id = true := by simp
          rw [e]
          walk_at "ev"
          exact hN _ ⟨_, _, rfl⟩
    · rintro δ' ⟨s1, s2, rfl⟩
      exact fun G H σ s => ret _ _ k .non G H σ (s.push rfl .non)
end
end My

namespace My
open PySem L2 SL Mt
local macro_rules | `(tactic| walk_at "e1") => `(tactic| first
  | with_reducible refine nx_seq ?_ | with_reducible refine rn_seq ?_
  | with_reducible refine rn_set ?_ | with_reducible refine rn_ret ?_ | with_reducible refine rn_if ?_ | with_reducible refine rn_drop ?_ | with_reducible refine rn_next ?_
  | with_reducible refine ev_int ?_ | with_reducible refine ev_str ?_ | with_reducible refine ev_bl ?_ | with_reducible refine ev_non ?_
  | ((with_reducible refine' ev_fz ?vv ?_); (case vv => exact rfl))
  | ((with_reducible refine' ev_ol ?vv ?_); (case vv => exact rfl))
  | ((with_reducible refine' ev_al ?vv ?_); (case vv => exact rfl))
  | with_reducible refine ev_op ?_ | with_reducible refine ev_un ?_
  | with_reducible refine o_int ?_ | with_reducible refine o_bl ?_ | with_reducible refine u_int ?_
  | with_reducible refine o_eqI ?_ | with_reducible refine o_neI ?_ | with_reducible refine o_eqS ?_ | with_reducible refine o_neS ?_
  | with_reducible refine ev_isi ?_ | with_reducible refine ev_isi2 ?_ | with_reducible refine ev_cb ?_ | with_reducible refine a_one ?_ | with_reducible refine a_cons ?_ | with_reducible refine a_nil ?_
  | with_reducible refine b_abs ?_ | with_reducible refine b_int ?_ | with_reducible refine b_intb ?_
  | with_reducible refine b_lenL ?_ | with_reducible refine b_lenT ?_
  | with_reducible refine b_tupO ?_ | with_reducible refine b_tupL ?_ | with_reducible refine b_tupT ?_ | with_reducible refine t_yes ?_ | with_reducible refine iteT ?_ | with_reducible refine iteF ?_
  | with_reducible refine t_test ?_ | with_reducible refine t_B ?_ | with_reducible refine t_not ?_ | with_reducible refine t_and ?_ | with_reducible refine t_or ?_
  | with_reducible refine ev_lst ?_ | with_reducible refine ev_tup ?_ | with_reducible refine ev_callM ?_ | with_reducible refine ev_callF ?_ | with_reducible refine rn_setL ?_ | with_reducible refine rn_setDT ?_ | with_reducible refine rn_asg ?_ | ((with_reducible refine' ga_tup ?vv ?_); (case vv => exact rfl)) | with_reducible refine gas_nil ?_ | ((with_reducible refine' gas_name ?vv ?_); (case vv => exact rfl)) | ((with_reducible refine' rn_asgN ?vv ?_); (case vv => exact rfl))
  | with_reducible refine rn_par3 ?_ | with_reducible refine rn_par ?_ | with_reducible refine ev_tupRg ?_ | with_reducible refine ev_listRg ?_ | with_reducible refine ev_disp1T ?_ | with_reducible refine ev_dgetT ?_ | with_reducible refine ev_dnotinT ?_
  | with_reducible refine ev_append ?_ | with_reducible refine ev_extend ?_ | with_reducible refine ev_reverse ?_ | with_reducible refine ev_revL ?_
  | with_reducible refine ev_chain ?_ | with_reducible refine ev_and ?_ | with_reducible refine ev_or ?_ | with_reducible refine ev_not ?_ | with_reducible refine ev_if ?_
  | ((with_reducible refine' ev_oi ?vv ?_); (case vv => exact rfl)) | ((with_reducible refine' ev_ot ?vv ?_); (case vv => exact rfl)) | ((with_reducible refine' ev_od ?vv ?_); (case vv => exact rfl))
  | refine ⟨_, rfl, ?_⟩)
local macro_rules | `(tactic| walk_at "ev") => `(tactic| repeat (walk_at "e1"))

theorem enum_item {ds : List PyData} {i : Nat} {d : PyData} (h : (enumD 0 ds)[i]? = some d) : ∃ e, ds[i]? = some e ∧ d = .tuple [intN i, e] := by
  rw [enumD_get] at h
  cases hr : ds[i]? with
  | none => rw [hr] at h; simp at h
  | some e =>
    rw [hr] at h
    exact ⟨e, rfl, by simpa [intN] using h.symm⟩
theorem map_item {α : Type} {f : α → PyData} {l : List α} {i : Nat} {d : PyData} (h : (l.map f)[i]? = some d) : ∃ x, l[i]? = some x ∧ d = f x := by
  rw [List.getElem?_map] at h
  obtain ⟨x, hx, rfl⟩ := Option.map_eq_some_iff.mp h
  exact ⟨x, hx, rfl⟩
theorem map_get {α : Type} {f : α → PyData} {l : List α} {i : Nat} {x : α} (h : l[i]? = some x) : (l.map f)[i]? = some (f x) := by
  rw [List.getElem?_map, h]; rfl
section
variable {P : Program} {w : World} {K : PySem.W.Frag} {mg : Str → Option Value} {base : Heap}
abbrev s_check_order : Stmt := top 17
abbrev N_check_order : List Str := ["right", "met", "number", "row", "other"]
theorem sc_check_order : FnScope N_check_order ["right"] (defScope s_check_order) := ⟨rfl, rfl, rfl, by decide +kernel, rfl, by decide +kernel, by decide +kernel⟩

theorem ok_check_order {f : Addr} {fd : FuncData} (Fn : Fun K "check_order" "check_order" s_check_order f fd) (B : Bt mg) : FnOk P w K mg base CX0 1 f fd ["right"] (SpF K Worder) := by
  refine Fn.ok sc_check_order (fun vs H Q E h => ?_) (fun cdv A outer s H vs Q E hr h => ?_)
  · obtain ⟨G, ds, post, _, da, ⟨t, rfl, _⟩, _⟩ := h
    exact DpAll.len da
  · refine ⟨_, (pss_cons (ps_set (i := 1) sc_check_order.nd rfl (Or.inl rfl) pe_int)
 (pss_one (ps_for PassesOwn.never rfl (pi_enumT' K rfl B.b_enumerate (pa_cons (pv 0) pa_nil)) (pg_tup' K (n := 2) rfl (pgs_cons (pg_name (i := 2) sc_check_order.nd rfl (Or.inl rfl)) (pgs_cons (pg_name (i := 3) sc_check_order.nd rfl (Or.inl rfl)) pgs_nil))) (pss_cons (ps_if (pt_cmpR op_ge (pv 2) (pv 1) (nomark _)) (pss_one ps_never) pss_nil)
 (pss_one (ps_for PassesOwn.never rfl (pi_tup' K (pv 3)) (pg_name (i := 4) sc_check_order.nd rfl (Or.inl rfl)) (pss_cons (ps_if (pt_cmpR op_gt (pv 4) (pv 1) (nomark _)) (pss_one ps_never) pss_nil)
 (pss_one (ps_set (i := 1) sc_check_order.nd rfl (Or.inl rfl) (pe_op op_add (pv 1) (pe_callTy call_int1' rfl B.b_int (by decide +kernel) (pa_cons (pe_cmpR op_eq (pv 4) (pv 1) (nomark _)) pa_nil)))))))))))), bodyF h fun F ds post hK hio hW ret => ?_⟩
    subst hK
    obtain ⟨t, rfl, g, k⟩ := hW
    show Rn F _ [.fz (.tuple (t.map tupN)), .no, .no, .no, .no] _
    walk_at "ev"
    refine rn_for (iw_enumT ?_)
    walk_at "ev"
    refine ⟨fun i δ' => ∃ (tr : List (Nat × Nat)) (s2 s3 s4 : SD), ordRows i (t.drop i) tr ∧ δ' = [.fz (.tuple (t.map tupN)), .fz (intN (tr.length + 1)), s2, s3, s4], ⟨[], _, _, _, g, rfl⟩, ?_, ?_⟩
    · rintro F' i d δ' N hle hd ⟨tr, s2, s3, s4, ho, rfl⟩ hN
      try rw [← hle.k]
      obtain ⟨e, he, rfl⟩ := enum_item hd
      obtain ⟨r, hr, rfl⟩ := map_item he
      rw [drop_get hr] at ho
      obtain ⟨o1, o2, o3⟩ := ho
      walk_at "ev"
      rw [decide_eq_false (by omega : ¬ ((tr.length + 1 : Nat) : Int) ≤ (i : Int))]
      refine (if_neg (by simp)).mpr ?_
      walk_at "ev"
      refine rn_for (iw_tup ?_)
      walk_at "ev"
      refine ⟨fun j δ' => ∃ (tr2 : List (Nat × Nat)) (s4 : SD), ordRow i j (r.drop j) tr2 ∧ scanRow i j (r.drop j) tr2 = scanRow i 0 r tr ∧ δ' = [.fz (.tuple (t.map tupN)), .fz (intN (tr2.length + 1)), .fz (intN i), .fz (tupN r), s4], ⟨tr, _, o2, rfl, rfl⟩, ?_, ?_⟩
      · rintro F2 j d δ' N2 hle2 hd2 ⟨tr2, s4, h1, h2, rfl⟩ hN2
        try rw [← hle2.k]
        obtain ⟨o, ho, rfl⟩ := map_item hd2
        rw [drop_get ho] at h1 h2
        obtain ⟨h3, h4⟩ := h1
        refine rn_asgN (i := 4) rfl ?_
        walk_at "ev"
        rw [decide_eq_false (by omega : ¬ ((tr2.length + 1 : Nat) : Int) < (o : Int))]
        refine (if_neg (by simp)).mpr ?_
        walk_at "ev"
        refine hN2 _ ⟨stp o i j tr2, .fz (intN o), h4, h2, ?_⟩
        have e : (((tr2.length + 1 : Nat) : Int) + (if decide ((o : Int) = ((tr2.length + 1 : Nat) : Int)) = true then 1 else 0)) = (((stp o i j tr2).length + 1 : Nat) : Int) := by
          by_cases h : o = tr2.length + 1
          · rw [stp_new h, if_pos (by simp [h])]; simp
          · rw [stp_old h, if_neg (by simp; omega)]; simp
        rw [e]
        rfl
      · rintro δ' ⟨tr2, s4, h1, h2, rfl⟩
        have e : r.drop (r.map intN).length = [] := by rw [List.length_map, List.drop_length]
        rw [e] at h2
        have h2' : tr2 = scanRow i 0 r tr := h2
        subst h2'
        exact hN _ ⟨_, _, _, _, o3, rfl⟩
    · rintro δ' ⟨tr, s2, s3, s4, _, rfl⟩
      exact fun G H σ s => ret _ _ k .non G H σ (s.push rfl .non)
abbrev s_tree_of : Stmt := top 18
abbrev N_tree_of : List Str := ["right", "found", "number", "row", "letter", "other"]
theorem sc_tree_of : FnScope N_tree_of ["right"] (defScope s_tree_of) := ⟨rfl, rfl, rfl, by decide +kernel, rfl, by decide +kernel, by decide +kernel⟩

theorem ok_tree_of {f : Addr} {fd : FuncData} (Fn : Fun K "tree_of" "tree_of" s_tree_of f fd) (B : Bt mg) : FnOk P w K mg base CX0 1 f fd ["right"] (SpF K Wtree) := by
  refine Fn.ok sc_tree_of (fun vs H Q E h => ?_) (fun cdv A outer s H vs Q E hr h => ?_)
  · obtain ⟨G, ds, post, _, da, ⟨t, L, rfl, _⟩, _⟩ := h
    exact DpAll.len da
  · refine ⟨_, (pss_cons (ps_set (i := 1) sc_tree_of.nd rfl (Or.inl rfl) (pe_lst (pa_cons pe_non pa_nil)))
 (pss_cons (ps_for PassesOwn.never rfl (pi_enumT' K rfl B.b_enumerate (pa_cons (pv 0) pa_nil)) (pg_tup' K (n := 2) rfl (pgs_cons (pg_name (i := 2) sc_tree_of.nd rfl (Or.inl rfl)) (pgs_cons (pg_name (i := 3) sc_tree_of.nd rfl (Or.inl rfl)) pgs_nil))) (pss_one (ps_for PassesOwn.never rfl (pi_enumT' K rfl B.b_enumerate (pa_cons (pv 3) pa_nil)) (pg_tup' K (n := 2) rfl (pgs_cons (pg_name (i := 4) sc_tree_of.nd rfl (Or.inl rfl)) (pgs_cons (pg_name (i := 5) sc_tree_of.nd rfl (Or.inl rfl)) pgs_nil))) (pss_one (ps_if (pt_cmpR op_eq (pv 5) (pe_callB (call_len_seq' K) rfl B.b_len (by decide +kernel) (pa_cons (pv 1) pa_nil)) (nomark _)) (pss_one (ps_expr (pe_bm' K PySem.F.plainAttrs_list PySem.F.slot_list_append PySem.F.type_list_append mt_append (pv 1) (pa_cons (pe_tup (pa_cons (pv 2) (pa_cons (pv 4) pa_nil))) pa_nil)))) pss_nil)))))
 (pss_one (ps_ret (pv 1))))), bodyF h fun F ds post hK hio hW ret => ?_⟩
    subst hK
    obtain ⟨t, L, rfl, g, k⟩ := hW
    have gl := g.len
    have g2 := g.n2
    show Rn F _ [.fz (.tuple (t.map tupN)), .no, .no, .no, .no, .no] _
    walk_at "ev"
    refine ⟨[_], rfl, (by show 1 ≤ sizeLine; decide), fun p hp => ?_⟩
    walk_at "ev"
    refine rn_for (iw_enumT ?_)
    walk_at "ev"
    refine ⟨fun i δ' => ∃ (tr : List (Nat × Nat)) (s2 s3 s4 s5 : SD), scanRows i (t.drop i) tr = scanRows 0 t [] ∧ δ' = [.fz (.tuple (t.map tupN)), .ol p (.none :: tr.map pairN), s2, s3, s4, s5], ⟨[], _, _, _, _, rfl, rfl⟩, ?_, ?_⟩
    · rintro F' i d δ' N hle hd ⟨tr, s2, s3, s4, s5, ho, rfl⟩ hN
      try rw [← hle.k]
      obtain ⟨e, he, rfl⟩ := enum_item hd
      obtain ⟨r, hr, rfl⟩ := map_item he
      rw [drop_get hr] at ho
      simp only [scanRows] at ho
      walk_at "ev"
      refine rn_for (iw_enumT ?_)
      walk_at "ev"
      refine ⟨fun j δ' => ∃ (tr2 : List (Nat × Nat)) (s4 s5 : SD), scanRow i j (r.drop j) tr2 = scanRow i 0 r tr ∧ δ' = [.fz (.tuple (t.map tupN)), .ol p (.none :: tr2.map pairN), .fz (intN i), .fz (tupN r), s4, s5], ⟨tr, _, _, rfl, rfl⟩, ?_, ?_⟩
      · rintro F2 j d δ' N2 hle2 hd2 ⟨tr2, s4, s5, h2, rfl⟩ hN2
        try rw [← hle2.k]
        obtain ⟨e, he, rfl⟩ := enum_item hd2
        obtain ⟨o, ho2, rfl⟩ := map_item he
        rw [drop_get ho2] at h2
        have hlen : tr2.length ≤ 2000 := by
          have a1 := scanRow_le i (o :: r.drop (j + 1)) j tr2
          have a2 := scanRows_le (t.drop (i + 1)) (i + 1) (scanRow i 0 r tr)
          rw [h2] at a1
          rw [ho] at a2
          omega
        walk_at "ev"
        refine b_len (.al 1 rfl) ?_
        walk_at "ev"
        have el : ((PyData.none :: tr2.map pairN).length : Int) = ((tr2.length + 1 : Nat) : Int) := by simp
        rw [el]
        simp only [scanRow] at h2
        by_cases h : o = tr2.length + 1
        · rw [stp_new h] at h2
          refine (if_pos (by simp [h])).mpr ?_
          walk_at "ev"
          refine ⟨p, 1, _, rfl, rfl, ?_⟩
          walk_at "ev"
          refine ⟨[_, _], rfl, (by show 2 ≤ sizeLine; decide), ?_⟩
          refine ⟨_, _, rfl, rfl, by simp; omega, ?_⟩
          refine hN2 _ ⟨tr2 ++ [(i, j)], .fz (intN j), .fz (intN o), h2, ?_⟩
          rw [List.map_append]
          rfl
        · rw [stp_old h] at h2
          refine (if_neg (by simp; omega)).mpr ?_
          walk_at "ev"
          exact hN2 _ ⟨tr2, .fz (intN j), .fz (intN o), h2, rfl⟩
      · rintro δ' ⟨tr2, s4, s5, h2, rfl⟩
        have e : r.drop (enumD 0 (r.map intN)).length = [] := by rw [enumD_len, List.length_map, List.drop_length]
        rw [e] at h2
        have h2' : tr2 = scanRow i 0 r tr := h2
        subst h2'
        exact hN _ ⟨_, _, _, _, _, ho, rfl⟩
    · rintro δ' ⟨tr, s2, s3, s4, s5, ho, rfl⟩
      have e : t.drop (enumD 0 (t.map tupN)).length = [] := by rw [enumD_len, List.length_map, List.drop_length]
      rw [e] at ho
      have h2' : tr = scanRows 0 t [] := ho
      subst h2'
      refine nx_seq ?_
      refine rn_ret (ev_mv (i := 1) rfl (by simp) ?_)
      exact ret _ _ (k p)
end
end My

namespace My
open PySem L2 SL Mt
local macro_rules | `(tactic| walk_at "e1") => `(tactic| first
  | with_reducible refine nx_seq ?_ | with_reducible refine rn_seq ?_
  | with_reducible refine rn_set ?_ | with_reducible refine rn_ret ?_ | with_reducible refine rn_if ?_ | with_reducible refine rn_drop ?_ | with_reducible refine rn_next ?_
  | with_reducible refine ev_int ?_ | with_reducible refine ev_str ?_ | with_reducible refine ev_bl ?_ | with_reducible refine ev_non ?_
  | ((with_reducible refine' ev_fz ?vv ?_); (case vv => exact rfl))
  | ((with_reducible refine' ev_ol ?vv ?_); (case vv => exact rfl))
  | ((with_reducible refine' ev_al ?vv ?_); (case vv => exact rfl))
  | with_reducible refine ev_op ?_ | with_reducible refine ev_un ?_
  | with_reducible refine o_int ?_ | with_reducible refine o_bl ?_ | with_reducible refine u_int ?_
  | with_reducible refine o_eqI ?_ | with_reducible refine o_neI ?_ | with_reducible refine o_eqS ?_ | with_reducible refine o_neS ?_
  | with_reducible refine ev_isi ?_ | with_reducible refine ev_isi2 ?_ | with_reducible refine ev_cb ?_ | with_reducible refine a_one ?_ | with_reducible refine a_cons ?_ | with_reducible refine a_nil ?_
  | with_reducible refine b_abs ?_ | with_reducible refine b_int ?_ | with_reducible refine b_intb ?_
  | with_reducible refine b_lenL ?_ | with_reducible refine b_lenT ?_
  | with_reducible refine b_tupO ?_ | with_reducible refine b_tupL ?_ | with_reducible refine b_tupT ?_ | with_reducible refine t_yes ?_ | with_reducible refine iteT ?_ | with_reducible refine iteF ?_
  | with_reducible refine t_test ?_ | with_reducible refine t_B ?_ | with_reducible refine t_not ?_ | with_reducible refine t_and ?_ | with_reducible refine t_or ?_
  | with_reducible refine ev_lst ?_ | with_reducible refine ev_tup ?_ | with_reducible refine ev_callM ?_ | with_reducible refine ev_callF ?_ | with_reducible refine rn_setL ?_ | with_reducible refine rn_setDT ?_ | with_reducible refine rn_asg ?_ | ((with_reducible refine' ga_tup ?vv ?_); (case vv => exact rfl)) | with_reducible refine gas_nil ?_ | ((with_reducible refine' gas_name ?vv ?_); (case vv => exact rfl)) | ((with_reducible refine' rn_asgN ?vv ?_); (case vv => exact rfl))
  | with_reducible refine rn_par3 ?_ | with_reducible refine rn_par ?_ | with_reducible refine ev_tupRg ?_ | with_reducible refine ev_listRg ?_ | with_reducible refine ev_disp1T ?_ | with_reducible refine ev_dgetT ?_ | with_reducible refine ev_dnotinT ?_
  | with_reducible refine ev_append ?_ | with_reducible refine ev_extend ?_ | with_reducible refine ev_reverse ?_ | with_reducible refine ev_revL ?_
  | with_reducible refine ev_chain ?_ | with_reducible refine ev_and ?_ | with_reducible refine ev_or ?_ | with_reducible refine ev_not ?_ | with_reducible refine ev_if ?_
  | ((with_reducible refine' ev_oi ?vv ?_); (case vv => exact rfl)) | ((with_reducible refine' ev_ot ?vv ?_); (case vv => exact rfl)) | ((with_reducible refine' ev_od ?vv ?_); (case vv => exact rfl))
  | refine ⟨_, rfl, ?_⟩)
local macro_rules | `(tactic| walk_at "ev") => `(tactic| repeat (walk_at "e1"))

section
variable {P : Program} {w : World} {K : PySem.W.Frag} {mg : Str → Option Value} {base : Heap}
abbrev s_left_of : Stmt := top 19
abbrev N_left_of : List Str := ["right", "tree", "found", "ahead", "letter", "number"]
theorem sc_left_of : FnScope N_left_of ["right", "tree"] (defScope s_left_of) := ⟨rfl, rfl, rfl, by decide +kernel, rfl, by decide +kernel, by decide +kernel⟩

theorem ok_left_of {f : Addr} {fd : FuncData} (Fn : Fun K "left_of" "left_of" s_left_of f fd) (B : Bt mg) : FnOk P w K mg base CX0 1 f fd ["right", "tree"] (SpF K Wleft) := by
  refine Fn.ok sc_left_of (fun vs H Q E h => ?_) (fun cdv A outer s H vs Q E hr h => ?_)
  · obtain ⟨G, ds, post, _, da, ⟨t, L, rfl, _⟩, _⟩ := h
    exact DpAll.len da
  · refine ⟨_, (pss_cons (ps_set (i := 2) sc_left_of.nd rfl (Or.inl rfl) (pe_lst (pa_cons (pe_callTy (call_tuple_of' K) rfl B.b_tuple (by decide +kernel) (pa_cons (pe_ix (ix_tup' K) (pv 0) pe_int (fun _ _ => rfl)) pa_nil)) pa_nil)))
 (pss_cons (ps_for PassesOwn.never rfl (pi_list' K (pe_slice (sl_list' K) (pv 1) (po_some pe_int) po_none)) (pg_tup' K (n := 2) rfl (pgs_cons (pg_name (i := 3) sc_left_of.nd rfl (Or.inl rfl)) (pgs_cons (pg_name (i := 4) sc_left_of.nd rfl (Or.inr rfl)) pgs_nil))) (pss_one (ps_expr (pe_bm' K PySem.F.plainAttrs_list PySem.F.slot_list_append PySem.F.type_list_append mt_append (pv 2) (pa_cons (pe_callTy (call_tuple_of' K) rfl B.b_tuple (by decide +kernel) (pa_cons (pe_lcv [5] (pe_lc (own := [("number", 5)]) (g := gName 5) (tt := tYes) rfl sc_left_of.nd (pi_tup' K (pe_ix (ix_list' K) (pv 2) (pv 3) (fun _ _ => rfl))) (blkOk_by (own := [("number", 5)]) (N := N_left_of) (by kernel_rfl)) (fun _ _ _ _ _ => pg_name (i := 5) sc_left_of.nd rfl (Or.inl rfl)) (fun _ _ _ _ _ => pts_nil) (fun _ _ _ _ _ => (pe_ix (ix_tup' K) (pe_ix (ix_tup' K) (pv 0) (pv 5) (fun _ _ => rfl)) (pv 4) (fun _ _ => rfl))))) pa_nil)) pa_nil)))))
 (pss_one (ps_ret (pe_callTy (call_tuple_of' K) rfl B.b_tuple (by decide +kernel) (pa_cons (pv 2) pa_nil)))))), bodyF h fun F ds post hK hio hW ret => ?_⟩
    subst hK
    obtain ⟨t, L, rfl, g, k⟩ := hW
    have gl := g.len
    have g1 := g.n1
    have g2 := g.n2
    have g3 := g.l2
    generalize htr : scanRows 0 t [] = tr at *
    show Rn F _ [.fz (.tuple (t.map tupN)), .fz (.list (.none :: tr.map pairN)), .no, .no, .no, .no] _
    obtain ⟨r0, hr0⟩ : ∃ r0, t[0]? = some r0 := ⟨_, List.getElem?_eq_getElem (by omega)⟩
    walk_at "ev"
    refine o_ixT (atI_nat (j := 0) (v := tupN r0) (map_get hr0)) ?_
    walk_at "ev"
    refine b_tupT (ds := r0.map intN) ?_
    refine ⟨[_], rfl, (by show 1 ≤ sizeLine; decide), fun p hp => ?_⟩
    walk_at "ev"
    refine rn_for (iw_listO (ev_from (i := 1) ?_))
    walk_at "ev"
    refine ⟨_, .fz, fun q hq => ⟨q, _, hq, rfl, fun i δ' => ∃ (s3 s4 : SD), i ≤ tr.length ∧ δ' = [.fz (.tuple (t.map tupN)), .fz (.list (.none :: tr.map pairN)), .ol p ((leftsOf t (tr.take i)).map tupN), s3, s4, .no], ⟨.no, .no, Nat.zero_le _, ?_⟩, ?_, ?_⟩⟩
    · rw [List.take_zero]
      have : (leftsOf t []).map tupN = [PyData.tuple (r0.map intN)] := by simp [leftsOf, List.getD_eq_getElem?_getD, hr0, tupN]
      rw [this]
      rfl
    · rintro F' i d δ' N hle hd ⟨s3, s4, hi, rfl⟩ hN
      try rw [← hle.k]
      obtain ⟨⟨a, l⟩, hp2, rfl⟩ := map_item (l := tr) (f := pairN) hd
      have hlt : i < tr.length := (List.getElem?_eq_some_iff.mp hp2).1
      obtain ⟨c1, c2, c3⟩ := g.tree (k := i) (a := a) (l := l) (by rw [htr]; exact hp2)
      have hla : a < (leftsOf t (tr.take i)).length := by rw [leftsOf_len, List.length_take]; omega
      have hq2 : (leftsOf t (tr.take i))[a]? = some (leftsOf t (tr.take i))[a] := List.getElem?_eq_getElem hla
      obtain ⟨d1, d2⟩ := g.lefts _ (tr.take i) rfl (tr.drop i) (by rw [htr, List.take_append_drop]) _ (List.mem_of_getElem? hq2)
      generalize (leftsOf t (tr.take i))[a] = qa at hq2 d1 d2
      unfold pairN
      walk_at "ev"
      refine ⟨p, 2, _, rfl, rfl, ?_⟩
      walk_at "ev"
      refine ev_lc (iw_tup ?_)
      walk_at "ev"
      refine o_ix (.al 2 rfl) (atI_nat (j := a) (v := tupN qa) (map_get hq2)) ?_
      refine ⟨_, rfl, rfl, (by rw [List.length_map, d1]; omega), fun j acc δ' => acc = ((qa.take j).map fun x => intN (colR t l x)) ∧
        δ' = [.fz (.tuple (t.map tupN)), .fz (.list (.none :: tr.map pairN)), .ol p ((leftsOf t (tr.take i)).map tupN), .fz (intN a), .fz (intN l), .no], ⟨by simp, rfl⟩, ?_, ?_, ?_⟩
      · rintro j acc δ' ⟨rfl, rfl⟩
        exact ⟨rfl, by simp; omega⟩
      · rintro F3 j d acc δ' hle3 hd3 ⟨rfl, rfl⟩
        try rw [← hle3.k]
        obtain ⟨x, hx, rfl⟩ := map_item hd3
        obtain ⟨rx, e1, e2, _⟩ := g.col (d2 x (List.mem_of_getElem? hx)) c2
        walk_at "ev"
        refine o_ixT (atI_nat (j := x) (v := tupN rx) (map_get e1)) ?_
        walk_at "ev"
        refine o_ixT (ds := rx.map intN) (atI_nat (j := l) (v := intN (colR t l x)) (map_get e2)) ?_
        refine ⟨_, rfl, _, rfl, ?_, rfl⟩
        rw [List.take_succ, hx]
        simp
      · rintro acc δ' q2 hq2' ⟨rfl, rfl⟩
        refine b_tupO ?_
        refine ⟨_, _, rfl, rfl, by rw [List.length_map, leftsOf_len, List.length_take]; omega, ?_⟩
        refine hN _ ⟨.fz (intN a), .fz (intN l), by omega, ?_⟩
        have e1 : tr.take (i + 1) = tr.take i ++ [(a, l)] := by rw [List.take_succ, hp2]; rfl
        rw [e1, leftsOf_snoc, List.map_append]
        have e2 : (leftsOf t (tr.take i)).getD a [] = qa := by rw [List.getD_eq_getElem?_getD, hq2]; rfl
        rw [e2, List.length_map, List.take_length]
        have e3 : [tupN (qa.map (colR t l))] = [PyData.tuple (qa.map fun x => intN (colR t l x))] := by
          unfold tupN
          rw [List.map_map]
          rfl
        simp only [List.map_cons, List.map_nil]
        rw [e3]
        rfl
    · rintro δ' ⟨s3, s4, hi, rfl⟩
      refine nx_seq ?_
      walk_at "ev"
      have e : tr.take (List.drop 1 (PyData.none :: tr.map pairN)).length = tr := by
        show tr.take (tr.map pairN).length = tr
        rw [List.length_map, List.take_length]
      rw [e]
      refine b_tup (.al 2 rfl) ?_
      exact ret _ _ k
abbrev s_check_products : Stmt := top 20
abbrev N_check_products : List Str := ["right", "left", "number", "row", "letter", "other", "one"]
theorem sc_check_products : FnScope N_check_products ["right", "left"] (defScope s_check_products) := ⟨rfl, rfl, rfl, by decide +kernel, rfl, by decide +kernel, by decide +kernel⟩

theorem ok_check_products {f : Addr} {fd : FuncData} (Fn : Fun K "check_products" "check_products" s_check_products f fd) (B : Bt mg) : FnOk P w K mg base CX0 1 f fd ["right", "left"] (SpF K Wprod) := by
  refine Fn.ok sc_check_products (fun vs H Q E h => ?_) (fun cdv A outer s H vs Q E hr h => ?_)
  · obtain ⟨G, ds, post, _, da, ⟨t, L, rfl, _⟩, _⟩ := h
    exact DpAll.len da
  · refine ⟨_, (pss_one (ps_for PassesOwn.never rfl (pi_enumT' K rfl B.b_enumerate (pa_cons (pv 0) pa_nil)) (pg_tup' K (n := 2) rfl (pgs_cons (pg_name (i := 2) sc_check_products.nd rfl (Or.inl rfl)) (pgs_cons (pg_name (i := 3) sc_check_products.nd rfl (Or.inl rfl)) pgs_nil))) (pss_one (ps_for PassesOwn.never rfl (pi_enumT' K rfl B.b_enumerate (pa_cons (pv 3) pa_nil)) (pg_tup' K (n := 2) rfl (pgs_cons (pg_name (i := 4) sc_check_products.nd rfl (Or.inr rfl)) (pgs_cons (pg_name (i := 5) sc_check_products.nd rfl (Or.inl rfl)) pgs_nil))) (pss_one (ps_if (pt_cmpR (op_neD' K hr.units) (pe_ix (ix_tup' K) (pv 1) (pv 5) (fun _ _ => rfl)) (pe_callTy (call_tuple_of' K) rfl B.b_tuple (by decide +kernel) (pa_cons (pe_lcv [6] (pe_lc (own := [("one", 6)]) (g := gName 6) (tt := tYes) rfl sc_check_products.nd (pi_tup' K (pe_ix (ix_tup' K) (pv 1) (pv 2) (fun _ _ => rfl))) (blkOk_by (own := [("one", 6)]) (N := N_check_products) (by kernel_rfl)) (fun _ _ _ _ _ => pg_name (i := 6) sc_check_products.nd rfl (Or.inl rfl)) (fun _ _ _ _ _ => pts_nil) (fun _ _ _ _ _ => (pe_ix (ix_tup' K) (pe_ix (ix_tup' K) (pv 0) (pv 6) (fun _ _ => rfl)) (pv 4) (fun _ _ => rfl))))) pa_nil)) (nomark _)) (pss_one ps_never) pss_nil)))))), bodyF h fun F ds post hK hio hW ret => ?_⟩
    subst hK
    obtain ⟨t, L, rfl, g, k⟩ := hW
    have g3 := g.l2
    have gpr := g.pr
    have glf := fun (k : Nat) (hk : k < t.length) => g.left hk
    generalize hls : leftsOf t (scanRows 0 t []) = ls at *
    show Rn F _ [.fz (.tuple (t.map tupN)), .fz (.tuple (ls.map tupN)), .no, .no, .no, .no, .no] _
    refine rn_for (iw_enumT ?_)
    walk_at "ev"
    refine ⟨fun i δ' => ∃ (s2 s3 s4 s5 : SD), δ' = [.fz (.tuple (t.map tupN)), .fz (.tuple (ls.map tupN)), s2, s3, s4, s5, .no], ⟨_, _, _, _, rfl⟩, ?_, ?_⟩
    · rintro F' i d δ' N hle hd ⟨s2, s3, s4, s5, rfl⟩ hN
      try rw [← hle.k]
      obtain ⟨e, he, rfl⟩ := enum_item hd
      obtain ⟨r, hr, rfl⟩ := map_item he
      obtain ⟨qi, hqi, lqi, eqi⟩ := glf i (List.getElem?_eq_some_iff.mp hr).1
      walk_at "ev"
      refine rn_for (iw_enumT ?_)
      walk_at "ev"
      refine ⟨fun j δ' => ∃ (s4 s5 : SD), δ' = [.fz (.tuple (t.map tupN)), .fz (.tuple (ls.map tupN)), .fz (intN i), .fz (tupN r), s4, s5, .no], ⟨_, _, rfl⟩, ?_, ?_⟩
      · rintro F2 l d δ' N2 hle2 hd2 ⟨s4, s5, rfl⟩ hN2
        try rw [← hle2.k]
        obtain ⟨e, he2, rfl⟩ := enum_item hd2
        obtain ⟨o, ho, rfl⟩ := map_item he2
        have hl : l < L := by
          have := (List.getElem?_eq_some_iff.mp ho).1
          rw [g.rl r (List.mem_of_getElem? hr)] at this
          exact this
        have hon : o < t.length := g.en r (List.mem_of_getElem? hr) o (List.mem_of_getElem? ho)
        obtain ⟨qo, hqo, lqo, eqo⟩ := glf o hon
        walk_at "ev"
        refine o_ixT (atI_nat (j := o) (v := tupN qo) (map_get hqo)) ?_
        walk_at "ev"
        refine ev_lc (iw_tup ?_)
        walk_at "ev"
        refine o_ixT (atI_nat (j := i) (v := tupN qi) (map_get hqi)) ?_
        refine ⟨_, rfl, rfl, (by rw [List.length_map, lqi]; omega), fun j acc δ' => acc = ((qi.take j).map fun x => intN (colR t l x)) ∧
          δ' = [.fz (.tuple (t.map tupN)), .fz (.tuple (ls.map tupN)), .fz (intN i), .fz (tupN r), .fz (intN l), .fz (intN o), .no], ⟨by simp, rfl⟩, ?_, ?_, ?_⟩
        · rintro j acc δ' ⟨rfl, rfl⟩
          exact ⟨rfl, by simp; omega⟩
        · rintro F3 j d acc δ' hle3 hd3 ⟨rfl, rfl⟩
          try rw [← hle3.k]
          obtain ⟨x, hx, rfl⟩ := map_item hd3
          obtain ⟨rx, e1, e2, _⟩ := g.col (eqi x (List.mem_of_getElem? hx)) hl
          walk_at "ev"
          refine o_ixT (atI_nat (j := x) (v := tupN rx) (map_get e1)) ?_
          walk_at "ev"
          refine o_ixT (ds := rx.map intN) (atI_nat (j := l) (v := intN (colR t l x)) (map_get e2)) ?_
          refine ⟨_, rfl, _, rfl, ?_, rfl⟩
          rw [List.take_succ, hx]
          simp
        · rintro acc δ' q2 hq2' ⟨rfl, rfl⟩
          refine b_tupO ?_
          rw [List.length_map, List.take_length]
          have e1 := gpr i l o r hr ho
          simp only [List.getD_eq_getElem?_getD, hqo, hqi, Option.getD_some] at e1
          have e3 : PyData.tuple (qi.map fun x => intN (colR t l x)) = tupN qo := by
            rw [e1]
            unfold tupN
            rw [List.map_map]
            rfl
          rw [e3]
          have l1 : (tupN qo).canLay0 = true := lay_tup fun d hd => by
            obtain ⟨x, _, rfl⟩ := List.mem_map.mp hd
            exact lay_int _
          have l2 : (tupN qo).depth ≤ 0 + 1 := dep_tup fun d hd => by
            obtain ⟨x, _, rfl⟩ := List.mem_map.mp hd
            exact dep_int _
          refine o_neD (shaped_of l1 (by omega)) (shaped_of l1 (by omega)) ?_
          rw [PySem.SeqAt.eqv_refl _ l1]
          refine ⟨_, rfl, ?_⟩
          refine (if_neg (by simp)).mpr ?_
          walk_at "ev"
          exact hN2 _ ⟨_, _, rfl⟩
      · rintro δ' ⟨s4, s5, rfl⟩
        exact hN _ ⟨_, _, _, _, rfl⟩
    · rintro δ' ⟨s2, s3, s4, s5, rfl⟩
      exact fun G H σ s => ret _ _ k .non G H σ (s.push rfl .non)
end
end My

namespace My
open PySem L2 SL Mt Mx
local macro_rules | `(tactic| walk_at "e1") => `(tactic| first
  | with_reducible refine nx_seq ?_ | with_reducible refine rn_seq ?_
  | with_reducible refine rn_set ?_ | with_reducible refine rn_ret ?_ | with_reducible refine rn_if ?_ | with_reducible refine rn_drop ?_ | with_reducible refine rn_next ?_
  | with_reducible refine ev_int ?_ | with_reducible refine ev_str ?_ | with_reducible refine ev_bl ?_ | with_reducible refine ev_non ?_
  | ((with_reducible refine' ev_fz ?vv ?_); (case vv => exact rfl))
  | ((with_reducible refine' ev_ol ?vv ?_); (case vv => exact rfl))
  | ((with_reducible refine' ev_al ?vv ?_); (case vv => exact rfl))
  | with_reducible refine ev_op ?_ | with_reducible refine ev_un ?_
  | with_reducible refine o_int ?_ | with_reducible refine o_bl ?_ | with_reducible refine u_int ?_
  | with_reducible refine o_eqI ?_ | with_reducible refine o_neI ?_ | with_reducible refine o_eqS ?_ | with_reducible refine o_neS ?_
  | with_reducible refine ev_isi ?_ | with_reducible refine ev_isi2 ?_ | with_reducible refine ev_cb ?_ | with_reducible refine a_one ?_ | with_reducible refine a_cons ?_ | with_reducible refine a_nil ?_
  | with_reducible refine b_abs ?_ | with_reducible refine b_int ?_ | with_reducible refine b_intb ?_
  | with_reducible refine b_lenL ?_ | with_reducible refine b_lenT ?_
  | with_reducible refine b_tupO ?_ | with_reducible refine b_tupL ?_ | with_reducible refine b_tupT ?_ | with_reducible refine t_yes ?_ | with_reducible refine iteT ?_ | with_reducible refine iteF ?_
  | with_reducible refine t_test ?_ | with_reducible refine t_B ?_ | with_reducible refine t_not ?_ | with_reducible refine t_and ?_ | with_reducible refine t_or ?_
  | with_reducible refine ev_lst ?_ | with_reducible refine ev_tup ?_ | with_reducible refine ev_callM ?_ | with_reducible refine ev_callF ?_ | with_reducible refine rn_setL ?_ | with_reducible refine rn_setDT ?_ | with_reducible refine rn_asg ?_ | ((with_reducible refine' ga_tup ?vv ?_); (case vv => exact rfl)) | with_reducible refine gas_nil ?_ | ((with_reducible refine' gas_name ?vv ?_); (case vv => exact rfl)) | ((with_reducible refine' rn_asgN ?vv ?_); (case vv => exact rfl))
  | with_reducible refine rn_par3 ?_ | with_reducible refine rn_par ?_ | with_reducible refine ev_tupRg ?_ | with_reducible refine ev_listRg ?_ | with_reducible refine ev_disp1T ?_ | with_reducible refine ev_dgetT ?_ | with_reducible refine ev_dnotinT ?_
  | with_reducible refine ev_append ?_ | with_reducible refine ev_extend ?_ | with_reducible refine ev_reverse ?_ | with_reducible refine ev_revL ?_
  | with_reducible refine ev_chain ?_ | with_reducible refine ev_and ?_ | with_reducible refine ev_or ?_ | with_reducible refine ev_not ?_ | with_reducible refine ev_if ?_
  | ((with_reducible refine' ev_oi ?vv ?_); (case vv => exact rfl)) | ((with_reducible refine' ev_ot ?vv ?_); (case vv => exact rfl)) | ((with_reducible refine' ev_od ?vv ?_); (case vv => exact rfl))
  | refine ⟨_, rfl, ?_⟩)
local macro_rules | `(tactic| walk_at "ev") => `(tactic| repeat (walk_at "e1"))

/-- the class Monoid -/
structure MC (K : PySem.W.Frag) (C : Addr) : Prop where
  cls : Cls K C
  n_right : NoAttr K C "right"
  n_tree : NoAttr K C "tree"
  n_lefts : NoAttr K C "lefts"
  n_memory : NoAttr K C "memory"
def rowsT (t : List (List Nat)) : PyData := .tuple (t.map tupN)
def treeD (t : List (List Nat)) : PyData := .list (.none :: (scanRows 0 t []).map pairN)
def leftD (t : List (List Nat)) : PyData := .tuple ((leftsOf t (scanRows 0 t [])).map tupN)
def wordsD (t : List (List Nat)) : PyData := .list ((Mt.wordsOf (scanRows 0 t [])).map strS)
abbrev monF (t : List (List Nat)) (q : Addr) : List (Str × SD) := [("right", .fz (rowsT t)), ("tree", .fz (treeD t)), ("lefts", .fz (leftD t)), ("memory", .al q)]
/-- a monoid, its table t, its memory kvs -/
abbrev monO (K : PySem.W.Frag) (P : Program) (w : World) (C p dx q : Addr) (t : List (List Nat)) (kvs : List (MK × PyData)) : SD := .ow (insO K p dx C (monF t q) [(q, mD K P w q kvs)])
/-! the memory -/
def wordsK : MK := .inl (.inr "words")
def endsK : MK := .inl (.inr "ends")
def pathK (i : Nat) : MK := .inr [.inr "path", .inl (i : Int)]
def pathD (t : List (List Nat)) (i : Nat) : PyData := .list ((pathOf t i).map intN)
theorem lay_words : (datK wordsK).canLay0 = true := by decide +kernel
theorem lay_ends : (datK endsK).canLay0 = true := by decide +kernel
theorem lay_path (i : Nat) : (datK (pathK i)).canLay0 = true := by
  refine lay_tup fun d hd => ?_
  have hd' : d = .str "path" ∨ d = .int (i : Int) := by simpa [keyD] using hd
  rcases hd' with z | z
  · subst z; decide +kernel
  · subst z; exact lay_int _
structure MemOk (t : List (List Nat)) (kvs : List (MK × PyData)) : Prop where
  nd : (kvs.map (·.1)).Nodup
  ent : ∀ kd ∈ kvs, kd = (wordsK, wordsD t) ∨ ∃ i, i < t.length ∧ kd = (pathK i, pathD t i)
theorem memOk_nil (t : List (List Nat)) : MemOk t [] := ⟨by simp, fun _ h => by simp at h⟩
theorem mlook_mem {kvs : List (MK × PyData)} {k : MK} {d : PyData} (h : mlook kvs k = some d) : (k, d) ∈ kvs := by
  unfold mlook at h
  obtain ⟨x, hx, e⟩ := Option.map_eq_some_iff.mp h
  have h1 := List.find?_some hx
  have h2 : x.1 = k := of_decide_eq_true h1
  have h3 := List.mem_of_find?_eq_some hx
  obtain ⟨a, b⟩ := x
  simp only at h2 e
  subst h2
  subst e
  exact h3
theorem mlook_none {kvs : List (MK × PyData)} {k : MK} (h : mlook kvs k = none) : k ∉ kvs.map (·.1) := by
  unfold mlook at h
  intro z
  obtain ⟨x, hx, e⟩ := List.mem_map.mp z
  exact List.find?_eq_none.mp (Option.map_eq_none_iff.mp h) x hx (decide_eq_true e)
theorem mlook_snoc {kvs : List (MK × PyData)} {k : MK} {d : PyData} (h : mlook kvs k = none) : mlook (kvs ++ [(k, d)]) k = some d := by
  unfold mlook at h ⊢
  rw [List.find?_append, Option.map_eq_none_iff.mp h]
  simp
theorem pathK_inj {i j : Nat} (h : pathK i = pathK j) : i = j := by
  have h1 := Sum.inr.inj h
  simp at h1
  omega
theorem MemOk.words {t : List (List Nat)} {kvs : List (MK × PyData)} {d : PyData} (m : MemOk t kvs) (h : mlook kvs wordsK = some d) : d = wordsD t := by
  rcases m.ent _ (mlook_mem h) with z | ⟨i, _, z⟩
  · cases z; rfl
  · have := congrArg (·.1) z
    simp [wordsK, pathK] at this
theorem MemOk.path {t : List (List Nat)} {kvs : List (MK × PyData)} {d : PyData} {i : Nat} (m : MemOk t kvs) (h : mlook kvs (pathK i) = some d) : d = pathD t i := by
  rcases m.ent _ (mlook_mem h) with z | ⟨j, _, z⟩
  · have := congrArg (·.1) z
    simp [wordsK, pathK] at this
  · have e1 := congrArg (·.1) z
    have e2 := congrArg (·.2) z
    simp only at e1 e2
    rw [pathK_inj e1]
    exact e2
theorem MemOk.put {t : List (List Nat)} {kvs : List (MK × PyData)} {k : MK} {d : PyData} (m : MemOk t kvs) (h : mlook kvs k = none) (e : (k, d) = (wordsK, wordsD t) ∨ ∃ i, i < t.length ∧ (k, d) = (pathK i, pathD t i)) : MemOk t (kvs ++ [(k, d)]) := by
  refine ⟨?_, fun kd hkd => ?_⟩
  · rw [List.map_append]
    refine List.nodup_append.mpr ⟨m.nd, by simp, fun a ha b hb z => ?_⟩
    have : b = k := by simpa using hb
    subst this
    subst z
    exact mlook_none h ha
  · rcases List.mem_append.mp hkd with z | z
    · exact m.ent kd z
    · have : kd = (k, d) := by simpa using z
      subst this
      exact e
def codeM : MK → Nat
  | .inr [.inr _, .inl i] => i.toNat + 1
  | _ => 0
theorem MemOk.len {t : List (List Nat)} {kvs : List (MK × PyData)} (m : MemOk t kvs) : kvs.length ≤ t.length + 1 := by
  have h1 : ∀ kd ∈ kvs, codeM kd.1 < t.length + 1 := fun kd hkd => by
    rcases m.ent kd hkd with z | ⟨i, hi, z⟩
    · subst z; show 0 < _; omega
    · subst z
      show (i : Int).toNat + 1 < _
      omega
  have h2 : (kvs.map fun kd => codeM kd.1).Nodup := by
    have nd := m.nd
    rw [List.nodup_iff_pairwise_ne, List.pairwise_map] at nd ⊢
    refine List.Pairwise.imp_of_mem ?_ nd
    intro a b ha hb hne e
    apply hne
    rcases m.ent a ha with z | ⟨i, hi, z⟩ <;> rcases m.ent b hb with y | ⟨j, hj, y⟩
    · rw [z, y]
    · subst z y; have e' : (0 : Nat) = (j : Int).toNat + 1 := e; omega
    · subst z y; have e' : (i : Int).toNat + 1 = 0 := e; omega
    · subst z y
      have e' : (i : Int).toNat + 1 = (j : Int).toNat + 1 := e
      have : i = j := by omega
      subst this
      rfl
  have := nodup_below (t.length + 1) _ h2 (fun x hx => by
    obtain ⟨kd, hkd, rfl⟩ := List.mem_map.mp hx
    exact h1 kd hkd)
  simpa using this
def Winit (K : PySem.W.Frag) (P : Program) (w : World) (C : Addr) : WO := fun r0 as post => ∃ p dx t L, r0 = .ow (insO K p dx C [] []) ∧ as = [.list (t.map lstN)] ∧ Good t L ∧ ∀ q, post (.fz .none) (monO K P w C p dx q t [])
def Wwords (K : PySem.W.Frag) (P : Program) (w : World) (C : Addr) : WO := fun r0 as post => ∃ p dx q t L kvs, r0 = monO K P w C p dx q t kvs ∧ as = [] ∧ Good t L ∧ MemOk t kvs ∧ ∀ kvs', MemOk t kvs' → mlook kvs' wordsK = some (wordsD t) → (∀ k, k ≠ wordsK → mlook kvs' k = mlook kvs k) → post (.fz (wordsD t)) (monO K P w C p dx q t kvs')
section
variable {P : Program} {w : World} {K : PySem.W.Frag} {mg : Str → Option Value} {base : Heap}
abbrev s_Monoid___init__ : Stmt := inClass (top 21) 0
abbrev N_Monoid___init__ : List Str := ["self", "right", "rows", "row"]
theorem sc_Monoid___init__ : FnScope N_Monoid___init__ ["self", "right"] (defScope s_Monoid___init__) := ⟨rfl, rfl, rfl, by decide +kernel, rfl, by decide +kernel, by decide +kernel⟩

theorem ok_init {f : Addr} {fd : FuncData} {CM : Addr} (Fn : Fun K "__init__" "Monoid.__init__" s_Monoid___init__ f fd) (B : Bt mg) (M : MC K CM) (f_check_form : Cal P w K mg base 2 "check_form" (SpF K Wform)) (f_check_order : Cal P w K mg base 1 "check_order" (SpF K Worder))
    (f_tree_of : Cal P w K mg base 1 "tree_of" (SpF K Wtree)) (f_left_of : Cal P w K mg base 1 "left_of" (SpF K Wleft)) (f_check_products : Cal P w K mg base 1 "check_products" (SpF K Wprod)) :
    FnOk P w K mg base CX0 3 f fd ["self", "right"] (SpO K (Winit K P w CM)) := by
  refine Fn.ok sc_Monoid___init__ (fun vs H Q E h => ?_) (fun cdv A outer s H vs Q E hr h => ?_)
  · obtain ⟨G, v0, ws, r0, as, post, rfl, _, _, _, _, da, ⟨p, dx, t, L, _, rfl, _⟩, _⟩ := h
    have := DpAll.len da
    simpa using this
  · refine ⟨_, (pss_cons (ps_expr (pe_c f_check_form hr (by decide) rfl (pa_cons (pv 1) pa_nil)))
 (pss_cons (ps_set (i := 2) sc_Monoid___init__.nd rfl (Or.inl rfl) (pe_callTy (call_tuple_of' K) rfl B.b_tuple (by decide +kernel) (pa_cons (pe_lcv [3] (pe_lc (own := [("row", 3)]) (g := gName 3) (tt := tYes) rfl sc_Monoid___init__.nd (pi_list' K (pv 1)) (blkOk_by (own := [("row", 3)]) (N := N_Monoid___init__) (by kernel_rfl)) (fun _ _ _ _ _ => pg_name (i := 3) sc_Monoid___init__.nd rfl (Or.inl rfl)) (fun _ _ _ _ _ => pts_nil) (fun _ _ _ _ _ => (pe_callTy (call_tuple_of' K) rfl B.b_tuple (by decide +kernel) (pa_cons (pv 3) pa_nil))))) pa_nil)))
 (pss_cons (ps_expr (pe_c f_check_order hr (by decide) rfl (pa_cons (pv 2) pa_nil)))
 (pss_cons (ps_fld' K (pv 0) (pv 2))
 (pss_cons (ps_fld' K (pv 0) (pe_c f_tree_of hr (by decide) rfl (pa_cons (pv 2) pa_nil)))
 (pss_cons (ps_fld' K (pv 0) (pe_c f_left_of hr (by decide) rfl (pa_cons (pv 2) (pa_cons (pe_fld' K (pv 0) rfl) pa_nil))))
 (pss_cons (ps_expr (pe_c f_check_products hr (by decide) rfl (pa_cons (pv 2) (pa_cons (pe_fld' K (pv 0) rfl) pa_nil))))
 (pss_one (ps_fld' K (pv 0) (pe_dnewM P w)))))))))), bodyO h fun F r0 as post hK hio hW ret => ?_⟩
    subst hK
    obtain ⟨p, dx, t, L, rfl, rfl, g, k⟩ := hW
    have g2 := g.n2
    show Rn F _ [.ow (insO F.K p dx CM [] []), .fz (.list (t.map lstN)), .no, .no] _
    walk_at "ev"
    refine ⟨[_], rfl, t, L, rfl, g, fun _ => ?_⟩
    walk_at "ev"
    refine ev_lc (iw_list ?_)
    walk_at "ev"
    refine ⟨rfl, (by rw [List.length_map]; omega), fun j acc δ' => acc = (t.take j).map tupN ∧ δ' = [.ow (insO F.K p dx CM [] []), .fz (.list (t.map lstN)), .no, .no], ⟨rfl, by simp⟩, ?_, ?_, ?_⟩
    · rintro j acc δ' ⟨rfl, rfl⟩
      exact ⟨rfl, by simp; omega⟩
    · rintro F3 j d acc δ' hle3 hd3 ⟨rfl, rfl⟩
      try rw [← hle3.k]
      obtain ⟨r, hr, rfl⟩ := map_item hd3
      walk_at "ev"
      refine b_tupL (ds := r.map intN) ?_
      refine ⟨_, rfl, _, rfl, ?_, rfl⟩
      rw [List.take_succ, hr]
      simp [tupN]
    · rintro acc δ' q1 hq1 ⟨rfl, rfl⟩
      rw [List.length_map, List.take_length]
      walk_at "ev"
      refine ⟨[_], rfl, t, rfl, g.ord, fun _ => ?_⟩
      walk_at "ev"
      refine rn_fldZ ?_
      walk_at "ev"
      refine ⟨p, dx, CM, _, _, 0, rfl, rfl, M.cls, M.n_right, by decide, ?_⟩
      walk_at "ev"
      refine rn_fldZ (SL.E.freeze ?_)
      walk_at "ev"
      refine ⟨[_], rfl, t, L, rfl, g, fun p2 hp2 => ⟨p2, _, hp2 p2 (by simp [SD.fp]), rfl, ?_⟩⟩
      walk_at "ev"
      refine ⟨p, dx, CM, _, _, 0, rfl, rfl, M.cls, M.n_tree, (show (1 : Nat) < 1000 by decide), ?_⟩
      walk_at "ev"
      refine rn_fldZ ?_
      walk_at "ev"
      refine ev_fldZ ?_
      walk_at "ev"
      refine ⟨p, dx, CM, _, _, 0, treeD t, rfl, rfl, M.cls, M.n_tree, rfl, ?_⟩
      refine ⟨[_, _], rfl, t, L, rfl, g, fun _ => ?_⟩
      walk_at "ev"
      refine ⟨p, dx, CM, _, _, 0, rfl, rfl, M.cls, M.n_lefts, (show (2 : Nat) < 1000 by decide), ?_⟩
      walk_at "ev"
      refine ev_fldZ ?_
      walk_at "ev"
      refine ⟨p, dx, CM, _, _, 0, leftD t, rfl, rfl, M.cls, M.n_lefts, rfl, ?_⟩
      refine ⟨[_, _], rfl, t, L, rfl, g, fun _ => ?_⟩
      walk_at "ev"
      refine rn_fldM (kvs0 := []) (ev_dnewM fun q hq => ⟨q, [], rfl, ?_⟩)
      walk_at "ev"
      refine ⟨p, dx, CM, _, _, 0, rfl, rfl, M.cls, M.n_memory, (show (3 : Nat) < 1000 by decide), ?_⟩
      exact fun G H σ s => ret _ _ _ p rfl pins_ins pins_ins (k q) (fun a ha => by
        have ha' : a ∈ [p, dx] := ha
        show a ∈ [p, dx, q]
        simp only [List.mem_cons, List.mem_nil_iff, or_false] at ha' ⊢
        rcases ha' with z | z
        · exact .inl z
        · exact .inr (.inl z)) .non G H σ (s.push rfl .non)
abbrev s_Monoid_all_words : Stmt := inClass (top 21) 4
abbrev N_Monoid_all_words : List Str := ["self", "found", "ahead", "letter"]
theorem sc_Monoid_all_words : FnScope N_Monoid_all_words ["self"] (defScope s_Monoid_all_words) := ⟨rfl, rfl, rfl, by decide +kernel, rfl, by decide +kernel, by decide +kernel⟩

theorem ok_words {f : Addr} {fd : FuncData} {CM : Addr} (Fn : Fun K "all_words" "Monoid.all_words" s_Monoid_all_words f fd) (B : Bt mg) (C : Ct mg) (M : MC K CM) :
    FnOk P w K mg base CX0 1 f fd ["self"] (SpO K (Wwords K P w CM)) := by
  refine Fn.ok sc_Monoid_all_words (fun vs H Q E h => ?_) (fun cdv A outer s H vs Q E hr h => ?_)
  · obtain ⟨G, v0, ws, r0, as, post, rfl, _, _, _, _, da, ⟨p, dx, q, t, L, kvs, _, rfl, _⟩, _⟩ := h
    have := DpAll.len da
    simpa using this
  · refine ⟨_, (pss_cons (ps_if (pt_cmp (pc_dnotinM P w hr.u3 pe_str (pe_fld' K (pv 0) rfl))) (pss_cons (ps_set (i := 1) sc_Monoid_all_words.nd rfl (Or.inl rfl) (pe_lst (pa_cons pe_str pa_nil)))
 (pss_cons (ps_for PassesOwn.never rfl (pi_list' K (pe_slice (sl_list' K) (pe_fld' K (pv 0) rfl) (po_some pe_int) po_none)) (pg_tup' K (n := 2) rfl (pgs_cons (pg_name (i := 2) sc_Monoid_all_words.nd rfl (Or.inl rfl)) (pgs_cons (pg_name (i := 3) sc_Monoid_all_words.nd rfl (Or.inl rfl)) pgs_nil))) (pss_one (ps_expr (pe_bm' K PySem.F.plainAttrs_list PySem.F.slot_list_append PySem.F.type_list_append mt_append (pv 1) (pa_cons (pe_op op_add_str (pe_ix (ix_list' K) (pv 1) (pv 2) (fun _ _ => rfl)) (pe_ix ix_str (pe_gc rfl C.g_LETTERS) (pv 3) (fun _ _ => rfl))) pa_nil)))))
 (pss_one (ps_asg (pv 1) (pg_sub (pe_fld' K (pv 0) rfl) pe_str (set_mixR P w hr.u3)))))) pss_nil)
 (pss_one (ps_ret (pe_dgetM P w hr.u3 (pe_fld' K (pv 0) rfl) pe_str (fun _ _ => rfl))))), bodyO h fun F r0 as post hK hio hW ret => ?_⟩
    subst hK
    obtain ⟨p, dx, q, t, L, kvs, rfl, rfl, g, hm, k⟩ := hW
    have g2 := g.n2
    have gl := g.len
    have g3 := g.l2
    have g1 := g.n1
    show Rn F _ [monO F.K P w CM p dx q t kvs, .no, .no, .no] _
    have back : ∀ kvs' s1 s2 s3, MemOk t kvs' → mlook kvs' wordsK = some (wordsD t) → (∀ k, k ≠ wordsK → mlook kvs' k = mlook kvs k) → Nx F (Ends.nx (Ends.mk ((tRet (tDGetM P w (tFld F.K (tVar 0) "memory") (tC (.str "words")))) { nx := fun _ H' => Q .non H', rt := Q }) Q (fun _ _ => False) (fun _ _ => False))) [monO F.K P w CM p dx q t kvs', s1, s2, s3] := by
      intro kvs' s1 s2 s3 m1 m2 m3
      refine nx_seq (D := { nx := fun _ H' => Q .non H', rt := Q }) ?_
      refine rn_ret (ev_dgetM ?_)
      refine ev_fldA ?_
      walk_at "ev"
      refine ⟨p, dx, CM, _, _, 0, q, rfl, rfl, M.cls, M.n_memory, rfl, ?_⟩
      walk_at "ev"
      refine ⟨wordsK, kvs', wordsD t, rfl, lay_words, .ins 0 rfl (by simp), m2, ?_⟩
      exact ret _ _ _ p rfl pins_ins pins_ins (k kvs' m1 m2 m3) (fun a ha => ha)
    refine rn_seq (rn_if (t_B (ev_dnotinM ?_)))
    walk_at "ev"
    refine ⟨wordsK, rfl, lay_words, ?_⟩
    refine ev_fldA ?_
    walk_at "ev"
    refine ⟨p, dx, CM, _, _, 0, q, rfl, rfl, M.cls, M.n_memory, rfl, ?_⟩
    refine ⟨q, kvs, rfl, .ins 0 rfl (by simp), _, rfl, ?_⟩
    cases hmw : mlook kvs wordsK with
    | none =>
      refine (if_pos (by simp)).mpr ?_
      walk_at "ev"
      refine ⟨[_], rfl, (by show 1 ≤ sizeLine; decide), fun p1 q1 => ?_⟩
      walk_at "ev"
      have htree := fun (k a l : Nat) => g.tree (k := k) (a := a) (l := l)
      have ewd : wordsD t = .list ((Mt.wordsOf (scanRows 0 t [])).map strS) := rfl
      have etd : treeD t = .list (.none :: (scanRows 0 t []).map pairN) := rfl
      generalize scanRows 0 t [] = tr at *
      refine rn_for (iw_listO (ev_from (i := 1) (ev_fldZ ?_)))
      walk_at "ev"
      refine ⟨p, dx, CM, _, _, 0, treeD t, rfl, rfl, M.cls, M.n_tree, rfl, ?_⟩
      rw [etd]
      refine ⟨_, .fz, fun q2 hq2 => ⟨q2, _, hq2, rfl, fun i δ' => ∃ (s3 s4 : SD), i ≤ tr.length ∧ δ' = [monO F.K P w CM p dx q t kvs, .ol p1 ((Mt.wordsOf (tr.take i)).map strS), s3, s4], ⟨.no, .no, Nat.zero_le _, ?_⟩, ?_, ?_⟩⟩
      · rw [List.take_zero]
        rfl
      · rintro F' i d δ' N hle hd ⟨s3, s4, hi, rfl⟩ hN
        try rw [← hle.k]
        obtain ⟨⟨a, l⟩, hp2, rfl⟩ := map_item (l := tr) (f := pairN) hd
        have hlt : i < tr.length := (List.getElem?_eq_some_iff.mp hp2).1
        obtain ⟨c1, c2, c3⟩ := htree i a l hp2
        have hla : a < (Mt.wordsOf (tr.take i)).length := by rw [wordsOf_len, List.length_take]; omega
        have hwa : (Mt.wordsOf (tr.take i))[a]? = some (Mt.wordsOf (tr.take i))[a] := List.getElem?_eq_getElem hla
        have hsh := wordsOf_short (tr.take i) _ (List.getElem_mem hla)
        have htk : (tr.take i).length = i := by rw [List.length_take]; omega
        generalize (Mt.wordsOf (tr.take i))[a] = wa at hwa hsh
        unfold pairN
        walk_at "ev"
        refine ⟨p1, 1, _, rfl, rfl, ?_⟩
        walk_at "ev"
        refine o_ix (.al 1 rfl) (atI_nat (j := a) (v := strS wa) (map_get hwa)) ?_
        walk_at "ev"
        have hl6 : l < 6 := by omega
        refine o_ixS (c := 97 + l) (by decide) (atI_nat (j := l) ?_) ?_
        · have h2 : l = 0 ∨ l = 1 ∨ l = 2 ∨ l = 3 ∨ l = 4 ∨ l = 5 := by omega
          rcases h2 with z | z | z | z | z | z <;> subst z <;> rfl
        refine o_addS (Nat.le_trans (show wa.length + (letS l).length ≤ 5000 by show wa.length + 1 ≤ 5000; omega) (by decide)) ?_
        refine ⟨_, _, rfl, rfl, by rw [List.length_map, wordsOf_len]; omega, ?_⟩
        refine hN _ ⟨.fz (intN a), .fz (intN l), by omega, ?_⟩
        have e1 : tr.take (i + 1) = tr.take i ++ [(a, l)] := by rw [List.take_succ, hp2]; rfl
        rw [e1, wordsOf_snoc, List.map_append]
        have e2 : (Mt.wordsOf (tr.take i)).getD a ⟨#[]⟩ = wa := by rw [List.getD_eq_getElem?_getD, hwa]; rfl
        rw [e2]
        try rw [hle.k]
        rfl
      · rintro δ' ⟨s3, s4, hi, rfl⟩
        refine nx_seq ?_
        have e : tr.take (List.drop 1 (PyData.none :: tr.map pairN)).length = tr := by
          show tr.take (tr.map pairN).length = tr
          rw [List.length_map, List.take_length]
        rw [e]
        refine Rn.freezeS (i := 1) rfl q1 ?_
        refine rn_setMI ?_
        walk_at "ev"
        refine ev_fldA ?_
        walk_at "ev"
        refine ⟨p, dx, CM, _, _, 0, q, rfl, rfl, M.cls, M.n_memory, rfl, ?_⟩
        walk_at "ev"
        have hlm := hm.len
        refine ⟨wordsK, 0, p, dx, CM, _, kvs, rfl, lay_words, rfl, hmw, by omega, ?_⟩
        rw [← ewd]
        refine back _ _ _ _ (hm.put hmw (.inl rfl)) (mlook_snoc hmw) fun k hk => ?_
        unfold mlook
        rw [List.find?_append]
        cases hf : kvs.find? (fun x => decide (x.1 = k)) with
        | some x => rfl
        | none =>
          have : ¬ wordsK = k := fun z => hk z.symm
          simp [this]
    | some d =>
      have hd := hm.words hmw
      subst hd
      refine (if_neg (by simp)).mpr ?_
      refine rn_next ?_
      exact back kvs _ _ _ hm hmw (fun _ _ => rfl)
end
end My

namespace My
open PySem L2 SL Mt Mx
local macro_rules | `(tactic| walk_at "e1") => `(tactic| first
  | with_reducible refine nx_seq ?_ | with_reducible refine rn_seq ?_
  | with_reducible refine rn_set ?_ | with_reducible refine rn_ret ?_ | with_reducible refine rn_if ?_ | with_reducible refine rn_drop ?_ | with_reducible refine rn_next ?_
  | with_reducible refine ev_int ?_ | with_reducible refine ev_str ?_ | with_reducible refine ev_bl ?_ | with_reducible refine ev_non ?_
  | ((with_reducible refine' ev_fz ?vv ?_); (case vv => exact rfl))
  | ((with_reducible refine' ev_ol ?vv ?_); (case vv => exact rfl))
  | ((with_reducible refine' ev_al ?vv ?_); (case vv => exact rfl))
  | with_reducible refine ev_op ?_ | with_reducible refine ev_un ?_
  | with_reducible refine o_int ?_ | with_reducible refine o_bl ?_ | with_reducible refine u_int ?_
  | with_reducible refine o_eqI ?_ | with_reducible refine o_neI ?_ | with_reducible refine o_eqS ?_ | with_reducible refine o_neS ?_
  | with_reducible refine ev_isi ?_ | with_reducible refine ev_isi2 ?_ | with_reducible refine ev_cb ?_ | with_reducible refine a_one ?_ | with_reducible refine a_cons ?_ | with_reducible refine a_nil ?_
  | with_reducible refine b_abs ?_ | with_reducible refine b_int ?_ | with_reducible refine b_intb ?_
  | with_reducible refine b_lenL ?_ | with_reducible refine b_lenT ?_
  | with_reducible refine b_tupO ?_ | with_reducible refine b_tupL ?_ | with_reducible refine b_tupT ?_ | with_reducible refine t_yes ?_ | with_reducible refine iteT ?_ | with_reducible refine iteF ?_
  | with_reducible refine t_test ?_ | with_reducible refine t_B ?_ | with_reducible refine t_not ?_ | with_reducible refine t_and ?_ | with_reducible refine t_or ?_
  | with_reducible refine ev_lst ?_ | with_reducible refine ev_tup ?_ | with_reducible refine ev_callM ?_ | with_reducible refine ev_callF ?_ | with_reducible refine rn_setL ?_ | with_reducible refine rn_setDT ?_ | with_reducible refine rn_asg ?_ | ((with_reducible refine' ga_tup ?vv ?_); (case vv => exact rfl)) | with_reducible refine gas_nil ?_ | ((with_reducible refine' gas_name ?vv ?_); (case vv => exact rfl)) | ((with_reducible refine' rn_asgN ?vv ?_); (case vv => exact rfl))
  | with_reducible refine rn_par3 ?_ | with_reducible refine rn_par ?_ | with_reducible refine ev_tupRg ?_ | with_reducible refine ev_listRg ?_ | with_reducible refine ev_disp1T ?_ | with_reducible refine ev_dgetT ?_ | with_reducible refine ev_dnotinT ?_
  | with_reducible refine ev_append ?_ | with_reducible refine ev_extend ?_ | with_reducible refine ev_reverse ?_ | with_reducible refine ev_revL ?_
  | with_reducible refine ev_chain ?_ | with_reducible refine ev_and ?_ | with_reducible refine ev_or ?_ | with_reducible refine ev_not ?_ | with_reducible refine ev_if ?_
  | ((with_reducible refine' ev_oi ?vv ?_); (case vv => exact rfl)) | ((with_reducible refine' ev_ot ?vv ?_); (case vv => exact rfl)) | ((with_reducible refine' ev_od ?vv ?_); (case vv => exact rfl))
  | refine ⟨_, rfl, ?_⟩)
local macro_rules | `(tactic| walk_at "ev") => `(tactic| repeat (walk_at "e1"))

def Wsize (K : PySem.W.Frag) (P : Program) (w : World) (C : Addr) : WO := fun r0 as post => ∃ p dx q t kvs, r0 = monO K P w C p dx q t kvs ∧ as = [] ∧ post (.fz (intN t.length)) (monO K P w C p dx q t kvs)
def WleftT (K : PySem.W.Frag) (P : Program) (w : World) (C : Addr) : WO := fun r0 as post => ∃ p dx q t kvs, r0 = monO K P w C p dx q t kvs ∧ as = [] ∧ post (.fz (leftD t)) (monO K P w C p dx q t kvs)
def WwordsL (K : PySem.W.Frag) (P : Program) (w : World) (C : Addr) : WO := fun r0 as post => ∃ p dx q t L kvs, r0 = monO K P w C p dx q t kvs ∧ as = [] ∧ Good t L ∧ MemOk t kvs ∧ ∀ kvs' p1, MemOk t kvs' → post (.ol p1 ((Mt.wordsOf (scanRows 0 t [])).map strS)) (monO K P w C p dx q t kvs')
def Wcheck (K : PySem.W.Frag) (P : Program) (w : World) (C : Addr) : WO := fun r0 as post => ∃ p dx q t kvs x, r0 = monO K P w C p dx q t kvs ∧ as = [intN x] ∧ x < t.length ∧ post (.fz .none) (monO K P w C p dx q t kvs)
def Wplaces (K : PySem.W.Frag) (P : Program) (w : World) (C : Addr) : WO := fun r0 as post => ∃ p dx q t L kvs wd most, r0 = monO K P w C p dx q t kvs ∧ as = [.str wd, intN most] ∧ Good t L ∧ WordL L wd ∧ wd.length ≤ most ∧ most ≤ 5000 ∧ ∀ p1, post (.ol p1 ((lets wd).map intN)) (monO K P w C p dx q t kvs)
def Wofword (K : PySem.W.Frag) (P : Program) (w : World) (C : Addr) : WO := fun r0 as post => ∃ p dx q t L kvs wd, r0 = monO K P w C p dx q t kvs ∧ as = [.str wd] ∧ Good t L ∧ WordL L wd ∧ wd.length ≤ 100 ∧ post (.fz (intN (act t 0 (lets wd)))) (monO K P w C p dx q t kvs)
def Wpath (K : PySem.W.Frag) (P : Program) (w : World) (C : Addr) : WO := fun r0 as post => ∃ p dx q t L kvs x, r0 = monO K P w C p dx q t kvs ∧ as = [intN x] ∧ Good t L ∧ MemOk t kvs ∧ x < t.length ∧ ∀ kvs' p1, MemOk t kvs' → (∀ k, k ≠ wordsK → mlook kvs' k = mlook kvs k) → post (.ol p1 ((pathOf t x).map intN)) (monO K P w C p dx q t kvs')
def Wtimes (K : PySem.W.Frag) (P : Program) (w : World) (C : Addr) : WO := fun r0 as post => ∃ p dx q t L kvs x y, r0 = monO K P w C p dx q t kvs ∧ as = [intN x, intN y] ∧ Good t L ∧ MemOk t kvs ∧ x < t.length ∧ y < t.length ∧ ∀ kvs', MemOk t kvs' → post (.fz (intN (act t x (pathOf t y)))) (monO K P w C p dx q t kvs')
theorem known_mem {L c : Nat} (hL : L ≤ 6) (h1 : 97 ≤ c) (h2 : c < 97 + L) : c ∈ (Txt.slice "abcdef" none (some (L : Int))).cps.toList := by
  have h3 : c = 97 ∨ c = 98 ∨ c = 99 ∨ c = 100 ∨ c = 101 ∨ c = 102 := by omega
  have h4 : L = 0 ∨ L = 1 ∨ L = 2 ∨ L = 3 ∨ L = 4 ∨ L = 5 ∨ L = 6 := by omega
  rcases h3 with z | z | z | z | z | z <;> subst z <;> rcases h4 with y | y | y | y | y | y | y <;> subst y <;> first | omega | decide +kernel
theorem occ_let {c : Nat} (h1 : 97 ≤ c) (h2 : c < 103) : ∃ rest, Builtin.Str.occurrences "abcdef" ⟨#[c]⟩ 0 (Str.ofString "abcdef").length 1 = (c - 97) :: rest := by
  have h3 : c = 97 ∨ c = 98 ∨ c = 99 ∨ c = 100 ∨ c = 101 ∨ c = 102 := by omega
  rcases h3 with z | z | z | z | z | z <;> subst z <;> exact ⟨[], by decide +kernel⟩
theorem signs_item {wd : Str} {i : Nat} {d : PyData} (h : (signsD wd)[i]? = some d) : ∃ c, wd.cps.toList[i]? = some c ∧ d = .str ⟨#[c]⟩ := by
  unfold signsD at h
  rw [List.getElem?_map] at h
  cases e : wd.cps.toList[i]? with
  | none => rw [e] at h; cases h
  | some c => rw [e] at h; exact ⟨c, rfl, by simpa using h.symm⟩
theorem signs_len (wd : Str) : (signsD wd).length = wd.length := by simp [signsD, Str.length]
section
variable {P : Program} {w : World} {K : PySem.W.Frag} {mg : Str → Option Value} {base : Heap}
abbrev s_Monoid_size : Stmt := inClass (top 21) 3
abbrev N_Monoid_size : List Str := ["self"]
theorem sc_Monoid_size : FnScope N_Monoid_size ["self"] (defScope s_Monoid_size) := ⟨rfl, rfl, rfl, by decide +kernel, rfl, by decide +kernel, by decide +kernel⟩

theorem ok_size {f : Addr} {fd : FuncData} {CM : Addr} (Fn : Fun K "size" "Monoid.size" s_Monoid_size f fd) (B : Bt mg) (M : MC K CM) : FnOk P w K mg base CX0 1 f fd ["self"] (SpO K (Wsize K P w CM)) := by
  refine Fn.ok sc_Monoid_size (fun vs H Q E h => ?_) (fun cdv A outer s H vs Q E hr h => ?_)
  · obtain ⟨G, v0, ws, r0, as, post, rfl, _, _, _, _, da, ⟨p, dx, q, t, kvs, _, rfl, _⟩, _⟩ := h
    have := DpAll.len da
    simpa using this
  · refine ⟨_, (pss_one (ps_ret (pe_callB (call_len_seq' K) rfl B.b_len (by decide +kernel) (pa_cons (pe_fld' K (pv 0) rfl) pa_nil)))), bodyO h fun F r0 as post hK hio hW ret => ?_⟩
    subst hK
    obtain ⟨p, dx, q, t, kvs, rfl, rfl, k⟩ := hW
    show Rn F _ [monO F.K P w CM p dx q t kvs] _
    walk_at "ev"
    refine ev_fldZ ?_
    walk_at "ev"
    refine ⟨p, dx, CM, _, _, 0, rowsT t, rfl, rfl, M.cls, M.n_right, rfl, ?_⟩
    refine b_lenT (ds := t.map tupN) ?_
    rw [List.length_map]
    exact ret _ _ _ p rfl pins_ins pins_ins k (fun a ha => ha)
abbrev s_Monoid_left : Stmt := inClass (top 21) 6
abbrev N_Monoid_left : List Str := ["self"]
theorem sc_Monoid_left : FnScope N_Monoid_left ["self"] (defScope s_Monoid_left) := ⟨rfl, rfl, rfl, by decide +kernel, rfl, by decide +kernel, by decide +kernel⟩

theorem ok_left {f : Addr} {fd : FuncData} {CM : Addr} (Fn : Fun K "left" "Monoid.left" s_Monoid_left f fd) (M : MC K CM) : FnOk P w K mg base CX0 1 f fd ["self"] (SpO K (WleftT K P w CM)) := by
  refine Fn.ok sc_Monoid_left (fun vs H Q E h => ?_) (fun cdv A outer s H vs Q E hr h => ?_)
  · obtain ⟨G, v0, ws, r0, as, post, rfl, _, _, _, _, da, ⟨p, dx, q, t, kvs, _, rfl, _⟩, _⟩ := h
    have := DpAll.len da
    simpa using this
  · refine ⟨_, (pss_one (ps_ret (pe_fld' K (pv 0) rfl))), bodyO h fun F r0 as post hK hio hW ret => ?_⟩
    subst hK
    obtain ⟨p, dx, q, t, kvs, rfl, rfl, k⟩ := hW
    show Rn F _ [monO F.K P w CM p dx q t kvs] _
    walk_at "ev"
    refine ev_fldZ ?_
    walk_at "ev"
    refine ⟨p, dx, CM, _, _, 0, leftD t, rfl, rfl, M.cls, M.n_lefts, rfl, ?_⟩
    exact ret _ _ _ p rfl pins_ins pins_ins k (fun a ha => ha)
abbrev s_Monoid_words : Stmt := inClass (top 21) 5
abbrev N_Monoid_words : List Str := ["self"]
theorem sc_Monoid_words : FnScope N_Monoid_words ["self"] (defScope s_Monoid_words) := ⟨rfl, rfl, rfl, by decide +kernel, rfl, by decide +kernel, by decide +kernel⟩

theorem ok_wordsL {f : Addr} {fd : FuncData} {CM : Addr} (Fn : Fun K "words" "Monoid.words" s_Monoid_words f fd) (B : Bt mg) (m_all_words : Met P w K mg base 1 CM "all_words" (SpO K (Wwords K P w CM))) : FnOk P w K mg base CX0 2 f fd ["self"] (SpO K (WwordsL K P w CM)) := by
  refine Fn.ok sc_Monoid_words (fun vs H Q E h => ?_) (fun cdv A outer s H vs Q E hr h => ?_)
  · obtain ⟨G, v0, ws, r0, as, post, rfl, _, _, _, _, da, ⟨p, dx, q, t, L, kvs, _, rfl, _⟩, _⟩ := h
    have := DpAll.len da
    simpa using this
  · refine ⟨_, (pss_one (ps_ret (pe_callTy (call_list_of' K) rfl B.b_list (by decide +kernel) (pa_cons (pe_mt0 m_all_words hr (by decide) (pv 0)) pa_nil)))), bodyO h fun F r0 as post hK hio hW ret => ?_⟩
    subst hK
    obtain ⟨p, dx, q, t, L, kvs, rfl, rfl, g, hm, k⟩ := hW
    show Rn F _ [monO F.K P w CM p dx q t kvs] _
    refine rn_ret (ev_cb (a_one (ev_meth ?_)))
    walk_at "ev"
    refine ⟨p, dx, _, _, 0, rfl, rfl, rfl, ?_⟩
    walk_at "ev"
    refine ⟨[], dx, CM, _, _, rfl, rfl, p, dx, q, t, L, kvs, rfl, rfl, g, hm, fun kvs' m1 _ _ _ => ?_⟩
    refine b_lstS .fz fun p1 q1 => ?_
    exact ret _ _ _ p rfl pins_ins pins_ins (k kvs' p1 m1) (fun a ha => ha)
abbrev s_Monoid_check_number : Stmt := inClass (top 21) 2
abbrev N_Monoid_check_number : List Str := ["self", "number"]
theorem sc_Monoid_check_number : FnScope N_Monoid_check_number ["self", "number"] (defScope s_Monoid_check_number) := ⟨rfl, rfl, rfl, by decide +kernel, rfl, by decide +kernel, by decide +kernel⟩

theorem ok_check_number {f : Addr} {fd : FuncData} {CM : Addr} (Fn : Fun K "check_number" "Monoid.check_number" s_Monoid_check_number f fd) (B : Bt mg) (M : MC K CM) (f_is_number : Cal P w K mg base 1 "is_number" (SpF K Wnum)) : FnOk P w K mg base CX0 2 f fd ["self", "number"] (SpO K (Wcheck K P w CM)) := by
  refine Fn.ok sc_Monoid_check_number (fun vs H Q E h => ?_) (fun cdv A outer s H vs Q E hr h => ?_)
  · obtain ⟨G, v0, ws, r0, as, post, rfl, _, _, _, _, da, ⟨p, dx, q, t, kvs, x, _, rfl, _⟩, _⟩ := h
    have := DpAll.len da
    simpa using this
  · refine ⟨_, (pss_one (ps_if (PW.pt (pw_or (pt_not (pt_val (pe_c f_is_number hr (by decide) rfl (pa_cons (pv 1) pa_nil)))) (pw_or1 (pt_not (pt_chain op_le op_lt pe_int (pv 1) (pe_callB (call_len_seq' K) rfl B.b_len (by decide +kernel) (pa_cons (pe_fld' K (pv 0) rfl) pa_nil))))))) (pss_one ps_never) pss_nil)), bodyO h fun F r0 as post hK hio hW ret => ?_⟩
    subst hK
    obtain ⟨p, dx, q, t, kvs, x, rfl, rfl, hx, k⟩ := hW
    show Rn F _ [monO F.K P w CM p dx q t kvs, .fz (intN x)] _
    walk_at "ev"
    refine ⟨[_], rfl, _, rfl, fun _ => ⟨_, rfl, ?_⟩⟩
    refine (if_neg (by simp [isNum])).mpr ?_
    walk_at "ev"
    refine ⟨_, _, rfl, rfl, ?_⟩
    walk_at "ev"
    rw [decide_eq_true (by omega : (0 : Int) ≤ (x : Int)), if_pos rfl]
    refine ev_cb (a_one (ev_fldZ ?_))
    walk_at "ev"
    refine ⟨p, dx, CM, _, _, 0, rowsT t, rfl, rfl, M.cls, M.n_right, rfl, ?_⟩
    refine b_lenT (ds := t.map tupN) ?_
    rw [List.length_map]
    walk_at "ev"
    rw [decide_eq_true (by omega : (x : Int) < (t.length : Int))]
    refine (if_neg (by simp)).mpr ?_
    refine rn_next ?_
    exact fun G H σ s => ret _ _ _ p rfl pins_ins pins_ins k (fun a ha => ha) .non G H σ (s.push rfl .non)
abbrev s_Monoid_places_of : Stmt := inClass (top 21) 7
abbrev N_Monoid_places_of : List Str := ["self", "word", "most", "known", "one", "letter"]
theorem sc_Monoid_places_of : FnScope N_Monoid_places_of ["self", "word", "most"] (defScope s_Monoid_places_of) := ⟨rfl, rfl, rfl, by decide +kernel, rfl, by decide +kernel, by decide +kernel⟩

theorem ok_places_of {f : Addr} {fd : FuncData} {CM : Addr} (Fn : Fun K "places_of" "Monoid.places_of" s_Monoid_places_of f fd) (B : Bt mg) (C : Ct mg) (M : MC K CM) : FnOk P w K mg base CX0 1 f fd ["self", "word", "most"] (SpO K (Wplaces K P w CM)) := by
  refine Fn.ok sc_Monoid_places_of (fun vs H Q E h => ?_) (fun cdv A outer s H vs Q E hr h => ?_)
  · obtain ⟨G, v0, ws, r0, as, post, rfl, _, _, _, _, da, ⟨p, dx, q, t, L, kvs, wd, most, _, rfl, _⟩, _⟩ := h
    have := DpAll.len da
    simpa using this
  · refine ⟨_, (pss_cons (ps_set (i := 3) sc_Monoid_places_of.nd rfl (Or.inr rfl) (pe_slice C8.sl_txt (pe_gc rfl C.g_LETTERS) po_none (po_some (pe_callB (call_len_seq' K) rfl B.b_len (by decide +kernel) (pa_cons (pe_ix (ix_tup' K) (pe_fld' K (pv 0) rfl) pe_int (fun _ _ => rfl)) pa_nil)))))
 (pss_cons (ps_if (PW.pt (pw_or (pt_not (pt_val (pe_callB (call_isi' K) rfl B.b_isinstance (by decide +kernel) (pa_cons (pv 1) (pa_cons (pe_bltn (v := .ty "str") (u := .type "str") rfl B.b_str (by decide +kernel) rfl) pa_nil))))) (pw_or (pt_cmpR op_gt (pe_callB call_len_str' rfl B.b_len (by decide +kernel) (pa_cons (pv 1) pa_nil)) (pv 2) (nomark _)) (pw_or1 (pt_cmpR (op_neD' K hr.units) (pe_lcv [4] (pe_lc (own := [("one", 4)]) (g := gName 4)  rfl sc_Monoid_places_of.nd (pi_str (pv 1)) (blkOk_by (own := [("one", 4)]) (N := N_Monoid_places_of) (by kernel_rfl)) (fun _ _ _ _ _ => pg_name (i := 4) sc_Monoid_places_of.nd rfl (Or.inl rfl)) (fun _ _ _ _ _ => (pts_one (pt_cmpR op_notIn_sign' (pv 4) (pv 3) (rfl)))) (fun _ _ _ _ _ => (pv 4)))) (pe_lst pa_nil) (nomark _)))))) (pss_one ps_never) pss_nil)
 (pss_one (ps_ret (pe_lcv [5] (pe_lc (own := [("letter", 5)]) (g := gName 5) (tt := tYes) rfl sc_Monoid_places_of.nd (pi_str (pv 1)) (blkOk_by (own := [("letter", 5)]) (N := N_Monoid_places_of) (by kernel_rfl)) (fun _ _ _ _ _ => pg_name (i := 5) sc_Monoid_places_of.nd rfl (Or.inl rfl)) (fun _ _ _ _ _ => pts_nil) (fun _ _ _ _ _ => (pe_bm' K PySem.F.plainAttrs_str PySem.F.slot_str_index PySem.F.type_str_index mt_sindex' (pe_gc rfl C.g_LETTERS) (pa_cons (pv 5) pa_nil))))))))), bodyO h fun F r0 as post hK hio hW ret => ?_⟩
    subst hK
    obtain ⟨p, dx, q, t, L, kvs, wd, most, rfl, rfl, g, hw, hl, hmost, k⟩ := hW
    have g1 := g.n1
    have g6 := g.l2
    show Rn F _ [monO F.K P w CM p dx q t kvs, .fz (.str wd), .fz (intN most), .no, .no, .no] _
    refine rn_seq (rn_set (ev_slXto (ev_str ⟨_, rfl, by decide, ?_⟩)))
    refine ev_cb (a_one (ev_op (ev_fldZ ?_)))
    walk_at "ev"
    have hr0 : t[0]? = some t[0] := List.getElem?_eq_getElem (by omega)
    have hrl : t[0].length = L := g.rl _ (List.getElem_mem _)
    refine ⟨p, dx, CM, _, _, 0, rowsT t, rfl, rfl, M.cls, M.n_right, rfl, ?_⟩
    walk_at "ev"
    refine o_ixT (ds := t.map tupN) (atI_nat (j := 0) (map_get hr0)) ?_
    refine b_lenT (ds := t[0].map intN) ?_
    rw [List.length_map, hrl]
    refine ⟨_, rfl, _, rfl, ?_⟩
    walk_at "ev"
    refine ⟨_, true, rfl, rfl, _, rfl, ?_⟩
    refine (if_neg (by simp)).mpr ?_
    walk_at "ev"
    refine b_lenS (Nat.le_trans hl (Nat.le_trans hmost (by decide))) ?_
    walk_at "ev"
    rw [decide_eq_false (by omega : ¬ (wd.length : Int) > (most : Int))]
    refine (if_neg (by simp)).mpr ?_
    refine t_B (ev_op (SL.E.freeze (ev_lc (iw_str ?_))))
    walk_at "ev"
    refine ⟨rfl, (by rw [signs_len]; omega), fun j acc δ' => acc = [] ∧ δ' = [monO F.K P w CM p dx q t kvs, .fz (.str wd), .fz (intN most), .fz (.str (Txt.slice "abcdef" none (some (L : Int)))), .no, .no], ⟨rfl, rfl⟩, ?_, ?_, ?_⟩
    · rintro j acc δ' ⟨rfl, rfl⟩
      exact ⟨rfl, by simp⟩
    · rintro F3 j d acc δ' hle3 hd3 ⟨rfl, rfl⟩
      obtain ⟨c, hc, rfl⟩ := signs_item hd3
      obtain ⟨c1, c2⟩ := hw c (List.mem_of_getElem? hc)
      walk_at "ev"
      refine o_notSign ?_
      rw [decide_eq_true (known_mem g6 c1 c2)]
      refine ⟨_, rfl, (if_neg (by simp)).mpr ⟨_, rfl, rfl, rfl⟩⟩
    · rintro acc δ' q1 hq1 ⟨rfl, rfl⟩
      refine ⟨q1, _, hq1, rfl, ?_⟩
      refine SL.E.freeze (ev_lst ?_)
      walk_at "ev"
      refine ⟨[], rfl, (by show 0 ≤ sizeLine; decide), fun p2 q2 => ⟨p2, _, q2, rfl, ?_⟩⟩
      refine o_neD (shaped_lstN []) (shaped_lstN []) ?_
      rw [show PyData.eqv (.list []) (.list []) = true from (eqv_lstN [] []).trans (decide_eq_true rfl)]
      refine ⟨_, rfl, iteF ?_⟩
      refine rn_next (nx_seq (rn_ret (ev_lc (iw_str ?_))))
      walk_at "ev"
      refine ⟨rfl, (by rw [signs_len]; omega), fun j acc δ' => acc = ((lets wd).take j).map intN ∧ δ' = [monO F.K P w CM p dx q t kvs, .fz (.str wd), .fz (intN most), .fz (.str (Txt.slice "abcdef" none (some (L : Int)))), .no, .no], ⟨by simp, rfl⟩, ?_, ?_, ?_⟩
      · rintro j acc δ' ⟨rfl, rfl⟩
        exact ⟨rfl, by simp; omega⟩
      · rintro F3 j d acc δ' hle3 hd3 ⟨rfl, rfl⟩
        try rw [← hle3.k]
        obtain ⟨c, hc, rfl⟩ := signs_item hd3
        obtain ⟨c1, c2⟩ := hw c (List.mem_of_getElem? hc)
        obtain ⟨rest, ho⟩ := occ_let (c := c) c1 (by omega)
        have hlj : (lets wd)[j]? = some (c - 97) := by unfold lets; rw [List.getElem?_map, hc]; rfl
        walk_at "ev"
        refine ev_sindex ?_
        walk_at "ev"
        refine ⟨_, _, rest, rfl, ho, _, rfl, _, rfl, ?_, rfl⟩
        rw [List.take_succ, hlj]
        simp
      · rintro acc δ' q3 hq3 ⟨rfl, rfl⟩
        have e : (lets wd).take (signsD wd).length = lets wd := by rw [signs_len, ← lets_len, List.take_length]
        rw [e]
        exact ret _ _ _ p rfl pins_ins pins_ins (k q3) (fun a ha => ha)
end
end My

namespace My
open PySem L2 SL Mt Mx
local macro_rules | `(tactic| walk_at "e1") => `(tactic| first
  | with_reducible refine nx_seq ?_ | with_reducible refine rn_seq ?_
  | with_reducible refine rn_set ?_ | with_reducible refine rn_ret ?_ | with_reducible refine rn_if ?_ | with_reducible refine rn_drop ?_ | with_reducible refine rn_next ?_
  | with_reducible refine ev_int ?_ | with_reducible refine ev_str ?_ | with_reducible refine ev_bl ?_ | with_reducible refine ev_non ?_
  | ((with_reducible refine' ev_fz ?vv ?_); (case vv => exact rfl))
  | ((with_reducible refine' ev_ol ?vv ?_); (case vv => exact rfl))
  | ((with_reducible refine' ev_al ?vv ?_); (case vv => exact rfl))
  | with_reducible refine ev_op ?_ | with_reducible refine ev_un ?_
  | with_reducible refine o_int ?_ | with_reducible refine o_bl ?_ | with_reducible refine u_int ?_
  | with_reducible refine o_eqI ?_ | with_reducible refine o_neI ?_ | with_reducible refine o_eqS ?_ | with_reducible refine o_neS ?_
  | with_reducible refine ev_isi ?_ | with_reducible refine ev_isi2 ?_ | with_reducible refine ev_cb ?_ | with_reducible refine a_one ?_ | with_reducible refine a_cons ?_ | with_reducible refine a_nil ?_
  | with_reducible refine b_abs ?_ | with_reducible refine b_int ?_ | with_reducible refine b_intb ?_
  | with_reducible refine b_lenL ?_ | with_reducible refine b_lenT ?_
  | with_reducible refine b_tupO ?_ | with_reducible refine b_tupL ?_ | with_reducible refine b_tupT ?_ | with_reducible refine t_yes ?_ | with_reducible refine iteT ?_ | with_reducible refine iteF ?_
  | with_reducible refine t_test ?_ | with_reducible refine t_B ?_ | with_reducible refine t_not ?_ | with_reducible refine t_and ?_ | with_reducible refine t_or ?_
  | with_reducible refine ev_lst ?_ | with_reducible refine ev_tup ?_ | with_reducible refine ev_callM ?_ | with_reducible refine ev_callF ?_ | with_reducible refine rn_setL ?_ | with_reducible refine rn_setDT ?_ | with_reducible refine rn_asg ?_ | ((with_reducible refine' ga_tup ?vv ?_); (case vv => exact rfl)) | with_reducible refine gas_nil ?_ | ((with_reducible refine' gas_name ?vv ?_); (case vv => exact rfl)) | ((with_reducible refine' rn_asgN ?vv ?_); (case vv => exact rfl))
  | with_reducible refine rn_par3 ?_ | with_reducible refine rn_par ?_ | with_reducible refine ev_tupRg ?_ | with_reducible refine ev_listRg ?_ | with_reducible refine ev_disp1T ?_ | with_reducible refine ev_dgetT ?_ | with_reducible refine ev_dnotinT ?_
  | with_reducible refine ev_append ?_ | with_reducible refine ev_extend ?_ | with_reducible refine ev_reverse ?_ | with_reducible refine ev_revL ?_
  | with_reducible refine ev_chain ?_ | with_reducible refine ev_and ?_ | with_reducible refine ev_or ?_ | with_reducible refine ev_not ?_ | with_reducible refine ev_if ?_
  | ((with_reducible refine' ev_oi ?vv ?_); (case vv => exact rfl)) | ((with_reducible refine' ev_ot ?vv ?_); (case vv => exact rfl)) | ((with_reducible refine' ev_od ?vv ?_); (case vv => exact rfl))
  | refine ⟨_, rfl, ?_⟩)
local macro_rules | `(tactic| walk_at "ev") => `(tactic| repeat (walk_at "e1"))

section
variable {P : Program} {w : World} {K : PySem.W.Frag} {mg : Str → Option Value} {base : Heap}
abbrev s_Monoid_of_word : Stmt := inClass (top 21) 8
abbrev N_Monoid_of_word : List Str := ["self", "word", "found", "letter"]
theorem sc_Monoid_of_word : FnScope N_Monoid_of_word ["self", "word"] (defScope s_Monoid_of_word) := ⟨rfl, rfl, rfl, by decide +kernel, rfl, by decide +kernel, by decide +kernel⟩

theorem ok_of_word {f : Addr} {fd : FuncData} {CM : Addr} (Fn : Fun K "of_word" "Monoid.of_word" s_Monoid_of_word f fd) (C : Ct mg) (M : MC K CM) (m_places_of : Met P w K mg base 1 CM "places_of" (SpO K (Wplaces K P w CM))) : FnOk P w K mg base CX0 2 f fd ["self", "word"] (SpO K (Wofword K P w CM)) := by
  refine Fn.ok sc_Monoid_of_word (fun vs H Q E h => ?_) (fun cdv A outer s H vs Q E hr h => ?_)
  · obtain ⟨G, v0, ws, r0, as, post, rfl, _, _, _, _, da, ⟨p, dx, q, t, L, kvs, wd, _, rfl, _⟩, _⟩ := h
    have := DpAll.len da
    simpa using this
  · refine ⟨_, (pss_cons (ps_set (i := 2) sc_Monoid_of_word.nd rfl (Or.inl rfl) pe_int)
 (pss_cons (ps_for PassesOwn.never rfl (pi_list' K (pe_mt m_places_of hr (by decide) (pv 0) (pa_cons (pv 1) (pa_cons (pe_gc rfl C.g_MOST_WORD) pa_nil)))) (pg_name (i := 3) sc_Monoid_of_word.nd rfl (Or.inl rfl)) (pss_one (ps_set (i := 2) sc_Monoid_of_word.nd rfl (Or.inl rfl) (pe_ix (ix_tup' K) (pe_ix (ix_tup' K) (pe_fld' K (pv 0) rfl) (pv 2) (fun _ _ => rfl)) (pv 3) (fun _ _ => rfl)))))
 (pss_one (ps_ret (pv 2))))), bodyO h fun F r0 as post hK hio hW ret => ?_⟩
    subst hK
    obtain ⟨p, dx, q, t, L, kvs, wd, rfl, rfl, g, hw, hl, k⟩ := hW
    show Rn F _ [monO F.K P w CM p dx q t kvs, .fz (.str wd), .no, .no] _
    walk_at "ev"
    refine rn_for (iw_listO (ev_meth ?_))
    walk_at "ev"
    refine ⟨p, dx, _, _, 0, rfl, rfl, rfl, ?_⟩
    walk_at "ev"
    refine ⟨[_, _], dx, CM, _, _, rfl, rfl, p, dx, q, t, L, kvs, wd, 100, rfl, rfl, g, hw, hl, by decide, fun p1 hp1 => ⟨p1, _, hp1 p1 (by simp [SD.fp]), rfl, ?_⟩⟩
    have hlt := lets_lt hw
    generalize lets wd = path at *
    refine ⟨fun i δ' => ∃ (s3 : SD), δ' = [monO F.K P w CM p dx q t kvs, .fz (.str wd), .fz (intN (act t 0 (path.take i))), s3], ⟨.no, by simp [act]⟩, ?_, ?_⟩
    · rintro F' i d δ' N hle hd ⟨s3, rfl⟩ hN
      try rw [← hle.k]
      have M' : MC F'.K CM := by rw [hle.k]; exact M
      obtain ⟨l, hl2, rfl⟩ := map_item hd
      have hxl : act t 0 (path.take i) < t.length := g.act_lt _ _ g.n1 fun m hm => hlt m (List.mem_of_mem_take hm)
      obtain ⟨rx, h1, h2, h3⟩ := g.col hxl (hlt l (List.mem_of_getElem? hl2))
      refine rn_asgN (i := 3) rfl ?_
      walk_at "ev"
      refine ev_fldZ ?_
      walk_at "ev"
      refine ⟨p, dx, CM, _, _, 0, rowsT t, rfl, rfl, M'.cls, M'.n_right, rfl, ?_⟩
      walk_at "ev"
      refine o_ixT (ds := t.map tupN) (atI_nat (j := act t 0 (path.take i)) (map_get h1)) ?_
      walk_at "ev"
      refine o_ixT (ds := rx.map intN) (atI_nat (j := l) (map_get h2)) ?_
      refine ⟨_, rfl, ?_⟩
      refine hN _ ⟨.fz (intN l), ?_⟩
      have e : path.take (i + 1) = path.take i ++ [l] := by rw [List.take_succ, hl2]; rfl
      rw [e, act_snoc]
      try rw [hle.k]
      rfl
    · rintro δ' ⟨s3, rfl⟩
      rw [List.length_map, List.take_length]
      walk_at "ev"
      exact ret _ _ _ p rfl pins_ins pins_ins k (fun a ha => ha)
abbrev s_Monoid_path_of : Stmt := inClass (top 21) 9
abbrev N_Monoid_path_of : List Str := ["self", "number", "letter"]
theorem sc_Monoid_path_of : FnScope N_Monoid_path_of ["self", "number"] (defScope s_Monoid_path_of) := ⟨rfl, rfl, rfl, by decide +kernel, rfl, by decide +kernel, by decide +kernel⟩

theorem ok_path_of {f : Addr} {fd : FuncData} {CM : Addr} (Fn : Fun K "path_of" "Monoid.path_of" s_Monoid_path_of f fd) (C : Ct mg) (m_all_words : Met P w K mg base 1 CM "all_words" (SpO K (Wwords K P w CM))) : FnOk P w K mg base CX0 2 f fd ["self", "number"] (SpO K (Wpath K P w CM)) := by
  refine Fn.ok sc_Monoid_path_of (fun vs H Q E h => ?_) (fun cdv A outer s H vs Q E hr h => ?_)
  · obtain ⟨G, v0, ws, r0, as, post, rfl, _, _, _, _, da, ⟨p, dx, q, t, L, kvs, x, _, rfl, _⟩, _⟩ := h
    have := DpAll.len da
    simpa using this
  · refine ⟨_, (pss_one (ps_ret (pe_lcv [2] (pe_lc (own := [("letter", 2)]) (g := gName 2) (tt := tYes) rfl sc_Monoid_path_of.nd (pi_str (pe_ix (ix_list' K) (pe_mt0 m_all_words hr (by decide) (pv 0)) (pv 1) (fun _ _ => rfl))) (blkOk_by (own := [("letter", 2)]) (N := N_Monoid_path_of) (by kernel_rfl)) (fun _ _ _ _ _ => pg_name (i := 2) sc_Monoid_path_of.nd rfl (Or.inl rfl)) (fun _ _ _ _ _ => pts_nil) (fun _ _ _ _ _ => (pe_bm' K PySem.F.plainAttrs_str PySem.F.slot_str_index PySem.F.type_str_index mt_sindex' (pe_gc rfl C.g_LETTERS) (pa_cons (pv 2) pa_nil))))))), bodyO h fun F r0 as post hK hio hW ret => ?_⟩
    subst hK
    obtain ⟨p, dx, q, t, L, kvs, x, rfl, rfl, g, hm, hx, k⟩ := hW
    have g6 := g.l2
    show Rn F _ [monO F.K P w CM p dx q t kvs, .fz (intN x), .no] _
    obtain ⟨wd, w1, w2, w3, w4⟩ := g.word hx
    have hsh := wordsOf_short _ wd (List.mem_of_getElem? w1)
    have g2 := g.n2
    have gl := g.len
    refine rn_ret (ev_lc (iw_str (ev_op (ev_meth ?_))))
    walk_at "ev"
    refine ⟨p, dx, _, _, 0, rfl, rfl, rfl, ?_⟩
    walk_at "ev"
    refine ⟨[], dx, CM, _, _, rfl, rfl, p, dx, q, t, L, kvs, rfl, rfl, g, hm, fun kvs' m1 m2 m3 _ => ?_⟩
    walk_at "ev"
    refine o_ixL (ds := (Mt.wordsOf (scanRows 0 t [])).map strS) (atI_nat (j := x) (map_get w1)) ?_
    refine ⟨wd, rfl, rfl, (by rw [signs_len]; omega), fun j acc δ' => acc = ((lets wd).take j).map intN ∧ δ' = [monO F.K P w CM p dx q t kvs', .fz (intN x), .no], ⟨by simp, rfl⟩, ?_, ?_, ?_⟩
    · rintro j acc δ' ⟨rfl, rfl⟩
      exact ⟨rfl, by simp; omega⟩
    · rintro F3 j d acc δ' hle3 hd3 ⟨rfl, rfl⟩
      try rw [← hle3.k]
      obtain ⟨c, hc, rfl⟩ := signs_item hd3
      obtain ⟨c1, c2⟩ := w2 c (List.mem_of_getElem? hc)
      obtain ⟨rest, ho⟩ := occ_let (c := c) c1 (by omega)
      have hlj : (lets wd)[j]? = some (c - 97) := by unfold lets; rw [List.getElem?_map, hc]; rfl
      walk_at "ev"
      refine ev_sindex ?_
      walk_at "ev"
      refine ⟨_, _, rest, rfl, ho, _, rfl, _, rfl, ?_, rfl⟩
      rw [List.take_succ, hlj]
      simp
    · rintro acc δ' q3 hq3 ⟨rfl, rfl⟩
      have e : (lets wd).take (signsD wd).length = pathOf t x := by rw [signs_len, ← lets_len, List.take_length, w4]
      rw [e]
      exact ret _ _ _ p rfl pins_ins pins_ins (k kvs' q3 m1 m3) (fun a ha => ha)
abbrev s_Monoid_product : Stmt := inClass (top 21) 10
abbrev N_Monoid_product : List Str := ["self", "one", "other", "key", "letter"]
theorem sc_Monoid_product : FnScope N_Monoid_product ["self", "one", "other"] (defScope s_Monoid_product) := ⟨rfl, rfl, rfl, by decide +kernel, rfl, by decide +kernel, by decide +kernel⟩

theorem ok_product {f : Addr} {fd : FuncData} {CM : Addr} (Fn : Fun K "product" "Monoid.product" s_Monoid_product f fd) (M : MC K CM) (m_path_of : Met P w K mg base 2 CM "path_of" (SpO K (Wpath K P w CM))) : FnOk P w K mg base CX0 3 f fd ["self", "one", "other"] (SpO K (Wtimes K P w CM)) := by
  refine Fn.ok sc_Monoid_product (fun vs H Q E h => ?_) (fun cdv A outer s H vs Q E hr h => ?_)
  · obtain ⟨G, v0, ws, r0, as, post, rfl, _, _, _, _, da, ⟨p, dx, q, t, L, kvs, x, y, _, rfl, _⟩, _⟩ := h
    have := DpAll.len da
    simpa using this
  · refine ⟨_, (pss_cons (ps_set (i := 3) sc_Monoid_product.nd rfl (Or.inl rfl) (pe_tup (pa_cons pe_str (pa_cons (pv 2) pa_nil))))
 (pss_cons (ps_if (pt_cmp (pc_dnotinM P w hr.u3 (pv 3) (pe_fld' K (pv 0) rfl))) (pss_one (ps_asg (pe_mt m_path_of hr (by decide) (pv 0) (pa_cons (pv 2) pa_nil)) (pg_sub (pe_fld' K (pv 0) rfl) (pv 3) (set_mixR P w hr.u3)))) pss_nil)
 (pss_cons (ps_for PassesOwn.never rfl (pi_list' K (pe_dgetM P w hr.u3 (pe_fld' K (pv 0) rfl) (pv 3) (fun _ _ => rfl))) (pg_name (i := 4) sc_Monoid_product.nd rfl (Or.inl rfl)) (pss_one (ps_set (i := 1) sc_Monoid_product.nd rfl (Or.inl rfl) (pe_ix (ix_tup' K) (pe_ix (ix_tup' K) (pe_fld' K (pv 0) rfl) (pv 1) (fun _ _ => rfl)) (pv 4) (fun _ _ => rfl)))))
 (pss_one (ps_ret (pv 1)))))), bodyO h fun F r0 as post hK hio hW ret => ?_⟩
    subst hK
    obtain ⟨p, dx, q, t, L, kvs, x, y, rfl, rfl, g, hm, hx, hy, k⟩ := hW
    obtain ⟨_, hlt⟩ := g.path hy
    show Rn F _ [monO F.K P w CM p dx q t kvs, .fz (intN x), .fz (intN y), .no, .no] _
    walk_at "ev"
    refine ⟨[_, _], rfl, (by show 2 ≤ sizeLine; decide), ?_⟩
    have ekey : PyData.tuple [PyData.str "path", intN y] = datK (pathK y) := rfl
    rw [ekey]
    refine ⟨_, rfl, ?_⟩
    have main : ∀ (kvs' : List (MK × PyData)), MemOk t kvs' → mlook kvs' (pathK y) = some (pathD t y) → Nx F (Ends.nx (Ends.mk ((tSeq (tFor (iList F.K (tDGetM P w (tFld F.K (tVar 0) "memory") (tVar 3))) (gName 4) (tAsg (tOp (rIxT F.K) (tOp (rIxT F.K) (tFld F.K (tVar 0) "right") (tVar 1)) (tVar 4)) (gName 1))) (tRet (tVar 1))) { nx := fun _ H' => Q .non H', rt := Q }) Q (fun _ _ => False) (fun _ _ => False))) [monO F.K P w CM p dx q t kvs', .fz (intN x), .fz (intN y), .fz (datK (pathK y)), .no] := by
      intro kvs' m1 m2
      refine nx_seq (D := { nx := fun _ H' => Q .non H', rt := Q }) ?_
      refine rn_seq (rn_for (iw_list (ev_dgetM ?_)))
      refine ev_fldA ?_
      walk_at "ev"
      refine ⟨p, dx, CM, _, _, 0, q, rfl, rfl, M.cls, M.n_memory, rfl, ?_⟩
      walk_at "ev"
      refine ⟨pathK y, kvs', pathD t y, rfl, lay_path y, .ins 0 rfl (by simp), m2, _, rfl, ?_⟩
      generalize pathOf t y = path at *
      refine ⟨fun i δ' => ∃ (s4 : SD), δ' = [monO F.K P w CM p dx q t kvs', .fz (intN (act t x (path.take i))), .fz (intN y), .fz (datK (pathK y)), s4], ⟨.no, by simp [act]⟩, ?_, ?_⟩
      · rintro F' i d δ' N hle hd ⟨s4, rfl⟩ hN
        try rw [← hle.k]
        have M' : MC F'.K CM := by rw [hle.k]; exact M
        obtain ⟨l, hl2, rfl⟩ := map_item hd
        have hxl : act t x (path.take i) < t.length := g.act_lt _ _ hx fun m hm => hlt m (List.mem_of_mem_take hm)
        obtain ⟨rx, h1, h2, h3⟩ := g.col hxl (hlt l (List.mem_of_getElem? hl2))
        refine rn_asgN (i := 4) rfl ?_
        walk_at "ev"
        refine ev_fldZ ?_
        walk_at "ev"
        refine ⟨p, dx, CM, _, _, 0, rowsT t, rfl, rfl, M'.cls, M'.n_right, rfl, ?_⟩
        walk_at "ev"
        refine o_ixT (ds := t.map tupN) (atI_nat (j := act t x (path.take i)) (map_get h1)) ?_
        walk_at "ev"
        refine o_ixT (ds := rx.map intN) (atI_nat (j := l) (map_get h2)) ?_
        refine ⟨_, rfl, ?_⟩
        refine hN _ ⟨.fz (intN l), ?_⟩
        have e : path.take (i + 1) = path.take i ++ [l] := by rw [List.take_succ, hl2]; rfl
        rw [e, act_snoc]
        try rw [hle.k]
        rfl
      · rintro δ' ⟨s4, rfl⟩
        rw [List.length_map, List.take_length]
        walk_at "ev"
        exact ret _ _ _ p rfl pins_ins pins_ins (k kvs' m1) (fun a ha => ha)
    refine nx_seq (rn_seq (rn_if (t_B (ev_dnotinM ?_))))
    walk_at "ev"
    refine ⟨lay_path y, ?_⟩
    refine ev_fldA ?_
    walk_at "ev"
    refine ⟨p, dx, CM, _, _, 0, q, rfl, rfl, M.cls, M.n_memory, rfl, ?_⟩
    refine ⟨q, kvs, rfl, .ins 0 rfl (by simp), _, rfl, ?_⟩
    cases hmw : mlook kvs (pathK y) with
    | none =>
      refine (if_pos (by simp)).mpr ?_
      refine rn_setMI (SL.E.freeze (ev_meth ?_))
      walk_at "ev"
      refine ⟨p, dx, _, _, 0, rfl, rfl, rfl, ?_⟩
      walk_at "ev"
      refine ⟨[_], dx, CM, _, _, rfl, rfl, p, dx, q, t, L, kvs, y, rfl, rfl, g, hm, hy, fun kvs' p1 m1 m2 hp1 => ⟨p1, _, hp1 p1 (by simp [SD.fp]), rfl, _, rfl, ?_⟩⟩
      refine ev_fldA ?_
      walk_at "ev"
      refine ⟨p, dx, CM, _, _, 0, q, rfl, rfl, M.cls, M.n_memory, rfl, ?_⟩
      walk_at "ev"
      have hlm := m1.len
      have g2 := g.n2
      have hn' : mlook kvs' (pathK y) = none := by rw [m2 _ (by simp [pathK, wordsK])]; exact hmw
      refine ⟨pathK y, 0, p, dx, CM, _, kvs', rfl, lay_path y, rfl, hn', by omega, ?_⟩
      exact main _ (m1.put hn' (.inr ⟨y, hy, rfl⟩)) (mlook_snoc hn')
    | some d =>
      have hd := hm.path hmw
      subst hd
      refine (if_neg (by simp)).mpr ?_
      refine rn_next ?_
      exact main kvs hm hmw
abbrev s_Monoid_times : Stmt := inClass (top 21) 11
abbrev N_Monoid_times : List Str := ["self", "one", "other"]
theorem sc_Monoid_times : FnScope N_Monoid_times ["self", "one", "other"] (defScope s_Monoid_times) := ⟨rfl, rfl, rfl, by decide +kernel, rfl, by decide +kernel, by decide +kernel⟩

theorem ok_times {f : Addr} {fd : FuncData} {CM : Addr} (Fn : Fun K "times" "Monoid.times" s_Monoid_times f fd) (m_check_number : Met P w K mg base 2 CM "check_number" (SpO K (Wcheck K P w CM))) (m_product : Met P w K mg base 3 CM "product" (SpO K (Wtimes K P w CM))) : FnOk P w K mg base CX0 4 f fd ["self", "one", "other"] (SpO K (Wtimes K P w CM)) := by
  refine Fn.ok sc_Monoid_times (fun vs H Q E h => ?_) (fun cdv A outer s H vs Q E hr h => ?_)
  · obtain ⟨G, v0, ws, r0, as, post, rfl, _, _, _, _, da, ⟨p, dx, q, t, L, kvs, x, y, _, rfl, _⟩, _⟩ := h
    have := DpAll.len da
    simpa using this
  · refine ⟨_, (pss_cons (ps_expr (pe_mt m_check_number hr (by decide) (pv 0) (pa_cons (pv 1) pa_nil)))
 (pss_cons (ps_expr (pe_mt m_check_number hr (by decide) (pv 0) (pa_cons (pv 2) pa_nil)))
 (pss_one (ps_ret (pe_mt m_product hr (by decide) (pv 0) (pa_cons (pv 1) (pa_cons (pv 2) pa_nil))))))), bodyO h fun F r0 as post hK hio hW ret => ?_⟩
    subst hK
    obtain ⟨p, dx, q, t, L, kvs, x, y, rfl, rfl, g, hm, hx, hy, k⟩ := hW
    show Rn F _ [monO F.K P w CM p dx q t kvs, .fz (intN x), .fz (intN y)] _
    refine rn_seq (rn_drop (ev_meth ?_))
    walk_at "ev"
    refine ⟨p, dx, _, _, 0, rfl, rfl, rfl, ?_⟩
    walk_at "ev"
    refine ⟨[_], dx, CM, _, _, rfl, rfl, p, dx, q, t, kvs, x, rfl, rfl, hx, fun _ => ?_⟩
    refine nx_seq (rn_seq (rn_drop (ev_meth ?_)))
    walk_at "ev"
    refine ⟨p, dx, _, _, 0, rfl, rfl, rfl, ?_⟩
    walk_at "ev"
    refine ⟨[_], dx, CM, _, _, rfl, rfl, p, dx, q, t, kvs, y, rfl, rfl, hy, fun _ => ?_⟩
    refine nx_seq (rn_ret (ev_meth ?_))
    walk_at "ev"
    refine ⟨p, dx, _, _, 0, rfl, rfl, rfl, ?_⟩
    walk_at "ev"
    refine ⟨[_, _], dx, CM, _, _, rfl, rfl, p, dx, q, t, L, kvs, x, y, rfl, rfl, g, hm, hx, hy, fun kvs' m1 _ => ?_⟩
    exact ret _ _ _ p rfl pins_ins pins_ins (k kvs' m1) (fun a ha => ha)
end
end My

namespace My
open PySem L2 SL Mt Mx
local macro_rules | `(tactic| walk_at "e1") => `(tactic| first
  | with_reducible refine nx_seq ?_ | with_reducible refine rn_seq ?_
  | with_reducible refine rn_set ?_ | with_reducible refine rn_ret ?_ | with_reducible refine rn_if ?_ | with_reducible refine rn_drop ?_ | with_reducible refine rn_next ?_
  | with_reducible refine ev_int ?_ | with_reducible refine ev_str ?_ | with_reducible refine ev_bl ?_ | with_reducible refine ev_non ?_
  | ((with_reducible refine' ev_fz ?vv ?_); (case vv => exact rfl))
  | ((with_reducible refine' ev_ol ?vv ?_); (case vv => exact rfl))
  | ((with_reducible refine' ev_al ?vv ?_); (case vv => exact rfl))
  | with_reducible refine ev_op ?_ | with_reducible refine ev_un ?_
  | with_reducible refine o_int ?_ | with_reducible refine o_bl ?_ | with_reducible refine u_int ?_
  | with_reducible refine o_eqI ?_ | with_reducible refine o_neI ?_ | with_reducible refine o_eqS ?_ | with_reducible refine o_neS ?_
  | with_reducible refine ev_isi ?_ | with_reducible refine ev_isi2 ?_ | with_reducible refine ev_cb ?_ | with_reducible refine a_one ?_ | with_reducible refine a_cons ?_ | with_reducible refine a_nil ?_
  | with_reducible refine b_abs ?_ | with_reducible refine b_int ?_ | with_reducible refine b_intb ?_
  | with_reducible refine b_lenL ?_ | with_reducible refine b_lenT ?_
  | with_reducible refine b_tupO ?_ | with_reducible refine b_tupL ?_ | with_reducible refine b_tupT ?_ | with_reducible refine t_yes ?_ | with_reducible refine iteT ?_ | with_reducible refine iteF ?_
  | with_reducible refine t_test ?_ | with_reducible refine t_B ?_ | with_reducible refine t_not ?_ | with_reducible refine t_and ?_ | with_reducible refine t_or ?_
  | with_reducible refine ev_lst ?_ | with_reducible refine ev_tup ?_ | with_reducible refine ev_callM ?_ | with_reducible refine ev_callF ?_ | with_reducible refine rn_setL ?_ | with_reducible refine rn_setDT ?_ | with_reducible refine rn_asg ?_ | ((with_reducible refine' ga_tup ?vv ?_); (case vv => exact rfl)) | with_reducible refine gas_nil ?_ | ((with_reducible refine' gas_name ?vv ?_); (case vv => exact rfl)) | ((with_reducible refine' rn_asgN ?vv ?_); (case vv => exact rfl))
  | with_reducible refine rn_par3 ?_ | with_reducible refine rn_par ?_ | with_reducible refine ev_tupRg ?_ | with_reducible refine ev_listRg ?_ | with_reducible refine ev_disp1T ?_ | with_reducible refine ev_dgetT ?_ | with_reducible refine ev_dnotinT ?_
  | with_reducible refine ev_append ?_ | with_reducible refine ev_extend ?_ | with_reducible refine ev_reverse ?_ | with_reducible refine ev_revL ?_
  | with_reducible refine ev_chain ?_ | with_reducible refine ev_and ?_ | with_reducible refine ev_or ?_ | with_reducible refine ev_not ?_ | with_reducible refine ev_if ?_
  | ((with_reducible refine' ev_oi ?vv ?_); (case vv => exact rfl)) | ((with_reducible refine' ev_ot ?vv ?_); (case vv => exact rfl)) | ((with_reducible refine' ev_od ?vv ?_); (case vv => exact rfl))
  | refine ⟨_, rfl, ?_⟩)
local macro_rules | `(tactic| walk_at "ev") => `(tactic| repeat (walk_at "e1"))

def Wpower (K : PySem.W.Frag) (P : Program) (w : World) (C : Addr) : WO := fun r0 as post => ∃ p dx q t L kvs x c, r0 = monO K P w C p dx q t kvs ∧ as = [intN x, intN c] ∧ Good t L ∧ MemOk t kvs ∧ x < t.length ∧ c ≤ 1000000000000000000000000000000 ∧ ∀ kvs', MemOk t kvs' → post (.fz (intN (powA t 0 x c))) (monO K P w C p dx q t kvs')
def Wcycle (K : PySem.W.Frag) (P : Program) (w : World) (C : Addr) : WO := fun r0 as post => ∃ p dx q t L kvs x, r0 = monO K P w C p dx q t kvs ∧ as = [intN x] ∧ Good t L ∧ MemOk t kvs ∧ x < t.length ∧ ∀ kvs' i k, MemOk t kvs' → Cyc (pw t x) i k → post (.fz (.tuple [intN i, .int ((k : Int) - (i : Int))])) (monO K P w C p dx q t kvs')
def seenD (f : Nat → Nat) (k : Nat) : List (Key × PyData) := (List.range k).map fun a => ((.inl (f a : Int) : Key), intN a)
theorem seenD_succ (f : Nat → Nat) (k : Nat) : seenD f (k + 1) = seenD f k ++ [((.inl (f k : Int) : Key), intN k)] := by
  unfold seenD
  rw [List.range_succ, List.map_append]
  rfl
theorem seenD_len (f : Nat → Nat) (k : Nat) : (seenD f k).length = k := by simp [seenD]
theorem seen_look (f : Nat → Nat) (k y : Nat) : (∃ a, a < k ∧ f a = y ∧ dlook (seenD f k) (.inl (y : Int)) = some (intN a)) ∨ ((∀ a, a < k → f a ≠ y) ∧ dlook (seenD f k) (.inl (y : Int)) = none) := by
  induction k with
  | zero => exact .inr ⟨fun a h => by omega, rfl⟩
  | succ k ih =>
    have key : dlook (seenD f (k + 1)) (.inl (y : Int)) = (dlook (seenD f k) (.inl (y : Int))).or (if f k = y then some (intN k) else none) := by
      rw [seenD_succ]
      unfold dlook
      rw [List.find?_append]
      by_cases z : f k = y
      · subst z
        cases (seenD f k).find? (fun kv => decide (kv.1 = (.inl (f k : Int) : Key))) <;> simp
      · have z' : ¬ (Sum.inl (f k : Int) : Key) = Sum.inl (y : Int) := fun e => z (by have := Sum.inl.inj e; omega)
        cases (seenD f k).find? (fun kv => decide (kv.1 = (.inl (y : Int) : Key))) <;> simp [z, z']
    rw [key]
    rcases ih with ⟨a, h1, h2, h3⟩ | ⟨h1, h2⟩
    · exact .inl ⟨a, by omega, h2, by rw [h3]; rfl⟩
    · by_cases z : f k = y
      · exact .inl ⟨k, by omega, z, by rw [h2, if_pos z]; rfl⟩
      · refine .inr ⟨fun a ha => ?_, by rw [h2, if_neg z]; rfl⟩
        by_cases e : a = k
        · subst e; exact z
        · exact h1 a (by omega)
theorem pigeon {f : Nat → Nat} {n k : Nat} (hf : ∀ a, f a < n) (h : ∀ a b, a < b → b < k → f a ≠ f b) : k ≤ n := by
  have nd : ((List.range k).map f).Nodup := by
    rw [List.nodup_iff_pairwise_ne, List.pairwise_map]
    refine List.pairwise_iff_getElem.mpr fun i j hi hj hij => ?_
    simp only [List.getElem_range]
    exact h i j hij (by simpa using hj)
  have := nodup_below n _ nd fun x hx => by
    obtain ⟨a, _, rfl⟩ := List.mem_map.mp hx
    exact hf a
  simpa using this
section
variable {P : Program} {w : World} {K : PySem.W.Frag} {mg : Str → Option Value} {base : Heap}
abbrev s_Monoid_power : Stmt := inClass (top 21) 12
abbrev N_Monoid_power : List Str := ["self", "number", "count", "found", "square"]
theorem sc_Monoid_power : FnScope N_Monoid_power ["self", "number", "count"] (defScope s_Monoid_power) := ⟨rfl, rfl, rfl, by decide +kernel, rfl, by decide +kernel, by decide +kernel⟩

theorem ok_power {f : Addr} {fd : FuncData} {CM : Addr} (Fn : Fun K "power" "Monoid.power" s_Monoid_power f fd) (C : Ct mg) (f_is_number : Cal P w K mg base 1 "is_number" (SpF K Wnum)) (m_check_number : Met P w K mg base 2 CM "check_number" (SpO K (Wcheck K P w CM))) (m_product : Met P w K mg base 3 CM "product" (SpO K (Wtimes K P w CM))) : FnOk P w K mg base CX0 4 f fd ["self", "number", "count"] (SpO K (Wpower K P w CM)) := by
  refine Fn.ok sc_Monoid_power (fun vs H Q E h => ?_) (fun cdv A outer s H vs Q E hr h => ?_)
  · obtain ⟨G, v0, ws, r0, as, post, rfl, _, _, _, _, da, ⟨p, dx, q, t, L, kvs, x, c, _, rfl, _⟩, _⟩ := h
    have := DpAll.len da
    simpa using this
  · refine ⟨_, (pss_cons (ps_expr (pe_mt m_check_number hr (by decide) (pv 0) (pa_cons (pv 1) pa_nil)))
 (pss_cons (ps_if (PW.pt (pw_or (pt_not (pt_val (pe_c f_is_number hr (by decide) rfl (pa_cons (pv 2) pa_nil)))) (pw_or1 (pt_not (pt_chain op_le op_le pe_int (pv 2) (pe_gc rfl C.g_MOST_COUNT)))))) (pss_one ps_never) pss_nil)
 (pss_cons (ps_par rfl sc_Monoid_power.nd (i := 3) (j := 4) rfl rfl (by decide) rfl rfl (pa_cons pe_int (pa_cons (pv 1) pa_nil)) rfl)
 (pss_cons (ps_while PassesOwn.never (pt_cmpR op_gt (pv 2) pe_int (nomark _)) (pss_cons (ps_if (pt_cmpR op_eq (pe_op op_and (pv 2) pe_int) pe_int (nomark _)) (pss_one (ps_set (i := 3) sc_Monoid_power.nd rfl (Or.inl rfl) (pe_mt m_product hr (by decide) (pv 0) (pa_cons (pv 3) (pa_cons (pv 4) pa_nil))))) pss_nil)
 (pss_one (ps_par rfl sc_Monoid_power.nd (i := 4) (j := 2) rfl rfl (by decide) rfl rfl (pa_cons (pe_mt m_product hr (by decide) (pv 0) (pa_cons (pv 4) (pa_cons (pv 4) pa_nil))) (pa_cons (pe_op op_shr (pv 2) pe_int) pa_nil)) rfl))))
 (pss_one (ps_ret (pv 3))))))), bodyO h fun F r0 as post hK hio hW ret => ?_⟩
    subst hK
    obtain ⟨p, dx, q, t, L, kvs, x, c, rfl, rfl, g, hm, hx, hc, k⟩ := hW
    show Rn F _ [monO F.K P w CM p dx q t kvs, .fz (intN x), .fz (intN c), .no, .no] _
    refine rn_seq (rn_drop (ev_meth ?_))
    walk_at "ev"
    refine ⟨p, dx, _, _, 0, rfl, rfl, rfl, ?_⟩
    walk_at "ev"
    refine ⟨[_], dx, CM, _, _, rfl, rfl, p, dx, q, t, kvs, x, rfl, rfl, hx, fun _ => ?_⟩
    walk_at "ev"
    refine ⟨[_], rfl, _, rfl, fun _ => ⟨_, rfl, ?_⟩⟩
    refine (if_neg (by simp [isNum])).mpr ?_
    walk_at "ev"
    refine ⟨_, _, rfl, rfl, ?_⟩
    walk_at "ev"
    rw [decide_eq_true (by omega : (0 : Int) ≤ (c : Int)), if_pos rfl]
    walk_at "ev"
    rw [decide_eq_true (show (c : Int) ≤ 10 ^ 30 by have e : (10 : Int) ^ 30 = 1000000000000000000000000000000 := by decide
                                                    rw [e]; omega)]
    refine (if_neg (by simp)).mpr ?_
    walk_at "ev"
    refine ⟨_, _, _, _, rfl, rfl, rfl, ?_⟩
    walk_at "ev"
    refine rn_while (fun m δ' => ∃ f s kvs', MemOk t kvs' ∧ f < t.length ∧ s < t.length ∧ powA t f s m = powA t 0 x c ∧ δ' = [monO F.K P w CM p dx q t kvs', .fz (intN x), .fz (intN m), .fz (intN f), .fz (intN s)]) c ⟨0, x, kvs, hm, g.n1, hx, rfl, rfl⟩ ?_
    rintro F' m δ' hle ⟨f, s, kvs', m1, hf, hs, hp, rfl⟩
    try rw [← hle.k]
    walk_at "ev"
    by_cases h0 : m = 0
    · rw [decide_eq_false (by omega : ¬ (m : Int) > 0)]
      refine (if_neg (by simp)).mpr ?_
      subst h0
      rw [powA_zero] at hp
      subst hp
      refine Nx.up hle ?_
      rw [hle.k]
      walk_at "ev"
      exact ret _ _ _ p rfl pins_ins pins_ins (k kvs' m1) (fun a ha => ha)
    · rw [decide_eq_true (by omega : (m : Int) > 0)]
      refine (if_pos rfl).mpr ?_
      intro N hN
      rw [powA_step _ _ _ _ h0] at hp
      walk_at "ev"
      rw [bit1]
      by_cases h1 : m % 2 = 1
      · rw [if_pos h1] at hp
        rw [h1, decide_eq_true (show ((1 : Nat) : Int) = 1 from rfl)]
        refine (if_pos rfl).mpr ?_
        refine rn_set (ev_meth ?_)
        walk_at "ev"
        refine ⟨p, dx, _, _, 0, rfl, rfl, rfl, ?_⟩
        walk_at "ev"
        refine ⟨[_, _], dx, CM, _, _, rfl, rfl, p, dx, q, t, L, kvs', f, s, rfl, rfl, g, m1, hf, hs, fun kvs2 m2 _ => ⟨_, rfl, ?_⟩⟩
        refine nx_seq (rn_par (a_cons (ev_meth ?_)))
        walk_at "ev"
        refine ⟨p, dx, _, _, 0, rfl, rfl, rfl, ?_⟩
        walk_at "ev"
        refine ⟨[_, _], dx, CM, _, _, rfl, rfl, p, dx, q, t, L, kvs2, s, s, rfl, rfl, g, m2, hs, hs, fun kvs3 m3 _ => ?_⟩
        refine a_one (ev_op ?_)
        walk_at "ev"
        refine o_intC (by decide) ?_
        refine ⟨_, _, _, _, rfl, rfl, rfl, ?_⟩
        have e2 : (m : Int) / 2 ^ (1 : Int).toNat = ((m / 2 : Nat) : Int) := by simp
        rw [e2]
        refine hN (m / 2) _ (by omega) ⟨mulE t f s, mulE t s s, kvs3, m3, g.mul_lt hf hs, g.mul_lt hs hs, hp, ?_⟩
        try rw [hle.k]
        rfl
      · rw [if_neg h1] at hp
        have h2 : m % 2 = 0 := by omega
        rw [h2, decide_eq_false (show ¬ ((0 : Nat) : Int) = 1 by decide)]
        refine (if_neg (by simp)).mpr ?_
        refine rn_next ?_
        refine nx_seq (rn_par (a_cons (ev_meth ?_)))
        walk_at "ev"
        refine ⟨p, dx, _, _, 0, rfl, rfl, rfl, ?_⟩
        walk_at "ev"
        refine ⟨[_, _], dx, CM, _, _, rfl, rfl, p, dx, q, t, L, kvs', s, s, rfl, rfl, g, m1, hs, hs, fun kvs3 m3 _ => ?_⟩
        refine a_one (ev_op ?_)
        walk_at "ev"
        refine o_intC (by decide) ?_
        refine ⟨_, _, _, _, rfl, rfl, rfl, ?_⟩
        have e2 : (m : Int) / 2 ^ (1 : Int).toNat = ((m / 2 : Nat) : Int) := by simp
        rw [e2]
        refine hN (m / 2) _ (by omega) ⟨f, mulE t s s, kvs3, m3, hf, g.mul_lt hs hs, hp, ?_⟩
        try rw [hle.k]
        rfl
abbrev s_Monoid_cycle : Stmt := inClass (top 21) 13
abbrev N_Monoid_cycle : List Str := ["self", "number", "seen", "power"]
theorem sc_Monoid_cycle : FnScope N_Monoid_cycle ["self", "number"] (defScope s_Monoid_cycle) := ⟨rfl, rfl, rfl, by decide +kernel, rfl, by decide +kernel, by decide +kernel⟩

theorem ok_cycle {f : Addr} {fd : FuncData} {CM : Addr} (Fn : Fun K "cycle" "Monoid.cycle" s_Monoid_cycle f fd) (B : Bt mg) (m_check_number : Met P w K mg base 2 CM "check_number" (SpO K (Wcheck K P w CM))) (m_product : Met P w K mg base 3 CM "product" (SpO K (Wtimes K P w CM))) : FnOk P w K mg base CX0 4 f fd ["self", "number"] (SpO K (Wcycle K P w CM)) := by
  refine Fn.ok sc_Monoid_cycle (fun vs H Q E h => ?_) (fun cdv A outer s H vs Q E hr h => ?_)
  · obtain ⟨G, v0, ws, r0, as, post, rfl, _, _, _, _, da, ⟨p, dx, q, t, L, kvs, x, _, rfl, _⟩, _⟩ := h
    have := DpAll.len da
    simpa using this
  · refine ⟨_, (pss_cons (ps_expr (pe_mt m_check_number hr (by decide) (pv 0) (pa_cons (pv 1) pa_nil)))
 (pss_cons (ps_par rfl sc_Monoid_cycle.nd (i := 2) (j := 3) rfl rfl (by decide) rfl rfl (pa_cons (pe_dnewK) (pa_cons pe_int pa_nil)) rfl)
 (pss_cons (ps_while PassesOwn.never (pt_cmp (pc_dnotin hr.u1 (pv 3) (pv 2))) (pss_cons (ps_asg (pe_callB call_lenD' rfl B.b_len (by decide +kernel) (pa_cons (pv 2) pa_nil)) (pg_sub (pv 2) (pv 3) (set_dict hr.u1)))
 (pss_one (ps_set (i := 3) sc_Monoid_cycle.nd rfl (Or.inl rfl) (pe_mt m_product hr (by decide) (pv 0) (pa_cons (pv 3) (pa_cons (pv 1) pa_nil)))))))
 (pss_one (ps_ret (pe_tup (pa_cons (pe_dget hr.u1 (pv 2) (pv 3) (fun _ _ => rfl)) (pa_cons (pe_op op_sub (pe_callB call_lenD' rfl B.b_len (by decide +kernel) (pa_cons (pv 2) pa_nil)) (pe_dget hr.u1 (pv 2) (pv 3) (fun _ _ => rfl))) pa_nil)))))))), bodyO h fun F r0 as post hK hio hW ret => ?_⟩
    subst hK
    obtain ⟨p, dx, q, t, L, kvs, x, rfl, rfl, g, hm, hx, k⟩ := hW
    have g2 := g.n2
    show Rn F _ [monO F.K P w CM p dx q t kvs, .fz (intN x), .no, .no] _
    refine rn_seq (rn_drop (ev_meth ?_))
    walk_at "ev"
    refine ⟨p, dx, _, _, 0, rfl, rfl, rfl, ?_⟩
    walk_at "ev"
    refine ⟨[_], dx, CM, _, _, rfl, rfl, p, dx, q, t, kvs, x, rfl, rfl, hx, fun _ => ?_⟩
    refine nx_seq (rn_seq (rn_par (a_cons (ev_dnewK fun qd hqd => ?_))))
    walk_at "ev"
    refine ⟨_, _, _, _, rfl, rfl, rfl, ?_⟩
    walk_at "ev"
    refine rn_while (fun m δ' => ∃ c kvs', m = t.length - c ∧ MemOk t kvs' ∧ (∀ a b, a < b → b < c → pw t x a ≠ pw t x b) ∧ δ' = [monO F.K P w CM p dx q t kvs', .fz (intN x), .od qd (seenD (pw t x) c), .fz (intN (pw t x c))]) (t.length - 0) ⟨0, kvs, rfl, hm, fun a b h1 h2 => by omega, rfl⟩ ?_
    rintro F' m δ' hle ⟨c, kvs', hmc, m1, hne, rfl⟩
    try rw [← hle.k]
    have hcn := pigeon (g.pw_lt hx) hne
    refine t_B (ev_dnotinK ?_)
    walk_at "ev"
    refine ⟨.inl (pw t x c : Int), rfl, ?_⟩
    walk_at "ev"
    refine ⟨qd, _, rfl, .od 2 rfl, _, rfl, ?_⟩
    rcases seen_look (pw t x) c (pw t x c) with ⟨a, ha1, ha2, ha3⟩ | ⟨ha1, ha2⟩
    · rw [ha3]
      refine (if_neg (by simp)).mpr ?_
      refine Nx.up hle ?_
      rw [hle.k]
      refine nx_seq (rn_ret (ev_tup (a_cons (ev_dgetK ?_))))
      walk_at "ev"
      refine ⟨.inl (pw t x c : Int), _, intN a, rfl, .od 2 rfl, ha3, ?_⟩
      refine a_one (ev_op ?_)
      walk_at "ev"
      refine b_lenD (.od 2 rfl) ?_
      rw [seenD_len]
      refine ev_dgetK ?_
      walk_at "ev"
      refine ⟨.inl (pw t x c : Int), _, intN a, rfl, .od 2 rfl, ha3, ?_⟩
      walk_at "ev"
      refine ⟨[_, _], rfl, (by show 2 ≤ sizeLine; decide), ?_⟩
      exact ret _ _ _ p rfl pins_ins pins_ins (k kvs' a c m1 ⟨ha1, ha2, hne⟩) (fun a ha => ha)
    · rw [ha2]
      refine (if_pos (by simp)).mpr ?_
      intro N hN
      have hne' : ∀ a b, a < b → b < c + 1 → pw t x a ≠ pw t x b := fun a b h1 h2 => by
        by_cases e : b = c
        · subst e; exact ha1 a h1
        · exact hne a b h1 (by omega)
      have hcn' := pigeon (g.pw_lt hx) hne'
      refine rn_seq (rn_setDO ?_)
      walk_at "ev"
      refine b_lenD (.od 2 rfl) ?_
      rw [seenD_len]
      walk_at "ev"
      refine ⟨.inl (pw t x c : Int), 2, _, rfl, rfl, by rw [seenD_len]; omega, ?_⟩
      have e1 : dput (seenD (pw t x) c) (.inl (pw t x c : Int)) (.int (c : Int)) = seenD (pw t x) (c + 1) := by rw [dput_new _ _ _ ha2, seenD_succ]
      rw [e1]
      refine nx_seq (rn_set (ev_meth ?_))
      walk_at "ev"
      refine ⟨p, dx, _, _, 0, rfl, rfl, rfl, ?_⟩
      walk_at "ev"
      refine ⟨[_, _], dx, CM, _, _, rfl, rfl, p, dx, q, t, L, kvs', pw t x c, x, rfl, rfl, g, m1, g.pw_lt hx c, hx, fun kvs2 m2 _ => ⟨_, rfl, ?_⟩⟩
      refine hN (t.length - (c + 1)) _ (by omega) ⟨c + 1, kvs2, rfl, m2, hne', ?_⟩
      try rw [hle.k]
      rfl
end
end My

namespace My
open PySem L2 SL Mt Mx
local macro_rules | `(tactic| walk_at "e1") => `(tactic| first
  | with_reducible refine nx_seq ?_ | with_reducible refine rn_seq ?_
  | with_reducible refine rn_set ?_ | with_reducible refine rn_ret ?_ | with_reducible refine rn_if ?_ | with_reducible refine rn_drop ?_ | with_reducible refine rn_next ?_
  | with_reducible refine ev_int ?_ | with_reducible refine ev_str ?_ | with_reducible refine ev_bl ?_ | with_reducible refine ev_non ?_
  | ((with_reducible refine' ev_fz ?vv ?_); (case vv => exact rfl))
  | ((with_reducible refine' ev_ol ?vv ?_); (case vv => exact rfl))
  | ((with_reducible refine' ev_al ?vv ?_); (case vv => exact rfl))
  | with_reducible refine ev_op ?_ | with_reducible refine ev_un ?_
  | with_reducible refine o_int ?_ | with_reducible refine o_bl ?_ | with_reducible refine u_int ?_
  | with_reducible refine o_eqI ?_ | with_reducible refine o_neI ?_ | with_reducible refine o_eqS ?_ | with_reducible refine o_neS ?_
  | with_reducible refine ev_isi ?_ | with_reducible refine ev_isi2 ?_ | with_reducible refine ev_cb ?_ | with_reducible refine a_one ?_ | with_reducible refine a_cons ?_ | with_reducible refine a_nil ?_
  | with_reducible refine b_abs ?_ | with_reducible refine b_int ?_ | with_reducible refine b_intb ?_
  | with_reducible refine b_lenL ?_ | with_reducible refine b_lenT ?_
  | with_reducible refine b_tupO ?_ | with_reducible refine b_tupL ?_ | with_reducible refine b_tupT ?_ | with_reducible refine t_yes ?_ | with_reducible refine iteT ?_ | with_reducible refine iteF ?_
  | with_reducible refine t_test ?_ | with_reducible refine t_B ?_ | with_reducible refine t_not ?_ | with_reducible refine t_and ?_ | with_reducible refine t_or ?_
  | with_reducible refine ev_lst ?_ | with_reducible refine ev_tup ?_ | with_reducible refine ev_callM ?_ | with_reducible refine ev_callF ?_ | with_reducible refine rn_setL ?_ | with_reducible refine rn_setDT ?_ | with_reducible refine rn_asg ?_ | ((with_reducible refine' ga_tup ?vv ?_); (case vv => exact rfl)) | with_reducible refine gas_nil ?_ | ((with_reducible refine' gas_name ?vv ?_); (case vv => exact rfl)) | ((with_reducible refine' rn_asgN ?vv ?_); (case vv => exact rfl))
  | with_reducible refine rn_par3 ?_ | with_reducible refine rn_par ?_ | with_reducible refine ev_tupRg ?_ | with_reducible refine ev_listRg ?_ | with_reducible refine ev_disp1T ?_ | with_reducible refine ev_dgetT ?_ | with_reducible refine ev_dnotinT ?_
  | with_reducible refine ev_append ?_ | with_reducible refine ev_extend ?_ | with_reducible refine ev_reverse ?_ | with_reducible refine ev_revL ?_
  | with_reducible refine ev_chain ?_ | with_reducible refine ev_and ?_ | with_reducible refine ev_or ?_ | with_reducible refine ev_not ?_ | with_reducible refine ev_if ?_
  | ((with_reducible refine' ev_oi ?vv ?_); (case vv => exact rfl)) | ((with_reducible refine' ev_ot ?vv ?_); (case vv => exact rfl)) | ((with_reducible refine' ev_od ?vv ?_); (case vv => exact rfl))
  | refine ⟨_, rfl, ?_⟩)
local macro_rules | `(tactic| walk_at "ev") => `(tactic| repeat (walk_at "e1"))

def WpickL : WM := fun ds0 as post => SrcD ds0 ∧ ∃ ds : List PyData, as = [.list ds] ∧ 1 ≤ ds.length ∧ ds.length ≤ 100000 ∧ ∀ d ds1, d ∈ ds → SrcD ds1 → post (.fz d) ds1
def WpickS : WM := fun ds0 as post => SrcD ds0 ∧ ∃ z : Str, as = [.str z] ∧ 1 ≤ z.length ∧ z.length ≤ 100000 ∧ ∀ c ds1, c ∈ z.cps.toList → SrcD ds1 → post (.fz (.str ⟨#[c]⟩)) ds1
def Wprod2 : WF := fun as post => ∃ (n : Nat) (x m : List Nat), as = [tupN x, tupN m] ∧ n ≤ 1000 ∧ IsMap n x ∧ IsMap n m ∧ post (.fz (tupN (comp x m)))
def Wpowers : WF := fun as post => ∃ (n : Nat) (x : List Nat), as = [tupN x] ∧ n ≤ 4 ∧ IsMap n x ∧ ∀ i k, Cyc (pwM n x) i k → k ≤ 100 → post (.fz (.tuple [.list ((List.range k).map fun a => tupN (pwM n x a)), intN i]))
def ltrS (L : Nat) : Str := Txt.slice "abcdef" none (some (L : Int))
def Wword : WM := fun ds0 as post => SrcD ds0 ∧ ∃ L : Nat, as = [.str (ltrS L)] ∧ 1 ≤ L ∧ L ≤ 6 ∧ ∀ wd ds1, WordL L wd → wd.length ≤ 100 → SrcD ds1 → post (.fz (.str wd)) ds1
theorem pw_again4 : ∀ a, a < 4 → ∀ b, b < 4 → ∀ c, c < 4 → ∀ d, d < 4 → pwM 4 [a, b, c, d] 16 = pwM 4 [a, b, c, d] 4 := by decide +kernel
/-- powers of a map of few points come again soon -/
theorem cyc_few {n : Nat} {x : List Nat} (hn : n ≤ 4) (h : IsMap n x) {k : Nat} (hne : ∀ a b, a < b → b < k → pwM n x a ≠ pwM n x b) : k ≤ 100 := by
  by_cases h4 : n = 4
  · subst h4
    obtain ⟨hl, hv⟩ := h
    match x, hl with
    | [a, b, c, d], _ =>
      have e := pw_again4 a (hv a (by simp)) b (hv b (by simp)) c (hv c (by simp)) d (hv d (by simp))
      rcases Nat.lt_or_ge 16 k with z | z
      · exact absurd e.symm (hne 4 16 (by omega) z)
      · omega
  · have nd : ((List.range k).map (pwM n x)).Nodup := by
      rw [List.nodup_iff_pairwise_ne, List.pairwise_map]
      refine List.pairwise_iff_getElem.mpr fun i j hi hj hij => ?_
      simp only [List.getElem_range]
      exact hne i j hij (by simpa using hj)
    have h1 := maps_most nd (fun y hy => by
      obtain ⟨a, _, rfl⟩ := List.mem_map.mp hy
      exact isMap_pw h a)
    have h2 : n ^ n ≤ 27 := by
      have : n = 0 ∨ n = 1 ∨ n = 2 ∨ n = 3 := by omega
      rcases this with z | z | z | z <;> subst z <;> decide
    simp at h1
    omega
theorem glued_toList (ys : List Str) : (Txt.join (Str.ofString "") ys).cps.toList = ys.flatMap fun y => y.cps.toList := by
  show (((ys.drop 1).foldl (fun acc p => acc ++ (Str.ofString "").cps ++ p.cps) (ys.headD Str.empty).cps).toList) = _
  have key : ∀ (l : List Str) (acc : Array Nat), (l.foldl (fun acc p => acc ++ (Str.ofString "").cps ++ p.cps) acc).toList = acc.toList ++ l.flatMap fun y => y.cps.toList := by
    intro l
    induction l with
    | nil => intro acc; simp
    | cons y r ih =>
      intro acc
      have e0 : (Str.ofString "").cps = #[] := by decide +kernel
      rw [List.foldl_cons, ih, e0]
      simp
  rw [key]
  cases ys with
  | nil => rfl
  | cons y r => rfl
theorem join_word {L : Nat} {cs : List Nat} (h : ∀ c ∈ cs, 97 ≤ c ∧ c < 97 + L) : WordL L (Txt.join (Str.ofString "") (cs.map fun c => (⟨#[c]⟩ : Str))) ∧ (Txt.join (Str.ofString "") (cs.map fun c => (⟨#[c]⟩ : Str))).length = cs.length := by
  have e : (Txt.join (Str.ofString "") (cs.map fun c => (⟨#[c]⟩ : Str))).cps.toList = cs := by
    rw [glued_toList]
    induction cs with
    | nil => rfl
    | cons c r ih =>
      rw [List.map_cons, List.flatMap_cons, ih fun d hd => h d (by simp [hd])]
      rfl
  refine ⟨fun c hc => h c (by rw [e] at hc; exact hc), ?_⟩
  show (Txt.join (Str.ofString "") (cs.map fun c => (⟨#[c]⟩ : Str))).cps.size = cs.length
  rw [← Array.length_toList, e]
theorem ltr_facts {L : Nat} (h1 : 1 ≤ L) (h6 : L ≤ 6) : (∀ c ∈ (ltrS L).cps.toList, 97 ≤ c ∧ c < 97 + L) ∧ (ltrS L).length = L ∧ (∀ c ∈ (Txt.slice (ltrS L) none (some 1)).cps.toList, 97 ≤ c ∧ c < 97 + L) ∧ (Txt.slice (ltrS L) none (some 1)).length = 1 ∧
    (∀ c ∈ (Txt.slice (ltrS L) (some (-1)) none).cps.toList, 97 ≤ c ∧ c < 97 + L) ∧ (Txt.slice (ltrS L) (some (-1)) none).length = 1 := by
  have h : L = 1 ∨ L = 2 ∨ L = 3 ∨ L = 4 ∨ L = 5 ∨ L = 6 := by omega
  rcases h with z | z | z | z | z | z <;> subst z <;> decide +kernel
section
variable {P : Program} {w : World} {K : PySem.W.Frag} {mg : Str → Option Value} {base : Heap}
abbrev s_law_pick : Stmt := top 25
abbrev N_law_pick : List Str := ["_law_source_here", "_law_some"]
theorem sc_law_pick : FnScope N_law_pick ["_law_source_here", "_law_some"] (defScope s_law_pick) := ⟨rfl, rfl, rfl, by decide +kernel, rfl, by decide +kernel, by decide +kernel⟩

theorem ok_pickL {f : Addr} {fd : FuncData} (Fn : Fun K "_law_pick" "_law_pick" s_law_pick f fd) (B : Bt mg) (f_law_draw : Cal P w K mg base 1 "_law_draw" (SpM K Wdraw)) : FnOk P w K mg base CX0 2 f fd ["_law_source_here", "_law_some"] (SpM K WpickL) := by
  refine Fn.ok sc_law_pick (fun vs H Q E h => ?_) (fun cdv A outer s H vs Q E hr h => ?_)
  · obtain ⟨G, p, xs, ds0, ws, as, post, rfl, _, _, _, _, da, ⟨_, ds, rfl, _⟩, _⟩ := h
    have := DpAll.len da
    simpa using this
  · refine ⟨_, (pss_one (ps_ret (pe_ix (ix_list' K) (pv 1) (pe_c f_law_draw hr (by decide) rfl (pa_cons (pv 0) (pa_cons (pe_callB (call_len_seq' K) rfl B.b_len (by decide +kernel) (pa_cons (pv 1) pa_nil)) pa_nil))) (fun _ _ => rfl)))), bodyM h fun F p ds0 as post hK hio hW ret => ?_⟩
    subst hK
    obtain ⟨hs, ds, rfl, l1, l2, k⟩ := hW
    show Rn F _ [.ol p ds0, .fz (.list ds)] _
    walk_at "ev"
    refine ⟨p, [_], 0, _, rfl, rfl, hs, (ds.length : Int), rfl, by omega, by omega, fun d ds1 d0 dm hs1 _ => ?_⟩
    obtain ⟨dn, rfl⟩ : ∃ n : Nat, d = (n : Int) := ⟨d.toNat, by omega⟩
    have hlt : dn < ds.length := by omega
    refine o_ixL (atI_nat (j := dn) (List.getElem?_eq_getElem hlt)) ?_
    exact ret _ _ _ rfl (k _ _ (List.getElem_mem hlt) hs1)
theorem ok_pickS {f : Addr} {fd : FuncData} (Fn : Fun K "_law_pick" "_law_pick" s_law_pick f fd) (B : Bt mg) (f_law_draw : Cal P w K mg base 1 "_law_draw" (SpM K Wdraw)) : FnOk P w K mg base CX0 2 f fd ["_law_source_here", "_law_some"] (SpM K WpickS) := by
  refine Fn.ok sc_law_pick (fun vs H Q E h => ?_) (fun cdv A outer s H vs Q E hr h => ?_)
  · obtain ⟨G, p, xs, ds0, ws, as, post, rfl, _, _, _, _, da, ⟨_, z, rfl, _⟩, _⟩ := h
    have := DpAll.len da
    simpa using this
  · refine ⟨_, (pss_one (ps_ret (pe_ix ix_str (pv 1) (pe_c f_law_draw hr (by decide) rfl (pa_cons (pv 0) (pa_cons (pe_callB call_len_str' rfl B.b_len (by decide +kernel) (pa_cons (pv 1) pa_nil)) pa_nil))) (fun _ _ => rfl)))), bodyM h fun F p ds0 as post hK hio hW ret => ?_⟩
    subst hK
    obtain ⟨hs, z, rfl, l1, l2, k⟩ := hW
    have hz : z.length ≤ sizeLine := Nat.le_trans l2 (by decide)
    show Rn F _ [.ol p ds0, .fz (.str z)] _
    walk_at "ev"
    refine b_lenS hz ?_
    walk_at "ev"
    refine ⟨p, [_], 0, _, rfl, rfl, hs, (z.length : Int), rfl, by omega, by omega, fun d ds1 d0 dm hs1 _ => ?_⟩
    obtain ⟨dn, rfl⟩ : ∃ n : Nat, d = (n : Int) := ⟨d.toNat, by omega⟩
    have hlt : dn < z.cps.toList.length := by rw [Array.length_toList]; show dn < z.length; omega
    refine o_ixS hz (atI_nat (j := dn) (List.getElem?_eq_getElem hlt)) ?_
    exact ret _ _ _ rfl (k _ _ (List.getElem_mem hlt) hs1)
abbrev s_law_product : Stmt := top 28
abbrev N_law_product : List Str := ["_law_one", "_law_other", "_law_image"]
theorem sc_law_product : FnScope N_law_product ["_law_one", "_law_other"] (defScope s_law_product) := ⟨rfl, rfl, rfl, by decide +kernel, rfl, by decide +kernel, by decide +kernel⟩

theorem ok_product2 {f : Addr} {fd : FuncData} (Fn : Fun K "_law_product" "_law_product" s_law_product f fd) (B : Bt mg) : FnOk P w K mg base CX0 1 f fd ["_law_one", "_law_other"] (SpF K Wprod2) := by
  refine Fn.ok sc_law_product (fun vs H Q E h => ?_) (fun cdv A outer s H vs Q E hr h => ?_)
  · obtain ⟨G, ds, post, _, da, ⟨n, x, m, rfl, _⟩, _⟩ := h
    exact DpAll.len da
  · refine ⟨_, (pss_one (ps_ret (pe_callTy (call_tuple_of' K) rfl B.b_tuple (by decide +kernel) (pa_cons (pe_lcv [2] (pe_lc (own := [("_law_image", 2)]) (g := gName 2) (tt := tYes) rfl sc_law_product.nd (pi_tup' K (pv 0)) (blkOk_by (own := [("_law_image", 2)]) (N := N_law_product) (by kernel_rfl)) (fun _ _ _ _ _ => pg_name (i := 2) sc_law_product.nd rfl (Or.inl rfl)) (fun _ _ _ _ _ => pts_nil) (fun _ _ _ _ _ => (pe_ix (ix_tup' K) (pv 1) (pv 2) (fun _ _ => rfl))))) pa_nil)))), bodyF h fun F ds post hK hio hW ret => ?_⟩
    subst hK
    obtain ⟨n, x, m, rfl, hn, ix, im, k⟩ := hW
    show Rn F _ [.fz (tupN x), .fz (tupN m), .no] _
    refine rn_ret (ev_cb (a_one (ev_lc (iw_tup ?_))))
    walk_at "ev"
    refine ⟨rfl, (by rw [List.length_map, ix.1]; omega), fun j2 acc δ' => acc = (comp (x.take j2) m).map intN ∧ δ' = [.fz (tupN x), .fz (tupN m), .no], ⟨by simp [comp], rfl⟩, ?_, ?_, ?_⟩
    · rintro j2 acc δ' ⟨rfl, rfl⟩
      exact ⟨rfl, by simp [comp]; omega⟩
    · rintro F4 j2 d4 acc δ' hle4 hd4 ⟨rfl, rfl⟩
      try rw [← hle4.k]
      obtain ⟨y, hy, rfl⟩ := map_item hd4
      have hyn : y < m.length := by rw [im.1]; exact ix.2 y (List.mem_of_getElem? hy)
      have hgm : (m.map intN)[y]? = some (intN (m.getD y 0)) := by rw [List.getElem?_map, List.getD_eq_getElem?_getD, List.getElem?_eq_getElem hyn]; rfl
      walk_at "ev"
      refine o_ixT (ds := m.map intN) (atI_nat (j := y) hgm) ?_
      refine ⟨_, rfl, _, rfl, ?_, rfl⟩
      rw [List.take_succ, hy]
      simp [comp]
    · rintro acc δ' q5 hq5 ⟨rfl, rfl⟩
      refine b_tupO ?_
      have e : comp (x.take (x.map intN).length) m = comp x m := by rw [List.length_map, List.take_length]
      rw [e]
      exact ret _ _ k
theorem shaped_tupN (x : List Nat) : SeqAt.shaped (tupN x) = true := shaped_of (lay_tup fun d hd => by obtain ⟨y, _, rfl⟩ := List.mem_map.mp hd; exact lay_int _) (Nat.le_trans (dep_tup (k := 0) fun d hd => by obtain ⟨y, _, rfl⟩ := List.mem_map.mp hd; exact dep_int _) (by decide))
theorem shaped_tups (S : List (List Nat)) : SeqAt.shaped (.list (S.map tupN)) = true := by
  refine shaped_of (lay_list fun d hd => ?_) (Nat.le_trans (dep_list (k := 1) fun d hd => ?_) (by decide))
  · obtain ⟨y, _, rfl⟩ := List.mem_map.mp hd
    exact lay_tup fun d hd => by obtain ⟨y, _, rfl⟩ := List.mem_map.mp hd; exact lay_int _
  · obtain ⟨y, _, rfl⟩ := List.mem_map.mp hd
    exact dep_tup (k := 0) fun d hd => by obtain ⟨y, _, rfl⟩ := List.mem_map.mp hd; exact dep_int _
theorem eqv_tup2 (x y : List Nat) : PyData.eqv (tupN x) (tupN y) = decide (x = y) := eqv_tupN x y
theorem any_tups (S : List (List Nat)) (y : List Nat) : ((S.map tupN).any fun e => PyData.eqv e (tupN y)) = decide (y ∈ S) := by
  rw [List.any_map]
  induction S with
  | nil => simp
  | cons a r ih =>
    rw [List.any_cons, ih]
    show (PyData.eqv (tupN a) (tupN y) || _) = _
    rw [eqv_tup2]
    by_cases z : a = y
    · subst z; simp
    · have z' : ¬ y = a := fun e => z e.symm
      simp [z, z']
abbrev s_law_powers : Stmt := top 29
abbrev N_law_powers : List Str := ["_law_images", "_law_found", "_law_power", "_law_turn"]
theorem sc_law_powers : FnScope N_law_powers ["_law_images"] (defScope s_law_powers) := ⟨rfl, rfl, rfl, by decide +kernel, rfl, by decide +kernel, by decide +kernel⟩

theorem ok_powers {f : Addr} {fd : FuncData} (Fn : Fun K "_law_powers" "_law_powers" s_law_powers f fd) (B : Bt mg) (f_law_product : Cal P w K mg base 1 "_law_product" (SpF K Wprod2)) : FnOk P w K mg base CX0 2 f fd ["_law_images"] (SpF K Wpowers) := by
  refine Fn.ok sc_law_powers (fun vs H Q E h => ?_) (fun cdv A outer s H vs Q E hr h => ?_)
  · obtain ⟨G, ds, post, _, da, ⟨n, x, rfl, _⟩, _⟩ := h
    exact DpAll.len da
  · refine ⟨_, (pss_cons (ps_par rfl sc_law_powers.nd (i := 1) (j := 2) rfl rfl (by decide) rfl rfl (pa_cons (pe_lst pa_nil) (pa_cons (pe_tupRg rfl rfl B.b_tuple (prg_1 rfl B.b_range (pe_callB (call_len_seq' K) rfl B.b_len (by decide +kernel) (pa_cons (pv 0) pa_nil)))) pa_nil)) rfl)
 (pss_cons (ps_for PassesOwn.never rfl (pi_range1 rfl B.b_range (pa_cons pe_int pa_nil)) (pg_name (i := 3) sc_law_powers.nd rfl (Or.inl rfl)) (pss_cons (ps_if (pt_cmpR (op_inD' K hr.u65) (pv 2) (pv 1) (rfl)) (pss_one (ps_ret (pe_tup (pa_cons (pv 1) (pa_cons (pe_bm' K PySem.F.plainAttrs_list PySem.F.slot_list_index PySem.F.type_list_index (mt_indexD' K hr.u65) (pv 1) (pa_cons (pv 2) pa_nil)) pa_nil))))) pss_nil)
 (pss_cons (ps_expr (pe_bm' K PySem.F.plainAttrs_list PySem.F.slot_list_append PySem.F.type_list_append mt_append (pv 1) (pa_cons (pv 2) pa_nil)))
 (pss_one (ps_set (i := 2) sc_law_powers.nd rfl (Or.inl rfl) (pe_c f_law_product hr (by decide) rfl (pa_cons (pv 2) (pa_cons (pv 0) pa_nil))))))))
 (pss_one (ps_ret (pe_tup (pa_cons (pv 1) (pa_cons pe_int pa_nil))))))), bodyF h fun F ds post hK hio hW ret => ?_⟩
    subst hK
    obtain ⟨n, x, rfl, hn, ix, k⟩ := hW
    show Rn F _ [.fz (tupN x), .no, .no, .no] _
    refine rn_seq (rn_par (a_cons (ev_lst ?_)))
    walk_at "ev"
    refine ⟨[], rfl, (by show 0 ≤ sizeLine; decide), fun p1 q1 => ?_⟩
    walk_at "ev"
    refine b_lenT (ds := x.map intN) ?_
    have lx : ((x.map intN).length : Int) = (n : Int) := by rw [List.length_map, ix.1]
    rw [lx]
    refine ⟨n, rfl, by omega, ?_⟩
    have ert : PyData.tuple (rgD n) = tupN (pwM n x 0) := rfl
    rw [ert]
    refine ⟨_, _, _, _, rfl, rfl, rfl, ?_⟩
    walk_at "ev"
    refine rn_for (iw_range1 ?_)
    walk_at "ev"
    refine ⟨by decide, by decide, fun i δ' => ∃ (s3 : SD), (∀ a b, a < b → b < i → pwM n x a ≠ pwM n x b) ∧ δ' = [.fz (tupN x), .ol p1 (((List.range i).map (pwM n x)).map tupN), .fz (tupN (pwM n x i)), s3], ⟨.no, fun a b h1 h2 => by omega, rfl⟩, ?_, ?_⟩
    · rintro F' i d δ' N hle hd ⟨s3, hne, rfl⟩ hN
      try rw [← hle.k]
      have hi := cyc_few hn ix hne
      refine rn_asgN (i := 3) rfl ?_
      refine rn_seq (rn_if (t_B (ev_op ?_)))
      walk_at "ev"
      refine o_inD (.al 1 rfl) (shaped_tupN _) (shaped_tups _) ?_
      rw [any_tups]
      refine ⟨_, rfl, ?_⟩
      by_cases hm : pwM n x i ∈ (List.range i).map (pwM n x)
      · obtain ⟨a, ha, hea⟩ := List.mem_map.mp hm
        have ha' : a < i := by simpa using ha
        rw [decide_eq_true hm]
        refine (if_pos rfl).mpr ?_
        refine Rn.freezeS (i := 1) rfl (by rw [hle.io]; exact q1) ?_
        walk_at "ev"
        refine ev_indexD ?_
        walk_at "ev"
        refine ⟨_, .fz, ?_⟩
        walk_at "ev"
        refine ⟨_, _, a, tupN (pwM n x a), rfl, .fz, shaped_tups _, shaped_tupN _, ?_, by rw [eqv_tup2, hea]; simp, ?_, ?_⟩
        · rw [List.getElem?_map, List.getElem?_map, List.getElem?_range ha']
          rfl
        · intro m z' hmz hz
          rw [List.getElem?_map, List.getElem?_map, List.getElem?_range (by omega : m < i)] at hz
          have : z' = tupN (pwM n x m) := by simpa using hz.symm
          subst this
          rw [eqv_tup2, decide_eq_false]
          intro e
          exact hne m a hmz ha' (e.trans hea.symm)
        · refine ⟨[_, _], rfl, (by show 2 ≤ sizeLine; decide), ?_⟩
          rw [List.map_map]
          exact (ret _ _ (k a i ⟨ha', hea, hne⟩ hi)).up hle
      · rw [decide_eq_false hm]
        refine (if_neg (by simp)).mpr ?_
        walk_at "ev"
        refine ⟨p1, 1, _, rfl, rfl, ?_⟩
        walk_at "ev"
        refine ⟨_, _, rfl, rfl, by simp; omega, ?_⟩
        walk_at "ev"
        refine ⟨[_, _], rfl, n, pwM n x i, x, rfl, by omega, isMap_pw ix i, ix, fun _ => ⟨_, rfl, ?_⟩⟩
        refine hN _ ⟨.fz d, fun a b h1 h2 => ?_, ?_⟩
        · by_cases e : b = i
          · subst e
            intro z
            exact hm (List.mem_map.mpr ⟨a, by simpa using h1, z⟩)
          · exact hne a b h1 (by omega)
        · have e1 : ((List.range i).map (pwM n x)).map tupN ++ [tupN (pwM n x i)] = ((List.range (i + 1)).map (pwM n x)).map tupN := by rw [List.range_succ]; simp
          rw [e1]
          rfl
    · rintro δ' ⟨s3, hne, rfl⟩
      have := cyc_few hn ix hne
      rw [rangeD_len] at this
      exact absurd this (by decide)
abbrev s_law_word : Stmt := top 30
abbrev N_law_word : List Str := ["_law_source_here", "_law_letters", "_law_many", "_law_some", "_law_turn"]
theorem sc_law_word : FnScope N_law_word ["_law_source_here", "_law_letters"] (defScope s_law_word) := ⟨rfl, rfl, rfl, by decide +kernel, rfl, by decide +kernel, by decide +kernel⟩

theorem ok_word {f : Addr} {fd : FuncData} (Fn : Fun K "_law_word" "_law_word" s_law_word f fd) (B : Bt mg) (f_law_draw : Cal P w K mg base 1 "_law_draw" (SpM K Wdraw)) (f_law_pick : Cal P w K mg base 2 "_law_pick" (SpM K WpickL)) (f_law_pickS : Cal P w K mg base 2 "_law_pick" (SpM K WpickS)) : FnOk P w K mg base CX0 3 f fd ["_law_source_here", "_law_letters"] (SpM K Wword) := by
  refine Fn.ok sc_law_word (fun vs H Q E h => ?_) (fun cdv A outer s H vs Q E hr h => ?_)
  · obtain ⟨G, p, xs, ds0, ws, as, post, rfl, _, _, _, _, da, ⟨_, L, rfl, _⟩, _⟩ := h
    have := DpAll.len da
    simpa using this
  · refine ⟨_, (pss_cons (ps_set (i := 2) sc_law_word.nd rfl (Or.inl rfl) (pe_c f_law_pick hr (by decide) rfl (pa_cons (pv 0) (pa_cons (pe_lst (pa_cons pe_int (pa_cons pe_int (pa_cons pe_int (pa_cons pe_int (pa_cons pe_int (pa_cons pe_int (pa_cons pe_int pa_nil)))))))) pa_nil))))
 (pss_cons (ps_set (i := 3) sc_law_word.nd rfl (Or.inr rfl) (pe_ifExp (pt_cmpR op_gt (pe_c f_law_draw hr (by decide) rfl (pa_cons (pv 0) (pa_cons pe_int pa_nil))) pe_int (nomark _)) (pv 1) (pe_op op_add_str (pe_slice C8.sl_txt (pv 1) po_none (po_some pe_int)) (pe_slice C8.sl_txt (pv 1) (po_some (pe_un un_neg pe_int)) po_none))))
 (pss_one (ps_ret (pe_bm' K PySem.F.plainAttrs_str PySem.F.slot_str_join PySem.F.type_str_join (mt_join' K) pe_str (pa_cons (pe_lcv [4] (pe_lc (own := [("_law_turn", 4)]) (g := gName 4) (tt := tYes) rfl sc_law_word.nd (pi_range1 rfl B.b_range (pa_cons (pv 2) pa_nil)) (blkOk_by (own := [("_law_turn", 4)]) (N := N_law_word) (by kernel_rfl)) (fun _ _ _ _ _ => pg_name (i := 4) sc_law_word.nd rfl (Or.inl rfl)) (fun _ _ _ _ _ => pts_nil) (fun _ _ _ _ _ => (pe_c f_law_pickS hr (by decide) rfl (pa_cons (pv 0) (pa_cons (pv 3) pa_nil)))))) pa_nil)))))), bodyM h fun F p ds0 as post hK hio hW ret => ?_⟩
    subst hK
    obtain ⟨hs, L, rfl, l1, l6, k⟩ := hW
    obtain ⟨t1, t2, t3, t4, t5, t6⟩ := ltr_facts l1 l6
    show Rn F _ [.ol p ds0, .fz (.str (ltrS L)), .no, .no, .no] _
    refine rn_seq (rn_set (ev_callM (a_cons (ev_ol rfl (a_one (SL.E.freeze (ev_lst ?_)))))))
    walk_at "ev"
    refine ⟨[_, _, _, _, _, _, _], rfl, (by show 7 ≤ sizeLine; decide), fun p1 q1 => ⟨p1, _, q1, rfl, ?_⟩⟩
    refine ⟨p, [_], 0, _, rfl, rfl, hs, _, rfl, by decide, by decide, fun d ds1 hd hs1 _ => ⟨_, rfl, ?_⟩⟩
    obtain ⟨many, rfl, hmany⟩ : ∃ m : Nat, d = intN m ∧ m ≤ 100 := by
      simp only [List.mem_cons, List.not_mem_nil, or_false] at hd
      rcases hd with z | z | z | z | z | z | z
      · exact ⟨0, z, by decide⟩
      · exact ⟨1, z, by decide⟩
      · exact ⟨2, z, by decide⟩
      · exact ⟨5, z, by decide⟩
      · exact ⟨20, z, by decide⟩
      · exact ⟨99, z, by decide⟩
      · exact ⟨100, z, by decide⟩
    have tail : ∀ (z : Str) (ds2 : List PyData), SrcD ds2 → (∀ c ∈ z.cps.toList, 97 ≤ c ∧ c < 97 + L) → 1 ≤ z.length → z.length ≤ 100 → SL.E F (tBM F.K "str" (rJoin F.K) (tC (.str "")) (tCons (tLc (iRng1 (tCons (tVar 2) tNil)) (gName 4) tYes (tCall (SpM F.K WpickS) [] E0 (tCons (tVar 0) (tCons (tVar 3) tNil))) [4]) tNil)) [.ol p ds2, .fz (.str (ltrS L)), .fz (intN many), .fz (.str z), .no] fun r δ1 => Ro F Q r δ1 := by
      intro z ds2 hs2 hz z1 z2
      refine ev_join (ev_str ⟨_, rfl, ?_⟩)
      refine ev_lc (iw_range1 ?_)
      walk_at "ev"
      refine ⟨by omega, by omega, rfl, (by rw [rangeD_len, Int.toNat_natCast]; omega), fun j acc δ' => ∃ (cs : List Nat) (ds3 : List PyData), acc = cs.map (fun c => PyData.str ⟨#[c]⟩) ∧ cs.length = j ∧ (∀ c ∈ cs, 97 ≤ c ∧ c < 97 + L) ∧ SrcD ds3 ∧ δ' = [.ol p ds3, .fz (.str (ltrS L)), .fz (intN many), .fz (.str z), .no], ⟨[], ds2, rfl, rfl, by simp, hs2, rfl⟩, ?_, ?_, ?_⟩
      · rintro j acc δ' ⟨cs, ds3, rfl, hl, _, _, rfl⟩
        exact ⟨rfl, by simp [hl]⟩
      · rintro F3 j d3 acc δ' hle3 hd3 ⟨cs, ds3, rfl, hl, hcs, hs3, rfl⟩
        try rw [← hle3.k]
        walk_at "ev"
        refine ⟨p, [_], 0, _, rfl, rfl, hs3, z, rfl, z1, by omega, fun c ds4 hc hs4 _ => ⟨_, rfl, _, rfl, cs ++ [c], ds4, by simp, by simp [hl], fun c' hc' => ?_, hs4, rfl⟩⟩
        rcases List.mem_append.mp hc' with y | y
        · exact hcs c' y
        · have : c' = c := by simpa using y
          subst this
          exact hz c' hc
      · rintro acc δ' q3 hq3 ⟨cs, ds3, rfl, hl, hcs, hs3, rfl⟩
        rw [rangeD_len, Int.toNat_natCast] at hl
        obtain ⟨j1, j2⟩ := join_word hcs
        refine ⟨cs.map fun c => ⟨#[c]⟩, by rw [List.map_map]; exact .ol, ?_, ?_⟩
        · have e1 : ((cs.map fun c => (⟨#[c]⟩ : Str)).map (·.length)).sum = cs.length := by
            rw [List.map_map]
            clear hl hcs j1 j2
            induction cs with
            | nil => rfl
            | cons c r ih =>
              rw [List.map_cons, List.sum_cons, ih, List.length_cons]
              show 1 + r.length = r.length + 1
              omega
          have e2 : (Str.ofString "").length = 0 := by decide +kernel
          rw [e1, e2, List.length_map]
          omega
        · exact ret _ _ _ rfl (k _ _ j1 (by omega) hs3)
    refine nx_seq (rn_seq (rn_set (ev_if ?_)))
    walk_at "ev"
    refine ⟨p, [_], 0, _, rfl, rfl, hs1, 3, rfl, by decide, by decide, fun dr ds2 d0 dm hs2 _ => ?_⟩
    walk_at "ev"
    refine ite2 (fun hc => ?_) (fun hc => ?_)
    · walk_at "ev"
      exact tail _ _ hs2 t1 (by omega) (by omega)
    · walk_at "ev"
      refine ev_slXto ?_
      walk_at "ev"
      refine ⟨Nat.le_trans (show (ltrS L).length ≤ 6 by omega) (by decide), ?_⟩
      walk_at "ev"
      refine ev_slXfrom ?_
      walk_at "ev"
      refine ⟨Nat.le_trans (show (ltrS L).length ≤ 6 by omega) (by decide), ?_⟩
      walk_at "ev"
      refine o_addS (by rw [t4]; show 1 + (Txt.slice (ltrS L) (some (-1)) none).length ≤ _; rw [t6]; decide) ?_
      walk_at "ev"
      refine tail _ _ hs2 (fun c hc => ?_) ?_ ?_
      · have e : (Txt.slice (ltrS L) none (some 1) ++ Txt.slice (ltrS L) (some (-1)) none).cps.toList = (Txt.slice (ltrS L) none (some 1)).cps.toList ++ (Txt.slice (ltrS L) (some (-1)) none).cps.toList := by
          show (_ ++ _ : Array Nat).toList = _
          rw [Array.toList_append]
        have hc' := hc
        rw [show (Txt.slice (ltrS L) none (some 1) ++ Txt.slice (ltrS L) (some (-1)) none).cps.toList = _ from e] at hc'
        rcases List.mem_append.mp hc' with y | y
        · exact t3 c y
        · exact t5 c y
      · rw [strLen, t4]; omega
      · rw [strLen, t4]; show 1 + (Txt.slice (ltrS L) (some (-1)) none).length ≤ 100; omega
end
end My

namespace My
open PySem L2 SL Mt Mx
local macro_rules | `(tactic| walk_at "e1") => `(tactic| first
  | with_reducible refine nx_seq ?_ | with_reducible refine rn_seq ?_
  | with_reducible refine rn_set ?_ | with_reducible refine rn_ret ?_ | with_reducible refine rn_if ?_ | with_reducible refine rn_drop ?_ | with_reducible refine rn_next ?_
  | with_reducible refine ev_int ?_ | with_reducible refine ev_str ?_ | with_reducible refine ev_bl ?_ | with_reducible refine ev_non ?_
  | ((with_reducible refine' ev_fz ?vv ?_); (case vv => exact rfl))
  | ((with_reducible refine' ev_ol ?vv ?_); (case vv => exact rfl))
  | ((with_reducible refine' ev_al ?vv ?_); (case vv => exact rfl))
  | with_reducible refine ev_op ?_ | with_reducible refine ev_un ?_
  | with_reducible refine o_int ?_ | with_reducible refine o_bl ?_ | with_reducible refine u_int ?_
  | with_reducible refine o_eqI ?_ | with_reducible refine o_neI ?_ | with_reducible refine o_eqS ?_ | with_reducible refine o_neS ?_
  | with_reducible refine ev_isi ?_ | with_reducible refine ev_isi2 ?_ | with_reducible refine ev_cb ?_ | with_reducible refine a_one ?_ | with_reducible refine a_cons ?_ | with_reducible refine a_nil ?_
  | with_reducible refine b_abs ?_ | with_reducible refine b_int ?_ | with_reducible refine b_intb ?_
  | with_reducible refine b_lenL ?_ | with_reducible refine b_lenT ?_
  | with_reducible refine b_tupO ?_ | with_reducible refine b_tupL ?_ | with_reducible refine b_tupT ?_ | with_reducible refine t_yes ?_ | with_reducible refine iteT ?_ | with_reducible refine iteF ?_
  | with_reducible refine t_test ?_ | with_reducible refine t_B ?_ | with_reducible refine t_not ?_ | with_reducible refine t_and ?_ | with_reducible refine t_or ?_
  | with_reducible refine ev_lst ?_ | with_reducible refine ev_tup ?_ | with_reducible refine ev_callM ?_ | with_reducible refine ev_callF ?_ | with_reducible refine rn_setL ?_ | with_reducible refine rn_setDT ?_ | with_reducible refine rn_asg ?_ | ((with_reducible refine' ga_tup ?vv ?_); (case vv => exact rfl)) | with_reducible refine gas_nil ?_ | ((with_reducible refine' gas_name ?vv ?_); (case vv => exact rfl)) | ((with_reducible refine' rn_asgN ?vv ?_); (case vv => exact rfl))
  | with_reducible refine rn_par3 ?_ | with_reducible refine rn_par ?_ | with_reducible refine ev_tupRg ?_ | with_reducible refine ev_listRg ?_ | with_reducible refine ev_disp1T ?_ | with_reducible refine ev_dgetT ?_ | with_reducible refine ev_dnotinT ?_
  | with_reducible refine ev_append ?_ | with_reducible refine ev_extend ?_ | with_reducible refine ev_reverse ?_ | with_reducible refine ev_revL ?_
  | with_reducible refine ev_chain ?_ | with_reducible refine ev_and ?_ | with_reducible refine ev_or ?_ | with_reducible refine ev_not ?_ | with_reducible refine ev_if ?_
  | ((with_reducible refine' ev_oi ?vv ?_); (case vv => exact rfl)) | ((with_reducible refine' ev_ot ?vv ?_); (case vv => exact rfl)) | ((with_reducible refine' ev_od ?vv ?_); (case vv => exact rfl))
  | refine ⟨_, rfl, ?_⟩)
local macro_rules | `(tactic| walk_at "ev") => `(tactic| repeat (walk_at "e1"))

/-- a drawn monoid and what the law has found of it -/
structure Drawn (n : Nat) (ms found : List (List Nat)) (words : List Str) (t : List (List Nat)) : Prop where
  tab : Tab n ms found words t
  n4 : n ≤ 4
  l1 : 1 ≤ ms.length
  l6 : ms.length ≤ 6
  maps : ∀ m ∈ ms, IsMap n m
theorem Drawn.good {n : Nat} {ms found : List (List Nat)} {words : List Str} {t : List (List Nat)} (d : Drawn n ms found words t) : Good t ms.length := d.tab.good d.n4 d.maps d.l1 d.l6
theorem Drawn.few {n : Nat} {ms found : List (List Nat)} {words : List Str} {t : List (List Nat)} (d : Drawn n ms found words t) : found.length ≤ 256 := maps_few d.n4 d.tab.nd d.tab.mp
def WwordsR (K : PySem.W.Frag) (P : Program) (w : World) (C : Addr) : WB := fun r0 r1 as post => ∃ ps ds0 p dx q kvs n ms found words t, r0 = .ol ps ds0 ∧ r1 = monO K P w C p dx q t kvs ∧ as = [.list (ms.map tupN), .list (found.map tupN)] ∧ SrcD ds0 ∧ Drawn n ms found words t ∧ MemOk t kvs ∧
  ∀ ds1 kvs', SrcD ds1 → MemOk t kvs' → post (.fz (.bool true)) (.ol ps ds1) (monO K P w C p dx q t kvs')
section
variable {P : Program} {w : World} {K : PySem.W.Frag} {mg : Str → Option Value} {base : Heap}
abbrev s_law_words_right : Stmt := top 31
abbrev N_law_words_right : List Str := ["_law_source_here", "_law_monoid", "_law_rows", "_law_found", "_law_letters", "_law_turn", "_law_word_here", "_law_here", "_law_letter"]
theorem sc_law_words_right : FnScope N_law_words_right ["_law_source_here", "_law_monoid", "_law_rows", "_law_found"] (defScope s_law_words_right) := ⟨rfl, rfl, rfl, by decide +kernel, rfl, by decide +kernel, by decide +kernel⟩

theorem ok_words_right {f : Addr} {fd : FuncData} {CM : Addr} (Fn : Fun K "_law_words_right" "_law_words_right" s_law_words_right f fd) (B : Bt mg) (f_law_word : Cal P w K mg base 3 "_law_word" (SpM K Wword)) (f_law_product : Cal P w K mg base 1 "_law_product" (SpF K Wprod2))
    (m_of_word : Met P w K mg base 2 CM "of_word" (SpO K (Wofword K P w CM))) (m_words : Met P w K mg base 2 CM "words" (SpO K (WwordsL K P w CM))) : FnOk P w K mg base CX0 4 f fd ["_law_source_here", "_law_monoid", "_law_rows", "_law_found"] (SpB K (WwordsR K P w CM)) := by
  refine Fn.ok sc_law_words_right (fun vs H Q E h => ?_) (fun cdv A outer s H vs Q E hr h => ?_)
  · obtain ⟨G, v0, v1, ws, r0, r1, as, post, rfl, _, _, _, _, _, da, ⟨ps, ds0, p, dx, q, kvs, n, ms, found, words, t, _, _, rfl, _⟩, _⟩ := h
    have := DpAll.len da
    simpa using this
  · refine ⟨_, (pss_cons (ps_set (i := 4) sc_law_words_right.nd rfl (Or.inl rfl) (pe_slice C8.sl_txt pe_str po_none (po_some (pe_callB (call_len_seq' K) rfl B.b_len (by decide +kernel) (pa_cons (pv 2) pa_nil)))))
 (pss_cons (ps_for PassesOwn.never rfl (pi_range1 rfl B.b_range (pa_cons pe_int pa_nil)) (pg_name (i := 5) sc_law_words_right.nd rfl (Or.inl rfl)) (pss_cons (ps_par rfl sc_law_words_right.nd (i := 6) (j := 7) rfl rfl (by decide) rfl rfl (pa_cons (pe_c f_law_word hr (by decide) rfl (pa_cons (pv 0) (pa_cons (pv 4) pa_nil))) (pa_cons (pe_ix (ix_list' K) (pv 3) pe_int (fun _ _ => rfl)) pa_nil)) rfl)
 (pss_cons (ps_for PassesOwn.never rfl (pi_str (pv 6)) (pg_name (i := 8) sc_law_words_right.nd rfl (Or.inl rfl)) (pss_one (ps_set (i := 7) sc_law_words_right.nd rfl (Or.inl rfl) (pe_c f_law_product hr (by decide) rfl (pa_cons (pv 7) (pa_cons (pe_ix (ix_list' K) (pv 2) (pe_bm' K PySem.F.plainAttrs_str PySem.F.slot_str_index PySem.F.type_str_index mt_sindex' pe_str (pa_cons (pv 8) pa_nil)) (fun _ _ => rfl)) pa_nil))))))
 (pss_one (ps_if (pt_cmpR (op_neD' K hr.units) (pe_ix (ix_list' K) (pv 3) (pe_mt m_of_word hr (by decide) (pv 1) (pa_cons (pv 6) pa_nil)) (fun _ _ => rfl)) (pv 7) (nomark _)) (pss_one (ps_ret pe_bl)) pss_nil)))))
 (pss_one (ps_ret (pe_cmpR (op_eqD' K hr.units) (pe_lcv [6] (pe_lc (own := [("_law_word_here", 6)]) (g := gName 6) (tt := tYes) rfl sc_law_words_right.nd (pi_list' K (pe_mt0 m_words hr (by decide) (pv 1))) (blkOk_by (own := [("_law_word_here", 6)]) (N := N_law_words_right) (by kernel_rfl)) (fun _ _ _ _ _ => pg_name (i := 6) sc_law_words_right.nd rfl (Or.inl rfl)) (fun _ _ _ _ _ => pts_nil) (fun _ _ _ _ _ => (pe_mt m_of_word hr (by decide) (pv 1) (pa_cons (pv 6) pa_nil))))) (pe_listRg rfl rfl B.b_list (prg_1 rfl B.b_range (pe_callB (call_len_seq' K) rfl B.b_len (by decide +kernel) (pa_cons (pv 3) pa_nil)))) (nomark _)))))), bodyB h fun F r0 r1 as post hK hio hW ret => ?_⟩
    subst hK
    obtain ⟨ps, ds0, p, dx, q, kvs, n, ms, found, words, t, rfl, rfl, rfl, hs, D, hm, k⟩ := hW
    have g := D.good
    have h1 := D.l1
    have h6 := D.l6
    have hf := D.few
    have htl := D.tab.tl
    show Rn F _ [.ol ps ds0, monO F.K P w CM p dx q t kvs, .fz (.list (ms.map tupN)), .fz (.list (found.map tupN)), .no, .no, .no, .no, .no] _
    refine rn_seq (rn_set (ev_slXto ?_))
    walk_at "ev"
    refine ⟨by decide +kernel, ?_⟩
    walk_at "ev"
    have el : Txt.slice "abcdef" none (some ((ms.map tupN).length : Int)) = ltrS ms.length := by rw [List.length_map]; rfl
    rw [el]
    refine rn_for (iw_range1 ?_)
    walk_at "ev"
    refine ⟨by decide, by decide, fun i δ' => ∃ (ds1 : List PyData) (s5 s6 s7 s8 : SD), SrcD ds1 ∧ δ' = [.ol ps ds1, monO F.K P w CM p dx q t kvs, .fz (.list (ms.map tupN)), .fz (.list (found.map tupN)), .fz (.str (ltrS ms.length)), s5, s6, s7, s8], ⟨ds0, .no, .no, .no, .no, hs, rfl⟩, ?_, ?_⟩
    · rintro F' i d δ' N hle hd ⟨ds1, s5, s6, s7, s8, hs1, rfl⟩ hN
      try rw [← hle.k]
      refine rn_asgN (i := 5) rfl ?_
      walk_at "ev"
      refine ⟨ps, [_], 0, _, rfl, rfl, hs1, ms.length, rfl, h1, h6, fun wd ds2 hw hwl hs2 _ => ?_⟩
      walk_at "ev"
      refine o_ixL (ds := found.map tupN) (atI_nat (j := 0) (map_get D.tab.one)) ?_
      walk_at "ev"
      refine ⟨_, _, _, _, rfl, rfl, rfl, ?_⟩
      walk_at "ev"
      refine rn_for (iw_str ?_)
      walk_at "ev"
      refine ⟨fun j δ2 => ∃ (s8' : SD), δ2 = [.ol ps ds2, monO F'.K P w CM p dx q t kvs, .fz (.list (ms.map tupN)), .fz (.list (found.map tupN)), .fz (.str (ltrS ms.length)), .fz d, .fz (.str wd), .fz (tupN (doP ms (List.range n) ((lets wd).take j))), s8'], ⟨s8, by simp [doP]⟩, ?_, ?_⟩
      · rintro F2 j dl δ2 N2 hle2 hdl ⟨s8', rfl⟩ hN2
        try rw [← hle2.k]
        obtain ⟨c, hc, rfl⟩ := signs_item hdl
        obtain ⟨c1, c2⟩ := hw c (List.mem_of_getElem? hc)
        obtain ⟨rest, ho⟩ := occ_let (c := c) c1 (by omega)
        have hlj : (lets wd)[j]? = some (c - 97) := by unfold lets; rw [List.getElem?_map, hc]; rfl
        have hcl : c - 97 < ms.length := by omega
        have hml : ms[c - 97]? = some (ms.getD (c - 97) []) := by rw [List.getD_eq_getElem?_getD, List.getElem?_eq_getElem hcl]; rfl
        refine rn_asgN (i := 8) rfl ?_
        refine rn_set (ev_callF (a_cons ?_))
        walk_at "ev"
        refine ev_sindex ?_
        walk_at "ev"
        refine ⟨_, _, rest, rfl, ho, ?_⟩
        refine o_ixL (ds := ms.map tupN) (atI_nat (j := c - 97) (map_get hml)) ?_
        have iT : IsMap n (doP ms (List.range n) ((lets wd).take j)) := (doP_comp D.maps _ _ (isMap_range n) fun m hm => lets_lt hw m (List.mem_of_mem_take hm)).2
        refine ⟨[_, _], rfl, n, _, _, rfl, by have := D.n4; omega, iT, D.maps _ (List.mem_of_getElem? hml), fun _ => ⟨_, rfl, ?_⟩⟩
        refine hN2 _ ⟨.fz (.str ⟨#[c]⟩), ?_⟩
        have e : (lets wd).take (j + 1) = (lets wd).take j ++ [c - 97] := by rw [List.take_succ, hlj]; rfl
        rw [e]
        have e2 : doP ms (List.range n) ((lets wd).take j ++ [c - 97]) = comp (doP ms (List.range n) ((lets wd).take j)) (ms.getD (c - 97) []) := by simp [doP, List.foldl_append]
        rw [e2]
        try rw [hle2.k]
        rfl
      · rintro δ2 ⟨s8', rfl⟩
        have e : (lets wd).take (signsD wd).length = lets wd := by rw [signs_len, ← lets_len, List.take_length]
        rw [e]
        refine nx_seq (rn_if (t_B (ev_op (ev_op ?_))))
        walk_at "ev"
        refine ev_meth ?_
        walk_at "ev"
        refine ⟨p, dx, _, _, 1, rfl, rfl, rfl, ?_⟩
        walk_at "ev"
        refine ⟨[_], dx, CM, _, _, rfl, rfl, p, dx, q, t, ms.length, kvs, wd, rfl, rfl, g, hw, hwl, fun _ => ?_⟩
        have hfo := D.tab.act (lets wd) 0 _ D.tab.one (lets_lt hw)
        refine o_ixL (ds := found.map tupN) (atI_nat (j := act t 0 (lets wd)) (map_get hfo)) ?_
        walk_at "ev"
        refine o_neD (shaped_tupN _) (shaped_tupN _) ?_
        rw [eqv_tup2, decide_eq_true rfl]
        walk_at "ev"
        refine hN _ ⟨ds2, .fz d, .fz (.str wd), .fz (tupN (doP ms (List.range n) (lets wd))), s8', hs2, ?_⟩
        try rw [hle.k]
        rfl
    · rintro δ' ⟨ds1, s5, s6, s7, s8, hs1, rfl⟩
      refine nx_seq (Rn.drop (i := 6) rfl (rn_ret (ev_op (SL.E.freeze (ev_lc (iw_listO (ev_meth ?_)))))))
      walk_at "ev"
      refine ⟨p, dx, _, _, 1, rfl, rfl, rfl, ?_⟩
      walk_at "ev"
      refine ⟨[], dx, CM, _, _, rfl, rfl, p, dx, q, t, ms.length, kvs, rfl, rfl, g, hm, fun kvs' p1 m1 hp1 => ⟨p1, _, hp1 p1 (by simp [SD.fp]), rfl, ?_⟩⟩
      have hlen : (Mt.wordsOf (scanRows 0 t [])).length = found.length := by rw [wordsOf_len, ← D.tab.len]
      have hwk : ∀ j wd, (Mt.wordsOf (scanRows 0 t []))[j]? = some wd → WordL ms.length wd ∧ wd.length ≤ 100 ∧ act t 0 (lets wd) = j := by
        intro j wd hj
        have hjt : j < t.length := by rw [htl, ← hlen]; exact (List.getElem?_eq_some_iff.mp hj).1
        obtain ⟨wd', e1, e2, e3, _⟩ := g.word hjt
        rw [hj] at e1
        cases e1
        have := D.tab.short g D.n4 D.maps wd (List.mem_of_getElem? hj)
        exact ⟨e2, by omega, e3⟩
      refine ⟨rfl, (by rw [List.length_map, hlen]; omega), fun j acc δ' => acc = (List.range j).map intN ∧ δ' = [.ol ps ds1, monO F.K P w CM p dx q t kvs', .fz (.list (ms.map tupN)), .fz (.list (found.map tupN)), .fz (.str (ltrS ms.length)), s5, .no, s7, s8], ⟨rfl, rfl⟩, ?_, ?_, ?_⟩
      · rintro j acc δ' ⟨rfl, rfl⟩
        exact ⟨rfl, by simp⟩
      · rintro F3 j d3 acc δ' hle3 hd3 ⟨rfl, rfl⟩
        try rw [← hle3.k]
        obtain ⟨wd, hwd, rfl⟩ := map_item hd3
        obtain ⟨q1, q2, q3⟩ := hwk j wd hwd
        refine t_yes ((if_pos rfl).mpr (ev_meth ?_))
        walk_at "ev"
        refine ⟨p, dx, _, _, 1, rfl, rfl, rfl, ?_⟩
        walk_at "ev"
        refine ⟨[_], dx, CM, _, _, rfl, rfl, p, dx, q, t, ms.length, kvs', wd, rfl, rfl, g, q1, q2, fun _ => ⟨_, rfl, ?_⟩⟩
        rw [q3]
        refine ⟨_, rfl, by rw [List.range_succ]; simp, rfl⟩
      · rintro acc δ' q3 hq3 ⟨rfl, rfl⟩
        refine ⟨q3, _, hq3, rfl, ?_⟩
        refine SL.E.freeze ?_
        walk_at "ev"
        refine ⟨by rw [List.length_map]; omega, fun p4 q4 => ⟨p4, _, q4, rfl, ?_⟩⟩
        have el2 : rgD (found.map tupN).length = (List.range found.length).map intN := by rw [List.length_map]; rfl
        rw [el2, List.length_map, hlen]
        refine o_eqD (shaped_lstN _) (shaped_lstN _) ?_
        rw [eqv_lstN, decide_eq_true rfl]
        exact ret _ _ _ _ ps p rfl rfl pins_ol pins_ins pins_ol pins_ins (k _ kvs' hs1 m1) (fun a ha => ha)
end
end My

namespace My
open PySem L2 SL Mt Mx
local macro_rules | `(tactic| walk_at "e1") => `(tactic| first
  | with_reducible refine nx_seq ?_ | with_reducible refine rn_seq ?_
  | with_reducible refine rn_set ?_ | with_reducible refine rn_ret ?_ | with_reducible refine rn_if ?_ | with_reducible refine rn_drop ?_ | with_reducible refine rn_next ?_
  | with_reducible refine ev_int ?_ | with_reducible refine ev_str ?_ | with_reducible refine ev_bl ?_ | with_reducible refine ev_non ?_
  | ((with_reducible refine' ev_fz ?vv ?_); (case vv => exact rfl))
  | ((with_reducible refine' ev_ol ?vv ?_); (case vv => exact rfl))
  | ((with_reducible refine' ev_al ?vv ?_); (case vv => exact rfl))
  | with_reducible refine ev_op ?_ | with_reducible refine ev_un ?_
  | with_reducible refine o_int ?_ | with_reducible refine o_bl ?_ | with_reducible refine u_int ?_
  | with_reducible refine o_eqI ?_ | with_reducible refine o_neI ?_ | with_reducible refine o_eqS ?_ | with_reducible refine o_neS ?_
  | with_reducible refine ev_isi ?_ | with_reducible refine ev_isi2 ?_ | with_reducible refine ev_cb ?_ | with_reducible refine a_one ?_ | with_reducible refine a_cons ?_ | with_reducible refine a_nil ?_
  | with_reducible refine b_abs ?_ | with_reducible refine b_int ?_ | with_reducible refine b_intb ?_
  | with_reducible refine b_lenL ?_ | with_reducible refine b_lenT ?_
  | with_reducible refine b_tupO ?_ | with_reducible refine b_tupL ?_ | with_reducible refine b_tupT ?_ | with_reducible refine t_yes ?_ | with_reducible refine iteT ?_ | with_reducible refine iteF ?_
  | with_reducible refine t_test ?_ | with_reducible refine t_B ?_ | with_reducible refine t_not ?_ | with_reducible refine t_and ?_ | with_reducible refine t_or ?_
  | with_reducible refine ev_lst ?_ | with_reducible refine ev_tup ?_ | with_reducible refine ev_callM ?_ | with_reducible refine ev_callF ?_ | with_reducible refine rn_setL ?_ | with_reducible refine rn_setDT ?_ | with_reducible refine rn_asg ?_ | ((with_reducible refine' ga_tup ?vv ?_); (case vv => exact rfl)) | with_reducible refine gas_nil ?_ | ((with_reducible refine' gas_name ?vv ?_); (case vv => exact rfl)) | ((with_reducible refine' rn_asgN ?vv ?_); (case vv => exact rfl))
  | with_reducible refine rn_par3 ?_ | with_reducible refine rn_par ?_ | with_reducible refine ev_tupRg ?_ | with_reducible refine ev_listRg ?_ | with_reducible refine ev_disp1T ?_ | with_reducible refine ev_dgetT ?_ | with_reducible refine ev_dnotinT ?_
  | with_reducible refine ev_append ?_ | with_reducible refine ev_extend ?_ | with_reducible refine ev_reverse ?_ | with_reducible refine ev_revL ?_
  | with_reducible refine ev_chain ?_ | with_reducible refine ev_and ?_ | with_reducible refine ev_or ?_ | with_reducible refine ev_not ?_ | with_reducible refine ev_if ?_
  | ((with_reducible refine' ev_oi ?vv ?_); (case vv => exact rfl)) | ((with_reducible refine' ev_ot ?vv ?_); (case vv => exact rfl)) | ((with_reducible refine' ev_od ?vv ?_); (case vv => exact rfl))
  | refine ⟨_, rfl, ?_⟩)
local macro_rules | `(tactic| walk_at "ev") => `(tactic| repeat (walk_at "e1"))

def WprodsR (K : PySem.W.Frag) (P : Program) (w : World) (C : Addr) : WB := fun r0 r1 as post => ∃ ps ds0 p dx q kvs n ms found words t, r0 = .ol ps ds0 ∧ r1 = monO K P w C p dx q t kvs ∧ as = [.list (found.map tupN)] ∧ SrcD ds0 ∧ Drawn n ms found words t ∧ MemOk t kvs ∧
  ∀ ds1 kvs', SrcD ds1 → MemOk t kvs' → post (.fz (.bool true)) (.ol ps ds1) (monO K P w C p dx q t kvs')
/-- all that repr asks of a tuple of numbers -/
theorem reprT (ns : List Nat) (h1 : ns.length ≤ 10000) (h2 : ∀ x ∈ ns, x < 10 ^ 9) : (tupN ns).canLay0 = true ∧ (tupN ns).depth ≤ 60 ∧ (tupN ns).showable = true ∧ (tupN ns).shown.length ≤ sizeLine := by
  have c1 : (tupN ns).canLay0 = true := lay_tup fun d hd => by
    obtain ⟨x, _, rfl⟩ := List.mem_map.mp hd
    exact lay_int _
  have c2 : (tupN ns).depth ≤ 1 := dep_tup fun d hd => by
    obtain ⟨x, _, rfl⟩ := List.mem_map.mp hd
    exact dep_int _
  have c3 : (tupN ns).showable = true := by
    unfold tupN
    simp only [PyData.showable]
    exact showAll ns h2
  refine ⟨c1, by omega, c3, ?_⟩
  have lay : PyData.layable0 (tupN ns) = true := by
    unfold PyData.layable0
    rw [c1]
    simp only [Bool.true_and, Bool.and_eq_true, decide_eq_true_eq]
    refine ⟨by omega, ?_⟩
    unfold tupN
    simp only [PyData.weight]
    have : PyData.weightAll (ns.map intN) ≤ 32 * ns.length := weighAll ns h2
    have e : (2 : Nat) ^ 20 = 1048576 := by decide
    omega
  have sh := PyProof.Rows.shown_le13 lay (by unfold tupN; simp only [PyData.intsShort]; exact shortAll ns fun x hx => int_shown x (h2 x hx))
  exact Nat.le_trans sh (by decide)
section
variable {n : Nat} {ms found t : List (List Nat)} {words : List Str}
theorem Drawn.mul0 (D : Drawn n ms found words t) {x : Nat} (hx : x < t.length) : act t x (pathOf t 0) = x := by
  have hxf : x < found.length := by rw [← D.tab.tl]; exact hx
  have h1 := List.getElem?_eq_getElem hxf
  have h2 := D.tab.mul D.good D.maps h1 D.tab.one
  rw [comp_one (D.tab.mp _ (List.getElem_mem hxf))] at h2
  exact nd_inj D.tab.nd h2 h1
theorem Drawn.one_mul (D : Drawn n ms found words t) {x : Nat} (hx : x < t.length) : act t 0 (pathOf t x) = x := (D.good.path hx).1
theorem Drawn.cyc (D : Drawn n ms found words t) {x : Nat} {m : List Nat} (hm : found[x]? = some m) {i k : Nat} (h : Cyc (pw t x) i k) : Cyc (pwM n m) i k := by
  have key := D.tab.pw D.good D.maps hm
  refine ⟨h.lt, ?_, fun a b h1 h2 e => h.ne a b h1 h2 ?_⟩
  · have e1 := key i
    rw [h.eq, key k] at e1
    exact (Option.some.inj e1).symm
  · have e1 := key a
    rw [e] at e1
    exact nd_inj D.tab.nd e1 (key b)
theorem Drawn.cube (D : Drawn n ms found words t) {x : Nat} {m : List Nat} (hm : found[x]? = some m) : powA t 0 x 3 = act t (act t x (pathOf t x)) (pathOf t x) := by
  have im := D.tab.mp _ (List.mem_of_getElem? hm)
  have h1 := D.tab.pow D.good D.maps 3 0 x _ _ D.tab.one hm
  have h2 := D.tab.mul D.good D.maps (D.tab.mul D.good D.maps hm hm) hm
  rw [one_comp (isMap_pw im 3)] at h1
  have e : pwM n m 3 = comp (comp m m) m := by
    show comp (comp (comp (List.range n) m) m) m = _
    rw [one_comp im]
  rw [e] at h1
  exact nd_inj D.tab.nd h1 h2
theorem Drawn.power (D : Drawn n ms found words t) {x : Nat} {m : List Nat} (hm : found[x]? = some m) (c : Nat) : found[powA t 0 x c]? = some (pwM n m c) := by
  have im := D.tab.mp _ (List.mem_of_getElem? hm)
  have h1 := D.tab.pow D.good D.maps c 0 x _ _ D.tab.one hm
  rw [one_comp (isMap_pw im c)] at h1
  exact h1
end
section
variable {P : Program} {w : World} {K : PySem.W.Frag} {mg : Str → Option Value} {base : Heap}
abbrev s_law_products_right : Stmt := top 32
abbrev N_law_products_right : List Str := ["_law_source_here", "_law_monoid", "_law_found", "_law_turn", "_law_x", "_law_y", "_law_due", "_law_powers_here", "_law_index", "_law_period", "_law_count", "_law_at"]
theorem sc_law_products_right : FnScope N_law_products_right ["_law_source_here", "_law_monoid", "_law_found"] (defScope s_law_products_right) := ⟨rfl, rfl, rfl, by decide +kernel, rfl, by decide +kernel, by decide +kernel⟩

set_option maxHeartbeats 2000000 in
theorem ok_products_right {f : Addr} {fd : FuncData} {CM : Addr} (Fn : Fun K "_law_products_right" "_law_products_right" s_law_products_right f fd) (B : Bt mg) (f_law_draw : Cal P w K mg base 1 "_law_draw" (SpM K Wdraw)) (f_law_product : Cal P w K mg base 1 "_law_product" (SpF K Wprod2)) (f_law_powers : Cal P w K mg base 2 "_law_powers" (SpF K Wpowers))
    (m_times : Met P w K mg base 4 CM "times" (SpO K (Wtimes K P w CM))) (m_power : Met P w K mg base 4 CM "power" (SpO K (Wpower K P w CM))) (m_cycle : Met P w K mg base 4 CM "cycle" (SpO K (Wcycle K P w CM))) : FnG P w K mg base 5 f fd ["_law_source_here", "_law_monoid", "_law_found"] (SpB K (WprodsR K P w CM)) := by
  refine Fn.okG sc_law_products_right (fun vs H Q h => ?_) (fun cdv A outer s H vs Q hg hr h => ?_)
  · obtain ⟨G, v0, v1, ws, r0, r1, as, post, rfl, _, _, _, _, _, da, ⟨ps, ds0, p, dx, q, kvs, n, ms, found, words, t, _, _, rfl, _⟩, _⟩ := h
    have := DpAll.len da
    simpa using this
  · refine ⟨_, (pss_cons (ps_for PassesOwn.never rfl (pi_range1 rfl B.b_range (pa_cons pe_int pa_nil)) (pg_name (i := 3) sc_law_products_right.nd rfl (Or.inl rfl)) (pss_cons (ps_par rfl sc_law_products_right.nd (i := 4) (j := 5) rfl rfl (by decide) rfl rfl (pa_cons (pe_c f_law_draw hr (by decide) rfl (pa_cons (pv 0) (pa_cons (pe_callB (call_len_seq' K) rfl B.b_len (by decide +kernel) (pa_cons (pv 2) pa_nil)) pa_nil))) (pa_cons (pe_c f_law_draw hr (by decide) rfl (pa_cons (pv 0) (pa_cons (pe_callB (call_len_seq' K) rfl B.b_len (by decide +kernel) (pa_cons (pv 2) pa_nil)) pa_nil))) pa_nil)) rfl)
 (pss_cons (ps_set (i := 6) sc_law_products_right.nd rfl (Or.inl rfl) (pe_bm' K PySem.F.plainAttrs_list PySem.F.slot_list_index PySem.F.type_list_index (mt_indexD' K hr.u65) (pv 2) (pa_cons (pe_c f_law_product hr (by decide) rfl (pa_cons (pe_ix (ix_list' K) (pv 2) (pv 4) (fun _ _ => rfl)) (pa_cons (pe_ix (ix_list' K) (pv 2) (pv 5) (fun _ _ => rfl)) pa_nil))) pa_nil)))
 (pss_cons (ps_if (PW.pt (pw_or (pt_cmpR op_ne (pe_callB call_reprI' rfl B.b_repr (by decide +kernel) (pa_cons (pe_mt m_times hr (by decide) (pv 1) (pa_cons (pv 4) (pa_cons (pv 5) pa_nil))) pa_nil)) (pe_callTy call_strI' rfl B.b_str (by decide +kernel) (pa_cons (pv 6) pa_nil)) (nomark _)) (pw_or (pt_cmpR op_ne (pe_mt m_times hr (by decide) (pv 1) (pa_cons (pv 4) (pa_cons pe_int pa_nil))) (pv 4) (nomark _)) (pw_or1 (pt_cmpR op_ne (pe_mt m_times hr (by decide) (pv 1) (pa_cons pe_int (pa_cons (pv 5) pa_nil))) (pv 5) (nomark _)))))) (pss_one (ps_ret pe_bl)) pss_nil)
 (pss_cons (ps_asg (pe_c f_law_powers hr (by decide) rfl (pa_cons (pe_ix (ix_list' K) (pv 2) (pv 4) (fun _ _ => rfl)) pa_nil)) (pg_tup' K (n := 2) rfl (pgs_cons (pg_name (i := 7) sc_law_products_right.nd rfl (Or.inl rfl)) (pgs_cons (pg_name (i := 8) sc_law_products_right.nd rfl (Or.inl rfl)) pgs_nil))))
 (pss_cons (ps_set (i := 9) sc_law_products_right.nd rfl (Or.inl rfl) (pe_op op_sub (pe_callB (call_len_seq' K) rfl B.b_len (by decide +kernel) (pa_cons (pv 7) pa_nil)) (pv 8)))
 (pss_cons (ps_if (pt_cmpR op_ne (pe_callB (call_reprD K hg hr.units) rfl B.b_repr (by decide +kernel) (pa_cons (pe_mt m_cycle hr (by decide) (pv 1) (pa_cons (pv 4) pa_nil)) pa_nil)) (pe_callB (call_reprD K hg hr.units) rfl B.b_repr (by decide +kernel) (pa_cons (pe_tup (pa_cons (pv 8) (pa_cons (pv 9) pa_nil))) pa_nil)) (nomark _)) (pss_one (ps_ret pe_bl)) pss_nil)
 (pss_cons (ps_for PassesOwn.never rfl (pi_tup' K (pe_tup (pa_cons pe_int (pa_cons pe_int (pa_cons pe_int (pa_cons (pv 8) (pa_cons (pe_c f_law_draw hr (by decide) rfl (pa_cons (pv 0) (pa_cons pe_int pa_nil))) (pa_cons (pe_c f_law_draw hr (by decide) rfl (pa_cons (pv 0) (pa_cons (pe_op op_pow pe_int pe_int) pa_nil))) (pa_cons (pe_op op_pow pe_int pe_int) pa_nil))))))))) (pg_name (i := 10) sc_law_products_right.nd rfl (Or.inl rfl)) (pss_cons (ps_set (i := 11) sc_law_products_right.nd rfl (Or.inl rfl) (pe_ifExp (pt_cmpR op_lt (pv 10) (pv 8) (nomark _)) (pv 10) (pe_op op_add (pv 8) (pe_op op_mod (pe_callTy call_int1' rfl B.b_int (by decide +kernel) (pa_cons (pe_op op_sub (pv 10) (pv 8)) pa_nil)) (pv 9)))))
 (pss_one (ps_if (pt_cmpR (op_neD' K hr.units) (pe_ix (ix_list' K) (pv 2) (pe_mt m_power hr (by decide) (pv 1) (pa_cons (pv 4) (pa_cons (pv 10) pa_nil))) (fun _ _ => rfl)) (pe_ix (ix_list' K) (pv 7) (pv 11) (fun _ _ => rfl)) (nomark _)) (pss_one (ps_ret pe_bl)) pss_nil))))
 (pss_one (ps_if (pt_cmpR op_ne (pe_mt m_power hr (by decide) (pv 1) (pa_cons (pv 4) (pa_cons pe_int pa_nil))) (pe_mt m_times hr (by decide) (pv 1) (pa_cons (pe_mt m_times hr (by decide) (pv 1) (pa_cons (pv 4) (pa_cons (pv 4) pa_nil))) (pa_cons (pv 4) pa_nil))) (nomark _)) (pss_one (ps_ret pe_bl)) pss_nil))))))))))
 (pss_one (ps_ret pe_bl))), bodyB h fun F r0 r1 as post hK hio hW ret => ?_⟩
    subst hK
    obtain ⟨ps, ds0, p, dx, q, kvs, n, ms, found, words, t, rfl, rfl, rfl, hs, D, hm, k⟩ := hW
    have g := D.good
    have hf := D.few
    have htl := D.tab.tl
    have g1 := g.n1
    show Rn F _ [.ol ps ds0, monO F.K P w CM p dx q t kvs, .fz (.list (found.map tupN)), .no, .no, .no, .no, .no, .no, .no, .no, .no] _
    refine rn_seq (rn_for (iw_range1 ?_))
    walk_at "ev"
    refine ⟨by decide, by decide, fun i δ' => ∃ (ds1 : List PyData) (kvs1 : List (MK × PyData)) (s3 s4 s5 s6 s7 s8 s9 s10 s11 : SD), SrcD ds1 ∧ MemOk t kvs1 ∧ δ' = [.ol ps ds1, monO F.K P w CM p dx q t kvs1, .fz (.list (found.map tupN)), s3, s4, s5, s6, s7, s8, s9, s10, s11], ⟨ds0, kvs, .no, .no, .no, .no, .no, .no, .no, .no, .no, hs, hm, rfl⟩, ?_, ?_⟩
    · rintro F' i d δ' N hle hd ⟨ds1, kvs1, s3, s4, s5, s6, s7, s8, s9, s10, s11, hs1, hm1, rfl⟩ hN
      try rw [← hle.k]
      refine rn_asgN (i := 3) rfl ?_
      have lf : ((found.map tupN).length : Int) = (found.length : Int) := by rw [List.length_map]
      walk_at "ev"
      rw [lf]
      refine ⟨ps, [_], 0, _, rfl, rfl, hs1, _, rfl, by omega, by omega, fun x ds2 x0 x1 hs2 _ => ?_⟩
      obtain ⟨x, rfl⟩ : ∃ n : Nat, x = (n : Int) := ⟨x.toNat, by omega⟩
      walk_at "ev"
      rw [lf]
      refine ⟨ps, [_], 0, _, rfl, rfl, hs2, _, rfl, by omega, by omega, fun y ds3 y0 y1 hs3 _ => ?_⟩
      obtain ⟨y, rfl⟩ : ∃ n : Nat, y = (n : Int) := ⟨y.toNat, by omega⟩
      have hx : x < found.length := by omega
      have hy : y < found.length := by omega
      have hxt : x < t.length := by omega
      have hyt : y < t.length := by omega
      have fx := List.getElem?_eq_getElem hx
      have fy := List.getElem?_eq_getElem hy
      generalize found[x] = mx at fx
      generalize found[y] = my at fy
      have ix := D.tab.mp _ (List.mem_of_getElem? fx)
      have iy := D.tab.mp _ (List.mem_of_getElem? fy)
      have fm := D.tab.mul g D.maps fx fy
      refine ⟨_, _, _, _, rfl, rfl, rfl, ?_⟩
      walk_at "ev"
      refine ev_indexD ?_
      walk_at "ev"
      refine ⟨_, .fz, ?_⟩
      refine ev_callF (a_cons (ev_op ?_))
      walk_at "ev"
      refine o_ixL (ds := found.map tupN) (atI_nat (j := x) (map_get fx)) ?_
      refine a_one (ev_op ?_)
      walk_at "ev"
      refine o_ixL (ds := found.map tupN) (atI_nat (j := y) (map_get fy)) ?_
      refine ⟨[_, _], rfl, n, mx, my, rfl, by have := D.n4; omega, ix, iy, fun _ => ?_⟩
      refine ⟨_, _, act t x (pathOf t y), tupN (comp mx my), rfl, .fz, shaped_tups _, shaped_tupN _, map_get fm, by rw [eqv_tup2]; simp, ?_, ?_⟩
      · intro m z hlt hz
        obtain ⟨y', hy', rfl⟩ := map_item hz
        rw [eqv_tup2, decide_eq_false]
        intro e
        subst e
        have := nd_inj D.tab.nd hy' fm
        omega
      walk_at "ev"
      have lt256 : ∀ z : Nat, z < t.length → ((z : Int).natAbs.log2 < 1920) := by
        intro z hz
        by_cases h0 : z = 0
        · subst h0; decide
        · rw [Int.natAbs_natCast]
          exact (Nat.log2_lt h0).mpr (Nat.lt_of_lt_of_le (show z < 2 ^ 9 by omega) (Nat.pow_le_pow_right (by omega) (by omega)))
      have hmt : act t x (pathOf t y) < t.length := g.mul_lt hxt hyt
      refine ev_meth ?_
      walk_at "ev"
      refine ⟨p, dx, _, _, 1, rfl, rfl, rfl, ?_⟩
      walk_at "ev"
      refine ⟨[_, _], dx, CM, _, _, rfl, rfl, p, dx, q, t, ms.length, kvs1, x, y, rfl, rfl, g, hm1, hxt, hyt, fun kvs2 hm2 _ => ?_⟩
      refine b_txtI (lt256 _ hmt) ?_
      walk_at "ev"
      refine b_txtI (lt256 _ hmt) ?_
      walk_at "ev"
      refine (if_neg (by simp)).mpr ?_
      refine t_or (t_B (ev_op (ev_meth ?_)))
      walk_at "ev"
      refine ⟨p, dx, _, _, 1, rfl, rfl, rfl, ?_⟩
      walk_at "ev"
      refine ⟨[_, _], dx, CM, _, _, rfl, rfl, p, dx, q, t, ms.length, kvs2, x, 0, rfl, rfl, g, hm2, hxt, g1, fun kvs3 hm3 _ => ?_⟩
      rw [D.mul0 hxt]
      walk_at "ev"
      refine (if_neg (by simp)).mpr ?_
      refine t_B (ev_op (ev_meth ?_))
      walk_at "ev"
      refine ⟨p, dx, _, _, 1, rfl, rfl, rfl, ?_⟩
      walk_at "ev"
      refine ⟨[_, _], dx, CM, _, _, rfl, rfl, p, dx, q, t, ms.length, kvs3, 0, y, rfl, rfl, g, hm3, g1, hyt, fun kvs4 hm4 _ => ?_⟩
      rw [D.one_mul hyt]
      walk_at "ev"
      refine (if_neg (by simp)).mpr ?_
      refine rn_next (nx_seq (rn_seq (rn_asg (ev_callF (a_one (ev_op ?_))))))
      walk_at "ev"
      refine o_ixL (ds := found.map tupN) (atI_nat (j := x) (map_get fx)) ?_
      refine ⟨[_], rfl, n, mx, rfl, D.n4, ix, fun ci ck hc hck _ => ?_⟩
      walk_at "ev"
      rw [List.length_map, List.length_range]
      have hlt := hc.lt
      have eper : (ck : Int) - (ci : Int) = ((ck - ci : Nat) : Int) := by omega
      refine ev_meth ?_
      show E F' _ [.ol ps ds3, monO F'.K P w CM p dx q t kvs4, .fz (.list (found.map tupN)), .fz d, .fz (intN x), .fz (intN y), .fz (intN (act t x (pathOf t y))), .fz (.list ((List.range ck).map fun a => tupN (pwM n mx a))), .fz (intN ci), .fz (.int ((ck : Int) - (ci : Int))), s10, s11] _
      walk_at "ev"
      refine ⟨p, dx, _, _, 1, rfl, rfl, rfl, ?_⟩
      walk_at "ev"
      refine ⟨[_], dx, CM, _, _, rfl, rfl, p, dx, q, t, ms.length, kvs4, x, rfl, rfl, g, hm4, hxt, fun kvs5 ci' ck' hm5 hc' _ => ?_⟩
      obtain ⟨rfl, rfl⟩ := Cyc.unique hc (D.cyc fx hc')
      rw [eper]
      obtain ⟨r1, r2, r3, r4⟩ := reprT [ci, ck - ci] (by show 2 ≤ 10000; omega) (fun z hz => by simp at hz; omega)
      refine b_reprD (d := tupN [ci, ck - ci]) (.inr ⟨_, rfl⟩) r1 r2 r3 r4 ?_
      refine ev_cb (a_one (ev_tup ?_))
      walk_at "ev"
      refine ⟨[_, _], rfl, (by show 2 ≤ sizeLine; decide), ?_⟩
      refine b_reprD (d := tupN [ci, ck - ci]) (.inr ⟨_, rfl⟩) r1 r2 r3 r4 ?_
      walk_at "ev"
      refine (if_neg (by simp)).mpr ?_
      refine rn_next (nx_seq (rn_seq (rn_for (iw_tup (ev_tup ?_)))))
      walk_at "ev"
      refine ⟨ps, [_], 0, _, rfl, rfl, hs3, _, rfl, by omega, by omega, fun a30 ds4 a0 a1 hs4 _ => ?_⟩
      walk_at "ev"
      refine o_intC ⟨by decide, by decide, by decide⟩ ?_
      refine ⟨ps, [_], 0, _, rfl, rfl, hs4, _, rfl, by decide, by decide, fun b20 ds5 b0 b1 hs5 _ => ?_⟩
      walk_at "ev"
      refine o_intC ⟨by decide, by decide, by decide⟩ ?_
      refine ⟨[_, _, _, _, _, _, _], rfl, (by show 7 ≤ sizeLine; decide), ?_⟩
      refine ⟨_, rfl, ?_⟩
      refine ⟨fun j δ2 => ∃ (kvs6 : List (MK × PyData)) (s10' s11' : SD), MemOk t kvs6 ∧ δ2 = [.ol ps ds5, monO F'.K P w CM p dx q t kvs6, .fz (.list (found.map tupN)), .fz d, .fz (intN x), .fz (intN y), .fz (intN (act t x (pathOf t y))), .fz (.list ((List.range ck).map fun a => tupN (pwM n mx a))), .fz (intN ci), .fz (intN (ck - ci)), s10', s11'], ⟨kvs5, s10, s11, hm5, rfl⟩, ?_, ?_⟩
      · rintro F2 j dl δ2 N2 hle2 hdl ⟨kvs6, s10', s11', hm6, rfl⟩ hN2
        try rw [← hle2.k]
        obtain ⟨c, rfl, hcn⟩ : ∃ c : Nat, dl = intN c ∧ c ≤ 1000000000000000000000000000000 := by
          have hmem := List.mem_of_getElem? hdl
          simp only [List.mem_cons, List.not_mem_nil, or_false] at hmem
          have e30 : (10 : Int) ^ Int.toNat 30 = ((1000000000000000000000000000000 : Nat) : Int) := by decide
          have e20 : (10 : Int) ^ Int.toNat 20 = 100000000000000000000 := by decide
          rcases hmem with z | z | z | z | z | z | z
          · exact ⟨0, z, by decide⟩
          · exact ⟨1, z, by decide⟩
          · exact ⟨2, z, by decide⟩
          · exact ⟨ci, z, by omega⟩
          · exact ⟨a30.toNat, by rw [z]; show PyData.int a30 = PyData.int (a30.toNat : Int); congr 1; omega, by omega⟩
          · rw [e20] at b1
            exact ⟨b20.toNat, by rw [z]; show PyData.int b20 = PyData.int (b20.toNat : Int); congr 1; omega, by omega⟩
          · exact ⟨1000000000000000000000000000000, by rw [z, e30], Nat.le_refl _⟩
        refine rn_asgN (i := 10) rfl ?_
        refine rn_seq (rn_set (SL.E.mono (P := fun r δ1 => ∃ at_ : Nat, at_ < ck ∧ pwM n mx c = pwM n mx at_ ∧ r = .fz (intN at_) ∧ δ1 = [.ol ps ds5, monO F2.K P w CM p dx q t kvs6, .fz (.list (found.map tupN)), .fz d, .fz (intN x), .fz (intN y), .fz (intN (act t x (pathOf t y))), .fz (.list ((List.range ck).map fun a => tupN (pwM n mx a))), .fz (intN ci), .fz (intN (ck - ci)), .fz (intN c), s11']) ?_ ?_))
        · walk_at "ev"
          refine ite2 (fun hc2 => ?_) (fun hc2 => ?_)
          · walk_at "ev"
            have hc3 : c < ci := by simpa using hc2
            exact ⟨c, by omega, rfl, rfl, rfl⟩
          · have hc3 : ci ≤ c := by simp at hc2; omega
            have hpos : (0 : Int) < ((ck - ci : Nat) : Int) := by omega
            walk_at "ev"
            refine o_intC hpos ?_
            walk_at "ev"
            have hmod : (c - ci) % (ck - ci) < ck - ci := Nat.mod_lt _ (by omega)
            refine ⟨ci + (c - ci) % (ck - ci), by omega, pwM_round ix hlt hc.eq c hc3, ?_, rfl⟩
            have e1 : ((c : Int) - (ci : Int)) = ((c - ci : Nat) : Int) := by omega
            rw [e1]
            rfl
        · rintro r δ1 ⟨at_, ha1, ha2, rfl, rfl⟩
          refine ⟨_, rfl, ?_⟩
          refine nx_seq (rn_if (t_B (ev_op (ev_op ?_))))
          show E F2 _ [.ol ps ds5, monO F2.K P w CM p dx q t kvs6, .fz (.list (found.map tupN)), .fz d, .fz (intN x), .fz (intN y), .fz (intN (act t x (pathOf t y))), .fz (.list ((List.range ck).map fun a => tupN (pwM n mx a))), .fz (intN ci), .fz (intN (ck - ci)), .fz (intN c), .fz (intN at_)] _
          walk_at "ev"
          refine ev_meth ?_
          walk_at "ev"
          refine ⟨p, dx, _, _, 1, rfl, rfl, rfl, ?_⟩
          walk_at "ev"
          refine ⟨[_, _], dx, CM, _, _, rfl, rfl, p, dx, q, t, ms.length, kvs6, x, c, rfl, rfl, g, hm6, hxt, hcn, fun kvs7 hm7 _ => ?_⟩
          refine o_ixL (ds := found.map tupN) (atI_nat (j := powA t 0 x c) (map_get (D.power fx c))) ?_
          refine ev_op ?_
          walk_at "ev"
          refine o_ixL (ds := (List.range ck).map fun a => tupN (pwM n mx a)) (atI_nat (j := at_) (by rw [List.getElem?_map, List.getElem?_range ha1]; rfl)) ?_
          refine o_neD (shaped_tupN _) (shaped_tupN _) ?_
          rw [eqv_tup2, ha2, decide_eq_true rfl]
          walk_at "ev"
          refine hN2 _ ⟨kvs7, .fz (intN c), .fz (intN at_), hm7, ?_⟩
          try rw [hle2.k]
          rfl
      · rintro δ2 ⟨kvs6, s10', s11', hm6, rfl⟩
        have c3 : D.tab.nd = D.tab.nd := rfl
        refine nx_seq (rn_if (t_B (ev_op (ev_meth ?_))))
        walk_at "ev"
        refine ⟨p, dx, _, _, 1, rfl, rfl, rfl, ?_⟩
        walk_at "ev"
        refine ⟨[_, _], dx, CM, _, _, rfl, rfl, p, dx, q, t, ms.length, kvs6, x, 3, rfl, rfl, g, hm6, hxt, by decide, fun kvs7 hm7 _ => ?_⟩
        refine ev_meth ?_
        walk_at "ev"
        refine ⟨p, dx, _, _, 1, rfl, rfl, rfl, ?_⟩
        refine a_cons (ev_meth ?_)
        walk_at "ev"
        refine ⟨p, dx, _, _, 1, rfl, rfl, rfl, ?_⟩
        walk_at "ev"
        refine ⟨[_, _], dx, CM, _, _, rfl, rfl, p, dx, q, t, ms.length, kvs7, x, x, rfl, rfl, g, hm7, hxt, hxt, fun kvs8 hm8 _ => ?_⟩
        walk_at "ev"
        refine ⟨[_, _], dx, CM, _, _, rfl, rfl, p, dx, q, t, ms.length, kvs8, act t x (pathOf t x), x, rfl, rfl, g, hm8, g.mul_lt hxt hxt, hxt, fun kvs9 hm9 _ => ?_⟩
        rw [D.cube fx]
        walk_at "ev"
        refine (if_neg (by simp)).mpr ?_
        refine rn_next (hN _ ⟨ds5, kvs9, .fz d, .fz (intN x), .fz (intN y), .fz (intN (act t x (pathOf t y))), .fz (.list ((List.range ck).map fun a => tupN (pwM n mx a))), .fz (intN ci), .fz (intN (ck - ci)), s10', s11', hs5, hm9, ?_⟩)
        try rw [hle.k]
        rfl
    · rintro δ' ⟨ds1, kvs1, s3, s4, s5, s6, s7, s8, s9, s10, s11, hs1, hm1, rfl⟩
      walk_at "ev"
      exact ret _ _ _ _ ps p rfl rfl pins_ol pins_ins pins_ol pins_ins (k _ _ hs1 hm1) (fun a ha => ha)
end
end My

namespace My
open PySem L2 SL Mt Mx
local macro_rules | `(tactic| walk_at "e1") => `(tactic| first
  | with_reducible refine nx_seq ?_ | with_reducible refine rn_seq ?_
  | with_reducible refine rn_set ?_ | with_reducible refine rn_ret ?_ | with_reducible refine rn_if ?_ | with_reducible refine rn_drop ?_ | with_reducible refine rn_next ?_
  | with_reducible refine ev_int ?_ | with_reducible refine ev_str ?_ | with_reducible refine ev_bl ?_ | with_reducible refine ev_non ?_
  | ((with_reducible refine' ev_fz ?vv ?_); (case vv => exact rfl))
  | ((with_reducible refine' ev_ol ?vv ?_); (case vv => exact rfl))
  | ((with_reducible refine' ev_al ?vv ?_); (case vv => exact rfl))
  | with_reducible refine ev_op ?_ | with_reducible refine ev_un ?_
  | with_reducible refine o_int ?_ | with_reducible refine o_bl ?_ | with_reducible refine u_int ?_
  | with_reducible refine o_eqI ?_ | with_reducible refine o_neI ?_ | with_reducible refine o_eqS ?_ | with_reducible refine o_neS ?_
  | with_reducible refine ev_isi ?_ | with_reducible refine ev_isi2 ?_ | with_reducible refine ev_cb ?_ | with_reducible refine a_one ?_ | with_reducible refine a_cons ?_ | with_reducible refine a_nil ?_
  | with_reducible refine b_abs ?_ | with_reducible refine b_int ?_ | with_reducible refine b_intb ?_
  | with_reducible refine b_lenL ?_ | with_reducible refine b_lenT ?_
  | with_reducible refine b_tupO ?_ | with_reducible refine b_tupL ?_ | with_reducible refine b_tupT ?_ | with_reducible refine t_yes ?_ | with_reducible refine iteT ?_ | with_reducible refine iteF ?_
  | with_reducible refine t_test ?_ | with_reducible refine t_B ?_ | with_reducible refine t_not ?_ | with_reducible refine t_and ?_ | with_reducible refine t_or ?_
  | with_reducible refine ev_lst ?_ | with_reducible refine ev_tup ?_ | with_reducible refine ev_callM ?_ | with_reducible refine ev_callF ?_ | with_reducible refine rn_setL ?_ | with_reducible refine rn_setDT ?_ | with_reducible refine rn_asg ?_ | ((with_reducible refine' ga_tup ?vv ?_); (case vv => exact rfl)) | with_reducible refine gas_nil ?_ | ((with_reducible refine' gas_name ?vv ?_); (case vv => exact rfl)) | ((with_reducible refine' rn_asgN ?vv ?_); (case vv => exact rfl))
  | with_reducible refine rn_par3 ?_ | with_reducible refine rn_par ?_ | with_reducible refine ev_tupRg ?_ | with_reducible refine ev_listRg ?_ | with_reducible refine ev_disp1T ?_ | with_reducible refine ev_dgetT ?_ | with_reducible refine ev_dnotinT ?_
  | with_reducible refine ev_append ?_ | with_reducible refine ev_extend ?_ | with_reducible refine ev_reverse ?_ | with_reducible refine ev_revL ?_
  | with_reducible refine ev_chain ?_ | with_reducible refine ev_and ?_ | with_reducible refine ev_or ?_ | with_reducible refine ev_not ?_ | with_reducible refine ev_if ?_
  | ((with_reducible refine' ev_oi ?vv ?_); (case vv => exact rfl)) | ((with_reducible refine' ev_ot ?vv ?_); (case vv => exact rfl)) | ((with_reducible refine' ev_od ?vv ?_); (case vv => exact rfl))
  | refine ⟨_, rfl, ?_⟩)
local macro_rules | `(tactic| walk_at "ev") => `(tactic| repeat (walk_at "e1"))

theorem lay_strs {L : Nat} (hL : L ≤ 6) (l : List Str) (h : ∀ w ∈ l, WordL L w) : (PyData.list (l.map strS)).canLay0 = true := lay_list fun d hd => by
  obtain ⟨x, hx, rfl⟩ := List.mem_map.mp hd
  have hw := h x hx
  show PyData.canLay0 (.str x) = true
  simp only [PyData.canLay0]
  show x.cps.all _ = true
  rw [← Array.all_toList, List.all_eq_true]
  intro c hc
  have := hw c hc
  exact decide_eq_true (by omega)
theorem shaped_strs {L : Nat} (hL : L ≤ 6) (l : List Str) (h : ∀ w ∈ l, WordL L w) : SeqAt.shaped (.list (l.map strS)) = true := shaped_of (lay_strs hL l h) (Nat.le_trans (dep_list (k := 0) fun d hd => by
  obtain ⟨x, _, rfl⟩ := List.mem_map.mp hd
  exact Nat.le_refl _) (by decide))
theorem lay_tupT (l : List (List Nat)) : (PyData.tuple (l.map tupN)).canLay0 = true := lay_tup fun d hd => by
  obtain ⟨y, _, rfl⟩ := List.mem_map.mp hd
  exact lay_tup fun d hd => by obtain ⟨y, _, rfl⟩ := List.mem_map.mp hd; exact lay_int _
theorem shaped_tupT (l : List (List Nat)) : SeqAt.shaped (.tuple (l.map tupN)) = true := shaped_of (lay_tupT l) (Nat.le_trans (dep_tup (k := 1) fun d hd => by
  obtain ⟨y, _, rfl⟩ := List.mem_map.mp hd
  exact dep_tup (k := 0) fun d hd => by obtain ⟨y, _, rfl⟩ := List.mem_map.mp hd; exact dep_int _) (by decide))
section
variable {P : Program} {w : World} {K : PySem.W.Frag} {mg : Str → Option Value} {base : Heap}
abbrev s_law : Stmt := top 33
abbrev N_law : List Str := ["_law_script", "_law_cell", "_law_source_here", "_law_turn", "_law_rows", "_law_found", "_law_words", "_law_table_here", "_law_monoid", "_law_told", "_law_numbers", "_law_due", "_law_one", "_law_row"]
theorem sc_law : FnScope N_law ["_law_script"] (defScope s_law) := ⟨rfl, rfl, rfl, by decide +kernel, rfl, by decide +kernel, by decide +kernel⟩

set_option maxHeartbeats 2000000 in
theorem ok_law {f : Addr} {fd : FuncData} {CM : Addr} (Fn : Fun K "law" "law" s_law f fd) (B : Bt mg) (f_law_source : Cal P w K mg base 1 "_law_source" (SpF K Wsource)) (f_law_maps : Cal P w K mg base 2 "_law_maps" (SpM K Wmaps)) (f_law_table : Cal P w K mg base 1 "_law_table" (SpF K Wtable)) (f_law_product : Cal P w K mg base 1 "_law_product" (SpF K Wprod2))
    (f_law_words_right : Cal P w K mg base 4 "_law_words_right" (SpB K (WwordsR K P w CM))) (f_law_products_right : CalG P w K mg base 5 "_law_products_right" (SpB K (WprodsR K P w CM))) (mk_Monoid : Mak P w K mg base 3 "Monoid" CM (SpO K (Winit K P w CM)))
    (m_words : Met P w K mg base 2 CM "words" (SpO K (WwordsL K P w CM))) (m_size : Met P w K mg base 1 CM "size" (SpO K (Wsize K P w CM))) (m_left : Met P w K mg base 1 CM "left" (SpO K (WleftT K P w CM))) :
    FnG P w K mg base 6 f fd ["_law_script"] (SpS K) := by
  refine Fn.okG sc_law (fun vs H Q h => ?_) (fun cdv A outer s H vs Q hg hr h => ?_)
  · obtain ⟨G, a, ns, _, rfl, _⟩ := h
    rfl
  · refine ⟨_, (pss_cons (ps_for PassesOwn.never rfl (pi_list' K (pe_slice (sl_list' K) (pe_op (op_catS' K) (pv 0) (pe_lst (pa_cons pe_int pa_nil))) po_none (po_some pe_int))) (pg_name (i := 1) sc_law.nd rfl (Or.inl rfl)) (pss_cons (ps_set (i := 2) sc_law.nd rfl (Or.inl rfl) (pe_c f_law_source hr (by decide) rfl (pa_cons (pv 1) pa_nil)))
 (pss_one (ps_for PassesOwn.never rfl (pi_range1 rfl B.b_range (pa_cons pe_int pa_nil)) (pg_name (i := 3) sc_law.nd rfl (Or.inl rfl)) (pss_cons (ps_set (i := 4) sc_law.nd rfl (Or.inr rfl) (pe_c f_law_maps hr (by decide) rfl (pa_cons (pv 2) (pa_cons pe_int (pa_cons pe_int pa_nil)))))
 (pss_cons (ps_asg (pe_c f_law_table hr (by decide) rfl (pa_cons (pv 4) pa_nil)) (pg_tup' K (n := 3) rfl (pgs_cons (pg_name (i := 5) sc_law.nd rfl (Or.inl rfl)) (pgs_cons (pg_name (i := 6) sc_law.nd rfl (Or.inl rfl)) (pgs_cons (pg_name (i := 7) sc_law.nd rfl (Or.inl rfl)) pgs_nil)))))
 (pss_cons (ps_set (i := 8) sc_law.nd rfl (Or.inl rfl) (pe_mk mk_Monoid hr (by decide) rfl (pa_cons (pv 7) pa_nil)))
 (pss_cons (ps_set (i := 9) sc_law.nd rfl (Or.inl rfl) (pe_mt0 m_words hr (by decide) (pv 8)))
 (pss_cons (ps_expr (pe_bm' K PySem.F.plainAttrs_list PySem.F.slot_list_append PySem.F.type_list_append mt_append (pv 9) (pa_cons pe_str pa_nil)))
 (pss_cons (ps_if (PW.pt (pw_or (pt_cmpR (op_neD' K hr.units) (pe_mt0 m_words hr (by decide) (pv 8)) (pv 6) (nomark _)) (pw_or (pt_cmpR op_ne (pe_mt0 m_size hr (by decide) (pv 8)) (pe_callB (call_len_seq' K) rfl B.b_len (by decide +kernel) (pa_cons (pv 5) pa_nil)) (nomark _)) (pw_or1 (pt_cmpR (op_neD' K hr.units) (pe_slice (sl_list' K) (pv 9) po_none (po_some (pe_un un_neg pe_int))) (pv 6) (nomark _)))))) (pss_one (ps_ret pe_bl)) pss_nil)
 (pss_cons (ps_if (PW.pt (pw_or (pt_not (pt_val (pe_c f_law_words_right hr (by decide) rfl (pa_cons (pv 2) (pa_cons (pv 8) (pa_cons (pv 4) (pa_cons (pv 5) pa_nil))))))) (pw_or1 (pt_not (pt_val (pe_cG f_law_products_right hg hr (by decide) rfl (pa_cons (pv 2) (pa_cons (pv 8) (pa_cons (pv 5) pa_nil))))))))) (pss_one (ps_ret pe_bl)) pss_nil)
 (pss_cons (ps_set (i := 10) sc_law.nd rfl (Or.inr rfl) (pe_dzip' K rfl hr.units rfl B.b_dict rfl B.b_zip (pv 5) (prg_1 rfl B.b_range (pe_callB (call_len_seq' K) rfl B.b_len (by decide +kernel) (pa_cons (pv 5) pa_nil)))))
 (pss_cons (ps_lcv [12] (ps_setLc (i := 11) (own := [("_law_one", 12)]) (g := gName 12) (tt := tYes) rfl sc_law.nd rfl rfl (sw_true rfl rfl rfl (by decide +kernel)) (pi_list' K (pv 5)) (blkOk_by (own := [("_law_one", 12)]) (N := N_law) (by kernel_rfl)) (fun _ _ _ _ _ => pg_name (i := 12) sc_law.nd rfl (Or.inr rfl)) (fun _ _ _ _ _ => pts_nil) (fun _ _ _ _ _ => (pe_callTy (call_tuple_of' K) rfl B.b_tuple (by decide +kernel) (pa_cons (pe_lcv [13] (pe_lc (own := [("_law_row", 13)]) (g := gName 13) (tt := tYes) rfl sc_law.nd (pi_list' K (pv 4)) (blkOk_by (own := [("_law_row", 13)]) (N := N_law) (by kernel_rfl)) (fun _ _ _ _ _ => pg_name (i := 13) sc_law.nd rfl (Or.inl rfl)) (fun _ _ _ _ _ => pts_nil) (fun _ _ _ _ _ => (pe_dget hr.u1 (pv 10) (pe_c f_law_product hr (by decide) rfl (pa_cons (pv 13) (pa_cons (pv 12) pa_nil))) (fun _ _ => rfl))))) pa_nil)))))
 (pss_one (ps_if (pt_cmpR (op_neD' K hr.units) (pe_mt0 m_left hr (by decide) (pv 8)) (pe_callTy (call_tuple_of' K) rfl B.b_tuple (by decide +kernel) (pa_cons (pv 11) pa_nil)) (nomark _)) (pss_one (ps_ret pe_bl)) pss_nil)))))))))))))))
 (pss_one (ps_ret pe_bl))), bodyS h fun F a ns hK hio hns ret => ?_⟩
    subst hK
    show Rn F _ [.ow (scrO F.K a ns), .no, .no, .no, .no, .no, .no, .no, .no, .no, .no, .no, .no, .no] _
    refine rn_seq (rn_for (iw_script (n := 3) rfl hns fun cells hc => ?_))
    refine ⟨fun i δ' => ∃ (s1 s2 s3 s4 s5 s6 s7 s8 s9 s10 s11 : SD), δ' = [.ow (scrO F.K a ns), s1, s2, s3, s4, s5, s6, s7, s8, s9, s10, s11, .no, .no], ⟨_, _, _, _, _, _, _, _, _, _, _, rfl⟩, ?_, ?_⟩
    · rintro F' i d δ' N hle hd ⟨s1, s2, s3, s4, s5, s6, s7, s8, s9, s10, s11, rfl⟩ hN
      try rw [← hle.k]
      obtain ⟨n0, _, rfl⟩ := map_item hd
      refine rn_asgN (i := 1) rfl ?_
      walk_at "ev"
      refine ⟨[_], rfl, n0, rfl, fun ps ds4 hs4 hp4 => ?_⟩
      walk_at "ev"
      refine rn_for (iw_range1 ?_)
      walk_at "ev"
      refine ⟨by decide, by decide, fun j δ' => ∃ (ds5 : List PyData) (s3 s4 s5 s6 s7 s8 s9 s10 s11 : SD), SrcD ds5 ∧ δ' = [.ow (scrO F'.K a ns), .fz (.int n0), .ol ps ds5, s3, s4, s5, s6, s7, s8, s9, s10, s11, .no, .no], ⟨_, _, _, _, _, _, _, _, _, _, hs4, rfl⟩, ?_, ?_⟩
      · clear s3 s4 s5 s6 s7 s8 s9 s10 s11
        rintro F2 j d2 δ' N2 hle2 hd2 ⟨ds5, s3, s4, s5, s6, s7, s8, s9, s10, s11, hs5, rfl⟩ hN2
        try rw [← hle2.k]
        refine rn_asgN (i := 3) rfl ?_
        refine rn_seq (rn_set (SL.E.freeze ?_))
        walk_at "ev"
        refine ⟨ps, [_, _], 2, _, rfl, rfl, hs5, 4, 6, rfl, by omega, by omega, by decide, by decide, fun p6 n ms ds6 m1 m4 c1 c6 hmaps hs6 hp6 => ⟨p6, _, hp6 p6 (by simp [SD.fp]), rfl, ?_⟩⟩
        walk_at "ev"
        refine ⟨[_], rfl, n, ms, rfl, m1, m4, c1, c6, hmaps, fun found words t tab _ => ?_⟩
        have D : Drawn n ms found words t := ⟨tab, m4, c1, c6, hmaps⟩
        have g := D.good
        have htl := tab.tl
        have h256 := D.few
        walk_at "ev"
        refine ev_make ?_
        walk_at "ev"
        refine ⟨[_], rfl, fun pm dx pmio dxio => ⟨pm, dx, t, ms.length, rfl, rfl, g, fun q => ⟨rfl, ?_⟩⟩⟩
        show ∃ old, _ ∧ _
        refine ⟨_, rfl, ?_⟩
        refine nx_seq (rn_seq (rn_set (ev_meth ?_)))
        show E F2 _ [.ow (scrO F2.K a ns), .fz (.int n0), .ol ps ds6, .fz d2, .fz (.list (ms.map tupN)), .fz (.list (found.map tupN)), .fz (.list (words.map strS)), .fz (.list (t.map lstN)), monO F2.K P w CM pm dx q t [], s9, s10, s11, .no, .no] _
        walk_at "ev"
        refine ⟨pm, dx, _, _, 8, rfl, rfl, rfl, ?_⟩
        walk_at "ev"
        refine ⟨[], dx, CM, _, _, rfl, rfl, pm, dx, q, t, ms.length, [], rfl, rfl, g, memOk_nil t, fun kvs1 pt hm1 hpt => ?_⟩
        have qt := hpt pt (by simp [SD.fp])
        have hlen : (Mt.wordsOf (scanRows 0 t [])).length = found.length := by rw [wordsOf_len, ← tab.len]
        refine ⟨_, rfl, ?_⟩
        refine nx_seq (rn_seq (rn_drop ?_))
        walk_at "ev"
        refine ⟨pt, 9, _, rfl, rfl, ?_⟩
        walk_at "ev"
        refine ⟨_, _, rfl, rfl, by rw [List.length_map, hlen]; omega, ?_⟩
        refine nx_seq (rn_seq (rn_if (t_or (t_B (ev_op (SL.E.freeze (ev_meth ?_)))))))
        show E F2 _ [.ow (scrO F2.K a ns), .fz (.int n0), .ol ps ds6, .fz d2, .fz (.list (ms.map tupN)), .fz (.list (found.map tupN)), .fz (.list (words.map strS)), .fz (.list (t.map lstN)), monO F2.K P w CM pm dx q t kvs1, .ol pt ((Mt.wordsOf (scanRows 0 t [])).map strS ++ [.str "x"]), s10, s11, .no, .no] _
        walk_at "ev"
        refine ⟨pm, dx, _, _, 8, rfl, rfl, rfl, ?_⟩
        walk_at "ev"
        refine ⟨[], dx, CM, _, _, rfl, rfl, pm, dx, q, t, ms.length, kvs1, rfl, rfl, g, hm1, fun kvs2 pu hm2 hpu => ⟨pu, _, hpu pu (by simp [SD.fp]), rfl, ?_⟩⟩
        walk_at "ev"
        have hwl : ∀ w ∈ words, WordL ms.length w := fun w hw => by
          rw [tab.wd] at hw
          obtain ⟨k, hk⟩ := List.getElem?_of_mem hw
          have hkt : k < t.length := by rw [htl, ← hlen]; exact (List.getElem?_eq_some_iff.mp hk).1
          obtain ⟨w', e1, e2, _⟩ := g.word hkt
          rw [hk] at e1
          cases e1
          exact e2
        rw [← tab.wd]
        refine o_neD (shaped_strs c6 _ hwl) (shaped_strs c6 _ hwl) ?_
        rw [SeqAt.eqv_refl _ (lay_strs c6 _ hwl)]
        refine ⟨_, rfl, iteF ?_⟩
        refine t_or (t_B (ev_op (ev_meth ?_)))
        walk_at "ev"
        refine ⟨pm, dx, _, _, 8, rfl, rfl, rfl, ?_⟩
        walk_at "ev"
        refine ⟨[], dx, CM, _, _, rfl, rfl, pm, dx, q, t, kvs2, rfl, rfl, fun _ => ?_⟩
        walk_at "ev"
        rw [List.length_map, htl]
        refine (if_neg (by simp)).mpr ?_
        refine t_B (ev_op (SL.E.freeze (ev_butlast ?_)))
        walk_at "ev"
        refine ⟨_, .al 9 rfl, fun p7 q7 => ⟨p7, _, q7, rfl, ?_⟩⟩
        walk_at "ev"
        have ecut : (words.map strS ++ [PyData.str "x"]).take ((words.map strS ++ [PyData.str "x"]).length - 1) = words.map strS := by simp
        rw [ecut]
        refine o_neD (shaped_strs c6 _ hwl) (shaped_strs c6 _ hwl) ?_
        rw [SeqAt.eqv_refl _ (lay_strs c6 _ hwl)]
        refine ⟨_, rfl, iteF ?_⟩
        refine rn_next (nx_seq (rn_seq (rn_if (t_or (t_not (t_B (ev_callB ?_)))))))
        walk_at "ev"
        refine ⟨ps, pm, _, _, 2, 8, [_, _], rfl, rfl, rfl, pins_ol, pins_ins, ps, ds6, pm, dx, q, kvs2, n, ms, found, words, t, rfl, rfl, rfl, hs6, D, hm2, fun ds7 kvs3 hs7 hm3 _ => ⟨true, rfl, ?_⟩⟩
        refine (if_neg (by simp)).mpr ?_
        refine t_not (t_B (ev_callB ?_))
        walk_at "ev"
        refine ⟨ps, pm, _, _, 2, 8, [_], rfl, rfl, rfl, pins_ol, pins_ins, ps, ds7, pm, dx, q, kvs3, n, ms, found, words, t, rfl, rfl, rfl, hs7, D, hm3, fun ds8 kvs4 hs8 hm4 _ => ⟨true, rfl, ?_⟩⟩
        refine (if_neg (by simp)).mpr ?_
        refine rn_next (nx_seq (rn_seq (rn_set (ev_dzip ?_))))
        walk_at "ev"
        have ekn : found.map tupN = (found.map keyN).map fun k => PyData.tuple (k.map keyD) := by
          rw [List.map_map]
          exact List.map_congr_left fun y _ => tupN_key y
        refine ⟨(found.map tupN).length, found.map keyN, rfl, by rw [ekn]; exact .fz, by simp, ?_, by rw [List.length_map]; omega, fun pz qz => ?_⟩
        · refine List.Pairwise.map keyN ?_ tab.nd
          intro a b hab e
          exact hab (keyN_inj e)
        have ekv : ((found.map keyN).zipIdx.map fun p => (p.1, PyData.int (p.2 : Int))) = kvsOf found := by
          unfold kvsOf
          rw [List.zipIdx_map, List.map_map]
          rfl
        rw [ekv]
        refine ⟨_, rfl, ?_⟩
        refine nx_seq (rn_seq (rn_set (ev_lc (iw_list ?_))))
        show E F2 _ [.ow (scrO F2.K a ns), .fz (.int n0), .ol ps ds8, .fz d2, .fz (.list (ms.map tupN)), .fz (.list (found.map tupN)), .fz (.list (words.map strS)), .fz (.list (t.map lstN)), monO F2.K P w CM pm dx q t kvs4, .ol pt (words.map strS ++ [PyData.str "x"]), .ot pz (kvsOf found), s11, .no, .no] _
        walk_at "ev"
        refine ⟨rfl, by rw [List.length_map]; omega, fun j acc δ' => acc = ((leftsOf t (scanRows 0 t [])).take j).map tupN ∧ δ' = [.ow (scrO F2.K a ns), .fz (.int n0), .ol ps ds8, .fz d2, .fz (.list (ms.map tupN)), .fz (.list (found.map tupN)), .fz (.list (words.map strS)), .fz (.list (t.map lstN)), monO F2.K P w CM pm dx q t kvs4, .ol pt (words.map strS ++ [PyData.str "x"]), .ot pz (kvsOf found), s11, .no, .no], ⟨by simp, rfl⟩, ?_, ?_, ?_⟩
        · rintro j acc δ' ⟨rfl, rfl⟩
          exact ⟨rfl, by rw [List.length_map, List.length_take]; omega⟩
        · rintro F3 j d3 acc δ' hle3 hd3 ⟨rfl, rfl⟩
          try rw [← hle3.k]
          obtain ⟨x, hx, rfl⟩ := map_item hd3
          have hjl : j < (scanRows 0 t []).length + 1 := by rw [← tab.len]; exact (List.getElem?_eq_some_iff.mp hx).1
          obtain ⟨r, hr1, hr2, hr3⟩ := tab.lefts hmaps _ [] (by simp) j x hjl hx
          refine t_yes ((if_pos rfl).mpr (ev_cb (a_one (ev_lc (iw_list ?_)))))
          walk_at "ev"
          refine ⟨rfl, by rw [List.length_map]; omega, fun c acc2 δ2 => acc2 = (r.take c).map intN ∧ δ2 = [.ow (scrO F3.K a ns), .fz (.int n0), .ol ps ds8, .fz d2, .fz (.list (ms.map tupN)), .fz (.list (found.map tupN)), .fz (.list (words.map strS)), .fz (.list (t.map lstN)), monO F3.K P w CM pm dx q t kvs4, .ol pt (words.map strS ++ [PyData.str "x"]), .ot pz (kvsOf found), s11, .fz (tupN x), .no], ⟨by simp, by rw [hle3.k]; rfl⟩, ?_, ?_, ?_⟩
          · rintro c acc2 δ2 ⟨rfl, rfl⟩
            exact ⟨rfl, by rw [List.length_map, List.length_take]; omega⟩
          · rintro F4 c d4 acc2 δ2 hle4 hd4 ⟨rfl, rfl⟩
            try rw [← hle4.k]
            obtain ⟨m, hm, rfl⟩ := map_item hd4
            obtain ⟨o, ho1, ho2⟩ := hr3 c m hm
            refine t_yes ((if_pos rfl).mpr (ev_dgetT ?_))
            walk_at "ev"
            refine ⟨[_, _], rfl, n, m, x, rfl, by omega, hmaps m (List.mem_of_getElem? hm), tab.mp x (List.mem_of_getElem? hx), fun _ => ?_⟩
            refine ⟨keyN (comp m x), 10, kvsOf found, intN o, by rw [tupN_key], rfl, look_some tab.nd ho2, ?_⟩
            refine ⟨_, rfl, _, rfl, ?_, ?_⟩
            · rw [List.take_succ, ho1]
              simp
            · try rw [hle4.k]
              rfl
          · rintro acc2 δ2 q4 hq4 ⟨rfl, rfl⟩
            refine b_tupO ?_
            have er : r.take (ms.map tupN).length = r := by rw [List.length_map, ← hr2, List.take_length]
            rw [er]
            refine ⟨_, rfl, _, rfl, ?_, ?_⟩
            · rw [List.take_succ, hr1]
              simp [tupN]
            · try rw [hle3.k]
              rfl
        · rintro acc δ' q3 hq3 ⟨rfl, rfl⟩
          have el : (leftsOf t (scanRows 0 t [])).take (found.map tupN).length = leftsOf t (scanRows 0 t []) := List.take_of_length_le (by rw [leftsOf_len, List.length_map, ← tab.len]; exact Nat.le_refl _)
          rw [el]
          refine ⟨_, rfl, ?_⟩
          refine nx_seq (Rn.freezeS (i := 11) rfl hq3 (rn_if (t_B (ev_op (ev_meth ?_)))))
          walk_at "ev"
          refine ⟨pm, dx, _, _, 8, rfl, rfl, rfl, ?_⟩
          walk_at "ev"
          refine ⟨[], dx, CM, _, _, rfl, rfl, pm, dx, q, t, kvs4, rfl, rfl, fun _ => ?_⟩
          refine ev_cb (a_one ?_)
          walk_at "ev"
          refine o_neD (shaped_tupT (leftsOf t (scanRows 0 t []))) (shaped_tupT (leftsOf t (scanRows 0 t []))) ?_
          rw [show PyData.eqv (leftD t) (.tuple ((leftsOf t (scanRows 0 t [])).map tupN)) = true from SeqAt.eqv_refl _ (lay_tupT _)]
          refine ⟨_, rfl, iteF ?_⟩
          refine rn_next (hN2 _ ⟨ds8, .fz d2, .fz (.list (ms.map tupN)), .fz (.list (found.map tupN)), .fz (.list (words.map strS)), .fz (.list (t.map lstN)), monO F2.K P w CM pm dx q t kvs4, .ol pt (words.map strS ++ [PyData.str "x"]), .ot pz (kvsOf found), .fz (.list ((leftsOf t (scanRows 0 t [])).map tupN)), hs8, ?_⟩)
          try rw [hle2.k]
          rfl
      · rintro δ' ⟨ds5, s3, s4, s5, s6, s7, s8, s9, s10, s11, hs5, rfl⟩
        refine hN _ ⟨.fz (.int n0), .ol ps ds5, s3, s4, s5, s6, s7, s8, s9, s10, s11, ?_⟩
        try rw [hle.k]
    · rintro δ' ⟨s1, s2, s3, s4, s5, s6, s7, s8, s9, s10, s11, rfl⟩
      walk_at "ev"
      exact ret _
end
end My

set_option maxHeartbeats 0
namespace My
open PySem PySem.Spec PyProof.Rows L2 SL
def d_is_number : He.DefD := ⟨("is_number", none), "is_number", "is_number", defArgs s_is_number, defBody s_is_number, defScope s_is_number, [], []⟩
def d_is_sequence : He.DefD := ⟨("is_sequence", none), "is_sequence", "is_sequence", defArgs s_is_sequence, defBody s_is_sequence, defScope s_is_sequence, [], []⟩
def d_check_form : He.DefD := ⟨("check_form", none), "check_form", "check_form", defArgs s_check_form, defBody s_check_form, defScope s_check_form, [], []⟩
def d_check_order : He.DefD := ⟨("check_order", none), "check_order", "check_order", defArgs s_check_order, defBody s_check_order, defScope s_check_order, [], []⟩
def d_tree_of : He.DefD := ⟨("tree_of", none), "tree_of", "tree_of", defArgs s_tree_of, defBody s_tree_of, defScope s_tree_of, [], []⟩
def d_left_of : He.DefD := ⟨("left_of", none), "left_of", "left_of", defArgs s_left_of, defBody s_left_of, defScope s_left_of, [], []⟩
def d_check_products : He.DefD := ⟨("check_products", none), "check_products", "check_products", defArgs s_check_products, defBody s_check_products, defScope s_check_products, [], []⟩
def d_Monoid___init__ : He.DefD := ⟨("Monoid", some "__init__"), "__init__", "Monoid.__init__", defArgs s_Monoid___init__, defBody s_Monoid___init__, defScope s_Monoid___init__, [], []⟩
def d_Monoid_all_words : He.DefD := ⟨("Monoid", some "all_words"), "all_words", "Monoid.all_words", defArgs s_Monoid_all_words, defBody s_Monoid_all_words, defScope s_Monoid_all_words, [], []⟩
def d_Monoid_size : He.DefD := ⟨("Monoid", some "size"), "size", "Monoid.size", defArgs s_Monoid_size, defBody s_Monoid_size, defScope s_Monoid_size, [], []⟩
def d_Monoid_left : He.DefD := ⟨("Monoid", some "left"), "left", "Monoid.left", defArgs s_Monoid_left, defBody s_Monoid_left, defScope s_Monoid_left, [], []⟩
def d_Monoid_words : He.DefD := ⟨("Monoid", some "words"), "words", "Monoid.words", defArgs s_Monoid_words, defBody s_Monoid_words, defScope s_Monoid_words, [], []⟩
def d_Monoid_check_number : He.DefD := ⟨("Monoid", some "check_number"), "check_number", "Monoid.check_number", defArgs s_Monoid_check_number, defBody s_Monoid_check_number, defScope s_Monoid_check_number, [], []⟩
def d_Monoid_places_of : He.DefD := ⟨("Monoid", some "places_of"), "places_of", "Monoid.places_of", defArgs s_Monoid_places_of, defBody s_Monoid_places_of, defScope s_Monoid_places_of, [], []⟩
def d_Monoid_of_word : He.DefD := ⟨("Monoid", some "of_word"), "of_word", "Monoid.of_word", defArgs s_Monoid_of_word, defBody s_Monoid_of_word, defScope s_Monoid_of_word, [], []⟩
def d_Monoid_path_of : He.DefD := ⟨("Monoid", some "path_of"), "path_of", "Monoid.path_of", defArgs s_Monoid_path_of, defBody s_Monoid_path_of, defScope s_Monoid_path_of, [], []⟩
def d_Monoid_product : He.DefD := ⟨("Monoid", some "product"), "product", "Monoid.product", defArgs s_Monoid_product, defBody s_Monoid_product, defScope s_Monoid_product, [], []⟩
def d_Monoid_times : He.DefD := ⟨("Monoid", some "times"), "times", "Monoid.times", defArgs s_Monoid_times, defBody s_Monoid_times, defScope s_Monoid_times, [], []⟩
def d_Monoid_power : He.DefD := ⟨("Monoid", some "power"), "power", "Monoid.power", defArgs s_Monoid_power, defBody s_Monoid_power, defScope s_Monoid_power, [], []⟩
def d_Monoid_cycle : He.DefD := ⟨("Monoid", some "cycle"), "cycle", "Monoid.cycle", defArgs s_Monoid_cycle, defBody s_Monoid_cycle, defScope s_Monoid_cycle, [], []⟩
def d_law_source : He.DefD := ⟨("_law_source", none), "_law_source", "_law_source", defArgs s_law_source, defBody s_law_source, defScope s_law_source, [], []⟩
def d_law_draw : He.DefD := ⟨("_law_draw", none), "_law_draw", "_law_draw", defArgs s_law_draw, defBody s_law_draw, defScope s_law_draw, [], []⟩
def d_law_pick : He.DefD := ⟨("_law_pick", none), "_law_pick", "_law_pick", defArgs s_law_pick, defBody s_law_pick, defScope s_law_pick, [], []⟩
def d_law_maps : He.DefD := ⟨("_law_maps", none), "_law_maps", "_law_maps", defArgs s_law_maps, defBody s_law_maps, defScope s_law_maps, [], []⟩
def d_law_table : He.DefD := ⟨("_law_table", none), "_law_table", "_law_table", defArgs s_law_table, defBody s_law_table, defScope s_law_table, [], []⟩
def d_law_product : He.DefD := ⟨("_law_product", none), "_law_product", "_law_product", defArgs s_law_product, defBody s_law_product, defScope s_law_product, [], []⟩
def d_law_powers : He.DefD := ⟨("_law_powers", none), "_law_powers", "_law_powers", defArgs s_law_powers, defBody s_law_powers, defScope s_law_powers, [], []⟩
def d_law_word : He.DefD := ⟨("_law_word", none), "_law_word", "_law_word", defArgs s_law_word, defBody s_law_word, defScope s_law_word, [], []⟩
def d_law_words_right : He.DefD := ⟨("_law_words_right", none), "_law_words_right", "_law_words_right", defArgs s_law_words_right, defBody s_law_words_right, defScope s_law_words_right, [], []⟩
def d_law_products_right : He.DefD := ⟨("_law_products_right", none), "_law_products_right", "_law_products_right", defArgs s_law_products_right, defBody s_law_products_right, defScope s_law_products_right, [], []⟩
def d_law : He.DefD := ⟨("law", none), "law", "law", defArgs s_law, defBody s_law, defScope s_law, [], []⟩
def fn : List He.DefD := [d_is_number, d_is_sequence, d_check_form, d_check_order, d_tree_of, d_left_of, d_check_products, d_Monoid___init__, d_Monoid_all_words, d_Monoid_size, d_Monoid_left, d_Monoid_words, d_Monoid_check_number, d_Monoid_places_of, d_Monoid_of_word, d_Monoid_path_of, d_Monoid_product, d_Monoid_times, d_Monoid_power, d_Monoid_cycle, d_law_source, d_law_draw, d_law_pick, d_law_maps, d_law_table, d_law_product, d_law_powers, d_law_word, d_law_words_right, d_law_products_right, d_law]
def fa0 : List He.Fa := [.free "len", .free "abs", .free "int", .free "tuple", .free "list", .free "range", .free "enumerate", .free "zip", .free "all", .free "repr", .free "isinstance", .free "bool", .free "str", .free "dict", .int "MOST_ELEMENTS" 2000, .int "MOST_LETTERS" 6, .int "MOST_WORD" 100, .int "MOST_COUNT" 1000000000000000000000000000000, .str "LETTERS" "abcdef", .glo "Monoid"]
def fa1 : List He.Fa := [.cls "Monoid", .noat "Monoid" "right", .noat "Monoid" "tree", .noat "Monoid" "lefts", .noat "Monoid" "memory", .meth "Monoid" "all_words", .meth "Monoid" "size", .meth "Monoid" "left", .meth "Monoid" "words", .meth "Monoid" "check_number", .meth "Monoid" "places_of", .meth "Monoid" "of_word", .meth "Monoid" "path_of", .meth "Monoid" "product", .meth "Monoid" "times", .meth "Monoid" "power", .meth "Monoid" "cycle", .mkr "Monoid", .glo "is_number", .glo "is_sequence"]
def fa2 : List He.Fa := [.glo "check_form", .glo "check_order", .glo "tree_of", .glo "left_of", .glo "check_products", .glo "_law_source", .glo "_law_draw", .glo "_law_pick", .glo "_law_maps", .glo "_law_table", .glo "_law_product", .glo "_law_powers", .glo "_law_word", .glo "_law_words_right", .glo "_law_products_right", .glo "law"]
def fa : List He.Fa := fa0 ++ fa1 ++ fa2
def nm0 : List PySem.Str := ["_wall", "FoldError", "NoNumber", "NoMonoid", "NoWord", "Fact", "is_number", "is_sequence", "LETTERS", "MOST_ELEMENTS", "MOST_LETTERS", "MOST_WORD", "MOST_COUNT", "check_form", "check_order", "tree_of", "left_of", "check_products", "Monoid", "_law_source"]
def nm1 : List PySem.Str := ["_law_draw", "_law_pick", "_law_maps", "_law_table", "_law_product", "_law_powers", "_law_word", "_law_words_right", "_law_products_right"]
def nm : List PySem.Str := nm0 ++ nm1
abbrev RR : PySem.W.OpenRow := PySem.W.OpenLaw.row PySem.Challenge.rw_letterfolds_k14_words_and_products
abbrev hk : PySem.W.Hook := He.hookD 5 fa fn
def ob (s : PySem.W.SharedT) : He.AlD := He.obsDG 5 fa fn (HandSHeadRun.getT s)
theorem ob_eq (s : PySem.W.SharedT) : ob s = hk.obs s.abs := He.obsDG_eq (HandSHeadRun.getT_eq s)
theorem run (w : World) : HandSHeadRun.RunEq RR (PySem.W.view RR.prog [33]) hk ob 4000 nm w := by
  intro os
  kernel_rfl
theorem facts {P : Program} {w : World} {K : PySem.W.Frag} {h : Heap} {mg : Str → Option Value} {f : Addr} (X : K.In h) (G : h.Ns mainGlobals mg) (hfa : mg ("law" : Str) = some (.ref f)) (c : He.SaysD fa fn K) :
    ∃ fd : FuncData, (∀ (s : Shared) (v : Value), BindsTo s fd ⟨[v], []⟩ [("_law_script", v)]) ∧ ∀ base : Heap, K.In base → base.Ns mainGlobals mg → FnG P w K mg base 6 f fd ["_law_script"] (SpS K) := by
  have b_len : mg "len" = none := He.free_ok X G (c.fact 0 (f := .free "len") rfl)
  have b_abs : mg "abs" = none := He.free_ok X G (c.fact 1 (f := .free "abs") rfl)
  have b_int : mg "int" = none := He.free_ok X G (c.fact 2 (f := .free "int") rfl)
  have b_tuple : mg "tuple" = none := He.free_ok X G (c.fact 3 (f := .free "tuple") rfl)
  have b_list : mg "list" = none := He.free_ok X G (c.fact 4 (f := .free "list") rfl)
  have b_range : mg "range" = none := He.free_ok X G (c.fact 5 (f := .free "range") rfl)
  have b_enumerate : mg "enumerate" = none := He.free_ok X G (c.fact 6 (f := .free "enumerate") rfl)
  have b_zip : mg "zip" = none := He.free_ok X G (c.fact 7 (f := .free "zip") rfl)
  have b_all : mg "all" = none := He.free_ok X G (c.fact 8 (f := .free "all") rfl)
  have b_repr : mg "repr" = none := He.free_ok X G (c.fact 9 (f := .free "repr") rfl)
  have b_isinstance : mg "isinstance" = none := He.free_ok X G (c.fact 10 (f := .free "isinstance") rfl)
  have b_bool : mg "bool" = none := He.free_ok X G (c.fact 11 (f := .free "bool") rfl)
  have b_str : mg "str" = none := He.free_ok X G (c.fact 12 (f := .free "str") rfl)
  have b_dict : mg "dict" = none := He.free_ok X G (c.fact 13 (f := .free "dict") rfl)
  have B : Bt mg := ⟨b_len, b_abs, b_int, b_tuple, b_list, b_range, b_enumerate, b_zip, b_all, b_repr, b_isinstance, b_bool, b_str, b_dict⟩
  have g_MOST_ELEMENTS := gint (He.int_ok X G (c.fact 14 (f := .int "MOST_ELEMENTS" 2000) rfl))
  have g_MOST_LETTERS := gint (He.int_ok X G (c.fact 15 (f := .int "MOST_LETTERS" 6) rfl))
  have g_MOST_WORD := gint (He.int_ok X G (c.fact 16 (f := .int "MOST_WORD" 100) rfl))
  have g_MOST_COUNT := gint (He.int_ok X G (c.fact 17 (f := .int "MOST_COUNT" 1000000000000000000000000000000) rfl))
  have g_LETTERS := gstr (He.str_ok X G (c.fact 18 (f := .str "LETTERS" "abcdef") rfl))
  have C : Ct mg := ⟨g_MOST_ELEMENTS, g_MOST_LETTERS, g_MOST_WORD, g_MOST_COUNT, g_LETTERS⟩
  have glo_Monoid := He.glo_ok X G (c.fact 19 (f := .glo "Monoid") rfl)
  have cls_Monoid := He.cls_ok (c.fact 20 (f := .cls "Monoid") rfl)
  have noat_Monoid_right := He.noat_ok (c.fact 21 (f := .noat "Monoid" "right") rfl)
  have noat_Monoid_tree := He.noat_ok (c.fact 22 (f := .noat "Monoid" "tree") rfl)
  have noat_Monoid_lefts := He.noat_ok (c.fact 23 (f := .noat "Monoid" "lefts") rfl)
  have noat_Monoid_memory := He.noat_ok (c.fact 24 (f := .noat "Monoid" "memory") rfl)
  have meth_Monoid_all_words := He.meth_ok (c.fact 25 (f := .meth "Monoid" "all_words") rfl)
  have meth_Monoid_size := He.meth_ok (c.fact 26 (f := .meth "Monoid" "size") rfl)
  have meth_Monoid_left := He.meth_ok (c.fact 27 (f := .meth "Monoid" "left") rfl)
  have meth_Monoid_words := He.meth_ok (c.fact 28 (f := .meth "Monoid" "words") rfl)
  have meth_Monoid_check_number := He.meth_ok (c.fact 29 (f := .meth "Monoid" "check_number") rfl)
  have meth_Monoid_places_of := He.meth_ok (c.fact 30 (f := .meth "Monoid" "places_of") rfl)
  have meth_Monoid_of_word := He.meth_ok (c.fact 31 (f := .meth "Monoid" "of_word") rfl)
  have meth_Monoid_path_of := He.meth_ok (c.fact 32 (f := .meth "Monoid" "path_of") rfl)
  have meth_Monoid_product := He.meth_ok (c.fact 33 (f := .meth "Monoid" "product") rfl)
  have meth_Monoid_times := He.meth_ok (c.fact 34 (f := .meth "Monoid" "times") rfl)
  have meth_Monoid_power := He.meth_ok (c.fact 35 (f := .meth "Monoid" "power") rfl)
  have meth_Monoid_cycle := He.meth_ok (c.fact 36 (f := .meth "Monoid" "cycle") rfl)
  have mkr_Monoid := He.mkr_ok (c.fact 37 (f := .mkr "Monoid") rfl)
  have M : MC K (He.ga K "Monoid") := ⟨cls_Monoid, noat_Monoid_right, noat_Monoid_tree, noat_Monoid_lefts, noat_Monoid_memory⟩
  obtain ⟨fd_is_number, D_is_number⟩ := c.def_ 0 (d := d_is_number) rfl
  have F_is_number : Fun K "is_number" "is_number" s_is_number _ fd_is_number := fun_ofD D_is_number
  have bd_is_number : Binds K fd_is_number ["thing"] [] := F_is_number.binds fun _ _ _ _ _ _ us hl => match us, hl with | [_], _ => rfl
  have glo_is_number := He.glo_ok X G (c.fact 38 (f := .glo "is_number") rfl)
  obtain ⟨fd_is_sequence, D_is_sequence⟩ := c.def_ 1 (d := d_is_sequence) rfl
  have F_is_sequence : Fun K "is_sequence" "is_sequence" s_is_sequence _ fd_is_sequence := fun_ofD D_is_sequence
  have bd_is_sequence : Binds K fd_is_sequence ["thing"] [] := F_is_sequence.binds fun _ _ _ _ _ _ us hl => match us, hl with | [_], _ => rfl
  have glo_is_sequence := He.glo_ok X G (c.fact 39 (f := .glo "is_sequence") rfl)
  obtain ⟨fd_check_form, D_check_form⟩ := c.def_ 2 (d := d_check_form) rfl
  have F_check_form : Fun K "check_form" "check_form" s_check_form _ fd_check_form := fun_ofD D_check_form
  have bd_check_form : Binds K fd_check_form ["right"] [] := F_check_form.binds fun _ _ _ _ _ _ us hl => match us, hl with | [_], _ => rfl
  have glo_check_form := He.glo_ok X G (c.fact 40 (f := .glo "check_form") rfl)
  obtain ⟨fd_check_order, D_check_order⟩ := c.def_ 3 (d := d_check_order) rfl
  have F_check_order : Fun K "check_order" "check_order" s_check_order _ fd_check_order := fun_ofD D_check_order
  have bd_check_order : Binds K fd_check_order ["right"] [] := F_check_order.binds fun _ _ _ _ _ _ us hl => match us, hl with | [_], _ => rfl
  have glo_check_order := He.glo_ok X G (c.fact 41 (f := .glo "check_order") rfl)
  obtain ⟨fd_tree_of, D_tree_of⟩ := c.def_ 4 (d := d_tree_of) rfl
  have F_tree_of : Fun K "tree_of" "tree_of" s_tree_of _ fd_tree_of := fun_ofD D_tree_of
  have bd_tree_of : Binds K fd_tree_of ["right"] [] := F_tree_of.binds fun _ _ _ _ _ _ us hl => match us, hl with | [_], _ => rfl
  have glo_tree_of := He.glo_ok X G (c.fact 42 (f := .glo "tree_of") rfl)
  obtain ⟨fd_left_of, D_left_of⟩ := c.def_ 5 (d := d_left_of) rfl
  have F_left_of : Fun K "left_of" "left_of" s_left_of _ fd_left_of := fun_ofD D_left_of
  have bd_left_of : Binds K fd_left_of ["right", "tree"] [] := F_left_of.binds fun _ _ _ _ _ _ us hl => match us, hl with | [_, _], _ => rfl
  have glo_left_of := He.glo_ok X G (c.fact 43 (f := .glo "left_of") rfl)
  obtain ⟨fd_check_products, D_check_products⟩ := c.def_ 6 (d := d_check_products) rfl
  have F_check_products : Fun K "check_products" "check_products" s_check_products _ fd_check_products := fun_ofD D_check_products
  have bd_check_products : Binds K fd_check_products ["right", "left"] [] := F_check_products.binds fun _ _ _ _ _ _ us hl => match us, hl with | [_, _], _ => rfl
  have glo_check_products := He.glo_ok X G (c.fact 44 (f := .glo "check_products") rfl)
  obtain ⟨fd_Monoid___init__, D_Monoid___init__⟩ := c.def_ 7 (d := d_Monoid___init__) rfl
  have F_Monoid___init__ : Fun K "__init__" "Monoid.__init__" s_Monoid___init__ _ fd_Monoid___init__ := fun_ofD D_Monoid___init__
  have bd_Monoid___init__ : Binds K fd_Monoid___init__ ["self", "right"] [] := F_Monoid___init__.binds fun _ _ _ _ _ _ us hl => match us, hl with | [_, _], _ => rfl
  obtain ⟨fd_Monoid_all_words, D_Monoid_all_words⟩ := c.def_ 8 (d := d_Monoid_all_words) rfl
  have F_Monoid_all_words : Fun K "all_words" "Monoid.all_words" s_Monoid_all_words _ fd_Monoid_all_words := fun_ofD D_Monoid_all_words
  have bd_Monoid_all_words : Binds K fd_Monoid_all_words ["self"] [] := F_Monoid_all_words.binds fun _ _ _ _ _ _ us hl => match us, hl with | [_], _ => rfl
  obtain ⟨fd_Monoid_size, D_Monoid_size⟩ := c.def_ 9 (d := d_Monoid_size) rfl
  have F_Monoid_size : Fun K "size" "Monoid.size" s_Monoid_size _ fd_Monoid_size := fun_ofD D_Monoid_size
  have bd_Monoid_size : Binds K fd_Monoid_size ["self"] [] := F_Monoid_size.binds fun _ _ _ _ _ _ us hl => match us, hl with | [_], _ => rfl
  obtain ⟨fd_Monoid_left, D_Monoid_left⟩ := c.def_ 10 (d := d_Monoid_left) rfl
  have F_Monoid_left : Fun K "left" "Monoid.left" s_Monoid_left _ fd_Monoid_left := fun_ofD D_Monoid_left
  have bd_Monoid_left : Binds K fd_Monoid_left ["self"] [] := F_Monoid_left.binds fun _ _ _ _ _ _ us hl => match us, hl with | [_], _ => rfl
  obtain ⟨fd_Monoid_words, D_Monoid_words⟩ := c.def_ 11 (d := d_Monoid_words) rfl
  have F_Monoid_words : Fun K "words" "Monoid.words" s_Monoid_words _ fd_Monoid_words := fun_ofD D_Monoid_words
  have bd_Monoid_words : Binds K fd_Monoid_words ["self"] [] := F_Monoid_words.binds fun _ _ _ _ _ _ us hl => match us, hl with | [_], _ => rfl
  obtain ⟨fd_Monoid_check_number, D_Monoid_check_number⟩ := c.def_ 12 (d := d_Monoid_check_number) rfl
  have F_Monoid_check_number : Fun K "check_number" "Monoid.check_number" s_Monoid_check_number _ fd_Monoid_check_number := fun_ofD D_Monoid_check_number
  have bd_Monoid_check_number : Binds K fd_Monoid_check_number ["self", "number"] [] := F_Monoid_check_number.binds fun _ _ _ _ _ _ us hl => match us, hl with | [_, _], _ => rfl
  obtain ⟨fd_Monoid_places_of, D_Monoid_places_of⟩ := c.def_ 13 (d := d_Monoid_places_of) rfl
  have F_Monoid_places_of : Fun K "places_of" "Monoid.places_of" s_Monoid_places_of _ fd_Monoid_places_of := fun_ofD D_Monoid_places_of
  have bd_Monoid_places_of : Binds K fd_Monoid_places_of ["self", "word", "most"] [] := F_Monoid_places_of.binds fun _ _ _ _ _ _ us hl => match us, hl with | [_, _, _], _ => rfl
  obtain ⟨fd_Monoid_of_word, D_Monoid_of_word⟩ := c.def_ 14 (d := d_Monoid_of_word) rfl
  have F_Monoid_of_word : Fun K "of_word" "Monoid.of_word" s_Monoid_of_word _ fd_Monoid_of_word := fun_ofD D_Monoid_of_word
  have bd_Monoid_of_word : Binds K fd_Monoid_of_word ["self", "word"] [] := F_Monoid_of_word.binds fun _ _ _ _ _ _ us hl => match us, hl with | [_, _], _ => rfl
  obtain ⟨fd_Monoid_path_of, D_Monoid_path_of⟩ := c.def_ 15 (d := d_Monoid_path_of) rfl
  have F_Monoid_path_of : Fun K "path_of" "Monoid.path_of" s_Monoid_path_of _ fd_Monoid_path_of := fun_ofD D_Monoid_path_of
  have bd_Monoid_path_of : Binds K fd_Monoid_path_of ["self", "number"] [] := F_Monoid_path_of.binds fun _ _ _ _ _ _ us hl => match us, hl with | [_, _], _ => rfl
  obtain ⟨fd_Monoid_product, D_Monoid_product⟩ := c.def_ 16 (d := d_Monoid_product) rfl
  have F_Monoid_product : Fun K "product" "Monoid.product" s_Monoid_product _ fd_Monoid_product := fun_ofD D_Monoid_product
  have bd_Monoid_product : Binds K fd_Monoid_product ["self", "one", "other"] [] := F_Monoid_product.binds fun _ _ _ _ _ _ us hl => match us, hl with | [_, _, _], _ => rfl
  obtain ⟨fd_Monoid_times, D_Monoid_times⟩ := c.def_ 17 (d := d_Monoid_times) rfl
  have F_Monoid_times : Fun K "times" "Monoid.times" s_Monoid_times _ fd_Monoid_times := fun_ofD D_Monoid_times
  have bd_Monoid_times : Binds K fd_Monoid_times ["self", "one", "other"] [] := F_Monoid_times.binds fun _ _ _ _ _ _ us hl => match us, hl with | [_, _, _], _ => rfl
  obtain ⟨fd_Monoid_power, D_Monoid_power⟩ := c.def_ 18 (d := d_Monoid_power) rfl
  have F_Monoid_power : Fun K "power" "Monoid.power" s_Monoid_power _ fd_Monoid_power := fun_ofD D_Monoid_power
  have bd_Monoid_power : Binds K fd_Monoid_power ["self", "number", "count"] [] := F_Monoid_power.binds fun _ _ _ _ _ _ us hl => match us, hl with | [_, _, _], _ => rfl
  obtain ⟨fd_Monoid_cycle, D_Monoid_cycle⟩ := c.def_ 19 (d := d_Monoid_cycle) rfl
  have F_Monoid_cycle : Fun K "cycle" "Monoid.cycle" s_Monoid_cycle _ fd_Monoid_cycle := fun_ofD D_Monoid_cycle
  have bd_Monoid_cycle : Binds K fd_Monoid_cycle ["self", "number"] [] := F_Monoid_cycle.binds fun _ _ _ _ _ _ us hl => match us, hl with | [_, _], _ => rfl
  obtain ⟨fd_law_source, D_law_source⟩ := c.def_ 20 (d := d_law_source) rfl
  have F_law_source : Fun K "_law_source" "_law_source" s_law_source _ fd_law_source := fun_ofD D_law_source
  have bd_law_source : Binds K fd_law_source ["_law_cell"] [] := F_law_source.binds fun _ _ _ _ _ _ us hl => match us, hl with | [_], _ => rfl
  have glo_law_source := He.glo_ok X G (c.fact 45 (f := .glo "_law_source") rfl)
  obtain ⟨fd_law_draw, D_law_draw⟩ := c.def_ 21 (d := d_law_draw) rfl
  have F_law_draw : Fun K "_law_draw" "_law_draw" s_law_draw _ fd_law_draw := fun_ofD D_law_draw
  have bd_law_draw : Binds K fd_law_draw ["_law_source_here", "_law_many"] [] := F_law_draw.binds fun _ _ _ _ _ _ us hl => match us, hl with | [_, _], _ => rfl
  have glo_law_draw := He.glo_ok X G (c.fact 46 (f := .glo "_law_draw") rfl)
  obtain ⟨fd_law_pick, D_law_pick⟩ := c.def_ 22 (d := d_law_pick) rfl
  have F_law_pick : Fun K "_law_pick" "_law_pick" s_law_pick _ fd_law_pick := fun_ofD D_law_pick
  have bd_law_pick : Binds K fd_law_pick ["_law_source_here", "_law_some"] [] := F_law_pick.binds fun _ _ _ _ _ _ us hl => match us, hl with | [_, _], _ => rfl
  have glo_law_pick := He.glo_ok X G (c.fact 47 (f := .glo "_law_pick") rfl)
  obtain ⟨fd_law_maps, D_law_maps⟩ := c.def_ 23 (d := d_law_maps) rfl
  have F_law_maps : Fun K "_law_maps" "_law_maps" s_law_maps _ fd_law_maps := fun_ofD D_law_maps
  have bd_law_maps : Binds K fd_law_maps ["_law_source_here", "_law_most_points", "_law_most_letters"] [] := F_law_maps.binds fun _ _ _ _ _ _ us hl => match us, hl with | [_, _, _], _ => rfl
  have glo_law_maps := He.glo_ok X G (c.fact 48 (f := .glo "_law_maps") rfl)
  obtain ⟨fd_law_table, D_law_table⟩ := c.def_ 24 (d := d_law_table) rfl
  have F_law_table : Fun K "_law_table" "_law_table" s_law_table _ fd_law_table := fun_ofD D_law_table
  have bd_law_table : Binds K fd_law_table ["_law_rows"] [] := F_law_table.binds fun _ _ _ _ _ _ us hl => match us, hl with | [_], _ => rfl
  have glo_law_table := He.glo_ok X G (c.fact 49 (f := .glo "_law_table") rfl)
  obtain ⟨fd_law_product, D_law_product⟩ := c.def_ 25 (d := d_law_product) rfl
  have F_law_product : Fun K "_law_product" "_law_product" s_law_product _ fd_law_product := fun_ofD D_law_product
  have bd_law_product : Binds K fd_law_product ["_law_one", "_law_other"] [] := F_law_product.binds fun _ _ _ _ _ _ us hl => match us, hl with | [_, _], _ => rfl
  have glo_law_product := He.glo_ok X G (c.fact 50 (f := .glo "_law_product") rfl)
  obtain ⟨fd_law_powers, D_law_powers⟩ := c.def_ 26 (d := d_law_powers) rfl
  have F_law_powers : Fun K "_law_powers" "_law_powers" s_law_powers _ fd_law_powers := fun_ofD D_law_powers
  have bd_law_powers : Binds K fd_law_powers ["_law_images"] [] := F_law_powers.binds fun _ _ _ _ _ _ us hl => match us, hl with | [_], _ => rfl
  have glo_law_powers := He.glo_ok X G (c.fact 51 (f := .glo "_law_powers") rfl)
  obtain ⟨fd_law_word, D_law_word⟩ := c.def_ 27 (d := d_law_word) rfl
  have F_law_word : Fun K "_law_word" "_law_word" s_law_word _ fd_law_word := fun_ofD D_law_word
  have bd_law_word : Binds K fd_law_word ["_law_source_here", "_law_letters"] [] := F_law_word.binds fun _ _ _ _ _ _ us hl => match us, hl with | [_, _], _ => rfl
  have glo_law_word := He.glo_ok X G (c.fact 52 (f := .glo "_law_word") rfl)
  obtain ⟨fd_law_words_right, D_law_words_right⟩ := c.def_ 28 (d := d_law_words_right) rfl
  have F_law_words_right : Fun K "_law_words_right" "_law_words_right" s_law_words_right _ fd_law_words_right := fun_ofD D_law_words_right
  have bd_law_words_right : Binds K fd_law_words_right ["_law_source_here", "_law_monoid", "_law_rows", "_law_found"] [] := F_law_words_right.binds fun _ _ _ _ _ _ us hl => match us, hl with | [_, _, _, _], _ => rfl
  have glo_law_words_right := He.glo_ok X G (c.fact 53 (f := .glo "_law_words_right") rfl)
  obtain ⟨fd_law_products_right, D_law_products_right⟩ := c.def_ 29 (d := d_law_products_right) rfl
  have F_law_products_right : Fun K "_law_products_right" "_law_products_right" s_law_products_right _ fd_law_products_right := fun_ofD D_law_products_right
  have bd_law_products_right : Binds K fd_law_products_right ["_law_source_here", "_law_monoid", "_law_found"] [] := F_law_products_right.binds fun _ _ _ _ _ _ us hl => match us, hl with | [_, _, _], _ => rfl
  have glo_law_products_right := He.glo_ok X G (c.fact 54 (f := .glo "_law_products_right") rfl)
  obtain ⟨fd_law, D_law⟩ := c.def_ 30 (d := d_law) rfl
  have F_law : Fun K "law" "law" s_law _ fd_law := fun_ofD D_law
  have bd_law : Binds K fd_law ["_law_script"] [] := F_law.binds fun _ _ _ _ _ _ us hl => match us, hl with | [_], _ => rfl
  have glo_law := He.glo_ok X G (c.fact 55 (f := .glo "law") rfl)
  have e := hfa.symm.trans glo_law
  cases e
  have b := FunD.bindsA (ps := ["_law_script"]) D_law fun _ _ _ _ _ _ us hl => match us, hl with | [_], _ => rfl
  refine ⟨fd_law, fun s v => b s [v] rfl, fun base _ _ => ?_⟩
  have f_is_number := cal_of (P := P) (w := w) (base := base) F_is_number bd_is_number glo_is_number (ok_is_number F_is_number B)
  have f_is_sequence := cal_of (P := P) (w := w) (base := base) F_is_sequence bd_is_sequence glo_is_sequence (ok_is_sequence F_is_sequence B)
  have f_check_form := cal_of (P := P) (w := w) (base := base) F_check_form bd_check_form glo_check_form (ok_check_form F_check_form B C f_is_number f_is_sequence)
  have f_check_order := cal_of (P := P) (w := w) (base := base) F_check_order bd_check_order glo_check_order (ok_check_order F_check_order B)
  have f_tree_of := cal_of (P := P) (w := w) (base := base) F_tree_of bd_tree_of glo_tree_of (ok_tree_of F_tree_of B)
  have f_left_of := cal_of (P := P) (w := w) (base := base) F_left_of bd_left_of glo_left_of (ok_left_of F_left_of B)
  have f_check_products := cal_of (P := P) (w := w) (base := base) F_check_products bd_check_products glo_check_products (ok_check_products F_check_products B)
  have mk_Monoid := mak_of (P := P) (w := w) (base := base) mkr_Monoid bd_Monoid___init__ glo_Monoid (ok_init F_Monoid___init__ B M f_check_form f_check_order f_tree_of f_left_of f_check_products)
  have m_all_words := met_of (P := P) (w := w) (mg := mg) (base := base) cls_Monoid meth_Monoid_all_words bd_Monoid_all_words (ok_words F_Monoid_all_words B C M)
  have m_size := met_of (P := P) (w := w) (mg := mg) (base := base) cls_Monoid meth_Monoid_size bd_Monoid_size (ok_size F_Monoid_size B M)
  have m_left := met_of (P := P) (w := w) (mg := mg) (base := base) cls_Monoid meth_Monoid_left bd_Monoid_left (ok_left F_Monoid_left M)
  have m_words := met_of (P := P) (w := w) (mg := mg) (base := base) cls_Monoid meth_Monoid_words bd_Monoid_words (ok_wordsL F_Monoid_words B m_all_words)
  have m_check_number := met_of (P := P) (w := w) (mg := mg) (base := base) cls_Monoid meth_Monoid_check_number bd_Monoid_check_number (ok_check_number F_Monoid_check_number B M f_is_number)
  have m_places_of := met_of (P := P) (w := w) (mg := mg) (base := base) cls_Monoid meth_Monoid_places_of bd_Monoid_places_of (ok_places_of F_Monoid_places_of B C M)
  have m_of_word := met_of (P := P) (w := w) (mg := mg) (base := base) cls_Monoid meth_Monoid_of_word bd_Monoid_of_word (ok_of_word F_Monoid_of_word C M m_places_of)
  have m_path_of := met_of (P := P) (w := w) (mg := mg) (base := base) cls_Monoid meth_Monoid_path_of bd_Monoid_path_of (ok_path_of F_Monoid_path_of C m_all_words)
  have m_product := met_of (P := P) (w := w) (mg := mg) (base := base) cls_Monoid meth_Monoid_product bd_Monoid_product (ok_product F_Monoid_product M m_path_of)
  have m_times := met_of (P := P) (w := w) (mg := mg) (base := base) cls_Monoid meth_Monoid_times bd_Monoid_times (ok_times F_Monoid_times m_check_number m_product)
  have m_power := met_of (P := P) (w := w) (mg := mg) (base := base) cls_Monoid meth_Monoid_power bd_Monoid_power (ok_power F_Monoid_power C f_is_number m_check_number m_product)
  have m_cycle := met_of (P := P) (w := w) (mg := mg) (base := base) cls_Monoid meth_Monoid_cycle bd_Monoid_cycle (ok_cycle F_Monoid_cycle B m_check_number m_product)
  have f_law_source := cal_of (P := P) (w := w) (base := base) F_law_source bd_law_source glo_law_source (ok_source F_law_source B)
  have f_law_draw := cal_of (P := P) (w := w) (base := base) F_law_draw bd_law_draw glo_law_draw (ok_draw F_law_draw B)
  have f_law_pick := cal_of (P := P) (w := w) (base := base) F_law_pick bd_law_pick glo_law_pick (ok_pickL F_law_pick B f_law_draw)
  have f_law_pickS := cal_of (P := P) (w := w) (base := base) F_law_pick bd_law_pick glo_law_pick (ok_pickS F_law_pick B f_law_draw)
  have f_law_maps := cal_of (P := P) (w := w) (base := base) F_law_maps bd_law_maps glo_law_maps (ok_maps F_law_maps B f_law_draw)
  have f_law_table := cal_of (P := P) (w := w) (base := base) F_law_table bd_law_table glo_law_table (ok_table F_law_table B)
  have f_law_product := cal_of (P := P) (w := w) (base := base) F_law_product bd_law_product glo_law_product (ok_product2 F_law_product B)
  have f_law_powers := cal_of (P := P) (w := w) (base := base) F_law_powers bd_law_powers glo_law_powers (ok_powers F_law_powers B f_law_product)
  have f_law_word := cal_of (P := P) (w := w) (base := base) F_law_word bd_law_word glo_law_word (ok_word F_law_word B f_law_draw f_law_pick f_law_pickS)
  have f_law_words_right := cal_of (P := P) (w := w) (base := base) F_law_words_right bd_law_words_right glo_law_words_right (ok_words_right F_law_words_right B f_law_word f_law_product m_of_word m_words)
  have f_law_products_right := calG_of (P := P) (w := w) (base := base) F_law_products_right bd_law_products_right glo_law_products_right (ok_products_right F_law_products_right B f_law_draw f_law_product f_law_powers m_times m_power m_cycle)
  exact ok_law F_law B f_law_source f_law_maps f_law_table f_law_product f_law_words_right f_law_products_right mk_Monoid m_words m_size m_left
end My
open PySem PySem.W PySem.Calls PyProof.Rows
set_option maxHeartbeats 0 in
theorem PySem.Challenge.cw_letterfolds_k14_words_and_products_holds : PySem.Challenge.rw_letterfolds_k14_words_and_products.Holds := by
  w_on; o_law
  refine HandSHeadRun.head_any (r := OpenLaw.row PySem.Challenge.rw_letterfolds_k14_words_and_products) (q := view (OpenLaw.row PySem.Challenge.rw_letterfolds_k14_words_and_products).prog [33]) (H := My.hk) (ob := My.ob) (M := 4000) (loose := My.nm) (d := HandSHeadRun.topDef (OpenLaw.row PySem.Challenge.rw_letterfolds_k14_words_and_products).prog 33) (kwd := []) My.ob_eq
    (by kernel_rfl) (fun s => by kernel_rfl) My.run (by kernel_rfl) (by kernel_rfl) (by kernel_rfl) (by rfl) (by first | assumption | decide +kernel) (by decide +kernel) ⟨rfl, rfl, rfl, rfl, rfl, by decide +kernel⟩ ?hw ?hc
  case hw => w_witness2
  case hc =>
    refine L2.walk_ofG (l := PySem.Challenge.rw_letterfolds_k14_words_and_products) (n := 63) (k := 6) (x := "_law_script") rfl (by decide) (by kernel_rfl) ⟨rfl, by decide, by decide⟩ ?F
    intro w mg fa h Y G hmg0
    obtain ⟨K, KX, c⟩ := Y
    have hmg : mg ("law" : PySem.Str) = some (.ref fa) := by
      have e : (HandSHeadRun.topDef (OpenLaw.row PySem.Challenge.rw_letterfolds_k14_words_and_products).prog 33).name = ("law" : PySem.Str) := by kernel_rfl
      rw [← e]
      exact hmg0
    obtain ⟨fd, hb, hF⟩ := My.facts (P := (PySem.Challenge.rw_letterfolds_k14_words_and_products).prog) (w := w) KX G hmg c
    exact ⟨K, fd, SL.SpS K, KX, hb, fun H a ns hl _ hS => ⟨H, a, ns, Evl.Ex.refl _, rfl, hS, hl, fun v G' H' s => SL.dp_bl (SL.fz_top s)⟩, hF⟩
#print axioms PySem.Challenge.cw_letterfolds_k14_words_and_products_holds
