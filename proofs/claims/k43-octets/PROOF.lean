import PyProof.Rows.All
import Wide.All
import OpenK.AllK
import Wide.FinOn
import HandS.ForMost
import HandS.ForExc
import HandS.Lambda
import HandS.TupAny
import HandS.Wide
import HandS.IsInst
import HandS.Star
import HandS.Style
import HandS.Deep
import HandS.Conv
import HandS.Zip
import HandS.ExcOwn
import HandS.WordsExc
import KE.GoesEnum
import KE.KDictItemsList
import HandS.IntHex
import HandS.FStr
import KE.KxField
import HandS.ExcInit
import HandS.ExcSuper
import KE.KExcSuper
import KE.KSuper
import HandS.ExcField
import PySem.Challenge.RW_neversure_k43_octets_of_integers_and_the
import HandS.EndTab
import KE.KNestM
set_option Elab.async false
set_option linter.all false
set_option maxRecDepth 100000
set_option maxHeartbeats 1000000
/-! The data layer, part 1: values without addresses, what represents them, what is owned. -/
namespace Nv
open PySem PySem.Spec PyProof.Rows L2

/-- a value: data (never changed any more), or an owned list -/
inductive Val where
  | d (x : PyData)
  | ol (xs : List Val)
/-- an exception of an own class, with its fields, the last stored first -/
structure Exn where
  cls : Str
  fs : List (Str × PyData)

mutual
inductive Rep (K : PySem.W.Frag) (H : Hp) (Z : Addr → Prop) : V → PyData → Prop
  | non : Rep K H Z .non .none
  | bl (b : Bool) : Rep K H Z (.bl b) (.bool b)
  | int (i : Int) : Rep K H Z (.int i) (.int i)
  | str (x : Str) : Rep K H Z (.str x) (.str x)
  | lst {a : Addr} {xs : List V} {ds : List PyData} : Rd H a (.lst xs) → Z a → RepL K H Z xs ds → Rep K H Z (.ref a) (.list ds)
  | lstK {a : Addr} {xs : List V} {ds : List PyData} : (∃ (o : Obj) (its : Array Value) (n : Nat), K.lookup a = some o ∧ o.cls = .type "list" ∧ o.dict = none ∧ o.data = .seq its n ∧ its.size ≤ sizeLine ∧ Vals xs its.toList) → RepL K H Z xs ds → Rep K H Z (.ref a) (.list ds)
  | tup {a : Addr} {xs : List V} {ds : List PyData} : SqT K H a xs → RepL K H Z xs ds → Rep K H Z (.ref a) (.tuple ds)
inductive RepL (K : PySem.W.Frag) (H : Hp) (Z : Addr → Prop) : List V → List PyData → Prop
  | nil : RepL K H Z [] []
  | cons {v : V} {vs : List V} {d : PyData} {ds : List PyData} : Rep K H Z v d → RepL K H Z vs ds → RepL K H Z (v :: vs) (d :: ds)
end

mutual
inductive Tr (K : PySem.W.Frag) (H : Hp) (Z : Addr → Prop) : V → Val → List Addr → Prop
  | d {v : V} {x : PyData} : Rep K H Z v x → Tr K H Z v (.d x) []
  | ol {a : Addr} {vs : List V} {xs : List Val} {ps : List (V × Val)} {fp : List Addr} : H a = some (.lst vs) → vs = ps.map Prod.fst → xs = ps.map Prod.snd → TrL K H Z ps fp → Tr K H Z (.ref a) (.ol xs) (a :: fp)
inductive TrL (K : PySem.W.Frag) (H : Hp) (Z : Addr → Prop) : List (V × Val) → List Addr → Prop
  | nil : TrL K H Z [] []
  | cons {v : V} {x : Val} {ps : List (V × Val)} {f g : List Addr} : Tr K H Z v x f → TrL K H Z ps g → TrL K H Z ((v, x) :: ps) (f ++ g)
end

/-- what a mutable thing stands as -/
def isMu : HO → Bool
  | .lst _ => true
  | .dK _ => true
  | .dT _ => true
  | .set _ _ => true
  | .ins _ _ _ => true
  | _ => false
/-- kept but for R and the tables of code objects -/
structure Kp (H H' : Hp) (R : Addr → Prop) : Prop where
  keep : ∀ b o, H b = some o → ¬ R b → (∀ ps, o ≠ .tbl ps) → H' b = some o

section
variable {K : PySem.W.Frag} {H H' : Hp} {Z Z' : Addr → Prop}

theorem SqT.keep {a : Addr} {xs : List V} (ht : ∀ b o, H b = some o → (∃ ys, o = .tup ys) ∨ (∃ u ys, o = .frz u (.tup ys)) → H' b = some o) (h : SqT K H a xs) : SqT K H' a xs := by
  rcases h with (h | ⟨o, h⟩) | h
  · exact .inl (.inl (ht _ _ h (.inl ⟨_, rfl⟩)))
  · exact .inl (.inr ⟨o, ht _ _ h (.inr ⟨_, _, rfl⟩)⟩)
  · exact .inr h
theorem Rd.keep {a : Addr} {u : HO} (hz : ∀ o, H a = some o → H' a = some o) (h : Rd H a u) : Rd H' a u := by
  rcases h with h | ⟨o, h⟩
  · exact .inl (hz _ h)
  · exact .inr ⟨o, hz _ h⟩

mutual
theorem Rep.mono (ht : ∀ b o, H b = some o → (∃ ys, o = .tup ys) ∨ (∃ u ys, o = .frz u (.tup ys)) → H' b = some o) (hz : ∀ a o, Z a → H a = some o → H' a = some o) (hZ : ∀ a, Z a → Z' a) :
    ∀ {v : V} {d : PyData}, Rep K H Z v d → Rep K H' Z' v d
  | _, _, .non => .non
  | _, _, .bl b => .bl b
  | _, _, .int i => .int i
  | _, _, .str x => .str x
  | _, _, .lst h z r => .lst (Rd.keep (fun o e => hz _ o z e) h) (hZ _ z) (RepL.mono ht hz hZ r)
  | _, _, .lstK h r => .lstK h (RepL.mono ht hz hZ r)
  | _, _, .tup h r => .tup (SqT.keep ht h) (RepL.mono ht hz hZ r)
theorem RepL.mono (ht : ∀ b o, H b = some o → (∃ ys, o = .tup ys) ∨ (∃ u ys, o = .frz u (.tup ys)) → H' b = some o) (hz : ∀ a o, Z a → H a = some o → H' a = some o) (hZ : ∀ a, Z a → Z' a) :
    ∀ {vs : List V} {ds : List PyData}, RepL K H Z vs ds → RepL K H' Z' vs ds
  | _, _, .nil => .nil
  | _, _, .cons r t => .cons (Rep.mono ht hz hZ r) (RepL.mono ht hz hZ t)
end

theorem RepL.length : ∀ {vs : List V} {ds : List PyData}, RepL K H Z vs ds → vs.length = ds.length
  | _, _, .nil => rfl
  | _, _, .cons _ t => by simp [RepL.length t]
theorem RepL.get : ∀ {vs : List V} {ds : List PyData} {i : Nat} {d : PyData}, RepL K H Z vs ds → ds[i]? = some d → ∃ v, vs[i]? = some v ∧ Rep K H Z v d
  | _, _, _, _, .nil, e => by simp at e
  | _, _, 0, _, .cons r _, e => by simp at e; subst e; exact ⟨_, rfl, r⟩
  | _, _, i + 1, d, .cons _ t, e => by
    obtain ⟨v, h1, h2⟩ := RepL.get (i := i) (d := d) t (by simpa using e)
    exact ⟨v, by simpa using h1, h2⟩
theorem RepL.get' : ∀ {vs : List V} {ds : List PyData} {i : Nat} {v : V}, RepL K H Z vs ds → vs[i]? = some v → ∃ d, ds[i]? = some d ∧ Rep K H Z v d
  | _, _, _, _, .nil, e => by simp at e
  | _, _, 0, _, .cons r _, e => by simp at e; subst e; exact ⟨_, rfl, r⟩
  | _, _, i + 1, v, .cons _ t, e => by
    obtain ⟨d, h1, h2⟩ := RepL.get' (i := i) (v := v) t (by simpa using e)
    exact ⟨d, by simpa using h1, h2⟩
theorem RepL.append : ∀ {vs ws : List V} {ds es : List PyData}, RepL K H Z vs ds → RepL K H Z ws es → RepL K H Z (vs ++ ws) (ds ++ es)
  | _, _, _, _, .nil, s => s
  | _, _, _, _, .cons r t, s => .cons r (RepL.append t s)
theorem RepL.take : ∀ {vs : List V} {ds : List PyData} (n : Nat), RepL K H Z vs ds → RepL K H Z (vs.take n) (ds.take n)
  | _, _, 0, _ => .nil
  | _, _, _ + 1, .nil => .nil
  | _, _, n + 1, .cons r t => .cons r (RepL.take n t)
theorem RepL.drop : ∀ {vs : List V} {ds : List PyData} (n : Nat), RepL K H Z vs ds → RepL K H Z (vs.drop n) (ds.drop n)
  | _, _, 0, r => r
  | _, _, _ + 1, .nil => .nil
  | _, _, n + 1, .cons _ t => RepL.drop n t
theorem RepL.reverse : ∀ {vs : List V} {ds : List PyData}, RepL K H Z vs ds → RepL K H Z vs.reverse ds.reverse
  | _, _, .nil => .nil
  | _, _, .cons r t => by
    rw [List.reverse_cons, List.reverse_cons]
    exact (RepL.reverse t).append (.cons r .nil)
theorem RepL.ints : ∀ {vs : List V} {ns : List Int}, RepL K H Z vs (ns.map PyData.int) → vs = ns.map V.int
  | [], [], _ => rfl
  | v :: vs, n :: ns, h => by
    cases h with
    | cons r t =>
      cases r
      rw [List.map_cons, ← RepL.ints t]
theorem RepL.of_ints : ∀ (ns : List Int), RepL K H Z (ns.map V.int) (ns.map PyData.int)
  | [] => .nil
  | n :: ns => .cons (.int n) (RepL.of_ints ns)
theorem RepL.of_strs : ∀ (ns : List Str), RepL K H Z (ns.map V.str) (ns.map PyData.str)
  | [] => .nil
  | n :: ns => .cons (.str n) (RepL.of_strs ns)

/-! ### trees -/
mutual
theorem Tr.mu : ∀ {v : V} {x : Val} {fp : List Addr}, Tr K H Z v x fp → ∀ a ∈ fp, ∃ o, H a = some o ∧ isMu o = true
  | _, _, _, .d _, a, h => by cases h
  | _, _, _, .ol e _ _ t, a, h => by
    rcases List.mem_cons.mp h with rfl | h
    · exact ⟨_, e, rfl⟩
    · exact TrL.mu t a h
theorem TrL.mu : ∀ {ps : List (V × Val)} {fp : List Addr}, TrL K H Z ps fp → ∀ a ∈ fp, ∃ o, H a = some o ∧ isMu o = true
  | _, _, .nil, a, h => by cases h
  | _, _, .cons r t, a, h => by
    rcases List.mem_append.mp h with h | h
    · exact Tr.mu r a h
    · exact TrL.mu t a h
end
mutual
theorem Tr.mono (ht : ∀ b o, H b = some o → (∃ ys, o = .tup ys) ∨ (∃ u ys, o = .frz u (.tup ys)) → H' b = some o) (hz : ∀ a o, Z a → H a = some o → H' a = some o) (hZ : ∀ a, Z a → Z' a) :
    ∀ {v : V} {x : Val} {fp : List Addr}, (∀ a ∈ fp, ∀ o, H a = some o → H' a = some o) → Tr K H Z v x fp → Tr K H' Z' v x fp
  | _, _, _, _, .d r => .d (r.mono ht hz hZ)
  | _, _, _, hf, .ol e e1 e2 t => .ol (hf _ (List.mem_cons_self) _ e) e1 e2 (TrL.mono ht hz hZ (fun a h => hf a (List.mem_cons_of_mem _ h)) t)
theorem TrL.mono (ht : ∀ b o, H b = some o → (∃ ys, o = .tup ys) ∨ (∃ u ys, o = .frz u (.tup ys)) → H' b = some o) (hz : ∀ a o, Z a → H a = some o → H' a = some o) (hZ : ∀ a, Z a → Z' a) :
    ∀ {ps : List (V × Val)} {fp : List Addr}, (∀ a ∈ fp, ∀ o, H a = some o → H' a = some o) → TrL K H Z ps fp → TrL K H' Z' ps fp
  | _, _, _, .nil => .nil
  | _, _, hf, .cons r t => .cons (Tr.mono ht hz hZ (fun a h => hf a (List.mem_append_left _ h)) r) (TrL.mono ht hz hZ (fun a h => hf a (List.mem_append_right _ h)) t)
end
theorem TrL.append : ∀ {P Q : List (V × Val)} {f g : List Addr}, TrL K H Z P f → TrL K H Z Q g → TrL K H Z (P ++ Q) (f ++ g)
  | _, _, _, _, .nil, s => s
  | _, _, _, _, .cons r t, s => by
    rw [List.append_assoc]
    exact .cons r (TrL.append t s)
theorem TrL.split : ∀ {P Q : List (V × Val)} {f : List Addr}, TrL K H Z (P ++ Q) f → ∃ f1 f2, f = f1 ++ f2 ∧ TrL K H Z P f1 ∧ TrL K H Z Q f2
  | [], _, f, t => ⟨[], f, rfl, .nil, t⟩
  | _ :: P, Q, _, .cons r t => by
    obtain ⟨f1, f2, e, a, b⟩ := TrL.split (P := P) t
    subst e
    exact ⟨_, _, (List.append_assoc ..).symm, .cons r a, b⟩
theorem TrL.perm {P Q : List (V × Val)} (h : P.Perm Q) : ∀ {f : List Addr}, TrL K H Z P f → ∃ g, f.Perm g ∧ TrL K H Z Q g := by
  induction h with
  | nil => intro f t; exact ⟨f, .refl _, t⟩
  | cons x _ ih =>
    intro f t
    cases t with
    | cons r t =>
      obtain ⟨g, p, t'⟩ := ih t
      exact ⟨_, p.append_left _, .cons r t'⟩
  | swap x y l =>
    intro f t
    match f, t with
    | _, .cons (f := fa) r (.cons (f := fb) (g := g) r' t) =>
      refine ⟨fb ++ (fa ++ g), ?_, .cons r' (.cons r t)⟩
      rw [← List.append_assoc, ← List.append_assoc]
      exact (List.perm_append_comm).append_right _
  | trans _ _ ih1 ih2 =>
    intro f t
    obtain ⟨g, p, t1⟩ := ih1 t
    obtain ⟨g', p', t2⟩ := ih2 t1
    exact ⟨g', p.trans p', t2⟩
end

/-- what a body stands on: the written part, the tables, the entry's heap, what may be changed of it, what was frozen then -/
structure Bs where
  K : PySem.W.Frag
  T : List (Addr × Str)
  H0 : Hp
  R : Addr → Prop
  Z0 : Addr → Prop
  pn : List (Nat × V) := []

/-- nothing stands there, but perhaps a table -/
def fr0 (H : Hp) (a : Addr) : Prop := H a = none ∨ ∃ ps, H a = some (.tbl ps)
structure OwnZ (B : Bs) (H : Hp) (P : List (V × Val)) (Z : Addr → Prop) (fp : List Addr) : Prop where
  tr : TrL B.K H Z P fp
  nd : fp.Nodup
  nz : ∀ a ∈ fp, ¬ Z a
  new : ∀ a ∈ fp, B.R a ∨ fr0 B.H0 a
  zt : ∀ a, Z a → ∃ o, H a = some o ∧ ∀ ps, o ≠ .tbl ps
  zo : ∀ a, Z a → B.Z0 a ∨ B.R a ∨ fr0 B.H0 a
  fr : Kp B.H0 H B.R
  tb : LamX.Tabs B.T H
def Own (B : Bs) (H : Hp) (P : List (V × Val)) : Prop := ∃ Z fp, OwnZ B H P Z fp

theorem isMu_ntup {o : HO} (h : isMu o = true) : (∀ ys, o ≠ .tup ys) ∧ (∀ u v, o ≠ .frz u v) ∧ (∀ ps, o ≠ .tbl ps) ∧ ∀ φ, o ≠ .ext φ := by
  refine ⟨fun _ e => ?_, fun _ _ e => ?_, fun _ e => ?_, fun _ e => ?_⟩ <;> (subst e; cases h)

section
variable {B : Bs} {H H' : Hp} {P Q : List (V × Val)}
theorem Own.perm (o : Own B H P) (h : P.Perm Q) : Own B H Q := by
  obtain ⟨Z, fp, o⟩ := o
  obtain ⟨g, p, t⟩ := o.tr.perm h
  exact ⟨Z, g, t, p.nodup_iff.mp o.nd, fun a ha => o.nz a (p.mem_iff.mpr ha), fun a ha => o.new a (p.mem_iff.mpr ha), o.zt, o.zo, o.fr, o.tb⟩
theorem Own.dropL (o : Own B H (P ++ Q)) : Own B H Q := by
  obtain ⟨Z, fp, o⟩ := o
  obtain ⟨f1, f2, e, _, t⟩ := o.tr.split
  subst e
  exact ⟨Z, f2, t, (List.nodup_append.mp o.nd).2.1, fun a ha => o.nz a (List.mem_append_right _ ha), fun a ha => o.new a (List.mem_append_right _ ha), o.zt, o.zo, o.fr, o.tb⟩
theorem Own.drop {p : V × Val} (o : Own B H (p :: P)) : Own B H P := Own.dropL (P := [p]) o

theorem Tabs.keep {T : List (Addr × Str)} (t : LamX.Tabs T H) (k : ∀ b o, H b = some o → isMu o = false → H' b = some o) : LamX.Tabs T H' := fun p hp => by
  obtain ⟨ps, e, ok, h⟩ := t p hp
  refine ⟨ps, k _ _ e rfl, ok, fun pos cv hc => ?_⟩
  obtain ⟨c, e1, e2⟩ := h pos cv hc
  exact ⟨c, e1, k _ _ e2 rfl⟩

/-- a new object -/
theorem OwnZ.alloc {p : Addr} {o : HO} {Z : Addr → Prop} {fp : List Addr} (x : OwnZ B H P Z fp) (hp : H p = none) : OwnZ B (upd H p o) P Z fp := by
  have k : ∀ b u, H b = some u → upd H p o b = some u := fun b u e => by rw [upd_ne (ne_of_none e hp)]; exact e
  refine ⟨x.tr.mono (fun b u e _ => k b u e) (fun a u _ e => k a u e) (fun _ z => z) (fun a _ u e => k a u e), x.nd, x.nz, x.new, fun a z => ?_, x.zo, ⟨fun b u e r t => k b u (x.fr.keep b u e r t)⟩, Tabs.keep x.tb fun b u e _ => k b u e⟩
  obtain ⟨u, q, t⟩ := x.zt a z
  exact ⟨u, k a u q, t⟩
theorem Own.alloc {p : Addr} {o : HO} (x : Own B H P) (hp : H p = none) : Own B (upd H p o) P := by
  obtain ⟨Z, fp, x⟩ := x
  exact ⟨Z, fp, x.alloc hp⟩
/-- p was not tracked at the entry, where it isn't now -/
theorem OwnZ.none1 {p : Addr} {Z : Addr → Prop} {fp : List Addr} (x : OwnZ B H P Z fp) (hp : fr0 H p) : B.R p ∨ fr0 B.H0 p := by
  by_cases r : B.R p
  · exact .inl r
  · cases e : B.H0 p with
    | none => exact .inr (.inl e)
    | some o =>
      by_cases t : ∀ ps, o ≠ .tbl ps
      · have q := x.fr.keep p o e r t
        rcases hp with hp | ⟨ps, hp⟩
        · rw [q] at hp
          cases hp
        · rw [q] at hp
          exact (t ps (Option.some.inj hp)).elim
      · obtain ⟨ps, q⟩ : ∃ ps, o = .tbl ps := Classical.byContradiction fun n => t fun ps e => n ⟨ps, e⟩
        subst q
        exact .inr (.inr ⟨ps, e⟩)
theorem OwnZ.none0 {p : Addr} {Z : Addr → Prop} {fp : List Addr} (x : OwnZ B H P Z fp) (hp : H p = none) : B.R p ∨ fr0 B.H0 p := x.none1 (.inl hp)
theorem fr0_mu {H : Hp} {a : Addr} {o : HO} (h : fr0 H a) (e : H a = some o) (m : ∀ ps, o ≠ .tbl ps) : False := by
  rcases h with h | ⟨ps, h⟩
  · rw [e] at h; cases h
  · rw [e] at h; exact m ps (Option.some.inj h)
theorem OwnZ.nofp {p : Addr} {Z : Addr → Prop} {fp : List Addr} (x : OwnZ B H P Z fp) (hp : H p = none) : p ∉ fp ∧ ¬ Z p := by
  refine ⟨fun h => ?_, fun h => ?_⟩
  · obtain ⟨o, e, _⟩ := x.tr.mu p h
    rw [hp] at e
    cases e
  · obtain ⟨o, e, _⟩ := x.zt p h
    rw [hp] at e
    cases e

theorem TrL.map_fst {K : PySem.W.Frag} {Z : Addr → Prop} {v : V} {x : Val} {f : List Addr} (t : TrL K H Z [(v, x)] f) : Tr K H Z v x f := by
  match f, t with
  | _, .cons r .nil => rw [List.append_nil]; exact r
/-- a new list of temporaries -/
theorem Own.newList {p : Addr} {ps : List (V × Val)} (x : Own B H (ps ++ P)) (hp : H p = none) : Own B (upd H p (.lst (ps.map Prod.fst))) ((.ref p, .ol (ps.map Prod.snd)) :: P) := by
  obtain ⟨Z, fp, x⟩ := x
  have y := x.alloc (o := .lst (ps.map Prod.fst)) hp
  obtain ⟨nf, nz⟩ := x.nofp hp
  obtain ⟨f1, f2, e, t1, t2⟩ := y.tr.split
  subst e
  refine ⟨Z, (p :: f1) ++ f2, .cons (.ol upd_same rfl rfl t1) t2, ?_, fun a ha => ?_, fun a ha => ?_, y.zt, y.zo, y.fr, y.tb⟩
  · rw [List.cons_append]
    exact List.nodup_cons.mpr ⟨nf, x.nd⟩
  · rw [List.cons_append] at ha
    rcases List.mem_cons.mp ha with rfl | ha
    · exact nz
    · exact x.nz a ha
  · rw [List.cons_append] at ha
    rcases List.mem_cons.mp ha with rfl | ha
    · exact x.none0 hp
    · exact x.new a ha

/-! ### freezing -/
mutual
def Val.fz : Val → PyData
  | .d x => x
  | .ol xs => .list (Val.fzL xs)
def Val.fzL : List Val → List PyData
  | [] => []
  | x :: xs => x.fz :: Val.fzL xs
end
theorem Val.fzL_map : ∀ xs : List Val, Val.fzL xs = xs.map Val.fz
  | [] => rfl
  | x :: xs => by rw [Val.fzL, Val.fzL_map xs]; rfl
section
variable {K : PySem.W.Frag} {Z Z' : Addr → Prop}
mutual
theorem Tr.frozen (hZ : ∀ a, Z a → Z' a) : ∀ {v : V} {x : Val} {fp : List Addr}, (∀ a ∈ fp, Z' a) → Tr K H Z v x fp → Rep K H Z' v x.fz
  | _, _, _, _, .d r => r.mono (fun _ _ e _ => e) (fun _ _ _ e => e) hZ
  | _, _, _, hf, .ol e e1 e2 t => by
    subst e1; subst e2
    rw [Val.fz]
    exact .lst (.inl e) (hf _ List.mem_cons_self) (TrL.frozen hZ (fun a h => hf a (List.mem_cons_of_mem _ h)) t)
theorem TrL.frozen (hZ : ∀ a, Z a → Z' a) : ∀ {ps : List (V × Val)} {fp : List Addr}, (∀ a ∈ fp, Z' a) → TrL K H Z ps fp → RepL K H Z' (ps.map Prod.fst) (Val.fzL (ps.map Prod.snd))
  | _, _, _, .nil => .nil
  | _, _, hf, .cons r t => .cons (Tr.frozen hZ (fun a h => hf a (List.mem_append_left _ h)) r) (TrL.frozen hZ (fun a h => hf a (List.mem_append_right _ h)) t)
end
end
theorem Own.freezeL {ps : List (V × Val)} (x : Own B H (ps ++ P)) : Own B H (ps.map (fun p => (p.1, Val.d p.2.fz)) ++ P) := by
  obtain ⟨Z, fp, x⟩ := x
  obtain ⟨f1, f2, e, t1, t2⟩ := x.tr.split
  subst e
  obtain ⟨_, n2, n3⟩ := List.nodup_append.mp x.nd
  have hZ : ∀ a, Z a → (fun a => Z a ∨ a ∈ f1) a := fun a z => .inl z
  have tf : ∀ (qs : List (V × Val)) (g : List Addr), (∀ a ∈ g, a ∈ f1) → TrL B.K H Z qs g → TrL B.K H (fun a => Z a ∨ a ∈ f1) (qs.map fun p => (p.1, Val.d p.2.fz)) [] := by
    intro qs
    induction qs with
    | nil => intro _ _ _; exact .nil
    | cons q qs ih =>
      intro g hg t
      match g, t with
      | _, .cons (f := fa) (g := fb) r t => exact .cons (f := []) (g := []) (.d (Tr.frozen hZ (fun a h => .inr (hg a (List.mem_append_left _ h))) r)) (ih _ (fun a h => hg a (List.mem_append_right _ h)) t)
  refine ⟨fun a => Z a ∨ a ∈ f1, [] ++ f2, .append (tf ps f1 (fun _ h => h) t1) (t2.mono (fun _ _ e _ => e) (fun _ _ _ e => e) hZ (fun _ _ _ e => e)), n2, fun a ha => ?_, fun a ha => x.new a (List.mem_append_right _ ha), fun a z => ?_, fun a z => ?_, x.fr, x.tb⟩
  · rintro (z | z)
    · exact x.nz a (List.mem_append_right _ ha) z
    · exact n3 a z a ha rfl
  · rcases z with z | z
    · exact x.zt a z
    · obtain ⟨o, e, m⟩ := t1.mu a z
      exact ⟨o, e, (isMu_ntup m).2.2.1⟩
  · rcases z with z | z
    · exact x.zo a z
    · exact .inr (x.new a (List.mem_append_left _ z))
theorem Own.freeze {v : V} {y : Val} (x : Own B H ((v, y) :: P)) : Own B H ((v, .d y.fz) :: P) := Own.freezeL (ps := [(v, y)]) x

/-! ### data -/
/-- what is data may be told twice -/
theorem Own.dup {v : V} {y : PyData} (x : Own B H ((v, .d y) :: P)) : Own B H ((v, .d y) :: (v, .d y) :: P) := by
  obtain ⟨Z, fp, x⟩ := x
  obtain ⟨tr, a, b, c, d, e, f, g⟩ := x
  match fp, tr with
  | _, .cons (g := g2) (.d r) t => exact ⟨Z, [] ++ ([] ++ g2), .cons (.d r) (.cons (.d r) t), a, b, c, d, e, f, g⟩
/-- more data -/
theorem Own.addD {v : V} {y : PyData} {Z : Addr → Prop} {fp : List Addr} (x : OwnZ B H P Z fp) (r : Rep B.K H Z v y) : OwnZ B H ((v, .d y) :: P) Z fp :=
  ⟨.cons (f := []) (.d r) x.tr, x.nd, x.nz, x.new, x.zt, x.zo, x.fr, x.tb⟩
theorem Own.rep {v : V} {y : PyData} {Z : Addr → Prop} {fp : List Addr} (x : OwnZ B H ((v, .d y) :: P) Z fp) : Rep B.K H Z v y := by
  obtain ⟨tr, _⟩ := x
  match fp, tr with
  | _, .cons (.d r) t => exact r
theorem OwnZ.rest {v : V} {y : PyData} {Z : Addr → Prop} {fp : List Addr} (x : OwnZ B H ((v, .d y) :: P) Z fp) : OwnZ B H P Z fp := by
  obtain ⟨tr, a, b, c, d, e, f, g⟩ := x
  match fp, tr with
  | _, .cons (.d r) t => exact ⟨t, a, b, c, d, e, f, g⟩
/-- scalars -/
theorem Own.int {i : Int} (x : Own B H P) : Own B H ((.int i, .d (.int i)) :: P) := by obtain ⟨Z, fp, x⟩ := x; exact ⟨Z, fp, Own.addD x (.int i)⟩
theorem Own.bl {i : Bool} (x : Own B H P) : Own B H ((.bl i, .d (.bool i)) :: P) := by obtain ⟨Z, fp, x⟩ := x; exact ⟨Z, fp, Own.addD x (.bl i)⟩
theorem Own.str {i : Str} (x : Own B H P) : Own B H ((.str i, .d (.str i)) :: P) := by obtain ⟨Z, fp, x⟩ := x; exact ⟨Z, fp, Own.addD x (.str i)⟩
theorem Own.non (x : Own B H P) : Own B H ((.non, .d .none) :: P) := by obtain ⟨Z, fp, x⟩ := x; exact ⟨Z, fp, Own.addD x .non⟩
/-- a new tuple of data -/
theorem Tr.d_inv {K : PySem.W.Frag} {Z : Addr → Prop} {v : V} {x : PyData} {f : List Addr} (t : Tr K H Z v (.d x) f) : f = [] ∧ Rep K H Z v x := by
  cases t with
  | d r => exact ⟨rfl, r⟩
theorem RepL.of_tr {K : PySem.W.Frag} {Z : Addr → Prop} : ∀ {ps : List (V × PyData)} {f : List Addr}, TrL K H Z (ps.map fun p => (p.1, Val.d p.2)) f → f = [] ∧ RepL K H Z (ps.map Prod.fst) (ps.map Prod.snd)
  | [], _, .nil => ⟨rfl, .nil⟩
  | p :: ps, _, .cons r t => by
    obtain ⟨e, q⟩ := RepL.of_tr t
    obtain ⟨e', q'⟩ := r.d_inv
    subst e
    subst e'
    exact ⟨rfl, .cons q' q⟩
theorem Own.newTup {p : Addr} {ps : List (V × PyData)} (x : Own B H (ps.map (fun p => (p.1, Val.d p.2)) ++ P)) (hp : H p = none) : Own B (upd H p (.tup (ps.map Prod.fst))) ((.ref p, .d (.tuple (ps.map Prod.snd))) :: P) := by
  obtain ⟨Z, fp, x⟩ := x
  have y := x.alloc (o := .tup (ps.map Prod.fst)) hp
  obtain ⟨f1, f2, e, t1, t2⟩ := y.tr.split
  obtain ⟨e1, r⟩ := RepL.of_tr t1
  subst e1
  have e' : fp = f2 := e
  rw [← e'] at t2
  exact ⟨Z, [] ++ fp, .cons (.d (.tup (.inl (.inl upd_same)) r)) t2, y.nd, y.nz, y.new, y.zt, y.zo, y.fr, y.tb⟩
/-- a new tuple, its items known to be represented -/
theorem OwnZ.tup {p : Addr} {vs : List V} {ds : List PyData} {Z : Addr → Prop} {fp : List Addr} (x : OwnZ B H P Z fp) (r : RepL B.K H Z vs ds) (hp : H p = none) : OwnZ B (upd H p (.tup vs)) ((.ref p, .d (.tuple ds)) :: P) Z fp := by
  have y := x.alloc (o := .tup vs) hp
  have k : ∀ b u, H b = some u → upd H p (.tup vs) b = some u := fun b u e => by rw [upd_ne (ne_of_none e hp)]; exact e
  exact Own.addD y (.tup (.inl (.inl upd_same)) (r.mono (fun b u e _ => k b u e) (fun a u _ e => k a u e) (fun _ z => z)))
/-- a new owned list of data -/
theorem TrL.of_rep {K : PySem.W.Frag} {Z : Addr → Prop} : ∀ {vs : List V} {ds : List PyData}, RepL K H Z vs ds → TrL K H Z (vs.zip (ds.map Val.d)) [] ∧ (vs.zip (ds.map Val.d)).map Prod.fst = vs ∧ (vs.zip (ds.map Val.d)).map Prod.snd = ds.map Val.d
  | _, _, .nil => ⟨.nil, rfl, rfl⟩
  | _, _, .cons r t => by
    obtain ⟨a, b, c⟩ := TrL.of_rep t
    exact ⟨.cons (f := []) (.d r) a, by simp [b], by simp [c]⟩
theorem OwnZ.lstD {p : Addr} {vs : List V} {ds : List PyData} {Z : Addr → Prop} {fp : List Addr} (x : OwnZ B H P Z fp) (r : RepL B.K H Z vs ds) (hp : H p = none) : Own B (upd H p (.lst vs)) ((.ref p, .ol (ds.map Val.d)) :: P) := by
  obtain ⟨t, e1, e2⟩ := TrL.of_rep r
  have y : Own B H (vs.zip (ds.map Val.d) ++ P) := ⟨Z, [] ++ fp, t.append x.tr, x.nd, x.nz, x.new, x.zt, x.zo, x.fr, x.tb⟩
  have z := y.newList hp
  rw [e1, e2] at z
  exact z
/-! ### writing an owned list -/
theorem Own.write {a : Addr} {xs : List Val} {ps qs ds : List (V × Val)} (x : Own B H ((.ref a, .ol xs) :: qs ++ P)) (hw : ∀ (vs : List V) (p0 : List (V × Val)), H a = some (.lst vs) → vs = p0.map Prod.fst → xs = p0.map Prod.snd → (p0 ++ qs).Perm (ps ++ ds)) :
    ∃ vs, H a = some (.lst vs) ∧ vs.length = xs.length ∧ Own B (upd H a (.lst (ps.map Prod.fst))) ((.ref a, .ol (ps.map Prod.snd)) :: (ds ++ P)) := by
  obtain ⟨Z, fp, x⟩ := x
  obtain ⟨tr, nd, nz, new, zt, zo, fr, tb⟩ := x
  match fp, tr with
  | _, .cons (g := g2) (.ol (vs := vs) (ps := p0) (fp := fa) e e1 e2 t) tr =>
    obtain ⟨f1, f2, ef, t1, t2⟩ := TrL.split tr
    subst ef
    have w := hw vs p0 e e1 e2
    obtain ⟨gg, pg, tgg⟩ := (t.append t1).perm w
    obtain ⟨g, gd, egd, tg, td⟩ := TrL.split tgg
    subst egd
    have pp : ((a :: fa) ++ (f1 ++ f2)).Perm ((a :: g) ++ (gd ++ f2)) := by
      rw [List.cons_append, List.cons_append, ← List.append_assoc, ← List.append_assoc]
      exact (pg.append_right f2).cons a
    have nd' := pp.nodup_iff.mp nd
    have na : ∀ b ∈ g ++ (gd ++ f2), b ≠ a := fun b hb q => by
      subst q
      exact (List.nodup_cons.mp nd').1 hb
    have k : ∀ b u, b ≠ a → H b = some u → upd H a (.lst (ps.map Prod.fst)) b = some u := fun b u n q => by rw [upd_ne n]; exact q
    have za : ¬ Z a := nz a List.mem_cons_self
    have nt : ∀ b u, H b = some u → (∃ ys, u = .tup ys) ∨ (∃ o ys, u = .frz o (.tup ys)) → b ≠ a := fun b u q c z => by
      subst z
      rw [e] at q
      cases q
      rcases c with ⟨_, c⟩ | ⟨_, _, c⟩ <;> cases c
    refine ⟨vs, e, by rw [e1, e2, List.length_map, List.length_map], Z, (a :: g) ++ (gd ++ f2), .cons (.ol upd_same rfl rfl ?_) (.append ?_ ?_), nd', fun b hb => nz b (pp.mem_iff.mpr hb), fun b hb => new b (pp.mem_iff.mpr hb), fun b z => ?_, zo, ⟨fun b u q r c => ?_⟩, ?_⟩
    · exact tg.mono (fun b u q c => k b u (nt b u q c) q) (fun b u z q => k b u (fun n => by subst n; exact za z) q) (fun _ z => z) (fun b hb u q => k b u (na b (List.mem_append_left _ hb)) q)
    · exact td.mono (fun b u q c => k b u (nt b u q c) q) (fun b u z q => k b u (fun n => by subst n; exact za z) q) (fun _ z => z) (fun b hb u q => k b u (na b (List.mem_append_right _ (List.mem_append_left _ hb))) q)
    · exact t2.mono (fun b u q c => k b u (nt b u q c) q) (fun b u z q => k b u (fun n => by subst n; exact za z) q) (fun _ z => z) (fun b hb u q => k b u (na b (List.mem_append_right _ (List.mem_append_right _ hb))) q)
    · obtain ⟨u, q, c⟩ := zt b z
      exact ⟨u, k b u (fun n => by subst n; exact za z) q, c⟩
    · have n : b ≠ a := fun n => by
        subst n
        rcases new b List.mem_cons_self with z | z
        · exact r z
        · exact fr0_mu z q c
      exact k b u n (fr.keep b u q r c)
    · exact Tabs.keep tb fun b u q m => k b u (fun n => by subst n; rw [e] at q; cases q; cases m) q
/-! ### around a call -/
/-- the callee's ground -/
def Bs.inner (B : Bs) (H : Hp) (fp : List Addr) (Z : Addr → Prop) : Bs := ⟨B.K, B.T, H, (· ∈ fp), Z, []⟩
theorem OwnZ.frame {Z : Addr → Prop} {f1 f2 : List Addr} {A D : List (V × Val)} (x : OwnZ B H (A ++ P) Z (f1 ++ f2)) (t1 : TrL B.K H Z A f1) (t2 : TrL B.K H Z P f2) (y : Own (B.inner H f1 Z) H' D) : Own B H' (D ++ P) := by
  obtain ⟨Z', g, y⟩ := y
  obtain ⟨n1, n2, n3⟩ := List.nodup_append.mp x.nd
  have mu1 := t1.mu
  have mu2 := t2.mu
  have nt1 : ∀ b u, H b = some u → isMu u = false → b ∉ f1 := fun b u q m hb => by
    obtain ⟨o, e, m'⟩ := mu1 b hb
    rw [q] at e
    cases e
    rw [m] at m'
    cases m'
  have ktup : ∀ b u, H b = some u → (∃ ys, u = .tup ys) ∨ (∃ o ys, u = .frz o (.tup ys)) → H' b = some u := fun b u q c => by
    refine y.fr.keep b u q (nt1 b u q ?_) fun ps z => ?_
    · rcases c with ⟨_, c⟩ | ⟨_, _, c⟩ <;> (subst c; rfl)
    · rcases c with ⟨_, c⟩ | ⟨_, _, c⟩ <;> (subst c; cases z)
  have kmu : ∀ b ∈ f2, ∀ u, H b = some u → H' b = some u := fun b hb u q => by
    obtain ⟨o, e, m⟩ := mu2 b hb
    rw [q] at e
    cases e
    exact y.fr.keep b u q (fun z => n3 b z b hb rfl) (isMu_ntup m).2.2.1
  have kz : ∀ b u, Z b → H b = some u → H' b = some u := fun b u z q => by
    obtain ⟨u', q', c⟩ := x.zt b z
    rw [q] at q'
    cases q'
    exact y.fr.keep b u q (fun h => x.nz b (List.mem_append_left _ h) z) c
  have g2 : ∀ a ∈ g, a ∉ f2 := fun a ha hb => by
    rcases y.new a ha with z | z
    · exact n3 a z a hb rfl
    · obtain ⟨o, e, m⟩ := mu2 a hb
      exact fr0_mu (H := H) z e (isMu_ntup m).2.2.1
  refine ⟨fun a => Z a ∨ Z' a, g ++ f2, .append (y.tr.mono (fun _ _ e _ => e) (fun _ _ _ e => e) (fun _ z => .inr z) (fun _ _ _ e => e)) (t2.mono ktup (fun b u z q => kz b u z q) (fun _ z => .inl z) kmu), ?_, fun a ha => ?_, fun a ha => ?_, fun a z => ?_, fun a z => ?_, ?_, y.tb⟩
  · exact List.nodup_append.mpr ⟨y.nd, n2, fun a ha b hb q => by subst q; exact g2 a ha hb⟩
  · rcases List.mem_append.mp ha with ha | ha
    · rintro (z | z)
      · rcases y.new a ha with w | w
        · exact x.nz a (List.mem_append_left _ w) z
        · obtain ⟨o, e, m⟩ := x.zt a z
          exact fr0_mu (H := H) w e m
      · exact y.nz a ha z
    · rintro (z | z)
      · exact x.nz a (List.mem_append_right _ ha) z
      · obtain ⟨o, e, m⟩ := mu2 a ha
        rcases y.zo a z with w | w | w
        · exact x.nz a (List.mem_append_right _ ha) w
        · exact n3 a w a ha rfl
        · exact fr0_mu (H := H) w e (isMu_ntup m).2.2.1
  · rcases List.mem_append.mp ha with ha | ha
    · rcases y.new a ha with w | w
      · exact x.new a (List.mem_append_left _ w)
      · exact x.none1 w
    · exact x.new a (List.mem_append_right _ ha)
  · rcases z with z | z
    · obtain ⟨u, q, c⟩ := x.zt a z
      exact ⟨u, kz a u z q, c⟩
    · exact y.zt a z
  · rcases z with z | z
    · exact x.zo a z
    · rcases y.zo a z with w | w | w
      · exact x.zo a w
      · exact .inr (x.new a (List.mem_append_left _ w))
      · exact .inr (x.none1 w)
  · refine ⟨fun b u q r c => ?_⟩
    · have e := x.fr.keep b u q r c
      refine y.fr.keep b u e (fun hb => ?_) c
      rcases x.new b (List.mem_append_left _ hb) with z | z
      · exact r z
      · exact fr0_mu z q c
theorem Own.pnTo (x : Own B H P) (pn : List (Nat × V)) : Own { B with pn := pn } H P := by
  obtain ⟨Z, fp, a, b, c, d, e, f, g, h⟩ := x
  exact ⟨Z, fp, a, b, c, d, e, f, g, h⟩
theorem Own.pnOf {pn : List (Nat × V)} (x : Own { B with pn := pn } H P) : Own B H P := by
  obtain ⟨Z, fp, a, b, c, d, e, f, g, h⟩ := x
  exact ⟨Z, fp, a, b, c, d, e, f, g, h⟩
/-- a body's start -/
theorem OwnZ.start {Z : Addr → Prop} {f1 f2 : List Addr} {A : List (V × Val)} (x : OwnZ B H (A ++ P) Z (f1 ++ f2)) (t1 : TrL B.K H Z A f1) : OwnZ (B.inner H f1 Z) H A Z f1 :=
  ⟨t1, (List.nodup_append.mp x.nd).1, fun a ha => x.nz a (List.mem_append_left _ ha), fun a ha => .inl ha, x.zt, fun a z => .inl z, ⟨fun _ _ e _ _ => e⟩, x.tb⟩
end
end Nv

set_option Elab.async false
set_option linter.all false
set_option maxRecDepth 100000
set_option maxHeartbeats 1000000
/-! The data layer, part 2: what an expression does to the slots; the judgements; operators. -/
namespace Nv
open PySem PySem.Spec PyProof.Rows L2
/-- the tables of code objects that are known throughout -/
class Tbs where
  list : List (Addr × Str)
variable [Tbs]

/-- what an expression hands back: a value of its own, or what stands in a slot -/
inductive Rs where
  | tm (v : Val)
  | sl (i : Nat)
abbrev Sl := List (Option Val)
abbrev M (α : Type) := Sl → Option (Except Exn α × Sl)
def M.bind {α β : Type} (m : M α) (f : α → M β) : M β := fun δ => match m δ with
  | some (.ok a, δ1) => f a δ1
  | some (.error e, δ1) => some (.error e, δ1)
  | none => none
def M.pure {α : Type} (a : α) : M α := fun δ => some (.ok a, δ)
instance : Monad M where
  pure := M.pure
  bind := M.bind
def lift {α : Type} (o : Option α) : M α := fun δ => match o with
  | some a => some (.ok a, δ)
  | none => none
def atSl (δ : Sl) (i : Nat) : Option Val := match δ[i]? with
  | some (some v) => some v
  | _ => none
def Rs.get (r : Rs) (δ : Sl) : Option Val := match r with
  | .tm v => some v
  | .sl i => atSl δ i
def getv (r : Rs) : M Val := fun δ => match r.get δ with
  | some v => some (.ok v, δ)
  | none => none
def getvs : List Rs → M (List Val)
  | [] => M.pure []
  | r :: rs => (getv r).bind fun v => (getvs rs).bind fun vs => M.pure (v :: vs)
abbrev ES := M Rs

def prs : L2.St → Sl → List (V × Val)
  | some x :: σ, some v :: δ => (x, v) :: prs σ δ
  | _ :: σ, _ :: δ => prs σ δ
  | _, _ => []
def tms : List (V × Rs) → List (V × Val)
  | [] => []
  | (x, .tm v) :: L => (x, v) :: tms L
  | (_, .sl _) :: L => tms L

/-- the slots, the values at hand (the last one first) -/
structure SR (B : Bs) (σ : L2.St) (δ : Sl) (L : List (V × Rs)) (H : Hp) : Prop where
  len : δ.length = σ.length
  own : Own B H (prs σ δ ++ tms L)
  has : ∀ i v, atSl δ i = some v → ∃ x, σ[i]? = some (some x)
  sl : ∀ x i, (x, Rs.sl i) ∈ L → σ[i]? = some (some x)
  pin : ∀ p ∈ B.pn, σ[p.1]? = some (some p.2)

theorem tms_append : ∀ (L M : List (V × Rs)), tms (L ++ M) = tms L ++ tms M
  | [], _ => rfl
  | (x, .tm v) :: L, M => by rw [List.cons_append, tms, tms, tms_append L M]; rfl
  | (x, .sl i) :: L, M => by rw [List.cons_append, tms, tms, tms_append L M]
theorem tms_perm {L M : List (V × Rs)} (h : L.Perm M) : (tms L).Perm (tms M) := by
  induction h with
  | nil => exact .refl _
  | cons x _ ih =>
    obtain ⟨v, r⟩ := x
    cases r with
    | tm _ => exact ih.cons _
    | sl _ => exact ih
  | swap x y l =>
    obtain ⟨v, r⟩ := x
    obtain ⟨u, q⟩ := y
    cases r <;> cases q <;> simp only [tms] <;> first | exact .refl _ | exact .swap _ _ _
  | trans _ _ a b => exact a.trans b
theorem mem_tms {x : V} {v : Val} : ∀ {L : List (V × Rs)}, (x, Rs.tm v) ∈ L → (x, v) ∈ tms L
  | (y, .tm w) :: L, h => by
    rcases List.mem_cons.mp h with h | h
    · injection h with h1 h2; injection h2 with h2; subst h1; subst h2; exact List.mem_cons_self
    · exact List.mem_cons_of_mem _ (mem_tms h)
  | (y, .sl i) :: L, h => by
    rcases List.mem_cons.mp h with h | h
    · injection h with _ h; cases h
    · exact mem_tms (L := L) h
theorem atSl_cons (o : Option Val) (δ : Sl) (i : Nat) : atSl (o :: δ) (i + 1) = atSl δ i := by unfold atSl; simp
theorem mem_prs {x : V} {v : Val} : ∀ {σ : L2.St} {δ : Sl} {i : Nat}, σ[i]? = some (some x) → atSl δ i = some v → (x, v) ∈ prs σ δ
  | [], _, _, h, _ => by simp at h
  | _ :: _, [], _, _, h => by simp [atSl] at h
  | o :: σ, p :: δ, 0, h1, h2 => by
    simp at h1
    subst h1
    cases p with
    | none => simp [atSl] at h2
    | some w => simp [atSl] at h2; subst h2; exact List.mem_cons_self
  | o :: σ, p :: δ, i + 1, h1, h2 => by
    have r : (x, v) ∈ prs σ δ := mem_prs (i := i) (by simpa using h1) (by rw [atSl_cons] at h2; exact h2)
    cases o with
    | none => exact r
    | some y =>
      cases p with
      | none => exact r
      | some w => exact List.mem_cons_of_mem _ r

section
variable {B : Bs} {σ : L2.St} {δ : Sl} {L M' : List (V × Rs)} {H H' : Hp}
theorem SR.perm (s : SR B σ δ L H) (h : L.Perm M') : SR B σ δ M' H :=
  ⟨s.len, s.own.perm ((tms_perm h).append_left _), s.has, fun x i q => s.sl x i (h.mem_iff.mpr q), s.pin⟩
theorem SR.drop {L2 : List (V × Rs)} (s : SR B σ δ (M' ++ L2) H) : SR B σ δ L2 H := by
  refine ⟨s.len, ?_, s.has, fun x i q => s.sl x i (List.mem_append_right _ q), s.pin⟩
  have o := s.own
  rw [tms_append] at o
  have p : (prs σ δ ++ (tms M' ++ tms L2)).Perm (tms M' ++ (prs σ δ ++ tms L2)) := by
    rw [← List.append_assoc, ← List.append_assoc]
    exact List.perm_append_comm.append_right _
  exact (o.perm p).dropL
theorem SR.drop1 {p : V × Rs} (s : SR B σ δ (p :: L) H) : SR B σ δ L H := SR.drop (M' := [p]) s
/-- a value more -/
theorem SR.push {x : V} {v : Val} (s : SR B σ δ L H) (o : Own B H' ((x, v) :: (prs σ δ ++ tms L))) : SR B σ δ ((x, .tm v) :: L) H' := by
  refine ⟨s.len, o.perm ?_, s.has, fun y i q => ?_, s.pin⟩
  · exact (List.perm_middle).symm
  · rcases List.mem_cons.mp q with q | q
    · injection q with _ q; cases q
    · exact s.sl y i q
theorem SR.pop {x : V} {v : Val} (s : SR B σ δ ((x, .tm v) :: L) H) : Own B H ((x, v) :: (prs σ δ ++ tms L)) := s.own.perm List.perm_middle
theorem SR.slot {x : V} {i : Nat} (s : SR B σ δ L H) (h : σ[i]? = some (some x)) : SR B σ δ ((x, .sl i) :: L) H :=
  ⟨s.len, s.own, s.has, fun y j q => by
    rcases List.mem_cons.mp q with q | q
    · injection q with q1 q2; injection q2 with q2; subst q1; subst q2; exact h
    · exact s.sl y j q, s.pin⟩
theorem SR.look {x : V} {r : Rs} {v : Val} (s : SR B σ δ L H) (h : (x, r) ∈ L) (g : r.get δ = some v) : (x, v) ∈ prs σ δ ++ tms L := by
  cases r with
  | tm w => cases g; exact List.mem_append_right _ (mem_tms h)
  | sl i => exact List.mem_append_left _ (mem_prs (s.sl x i h) g)
end
theorem TrL.mem {K : PySem.W.Frag} {H : Hp} {Z : Addr → Prop} {x : V} {v : Val} : ∀ {P : List (V × Val)} {fp : List Addr}, TrL K H Z P fp → (x, v) ∈ P → ∃ f, Tr K H Z x v f
  | _, _, .cons r t, h => by
    rcases List.mem_cons.mp h with h | h
    · injection h with h1 h2; subst h1; subst h2; exact ⟨_, r⟩
    · exact TrL.mem t h
/-- a value as it stands -/
def View (B : Bs) (H : Hp) (Z : Addr → Prop) (x : V) (v : Val) : Prop := ∃ f, Tr B.K H Z x v f
theorem View.rep {B : Bs} {H : Hp} {Z : Addr → Prop} {x : V} {y : PyData} (v : View B H Z x (.d y)) : Rep B.K H Z x y := v.choose_spec.d_inv.2

/-- an exception lies there -/
def ExAt (mg : Str → Option Value) (B : Bs) (σ : L2.St) (δ : Sl) (L : List (V × Rs)) (ex : Exn) (cls : Value) (dd : Option Addr) (H : Hp) : Prop :=
  ∃ (C d : Addr) (vs : List V), mg ex.cls = some (.ref C) ∧ cls = .ref C ∧ dd = some d ∧ vs.length = ex.fs.length ∧ H d = some (.xd ((ex.fs.map Prod.fst).zip vs)) ∧
    SR B σ δ (vs.zip (ex.fs.map fun p => Rs.tm (.d p.2)) ++ L) H

def JE (mg : Str → Option Value) (B : Bs) (W : WX) (σ : L2.St) (L : List (V × Rs)) (Q : VK) : Option (Except Exn Rs × Sl) → Prop
  | some (.ok r, δ') => ∀ x H', SR B σ δ' ((x, r) :: L) H' → Q x H'
  | some (.error ex, δ') => ∀ cls dd H', ExAt mg B σ δ' L ex cls dd H' → W cls dd σ H'
  | none => False
def JT {α : Type} (mg : Str → Option Value) (B : Bs) (W : WX) (σ : L2.St) (L : List (V × Rs)) (Q : α → Hp → Prop) : Option (Except Exn α × Sl) → Prop
  | some (.ok r, δ') => ∀ H', SR B σ δ' L H' → Q r H'
  | some (.error ex, δ') => ∀ cls dd H', ExAt mg B σ δ' L ex cls dd H' → W cls dd σ H'
  | none => False
def JA (mg : Str → Option Value) (B : Bs) (W : WX) (σ : L2.St) (L : List (V × Rs)) (Q : List V → Hp → Prop) : Option (Except Exn (List Rs) × Sl) → Prop
  | some (.ok rs, δ') => ∀ xs H', xs.length = rs.length → SR B σ δ' (xs.zip rs ++ L) H' → Q xs H'
  | some (.error ex, δ') => ∀ cls dd H', ExAt mg B σ δ' L ex cls dd H' → W cls dd σ H'
  | none => False
def tD (mg : Str → Option Value) (B : Bs) (W : WX) (t : ES) : TE := fun σ H Q => ∃ δ L, SR B σ δ L H ∧ JE mg B W σ L Q (t δ)
def tDT {α : Type} (mg : Str → Option Value) (B : Bs) (W : WX) (t : M α) : L2.St → Hp → (α → Hp → Prop) → Prop := fun σ H Q => ∃ δ L, SR B σ δ L H ∧ JT mg B W σ L Q (t δ)
def tDA (mg : Str → Option Value) (B : Bs) (W : WX) (t : M (List Rs)) : TA := fun σ H Q => ∃ δ L, SR B σ δ L H ∧ JA mg B W σ L Q (t δ)

structure Cg (X : Cx) (B : Bs) (W : WX) : Prop where
  k : B.K = X.K
  tk : Takes X W
  calm : X.calm = true
  pass : PassesOwn (model X.prog X.w) X.A X.env X.xe
  tab : B.T = Tbs.list
structure DE (X : Cx) (e : Expr) (t : ES) : Prop where
  run : ∀ B W, Cg X B W → PE X e (tD X.mg B W t)
structure DT (X : Cx) (e : Expr) (t : M Bool) : Prop where
  run : ∀ B W, Cg X B W → PT X e (tDT X.mg B W t)
structure DW (X : Cx) (e : Expr) (t : M Bool) : Prop where
  run : ∀ B W, Cg X B W → PW X e (tDT X.mg B W t)
structure DA (X : Cx) (es : List Expr) (t : M (List Rs)) : Prop where
  run : ∀ B W, Cg X B W → PA X es (tDA X.mg B W t)
theorem DW.dt {X : Cx} {e : Expr} {t : M Bool} (h : DW X e t) : DT X e t := ⟨fun B W c => (h.run B W c).pt⟩

theorem PE_weak {X : Cx} {e : Expr} {t t' : TE} (h : PE X e t) (w : ∀ σ H Q, t' σ H Q → t σ H Q) : PE X e t' := ⟨fun pins s σ H Q I q => h.run pins s σ H Q I (w σ H Q q)⟩
theorem PT_weak {X : Cx} {e : Expr} {t t' : TT} (h : PT X e t) (w : ∀ σ H Q, t' σ H Q → t σ H Q) : PT X e t' := ⟨fun pins s σ H Q I q => h.run pins s σ H Q I (w σ H Q q)⟩
theorem PW_weak {X : Cx} {e : Expr} {t t' : TT} (h : PW X e t) (w : ∀ σ H Q, t' σ H Q → t σ H Q) : PW X e t' := ⟨fun wh pins s σ H Q I q => h.run wh pins s σ H Q I (w σ H Q q)⟩
theorem PA_weak {X : Cx} {e : List Expr} {t t' : TA} (h : PA X e t) (w : ∀ σ H Q, t' σ H Q → t σ H Q) : PA X e t' := ⟨fun pos pins s σ H Q I q => h.run pos pins s σ H Q I (w σ H Q q)⟩

section
variable {mg : Str → Option Value} {B : Bs} {W : WX} {σ : L2.St} {H : Hp}
theorem bind_ok {α β : Type} {m : M α} {f : α → M β} {δ δ1 : Sl} {a : α} (h : m δ = some (.ok a, δ1)) : m.bind f δ = f a δ1 := by unfold M.bind; rw [h]
theorem bind_err {α β : Type} {m : M α} {f : α → M β} {δ δ1 : Sl} {e : Exn} (h : m δ = some (.error e, δ1)) : m.bind f δ = some (.error e, δ1) := by unfold M.bind; rw [h]
theorem bind_none {α β : Type} {m : M α} {f : α → M β} {δ : Sl} (h : m δ = none) : m.bind f δ = none := by unfold M.bind; rw [h]

theorem ExAt.drop {δ : Sl} {M' L : List (V × Rs)} {ex : Exn} {cls : Value} {dd : Option Addr} (h : ExAt mg B σ δ (M' ++ L) ex cls dd H) : ExAt mg B σ δ L ex cls dd H := by
  obtain ⟨C, d, vs, a, b, c, e, f, s⟩ := h
  refine ⟨C, d, vs, a, b, c, e, f, ?_⟩
  refine (s.perm ?_).drop (M' := M')
  rw [← List.append_assoc, ← List.append_assoc]
  exact List.perm_append_comm.append_right _
/-- what is wanted of a computation's end -/
structure Kn {β : Type} (mg : Str → Option Value) (B : Bs) (W : WX) (σ : L2.St) (L : List (V × Rs)) (J : Option (Except Exn β × Sl) → Prop) : Prop where
  no : ¬ J none
  er : ∀ ex δ', J (some (.error ex, δ')) → ∀ cls dd H', ExAt mg B σ δ' L ex cls dd H' → W cls dd σ H'
theorem knE {L : List (V × Rs)} {Q : VK} : Kn mg B W σ L (JE mg B W σ L Q) := ⟨id, fun _ _ h => h⟩
theorem knT {α : Type} {L : List (V × Rs)} {Q : α → Hp → Prop} : Kn mg B W σ L (JT mg B W σ L Q) := ⟨id, fun _ _ h => h⟩
theorem knA {L : List (V × Rs)} {Q : List V → Hp → Prop} : Kn mg B W σ L (JA mg B W σ L Q) := ⟨id, fun _ _ h => h⟩
section
variable {β : Type} {L M' : List (V × Rs)} {J : Option (Except Exn β × Sl) → Prop} {δ : Sl}
theorem tD_next {t : ES} {f : Rs → M β} {Q' : VK} (n : Kn mg B W σ L J) (s : SR B σ δ (M' ++ L) H) (j : J (M.bind t f δ))
    (k : ∀ y H' r δ', SR B σ δ' ((y, r) :: (M' ++ L)) H' → J (f r δ') → Q' y H') : tD mg B W t σ H Q' := by
  refine ⟨δ, M' ++ L, s, ?_⟩
  cases e : t δ with
  | none => rw [bind_none e] at j; exact (n.no j).elim
  | some p =>
    obtain ⟨r, δ'⟩ := p
    cases r with
    | error ex => rw [bind_err e] at j; exact fun cls dd H' x => n.er ex δ' j cls dd H' x.drop
    | ok r => rw [bind_ok e] at j; exact fun x H' s' => k x H' r δ' s' j
theorem tDT_next {α : Type} {t : M α} {f : α → M β} {Q' : α → Hp → Prop} (n : Kn mg B W σ L J) (s : SR B σ δ (M' ++ L) H) (j : J (M.bind t f δ))
    (k : ∀ H' r δ', SR B σ δ' (M' ++ L) H' → J (f r δ') → Q' r H') : tDT mg B W t σ H Q' := by
  refine ⟨δ, M' ++ L, s, ?_⟩
  cases e : t δ with
  | none => rw [bind_none e] at j; exact (n.no j).elim
  | some p =>
    obtain ⟨r, δ'⟩ := p
    cases r with
    | error ex => rw [bind_err e] at j; exact fun cls dd H' x => n.er ex δ' j cls dd H' x.drop
    | ok r => rw [bind_ok e] at j; exact fun H' s' => k H' r δ' s' j
theorem tDA_next {t : M (List Rs)} {f : List Rs → M β} {Q' : List V → Hp → Prop} (n : Kn mg B W σ L J) (s : SR B σ δ (M' ++ L) H) (j : J (M.bind t f δ))
    (k : ∀ xs H' rs δ', xs.length = rs.length → SR B σ δ' (xs.zip rs ++ (M' ++ L)) H' → J (f rs δ') → Q' xs H') : tDA mg B W t σ H Q' := by
  refine ⟨δ, M' ++ L, s, ?_⟩
  cases e : t δ with
  | none => rw [bind_none e] at j; exact (n.no j).elim
  | some p =>
    obtain ⟨r, δ'⟩ := p
    cases r with
    | error ex => rw [bind_err e] at j; exact fun cls dd H' x => n.er ex δ' j cls dd H' x.drop
    | ok r => rw [bind_ok e] at j; exact fun xs H' hl s' => k xs H' r δ' hl s' j
end
end
end Nv

set_option Elab.async false
set_option linter.all false
set_option maxRecDepth 100000
set_option maxHeartbeats 1000000
/-! The data layer, part 3: names, constants, operators, tests, displays. -/
namespace Nv
open PySem PySem.Spec PyProof.Rows L2
variable [Tbs]

def fin (o : Option Val) : ES := fun δ => o.map fun z => (.ok (.tm z), δ)
def op1 (f : Val → Option Val) (t : ES) : ES := M.bind t fun a δ => fin ((a.get δ).bind f) δ
def op2 (f : Val → Val → Option Val) (ta tb : ES) : ES := M.bind ta fun a => M.bind tb fun b δ => fin ((a.get δ).bind fun x => (b.get δ).bind fun y => f x y) δ
def getAll : List Rs → Sl → Option (List Val)
  | [], _ => some []
  | r :: rs, δ => (r.get δ).bind fun v => (getAll rs δ).bind fun vs => some (v :: vs)
def opN (f : List Val → Option Val) (t : M (List Rs)) : ES := M.bind t fun rs δ => fin ((getAll rs δ).bind f) δ
theorem fin_some {o : Option Val} {δ : Sl} {p : Except Exn Rs × Sl} (h : fin o δ = some p) : ∃ z, o = some z ∧ p = (.ok (.tm z), δ) := by
  unfold fin at h
  cases o with
  | none => cases h
  | some z => cases h; exact ⟨z, rfl, rfl⟩

section
variable {B : Bs} {σ : L2.St} {δ : Sl} {L M' : List (V × Rs)} {H : Hp}
/-- what is at hand, seen; the rest, with the same frozen part -/
theorem SR.open {L2 : List (V × Rs)} (s : SR B σ δ (M' ++ L2) H) : ∃ Z fp, OwnZ B H (prs σ δ ++ tms L2) Z fp ∧ ∀ x r v, (x, r) ∈ M' ++ L2 → r.get δ = some v → View B H Z x v := by
  obtain ⟨Z, fp, o⟩ := s.own
  have vw : ∀ x r v, (x, r) ∈ M' ++ L2 → r.get δ = some v → View B H Z x v := fun x r v h g => o.tr.mem (s.look h g)
  rw [tms_append] at o
  have p : (prs σ δ ++ (tms M' ++ tms L2)).Perm (tms M' ++ (prs σ δ ++ tms L2)) := by
    rw [← List.append_assoc, ← List.append_assoc]
    exact List.perm_append_comm.append_right _
  obtain ⟨g, pg, t⟩ := o.tr.perm p
  obtain ⟨f1, f2, e, _, t2⟩ := t.split
  subst e
  refine ⟨Z, f2, ⟨t2, (List.nodup_append.mp (pg.nodup_iff.mp o.nd)).2.1, fun a ha => o.nz a (pg.mem_iff.mpr (List.mem_append_right _ ha)), fun a ha => o.new a (pg.mem_iff.mpr (List.mem_append_right _ ha)), o.zt, o.zo, o.fr, o.tb⟩, vw⟩
end

/-- a two-place operation over data -/
def OpOk (X : Cx) (g : Value → Value → Sem Value) (f : Val → Val → Option Val) : Prop :=
  ∀ (pins : List (Addr × Obj)) (s : Shared) (σ : L2.St) (H : Hp) (x y : V) (v u : Value), Inv X pins σ H s → RelV x v → RelV y u →
    ∀ (B : Bs) (P : List (V × Val)) (Z : Addr → Prop) (fp : List Addr) (a b z : Val), B.K = X.K → OwnZ B H P Z fp → View B H Z x a → View B H Z y b → f a b = some z →
      wpAny (model X.prog X.w) X.A (g v u) (EP X pins σ fun zv H' => Own B H' ((zv, z) :: P)) X.xe s
def UnOk (X : Cx) (g : Value → Sem Value) (f : Val → Option Val) : Prop :=
  ∀ (pins : List (Addr × Obj)) (s : Shared) (σ : L2.St) (H : Hp) (x : V) (v : Value), Inv X pins σ H s → RelV x v →
    ∀ (B : Bs) (P : List (V × Val)) (Z : Addr → Prop) (fp : List Addr) (a z : Val), B.K = X.K → OwnZ B H P Z fp → View B H Z x a → f a = some z →
      wpAny (model X.prog X.w) X.A (g v) (EP X pins σ fun zv H' => Own B H' ((zv, z) :: P)) X.xe s
inductive Views (B : Bs) (H : Hp) (Z : Addr → Prop) : List V → List Val → Prop
  | nil : Views B H Z [] []
  | cons {x : V} {a : Val} {xs : List V} {as : List Val} : View B H Z x a → Views B H Z xs as → Views B H Z (x :: xs) (a :: as)
def CallOk (X : Cx) (fv : Value) (f : List Val → Option Val) : Prop :=
  ∀ (pins : List (Addr × Obj)) (s : Shared) (σ : L2.St) (H : Hp) (xs : List V) (us : List Value), Inv X pins σ H s → Vals xs us →
    ∀ (B : Bs) (P : List (V × Val)) (Z : Addr → Prop) (fp : List Addr) (as : List Val) (z : Val), B.K = X.K → OwnZ B H P Z fp → Views B H Z xs as → f as = some z →
      wpAny (model X.prog X.w) X.A (call fv us) (EP X pins σ fun zv H' => Own B H' ((zv, z) :: P)) X.xe s

/-- .. as readings -/
def rD2 (K : PySem.W.Frag) (f : Val → Val → Option Val) : R2 := fun x y H Q => ∃ B P Z fp a b z, B.K = K ∧ OwnZ B H P Z fp ∧ View B H Z x a ∧ View B H Z y b ∧ f a b = some z ∧ ∀ zv H', Own B H' ((zv, z) :: P) → Q zv H'
def rD1 (K : PySem.W.Frag) (f : Val → Option Val) : V → Hp → VK → Prop := fun x H Q => ∃ B P Z fp a z, B.K = K ∧ OwnZ B H P Z fp ∧ View B H Z x a ∧ f a = some z ∧ ∀ zv H', Own B H' ((zv, z) :: P) → Q zv H'
def rDN (K : PySem.W.Frag) (f : List Val → Option Val) : List V → Hp → VK → Prop := fun xs H Q => ∃ B P Z fp as z, B.K = K ∧ OwnZ B H P Z fp ∧ Views B H Z xs as ∧ f as = some z ∧ ∀ zv H', Own B H' ((zv, z) :: P) → Q zv H'
section
variable {X : Cx}
theorem EP_mono {pins : List (Addr × Obj)} {σ : L2.St} {Q Q' : VK} {u : Value} {s : Shared} (h : ∀ v H, Q v H → Q' v H) : EP X pins σ Q u s → EP X pins σ Q' u s := fun ⟨v, H, I, r, q⟩ => ⟨v, H, I, r, h v H q⟩
theorem OpOk.opR {g : Value → Value → Sem Value} {f : Val → Val → Option Val} (h : OpOk X g f) : OpR X g (rD2 X.K f) := fun pins s σ H x y v u Q I rx ry ⟨B, P, Z, fp, a, b, z, hk, o, va, vb, e, q⟩ =>
  thn (h pins s σ H x y v u I rx ry B P Z fp a b z hk o va vb e) fun _ _ => EP_mono fun v H => q v H
theorem UnOk.unR {g : Value → Sem Value} {f : Val → Option Val} (h : UnOk X g f) : UnR X g (rD1 X.K f) := fun pins s σ H x v Q I rx ⟨B, P, Z, fp, a, z, hk, o, va, e, q⟩ =>
  thn (h pins s σ H x v I rx B P Z fp a z hk o va e) fun _ _ => EP_mono fun v H => q v H
theorem CallOk.callR {fv : Value} {f : List Val → Option Val} (h : CallOk X fv f) : CallR X fv (rDN X.K f) := fun pins s σ H xs us Q I r ⟨B, P, Z, fp, as, z, hk, o, va, e, q⟩ =>
  thn (h pins s σ H xs us I r B P Z fp as z hk o va e) fun _ _ => EP_mono fun v H => q v H
/-- from the layer's own rules -/
theorem OpOk.of {g : Value → Value → Sem Value} {f : Val → Val → Option Val} {r : R2} (h : OpR X g r)
    (k : ∀ (x y : V) (H : Hp) (B : Bs) (P : List (V × Val)) (Z : Addr → Prop) (fp : List Addr) (a b z : Val), B.K = X.K → OwnZ B H P Z fp → View B H Z x a → View B H Z y b → f a b = some z → r x y H fun zv H' => Own B H' ((zv, z) :: P)) : OpOk X g f :=
  fun pins s σ H x y v u I rx ry B P Z fp a b z hk o va vb e => h pins s σ H x y v u _ I rx ry (k x y H B P Z fp a b z hk o va vb e)
theorem UnOk.of {g : Value → Sem Value} {f : Val → Option Val} {r : V → Hp → VK → Prop} (h : UnR X g r)
    (k : ∀ (x : V) (H : Hp) (B : Bs) (P : List (V × Val)) (Z : Addr → Prop) (fp : List Addr) (a z : Val), B.K = X.K → OwnZ B H P Z fp → View B H Z x a → f a = some z → r x H fun zv H' => Own B H' ((zv, z) :: P)) : UnOk X g f :=
  fun pins s σ H x v I rx B P Z fp a z hk o va e => h pins s σ H x v _ I rx (k x H B P Z fp a z hk o va e)
theorem CallOk.of {fv : Value} {f : List Val → Option Val} {r : List V → Hp → VK → Prop} (h : CallR X fv r)
    (k : ∀ (xs : List V) (H : Hp) (B : Bs) (P : List (V × Val)) (Z : Addr → Prop) (fp : List Addr) (as : List Val) (z : Val), B.K = X.K → OwnZ B H P Z fp → Views B H Z xs as → f as = some z → r xs H fun zv H' => Own B H' ((zv, z) :: P)) : CallOk X fv f :=
  fun pins s σ H xs us I r' B P Z fp as z hk o va e => h pins s σ H xs us _ I r' (k xs H B P Z fp as z hk o va e)
theorem OpOk.or {g : Value → Value → Sem Value} {f f' : Val → Val → Option Val} (h : OpOk X g f) (h' : OpOk X g f') : OpOk X g (fun a b => (f a b).or (f' a b)) :=
  fun pins s σ H x y v u I rx ry B P Z fp a b z hk o va vb e => by
    cases q : f a b with
    | some z' => have e' : (f a b).or (f' a b) = some z := e; rw [q] at e'; cases e'; exact h pins s σ H x y v u I rx ry B P Z fp a b _ hk o va vb q
    | none => have e' : (f a b).or (f' a b) = some z := e; rw [q] at e'; exact h' pins s σ H x y v u I rx ry B P Z fp a b z hk o va vb e'
theorem CallOk.or {fv : Value} {f f' : List Val → Option Val} (h : CallOk X fv f) (h' : CallOk X fv f') : CallOk X fv (fun a => (f a).or (f' a)) :=
  fun pins s σ H xs us I r B P Z fp as z hk o va e => by
    cases q : f as with
    | some z' => have e' : (f as).or (f' as) = some z := e; rw [q] at e'; cases e'; exact h pins s σ H xs us I r B P Z fp as _ hk o va q
    | none => have e' : (f as).or (f' as) = some z := e; rw [q] at e'; exact h' pins s σ H xs us I r B P Z fp as z hk o va e'
end

section
variable {mg : Str → Option Value} {B : Bs} {W : WX} {σ : L2.St} {H : Hp} {Q : VK}
/-- the end of an operation: its value is pushed -/
theorem fin_end {δ : Sl} {L M' : List (V × Rs)} {o : Option Val} {z : Val} (e : o = some z) (s : SR B σ δ (M' ++ L) H) (h : JE mg B W σ L Q (fin o δ)) : ∀ zv H', Own B H' ((zv, z) :: (prs σ δ ++ tms L)) → Q zv H' := by
  subst e
  exact fun zv H' o' => h zv H' (s.drop.push o')
theorem fin_has {δ : Sl} {L : List (V × Rs)} {o : Option Val} (h : JE mg B W σ L Q (fin o δ)) : ∃ z, o = some z := by
  cases o with
  | none => exact h.elim
  | some z => exact ⟨z, rfl⟩
theorem tD_op1 {K : PySem.W.Frag} {t : ES} {f : Val → Option Val} (hk : B.K = K) (h : tD mg B W (op1 f t) σ H Q) : tUn (rD1 K f) (tD mg B W t) σ H Q := by
  obtain ⟨δ, L, s, q⟩ := h
  refine tD_next (M' := []) knE s q fun x H1 r δ s q => ?_
  obtain ⟨z, e⟩ := fin_has q
  cases e1 : r.get δ with
  | none => rw [e1] at e; cases e
  | some v =>
    obtain ⟨Z, fp, o, vw⟩ := SR.open (M' := [(x, r)]) s
    refine ⟨B, _, Z, fp, v, z, hk, o, vw x r v List.mem_cons_self e1, ?_, fin_end (M' := [(x, r)]) e s q⟩
    rw [e1] at e; exact e
theorem tD_op2 {K : PySem.W.Frag} {ta tb : ES} {f : Val → Val → Option Val} (hk : B.K = K) (h : tD mg B W (op2 f ta tb) σ H Q) : tOp (rD2 K f) (tD mg B W ta) (tD mg B W tb) σ H Q := by
  obtain ⟨δ, L, s, q⟩ := h
  refine tD_next (M' := []) knE s q fun x H1 r δ s q => ?_
  refine tD_next (M' := [(x, r)]) knE s q fun y H2 r2 δ s q => ?_
  obtain ⟨z, e⟩ := fin_has q
  cases e1 : r.get δ with
  | none => rw [e1] at e; cases e
  | some v =>
    cases e2 : r2.get δ with
    | none => rw [e1, e2] at e; cases e
    | some w =>
      obtain ⟨Z, fp, o, vw⟩ := SR.open (M' := [(y, r2), (x, r)]) s
      refine ⟨B, _, Z, fp, v, w, z, hk, o, vw x r v (by simp) e1, vw y r2 w (by simp) e2, ?_, fin_end (M' := [(y, r2), (x, r)]) e s q⟩
      rw [e1, e2] at e; exact e
theorem views_of {δ : Sl} {Z : Addr → Prop} : ∀ {xs : List V} {rs : List Rs} {as : List Val}, xs.length = rs.length → (∀ x r v, (x, r) ∈ xs.zip rs → r.get δ = some v → View B H Z x v) → getAll rs δ = some as → Views B H Z xs as
  | [], [], _, _, _, e => by cases e; exact .nil
  | x :: xs, r :: rs, as, hl, h, e => by
    unfold getAll at e
    cases e1 : r.get δ with
    | none => rw [e1] at e; cases e
    | some v =>
      cases e2 : getAll rs δ with
      | none => rw [e1, e2] at e; cases e
      | some vs =>
        rw [e1, e2] at e
        cases e
        exact .cons (h x r v (by simp) e1) (views_of (by simpa using hl) (fun x r v m g => h x r v (List.mem_cons_of_mem _ m) g) e2)
  | [], _ :: _, _, hl, _, _ => by simp at hl
  | _ :: _, [], _, hl, _, _ => by simp at hl
theorem tD_opN {K : PySem.W.Frag} {t : M (List Rs)} {f : List Val → Option Val} (hk : B.K = K) (h : tD mg B W (opN f t) σ H Q) : tDA mg B W t σ H fun xs H1 => rDN K f xs H1 Q := by
  obtain ⟨δ, L, s, q⟩ := h
  refine tDA_next (M' := []) knE s q fun xs H1 rs δ hl s q => ?_
  obtain ⟨z, e⟩ := fin_has q
  cases e1 : getAll rs δ with
  | none => rw [e1] at e; cases e
  | some as =>
    obtain ⟨Z, fp, o, vw⟩ := SR.open (M' := xs.zip rs) s
    refine ⟨B, _, Z, fp, as, z, hk, o, views_of hl (fun x r v m g => vw x r v (List.mem_append_left _ m) g) e1, ?_, fin_end (M' := xs.zip rs) e s q⟩
    rw [e1] at e; exact e
end

section
variable {X : Cx} {a b e : Expr} {ta tb t : ES} {es : List Expr} {tr : M (List Rs)} {pos : Pos}
theorem de_bin {op : Operator} {f : Val → Val → Option Val} (ho : OpOk X (binaryOp op) f) (ha : DE X a ta) (hb : DE X b tb) : DE X (.BinOp a op b pos) (op2 f ta tb) :=
  ⟨fun B W c => PE_weak (pe_op ho.opR (ha.run B W c) (hb.run B W c)) fun _ _ _ h => tD_op2 c.k h⟩
theorem de_un {op : UnaryOp} {f : Val → Option Val} (ho : UnOk X (unaryOp op) f) (ha : DE X a ta) : DE X (.UnaryOp op a pos) (op1 f ta) :=
  ⟨fun B W c => PE_weak (pe_un ho.unR (ha.run B W c)) fun _ _ _ h => tD_op1 c.k h⟩
theorem de_cmp {op : CmpOp} {f : Val → Val → Option Val} (ho : OpOk X (compareOp op) f) (ha : DE X a ta) (hb : DE X b tb) (hm : behindInMarks op b = false) : DE X (.Compare a [op] [b] pos) (op2 f ta tb) :=
  ⟨fun B W c => PE_weak (pe_cmpR ho.opR (ha.run B W c) (hb.run B W c) hm) fun _ _ _ h => tD_op2 c.k h⟩
/-- a truth as a test -/
def asT (t : ES) : M Bool := M.bind t fun r δ => match r.get δ with
  | some (.d (.bool k)) => some (.ok k, δ)
  | _ => none
theorem tD_asT {mg : Str → Option Value} {B : Bs} {W : WX} {σ : L2.St} {H : Hp} {Q : Bool → Hp → Prop} {t : ES} (h : tDT mg B W (asT t) σ H Q) : tD mg B W t σ H fun x H' => ∃ k, x = .bl k ∧ Q k H' := by
  obtain ⟨δ, L, s, q⟩ := h
  refine tD_next (M' := []) knT s q fun x H1 r δ s q => ?_
  obtain ⟨Z, fp, o, vw⟩ := SR.open (M' := [(x, r)]) s
  cases e : r.get δ with
  | none => simp only [e] at q; exact q.elim
  | some v =>
    cases v with
    | ol _ => simp only [e] at q; exact q.elim
    | d y =>
      cases y with
      | bool k =>
        simp only [e] at q
        have rp := (vw x r _ List.mem_cons_self e).rep
        cases rp
        exact ⟨k, rfl, q H1 s.drop1⟩
      | _ => simp only [e] at q; exact q.elim
theorem dt_cmp {op : CmpOp} {f : Val → Val → Option Val} (ho : OpOk X (compareOp op) f) (ha : DE X a ta) (hb : DE X b tb) (hm : behindInMarks op b = false) : DT X (.Compare a [op] [b] pos) (asT (op2 f ta tb)) :=
  ⟨fun B W c => PT_weak (pt_cmpR ho.opR (ha.run B W c) (hb.run B W c) hm) fun _ _ _ h => tD_op2 c.k (tD_asT h)⟩
theorem dt_val (h : DE X e t) (he : ∀ whole, isTrue e X.env whole = (do let v ← whole; standAt e.pos; holding [v] (truthy v)) := by intro _; rfl) : DT X e (asT t) :=
  ⟨fun B W c => PT_weak (pt_val (h.run B W c) he) fun _ _ _ h => tD_asT h⟩

/-! ### names, constants -/
theorem tD_pure {mg : Str → Option Value} {B : Bs} {W : WX} {σ : L2.St} {H : Hp} {Q : VK} {x : V} {y : PyData} (hr : ∀ Z, Rep B.K H Z x y) (h : tD mg B W (fin (some (.d y))) σ H Q) : Q x H := by
  obtain ⟨δ, L, s, q⟩ := h
  obtain ⟨Z, fp, o⟩ := s.own
  exact q x H (s.push ⟨Z, fp, Own.addD o (hr Z)⟩)
def kI (i : Int) : ES := fin (some (.d (.int i)))
def kS (x : Str) : ES := fin (some (.d (.str x)))
def kB (b : Bool) : ES := fin (some (.d (.bool b)))
def kN : ES := fin (some (.d .none))
theorem de_int {i : Int} {j} : DE X (.Constant (.int i) j pos) (kI i) := ⟨fun _ _ _ => PE_weak pe_int fun _ _ _ h => tD_pure (fun _ => .int i) h⟩
theorem de_bl {b : Bool} {j} : DE X (.Constant (.bool b) j pos) (kB b) := ⟨fun _ _ _ => PE_weak pe_bl fun _ _ _ h => tD_pure (fun _ => .bl b) h⟩
theorem de_non {j} : DE X (.Constant .none j pos) kN := ⟨fun _ _ _ => PE_weak pe_non fun _ _ _ h => tD_pure (fun _ => .non) h⟩
theorem de_str {x : Str} {j} : DE X (.Constant (.str x) j pos) (kS x) := ⟨fun _ _ _ => PE_weak pe_str fun _ _ _ h => tD_pure (fun _ => .str x) h⟩
/-- a module's constant int -/
theorem de_gint {x : Str} {i : Int} {t : Tok} (hg : Gl X x) (hm : X.mg x = some (.int i t)) (hd : (x == ("__debug__" : Str)) = false := by decide) : DE X (.Name x pos) (kI i) :=
  ⟨fun _ _ _ => PE_weak (pe_glob (v := .int i) hg hm ⟨t, rfl⟩ hd) fun _ _ _ h => tD_pure (fun _ => .int i) h⟩
/-- a name of the def -/
def vr (i : Nat) : ES := fun δ => match atSl δ i with
  | some _ => some (.ok (.sl i), δ)
  | none => none
theorem de_var {i : Nat} {x : Str} (hN : X.N[i]? = some x) (hv : Vis X.env.scope x) (hd : (x == ("__debug__" : Str)) = false := by decide) (hcd : (x == ("__classdict__" : Str)) = false := by decide) : DE X (.Name x pos) (vr i) :=
  ⟨fun B W c => PE_weak (pe_var hN hv hd hcd) fun σ H Q ⟨δ, L, s, q⟩ => by
    unfold vr at q
    cases e : atSl δ i with
    | none => simp only [e] at q; exact q.elim
    | some v =>
      simp only [e] at q
      obtain ⟨x, hx⟩ := s.has i v e
      exact ⟨x, hx, q x H (s.slot hx)⟩⟩
end
end Nv

set_option Elab.async false
set_option linter.all false
set_option maxRecDepth 100000
set_option maxHeartbeats 1000000
/-! The data layer, part 4: operations. -/
namespace Nv
open PySem PySem.Spec PyProof.Rows L2
variable [Tbs]

section
variable {B : Bs} {H : Hp} {Z : Addr → Prop} {x : V} {P : List (V × Val)} {fp : List Addr}
theorem View.int {i : Int} (v : View B H Z x (.d (.int i))) : x = .int i := by have r := v.rep; cases r; rfl
theorem View.str {i : Str} (v : View B H Z x (.d (.str i))) : x = .str i := by have r := v.rep; cases r; rfl
theorem View.bl {i : Bool} (v : View B H Z x (.d (.bool i))) : x = .bl i := by have r := v.rep; cases r; rfl
theorem View.non (v : View B H Z x (.d .none)) : x = .non := by have r := v.rep; cases r; rfl
theorem View.tup {ds : List PyData} (v : View B H Z x (.d (.tuple ds))) : ∃ a vs, x = .ref a ∧ SqT B.K H a vs ∧ RepL B.K H Z vs ds := by
  have r := v.rep
  cases r with
  | tup h t => exact ⟨_, _, rfl, h, t⟩
theorem View.list {ds : List PyData} (v : View B H Z x (.d (.list ds))) : ∃ a vs, x = .ref a ∧ SqL B.K H a vs ∧ RepL B.K H Z vs ds := by
  have r := v.rep
  cases r with
  | lst h z t => exact ⟨_, _, rfl, .inl h, t⟩
  | lstK h t => exact ⟨_, _, rfl, .inr h, t⟩
theorem View.ol {xs : List Val} (v : View B H Z x (.ol xs)) : ∃ a vs ps fp, x = .ref a ∧ H a = some (.lst vs) ∧ vs = ps.map Prod.fst ∧ xs = ps.map Prod.snd ∧ TrL B.K H Z ps fp := by
  obtain ⟨f, t⟩ := v
  cases t with
  | ol e e1 e2 t => exact ⟨_, _, _, _, rfl, e, e1, e2, t⟩
/-- a list of data -/
def allD : List Val → Option (List PyData)
  | [] => some []
  | .d x :: xs => (allD xs).map (x :: ·)
  | .ol _ :: _ => none
theorem allD_map : ∀ ds : List PyData, allD (ds.map Val.d) = some ds
  | [] => rfl
  | d :: ds => by rw [List.map_cons, allD, allD_map ds]; rfl
theorem allD_some : ∀ {xs : List Val} {ds : List PyData}, allD xs = some ds → xs = ds.map Val.d
  | [], _, h => by cases h; rfl
  | .d x :: xs, ds, h => by
    unfold allD at h
    cases e : allD xs with
    | none => rw [e] at h; cases h
    | some es => rw [e] at h; cases h; rw [allD_some e]; rfl
  | .ol _ :: _, _, h => by cases h
theorem TrL.repD {K : PySem.W.Frag} : ∀ {ps : List (V × Val)} {fp : List Addr} {ds : List PyData}, TrL K H Z ps fp → ps.map Prod.snd = ds.map Val.d → RepL K H Z (ps.map Prod.fst) ds
  | _, _, [], .nil, _ => .nil
  | _, _, d :: ds, .cons (x := x) r t, e => by
    rw [List.map_cons, List.map_cons] at e
    injection e with e1 e2
    have e1' : x = .d d := e1
    subst e1'
    exact .cons r.d_inv.2 (TrL.repD t e2)
  | _, _, _ :: _, .nil, e => by cases e
  | _, _, [], .cons _ _, e => by cases e
/-- the items of a list, a tuple, as data -/
def seqD : Val → Option (List PyData)
  | .d (.list ds) => some ds
  | .d (.tuple ds) => some ds
  | .ol xs => allD xs
  | _ => none
theorem View.seq {v : Val} {ds : List PyData} (w : View B H Z x v) (e : seqD v = some ds) : ∃ a vs, x = .ref a ∧ (SqL B.K H a vs ∨ SqT B.K H a vs) ∧ RepL B.K H Z vs ds := by
  cases v with
  | d y =>
    cases y with
    | list es => cases e; obtain ⟨a, vs, h1, h2, h3⟩ := w.list; exact ⟨a, vs, h1, .inl h2, h3⟩
    | tuple es => cases e; obtain ⟨a, vs, h1, h2, h3⟩ := w.tup; exact ⟨a, vs, h1, .inr h2, h3⟩
    | _ => cases e
  | ol xs =>
    obtain ⟨a, vs, ps, f, h1, h2, h3, h4, t⟩ := w.ol
    have e' : allD xs = some ds := e
    refine ⟨a, vs, h1, .inl (SqL.of h2), ?_⟩
    rw [h3]
    exact t.repD (by rw [← h4]; exact allD_some e')
/-- a list, frozen or owned -/
def lstD : Val → Option (List PyData)
  | .d (.list ds) => some ds
  | .ol xs => allD xs
  | _ => none
theorem View.lst {v : Val} {ds : List PyData} (w : View B H Z x v) (e : lstD v = some ds) : ∃ a vs, x = .ref a ∧ SqL B.K H a vs ∧ RepL B.K H Z vs ds := by
  cases v with
  | d y =>
    cases y with
    | list es => cases e; exact w.list
    | _ => cases e
  | ol xs =>
    obtain ⟨a, vs, ps, f, h1, h2, h3, h4, t⟩ := w.ol
    have e' : allD xs = some ds := e
    refine ⟨a, vs, h1, SqL.of h2, ?_⟩
    rw [h3]
    exact t.repD (by rw [← h4]; exact allD_some e')

/-! ### == of data -/
mutual
theorem Rep.dp {K : PySem.W.Frag} : ∀ {v : V} {d : PyData}, Rep K H Z v d → Dp K H v d
  | _, _, .non => .non
  | _, _, .bl b => .bl b
  | _, _, .int i => .int i
  | _, _, .str z => .str z
  | _, _, .lst h _ t => .lst (.inl h) (RepL.dp t)
  | _, _, .lstK h t => .lst (.inr h) (RepL.dp t)
  | _, _, .tup h t => .tup h (RepL.dp t)
theorem RepL.dp {K : PySem.W.Frag} : ∀ {vs : List V} {ds : List PyData}, RepL K H Z vs ds → DpAll K H vs ds
  | _, _, .nil => .nil
  | _, _, .cons r t => .cons (Rep.dp r) (RepL.dp t)
end
mutual
theorem Tr.dp {K : PySem.W.Frag} : ∀ {v : V} {x : Val} {fp : List Addr}, Tr K H Z v x fp → Dp K H v x.fz
  | _, _, _, .d r => r.dp
  | _, _, _, .ol e e1 e2 t => by
    subst e1; subst e2
    rw [Val.fz]
    exact .lst (.inl (.inl e)) (TrL.dp t)
theorem TrL.dp {K : PySem.W.Frag} : ∀ {ps : List (V × Val)} {fp : List Addr}, TrL K H Z ps fp → DpAll K H (ps.map Prod.fst) (Val.fzL (ps.map Prod.snd))
  | _, _, .nil => .nil
  | _, _, .cons r t => .cons (Tr.dp r) (TrL.dp t)
end
theorem View.dp {v : Val} (w : View B H Z x v) : Dp B.K H x v.fz := by obtain ⟨f, t⟩ := w; exact t.dp
end

section
variable {B : Bs} {H : Hp} {P : List (V × Val)} {Z : Addr → Prop} {fp : List Addr}
theorem OwnZ.own (o : OwnZ B H P Z fp) : Own B H P := ⟨Z, fp, o⟩
theorem OwnZ.addR {x : V} {y : PyData} (o : OwnZ B H P Z fp) (r : Rep B.K H Z x y) : Own B H ((x, .d y) :: P) := ⟨Z, fp, Own.addD o r⟩
end

section
variable {X : Cx}
/-! ### ints -/
def int2 (C : Int → Int → Bool) (g : Int → Int → Int) : Val → Val → Option Val
  | .d (.int i), .d (.int j) => if C i j then some (.d (.int (g i j))) else none
  | _, _ => none
def cmp2 (g : Int → Int → Bool) : Val → Val → Option Val
  | .d (.int i), .d (.int j) => some (.d (.bool (g i j)))
  | _, _ => none
theorem int2_some {C : Int → Int → Bool} {g : Int → Int → Int} {a b z : Val} (h : int2 C g a b = some z) : ∃ i j, a = .d (.int i) ∧ b = .d (.int j) ∧ C i j = true ∧ z = .d (.int (g i j)) := by
  unfold int2 at h
  split at h
  · rename_i i j
    split at h
    · rename_i hc; cases h; exact ⟨i, j, rfl, rfl, hc, rfl⟩
    · cases h
  · cases h
theorem int2_ok {gg : Value → Value → Sem Value} {C' : Int → Int → Prop} {C : Int → Int → Bool} {g : Int → Int → Int} (h : OpR X gg (rI C' fun i j => .int (g i j))) (hc : ∀ i j, C i j = true → C' i j) : OpOk X gg (int2 C g) :=
  OpOk.of h fun x y H B P Z fp a b z hk o va vb e => by
    obtain ⟨i, j, rfl, rfl, c, rfl⟩ := int2_some e
    exact ⟨i, j, va.int, vb.int, hc i j c, o.addR (.int _)⟩
theorem int2_ok0 {gg : Value → Value → Sem Value} {g : Int → Int → Int} (h : OpR X gg (rI0 fun i j => .int (g i j))) : OpOk X gg (int2 (fun _ _ => true) g) :=
  OpOk.of h fun x y H B P Z fp a b z hk o va vb e => by
    obtain ⟨i, j, rfl, rfl, c, rfl⟩ := int2_some e
    exact ⟨i, j, va.int, vb.int, o.addR (.int _)⟩
theorem cmp2_ok {gg : Value → Value → Sem Value} {g : Int → Int → Bool} (h : OpR X gg (rI0 fun i j => .bl (g i j))) : OpOk X gg (cmp2 g) :=
  OpOk.of h fun x y H B P Z fp a b z hk o va vb e => by
    unfold cmp2 at e
    split at e
    · rename_i i j; cases e; exact ⟨i, j, va.int, vb.int, o.addR (.bl _)⟩
    · cases e
def subV := int2 (fun _ _ => true) (fun i j => i - j)
def mulC (i j : Int) : Bool := decide ((-(2 ^ 64) < i ∧ i < 2 ^ 64) ∨ (-(2 ^ 64) < j ∧ j < 2 ^ 64))
def mulV := int2 mulC (fun i j => i * j)
def divC (_ j : Int) : Bool := decide (0 < j ∧ j < 2 ^ 1000)
def fdivV := int2 divC (fun i j => i / j)
def modC (_ j : Int) : Bool := decide (0 < j)
def modV := int2 modC (fun i j => i % j)
def shrC (_ j : Int) : Bool := decide (0 ≤ j)
def shrV := int2 shrC (fun i j => i / 2 ^ j.toNat)
def andV := int2 (fun _ _ => true) Builtin.bitAnd
def powC (i j : Int) : Bool := decide (0 ≤ j ∧ j ≤ 1000000 ∧ i.natAbs < 2 ^ 64)
def powV := int2 powC (fun i j => i ^ j.toNat)
theorem sub_ok : OpOk X (binaryOp .Sub) subV := int2_ok0 op_sub
theorem isub_ok : OpOk X (inplaceOp .Sub) subV := int2_ok0 iop_sub
theorem mul_ok : OpOk X (binaryOp .Mult) mulV := int2_ok op_mul fun i j h => by
  have h' := of_decide_eq_true (show decide ((-(2 ^ 64) < i ∧ i < 2 ^ 64) ∨ (-(2 ^ 64) < j ∧ j < 2 ^ 64)) = true from h)
  exact h'
theorem fdiv_ok : OpOk X (binaryOp .FloorDiv) fdivV := int2_ok op_fdivW fun i j h => by
  obtain ⟨h0, h1⟩ := of_decide_eq_true h
  exact wide_div h0 (b := 1000) (by omega) (by decide) (by decide)
theorem mod_ok : OpOk X (binaryOp .Mod) modV := int2_ok op_mod fun _ _ h => of_decide_eq_true h
theorem shr_ok : OpOk X (binaryOp .RShift) shrV := int2_ok op_shr fun _ _ h => of_decide_eq_true h
theorem ishr_ok : OpOk X (inplaceOp .RShift) shrV := int2_ok iop_shr fun _ _ h => of_decide_eq_true h
theorem and_ok : OpOk X (binaryOp .BitAnd) andV := int2_ok0 op_and
theorem pow_ok : OpOk X (binaryOp .Pow) powV := int2_ok op_pow fun i j h => by
  have h' := of_decide_eq_true (show decide (0 ≤ j ∧ j ≤ 1000000 ∧ i.natAbs < 2 ^ 64) = true from h)
  exact h'
def ltV := cmp2 fun i j => decide (i < j)
def leV := cmp2 fun i j => decide (i ≤ j)
def gtV := cmp2 fun i j => decide (j < i)
def geV := cmp2 fun i j => decide (j ≤ i)
theorem lt_ok : OpOk X (compareOp .Lt) ltV := cmp2_ok op_lt
theorem le_ok : OpOk X (compareOp .LtE) leV := cmp2_ok op_le
theorem gt_ok : OpOk X (compareOp .Gt) gtV := cmp2_ok op_gt
theorem ge_ok : OpOk X (compareOp .GtE) geV := cmp2_ok op_ge
def negV : Val → Option Val
  | .d (.int i) => some (.d (.int (-i)))
  | _ => none
theorem neg_ok : UnOk X (unaryOp .USub) negV := UnOk.of un_neg fun x H B P Z fp a z hk o va e => by
  unfold negV at e
  split at e
  · rename_i i; cases e; exact ⟨i, va.int, o.addR (.int _)⟩
  · cases e

/-! ### == -/
def eqV (a b : Val) : Option Val := if SeqAt.shaped a.fz && SeqAt.shaped b.fz then some (.d (.bool (PyData.eqv a.fz b.fz))) else none
def neV (a b : Val) : Option Val := if SeqAt.shaped a.fz && SeqAt.shaped b.fz then some (.d (.bool (!PyData.eqv a.fz b.fz))) else none
theorem eq_ok (hu : X.A.units + 64 < cLine) : OpOk X (compareOp .Eq) eqV := OpOk.of (op_eqD hu) fun x y H B P Z fp a b z hk o va vb e => by
  unfold eqV at e
  split at e
  · rename_i hs
    cases e
    obtain ⟨h1, h2⟩ := Bool.and_eq_true_iff.mp hs
    exact ⟨_, _, hk ▸ va.dp, hk ▸ vb.dp, h1, h2, o.addR (.bl _)⟩
  · cases e
theorem ne_ok (hu : X.A.units + 64 < cLine) : OpOk X (compareOp .NotEq) neV := OpOk.of (op_neD hu) fun x y H B P Z fp a b z hk o va vb e => by
  unfold neV at e
  split at e
  · rename_i hs
    cases e
    obtain ⟨h1, h2⟩ := Bool.and_eq_true_iff.mp hs
    exact ⟨_, _, hk ▸ va.dp, hk ▸ vb.dp, h1, h2, o.addR (.bl _)⟩
  · cases e
/-! ### + -/
def addI : Val → Val → Option Val := int2 (fun _ _ => true) (fun i j => i + j)
def addS : Val → Val → Option Val
  | .d (.str a), .d (.str b) => if a.length + b.length ≤ sizeLine then some (.d (.str (a ++ b))) else none
  | _, _ => none
def addT : Val → Val → Option Val
  | .d (.tuple a), .d (.tuple b) => if a.length + b.length ≤ sizeLine then some (.d (.tuple (a ++ b))) else none
  | _, _ => none
/-- two owned lists of data: a new one -/
def addL : Val → Val → Option Val
  | .ol xs, .ol ys => (allD xs).bind fun a => (allD ys).bind fun b => if a.length + b.length ≤ sizeLine then some (.ol ((a ++ b).map Val.d)) else none
  | _, _ => none
def addV (a b : Val) : Option Val := (addI a b).or ((addS a b).or ((addT a b).or (addL a b)))
theorem addS_ok : OpOk X (binaryOp .Add) addS := OpOk.of op_add_str fun x y H B P Z fp a b z hk o va vb e => by
  unfold addS at e
  split at e
  · split at e
    · rename_i hl; cases e; exact ⟨_, _, va.str, vb.str, hl, o.addR (.str _)⟩
    · cases e
  · cases e
theorem RepL.nil_iff {K : PySem.W.Frag} {H : Hp} {Z : Addr → Prop} {vs : List V} {ds : List PyData} (r : RepL K H Z vs ds) : vs = [] ↔ ds = [] := by
  cases r <;> simp
theorem addT_ok : OpOk X (binaryOp .Add) addT := OpOk.of op_catA fun x y H B P Z fp a b z hk o va vb e => by
  unfold addT at e
  split at e
  · rename_i ds es
    split at e
    · rename_i hl
      cases e
      obtain ⟨p, vs, rfl, h1, r1⟩ := va.tup
      obtain ⟨q, ws, rfl, h2, r2⟩ := vb.tup
      refine ⟨p, q, vs, ws, rfl, rfl, hk ▸ h1, hk ▸ h2, by rw [r1.length, r2.length]; exact hl, fun n => ?_, fun n m => ?_, fun n m t ht => ?_⟩
      · have := r1.nil_iff.mp n
        subst this
        exact o.addR vb.rep
      · have := r2.nil_iff.mp m
        subst this
        rw [List.append_nil]
        exact o.addR va.rep
      · exact (o.tup (r1.append r2) ht).own
    · cases e
  · cases e
theorem addL_ok : OpOk X (binaryOp .Add) addL := OpOk.of op_cat fun x y H B P Z fp a b z hk o va vb e => by
  unfold addL at e
  split at e
  · rename_i xs ys
    cases e1 : allD xs with
    | none => rw [e1] at e; cases e
    | some ds =>
      cases e2 : allD ys with
      | none => rw [e1, e2] at e; cases e
      | some es =>
        rw [e1, e2] at e
        have e' : (if ds.length + es.length ≤ sizeLine then some (Val.ol ((ds ++ es).map Val.d)) else none) = some z := e
        split at e'
        · rename_i hl
          cases e'
          obtain ⟨p, vs, ps, f, rfl, h2, h3, h4, t⟩ := va.ol
          obtain ⟨q, ws, qs, g, rfl, k2, k3, k4, u⟩ := vb.ol
          have r1 : RepL B.K H Z vs ds := by rw [h3]; exact t.repD (by rw [← h4]; exact allD_some e1)
          have r2 : RepL B.K H Z ws es := by rw [k3]; exact u.repD (by rw [← k4]; exact allD_some e2)
          exact ⟨p, q, vs, ws, rfl, rfl, h2, k2, by rw [r1.length, r2.length]; exact hl, fun t ht => o.lstD (r1.append r2) ht⟩
        · cases e'
  · cases e
theorem add_ok : OpOk X (binaryOp .Add) addV := OpOk.or (int2_ok0 op_add) (OpOk.or addS_ok (OpOk.or addT_ok addL_ok))
theorem iaddI_ok : OpOk X (inplaceOp .Add) addI := int2_ok0 iop_add
end
end Nv

set_option Elab.async false
set_option linter.all false
set_option maxRecDepth 100000
set_option maxHeartbeats 1000000
/-! The data layer, part 5: subscripts, slices, displays, calls of built-in functions. -/
namespace PySem
namespace NvT
open PySem PyProof.Rows HT
section
variable {prog : Program} {w : World} {A : Around} {E : Value → Shared → Prop} {s : Shared}
theorem sliceApplied_rev {sl : Addr} {vl vu vs : Value} {n : Nat} {Q : Int × Int × Nat → Shared → Prop} (hs : s.heap.IsSliceOf sl vl vu vs) (pl : IsPart vl none) (pu : IsPart vu none) (ps : IsPart vs (some (-1)))
    (h : Q ((n : Int) - 1, -1, n) s) : wpAny (model prog w) A (Builtin.Slice.sliceApplied (.ref sl) (pure (n : Int))) Q E s := by
  obtain ⟨os, hos, hcs, hds⟩ := id hs
  unfold Builtin.Slice.sliceApplied Builtin.Slice.sliceFields
  refine wpAny_bind (wpAny_bind (wpAny_field hos hds (x := vl) rfl (wpAny_bind (wpAny_field hos hds (x := vu) rfl (wpAny_bind (wpAny_field hos hds (x := vs) rfl (wpAny_pure ?_)))))))
  refine wpAny_bind (slicePart_ ps ?_)
  show wpAny _ _ (if ((-1 : Int) == 0) = true then _ else _) _ _ s
  rw [if_neg (by decide)]
  refine wpAny_bind (slicePart_ pl (wpAny_bind (slicePart_ pu (wpAny_bind (wpAny_pure ?_)))))
  have e1 : Builtin.Slice.sliceAdjust none none (-1) (n : Int) = ((n : Int) - 1, -1) := rfl
  have e2 : Builtin.Slice.slicePlaces ((n : Int) - 1) (-1) (-1) = n := by
    unfold Builtin.Slice.slicePlaces
    rw [if_neg (by decide)]
    by_cases h : (n : Int) - 1 > -1
    · rw [if_pos h, show (- -1 : Int) = 1 by decide, Int.ediv_one]; omega
    · rw [if_neg h]; omega
  show wpAny _ _ (match Builtin.Slice.sliceAdjust none none (-1) (n : Int) with | (lo, hi) => pure (lo, (-1 : Int), Builtin.Slice.slicePlaces lo hi (-1))) _ _ s
  rw [e1]
  show wpAny _ _ (pure ((n : Int) - 1, (-1 : Int), Builtin.Slice.slicePlaces ((n : Int) - 1) (-1) (-1))) _ _ s
  rw [e2]
  exact wpAny_pure h
theorem fm_congr {α β : Type} {f g : α → Option β} : ∀ {l : List α}, (∀ a ∈ l, f a = g a) → l.filterMap f = l.filterMap g
  | [], _ => rfl
  | a :: l, h => by
    rw [List.filterMap_cons, List.filterMap_cons, h a List.mem_cons_self, fm_congr fun b hb => h b (List.mem_cons_of_mem _ hb)]
theorem pick_rev (xs : Array Value) : ((List.range xs.size).filterMap fun (m : Nat) => xs[(((xs.size : Int) - 1) + (m : Int) * (-1)).toNat]?).toArray = xs.toList.reverse.toArray := by
  have e : (List.range xs.size).filterMap (fun (m : Nat) => xs[(((xs.size : Int) - 1) + (m : Int) * (-1)).toNat]?) = ((List.range xs.size).map fun k => xs.size - 1 - k).filterMap (xs[·]?) := by
    rw [List.filterMap_map]
    refine fm_congr fun m hm => ?_
    have hm := List.mem_range.mp hm
    show _ = xs[xs.size - 1 - m]?
    have q : (((xs.size : Int) - 1) + (m : Int) * (-1)).toNat = xs.size - 1 - m := by omega
    rw [q]
  rw [e, PySem.W.krv_range, List.filterMap_reverse, PySem.W.krv_all]
theorem getItem_tuple_rev {t sl : Addr} {items : Array Value} {vl vu vs : Value} {Q : Value → Shared → Prop} (ht : IsTup s.heap t items) (hs : s.heap.IsSliceOf sl vl vu vs) (pl : IsPart vl none) (pu : IsPart vu none) (ps : IsPart vs (some (-1)))
    (h : Q (.ref s.heap.objs.size) { s with heap := s.heap.push { cls := .type "tuple", data := .seq items.toList.reverse.toArray } })
    (hsz : items.size ≤ sizeLine) : wpAny (model prog w) A (getItem (.ref t) (.ref sl)) Q E s := by
  have htake : sizeOk (.seq items.toList.reverse.toArray) := by
    show items.toList.reverse.toArray.size ≤ sizeLine
    rw [List.size_toArray, List.length_reverse, Array.length_toList]
    exact hsz
  obtain ⟨os, hos, hcs, hds⟩ := id hs
  have hTs : s.TypeIs (.ref sl) "slice" := ⟨os, hos, hcs⟩
  unfold getItem
  try with_reducible refine wpAny_holding ?_
  first | refine wpAny_bind (wpAny_pure ?_) | skip
  refine wpAny_bind (wpAny_sequenceKey ht.typeIs (by decide) ?_)
  refine wpAny_bind (wpAny_callSpecial?_slot (name := Str.ofString "__getitem__") ht.typeIs PyProof.Rows.slot_tuple_getitem
    (wpAny_call_entry PyProof.Rows.slot_tuple_getitem ht.typeIs entry_tuple_getitem ?_ (args_tuple_getitem _ _)))
  show wpAny _ _ (Builtin.Tuple.tupleItemsOf (.ref t) >>= _) _ _ s
  refine wpAny_bind (tupleItemsOf_ ht ?_)
  refine wpAny_bind (wpAny_typeOf hTs ?_)
  rw [if_pos (by decide)]
  refine wpAny_bind (sliceApplied_rev (n := items.size) hs pl pu ps ?_)
  show wpAny _ _ (if ((((items.size : Int) - 1) : Int) == 0 && (-1 : Int) == 1 && items.size == items.size) = true then _ else _) _ _ s
  rw [if_neg (by rw [show ((-1 : Int) == 1) = false by decide, Bool.and_false, Bool.false_and]; exact Bool.false_ne_true), pick_rev]
  first
    | exact wpAny_bind (m := Builtin.Tuple.tupleExact _) (wpAny_newObj_type (wpAny_pure ⟨_, rfl, wpAny_pure h⟩) htake)
    | exact wpAny_bind (m := Builtin.Tuple.tupleExact _) (wpAny_newObj_type (wpAny_bind (wpAny_pure (wpAny_pure ⟨_, rfl, wpAny_pure h⟩))) htake)
    | exact wpAny_bind (wpAny_bind (m := Builtin.Tuple.tupleExact _) (wpAny_newObj_type (wpAny_pure (wpAny_pure ⟨_, rfl, wpAny_pure h⟩)) htake))
    | exact wpAny_bind (wpAny_bind (m := Builtin.Tuple.tupleExact _) (wpAny_newObj_type (wpAny_pure ⟨_, rfl, wpAny_pure h⟩) htake))
end
end NvT
end PySem

namespace L2
open PySem PySem.Spec PyProof.Rows
/-- t[::-1] of a list, a tuple -/
def tRevA (K : PySem.W.Frag) (te : TE) : TE := fun σ H Q => te σ H fun x H1 => (∃ a xs, x = .ref a ∧ SqL K H1 a xs ∧ ∀ p, H1 p = none → Q (.ref p) (upd H1 p (.lst xs.reverse))) ∨ ∃ a xs, x = .ref a ∧ SqT K H1 a xs ∧ ∀ p, H1 p = none → Q (.ref p) (upd H1 p (.tup xs.reverse))
theorem pe_revA {X : Cx} {e : Expr} {te : TE} {k : Nat} {p1 p2 p3 pos : Pos} (he : PE X e te) : PE X (.Subscript e (.Slice none none (some (.UnaryOp .USub (.Constant (.int 1) k p1) p2)) p3) pos) (tRevA X.K te) := by
  refine ⟨fun pins s σ H Q I h => ?_⟩
  refine Subscript_ (thn (he.run pins s σ H _ I h) fun v s1 ⟨x, H1, I1, r1, q1⟩ => ?_)
  have hst : PO X (some (.UnaryOp .USub (.Constant (.int 1) k p1) p2)) (tPart (tUn (rU fun i => .int (-i)) (tC (.int 1)))) := po_some (pe_un un_neg pe_int)
  refine wpAny_Slice (thn (po_none.run pins s1 σ H1 (fun o H2 => o = none ∧ H2 = H1) I1 ⟨rfl, rfl⟩) fun vl s2 ⟨l, H2, I2, pl, el, e2⟩ => ?_)
  subst el e2
  refine thn (po_none.run pins s2 σ H2 (fun o H3 => o = none ∧ H3 = H2) I2 ⟨rfl, rfl⟩) fun vu s3 ⟨u, H3, I3, pu, eu, e3⟩ => ?_
  subst eu e3
  refine thn (hst.run pins s3 σ H3 (fun o H4 => o = some (-1) ∧ H4 = H3) I3 ⟨1, rfl, -1, rfl, rfl, rfl⟩) fun vs s4 ⟨o, H4, I4, ps, eo, e4⟩ => ?_
  subst eo e4
  have I5 : Inv X pins σ H4 { s4 with heap := s4.heap.push { cls := .type "slice", data := .fields #[vl, vu, vs] } } := I4.kept (t' := s4.toks) fun b ob q => Heap.get?_push_of_some _ q
  rcases q1 with ⟨a, xs, ex, hx, q⟩ | ⟨a, xs, ex, hx, q⟩
  · subst ex
    cases r1
    obtain ⟨its, r, ht, hz⟩ := I5.list hx
    have hlen := r.length
    show wpAny (model X.prog X.w) X.A (subscriptTail e (.Slice none none (some (.UnaryOp .USub (.Constant (.int 1) k p1) p2)) p3) (.ref a) (.ref s4.heap.objs.size)) (EP X pins σ Q) X.xe { s4 with heap := s4.heap.push { cls := .type "slice", data := .fields #[vl, vu, vs] } }
    refine tail_any (ops := [.ref a, .ref s4.heap.objs.size]) ht.isList.typeIs (PySem.slot_list_getitem.lookup) ?_ (by with_unfolding_all rfl)
    refine wpAny_getItem_list_slice ht.isList (Heap.IsSliceOf.new _ vl vu vs) pl pu ps (by decide) ?_ (by rw [List.size_toArray]; omega)
    rw [PySem.W.krv_pick]
    refine ⟨.ref _, _, I5.laid (t' := s4.toks) (o := .lst xs.reverse) (fun b ob q => Heap.get?_push_of_some _ q) (Nat.le_refl _) ?_, rfl, q _ (I5.hok.fresh (Nat.le_refl _))⟩
    exact ⟨by rw [List.length_reverse]; exact hz, _, 0, r.reverse, Heap.get?_push_size _ rfl⟩
  · subst ex
    cases r1
    obtain ⟨its, r, ht, hz⟩ := I5.tuple hx
    have hlen := r.length
    show wpAny (model X.prog X.w) X.A (subscriptTail e (.Slice none none (some (.UnaryOp .USub (.Constant (.int 1) k p1) p2)) p3) (.ref a) (.ref s4.heap.objs.size)) (EP X pins σ Q) X.xe { s4 with heap := s4.heap.push { cls := .type "slice", data := .fields #[vl, vu, vs] } }
    refine tail_any (ops := [.ref a, .ref s4.heap.objs.size]) ht.typeIs (PyProof.Rows.slot_tuple_getitem.lookup) ?_ (by with_unfolding_all rfl)
    refine PySem.NvT.getItem_tuple_rev ht (Heap.IsSliceOf.new _ vl vu vs) pl pu ps ?_ (by rw [List.size_toArray]; omega)
    refine ⟨.ref _, _, I5.laid (t' := s4.toks) (o := .tup xs.reverse) (fun b ob q => Heap.get?_push_of_some _ q) (Nat.le_refl _) ?_, rfl, q _ (I5.hok.fresh (Nat.le_refl _))⟩
    exact ⟨by rw [List.length_reverse]; exact hz, its.reverse, r.reverse, IsTup.new _ _⟩
end L2

namespace Nv
open PySem PySem.Spec PyProof.Rows L2
variable [Tbs]
/-! ### subscripts -/
/-- x[i] -/
def idxV : Val → Val → Option Val
  | .d (.list ds), .d (.int i) => (atI ds i).map Val.d
  | .d (.tuple ds), .d (.int i) => (atI ds i).map Val.d
  | .d (.str z), .d (.int i) => if z.length ≤ sizeLine then (atI z.cps.toList i).map fun c => Val.d (.str ⟨#[c]⟩) else none
  | .ol xs, .d (.int i) => match atI xs i with
    | some (.d y) => some (.d y)
    | _ => none
  | _, _ => none
def IxOk (X : Cx) (f : Val → Val → Option Val) : Prop := IxR X (rD2 X.K f)
theorem atI_rep {K : PySem.W.Frag} {H : Hp} {Z : Addr → Prop} {vs : List V} {ds : List PyData} {i : Int} {d : PyData} (r : RepL K H Z vs ds) (h : atI ds i = some d) : ∃ v, atI vs i = some v ∧ Rep K H Z v d := by
  unfold atI at h ⊢
  rw [r.length]
  cases e : ixN ds.length i with
  | none => rw [e] at h; cases h
  | some j =>
    rw [e] at h
    obtain ⟨v, h1, h2⟩ := r.get h
    exact ⟨v, h1, h2⟩
theorem TrL.get {K : PySem.W.Frag} {H : Hp} {Z : Addr → Prop} : ∀ {ps : List (V × Val)} {fp : List Addr} {j : Nat} {y : Val}, TrL K H Z ps fp → (ps.map Prod.snd)[j]? = some y → ∃ v f, (ps.map Prod.fst)[j]? = some v ∧ Tr K H Z v y f
  | _, _, j, _, .nil, h => by simp at h
  | _, _, 0, _, .cons r _, h => by simp at h; subst h; exact ⟨_, _, rfl, r⟩
  | _, _, j + 1, y, .cons r t, h => by
    obtain ⟨v, f, h1, h2⟩ := TrL.get (j := j) (y := y) t (by simpa using h)
    exact ⟨v, f, by simpa using h1, h2⟩
theorem atI_tr {K : PySem.W.Frag} {H : Hp} {Z : Addr → Prop} {ps : List (V × Val)} {fp : List Addr} {i : Int} {y : Val} (t : TrL K H Z ps fp) (h : atI (ps.map Prod.snd) i = some y) : ∃ v f, atI (ps.map Prod.fst) i = some v ∧ Tr K H Z v y f := by
  unfold atI at h ⊢
  rw [List.length_map] at h ⊢
  cases e : ixN ps.length i with
  | none => rw [e] at h; cases h
  | some j =>
    rw [e] at h
    exact t.get h
section
variable {X : Cx}
theorem idx_ok : IxOk X idxV := by
  intro value slice pins s σ H x y v u Q I rx ry h hs
  obtain ⟨B, P, Z, fp, a, b, z, hk, o, va, vb, e, q⟩ := h
  unfold idxV at e
  split at e
  · rename_i ds i
    cases e1 : atI ds i with
    | none => rw [e1] at e; cases e
    | some d =>
      rw [e1] at e; cases e
      obtain ⟨p, vs, rfl, h1, r⟩ := va.list
      obtain ⟨w, h2, r2⟩ := atI_rep r e1
      exact ix_list value slice pins s σ H _ _ v u Q I rx ry ⟨p, vs, i, w, rfl, vb.int, hk ▸ h1, h2, q w H (o.addR r2)⟩ hs
  · rename_i ds i
    cases e1 : atI ds i with
    | none => rw [e1] at e; cases e
    | some d =>
      rw [e1] at e; cases e
      obtain ⟨p, vs, rfl, h1, r⟩ := va.tup
      obtain ⟨w, h2, r2⟩ := atI_rep r e1
      exact ix_tup value slice pins s σ H _ _ v u Q I rx ry ⟨p, vs, i, w, rfl, vb.int, hk ▸ h1, h2, q w H (o.addR r2)⟩ hs
  · rename_i zz i
    split at e
    · rename_i hl
      cases e1 : atI zz.cps.toList i with
      | none => rw [e1] at e; cases e
      | some c =>
        rw [e1] at e; cases e
        exact ix_str value slice pins s σ H _ _ v u Q I rx ry ⟨zz, i, c, va.str, vb.int, hl, e1, q _ H (o.addR (.str _))⟩ hs
    · cases e
  · rename_i xs i
    split at e
    · rename_i d e1
      cases e
      obtain ⟨p, vs, ps, f, rfl, h2, h3, h4, t⟩ := va.ol
      subst h3; subst h4
      obtain ⟨w, g, h5, r⟩ := atI_tr t e1
      exact ix_list value slice pins s σ H _ _ v u Q I rx ry ⟨p, _, i, w, rfl, vb.int, SqL.of h2, h5, q w H (o.addR r.d_inv.2)⟩ hs
    · cases e
  · cases e
variable {a b e : Expr} {ta tb te : ES} {pos p2 : Pos}
theorem de_ix (ha : DE X a ta) (hb : DE X b tb) (hs : PlainIx b) : DE X (.Subscript a b pos) (op2 idxV ta tb) :=
  ⟨fun B W c => PE_weak (pe_ix idx_ok (ha.run B W c) (hb.run B W c) hs) fun _ _ _ h => tD_op2 c.k h⟩

/-! ### slices -/
def cutA {α : Type} (xs : List α) (lo hi : Option Int) : List α := (xs.drop (HT.sIx xs.length 0 lo)).take (HT.sIx xs.length xs.length hi - HT.sIx xs.length 0 lo)
/-- a tuple's part -/
def slT (lo hi : Option Int) : Val → Option Val
  | .d (.tuple ds) => some (.d (.tuple (cutA ds lo hi)))
  | _ => none
/-- a list's: a new list -/
def slL (lo hi : Option Int) (v : Val) : Option Val := (lstD v).map fun ds => .ol ((cutA ds lo hi).map Val.d)
def slV (lo hi : Option Int) (v : Val) : Option Val := (slT lo hi v).or (slL lo hi v)
theorem RepL.cut {K : PySem.W.Frag} {H : Hp} {Z : Addr → Prop} {vs : List V} {ds : List PyData} (r : RepL K H Z vs ds) (lo hi : Option Int) : RepL K H Z (cutV vs lo hi) (cutA ds lo hi) := by
  unfold cutV cutA
  rw [r.length]
  exact (r.drop _).take _
theorem cutA_all {α : Type} {xs : List α} {lo hi : Option Int} (h : HT.sIx xs.length 0 lo = 0 ∧ HT.sIx xs.length xs.length hi = xs.length) : cutA xs lo hi = xs := by
  unfold cutA
  rw [h.1, h.2]
  simp
def rDS (K : PySem.W.Frag) : V → Option Int → Option Int → Hp → VK → Prop := fun x lo hi H Q => ∃ B P Z fp a z, B.K = K ∧ OwnZ B H P Z fp ∧ View B H Z x a ∧ slV lo hi a = some z ∧ ∀ zv H', Own B H' ((zv, z) :: P) → Q zv H'
theorem sl_ok : SlR X (rDS X.K) := by
  intro pins s σ H x v vl vu lo hi sl Q I rx hs pl pu h
  obtain ⟨B, P, Z, fp, a, z, hk, o, va, e, q⟩ := h
  unfold slV at e
  cases e1 : slT lo hi a with
  | some z' =>
    rw [e1] at e; cases e
    unfold slT at e1
    split at e1
    · rename_i ds
      cases e1
      obtain ⟨p, vs, rfl, h1, r⟩ := va.tup
      refine sl_tupA pins s σ H _ v vl vu lo hi sl Q I rx hs pl pu ⟨p, vs, rfl, hk ▸ h1, fun w => ?_, fun w t ht => q _ _ (o.tup (r.cut lo hi) ht).own⟩
      rw [r.length] at w
      rw [cutA_all w] at q
      exact q _ _ (o.addR va.rep)
    · cases e1
  | none =>
    rw [e1] at e
    have e' : slL lo hi a = some z := e
    unfold slL at e'
    cases e2 : lstD a with
    | none => rw [e2] at e'; cases e'
    | some ds =>
      rw [e2] at e'; cases e'
      obtain ⟨p, vs, rfl, h1, r⟩ := va.lst e2
      exact sl_list pins s σ H _ v vl vu lo hi sl Q I rx hs pl pu ⟨p, vs, rfl, hk ▸ h1, fun t ht => q _ _ (o.lstD (r.cut lo hi) ht)⟩
structure DO (X : Cx) (e : Option Expr) (t : M (Option Int)) : Prop where
  run : ∀ B W, Cg X B W → PO X e (tDT X.mg B W t)
def noP : M (Option Int) := M.pure none
def asI (t : ES) : M (Option Int) := M.bind t fun r δ => match r.get δ with
  | some (.d (.int k)) => some (.ok (some k), δ)
  | _ => none
theorem do_none : DO X none noP := ⟨fun B W c => ⟨fun pins s σ H Q I ⟨δ, L, s', q⟩ => po_none.run pins s σ H Q I (q H s')⟩⟩
theorem tD_asI {mg : Str → Option Value} {B : Bs} {W : WX} {σ : L2.St} {H : Hp} {Q : Option Int → Hp → Prop} {t : ES} (h : tDT mg B W (asI t) σ H Q) : tD mg B W t σ H fun x H' => ∃ k, x = .int k ∧ Q (some k) H' := by
  obtain ⟨δ, L, s, q⟩ := h
  refine tD_next (M' := []) knT s q fun x H1 r δ s q => ?_
  obtain ⟨Z, fp, o, vw⟩ := SR.open (M' := [(x, r)]) s
  cases e : r.get δ with
  | none => simp only [e] at q; exact q.elim
  | some v =>
    cases v with
    | ol _ => simp only [e] at q; exact q.elim
    | d y =>
      cases y with
      | int k =>
        simp only [e] at q
        exact ⟨k, (vw x r _ List.mem_cons_self e).int, q H1 s.drop1⟩
      | _ => simp only [e] at q; exact q.elim
theorem do_some (h : DE X e te) : DO X (some e) (asI te) := ⟨fun B W c => ⟨fun pins s σ H Q I q => (po_some (h.run B W c)).run pins s σ H Q I (tD_asI q)⟩⟩
def slS (te : ES) (tl th : M (Option Int)) : ES := M.bind te fun r => M.bind tl fun lo => M.bind th fun hi δ => fin ((r.get δ).bind (slV lo hi)) δ
theorem de_slice {lo hi : Option Expr} {tl th : M (Option Int)} (he : DE X e te) (hl : DO X lo tl) (hh : DO X hi th) : DE X (.Subscript e (.Slice lo hi none p2) pos) (slS te tl th) :=
  ⟨fun B W c => PE_weak (pe_slice sl_ok (he.run B W c) (hl.run B W c) (hh.run B W c)) fun σ H Q ⟨δ, L, s, q⟩ => by
    refine tD_next (M' := []) knE s q fun x H1 r δ s q => ?_
    refine tDT_next (M' := [(x, r)]) knE s q fun H2 lo δ s q => ?_
    refine tDT_next (M' := [(x, r)]) knE s q fun H3 hi δ s q => ?_
    obtain ⟨z, e⟩ := fin_has q
    cases e1 : r.get δ with
    | none => rw [e1] at e; cases e
    | some v =>
      obtain ⟨Z, fp, o, vw⟩ := SR.open (M' := [(x, r)]) s
      refine ⟨B, _, Z, fp, v, z, c.k, o, vw x r v List.mem_cons_self e1, ?_, fin_end (M' := [(x, r)]) e s q⟩
      rw [e1] at e; exact e⟩
/-- x[::-1] -/
def revV : Val → Option Val
  | .d (.tuple ds) => some (.d (.tuple ds.reverse))
  | v => (lstD v).map fun ds => .ol (ds.reverse.map Val.d)
theorem de_rev {k : Nat} {p1 p3 : Pos} (he : DE X e te) : DE X (.Subscript e (.Slice none none (some (.UnaryOp .USub (.Constant (.int 1) k p1) p2)) p3) pos) (op1 revV te) :=
  ⟨fun B W c => PE_weak (pe_revA (he.run B W c)) fun σ H Q ⟨δ, L, s, q⟩ => by
    refine tD_next (M' := []) knE s q fun x H1 r δ s q => ?_
    obtain ⟨z, e⟩ := fin_has q
    cases e1 : r.get δ with
    | none => rw [e1] at e; cases e
    | some v =>
      obtain ⟨Z, fp, o, vw⟩ := SR.open (M' := [(x, r)]) s
      have va := vw x r v List.mem_cons_self e1
      have g := fin_end (M' := [(x, r)]) e s q
      rw [e1] at e
      have e' : revV v = some z := e
      unfold revV at e'
      split at e'
      · cases e'
        obtain ⟨p, vs, rfl, h1, r⟩ := va.tup
        exact .inr ⟨p, vs, rfl, c.k ▸ h1, fun t ht => g _ _ (o.tup r.reverse ht).own⟩
      · cases e2 : lstD v with
        | none => rw [e2] at e'; cases e'
        | some ds =>
          rw [e2] at e'; cases e'
          obtain ⟨p, vs, rfl, h1, r⟩ := va.lst e2
          exact .inl ⟨p, vs, rfl, c.k ▸ h1, fun t ht => g _ _ (o.lstD r.reverse ht)⟩⟩
end
end Nv

set_option Elab.async false
set_option linter.all false
set_option maxRecDepth 100000
set_option maxHeartbeats 1000000
/-! The data layer, part 6: argument lists, displays, calls of built-in functions. -/
namespace Nv
open PySem PySem.Spec PyProof.Rows L2
variable [Tbs]
def tmD (d : PyData) : Rs := .tm (.d d)
theorem tms_data : ∀ (vs : List V) (ds : List PyData), tms (vs.zip (ds.map tmD)) = vs.zip (ds.map Val.d)
  | [], _ => by simp [tms]
  | _ :: _, [] => by simp [tms]
  | v :: vs, d :: ds => by
    rw [List.map_cons, List.map_cons, List.zip_cons_cons, List.zip_cons_cons]
    show (v, Val.d d) :: tms (vs.zip (ds.map tmD)) = _
    rw [tms_data vs ds]
section
variable {B : Bs} {σ : L2.St} {δ : Sl} {L : List (V × Rs)} {H H' : Hp} {P : List (V × Val)} {Z : Addr → Prop} {fp : List Addr}
theorem OwnZ.addRL : ∀ {vs : List V} {ds : List PyData}, RepL B.K H Z vs ds → OwnZ B H P Z fp → OwnZ B H (vs.zip (ds.map Val.d) ++ P) Z fp
  | _, _, .nil, o => o
  | _, _, .cons r t, o => Own.addD (OwnZ.addRL t o) r
theorem no_sl {x : V} {i : Nat} : ∀ {vs : List V} {ds : List PyData}, (x, Rs.sl i) ∉ vs.zip (ds.map tmD)
  | [], _, h => by simp at h
  | _ :: _, [], h => by simp at h
  | v :: vs, d :: ds, h => by
    rw [List.map_cons, List.zip_cons_cons] at h
    rcases List.mem_cons.mp h with h | h
    · injection h with _ h; cases h
    · exact no_sl h
theorem SR.data {vs : List V} {ds : List PyData} (s : SR B σ δ L H) (o : Own B H' (vs.zip (ds.map Val.d) ++ (prs σ δ ++ tms L))) : SR B σ δ (vs.zip (ds.map tmD) ++ L) H' := by
  refine ⟨s.len, ?_, s.has, fun x i h => ?_, s.pin⟩
  · rw [tms_append, tms_data]
    refine o.perm ?_
    rw [← List.append_assoc, ← List.append_assoc]
    exact List.perm_append_comm.append_right _
  · rcases List.mem_append.mp h with h | h
    · exact (no_sl h).elim
    · exact s.sl x i h
end
def consA (te : ES) (tr : M (List Rs)) : M (List Rs) := M.bind te fun r => M.bind tr fun rs => M.pure (r :: rs)
def starA (te : ES) (tr : M (List Rs)) : M (List Rs) := M.bind te fun r δ => match (r.get δ).bind seqD with
  | some ds => M.bind tr (fun rs => M.pure (ds.map tmD ++ rs)) δ
  | none => none
section
variable {X : Cx} {e : Expr} {es : List Expr} {te : ES} {tr : M (List Rs)} {pos p : Pos}
theorem da_nil : DA X [] (M.pure []) := ⟨fun B W c => PA_weak pa_nil fun σ H Q ⟨δ, L, s, q⟩ => q [] H rfl s⟩
theorem da_cons (ha : DE X e te) (hr : DA X es tr) (hs : starEach (e :: es) X.env = (false, eval e X.env) :: starEach es X.env := by rfl) : DA X (e :: es) (consA te tr) :=
  ⟨fun B W c => PA_weak (pa_cons (ha.run B W c) (hr.run B W c) hs) fun σ H Q ⟨δ, L, s, q⟩ => by
    refine tD_next (M' := []) knA s q fun x H1 r δ s q => ?_
    refine tDA_next (M' := [(x, r)]) knA s q fun xs H2 rs δ hl s q => ?_
    exact q (x :: xs) H2 (by simp [hl]) (s.perm List.perm_middle)⟩
theorem da_star (ha : DE X e te) (hr : DA X es tr) (hs : starEach (.Starred e p :: es) X.env = (true, eval e X.env) :: starEach es X.env := by rfl) : DA X (.Starred e p :: es) (starA te tr) :=
  ⟨fun B W c => PA_weak (StX.pa_star (ha.run B W c) (hr.run B W c) hs) fun σ H Q ⟨δ, L, s, q⟩ => by
    refine tD_next (M' := []) knA s q fun x H1 r δ s q => ?_
    cases e1 : (r.get δ).bind seqD with
    | none => simp only [e1] at q; exact q.elim
    | some ds =>
      simp only [e1] at q
      cases e2 : r.get δ with
      | none => rw [e2] at e1; cases e1
      | some v =>
        rw [e2] at e1
        obtain ⟨Z, fp, o, vw⟩ := SR.open (M' := [(x, r)]) s
        obtain ⟨a, vs, rfl, h1, rr⟩ := (vw x r v List.mem_cons_self e2).seq (show seqD v = some ds from e1)
        refine ⟨a, vs, rfl, by rw [← c.k]; exact h1.symm, ?_⟩
        have s2 : SR B σ δ (vs.zip (ds.map tmD) ++ L) H1 := s.drop1.data ⟨Z, fp, OwnZ.addRL rr o⟩
        refine tDA_next (M' := vs.zip (ds.map tmD)) knA s2 q fun xs H2 rs δ hl s q => ?_
        refine q (vs ++ xs) H2 (by simp [hl, rr.length]) (s.perm ?_)
        rw [List.zip_append (by simp [rr.length]), ← List.append_assoc]
        exact List.perm_append_comm.append_right _⟩
end

/-! ### displays -/
/-- as data: what is at hand is frozen -/
def Rs.dat (r : Rs) (δ : Sl) : Option PyData := match r with
  | .tm v => some v.fz
  | .sl i => match atSl δ i with
    | some (.d y) => some y
    | _ => none
def getDs : List Rs → Sl → Option (List PyData)
  | [], _ => some []
  | r :: rs, δ => (r.dat δ).bind fun v => (getDs rs δ).bind fun vs => some (v :: vs)
/-- what is at hand is handed on -/
def Rs.own (r : Rs) (δ : Sl) : Option Val := match r with
  | .tm v => some v
  | .sl i => match atSl δ i with
    | some (.d y) => some (.d y)
    | _ => none
def getOs : List Rs → Sl → Option (List Val)
  | [], _ => some []
  | r :: rs, δ => (r.own δ).bind fun v => (getOs rs δ).bind fun vs => some (v :: vs)
section
variable {B : Bs} {σ : L2.St} {δ : Sl} {L : List (V × Rs)} {H H' : Hp} {P : List (V × Val)}
theorem Own.dupOf {x : V} {y : PyData} (o : Own B H P) (h : (x, Val.d y) ∈ P) : Own B H ((x, .d y) :: P) := by
  obtain ⟨Z, fp, o⟩ := o
  obtain ⟨f, t⟩ := o.tr.mem h
  exact o.addR t.d_inv.2
theorem owns_of : ∀ {P : List (V × Val)} {xs : List V} {rs : List Rs} {vs : List Val}, xs.length = rs.length → (∀ x i, (x, Rs.sl i) ∈ xs.zip rs → σ[i]? = some (some x)) → (∀ p ∈ prs σ δ, p ∈ P) → getOs rs δ = some vs → Own B H (tms (xs.zip rs) ++ P) → Own B H (xs.zip vs ++ P) ∧ xs.length = vs.length
  | _, [], [], _, _, _, _, e, o => by cases e; exact ⟨o, rfl⟩
  | P, x :: xs, r :: rs, vs, hl, hs, hp, e, o => by
    unfold getOs at e
    cases e1 : r.own δ with
    | none => rw [e1] at e; cases e
    | some v =>
      cases e2 : getOs rs δ with
      | none => rw [e1, e2] at e; cases e
      | some ws =>
        rw [e1, e2] at e; cases e
        have ih := fun (Q : List (V × Val)) (hq : ∀ p ∈ prs σ δ, p ∈ Q) (o' : Own B H (tms (xs.zip rs) ++ Q)) => owns_of (P := Q) (xs := xs) (rs := rs) (vs := ws) (by simpa using hl) (fun y i m => hs y i (List.mem_cons_of_mem _ m)) hq e2 o'
        cases r with
        | tm w =>
          cases e1
          have o1 : Own B H (tms (xs.zip rs) ++ ((x, v) :: P)) := o.perm List.perm_middle.symm
          obtain ⟨o2, hl2⟩ := ih _ (fun p hh => List.mem_cons_of_mem _ (hp p hh)) o1
          exact ⟨o2.perm List.perm_middle, by simp [hl2]⟩
        | sl i =>
          obtain ⟨o2, hl2⟩ := ih P hp o
          unfold Rs.own at e1
          split at e1
          · rename_i j h; cases h
          · rename_i j h
            cases h
            split at e1
            · rename_i y e3
              cases e1
              have m := mem_prs (hs x i (by simp)) e3
              exact ⟨o2.dupOf (List.mem_append_right _ (hp _ m)), by simp [hl2]⟩
            · cases e1
  | _, [], _ :: _, _, hl, _, _, _, _ => by simp at hl
  | _, _ :: _, [], _, hl, _, _, _, _ => by simp at hl
theorem SR.owns {xs : List V} {rs : List Rs} {vs : List Val} (s : SR B σ δ (xs.zip rs ++ L) H) (hl : xs.length = rs.length) (e : getOs rs δ = some vs) : Own B H (xs.zip vs ++ (prs σ δ ++ tms L)) ∧ xs.length = vs.length := by
  refine owns_of hl (fun x i m => s.sl x i (List.mem_append_left _ m)) (fun p h => List.mem_append_left _ h) e (s.own.perm ?_)
  rw [tms_append, ← List.append_assoc, ← List.append_assoc]
  exact List.perm_append_comm.append_right _
theorem getDs_os : ∀ {rs : List Rs} {ds : List PyData}, getDs rs δ = some ds → ∃ vs, getOs rs δ = some vs ∧ ds = vs.map Val.fz
  | [], _, e => by cases e; exact ⟨[], rfl, rfl⟩
  | r :: rs, ds, e => by
    unfold getDs at e
    cases e1 : r.dat δ with
    | none => rw [e1] at e; cases e
    | some v =>
      cases e2 : getDs rs δ with
      | none => rw [e1, e2] at e; cases e
      | some ws =>
        rw [e1, e2] at e; cases e
        obtain ⟨vs, h1, h2⟩ := getDs_os e2
        subst h2
        cases r with
        | tm w => cases e1; exact ⟨w :: vs, by unfold getOs; rw [h1]; rfl, rfl⟩
        | sl i =>
          unfold Rs.dat at e1
          split at e1
          · rename_i h; cases h
          · rename_i j h
            cases h
            split at e1
            · rename_i y e3
              cases e1
              refine ⟨.d v :: vs, ?_, rfl⟩
              unfold getOs Rs.own
              simp only [e3, h1]
              rfl
            · cases e1
theorem zip_fst : ∀ {α β : Type} {xs : List α} {ys : List β}, xs.length = ys.length → (xs.zip ys).map Prod.fst = xs
  | _, _, [], [], _ => rfl
  | _, _, x :: xs, y :: ys, h => by simp [zip_fst (xs := xs) (ys := ys) (by simpa using h)]
  | _, _, [], _ :: _, h => by simp at h
  | _, _, _ :: _, [], h => by simp at h
theorem zip_snd : ∀ {α β : Type} {xs : List α} {ys : List β}, xs.length = ys.length → (xs.zip ys).map Prod.snd = ys
  | _, _, [], [], _ => rfl
  | _, _, x :: xs, y :: ys, h => by simp [zip_snd (xs := xs) (ys := ys) (by simpa using h)]
  | _, _, [], _ :: _, h => by simp at h
  | _, _, _ :: _, [], h => by simp at h
/-- all of it as data, what stays behind -/
theorem SR.datas {xs : List V} {rs : List Rs} {ds : List PyData} (s : SR B σ δ (xs.zip rs ++ L) H) (hl : xs.length = rs.length) (e : getDs rs δ = some ds) : ∃ Z fp, OwnZ B H (prs σ δ ++ tms L) Z fp ∧ RepL B.K H Z xs ds := by
  obtain ⟨vs, h1, h2⟩ := getDs_os e
  obtain ⟨o, hl2⟩ := s.owns hl h1
  have o2 := o.freezeL
  have e3 : (xs.zip vs).map (fun p => (p.1, Val.d p.2.fz)) = (xs.zip ds).map (fun p => (p.1, Val.d p.2)) := by
    subst h2
    rw [List.zip_map_right, List.map_map]
    rfl
  rw [e3] at o2
  obtain ⟨Z, fp, o2⟩ := o2
  obtain ⟨f1, f2, ef, t1, t2⟩ := o2.tr.split
  obtain ⟨e1, r⟩ := RepL.of_tr t1
  subst e1
  have hl3 : xs.length = ds.length := by subst h2; simpa using hl2
  rw [zip_fst hl3, zip_snd hl3] at r
  have ef' : fp = f2 := ef
  rw [← ef'] at t2
  exact ⟨Z, fp, ⟨t2, o2.nd, o2.nz, o2.new, o2.zt, o2.zo, o2.fr, o2.tb⟩, r⟩
end
def tupS (t : M (List Rs)) : ES := M.bind t fun rs δ => match getDs rs δ with
  | some ds => if ds.length ≤ sizeLine then some (.ok (.tm (.d (.tuple ds))), δ) else none
  | none => none
def lstS (t : M (List Rs)) : ES := M.bind t fun rs δ => match getOs rs δ with
  | some vs => if vs.length ≤ sizeLine then some (.ok (.tm (.ol vs)), δ) else none
  | none => none
/-- what is at hand is frozen -/
def fzS (t : ES) : ES := M.bind t fun r δ => match r with
  | .tm v => some (.ok (.tm (.d v.fz)), δ)
  | .sl i => match atSl δ i with
    | some v => some (.ok (.tm (.d v.fz)), δ.set i (some (.d v.fz)))
    | none => none
section
variable {X : Cx} {e : Expr} {es : List Expr} {te : ES} {tr : M (List Rs)} {pos p : Pos}
theorem de_tup {x1} (h : DA X es tr) : DE X (.Tuple es x1 pos) (tupS tr) :=
  ⟨fun B W c => PE_weak (pe_tup (h.run B W c)) fun σ H Q ⟨δ, L, s, q⟩ => by
    refine tDA_next (M' := []) knE s q fun xs H1 rs δ hl s q => ?_
    cases e1 : getDs rs δ with
    | none => simp only [e1] at q; exact q.elim
    | some ds =>
      simp only [e1] at q
      split at q
      · rename_i hz
        obtain ⟨Z, fp, o, r⟩ := s.datas hl e1
        exact ⟨by rw [r.length]; exact hz, fun p hp => q _ _ (s.drop.push (o.tup r hp).own)⟩
      · exact q.elim⟩
theorem de_lst (h : DA X es tr) : DE X (.List es pos) (lstS tr) :=
  ⟨fun B W c => PE_weak (pe_lst (h.run B W c)) fun σ H Q ⟨δ, L, s, q⟩ => by
    refine tDA_next (M' := []) knE s q fun xs H1 rs δ hl s q => ?_
    cases e1 : getOs rs δ with
    | none => simp only [e1] at q; exact q.elim
    | some vs =>
      simp only [e1] at q
      split at q
      · rename_i hz
        obtain ⟨o, hl2⟩ := s.owns hl e1
        refine ⟨by rw [hl2]; exact hz, fun p hp => q _ _ (s.drop.push ?_)⟩
        have o2 := o.newList hp
        rw [zip_fst hl2, zip_snd hl2] at o2
        exact o2
      · exact q.elim⟩

/-! ### built-in functions -/
theorem de_callB {x : Str} {id : String} {f : List Val → Option Val} {tr : M (List Rs)} (hc : CallOk X (.builtin id) f) (hg : Gl X x) (hm : X.mg x = none) (hv : bootBuiltins x = some (.builtin id)) (ha : DA X (e :: es) tr)
    (hn : x ≠ "__name__" := by decide) (hd : (x == ("__debug__" : Str)) = false := by decide) (hst : starEach (e :: es) X.env = (false, eval e X.env) :: starEach es X.env := by rfl) (hpl : (backTo pos (starEach es X.env)).any (·.1) = false := by rfl) : DE X (.Call (.Name x p) (e :: es) [] pos) (opN f tr) :=
  ⟨fun B W c => PE_weak (pe_callB hc.callR hg hm hv (ha.run B W c) hn hd hst hpl) fun σ H Q h => tD_opN c.k h⟩
theorem de_callTy {x : Str} {T : String} {f : List Val → Option Val} {tr : M (List Rs)} (hc : CallOk X (.type T) f) (hg : Gl X x) (hm : X.mg x = none) (hv : bootBuiltins x = some (.type T)) (ha : DA X (e :: es) tr)
    (hn : x ≠ "__name__" := by decide) (hd : (x == ("__debug__" : Str)) = false := by decide) (hst : starEach (e :: es) X.env = (false, eval e X.env) :: starEach es X.env := by rfl) (hpl : (backTo pos (starEach es X.env)).any (·.1) = false := by rfl) : DE X (.Call (.Name x p) (e :: es) [] pos) (opN f tr) :=
  ⟨fun B W c => PE_weak (pe_callTy hc.callR hg hm hv (ha.run B W c) hn hd hst hpl) fun σ H Q h => tD_opN c.k h⟩
def absV : List Val → Option Val
  | [.d (.int i)] => some (.d (.int (if i < 0 then -i else i)))
  | _ => none
def intV : List Val → Option Val
  | [.d (.int i)] => some (.d (.int i))
  | [.d (.bool b)] => some (.d (.int (if b then 1 else 0)))
  | _ => none
def minV : List Val → Option Val
  | [.d (.int i), .d (.int j)] => some (.d (.int (if j < i then j else i)))
  | _ => none
def lenV : List Val → Option Val
  | [.d (.str z)] => if z.length ≤ sizeLine then some (.d (.int z.length)) else none
  | [v] => match v with
    | .d (.list ds) => some (.d (.int ds.length))
    | .d (.tuple ds) => some (.d (.int ds.length))
    | .ol xs => some (.d (.int xs.length))
    | _ => none
  | _ => none
def listV : List Val → Option Val
  | [v] => (seqD v).map fun ds => .ol (ds.map Val.d)
  | _ => none
def tupleV : List Val → Option Val
  | [v] => (seqD v).map fun ds => .d (.tuple ds)
  | _ => none
theorem abs_ok : CallOk X (.builtin "abs") absV := CallOk.of call_abs fun xs H B P Z fp as z hk o vs e => by
  unfold absV at e
  split at e
  · cases e; cases vs with | cons v t => cases t; exact ⟨_, by rw [v.int], o.addR (.int _)⟩
  · cases e
theorem int_ok : CallOk X (.type "int") intV := CallOk.of call_int1 fun xs H B P Z fp as z hk o vs e => by
  unfold intV at e
  split at e
  · cases e; cases vs with | cons v t => cases t; exact .inl ⟨_, by rw [v.int], o.addR (.int _)⟩
  · cases e; cases vs with | cons v t => cases t; exact .inr ⟨_, by rw [v.bl], o.addR (.int _)⟩
  · cases e
theorem min_ok (hc : X.calm = true) : CallOk X (.builtin "min") minV := CallOk.of (call_min2 hc) fun xs H B P Z fp as z hk o vs e => by
  unfold minV at e
  split at e
  · cases e; cases vs with | cons v t => cases t with | cons v2 t => cases t; exact ⟨_, _, by rw [v.int, v2.int], o.addR (.int _)⟩
  · cases e
theorem len_ok : CallOk X (.builtin "len") lenV := CallOk.of call_len fun xs H B P Z fp as z hk o vs e => by
  unfold lenV at e
  split at e
  · split at e
    · rename_i hl; cases e; cases vs with | cons v t => cases t; exact ⟨_, _, rfl, by rw [v.str]; exact ⟨hl, rfl⟩, o.addR (.int _)⟩
    · cases e
  · split at e
    · cases e; cases vs with
      | cons v t =>
        cases t
        obtain ⟨a, ws, rfl, h1, r⟩ := v.list
        exact ⟨_, _, rfl, .inl ⟨ws, hk ▸ h1, r.length.symm⟩, o.addR (.int _)⟩
    · cases e; cases vs with
      | cons v t =>
        cases t
        obtain ⟨a, ws, rfl, h1, r⟩ := v.tup
        exact ⟨_, _, rfl, .inr ⟨ws, hk ▸ h1, r.length.symm⟩, o.addR (.int _)⟩
    · cases e; cases vs with
      | cons v t =>
        cases t
        obtain ⟨a, ws, ps, f, rfl, h2, h3, h4, _⟩ := v.ol
        refine ⟨_, _, rfl, .inl ⟨ws, SqL.of h2, ?_⟩, o.addR (.int _)⟩
        rw [h3, h4, List.length_map, List.length_map]
    · cases e
  · cases e
theorem list_ok : CallOk X (.type "list") listV := CallOk.of call_list_of fun xs H B P Z fp as z hk o vs e => by
  unfold listV at e
  split at e
  · rename_i v
    cases e1 : seqD v with
    | none => rw [e1] at e; cases e
    | some ds =>
      rw [e1] at e; cases e
      cases vs with
      | cons w t =>
        cases t
        obtain ⟨a, ws, rfl, h1, r⟩ := w.seq e1
        exact ⟨a, ws, rfl, hk ▸ h1, fun l hl => o.lstD r hl⟩
  · cases e
theorem tuple_ok : CallOk X (.type "tuple") tupleV := CallOk.of call_tuple_of fun xs H B P Z fp as z hk o vs e => by
  unfold tupleV at e
  split at e
  · rename_i v
    cases e1 : seqD v with
    | none => rw [e1] at e; cases e
    | some ds =>
      rw [e1] at e; cases e
      cases vs with
      | cons w t =>
        cases t
        obtain ⟨a, ws, rfl, h1, r⟩ := w.seq e1
        rcases h1 with h1 | h1
        · exact ⟨a, ws, rfl, .inl ⟨hk ▸ h1, fun l hl => (o.tup r hl).own⟩⟩
        · exact ⟨a, ws, rfl, .inr ⟨hk ▸ h1, o.addR (.tup h1 r)⟩⟩
  · cases e
end
end Nv

set_option Elab.async false
set_option linter.all false
set_option maxRecDepth 100000
set_option maxHeartbeats 1000000
/-! The data layer, part 7: defs of the text, their meanings, their calls. -/
namespace Nv
open PySem PySem.Spec PyProof.Rows L2
variable [Tbs]
/-- what a def means: which parameters come back changed; the value, and those -/
structure Fs where
  mu : List Bool
  fn : List Val → Option (Except Exn Val × List Val)
def sel {α : Type} : List Bool → List α → List α
  | true :: m, x :: xs => x :: sel m xs
  | false :: m, _ :: xs => sel m xs
  | _, _ => []
/-- an exception, behind a call -/
def ExC (mg : Str → Option Value) (B : Bs) (P : List (V × Val)) (ex : Exn) (cls : Value) (dd : Option Addr) (H : Hp) : Prop :=
  ∃ (C d : Addr) (vs : List V), mg ex.cls = some (.ref C) ∧ cls = .ref C ∧ dd = some d ∧ vs.length = ex.fs.length ∧ H d = some (.xd ((ex.fs.map Prod.fst).zip vs)) ∧
    Own B H (vs.zip (ex.fs.map fun p => Val.d p.2) ++ P)
def spV (mg : Str → Option Value) (K : PySem.W.Frag) (F : Fs) : Sp := fun vs H Q E => ∃ (as : List Val) (Z : Addr → Prop) (fp : List Addr),
  vs.length = F.mu.length ∧ as.length = F.mu.length ∧ TrL K H Z (vs.zip as) fp ∧ fp.Nodup ∧ (∀ a ∈ fp, ¬ Z a) ∧ (∀ a, Z a → ∃ o, H a = some o ∧ ∀ ps, o ≠ .tbl ps) ∧ LamX.Tabs Tbs.list H ∧
  match F.fn as with
  | some (.ok v, outs) => outs.length = (sel F.mu vs).length ∧ ∀ x H', Own ⟨K, Tbs.list, H, (· ∈ fp), Z, []⟩ H' ((x, v) :: (sel F.mu vs).zip outs) → Q x H'
  | some (.error ex, outs) => outs.length = (sel F.mu vs).length ∧ ∀ cls dd H', ExC mg ⟨K, Tbs.list, H, (· ∈ fp), Z, []⟩ ((sel F.mu vs).zip outs) ex cls dd H' → E cls dd H'
  | none => False

/-- the arguments: those that come back are taken out of their slots -/
def takeArgs : List Bool → List Rs → Sl → Option (List Val × List Nat × Sl)
  | [], [], δ => some ([], [], δ)
  | false :: mu, r :: rs, δ => (r.own δ).bind fun v => (takeArgs mu rs δ).bind fun p => some (v :: p.1, p.2.1, p.2.2)
  | true :: mu, .sl i :: rs, δ => (atSl δ i).bind fun v => (takeArgs mu rs (δ.set i none)).bind fun p => some (v :: p.1, i :: p.2.1, p.2.2)
  | _, _, _ => none
def putBack : List Nat → List Val → Sl → Sl
  | i :: is, v :: vs, δ => putBack is vs (δ.set i (some v))
  | _, _, δ => δ
def callS (F : Fs) (tr : M (List Rs)) : ES := M.bind tr fun rs δ => match takeArgs F.mu rs δ with
  | some (vs, is, δ') => (match F.fn vs with
    | some (.ok v, outs) => if outs.length = is.length then some (.ok (.tm v), putBack is outs δ') else none
    | some (.error e, outs) => if outs.length = is.length then some (.error e, putBack is outs δ') else none
    | none => none)
  | none => none

theorem atSl_set_self {δ : Sl} {i : Nat} {o : Option Val} (h : i < δ.length) : atSl (δ.set i o) i = o := by
  unfold atSl
  rw [List.getElem?_set_self h]
  cases o <;> rfl
theorem atSl_set_ne {δ : Sl} {i j : Nat} {o : Option Val} (h : i ≠ j) : atSl (δ.set i o) j = atSl δ j := by
  unfold atSl
  rw [List.getElem?_set_ne h]
theorem atSl_lt {δ : Sl} {i : Nat} {v : Val} (h : atSl δ i = some v) : i < δ.length := by
  unfold atSl at h
  split at h
  · rename_i e; exact (List.getElem?_eq_some_iff.mp e).1
  · cases h
theorem prs_cons_skip (x : Option V) (σ : L2.St) (δ : Sl) : prs (x :: σ) (none :: δ) = prs σ δ := by cases x <;> rfl
theorem prs_put : ∀ {σ : L2.St} {δ : Sl} {i : Nat} {x : V} {v : Val}, i < δ.length → σ[i]? = some (some x) → (prs σ (δ.set i (some v))).Perm ((x, v) :: prs σ (δ.set i none))
  | [], _, i, _, _, _, h => by simp at h
  | _ :: _, [], _, _, _, h, _ => by simp at h
  | o :: σ, p :: δ, 0, x, v, _, h => by
    simp at h
    subst h
    show (prs (some x :: σ) (some v :: δ)).Perm ((x, v) :: prs (some x :: σ) (none :: δ))
    rw [prs_cons_skip]
    exact .refl _
  | o :: σ, p :: δ, i + 1, x, v, h1, h2 => by
    have ih := prs_put (σ := σ) (δ := δ) (i := i) (x := x) (v := v) (by simpa using h1) (by simpa using h2)
    rw [List.set_cons_succ, List.set_cons_succ]
    cases o with
    | none => exact ih
    | some y =>
      cases p with
      | none => exact ih
      | some w => exact (ih.cons _).trans (.swap _ _ _)
theorem set_same {δ : Sl} {i : Nat} {v : Val} (h : atSl δ i = some v) : δ.set i (some v) = δ := by
  have hl := atSl_lt h
  unfold atSl at h
  refine List.ext_getElem? fun j => ?_
  by_cases e : i = j
  · subst e
    rw [List.getElem?_set_self hl]
    split at h
    · rename_i e; cases h; exact e.symm
    · cases h
  · rw [List.getElem?_set_ne e]
theorem prs_take {σ : L2.St} {δ : Sl} {i : Nat} {x : V} {v : Val} (h : atSl δ i = some v) (hx : σ[i]? = some (some x)) : (prs σ δ).Perm ((x, v) :: prs σ (δ.set i none)) := by
  have p := prs_put (δ := δ) (v := v) (atSl_lt h) hx
  rw [set_same h] at p
  exact p

structure Taken (σ : L2.St) (xs : List V) (mu : List Bool) (vs : List Val) (is : List Nat) (δ δ' : Sl) : Prop where
  len : δ'.length = δ.length
  lx : xs.length = vs.length
  lm : mu.length = vs.length
  li : is.length = (sel mu xs).length
  at_ : ∀ p ∈ (sel mu xs).zip is, σ[p.2]? = some (some p.1)
  lt : ∀ i ∈ is, i < δ.length
  no : ∀ i ∈ is, atSl δ' i = none
  le : ∀ i v, atSl δ' i = some v → atSl δ i = some v
  nd : is.Nodup
  had : ∀ i ∈ is, ∃ v, atSl δ i = some v
section
variable {B : Bs} {σ : L2.St} {H H' : Hp}
theorem takeArgs_own : ∀ {mu : List Bool} {xs : List V} {rs : List Rs} {δ : Sl} {vs : List Val} {is : List Nat} {δ' : Sl} {P : List (V × Val)}, xs.length = rs.length → δ.length = σ.length → (∀ x i, (x, Rs.sl i) ∈ xs.zip rs → σ[i]? = some (some x)) →
    takeArgs mu rs δ = some (vs, is, δ') → Own B H (tms (xs.zip rs) ++ (prs σ δ ++ P)) → Own B H (xs.zip vs ++ (prs σ δ' ++ P)) ∧ Taken σ xs mu vs is δ δ'
  | [], [], [], δ, vs, is, δ', P, _, _, _, e, o => by
    unfold takeArgs at e
    cases e
    exact ⟨o, rfl, rfl, rfl, rfl, fun p h => by simp [sel] at h, fun i h => by simp at h, fun i h => by simp at h, fun i v h => h, .nil, fun i h => by simp at h⟩
  | false :: mu, x :: xs, r :: rs, δ, vs, is, δ', P, hl, hδ, hs, e, o => by
    unfold takeArgs at e
    cases e1 : r.own δ with
    | none => rw [e1] at e; cases e
    | some v =>
      cases e2 : takeArgs mu rs δ with
      | none => rw [e1, e2] at e; cases e
      | some q =>
        obtain ⟨ws, js, δ2⟩ := q
        rw [e1, e2] at e
        cases e
        have ih := fun (Q : List (V × Val)) (o' : Own B H (tms (xs.zip rs) ++ (prs σ δ ++ Q))) => takeArgs_own (P := Q) (xs := xs) (rs := rs) (by simpa using hl) hδ (fun y i m => hs y i (List.mem_cons_of_mem _ m)) e2 o'
        have key : ∀ (o' : Own B H ((x, v) :: (tms (xs.zip rs) ++ (prs σ δ ++ P)))), Own B H ((x, v) :: (xs.zip ws ++ (prs σ δ2 ++ P))) ∧ Taken σ xs mu ws js δ δ2 := fun o' => by
          have o1 : Own B H (tms (xs.zip rs) ++ (prs σ δ ++ ((x, v) :: P))) := o'.perm ((List.perm_middle (l₁ := tms (xs.zip rs)) (l₂ := prs σ δ ++ P)).symm.trans ((List.perm_middle (l₁ := prs σ δ) (l₂ := P)).symm.append_left _))
          obtain ⟨o2, t⟩ := ih _ o1
          exact ⟨o2.perm (((List.perm_middle (l₁ := prs σ δ2) (l₂ := P)).append_left _).trans List.perm_middle), t⟩
        have fin : Own B H ((x, v) :: (xs.zip ws ++ (prs σ δ2 ++ P))) ∧ Taken σ xs mu ws js δ δ2 := by
          cases r with
          | tm w => cases e1; exact key o
          | sl i =>
            unfold Rs.own at e1
            split at e1
            · rename_i j h; cases h
            · rename_i j h
              cases h
              split at e1
              · rename_i y e3
                cases e1
                have m := mem_prs (hs x i (by simp)) e3
                exact key (Own.dupOf (P := tms (xs.zip rs) ++ (prs σ δ ++ P)) o (List.mem_append_right _ (List.mem_append_left _ m)))
              · cases e1
        obtain ⟨o2, t⟩ := fin
        exact ⟨o2, t.len, by simp [t.lx], by simp [t.lm], t.li, t.at_, t.lt, t.no, t.le, t.nd, t.had⟩
  | true :: mu, x :: xs, .sl i :: rs, δ, vs, is, δ', P, hl, hδ, hs, e, o => by
    unfold takeArgs at e
    cases e1 : atSl δ i with
    | none => rw [e1] at e; cases e
    | some v =>
      cases e2 : takeArgs mu rs (δ.set i none) with
      | none => rw [e1, e2] at e; cases e
      | some q =>
        obtain ⟨ws, js, δ2⟩ := q
        rw [e1, e2] at e
        cases e
        have hx : σ[i]? = some (some x) := hs x i (by simp)
        have o' : Own B H (tms (xs.zip rs) ++ (prs σ δ ++ P)) := o
        have o1 : Own B H (tms (xs.zip rs) ++ (prs σ (δ.set i none) ++ ((x, v) :: P))) := by
          refine o'.perm (List.Perm.append_left _ ?_)
          exact ((prs_take e1 hx).append_right P).trans (List.perm_middle).symm
        obtain ⟨o2, t⟩ := takeArgs_own (P := (x, v) :: P) (xs := xs) (rs := rs) (by simpa using hl) (by simpa using hδ) (fun y j m => hs y j (List.mem_cons_of_mem _ m)) e2 o1
        have ni : atSl (δ.set i none) i = none := atSl_set_self (atSl_lt e1)
        have ni2 : atSl δ2 i = none := by
          cases q : atSl δ2 i with
          | none => rfl
          | some w => rw [t.le i w q] at ni; cases ni
        refine ⟨o2.perm (((List.perm_middle (l₁ := prs σ δ2) (l₂ := P)).append_left _).trans List.perm_middle), by simpa using t.len, by simp [t.lx], by simp [t.lm], by simp [sel, t.li], fun p h => ?_, fun j h => ?_, fun j h => ?_, fun j w h => ?_, ?_, fun j h => ?_⟩
        · rcases List.mem_cons.mp (show p ∈ (x, i) :: (sel mu xs).zip js from h) with h | h
          · subst h; exact hx
          · exact t.at_ p h
        · rcases List.mem_cons.mp h with h | h
          · subst h; exact atSl_lt e1
          · simpa using t.lt j h
        · rcases List.mem_cons.mp h with h | h
          · subst h; exact ni2
          · exact t.no j h
        · have q := t.le j w h
          by_cases hj : i = j
          · subst hj; rw [ni] at q; cases q
          · rw [atSl_set_ne hj] at q; exact q
        · refine List.nodup_cons.mpr ⟨fun m => ?_, t.nd⟩
          obtain ⟨w, q⟩ := t.had i m
          rw [ni] at q
          cases q
        · rcases List.mem_cons.mp h with h | h
          · subst h; exact ⟨v, e1⟩
          · obtain ⟨w, q⟩ := t.had j h
            by_cases hj : i = j
            · subst hj; exact ⟨v, e1⟩
            · rw [atSl_set_ne hj] at q; exact ⟨w, q⟩
  | [], [], _ :: _, _, _, _, _, _, hl, _, _, _, _ => by simp at hl
  | [], _ :: _, [], _, _, _, _, _, hl, _, _, _, _ => by simp at hl
  | [], _ :: _, _ :: _, _, _, _, _, _, _, _, _, e, _ => by unfold takeArgs at e; cases e
  | false :: _, [], [], _, _, _, _, _, _, _, _, e, _ => by unfold takeArgs at e; cases e
  | false :: _, [], _ :: _, _, _, _, _, _, hl, _, _, _, _ => by simp at hl
  | false :: _, _ :: _, [], _, _, _, _, _, hl, _, _, _, _ => by simp at hl
  | true :: _, [], [], _, _, _, _, _, _, _, _, e, _ => by unfold takeArgs at e; cases e
  | true :: _, [], _ :: _, _, _, _, _, _, hl, _, _, _, _ => by simp at hl
  | true :: _, _ :: _, [], _, _, _, _, _, hl, _, _, _, _ => by simp at hl
  | true :: _, _ :: _, .tm _ :: _, _, _, _, _, _, _, _, _, e, _ => by unfold takeArgs at e; cases e
theorem set_none_same {δ : Sl} {i : Nat} (hl : i < δ.length) (h : atSl δ i = none) : δ.set i none = δ := by
  refine List.ext_getElem? fun j => ?_
  by_cases e : i = j
  · subst e
    rw [List.getElem?_set_self hl]
    unfold atSl at h
    split at h
    · cases h
    · rename_i hn
      have := List.getElem?_eq_getElem hl
      rw [this]
      cases q : δ[i] with
      | none => rfl
      | some v => rw [q] at this; exact (hn v this).elim
  · rw [List.getElem?_set_ne e]
theorem putBack_length : ∀ {is : List Nat} {vs : List Val} {δ : Sl}, (putBack is vs δ).length = δ.length
  | [], _, _ => by simp [putBack]
  | _ :: _, [], _ => by simp [putBack]
  | i :: is, v :: vs, δ => by rw [putBack, putBack_length, List.length_set]
theorem putBack_own : ∀ {is : List Nat} {ys : List V} {outs : List Val} {δ : Sl} {P : List (V × Val)}, is.length = ys.length → outs.length = ys.length → δ.length = σ.length → (∀ p ∈ ys.zip is, σ[p.2]? = some (some p.1)) → (∀ i ∈ is, i < δ.length) → (∀ i ∈ is, atSl δ i = none) → is.Nodup →
    Own B H' (ys.zip outs ++ (prs σ δ ++ P)) → Own B H' (prs σ (putBack is outs δ) ++ P)
  | [], [], [], δ, P, _, _, _, _, _, _, _, o => o
  | i :: is, y :: ys, v :: vs, δ, P, h1, h2, h3, h4, h5, h6, h7, o => by
    rw [putBack]
    obtain ⟨n1, n2⟩ := List.nodup_cons.mp h7
    have hi := h5 i List.mem_cons_self
    have hx : σ[i]? = some (some y) := h4 (y, i) (by simp)
    have e := set_none_same hi (h6 i List.mem_cons_self)
    have p : (prs σ (δ.set i (some v))).Perm ((y, v) :: prs σ δ) := by
      have q := prs_put (δ := δ) (v := v) hi hx
      rw [e] at q
      exact q
    refine putBack_own (ys := ys) (by simpa using h1) (by simpa using h2) (by simpa using h3) (fun p hp => h4 p (List.mem_cons_of_mem _ hp)) (fun j hj => by simpa using h5 j (List.mem_cons_of_mem _ hj)) (fun j hj => ?_) n2 ?_
    · rw [atSl_set_ne (fun q => by subst q; exact n1 hj)]
      exact h6 j (List.mem_cons_of_mem _ hj)
    · refine o.perm ?_
      show ((y, v) :: (ys.zip vs ++ (prs σ δ ++ P))).Perm _
      exact (List.perm_middle (l₁ := ys.zip vs)).symm.trans ((p.symm.append_right P).append_left _)
  | [], _ :: _, _, _, _, h, _, _, _, _, _, _, _ => by simp at h
  | _ :: _, [], _, _, _, h, _, _, _, _, _, _, _ => by simp at h
  | [], [], _ :: _, _, _, _, h, _, _, _, _, _, _ => by simp at h
  | _ :: _, _ :: _, [], _, _, _, h, _, _, _, _, _, _ => by simp at h
theorem putBack_has : ∀ {is : List Nat} {ys : List V} {outs : List Val} {δ : Sl}, is.length = ys.length → (∀ p ∈ ys.zip is, σ[p.2]? = some (some p.1)) → (∀ i v, atSl δ i = some v → ∃ x, σ[i]? = some (some x)) → ∀ i v, atSl (putBack is outs δ) i = some v → ∃ x, σ[i]? = some (some x)
  | [], _, _, _, _, _, h, i, v, e => h i v (by simpa [putBack] using e)
  | _ :: _, _, [], _, _, _, h, i, v, e => h i v (by simpa [putBack] using e)
  | j :: is, y :: ys, w :: ws, δ, hl, h4, h, i, v, e => by
    rw [putBack] at e
    refine putBack_has (ys := ys) (by simpa using hl) (fun p hp => h4 p (List.mem_cons_of_mem _ hp)) (fun k u q => ?_) i v e
    by_cases hk : j = k
    · subst hk; exact ⟨y, h4 (y, j) (by simp)⟩
    · rw [atSl_set_ne hk] at q; exact h k u q
  | _ :: _, [], _ :: _, _, hl, _, _, _, _, _ => by simp at hl
end

/-- a def of the module, known by its meaning -/
structure Fk (X : Cx) (k : Nat) (x : Str) (F : Fs) : Prop where
  ex : ∃ (f : Addr) (fd : FuncData) (ps : List Str), FnOk X.prog X.w X.K X.mg X.base (L2.CX X.prog X.w) k f fd ps (spV X.mg X.K F) ∧ X.mg x = some (.ref f) ∧ PySem.W.keepIn X.K (.ref f) = true ∧ Binds X.K fd ps []
theorem sel_sub {α : Type} : ∀ {mu : List Bool} {xs : List α}, (sel mu xs).length ≤ xs.length
  | [], _ => by simp [sel]
  | true :: _, [] => by simp [sel]
  | false :: _, [] => by simp [sel]
  | true :: m, x :: xs => by simp [sel, sel_sub (mu := m) (xs := xs)]
  | false :: m, x :: xs => by simp [sel]; exact Nat.le_succ_of_le (sel_sub (mu := m) (xs := xs))
section
variable {X : Cx} {e : Expr} {es : List Expr} {te : ES} {tr : M (List Rs)} {pos p : Pos}
theorem de_call {F : Fs} {x : Str} {k : Nat} (hF : Fk X k x F) (hr : Room k X.A) (hg : Gl X x) (ha : DA X (e :: es) tr) (hdb : (x == ("__debug__" : Str)) = false := by decide)
    (he : starEach (e :: es) X.env = (false, eval e X.env) :: starEach es X.env := by rfl) (hpl : (backTo pos (starEach es X.env)).any (·.1) = false := by rfl) : DE X (.Call (.Name x p) (e :: es) [] pos) (callS F tr) := by
  obtain ⟨f, fd, ps, G, hm, hk, hb⟩ := hF.ex
  refine ⟨fun B W c => PE_weak (pe_callS G hr hg hm hk hb (fun σ => passAt c.tk σ) (ha.run B W c) hdb he hpl) fun σ H Q ⟨δ, L, s, q⟩ => ?_⟩
  refine tDA_next (M' := []) knE s q fun xs H1 rs δ hl s q => ?_
  cases e1 : takeArgs F.mu rs δ with
  | none => simp only [e1] at q; exact q.elim
  | some t =>
    obtain ⟨as, is, δ'⟩ := t
    simp only [e1] at q
    have o := s.own
    rw [tms_append] at o
    have o1 : Own B H1 (tms (xs.zip rs) ++ (prs σ δ ++ tms L)) := o.perm (by
      rw [← List.append_assoc, ← List.append_assoc]
      exact List.perm_append_comm.append_right _)
    obtain ⟨o2, t⟩ := takeArgs_own (P := tms L) hl s.len (fun x i m => s.sl x i (List.mem_append_left _ m)) e1 o1
    obtain ⟨Z, fp, o2⟩ := o2
    obtain ⟨f1, f2, ef, t1, t2⟩ := o2.tr.split
    subst ef
    have st := o2.start t1
    have stB : (B.inner H1 f1 Z) = ⟨X.K, Tbs.list, H1, (· ∈ f1), Z, []⟩ := by unfold Bs.inner; rw [c.k, c.tab]
    have back : ∀ (outs : List Val) (D : List (V × Val)) (H' : Hp), outs.length = is.length → Own (B.inner H1 f1 Z) H' (D ++ (sel F.mu xs).zip outs) → Own B H' (D ++ (prs σ (putBack is outs δ') ++ tms L)) := fun outs D H' hl2 y => by
      have y2 := o2.frame t1 t2 y
      have y3 : Own B H' ((sel F.mu xs).zip outs ++ (prs σ δ' ++ (tms L ++ D))) := y2.perm (by
        rw [List.append_assoc]
        refine List.perm_append_comm.trans ?_
        rw [List.append_assoc, List.append_assoc])
      have y4 := putBack_own t.li (by rw [hl2]; exact t.li) (by rw [t.len]; exact s.len) t.at_ (fun i hi => by rw [t.len]; exact t.lt i hi) t.no t.nd y3
      refine y4.perm ?_
      rw [← List.append_assoc]
      exact List.perm_append_comm
    have hhas : ∀ (outs : List Val), ∀ i v, atSl (putBack is outs δ') i = some v → ∃ x, σ[i]? = some (some x) := fun outs => putBack_has t.li t.at_ fun i v h => s.has i v (t.le i v h)
    cases e2 : F.fn as with
    | none => simp only [e2] at q; exact q.elim
    | some r =>
      obtain ⟨r, outs⟩ := r
      refine ⟨as, Z, f1, by rw [t.lx]; exact t.lm.symm, t.lm.symm, by rw [← c.k]; exact t1, st.nd, st.nz, st.zt, by rw [← c.tab]; exact st.tb, ?_⟩
      rw [e2]
      cases r with
      | ok v =>
        simp only [e2] at q
        split at q
        · rename_i hl2
          refine ⟨hl2.trans t.li, fun x H' y => ?_⟩
          rw [← stB] at y
          have y5 := back outs [(x, v)] H' hl2 y
          exact q x H' ⟨by rw [putBack_length, t.len]; exact s.len, y5.perm (show ((x, v) :: (prs σ (putBack is outs δ') ++ tms L)).Perm (prs σ (putBack is outs δ') ++ ((x, v) :: tms L)) from List.perm_middle.symm), hhas outs, fun z i m => by
            rcases List.mem_cons.mp m with m | m
            · injection m with _ m; cases m
            · exact s.sl z i (List.mem_append_right _ m), s.pin⟩
        · exact q.elim
      | error ex =>
        simp only [e2] at q
        split at q
        · rename_i hl2
          refine ⟨hl2.trans t.li, fun cls dd H' ⟨C, d, vs, g1, g2, g3, g4, g5, y⟩ => ?_⟩
          rw [← stB] at y
          have y5 := back outs _ H' hl2 y
          refine q cls dd H' ⟨C, d, vs, g1, g2, g3, g4, g5, ?_⟩
          have s2 : SR B σ (putBack is outs δ') (vs.zip ((ex.fs.map Prod.snd).map tmD) ++ L) H' := by
            refine ⟨by rw [putBack_length, t.len]; exact s.len, ?_, hhas outs, fun z i m => ?_, s.pin⟩
            · rw [tms_append, tms_data, List.map_map]
              refine y5.perm ?_
              rw [← List.append_assoc, ← List.append_assoc]
              exact List.perm_append_comm.append_right _
            · rcases List.mem_append.mp m with m | m
              · exact (no_sl m).elim
              · exact s.sl z i (List.mem_append_right _ m)
          rw [List.map_map] at s2
          exact s2
        · exact q.elim
end
end Nv

set_option Elab.async false
set_option linter.all false
set_option maxRecDepth 100000
set_option maxHeartbeats 1000000
/-! The data layer, part 8: statements. -/
namespace Nv
open PySem PySem.Spec PyProof.Rows L2
variable [Tbs]
/-- how a statement ends -/
inductive Fl where
  | nx | bk | ct
  | rt (v : Val)
abbrev SS := M Fl
def tmL (L : List (V × Val)) : List (V × Rs) := L.map fun p => (p.1, Rs.tm p.2)
theorem tms_tmL : ∀ L : List (V × Val), tms (tmL L) = L
  | [] => rfl
  | (x, v) :: L => by
    show (x, v) :: tms (tmL L) = _
    rw [tms_tmL L]
theorem no_sl' {x : V} {i : Nat} : ∀ {L : List (V × Val)}, (x, Rs.sl i) ∉ tmL L
  | [], h => by simp [tmL] at h
  | p :: L, h => by
    rcases List.mem_cons.mp h with h | h
    · injection h with _ h; cases h
    · exact no_sl' (L := L) h
def JS (mg : Str → Option Value) (B : Bs) (W : WX) (L : List (V × Val)) (D : Ends) : Option (Except Exn Fl × Sl) → Prop
  | some (.ok .nx, δ') => ∀ σ' H', SR B σ' δ' (tmL L) H' → D.nx σ' H'
  | some (.ok .bk, δ') => ∀ σ' H', SR B σ' δ' (tmL L) H' → D.bk σ' H'
  | some (.ok .ct, δ') => ∀ σ' H', SR B σ' δ' (tmL L) H' → D.ct σ' H'
  | some (.ok (.rt v), δ') => ∀ x σ' H', SR B σ' δ' ((x, .tm v) :: tmL L) H' → D.rt x H'
  | some (.error ex, δ') => ∀ cls dd σ' H', ExAt mg B σ' δ' (tmL L) ex cls dd H' → W cls dd σ' H'
  | none => False
def tDS (mg : Str → Option Value) (B : Bs) (W : WX) (t : SS) : TS := fun D σ H => ∃ δ L, SR B σ δ (tmL L) H ∧ JS mg B W L D (t δ)
structure DS (X : Cx) (m : List Nat) (st : Stmt) (t : SS) : Prop where
  run : ∀ B W, Cg X B W → B.pn.map Prod.fst = m → PS X st (tDS X.mg B W t)
structure DSs (X : Cx) (m : List Nat) (st : List Stmt) (t : SS) : Prop where
  run : ∀ B W, Cg X B W → B.pn.map Prod.fst = m → PSs X st (tDS X.mg B W t)
theorem PS_weak {X : Cx} {st : Stmt} {t t' : TS} (h : PS X st t) (w : ∀ D σ H, t' D σ H → t D σ H) : PS X st t' := ⟨fun pins s σ H D I q => h.run pins s σ H D I (w D σ H q)⟩
theorem PSs_weak {X : Cx} {st : List Stmt} {t t' : TS} (h : PSs X st t) (w : ∀ D σ H, t' D σ H → t D σ H) : PSs X st t' := ⟨fun pins s σ H D I q => h.run pins s σ H D I (w D σ H q)⟩
theorem knS {mg : Str → Option Value} {B : Bs} {W : WX} {σ : L2.St} {L : List (V × Val)} {D : Ends} : Kn mg B W σ (tmL L) (JS mg B W L D) := ⟨id, fun _ _ h cls dd H' x => h cls dd σ H' x⟩
def seqS (t u : SS) : SS := M.bind t fun f => match f with
  | .nx => u
  | f => M.pure f
section
variable {X : Cx} {m : List Nat} {st : Stmt} {rest : List Stmt} {t u : SS} {e : Expr} {te : ES} {pos : Pos}
theorem dss_nil : DSs X m [] (M.pure .nx) := ⟨fun B W c hm => PSs_weak pss_nil fun D σ H ⟨δ, L, s, q⟩ => q σ H s⟩
theorem dss_cons (h1 : DS X m st t) (h2 : DSs X m rest u) : DSs X m (st :: rest) (seqS t u) :=
  ⟨fun B W c hm => PSs_weak (pss_cons (h1.run B W c hm) (h2.run B W c hm)) fun D σ H ⟨δ, L, s, q⟩ => by
    refine ⟨δ, L, s, ?_⟩
    unfold seqS at q
    cases e : t δ with
    | none => rw [bind_none e] at q; exact q.elim
    | some p =>
      obtain ⟨r, δ'⟩ := p
      cases r with
      | error ex => rw [bind_err e] at q; exact q
      | ok f =>
        rw [bind_ok e] at q
        cases f with
        | nx => exact fun σ' H' s' => ⟨δ', L, s', q⟩
        | bk => exact q
        | ct => exact q
        | rt v => exact q⟩
theorem dss_one (h1 : DS X m st t) : DSs X m [st] t := ⟨fun B W c hm => pss_one (h1.run B W c hm)⟩
theorem ds_pass : DS X m (.Pass pos) (M.pure .nx) := ⟨fun B W c hm => PS_weak ps_pass fun D σ H ⟨δ, L, s, q⟩ => q σ H s⟩
theorem ds_break : DS X m (.Break pos) (M.pure .bk) := ⟨fun B W c hm => PS_weak ps_break fun D σ H ⟨δ, L, s, q⟩ => q σ H s⟩
theorem ds_continue : DS X m (.Continue pos) (M.pure .ct) := ⟨fun B W c hm => PS_weak ps_continue fun D σ H ⟨δ, L, s, q⟩ => q σ H s⟩
/-- an expression whose value is dropped -/
def dropS (te : ES) : SS := M.bind te fun _ => M.pure .nx
theorem ds_expr (he : DE X e te) (hs : swapsWith e none pos.line X.env = pure false := by rfl) : DS X m (.Expr e pos) (dropS te) :=
  ⟨fun B W c hm => PS_weak (ps_expr (he.run B W c) hs) fun D σ H ⟨δ, L, s, q⟩ => tD_next (M' := []) knS s q fun x H1 r δ s q => q σ H1 s.drop1⟩
/-- what is handed back: an owned thing goes with it -/
def Rs.out (r : Rs) (δ : Sl) : Option (Val × Sl) := match r with
  | .tm v => some (v, δ)
  | .sl i => match atSl δ i with
    | some (.d y) => some (.d y, δ)
    | some v => some (v, δ.set i none)
    | none => none
def retS (te : ES) : SS := M.bind te fun r δ => match r.out δ with
  | some (v, δ') => some (.ok (.rt v), δ')
  | none => none
theorem SR.out {B : Bs} {σ : L2.St} {δ δ' : Sl} {L : List (V × Rs)} {H : Hp} {x : V} {r : Rs} {v : Val} (s : SR B σ δ ((x, r) :: L) H) (e : r.out δ = some (v, δ')) : SR B σ δ' ((x, .tm v) :: L) H := by
  cases r with
  | tm w => cases e; exact s
  | sl i =>
    have hx := s.sl x i List.mem_cons_self
    unfold Rs.out at e
    split at e
    · rename_i h; cases h
    · rename_i j h
      cases h
      split at e
      · rename_i y e3
        cases e
        exact s.drop1.push (Own.dupOf s.drop1.own (List.mem_append_left _ (mem_prs hx e3)))
      · rename_i w hw e3
        cases e
        have p := prs_take e3 hx
        refine ⟨by simpa using s.len, (s.drop1.own.perm ((p.append_right _).trans ?_)), fun j w' q => ?_, fun z j q => ?_, s.pin⟩
        · exact List.perm_middle.symm
        · by_cases hj : i = j
          · subst hj; rw [atSl_set_self (atSl_lt e3)] at q; cases q
          · rw [atSl_set_ne hj] at q; exact s.has j w' q
        · rcases List.mem_cons.mp q with q | q
          · injection q with _ q; cases q
          · exact s.sl z j (List.mem_cons_of_mem _ q)
      · cases e
theorem ds_ret (he : DE X e te) : DS X m (.Return (some e) pos) (retS te) :=
  ⟨fun B W c hm => PS_weak (ps_ret (he.run B W c)) fun D σ H ⟨δ, L, s, q⟩ => tD_next (M' := []) knS s q fun x H1 r δ s q => by
    cases e1 : r.out δ with
    | none => simp only [e1] at q; exact q.elim
    | some p =>
      obtain ⟨v, δ'⟩ := p
      simp only [e1] at q
      exact q x σ H1 (s.out e1)⟩
theorem ds_retN : DS X m (.Return none pos) (M.pure (.rt (.d .none))) :=
  ⟨fun B W c hm => PS_weak ps_retN fun D σ H ⟨δ, L, s, q⟩ => q .non σ H (s.push s.own.non)⟩
def ifS (tc : M Bool) (t u : SS) : SS := M.bind tc fun b => if b then t else u
theorem ds_if {c : Expr} {a b : List Stmt} {tc : M Bool} (hc : DT X c tc) (ha : DSs X m a t) (hb : DSs X m b u) : DS X m (.If c a b pos) (ifS tc t u) :=
  ⟨fun B W c' hm => PS_weak (ps_if (hc.run B W c') (ha.run B W c' hm) (hb.run B W c' hm)) fun D σ H ⟨δ, L, s, q⟩ => tDT_next (M' := []) knS s q fun H1 b δ s q => by
    cases b with
    | true => exact ⟨δ, L, s, q⟩
    | false => exact ⟨δ, L, s, q⟩⟩

/-! ### while -/
def whileN (tc : M Bool) (tb : SS) : Nat → SS
  | 0 => fun _ => none
  | n + 1 => M.bind tc fun b => if b then M.bind tb (fun f => match f with
      | .nx => whileN tc tb n
      | .ct => whileN tc tb n
      | .bk => M.pure .nx
      | .rt v => M.pure (.rt v)) else M.pure .nx
open Classical in
noncomputable def whileS (tc : M Bool) (tb : SS) : SS := fun δ => if h : ∃ n r, whileN tc tb n δ = some r then whileN tc tb h.choose δ else none
theorem bind_mono {α β : Type} {t : M α} {f g : α → M β} {δ : Sl} {r : Except Exn β × Sl} (h : ∀ a δ' r, f a δ' = some r → g a δ' = some r) (e : M.bind t f δ = some r) : M.bind t g δ = some r := by
  unfold M.bind at e ⊢
  split at e
  · rename_i a δ1 q; exact h _ _ _ e
  · exact e
  · cases e
theorem whileN_succ {tc : M Bool} {tb : SS} : ∀ {n : Nat} {δ : Sl} {r : Except Exn Fl × Sl}, whileN tc tb n δ = some r → whileN tc tb (n + 1) δ = some r
  | 0, _, _, h => by cases h
  | n + 1, δ, r, h => by
    rw [whileN] at h ⊢
    refine bind_mono (fun b δ' r h => ?_) h
    cases b with
    | false => exact h
    | true =>
      refine bind_mono (fun f δ' r h => ?_) h
      cases f with
      | nx => exact whileN_succ h
      | ct => exact whileN_succ h
      | bk => exact h
      | rt v => exact h
theorem whileN_le {tc : M Bool} {tb : SS} {n k : Nat} {δ : Sl} {r : Except Exn Fl × Sl} (h : whileN tc tb n δ = some r) (hk : n ≤ k) : whileN tc tb k δ = some r := by
  induction hk with
  | refl => exact h
  | step _ ih => exact whileN_succ ih
theorem whileS_of {tc : M Bool} {tb : SS} {n : Nat} {δ : Sl} {r : Except Exn Fl × Sl} (h : whileN tc tb n δ = some r) : whileS tc tb δ = some r := by
  have hx : ∃ n r, whileN tc tb n δ = some r := ⟨n, r, h⟩
  unfold whileS
  rw [dif_pos hx]
  obtain ⟨r', e⟩ := hx.choose_spec
  have a := whileN_le e (Nat.le_max_left hx.choose n)
  have b := whileN_le h (Nat.le_max_right hx.choose n)
  rw [a] at b
  rw [e]
  exact b
theorem whileS_to {tc : M Bool} {tb : SS} {δ : Sl} {r : Except Exn Fl × Sl} (h : whileS tc tb δ = some r) : ∃ n, whileN tc tb n δ = some r := by
  unfold whileS at h
  split at h
  · rename_i hx; exact ⟨_, h⟩
  · cases h
/-- one turn of it -/
theorem whileS_eq (tc : M Bool) (tb : SS) : whileS tc tb = M.bind tc fun b => if b then M.bind tb (fun f => match f with
      | .nx => whileS tc tb
      | .ct => whileS tc tb
      | .bk => M.pure .nx
      | .rt v => M.pure (.rt v)) else M.pure .nx := by
  funext δ
  cases e : whileS tc tb δ with
  | some r =>
    obtain ⟨n, h⟩ := whileS_to e
    cases n with
    | zero => cases h
    | succ n =>
      rw [whileN] at h
      refine (bind_mono (fun b δ' r h => ?_) h).symm
      cases b with
      | false => exact h
      | true =>
        refine bind_mono (fun f δ' r h => ?_) h
        cases f with
        | nx => exact whileS_of h
        | ct => exact whileS_of h
        | bk => exact h
        | rt v => exact h
  | none =>
    cases q : M.bind tc (fun b => if b then M.bind tb (fun f => match f with
      | .nx => whileS tc tb
      | .ct => whileS tc tb
      | .bk => M.pure .nx
      | .rt v => M.pure (.rt v)) else M.pure .nx) δ with
    | none => rfl
    | some r =>
      have : ∃ n, whileN tc tb n δ = some r := by
        unfold M.bind at q
        cases e1 : tc δ with
        | none => rw [e1] at q; cases q
        | some p =>
          obtain ⟨b, δ1⟩ := p
          cases b with
          | error ex => rw [e1] at q; exact ⟨1, by rw [whileN, bind_err e1]; exact q⟩
          | ok b =>
            cases b with
            | false => rw [e1] at q; exact ⟨1, by rw [whileN, bind_ok e1]; exact q⟩
            | true =>
              rw [e1] at q
              have q' : M.bind tb (fun f => match f with
                | .nx => whileS tc tb
                | .ct => whileS tc tb
                | .bk => M.pure .nx
                | .rt v => M.pure (.rt v)) δ1 = some r := q
              cases e2 : tb δ1 with
              | none => rw [bind_none e2] at q'; cases q'
              | some p =>
                obtain ⟨f, δ2⟩ := p
                cases f with
                | error ex => rw [bind_err e2] at q'; exact ⟨1, by rw [whileN, bind_ok e1]; show M.bind tb _ δ1 = _; rw [bind_err e2]; exact q'⟩
                | ok f =>
                  rw [bind_ok e2] at q'
                  cases f with
                  | nx => obtain ⟨n, h⟩ := whileS_to q'; exact ⟨n + 1, by rw [whileN, bind_ok e1]; show M.bind tb _ δ1 = _; rw [bind_ok e2]; exact h⟩
                  | ct => obtain ⟨n, h⟩ := whileS_to q'; exact ⟨n + 1, by rw [whileN, bind_ok e1]; show M.bind tb _ δ1 = _; rw [bind_ok e2]; exact h⟩
                  | bk => exact ⟨1, by rw [whileN, bind_ok e1]; show M.bind tb _ δ1 = _; rw [bind_ok e2]; exact q'⟩
                  | rt v => exact ⟨1, by rw [whileN, bind_ok e1]; show M.bind tb _ δ1 = _; rw [bind_ok e2]; exact q'⟩
      obtain ⟨n, h⟩ := this
      rw [whileS_of h] at e
      cases e
theorem ds_while {c : Expr} {body : List Stmt} {tc : M Bool} {tb : SS} (hc : DT X c tc) (hb : DSs X m body tb) : DS X m (.While c body [] pos) (whileS tc tb) :=
  ⟨fun B W cg hm => PS_weak (ps_while cg.pass (hc.run B W cg) (hb.run B W cg hm)) fun D σ H ⟨δ, L, s, q⟩ => by
    have st : ∃ n, JS X.mg B W L D (whileN tc tb n δ) := by
      cases e : whileS tc tb δ with
      | none => rw [e] at q; exact q.elim
      | some r => obtain ⟨n, h⟩ := whileS_to e; rw [e] at q; exact ⟨n, by rw [h]; exact q⟩
    refine ⟨fun n σ H => ∃ δ, SR B σ δ (tmL L) H ∧ JS X.mg B W L D (whileN tc tb n δ), ?_, ?_⟩
    · obtain ⟨n, h⟩ := st; exact ⟨n, δ, s, h⟩
    · rintro n σ H ⟨δ, s, q⟩
      cases n with
      | zero => exact q.elim
      | succ n =>
        rw [whileN] at q
        refine tDT_next (M' := []) knS s q fun H1 b δ1 s q => ?_
        cases b with
        | false => exact q σ H1 s
        | true =>
          refine ⟨fun σ' H' => ∃ δ', SR B σ' δ' (tmL L) H' ∧ JS X.mg B W L D (whileN tc tb n δ'), fun σ' H' h => ⟨n, Nat.lt_succ_self n, h⟩, δ1, L, s, ?_⟩
          have q' : JS X.mg B W L D (M.bind tb (fun f => match f with
                | .nx => whileN tc tb n
                | .ct => whileN tc tb n
                | .bk => M.pure .nx
                | .rt v => M.pure (.rt v)) δ1) := q
          cases e2 : tb δ1 with
          | none => rw [bind_none e2] at q'; exact q'.elim
          | some p =>
            obtain ⟨f, δ2⟩ := p
            cases f with
            | error ex => rw [bind_err e2] at q'; exact q'
            | ok f =>
              rw [bind_ok e2] at q'
              cases f with
              | nx => exact fun σ' H' s' => ⟨δ2, s', q'⟩
              | ct => exact fun σ' H' s' => ⟨δ2, s', q'⟩
              | bk => exact q'
              | rt v => exact q'⟩
end
end Nv

set_option Elab.async false
set_option linter.all false
set_option maxRecDepth 100000
set_option maxHeartbeats 1000000
/-! The data layer, part 9: targets, assignments, lists that grow. -/
namespace Nv
open PySem PySem.Spec PyProof.Rows L2
variable [Tbs]

section
variable {B : Bs} {σ : L2.St} {δ : Sl} {H H' : Hp} {P : List (V × Val)} {L : List (V × Val)}
theorem prs_out : ∀ {σ : L2.St} {δ : Sl} {i : Nat}, Own B H (prs σ δ ++ P) → Own B H (prs σ (δ.set i none) ++ P) := by
  intro σ δ i o
  cases e : atSl δ i with
  | none =>
    by_cases hl : i < δ.length
    · rw [set_none_same hl e]; exact o
    · rw [List.set_eq_of_length_le (Nat.le_of_not_lt hl)]; exact o
  | some v =>
    cases hx : σ[i]? with
    | none =>
      have : prs σ (δ.set i none) = prs σ δ := by
        clear o
        induction σ generalizing δ i with
        | nil => cases δ <;> rfl
        | cons a σ ih =>
          cases δ with
          | nil => rfl
          | cons p δ =>
            cases i with
            | zero => simp at hx
            | succ i =>
              have := ih (δ := δ) (i := i) (by rw [atSl_cons] at e; exact e) (by simpa using hx)
              rw [List.set_cons_succ]
              cases a <;> cases p <;> simp only [prs] <;> first | exact this | (rw [this])
      rw [this]; exact o
    | some y =>
      cases y with
      | none =>
        have : prs σ (δ.set i none) = prs σ δ := by
          clear o
          induction σ generalizing δ i with
          | nil => simp at hx
          | cons a σ ih =>
            cases δ with
            | nil => rfl
            | cons p δ =>
              cases i with
              | zero => simp at hx; subst hx; cases p <;> rfl
              | succ i =>
                have := ih (δ := δ) (i := i) (by rw [atSl_cons] at e; exact e) (by simpa using hx)
                rw [List.set_cons_succ]
                cases a <;> cases p <;> simp only [prs] <;> first | exact this | (rw [this])
        rw [this]; exact o
      | some x =>
        have p := (prs_take e hx).append_right P
        exact (o.perm p).drop
theorem prs_set_V : ∀ {σ : L2.St} {δ : Sl} {i : Nat} {y : Option V}, atSl δ i = none → prs (σ.set i y) δ = prs σ δ
  | [], δ, i, y, h => by simp
  | a :: σ, [], i, y, h => by cases i <;> cases y <;> cases a <;> rfl
  | a :: σ, p :: δ, 0, y, h => by
    rw [List.set_cons_zero]
    cases p with
    | none => rw [prs_cons_skip, prs_cons_skip]
    | some v => simp [atSl] at h
  | a :: σ, p :: δ, i + 1, y, h => by
    rw [atSl_cons] at h
    have ih := prs_set_V (σ := σ) (δ := δ) (i := i) (y := y) h
    rw [List.set_cons_succ]
    cases a <;> cases p <;> simp only [prs] <;> first | exact ih | (rw [ih])
theorem atSl_out {δ : Sl} {i : Nat} (h : ¬ i < δ.length) : atSl δ i = none := by
  unfold atSl
  rw [List.getElem?_eq_none (Nat.le_of_not_lt h)]
/-- a name is stored -/
theorem SR.assign {i : Nat} {x : V} {v : Val} (s : SR B σ δ ((x, .tm v) :: tmL L) H) (hi : i < δ.length) (hp : i ∉ B.pn.map Prod.fst) : SR B (σ.set i (some x)) (δ.set i (some v)) (tmL L) H := by
  have o := s.pop
  rw [tms_tmL] at o
  have hl : i < σ.length := by rw [← s.len]; exact hi
  have o1 : Own B H (prs σ δ ++ ((x, v) :: L)) := o.perm List.perm_middle.symm
  have o2 := prs_out (i := i) o1
  have n : atSl (δ.set i none) i = none := atSl_set_self hi
  have o3 : Own B H (prs (σ.set i (some x)) (δ.set i none) ++ ((x, v) :: L)) := by rw [prs_set_V n]; exact o2
  have hx : (σ.set i (some x))[i]? = some (some x) := by rw [List.getElem?_set_self hl]
  refine ⟨by simpa using s.len, ?_, fun j w q => ?_, fun z j q => (no_sl' q).elim, fun p hp' => ?_⟩
  · rw [tms_tmL]
    refine o3.perm ?_
    exact List.perm_middle.trans ((prs_put (v := v) hi hx).symm.append_right L)
  · by_cases hj : i = j
    · subst hj; exact ⟨x, hx⟩
    · rw [atSl_set_ne hj] at q
      obtain ⟨y, hy⟩ := s.has j w q
      exact ⟨y, by rw [List.getElem?_set_ne hj]; exact hy⟩
  · rw [List.getElem?_set_ne (fun e => hp (by rw [e]; exact List.mem_map_of_mem hp'))]
    exact s.pin p hp'
/-- a slot is forgotten -/
theorem SR.forget1 {i : Nat} (s : SR B σ δ (tmL L) H) : SR B σ (δ.set i none) (tmL L) H := by
  refine ⟨by simpa using s.len, prs_out s.own, fun j w q => ?_, s.sl, s.pin⟩
  by_cases hj : i = j
  · subst hj
    by_cases hl : i < δ.length
    · rw [atSl_set_self hl] at q; cases q
    · rw [atSl_out (by simpa using hl)] at q; cases q
  · rw [atSl_set_ne hj] at q; exact s.has j w q
end
def forget : List Nat → Sl → Sl
  | [], δ => δ
  | i :: is, δ => forget is (δ.set i none)
theorem SR.forget {B : Bs} {σ : L2.St} {H : Hp} {L : List (V × Val)} : ∀ {is : List Nat} {δ : Sl}, SR B σ δ (tmL L) H → SR B σ (forget is δ) (tmL L) H
  | [], _, s => s
  | _ :: is, _, s => SR.forget (is := is) s.forget1
/-- behind a statement that goes on some slots are forgotten -/
def fgS (is : List Nat) (t : SS) : SS := fun δ => match t δ with
  | some (.ok .nx, δ') => some (.ok .nx, forget is δ')
  | some (.ok .ct, δ') => some (.ok .ct, forget is δ')
  | some (.ok .bk, δ') => some (.ok .bk, forget is δ')
  | r => r

/-! ### targets -/
abbrev GS := Val → M Unit
def Agree (ws : List Nat) (σ σ' : L2.St) : Prop := σ'.length = σ.length ∧ ∀ j, j ∉ ws → σ'[j]? = σ[j]?
def JG (B : Bs) (ws : List Nat) (σ : L2.St) (L : List (V × Val)) (Q : L2.St → Hp → Prop) : Option (Except Exn Unit × Sl) → Prop
  | some (.ok _, δ') => ∀ σ' H', SR B σ' δ' (tmL L) H' → Agree ws σ σ' → Q σ' H'
  | _ => False
def tDG (B : Bs) (ws : List Nat) (g : GS) : TG := fun v σ H Q => ∃ δ L val, SR B σ δ ((v, .tm val) :: tmL L) H ∧ JG B ws σ L Q (g val δ)
/-- ws: the slots that may be stored -/
structure DG (X : Cx) (m ws : List Nat) (tg : Expr) (g : GS) : Prop where
  run : ∀ B W, Cg X B W → B.pn.map Prod.fst = m → PG X tg (tDG B ws g)
def tDGs (B : Bs) (ws : List Nat) (g : List PyData → M Unit) : TGs := fun vs σ H Q => ∃ δ L ds, vs.length = ds.length ∧ SR B σ δ (vs.zip (ds.map tmD) ++ tmL L) H ∧ JG B ws σ L Q (g ds δ)
structure DGs (X : Cx) (m ws : List Nat) (tgs : List Expr) (g : List PyData → M Unit) : Prop where
  run : ∀ B W, Cg X B W → B.pn.map Prod.fst = m → PGs X tgs (tDGs B ws g)
theorem PG_weak {X : Cx} {e : Expr} {t t' : TG} (h : PG X e t) (w : ∀ v σ H Q, t' v σ H Q → t v σ H Q) : PG X e t' := ⟨fun pins s σ H v u Q I r q => h.run pins s σ H v u Q I r (w v σ H Q q)⟩
theorem PGs_weak {X : Cx} {e : List Expr} {t t' : TGs} (h : PGs X e t) (w : ∀ v σ H Q, t' v σ H Q → t v σ H Q) : PGs X e t' := ⟨fun pins s σ H v u Q I r q => h.run pins s σ H v u Q I r (w v σ H Q q)⟩
def nmG (i : Nat) : GS := fun v δ => if i < δ.length then some (.ok (), δ.set i (some v)) else none
def nilG : List PyData → M Unit
  | [] => fun δ => some (.ok (), δ)
  | _ => fun _ => none
def consG (g : GS) (gs : List PyData → M Unit) : List PyData → M Unit
  | d :: ds => fun δ => match g (.d d) δ with
    | some (.ok _, δ') => gs ds δ'
    | _ => none
  | [] => fun _ => none
def tupG (n : Nat) (gs : List PyData → M Unit) : GS
  | .d (.tuple ds) => if ds.length = n then gs ds else fun _ => none
  | _ => fun _ => none
def asgS (te : ES) (g : GS) : SS := M.bind te fun r δ => match r.own δ with
  | some v => (match g v δ with
    | some (.ok _, δ') => some (.ok .nx, δ')
    | _ => none)
  | none => none
theorem tmL_data : ∀ (vs : List V) (ds : List PyData), tmL (vs.zip (ds.map Val.d)) = vs.zip (ds.map tmD)
  | [], _ => by simp [tmL]
  | _ :: _, [] => by simp [tmL]
  | v :: vs, d :: ds => by
    rw [List.map_cons, List.map_cons, List.zip_cons_cons, List.zip_cons_cons]
    show (v, tmD d) :: tmL (vs.zip (ds.map Val.d)) = _
    rw [tmL_data vs ds]
theorem tmL_append (L M : List (V × Val)) : tmL (L ++ M) = tmL L ++ tmL M := List.map_append
theorem SR.own1 {B : Bs} {σ : L2.St} {δ : Sl} {L : List (V × Rs)} {H : Hp} {x : V} {r : Rs} {v : Val} (s : SR B σ δ ((x, r) :: L) H) (e : r.own δ = some v) : SR B σ δ ((x, .tm v) :: L) H := by
  have q := s.owns (xs := [x]) (rs := [r]) (vs := [v]) rfl (by unfold getOs; rw [e]; rfl)
  exact s.drop1.push q.1
section
variable {X : Cx} {m : List Nat} {e tg : Expr} {te : ES} {g : GS} {pos p : Pos}
theorem dg_name {i : Nat} {x : Str} (hN : X.N.Nodup) (hi : X.N[i]? = some x) (hx : Loc X.env.scope x) (him : i ∉ m) (hf : X.fn x = true ∨ X.env.scope.names.lookup x = some .local := by first | exact .inl rfl | exact .inr rfl | assumption) : DG X m [i] (.Name x p) (nmG i) :=
  ⟨fun B W c hm => PG_weak (pg_name hN hi hx hf) fun v σ H Q ⟨δ, L, val, s, q⟩ => by
    unfold nmG at q
    split at q
    · rename_i hl
      refine q _ _ (s.assign hl (by rw [hm]; exact him)) ⟨by simp, fun j hj => ?_⟩
      rw [List.getElem?_set_ne (fun e => hj (by simp [e]))]
    · exact q.elim⟩
theorem dgs_nil : DGs X m [] [] nilG := ⟨fun B W c hm => PGs_weak pgs_nil fun vs σ H Q ⟨δ, L, ds, hl, s, q⟩ => by
  cases ds with
  | nil =>
    cases vs with
    | nil => exact ⟨rfl, q σ H s ⟨rfl, fun _ _ => rfl⟩⟩
    | cons _ _ => simp at hl
  | cons _ _ => exact q.elim⟩
theorem dgs_cons {es : List Expr} {ws1 ws2 : List Nat} {gs : List PyData → M Unit} (h1 : DG X m ws1 e g) (h2 : DGs X m ws2 es gs) (hs : (assignEach (e :: es) X.env).map (·.2) = assign e X.env :: (assignEach es X.env).map (·.2) := by rfl) : DGs X m (ws1 ++ ws2) (e :: es) (consG g gs) :=
  ⟨fun B W c hm => PGs_weak (pgs_cons (h1.run B W c hm) (h2.run B W c hm) hs) fun vs σ H Q ⟨δ, L, ds, hl, s, q⟩ => by
    cases ds with
    | nil => exact q.elim
    | cons d ds =>
      cases vs with
      | nil => simp at hl
      | cons v vs =>
        refine ⟨v, vs, rfl, δ, vs.zip (ds.map Val.d) ++ L, .d d, ?_, ?_⟩
        · rw [tmL_append, tmL_data]; exact s
        · unfold consG at q
          cases e1 : g (.d d) δ with
          | none => simp only [e1] at q; exact q.elim
          | some r =>
            obtain ⟨r, δ'⟩ := r
            cases r with
            | error _ => simp only [e1] at q; exact q.elim
            | ok _ =>
              simp only [e1] at q
              intro σ' H' s' ag
              rw [tmL_append, tmL_data] at s'
              refine ⟨δ', L, ds, by simpa using hl, s', ?_⟩
              cases e2 : gs ds δ' with
              | none => rw [e2] at q; exact q.elim
              | some r =>
                obtain ⟨r, δ2⟩ := r
                rw [e2] at q
                cases r with
                | error _ => exact q.elim
                | ok _ => exact fun σ2 H2 s2 ag2 => q σ2 H2 s2 ⟨ag2.1.trans ag.1, fun j hj => (ag2.2 j fun h => hj (List.mem_append_right _ h)).trans (ag.2 j fun h => hj (List.mem_append_left _ h))⟩⟩
theorem dg_tup {es : List Expr} {ws : List Nat} {k : Nat} {n : Nat} {gs : List PyData → M Unit} (h : DGs X m ws es gs) (hn : (assignEach es X.env).length = n := by rfl) (hst : (assignEach es X.env).findIdx? (·.1) = none := by rfl) : DG X m ws (.Tuple es k pos) (tupG n gs) :=
  ⟨fun B W c hm => PG_weak (pg_tup c.calm (h.run B W c hm) hn hst) fun v σ H Q ⟨δ, L, val, s, q⟩ => by
    unfold tupG at q
    split at q
    · rename_i ds
      split at q
      · rename_i hl
        obtain ⟨Z, fp, o, vw⟩ := SR.open (M' := [(v, .tm (.d (.tuple ds)))]) s
        obtain ⟨a, vs, rfl, h1, r⟩ := (vw v _ _ List.mem_cons_self rfl).tup
        exact ⟨a, vs, rfl, c.k ▸ h1, by rw [r.length]; exact hl, δ, L, ds, r.length, s.drop1.data ⟨Z, fp, OwnZ.addRL r o⟩, q⟩
      · exact q.elim
    · exact q.elim⟩
theorem ds_asg {ws : List Nat} (he : DE X e te) (hg : DG X m ws tg g) (hs : swapsWithSole [tg] e pos.line X.env = pure false := by rfl) (hw : swappedStores [tg] e X.env = pure none := by rfl)
    (h1 : (assignEach [tg] X.env).map (·.2) = [assign tg X.env] := by rfl) : DS X m (.Assign [tg] e pos) (asgS te g) :=
  ⟨fun B W c hm => PS_weak (ps_asg (he.run B W c) (hg.run B W c hm) hs hw h1) fun D σ H ⟨δ, L, s, q⟩ => tD_next (M' := []) knS s q fun x H1 r δ s q => by
    cases e1 : r.own δ with
    | none => simp only [e1] at q; exact q.elim
    | some v =>
      simp only [e1] at q
      refine ⟨δ, L, v, s.own1 e1, ?_⟩
      cases e2 : g v δ with
      | none => simp only [e2] at q; exact q.elim
      | some r =>
        obtain ⟨r, δ'⟩ := r
        cases r with
        | error _ => simp only [e2] at q; exact q.elim
        | ok _ => simp only [e2] at q; exact fun σ' H' s' _ => q σ' H' s'⟩
theorem ds_fg {st : Stmt} {t : SS} (is : List Nat) (h : DS X m st t) : DS X m st (fgS is t) :=
  ⟨fun B W c hm => PS_weak (h.run B W c hm) fun D σ H ⟨δ, L, s, q⟩ => by
    refine ⟨δ, L, s, ?_⟩
    unfold fgS at q
    cases e : t δ with
    | none => rw [e] at q; exact q
    | some r =>
      obtain ⟨r, δ'⟩ := r
      rw [e] at q
      cases r with
      | error _ => exact q
      | ok f =>
        cases f with
        | nx => exact fun σ' H' s' => q σ' H' s'.forget
        | ct => exact fun σ' H' s' => q σ' H' s'.forget
        | bk => exact fun σ' H' s' => q σ' H' s'.forget
        | rt _ => exact q⟩
/-- name op= e -/
def augS (i : Nat) (f : Val → Val → Option Val) (te : ES) : SS := fun δ => match atSl δ i with
  | none => none
  | some _ => M.bind te (fun r δ => match (atSl δ i).bind fun a => (r.get δ).bind fun b => f a b with
    | some z => some (.ok .nx, δ.set i (some z))
    | none => none) δ
theorem ds_aug {i : Nat} {x : Str} {op : Operator} {f : Val → Val → Option Val} {pos' : Pos} (hN : X.N.Nodup) (hi : X.N[i]? = some x) (hx : Loc X.env.scope x) (him : i ∉ m) (he : DE X e te) (ho : OpOk X (inplaceOp op) f)
    (hf : X.fn x = true ∨ X.env.scope.names.lookup x = some .local := by first | exact .inl rfl | exact .inr rfl | assumption) : DS X m (.AugAssign (.Name x pos') op e pos) (augS i f te) :=
  ⟨fun B W c hm => PS_weak (ps_aug (ti := rD2 X.K f) hN hi hx (he.run B W c) (fun pins s σ H x y v u Q I rx ry h => ho.opR pins s σ H x y v u Q I rx ry h) hf) fun D σ H ⟨δ, L, s, q⟩ => by
    unfold augS at q
    cases e0 : atSl δ i with
    | none => simp only [e0] at q; exact q.elim
    | some v0 =>
      simp only [e0] at q
      obtain ⟨x0, hx0⟩ := s.has i v0 e0
      refine ⟨x0, hx0, tD_next (M' := []) knS s q fun y H1 r δ s q => ?_⟩
      cases e1 : atSl δ i with
      | none => simp only [e1] at q; exact q.elim
      | some a =>
        cases e2 : r.get δ with
        | none => simp only [e1, e2] at q; exact q.elim
        | some b =>
          cases e3 : f a b with
          | none => simp only [e1, e2, Option.bind_some, e3] at q; exact q.elim
          | some z =>
            simp only [e1, e2, Option.bind_some, e3] at q
            have hl := atSl_lt e1
            obtain ⟨Z, fp, o, vw⟩ := SR.open (M' := [(x0, .sl i), (y, r)]) ((s.slot (x := x0) (i := i) hx0))
            exact ⟨B, _, Z, fp, a, b, z, c.k, o, vw x0 (.sl i) a (by simp) e1, vw y r b (by simp) e2, e3, fun zv H' o' => q _ _ ((s.drop1.push o').assign hl (by rw [hm]; exact him))⟩⟩
end
end Nv

set_option Elab.async false
set_option linter.all false
set_option maxRecDepth 100000
set_option maxHeartbeats 1000000
/-! The data layer, part 10: owned lists that change; several names at once. -/
namespace Nv
open PySem PySem.Spec PyProof.Rows L2
variable [Tbs]

abbrev tmP (L : List (V × Val)) : List (V × Rs) := tmL L
theorem tms_tmP (L : List (V × Val)) : tms (tmP L) = L := tms_tmL L
theorem no_slP {x : V} {i : Nat} {L : List (V × Val)} : (x, Rs.sl i) ∉ tmP L := no_sl'
section
variable {B : Bs} {σ : L2.St} {δ : Sl} {L : List (V × Rs)} {H : Hp}
/-- the owned list in a slot, written: qs are taken from what is at hand -/
theorem SR.writeList {i : Nat} {x : V} {xs : List Val} {qs : List (V × Val)} (s : SR B σ δ L H) (hx : σ[i]? = some (some x)) (e : atSl δ i = some (.ol xs)) (o : Own B H (qs ++ (prs σ δ ++ tms L)))
    (f d : List (V × Val) → List (V × Val)) (hf : ∀ p0 : List (V × Val), p0.map Prod.snd = xs → (p0 ++ qs).Perm (f p0 ++ d p0)) :
    ∃ a vs, x = .ref a ∧ H a = some (.lst vs) ∧ vs.length = xs.length ∧ SR B σ (δ.set i (some (.ol ((f (vs.zip xs)).map Prod.snd)))) (tmP (d (vs.zip xs)) ++ L) (upd H a (.lst ((f (vs.zip xs)).map Prod.fst))) := by
  have pt := prs_take e hx
  have o1 : Own B H ((x, .ol xs) :: qs ++ (prs σ (δ.set i none) ++ tms L)) := by
    refine o.perm ?_
    refine (List.Perm.append_left qs ((pt.append_right (tms L)))).trans ?_
    exact List.perm_middle
  obtain ⟨Z, fp, oz⟩ := id o1
  obtain ⟨fx, tx⟩ := oz.tr.mem (x := x) (v := .ol xs) List.mem_cons_self
  obtain ⟨a, vs, ps, g, rfl, h1, h2, h3, _⟩ := View.ol (B := B) ⟨fx, tx⟩
  have hz : vs.zip xs = ps := by
    subst h2; subst h3
    rw [List.zip_map']
    simp
  obtain ⟨ws, k1, k2, k3⟩ := o1.write (ps := f (vs.zip xs)) (ds := d (vs.zip xs)) fun ws p0 w1 w2 w3 => by
    rw [h1] at w1; cases w1
    have : p0 = vs.zip xs := by
      subst w3
      rw [w2, List.zip_map']
      simp
    rw [← this]
    exact hf p0 w3.symm
  rw [h1] at k1; cases k1
  have hl := atSl_lt e
  have hz2 : atSl (δ.set i none) i = none := atSl_set_self hl
  refine ⟨a, vs, rfl, h1, k2, by simpa using s.len, k3.perm ?_, fun j w q => ?_, fun z j q => ?_, s.pin⟩
  · rw [tms_append, tms_tmP]
    show ((V.ref a, Val.ol ((f (vs.zip xs)).map Prod.snd)) :: (d (vs.zip xs) ++ (prs σ (δ.set i none) ++ tms L))).Perm _
    refine (List.Perm.cons _ ?_).trans ((prs_put (v := .ol _) hl hx).symm.append_right _)
    show (d (vs.zip xs) ++ (prs σ (δ.set i none) ++ tms L)).Perm (prs σ (δ.set i none) ++ (d (vs.zip xs) ++ tms L))
    rw [← List.append_assoc, ← List.append_assoc]
    exact List.perm_append_comm.append_right _
  · by_cases hj : i = j
    · subst hj; exact ⟨_, hx⟩
    · rw [atSl_set_ne hj] at q; exact s.has j w q
  · rcases List.mem_append.mp q with q | q
    · exact (no_slP q).elim
    · exact s.sl z j q
theorem SR.isList {i : Nat} {x : V} {xs : List Val} (s : SR B σ δ L H) (hx : σ[i]? = some (some x)) (e : atSl δ i = some (.ol xs)) : ∃ a vs, x = .ref a ∧ H a = some (.lst vs) ∧ vs.length = xs.length := by
  obtain ⟨Z, fp, o⟩ := s.own
  obtain ⟨f, t⟩ := o.tr.mem (List.mem_append_left _ (mem_prs hx e))
  obtain ⟨a, vs, ps, g, rfl, h1, h2, h3, _⟩ := View.ol (B := B) ⟨f, t⟩
  exact ⟨a, vs, rfl, h1, by rw [h2, h3, List.length_map, List.length_map]⟩
end
def listAt (i : Nat) (δ : Sl) : Option (List Val) := match atSl δ i with
  | some (.ol xs) => some xs
  | _ => none
theorem listAt_some {i : Nat} {δ : Sl} {xs : List Val} (h : listAt i δ = some xs) : atSl δ i = some (.ol xs) := by
  unfold listAt at h
  split at h
  · rename_i e; cases h; exact e
  · cases h
/-- x.append(e), x in slot i -/
def appS (i : Nat) (te : ES) : ES := fun δ => match listAt i δ with
  | none => none
  | some _ => M.bind te (fun r δ => match listAt i δ, r.own δ with
    | some xs, some v => if xs.length < sizeLine then some (.ok (.tm (.d .none)), δ.set i (some (.ol (xs ++ [v])))) else none
    | _, _ => none) δ
/-- what extend takes: an owned list at hand, or a list of data -/
def Rs.items (r : Rs) (δ : Sl) : Option (List Val) := match r with
  | .tm (.ol ys) => some ys
  | .sl i => (listAt i δ).bind fun ys => (allD ys).map fun ds => ds.map Val.d
  | _ => none
def extS (i : Nat) (te : ES) : ES := fun δ => match listAt i δ with
  | none => none
  | some _ => M.bind te (fun r δ => match listAt i δ, r.items δ with
    | some xs, some ys => if xs.length + ys.length ≤ sizeLine then some (.ok (.tm (.d .none)), δ.set i (some (.ol (xs ++ ys)))) else none
    | _, _ => none) δ
section
variable {X : Cx} {m : List Nat} {e : Expr} {te : ES} {pos p1 p2 : Pos}
theorem snd_zip_app {vs : List V} {xs : List Val} {qs : List (V × Val)} (hl : vs.length = xs.length) : (vs.zip xs ++ qs).map Prod.snd = xs ++ qs.map Prod.snd ∧ (vs.zip xs ++ qs).map Prod.fst = vs ++ qs.map Prod.fst := by
  rw [List.map_append, List.map_append, zip_snd hl, zip_fst hl]
  exact ⟨rfl, rfl⟩
theorem de_append {i : Nat} {x : Str} (hN : X.N[i]? = some x) (hv : Vis X.env.scope x) (he : DE X e te) (hd : (x == ("__debug__" : Str)) = false := by decide) (hcd : (x == ("__classdict__" : Str)) = false := by decide)
    (hbase : attributeBase (.Name x p1) "append" X.env (eval (.Name x p1) X.env) = eval (.Name x p1) X.env := by rfl) (hst : starEach (e :: []) X.env = (false, eval e X.env) :: starEach [] X.env := by rfl)
    (hfew : ((backTo pos (starEach (e :: []) X.env)).all (fun x => !x.1) && (backToKw pos (keywordEach [] X.env)).all (fun x => x.1.isSome)
      && decide ((e :: ([] : List Expr)).length + ([] : List Keyword).length + (if ([] : List Keyword).isEmpty then 0 else 1) < 30)) = true := by rfl) (hline : (p2.endLine == pos.line) = true := by rfl) :
    DE X (.Call (.Attribute (.Name x p1) "append" p2) [e] [] pos) (appS i te) :=
  ⟨fun B W c => PE_weak (pe_bm (T := "list") PySem.F.plainAttrs_list PySem.F.slot_list_append PySem.F.type_list_append mt_append (pe_var hN hv hd hcd) (pa_cons (he.run B W c) pa_nil hst) hbase hfew hline hst) fun σ H Q ⟨δ, L, s, q⟩ => by
    unfold appS at q
    cases e0 : listAt i δ with
    | none => simp only [e0] at q; exact q.elim
    | some xs0 =>
      simp only [e0] at q
      obtain ⟨x0, hx0⟩ := s.has i _ (listAt_some e0)
      obtain ⟨a, vs0, rfl, h1, _⟩ := s.isList hx0 (listAt_some e0)
      refine ⟨_, hx0, .inl ⟨rfl, _, SqL.of h1⟩, ?_⟩
      refine tD_next (M' := []) knE s q fun y H1 r δ s q => ?_
      cases e1 : listAt i δ with
      | none => simp only [e1] at q; exact q.elim
      | some xs =>
        cases e2 : r.own δ with
        | none => simp only [e1, e2] at q; exact q.elim
        | some v =>
          simp only [e1, e2] at q
          split at q
          · rename_i hz
            have s1 := s.own1 e2
            obtain ⟨b, vs, hb, k1, k2, k3⟩ := (s1.drop1).writeList (qs := [(y, v)]) hx0 (listAt_some e1) s1.pop (fun p0 => p0 ++ [(y, v)]) (fun _ => []) (fun p0 _ => by rw [List.append_nil])
            cases hb
            obtain ⟨z1, z2⟩ := snd_zip_app (qs := [(y, v)]) k2
            have k3' : SR B σ (δ.set i (some (.ol (xs ++ [v])))) L (upd H1 a (.lst (vs ++ [y]))) := by
              have := k3
              rw [z1, z2] at this
              exact this
            exact ⟨a, vs, y, rfl, rfl, k1, by rw [k2]; exact hz, q .non _ (k3'.push k3'.own.non)⟩
          · exact q.elim⟩
theorem de_extend {i : Nat} {x : Str} (hN : X.N[i]? = some x) (hv : Vis X.env.scope x) (he : DE X e te) (hd : (x == ("__debug__" : Str)) = false := by decide) (hcd : (x == ("__classdict__" : Str)) = false := by decide)
    (hbase : attributeBase (.Name x p1) "extend" X.env (eval (.Name x p1) X.env) = eval (.Name x p1) X.env := by rfl) (hst : starEach (e :: []) X.env = (false, eval e X.env) :: starEach [] X.env := by rfl)
    (hfew : ((backTo pos (starEach (e :: []) X.env)).all (fun x => !x.1) && (backToKw pos (keywordEach [] X.env)).all (fun x => x.1.isSome)
      && decide ((e :: ([] : List Expr)).length + ([] : List Keyword).length + (if ([] : List Keyword).isEmpty then 0 else 1) < 30)) = true := by rfl) (hline : (p2.endLine == pos.line) = true := by rfl) :
    DE X (.Call (.Attribute (.Name x p1) "extend" p2) [e] [] pos) (extS i te) :=
  ⟨fun B W c => PE_weak (pe_bm (T := "list") PySem.F.plainAttrs_list PySem.F.slot_list_extend PySem.F.type_list_extend mt_extend (pe_var hN hv hd hcd) (pa_cons (he.run B W c) pa_nil hst) hbase hfew hline hst) fun σ H Q ⟨δ, L, s, q⟩ => by
    unfold extS at q
    cases e0 : listAt i δ with
    | none => simp only [e0] at q; exact q.elim
    | some xs0 =>
      simp only [e0] at q
      obtain ⟨x0, hx0⟩ := s.has i _ (listAt_some e0)
      obtain ⟨a, vs0, rfl, h1, _⟩ := s.isList hx0 (listAt_some e0)
      refine ⟨_, hx0, .inl ⟨rfl, _, SqL.of h1⟩, ?_⟩
      refine tD_next (M' := []) knE s q fun y H1 r δ s q => ?_
      cases e1 : listAt i δ with
      | none => simp only [e1] at q; exact q.elim
      | some xs =>
        cases e2 : r.items δ with
        | none => simp only [e1, e2] at q; exact q.elim
        | some ys =>
          simp only [e1, e2] at q
          split at q
          · rename_i hz
            -- what is taken
            have tk : ∃ b ws, y = .ref b ∧ H1 b = some (.lst ws) ∧ ws.length = ys.length ∧ Own B H1 (ws.zip ys ++ (prs σ δ ++ tms L)) := by
              unfold Rs.items at e2
              split at e2
              · rename_i zs
                cases e2
                obtain ⟨Z, fp, oz⟩ := s.pop
                obtain ⟨tr, nd, nz, new, zt, zo, fr, tb⟩ := oz
                match fp, tr with
                | _, .cons (g := g2) (.ol (a := b) (vs := ws) (ps := p0) (fp := fa) e e1 e2 t) tr =>
                  refine ⟨b, ws, rfl, e, by rw [e1, e2, List.length_map, List.length_map], Z, fa ++ g2, ?_, (List.nodup_cons.mp nd).2, fun c hc => nz c (List.mem_cons_of_mem _ hc), fun c hc => new c (List.mem_cons_of_mem _ hc), zt, zo, fr, tb⟩
                  have : ws.zip ys = p0 := by
                    subst e1; subst e2
                    rw [List.zip_map']
                    simp
                  rw [this]
                  exact t.append tr
              · rename_i j
                cases e3 : listAt j δ with
                | none => rw [e3] at e2; cases e2
                | some zs =>
                  cases e4 : allD zs with
                  | none => rw [e3] at e2; simp only [Option.bind_some, e4] at e2; cases e2
                  | some ds =>
                    rw [e3] at e2
                    simp only [Option.bind_some, e4, Option.map_some, Option.some.injEq] at e2
                    subst e2
                    obtain ⟨Z, fp, oz, vw⟩ := SR.open (M' := [(y, .sl j)]) s
                    obtain ⟨b, ws, ps, g, rfl, h1, h2, h3, t⟩ := (vw y _ _ List.mem_cons_self (listAt_some e3)).ol
                    have rr : RepL B.K H1 Z ws ds := by rw [h2]; exact t.repD (by rw [← h3]; exact allD_some e4)
                    exact ⟨b, ws, rfl, h1, by rw [rr.length, List.length_map], Z, fp, OwnZ.addRL rr oz⟩
              · cases e2
            obtain ⟨b, ws, rfl, hb, hwl, ob⟩ := tk
            obtain ⟨c', vs, hc', k1, k2, k3⟩ := (s.drop1).writeList (qs := ws.zip ys) hx0 (listAt_some e1) ob (fun p0 => p0 ++ ws.zip ys) (fun _ => []) (fun p0 _ => by rw [List.append_nil])
            cases hc'
            obtain ⟨z1, z2⟩ := snd_zip_app (qs := ws.zip ys) k2
            have k3' : SR B σ (δ.set i (some (.ol (xs ++ ys)))) L (upd H1 a (.lst (vs ++ ws))) := by
              have := k3
              rw [z1, z2, zip_snd hwl, zip_fst hwl] at this
              exact this
            exact ⟨a, b, vs, ws, rfl, rfl, k1, hb, by rw [k2, hwl]; exact hz, q .non _ (k3'.push k3'.own.non)⟩
          · exact q.elim⟩

/-! ### x[i] = v, x[i] op= e of an owned list in a slot -/
def ixG (i : Nat) (ti : ES) : GS := fun val δ => match listAt i δ with
  | none => none
  | some _ => (match ti δ with
    | some (.ok r, δ) => (match listAt i δ, r.get δ with
      | some xs, some (.d (.int k)) => (match ixN xs.length k with
        | some j => some (.ok (), δ.set i (some (.ol (xs.set j val))))
        | none => none)
      | _, _ => none)
    | _ => none)
theorem set_zip {α β : Type} : ∀ {vs : List α} {xs : List β} {j : Nat} {v : α} {x : β}, (vs.zip xs).set j (v, x) = (vs.set j v).zip (xs.set j x)
  | [], _, j, _, _ => by simp
  | _ :: _, [], j, _, _ => by cases j <;> simp
  | a :: vs, b :: xs, 0, v, x => by simp
  | a :: vs, b :: xs, j + 1, v, x => by simp [set_zip (vs := vs) (xs := xs) (j := j)]
theorem ixN_lt {n : Nat} {k : Int} {j : Nat} (h : ixN n k = some j) : j < n := (ixN_seq h).2.1
theorem set_perm {α : Type} : ∀ {l : List α} {j : Nat} {a : α}, j < l.length → (l ++ [a]).Perm (l.set j a ++ (l[j]?).toList)
  | [], _, _, h => by simp at h
  | b :: l, 0, a, _ => by
      show (b :: (l ++ [a])).Perm (a :: (l ++ [b]))
      have h1 : (b :: (l ++ [a])).Perm (b :: a :: l) := List.Perm.cons _ (List.perm_append_comm (l₂ := [a]))
      have h2 : (a :: (l ++ [b])).Perm (a :: b :: l) := List.Perm.cons _ (List.perm_append_comm (l₂ := [b]))
      exact h1.trans ((List.Perm.swap _ _ _).trans h2.symm)
  | c :: l, j + 1, a, h => by
    have p := set_perm (l := l) (j := j) (a := a) (by simpa using h)
    rw [List.set_cons_succ, List.cons_append, List.cons_append, List.getElem?_cons_succ]
    exact p.cons c
theorem dg_ix {o : Str} {i : Nat} {b : Expr} {ti : ES} (hN : X.N[i]? = some o) (hv : Vis X.env.scope o) (hi : DE X b ti) (hd : (o == ("__debug__" : Str)) = false := by decide) (hcd : (o == ("__classdict__" : Str)) = false := by decide)
    (ha : ∀ v, assign (.Subscript (.Name o p1) b pos) X.env v = (do
      let ov ← holding [v] (eval (.Name o p1) X.env)
      let iv ← holding [v, ov] (eval b X.env)
      standAt pos
      holding [v, ov, iv] (setItem ov iv v)
      release [v, ov, iv] []) := by intro _; rfl) : DG X m [] (.Subscript (.Name o p1) b pos) (ixG i ti) :=
  ⟨fun B W c hm => PG_weak (pg_sub (pe_var hN hv hd hcd) (hi.run B W c) set_list ha) fun v σ H Q ⟨δ, L, val, s, q⟩ => by
    unfold ixG at q
    cases e00 : listAt i δ with
    | none => simp only [e00] at q; exact q.elim
    | some xs0 =>
      simp only [e00] at q
      obtain ⟨x0, hx0⟩ := s.has i _ (listAt_some e00)
      cases e0 : ti δ with
      | none => simp only [e0] at q; exact q.elim
      | some p =>
        obtain ⟨r, δ1⟩ := p
        cases r with
        | error _ => simp only [e0] at q; exact q.elim
        | ok r =>
          simp only [e0] at q
          cases e1 : listAt i δ1 with
          | none => simp only [e1] at q; exact q.elim
          | some xs =>
            cases e2 : r.get δ1 with
            | none => simp only [e1, e2] at q; exact q.elim
            | some w =>
              simp only [e1, e2] at q
              split at q
              · rename_i xs' k h1 h2
                cases h1; cases h2
                split at q
                · rename_i j hj
                  refine ⟨x0, hx0, δ, _, s, ?_⟩
                  rw [e0]
                  intro iv H2 s2
                  obtain ⟨Z, fp, o, vw⟩ := SR.open (M' := [(iv, r)]) s2
                  have hiv := (vw iv r _ List.mem_cons_self e2).int
                  subst hiv
                  have s3 := s2.drop1
                  obtain ⟨a', vs', rfl, m1, m2, m3⟩ := s3.drop1.writeList (qs := [(v, val)]) hx0 (listAt_some e1) s3.pop (fun p0 => p0.set j (v, val)) (fun p0 => (p0[j]?).toList) (fun p0 hp0 => set_perm (by
                    have := ixN_lt hj
                    rw [← hp0, List.length_map] at this
                    exact this))
                  refine ⟨a', vs', k, j, rfl, rfl, m1, by rw [m2]; exact hj, ?_⟩
                  have m4 := SR.drop m3
                  rw [set_zip, zip_snd (by simp [m2]), zip_fst (by simp [m2])] at m4
                  exact q _ _ m4 ⟨rfl, fun _ _ => rfl⟩
                · exact q.elim
              · exact q.elim⟩
end
end Nv

set_option Elab.async false
set_option linter.all false
set_option maxRecDepth 100000
set_option maxHeartbeats 1000000
/-! The data layer, part 11: x[i] op= e, several names at once, what is walked, for, comprehensions. -/
namespace Nv
open PySem PySem.Spec PyProof.Rows L2
variable [Tbs]
section
variable {X : Cx} {m : List Nat} {e : Expr} {te : ES} {pos p1 p2 : Pos}
theorem get_list : PGet X (rIxL X.K) := by
  intro pins s σ H o i ov iv Q I ro ri h
  obtain ⟨p, xs, k, z, rfl, rfl, hq, he, q⟩ := h
  cases ro
  obtain ⟨t, rfl⟩ := ri
  obtain ⟨its, r, pl, hz⟩ := I.list hq
  obtain ⟨j, h1, h2, h3, h4, h5⟩ := atI_get he
  obtain ⟨w, ew, rw'⟩ := r.get h2
  have hl := r.length
  have hn := line63
  have fin : EP X pins σ Q w s := ⟨z, H, I, rw', q⟩
  by_cases h0 : 0 ≤ k
  · have hj : k.toNat = j := by
      rw [seqIndex_of h0 h5] at h1
      exact Option.some.inj h1
    exact wpAny_getItem_list pl.isList h0 (by omega) (by rw [hj]; simpa using ew) fin
  · have hj : (k + (its.toArray.size : Int)).toNat = j := by
      rw [seqIndex_neg (by omega) h4] at h1
      rw [List.size_toArray, ← hl]
      exact Option.some.inj h1
    exact wpAny_getItem_list_neg pl.isList (by omega) (by rw [List.size_toArray] <;> omega) (by omega) (by rw [hj]; simpa using ew) fin
/-- x[k] op= e, k written -/
def augIx (i : Nat) (k : Int) (f : Val → Val → Option Val) (te : ES) : SS := fun δ => match listAt i δ with
  | none => none
  | some xs0 => (match atI xs0 k with
    | some (.d a) => M.bind te (fun r δ => match listAt i δ with
      | some xs => (match ixN xs.length k with
        | some j => (match (r.get δ).bind fun b => f (.d a) b with
          | some z => some (.ok .nx, δ.set i (some (.ol (xs.set j z))))
          | none => none)
        | none => none)
      | none => none) δ
    | _ => none)
theorem SR.dupD {B : Bs} {σ : L2.St} {δ : Sl} {L : List (V × Rs)} {H : Hp} {x : V} {d : PyData} {Z : Addr → Prop} {fp : List Addr} (s : SR B σ δ L H) (o : OwnZ B H (prs σ δ ++ tms L) Z fp) (r : Rep B.K H Z x d) : SR B σ δ ((x, tmD d) :: L) H := s.push (o.addR r)
theorem ds_augIx {o : Str} {i : Nat} {k : Int} {jk : Nat} {op : Operator} {posS : Pos} {f : Val → Val → Option Val} (hN : X.N[i]? = some o) (hv : Vis X.env.scope o) (he : DE X e te) (ho : OpOk X (inplaceOp op) f) (hd : (o == ("__debug__" : Str)) = false := by decide) (hcd : (o == ("__classdict__" : Str)) = false := by decide)
    (ha : ∀ ov iv new, augStore (.Constant (.int k) jk p2) ov iv new = (do holding [new, ov, iv] (setItem ov iv new); release [new, ov, iv] []; pure .next) := by intros; rfl) :
    DS X m (.AugAssign (.Subscript (.Name o p1) (.Constant (.int k) jk p2) posS) op e pos) (augIx i k f te) :=
  ⟨fun B W c hm => PS_weak (ps_augS (tip := rD2 X.K f) (pe_var hN hv hd hcd) pe_int get_list (he.run B W c) (fun pins s σ H x y v u Q I rx ry h => ho.opR pins s σ H x y v u Q I rx ry h) set_list ha) fun D σ H ⟨δ, L, s, q⟩ => by
    unfold augIx at q
    cases e0 : listAt i δ with
    | none => simp only [e0] at q; exact q.elim
    | some xs0 =>
      simp only [e0] at q
      obtain ⟨x0, hx0⟩ := s.has i _ (listAt_some e0)
      split at q
      · rename_i a ea
        obtain ⟨Z, fp, oz, vw⟩ := SR.open (M' := []) s
        obtain ⟨fx, tx⟩ := oz.tr.mem (List.mem_append_left _ (mem_prs hx0 (listAt_some e0)))
        obtain ⟨p, vs, ps, g, rfl, h1, h2, h3, t⟩ := View.ol (B := B) ⟨fx, tx⟩
        subst h2; subst h3
        obtain ⟨w, fw, hw1, hw2⟩ := atI_tr t ea
        refine ⟨_, hx0, ?_⟩
        refine ⟨p, _, k, w, rfl, rfl, SqL.of h1, hw1, ?_⟩
        have s1 : SR B σ δ ((w, tmD a) :: tmL L) H := s.dupD oz hw2.d_inv.2
        refine tD_next (M' := [(w, tmD a)]) knS s1 q fun y H1 r δ1 s q => ?_
        cases e1 : listAt i δ1 with
        | none => simp only [e1] at q; exact q.elim
        | some xs =>
          simp only [e1] at q
          split at q
          · rename_i j hj
            cases e2 : r.get δ1 with
            | none => simp only [e2, Option.bind_none] at q; exact q.elim
            | some b =>
              cases e3 : f (.d a) b with
              | none => simp only [e2, Option.bind_some, e3] at q; exact q.elim
              | some z =>
                simp only [e2, Option.bind_some, e3] at q
                obtain ⟨Z, fp, o2, vw2⟩ := SR.open (M' := [(y, r), (w, tmD a)]) s
                refine ⟨B, _, Z, fp, .d a, b, z, c.k, o2, vw2 w (tmD a) (.d a) (by simp [tmD]) rfl, vw2 y r b (by simp) e2, e3, fun zv H' o' => ?_⟩
                have s3 : SR B σ δ1 ((zv, .tm z) :: tmL L) H' := s.drop1.drop1.push o'
                obtain ⟨a', vs', ha', m1, m2, m3⟩ := s3.drop1.writeList (qs := [(zv, z)]) hx0 (listAt_some e1) s3.pop (fun p0 => p0.set j (zv, z)) (fun p0 => (p0[j]?).toList) (fun p0 hp0 => set_perm (by
                  have := ixN_lt hj
                  rw [← hp0, List.length_map] at this
                  exact this))
                cases ha'
                have m4 := SR.drop m3
                rw [set_zip, zip_snd (by simp [m2]), zip_fst (by simp [m2])] at m4
                exact ⟨_, vs', k, j, rfl, rfl, m1, by rw [m2]; exact hj, q σ _ m4⟩
          · exact q.elim
      · exact q.elim⟩

/-! ### a, b = x, y -/
def parS (i j : Nat) (tr : M (List Rs)) : SS := M.bind tr fun rs δ => match getOs rs δ with
  | some [v, w] => if i < δ.length ∧ j < δ.length then some (.ok .nx, (δ.set i (some v)).set j (some w)) else none
  | _ => none
theorem ds_par {i j : Nat} {x y : Str} {a b : Expr} {tr : M (List Rs)} {px py pt : Pos} {kt k2 pt2} (hN : X.N.Nodup) (hi : X.N[i]? = some x) (hj : X.N[j]? = some y) (hij : i ≠ j) (him : i ∉ m) (hjm : j ∉ m)
    (hx : X.env.scope.names.lookup x = some .local) (hy : X.env.scope.names.lookup y = some .local) (ha : DA X [a, b] tr)
    (hw : swappedStores [.Tuple [.Name x px, .Name y py] kt pt] (.Tuple [a, b] k2 pt2) X.env = pure (some [x, y]))
    (hs : swapsWithSole [.Tuple [.Name x px, .Name y py] kt pt] (.Tuple [a, b] k2 pt2) pos.line X.env = pure false := by rfl) :
    DS X m (.Assign [.Tuple [.Name x px, .Name y py] kt pt] (.Tuple [a, b] k2 pt2) pos) (parS i j tr) :=
  ⟨fun B W c hm => PS_weak (ps_par c.calm hN hi hj hij hx hy (ha.run B W c) hw hs) fun D σ H ⟨δ, L, s, q⟩ => by
    refine tDA_next (M' := []) knS s q fun xs H1 rs δ hl s q => ?_
    cases e1 : getOs rs δ with
    | none => simp only [e1] at q; exact q.elim
    | some vs =>
      simp only [e1] at q
      split at q
      · rename_i v w e2
        cases e2
        split at q
        · rename_i hlt
          obtain ⟨o, hl2⟩ := s.owns hl e1
          match xs, hl2 with
          | [x1, x2], _ =>
            have s0 : SR B σ δ (tmL L) H1 := s.drop
            have s1 : SR B σ δ ((x1, .tm v) :: tmL ((x2, w) :: L)) H1 := by
              have o' : Own B H1 ((x1, v) :: (x2, w) :: (prs σ δ ++ L)) := by
                have := o
                rw [tms_append] at this
                simpa [tms_tmL, tms] using this
              refine ⟨s0.len, ?_, s0.has, fun z k m' => ?_, s0.pin⟩
              · show Own B H1 (prs σ δ ++ ((x1, v) :: tms (tmL ((x2, w) :: L))))
                rw [tms_tmL]
                refine o'.perm ?_
                exact ((List.perm_middle (l₁ := prs σ δ)).symm.cons _).trans (List.perm_middle (l₁ := prs σ δ)).symm
              · rcases List.mem_cons.mp m' with m' | m'
                · injection m' with _ m'; cases m'
                · exact (no_sl' m').elim
            have s2 := s1.assign hlt.1 (by rw [hm]; exact him)
            have s3 : SR B (σ.set i (some x1)) (δ.set i (some v)) ((x2, .tm w) :: tmL L) H1 := s2
            exact ⟨x1, x2, rfl, q _ _ (s3.assign (by simpa using hlt.2) (by rw [hm]; exact hjm))⟩
        · exact q.elim
      · exact q.elim⟩
end

/-! ### what is walked -/
/-- J walks over the items ds as long as what is at L is kept -/
def Walks (K : PySem.W.Frag) (J : It) (L : List (V × Val)) (ds : List PyData) : Prop :=
  ∀ (B : Bs) (P : List (V × Val)) (H : Hp) (i : Nat), B.K = K → Own B H (L ++ P) →
    (∀ d, ds[i]? = some d → J.go i H ∧ ∀ x H', J.yld i H x H' → Own B H' ((x, .d d) :: (L ++ P))) ∧ (ds.length ≤ i → J.stop i H)
def JI (mg : Str → Option Value) (B : Bs) (W : WX) (σ : L2.St) (L : List (V × Rs)) (R : It → Hp → Prop) : Option (Except Exn (List PyData) × Sl) → Prop
  | some (.ok ds, δ') => ∀ J H' L', SR B σ δ' (tmL L' ++ L) H' → Walks B.K J L' ds → R J H'
  | some (.error ex, δ') => ∀ cls dd H', ExAt mg B σ δ' L ex cls dd H' → W cls dd σ H'
  | none => False
def tDI (mg : Str → Option Value) (B : Bs) (W : WX) (t : M (List PyData)) : TI := fun σ H R => ∃ δ L, SR B σ δ L H ∧ JI mg B W σ L R (t δ)
theorem knI {mg : Str → Option Value} {B : Bs} {W : WX} {σ : L2.St} {L : List (V × Rs)} {R : It → Hp → Prop} : Kn mg B W σ L (JI mg B W σ L R) := ⟨id, fun _ _ h => h⟩
structure DI (X : Cx) (tg iter : Expr) (t : M (List PyData)) : Prop where
  run : ∀ B W, Cg X B W → PI X tg iter (tDI X.mg B W t)
theorem PI_weak {X : Cx} {tg e : Expr} {t t' : TI} (h : PI X tg e t) (w : ∀ σ H Q, t' σ H Q → t σ H Q) : PI X tg e t' := ⟨fun pins s σ H Q I q => h.run pins s σ H Q I (w σ H Q q)⟩
theorem walks_list {K : PySem.W.Frag} {a : Addr} {v : Val} {ds : List PyData} (e : lstD v = some ds) : Walks K (Itl K a) [(.ref a, v)] ds := by
  rintro B P H i rfl o
  obtain ⟨Z, fp, oz⟩ := id o
  obtain ⟨f, t⟩ := oz.tr.mem (x := .ref a) (v := v) List.mem_cons_self
  obtain ⟨a', vs, ea, h1, r⟩ := View.lst (B := B) ⟨f, t⟩ e
  cases ea
  refine ⟨fun d hd => ?_, fun hl => ⟨vs, h1, by rw [r.length]; exact hl⟩⟩
  obtain ⟨x, hx, rx⟩ := r.get hd
  refine ⟨⟨vs, x, h1, hx⟩, fun y H' ⟨eH, hy⟩ => ?_⟩
  subst eH
  have := hy vs h1
  rw [hx] at this
  cases this
  exact oz.addR rx
theorem walks_tup {K : PySem.W.Frag} {a : Addr} {ds : List PyData} : Walks K (Itt K a) [(.ref a, .d (.tuple ds))] ds := by
  rintro B P H i rfl o
  obtain ⟨Z, fp, oz⟩ := id o
  obtain ⟨f, t⟩ := oz.tr.mem (x := .ref a) List.mem_cons_self
  obtain ⟨a', vs, ea, h1, r⟩ := View.tup (B := B) ⟨f, t⟩
  cases ea
  refine ⟨fun d hd => ?_, fun hl => ⟨vs, h1, by rw [r.length]; exact hl⟩⟩
  obtain ⟨x, hx, rx⟩ := r.get hd
  refine ⟨⟨vs, x, h1, hx⟩, fun y H' ⟨eH, hy⟩ => ?_⟩
  subst eH
  have := hy vs h1
  rw [hx] at this
  cases this
  exact oz.addR rx
def rangeD (lo : Int) (n : Nat) : List PyData := (List.range n).map fun i => .int (lo + (i : Nat))
theorem walks_range {K : PySem.W.Frag} {lo : Int} {n : Nat} : Walks K (Itr lo n) [] (rangeD lo n) := by
  rintro B P H i rfl o
  unfold rangeD
  refine ⟨fun d hd => ?_, fun hl => show n ≤ i by simpa using hl⟩
  have hi : i < n := by
    have := (List.getElem?_eq_some_iff.mp hd).1
    simpa using this
  refine ⟨hi, fun x H' ⟨e1, e2⟩ => ?_⟩
  subst e1; subst e2
  rw [List.getElem?_map, List.getElem?_range hi] at hd
  cases hd
  exact o.int
/-- a list or a tuple (data, or at hand) -/
def seqI (te : ES) : M (List PyData) := M.bind te fun r δ => match r.own δ with
  | some v => (match lstD v with
    | some ds => some (.ok ds, δ)
    | none => none)
  | none => none
def tupI (te : ES) : M (List PyData) := M.bind te fun r δ => match r.own δ with
  | some (.d (.tuple ds)) => some (.ok ds, δ)
  | _ => none
def rg1I (te : ES) : M (List PyData) := M.bind te fun r δ => match r.get δ with
  | some (.d (.int n)) => if -(2 ^ 62) ≤ n ∧ n < 2 ^ 62 then some (.ok (rangeD 0 n.toNat), δ) else none
  | _ => none
def rg2I (tr : M (List Rs)) : M (List PyData) := M.bind tr fun rs δ => match getAll rs δ with
  | some [.d (.int a), .d (.int b)] => if -(2 ^ 62) ≤ a ∧ a < 2 ^ 62 ∧ -(2 ^ 62) ≤ b ∧ b < 2 ^ 62 then some (.ok (rangeD a (b - a).toNat), δ) else none
  | _ => none
section
variable {X : Cx} {tg e : Expr} {te : ES} {pos p : Pos}
theorem di_list (h : DE X e te) : DI X tg e (seqI te) :=
  ⟨fun B W c => PI_weak (pi_list (h.run B W c)) fun σ H R ⟨δ, L, s, q⟩ => by
    refine tD_next (M' := []) knI s q fun x H1 r δ s q => ?_
    cases e1 : r.own δ with
    | none => simp only [e1] at q; exact q.elim
    | some v =>
      simp only [e1] at q
      cases e2 : lstD v with
      | none => simp only [e2] at q; exact q.elim
      | some ds =>
        simp only [e2] at q
        have s1 := s.own1 e1
        obtain ⟨Z, fp, o, vw⟩ := SR.open (M' := [(x, .tm v)]) s1
        obtain ⟨a, vs, rfl, h1, r⟩ := (vw x _ v List.mem_cons_self rfl).lst e2
        refine ⟨a, rfl, ⟨vs, c.k ▸ h1⟩, ?_⟩
        have := q (Itl B.K a) H1 [(.ref a, v)] s1 (walks_list e2)
        rw [c.k] at this
        exact this⟩
theorem di_tup (h : DE X e te) : DI X tg e (tupI te) :=
  ⟨fun B W c => PI_weak (pi_tup (h.run B W c)) fun σ H R ⟨δ, L, s, q⟩ => by
    refine tD_next (M' := []) knI s q fun x H1 r δ s q => ?_
    cases e1 : r.own δ with
    | none => simp only [e1] at q; exact q.elim
    | some v =>
      simp only [e1] at q
      split at q
      · rename_i v' ds e2
        cases e2
        have s1 := s.own1 e1
        obtain ⟨Z, fp, o, vw⟩ := SR.open (M' := [(x, .tm (.d (.tuple ds)))]) s1
        obtain ⟨a, vs, rfl, h1, r⟩ := (vw x _ _ List.mem_cons_self rfl).tup
        refine ⟨a, rfl, ⟨vs, c.k ▸ h1⟩, ?_⟩
        have := q (Itt B.K a) H1 [(.ref a, .d (.tuple ds))] s1 walks_tup
        rw [c.k] at this
        exact this
      · exact q.elim⟩
theorem di_range1 (hg : Gl X "range") (hm : X.mg "range" = none) (h : DE X e te) (hs : starEach [e] X.env = [(false, eval e X.env)] := by rfl) : DI X tg (.Call (.Name "range" p) [e] [] pos) (rg1I te) :=
  ⟨fun B W c => PI_weak (pi_range1 hg hm (pa_cons (h.run B W c) pa_nil hs) hs) fun σ H R ⟨δ, L, s, q⟩ => by
    refine tD_next (M' := []) knI s q fun x H1 r δ s q => ?_
    cases e1 : r.get δ with
    | none => simp only [e1] at q; exact q.elim
    | some v =>
      simp only [e1] at q
      split at q
      · rename_i n e2
        cases e2
        split at q
        · rename_i hn
          obtain ⟨Z, fp, o, vw⟩ := SR.open (M' := [(x, r)]) s
          have := (vw x r _ List.mem_cons_self e1).int
          subst this
          exact ⟨n, rfl, hn.1, hn.2, q _ H1 [] s.drop1 walks_range⟩
        · exact q.elim
      · exact q.elim⟩
theorem di_range2 {b : Expr} {tr : M (List Rs)} (hg : Gl X "range") (hm : X.mg "range" = none) (h : DA X [e, b] tr) (hs : starEach [e, b] X.env = [(false, eval e X.env), (false, eval b X.env)] := by rfl) (hs2 : starEach [b] X.env = [(false, eval b X.env)] := by rfl) : DI X tg (.Call (.Name "range" p) [e, b] [] pos) (rg2I tr) :=
  ⟨fun B W c => PI_weak (pi_range2 hg hm (h.run B W c) hs hs2) fun σ H R ⟨δ, L, s, q⟩ => by
    refine tDA_next (M' := []) knI s q fun xs H1 rs δ hl s q => ?_
    cases e1 : getAll rs δ with
    | none => simp only [e1] at q; exact q.elim
    | some as =>
      simp only [e1] at q
      split at q
      · rename_i a b' e2
        cases e2
        split at q
        · rename_i hn
          obtain ⟨Z, fp, o, vw⟩ := SR.open (M' := xs.zip rs) s
          have vs := views_of hl (fun x r v m g => vw x r v (List.mem_append_left _ m) g) e1
          cases vs with
          | cons v1 t =>
            cases t with
            | cons v2 t =>
              cases t
              refine ⟨a, b', by rw [v1.int, v2.int], hn, q _ H1 [] s.drop walks_range⟩
        · exact q.elim
      · exact q.elim⟩
end

/-! ### for -/
def forL (g : GS) (tb : SS) : List PyData → SS
  | [] => M.pure .nx
  | d :: ds => fun δ => match g (.d d) δ with
    | some (.ok _, δ') => M.bind tb (fun f => match f with
      | .nx => forL g tb ds
      | .ct => forL g tb ds
      | .bk => M.pure .nx
      | .rt v => M.pure (.rt v)) δ'
    | _ => none
def forS (ti : M (List PyData)) (g : GS) (tb : SS) : SS := M.bind ti fun ds => forL g tb ds
section
variable {X : Cx} {m : List Nat} {tg iter : Expr} {pos : Pos}
theorem ds_for {body : List Stmt} {ti : M (List PyData)} {g : GS} {tb : SS} {ws : List Nat} (hi : DI X tg iter ti) (hg : DG X m ws tg g) (hb : DSs X m body tb) (hs : ∀ x, foldedSetIterable iter X.env x = pure x := by intro _; rfl) : DS X m (.For tg iter body [] pos) (forS ti g tb) :=
  ⟨fun B W c hm => PS_weak (ps_for c.pass c.calm (hi.run B W c) (hg.run B W c hm) (hb.run B W c hm) hs) fun D σ H ⟨δ, L, s, q⟩ => by
    refine ⟨δ, tmL L, s, ?_⟩
    unfold forS at q
    cases e0 : ti δ with
    | none => rw [bind_none e0] at q; exact q.elim
    | some p =>
      obtain ⟨r, δ1⟩ := p
      cases r with
      | error ex => rw [bind_err e0] at q; exact fun cls dd H' x => q cls dd σ H' x
      | ok ds =>
        rw [bind_ok e0] at q
        intro J H1 L' s1 wk
        refine ⟨fun i n σ H => i + n = ds.length ∧ ∃ δ, SR B σ δ (tmL (L' ++ L)) H ∧ JS X.mg B W L D (forL g tb (ds.drop i) δ), ⟨ds.length, by omega, δ1, ?_, by rw [List.drop_zero]; exact q⟩, ?_⟩
        · rw [tmL_append]; exact s1
        · rintro i n σ H ⟨hin, δ, s, q⟩
          have own : Own B H (L' ++ (L ++ prs σ δ)) := by
            have := s.own
            rw [tms_tmL] at this
            refine this.perm ?_
            rw [show L' ++ (L ++ prs σ δ) = (L' ++ L) ++ prs σ δ from (List.append_assoc ..).symm]
            exact List.perm_append_comm
          obtain ⟨w1, w2⟩ := wk B (L ++ prs σ δ) H i rfl own
          cases n with
          | zero =>
            refine .inl ⟨w2 (by omega), ?_⟩
            rw [List.drop_of_length_le (by omega)] at q
            rw [tmL_append] at s
            exact q σ H s.drop
          | succ n =>
            have hi : i < ds.length := by omega
            obtain ⟨go, yl⟩ := w1 ds[i] (List.getElem?_eq_getElem hi)
            refine .inr ⟨go, fun σ' H' => ∃ δ', SR B σ' δ' (tmL (L' ++ L)) H' ∧ JS X.mg B W L D (forL g tb (ds.drop (i + 1)) δ'), fun σ' H' ⟨δ', a, b⟩ => ⟨n, Nat.lt_succ_self n, by omega, δ', a, b⟩, fun x H' hy => ?_⟩
            have o2 := yl x H' hy
            have s2 : SR B σ δ ((x, .tm (.d ds[i])) :: tmL (L' ++ L)) H' := by
              refine s.push (o2.perm (List.Perm.cons _ ?_))
              rw [tms_tmL, show L' ++ (L ++ prs σ δ) = (L' ++ L) ++ prs σ δ from (List.append_assoc ..).symm]
              exact List.perm_append_comm
            refine ⟨δ, L' ++ L, .d ds[i], s2, ?_⟩
            rw [List.drop_eq_getElem_cons hi] at q
            unfold forL at q
            cases e1 : g (.d ds[i]) δ with
            | none => simp only [e1] at q; exact q.elim
            | some p =>
              obtain ⟨r, δ2⟩ := p
              cases r with
              | error _ => simp only [e1] at q; exact q.elim
              | ok _ =>
                simp only [e1] at q
                intro σ2 H2 s3 _
                refine ⟨δ2, L' ++ L, s3, ?_⟩
                cases e2 : tb δ2 with
                | none => rw [bind_none e2] at q; exact q.elim
                | some p =>
                  obtain ⟨f, δ3⟩ := p
                  cases f with
                  | error ex => rw [bind_err e2] at q; exact fun cls dd σ' H' x => q cls dd σ' H' (by rw [tmL_append] at x; exact x.drop)
                  | ok f =>
                    rw [bind_ok e2] at q
                    cases f with
                    | nx => exact fun σ' H' s' => ⟨δ3, s', q⟩
                    | ct => exact fun σ' H' s' => ⟨δ3, s', q⟩
                    | bk => exact fun σ' H' s' => q σ' H' (by rw [tmL_append] at s'; exact s'.drop)
                    | rt v => exact fun x σ' H' s' => q x σ' H' (by
                        rw [tmL_append] at s'
                        exact (s'.perm (List.perm_middle (l₁ := tmL L')).symm).drop)⟩
end
end Nv

set_option Elab.async false
set_option linter.all false
set_option maxRecDepth 100000
set_option maxHeartbeats 1000000
/-! The data layer, part 12: list comprehensions. -/
namespace Nv
open PySem PySem.Spec PyProof.Rows L2
variable [Tbs]
def lcL (vs : List Nat) (g : GS) (tt : M Bool) (te : ES) : List PyData → List Val → Sl → Option (List Val × Sl)
  | [], acc, δ => some (acc, δ)
  | d :: ds, acc, δ => match g (.d d) δ with
    | some (.ok _, δ1) => (match tt δ1 with
      | some (.ok true, δ2) => (match te δ2 with
        | some (.ok r, δ3) => (match r.own δ3 with
          | some v => if acc.length < sizeLine then lcL vs g tt te ds (acc ++ [v]) (forget vs δ3) else none
          | none => none)
        | _ => none)
      | some (.ok false, δ2) => lcL vs g tt te ds acc (forget vs δ2)
      | _ => none)
    | _ => none
def lcS (vs : List Nat) (ti : M (List PyData)) (g : GS) (tt : M Bool) (te : ES) : ES := M.bind ti fun ds δ => match lcL vs g tt te ds [] (forget vs δ) with
  | some (acc, δ') => some (.ok (.tm (.ol acc)), δ')
  | none => none
theorem forget_length : ∀ {vs : List Nat} {δ : Sl}, (forget vs δ).length = δ.length
  | [], _ => rfl
  | v :: vs, δ => by rw [forget, forget_length, List.length_set]
theorem forget_keep : ∀ {vs : List Nat} {δ : Sl} {i : Nat}, atSl δ i = none → atSl (forget vs δ) i = none
  | [], _, _, h => h
  | v :: vs, δ, i, h => by
    rw [forget]
    refine forget_keep ?_
    by_cases hv : v = i
    · subst hv
      by_cases hl : v < δ.length
      · exact atSl_set_self hl
      · exact atSl_out (by simpa using hl)
    · rw [atSl_set_ne hv]; exact h
theorem forget_none : ∀ {vs : List Nat} {δ : Sl} {i : Nat}, i ∈ vs → atSl (forget vs δ) i = none
  | v :: vs, δ, i, h => by
    rw [forget]
    by_cases hv : v = i
    · subst hv
      refine forget_keep ?_
      by_cases hl : v < δ.length
      · exact atSl_set_self hl
      · exact atSl_out (by simpa using hl)
    · rcases List.mem_cons.mp h with h | h
      · exact (hv h.symm).elim
      · exact forget_none h
theorem forget_le : ∀ {vs : List Nat} {δ : Sl} {i : Nat} {v : Val}, atSl (forget vs δ) i = some v → atSl δ i = some v
  | [], _, _, _, h => h
  | w :: vs, δ, i, v, h => by
    rw [forget] at h
    have h' := forget_le h
    by_cases hw : w = i
    · subst hw
      by_cases hl : w < δ.length
      · rw [atSl_set_self hl] at h'; cases h'
      · rw [atSl_out (by simpa using hl)] at h'; cases h'
    · rw [atSl_set_ne hw] at h'; exact h'
theorem prs_wipe {σ : L2.St} {δ : Sl} : ∀ {vs : List Nat}, (∀ i ∈ vs, atSl δ i = none) → prs (wipe σ vs) δ = prs σ δ
  | [], _ => rfl
  | v :: vs, h => by
    show prs ((wipe σ vs).set v none) δ = _
    rw [prs_set_V (h v List.mem_cons_self)]
    exact prs_wipe fun i hi => h i (List.mem_cons_of_mem _ hi)
theorem wipe_in {σ : L2.St} {i : Nat} : ∀ {vs : List Nat}, i ∈ vs → i < σ.length → (wipe σ vs)[i]? = some none
  | v :: vs, h, hl => by
    show ((wipe σ vs).set v none)[i]? = _
    by_cases hv : v = i
    · subst hv
      rw [List.getElem?_set_self (by rw [wipe_length]; exact hl)]
    · rw [List.getElem?_set_ne hv]
      rcases List.mem_cons.mp h with h | h
      · exact (hv h.symm).elim
      · exact wipe_in h hl
theorem wipe_agree {σ σ' : L2.St} {vs : List Nat} (h : Agree vs σ σ') : wipe σ' vs = wipe σ vs := by
  refine List.ext_getElem? fun j => ?_
  by_cases hj : j ∈ vs
  · by_cases hl : j < σ.length
    · rw [wipe_in hj hl, wipe_in hj (by rw [h.1]; exact hl)]
    · rw [List.getElem?_eq_none (by rw [wipe_length, h.1]; omega), List.getElem?_eq_none (by rw [wipe_length]; omega)]
  · rw [wipe_out hj, wipe_out hj, h.2 j hj]
theorem wipe_wipe {σ : L2.St} {vs : List Nat} : wipe (wipe σ vs) vs = wipe σ vs := by
  refine List.ext_getElem? fun j => ?_
  by_cases hj : j ∈ vs
  · by_cases hl : j < σ.length
    · rw [wipe_in hj hl, wipe_in hj (by rw [wipe_length]; exact hl)]
    · rw [List.getElem?_eq_none (by rw [wipe_length, wipe_length]; omega), List.getElem?_eq_none (by rw [wipe_length]; omega)]
  · rw [wipe_out hj]
section
variable {B : Bs} {σ σ2 : L2.St} {δ : Sl} {L : List (V × Val)} {H : Hp} {vs : List Nat}
theorem SR.toWipe (s : SR B σ2 δ (tmL L) H) (hp : B.pn = []) : SR B (wipe σ2 vs) (Nv.forget vs δ) (tmL L) H := by
  have s' := s.forget (is := vs)
  refine ⟨by rw [wipe_length]; exact s'.len, ?_, fun i v h => ?_, fun x i h => (no_sl' h).elim, fun p h => by rw [hp] at h; cases h⟩
  · rw [prs_wipe fun i hi => forget_none hi]; exact s'.own
  · obtain ⟨x, hx⟩ := s'.has i v h
    refine ⟨x, ?_⟩
    by_cases hi : i ∈ vs
    · rw [forget_none hi] at h; cases h
    · rw [wipe_out hi]; exact hx
end
section
variable {X : Cx} {tg iter elt : Expr} {ifs : List Expr} {scope : Scope} {own : List (Str × Nat)} {pos : Pos} {ti : M (List PyData)} {g : GS} {tt : M Bool} {te : ES} {ws : List Nat}
structure DTs (X : Cx) (ifs : List Expr) (t : M Bool) : Prop where
  run : ∀ B W, Cg X B W → PTs X ifs (tDT X.mg B W t)
theorem dts_nil : DTs X [] (M.pure true) := ⟨fun B W c => ⟨fun pins s σ H Q I ⟨δ, L, s', q⟩ => pts_nil.run pins s σ H Q I (q H s')⟩⟩
theorem dts_one {c : Expr} (h : DT X c tt) : DTs X [c] tt := ⟨fun B W cg => pts_one (h.run B W cg)⟩
abbrev Wno : WX := fun _ _ _ _ => False
theorem tLc_of (hws : ∀ i ∈ ws, i ∈ own.map (·.2)) {B : Bs} {W : WX} {σ : L2.St} {H : Hp} {Q : VK} (h : tD X.mg B W (lcS (own.map (·.2)) ti g tt te) σ H Q) :
    tLc (tDI X.mg B W ti) (tDG { B with pn := [] } ws g) (tDT X.mg { B with pn := [] } Wno tt) (tD X.mg { B with pn := [] } Wno te) (own.map (·.2)) σ H Q := by
  obtain ⟨δ, L, s, q⟩ := h
  refine ⟨δ, L, s, ?_⟩
  unfold lcS at q
  cases e0 : ti δ with
  | none => rw [bind_none e0] at q; exact q.elim
  | some p =>
    obtain ⟨r, δ1⟩ := p
    cases r with
    | error ex => rw [bind_err e0] at q; exact q
    | ok ds =>
      rw [bind_ok e0] at q
      intro J H1 L' s1 wk D hD
      generalize hvs : own.map (·.2) = vs at q hws ⊢
      cases e1 : lcL vs g tt te ds [] (forget vs δ1) with
      | none => simp only [e1] at q; exact q.elim
      | some fin =>
        obtain ⟨acc1, δ2⟩ := fin
        simp only [e1] at q
        -- the block's ground
        have b1 : SR { B with pn := [] } (wipe σ vs) (forget vs δ1) (tmL ((.ref D, .ol []) :: (L' ++ tms L))) (upd H1 D (.lst [])) := by
          have s2 : SR { B with pn := [] } σ δ1 (tmL (L' ++ tms L)) H1 := by
            refine ⟨s1.len, ?_, s1.has, fun x i h => (no_sl' h).elim, fun p h => by cases h⟩
            have o := s1.own
            rw [tms_append, tms_tmL] at o
            rw [tms_tmL]
            exact o.pnTo []
          have s3 := s2.toWipe (vs := vs) rfl
          exact s3.push (Own.newList (ps := []) s3.own hD)
        refine ⟨fun i n H => i + n = ds.length ∧ ∃ acc δ, SR { B with pn := [] } (wipe σ vs) δ (tmL ((.ref D, .ol acc) :: (L' ++ tms L))) H ∧ (∀ i ∈ vs, atSl δ i = none) ∧ lcL vs g tt te (ds.drop i) acc δ = some (acc1, δ2), ⟨ds.length, by omega, [], _, b1, fun i hi => forget_none hi, by rw [List.drop_zero]; exact e1⟩, ?_⟩
        rintro i n H ⟨hin, acc, δ, s, hno, e⟩
        have own' : Own { B with pn := [] } H (L' ++ ((.ref D, .ol acc) :: (tms L ++ prs (wipe σ vs) δ))) := by
          have o := s.own
          rw [tms_tmL] at o
          refine o.perm ?_
          refine List.perm_append_comm.trans ?_
          show ((V.ref D, Val.ol acc) :: ((L' ++ tms L) ++ prs (wipe σ vs) δ)).Perm _
          rw [List.append_assoc]
          exact (List.perm_middle (l₁ := L')).symm
        obtain ⟨w1, w2⟩ := wk { B with pn := [] } _ H i rfl own'
        cases n with
        | zero =>
          refine .inl ⟨w2 (by omega), ?_⟩
          rw [List.drop_of_length_le (by omega)] at e
          unfold lcL at e
          cases e
          refine q (.ref D) H ⟨?_, ?_, fun j v hj => ?_, fun x j hj => ?_, s1.pin⟩
          · have := s.len; rw [wipe_length] at this; exact this
          · have o := s.own
            rw [tms_tmL, prs_wipe hno] at o
            have o2 := o.pnOf
            refine Own.dropL (P := L') (o2.perm ?_)
            show (prs σ δ2 ++ ((V.ref D, Val.ol acc1) :: (L' ++ tms L))).Perm (L' ++ (prs σ δ2 ++ ((V.ref D, Val.ol acc1) :: tms L)))
            have p1 : ((V.ref D, Val.ol acc1) :: (L' ++ tms L)).Perm (L' ++ ((V.ref D, Val.ol acc1) :: tms L)) := (List.perm_middle (l₁ := L')).symm
            refine (p1.append_left _).trans ?_
            rw [← List.append_assoc, ← List.append_assoc]
            exact List.perm_append_comm.append_right _
          · obtain ⟨x, hx⟩ := s.has j v hj
            exact ⟨x, (wipe_some hx).1⟩
          · rcases List.mem_cons.mp hj with hj | hj
            · injection hj with _ hj; cases hj
            · exact s1.sl x j (List.mem_append_right _ hj)
        | succ n =>
          have hi : i < ds.length := by omega
          obtain ⟨go, yl⟩ := w1 ds[i] (List.getElem?_eq_getElem hi)
          refine .inr ⟨go, fun H => ∃ acc δ, SR { B with pn := [] } (wipe σ vs) δ (tmL ((.ref D, .ol acc) :: (L' ++ tms L))) H ∧ (∀ i ∈ vs, atSl δ i = none) ∧ lcL vs g tt te (ds.drop (i + 1)) acc δ = some (acc1, δ2), fun H' ⟨a, b, c⟩ => ⟨n, Nat.lt_succ_self n, by omega, a, b, c⟩, fun x H' hy => ?_⟩
          have o2 := yl x H' hy
          have s2 : SR { B with pn := [] } (wipe σ vs) δ ((x, .tm (.d ds[i])) :: tmL ((.ref D, .ol acc) :: (L' ++ tms L))) H' := by
            refine s.push (o2.perm (List.Perm.cons _ ?_))
            rw [tms_tmL]
            refine List.Perm.trans ?_ List.perm_append_comm
            show (L' ++ ((V.ref D, Val.ol acc) :: (tms L ++ prs (wipe σ vs) δ))).Perm ((V.ref D, Val.ol acc) :: ((L' ++ tms L) ++ prs (wipe σ vs) δ))
            rw [List.append_assoc]
            exact List.perm_middle
          refine ⟨δ, _, .d ds[i], s2, ?_⟩
          rw [List.drop_eq_getElem_cons hi] at e
          unfold lcL at e
          cases e1 : g (.d ds[i]) δ with
          | none => simp only [e1] at e; cases e
          | some p =>
            obtain ⟨r, δ3⟩ := p
            cases r with
            | error _ => simp only [e1] at e; cases e
            | ok _ =>
              simp only [e1] at e
              intro σ2 H2 s3 ag
              have ag' : Agree vs (wipe σ vs) σ2 := ⟨ag.1, fun j hj => ag.2 j fun h => hj (hws j h)⟩
              have hw : wipe σ2 vs = wipe σ vs := by rw [wipe_agree ag', wipe_wipe]
              have hw' : wipe σ2 vs = wipe (wipe σ vs) vs := by rw [hw, wipe_wipe]
              refine ⟨by first | exact hw | exact hw', δ3, _, s3, ?_⟩
              cases e2 : tt δ3 with
              | none => simp only [e2] at e; cases e
              | some p =>
                obtain ⟨r, δ4⟩ := p
                cases r with
                | error _ => simp only [e2] at e; cases e
                | ok b =>
                  intro H3 s4
                  cases b with
                  | false =>
                    simp only [e2] at e
                    rw [if_neg Bool.false_ne_true]
                    refine ⟨acc, forget vs δ4, ?_, fun i hi => forget_none hi, e⟩
                    rw [← hw]; exact s4.toWipe rfl
                  | true =>
                    simp only [e2] at e
                    rw [if_pos rfl]
                    refine ⟨δ4, _, s4, ?_⟩
                    cases e3 : te δ4 with
                    | none => simp only [e3] at e; cases e
                    | some p =>
                      obtain ⟨r, δ5⟩ := p
                      cases r with
                      | error _ => simp only [e3] at e; cases e
                      | ok r =>
                        simp only [e3] at e
                        intro y H4 s5
                        cases e4 : r.own δ5 with
                        | none => simp only [e4] at e; cases e
                        | some v =>
                          simp only [e4] at e
                          split at e
                          · rename_i hz
                            have s6 := s5.own1 e4
                            have s6o := s6.own
                            have o6 : Own { B with pn := [] } H4 ((.ref D, .ol acc) :: [(y, v)] ++ ((L' ++ tms L) ++ prs σ2 δ5)) := by
                              refine s6o.perm ?_
                              show (prs σ2 δ5 ++ ((y, v) :: tms (tmL ((V.ref D, Val.ol acc) :: (L' ++ tms L))))).Perm _
                              rw [tms_tmL]
                              refine List.perm_append_comm.trans ?_
                              exact .swap _ _ _
                            obtain ⟨Z, fp, oz⟩ := id o6
                            obtain ⟨fx, tx⟩ := oz.tr.mem (x := .ref D) (v := .ol acc) List.mem_cons_self
                            obtain ⟨a, us, ps, gp, ea, h1, h2, h3, _⟩ := View.ol (B := { B with pn := [] }) ⟨fx, tx⟩
                            cases ea
                            obtain ⟨us', k1, k2, k3⟩ := o6.write (ps := ps ++ [(y, v)]) (ds := []) fun us2 p0 w1 w2 w3 => by
                              rw [h1] at w1; cases w1
                              have : p0 = ps := by
                                have z1 : us.zip acc = ps := by subst h2; subst h3; rw [List.zip_map']; simp
                                have z2 : us.zip acc = p0 := by rw [w2, w3, List.zip_map']; simp
                                exact z2.symm.trans z1
                              rw [this, List.append_nil]
                            rw [h1] at k1; cases k1
                            rw [List.map_append, List.map_append, ← h2, ← h3] at k3
                            refine ⟨us, h1, by rw [k2]; exact hz, acc ++ [v], forget vs δ5, ?_, fun i hi => forget_none hi, e⟩
                            rw [← hw]
                            refine SR.toWipe (B := { B with pn := [] }) (L := (.ref D, .ol (acc ++ [v])) :: (L' ++ tms L)) ⟨s6.len, ?_, s6.has, fun x i h => (no_sl' h).elim, fun p h => by cases h⟩ rfl
                            rw [tms_tmL]
                            refine k3.perm ?_
                            exact List.perm_append_comm (l₁ := (V.ref D, Val.ol (acc ++ [v])) :: (L' ++ tms L))
                          · cases e
theorem de_lc (hN : X.N.Nodup) (hi : DI X tg iter ti) (ok : BlkOk X.N X.env.scope scope own)
    (hg : ∀ (s : Shared) (H : Hp) (C : Addr) (cl : List (Str × Addr)) (fp : List Addr), DG (X.blk s H scope (compEnvC scope cl C X.env) fp) [] ws tg g)
    (ht : ∀ (s : Shared) (H : Hp) (C : Addr) (cl : List (Str × Addr)) (fp : List Addr), DTs (X.blk s H scope (compEnvC scope cl C X.env) fp) ifs tt)
    (he : ∀ (s : Shared) (H : Hp) (C : Addr) (cl : List (Str × Addr)) (fp : List Addr), DE (X.blk s H scope (compEnvC scope cl C X.env) fp) elt te)
    (hws : ∀ i ∈ ws, i ∈ own.map (·.2)) (hs : ∀ x, foldedSetIterable iter X.env x = pure x := by intro _; rfl) :
    DE X (.ListComp elt [⟨tg, iter, ifs, 0⟩] scope pos) (lcS (own.map (·.2)) ti g tt te) :=
  ⟨fun B W c => by
    have cg : ∀ (s : Shared) (H : Hp) (C : Addr) (cl : List (Str × Addr)) (fp : List Addr), Cg (X.blk s H scope (compEnvC scope cl C X.env) fp) { B with pn := [] } Wno := fun s H C cl fp => ⟨c.k, takes0, c.calm, PassesOwn.never, c.tab⟩
    exact PE_weak (pe_lc c.calm hN (hi.run B W c) ok (fun s H C cl fp => (hg s H C cl fp).run _ _ (cg s H C cl fp) rfl) (fun s H C cl fp => (ht s H C cl fp).run _ _ (cg s H C cl fp)) (fun s H C cl fp => (he s H C cl fp).run _ _ (cg s H C cl fp)) hs) fun σ H Q h => tLc_of hws h⟩
end
end Nv

set_option Elab.async false
set_option linter.all false
set_option maxRecDepth 100000
set_option maxHeartbeats 1000000
/-! The data layer, part 13: a def by its body. -/
namespace Nv
open PySem PySem.Spec PyProof.Rows L2
variable [Tbs]
/-- the places of what comes back -/
def mIdx : List Bool → Nat → List Nat
  | [], _ => []
  | true :: m, i => i :: mIdx m (i + 1)
  | false :: m, i => mIdx m (i + 1)
def outsAt : List Nat → Sl → Option (List Val)
  | [], _ => some []
  | i :: is, δ => (atSl δ i).bind fun v => (outsAt is δ).bind fun vs => some (v :: vs)
def startD (n : Nat) (as : List Val) : Sl := as.map some ++ List.replicate (n - as.length) none
def endOf (is : List Nat) : Option (Except Exn Fl × Sl) → Option (Except Exn Val × List Val)
  | some (.ok (.rt v), δ) => (outsAt is δ).map fun o => (.ok v, o)
  | some (.ok .nx, δ) => (outsAt is δ).map fun o => (.ok (.d .none), o)
  | some (.error ex, δ) => (outsAt is δ).map fun o => (.error ex, o)
  | _ => none
theorem sel_length : ∀ {mu : List Bool} {α : Type} {xs : List α} {i : Nat}, mu.length = xs.length → (mIdx mu i).length = (sel mu xs).length
  | [], _, [], _, _ => rfl
  | true :: m, _, x :: xs, i, h => by simp [mIdx, sel, sel_length (mu := m) (xs := xs) (i := i + 1) (by simpa using h)]
  | false :: m, _, x :: xs, i, h => by simp [mIdx, sel, sel_length (mu := m) (xs := xs) (i := i + 1) (by simpa using h)]
  | [], _, _ :: _, _, h => by simp at h
  | _ :: _, _, [], _, h => by simp at h
theorem mIdx_ge : ∀ {mu : List Bool} {i j : Nat}, j ∈ mIdx mu i → i ≤ j
  | true :: m, i, j, h => by
    rcases List.mem_cons.mp h with h | h
    · omega
    · have := mIdx_ge (mu := m) h; omega
  | false :: m, i, j, h => by have := mIdx_ge (mu := m) (show j ∈ mIdx m (i + 1) from h); omega
theorem mIdx_nodup : ∀ {mu : List Bool} {i : Nat}, (mIdx mu i).Nodup
  | [], _ => .nil
  | true :: m, i => List.nodup_cons.mpr ⟨fun h => by have := mIdx_ge (mu := m) h; omega, mIdx_nodup (mu := m)⟩
  | false :: m, i => mIdx_nodup (mu := m)
theorem mIdx_at : ∀ {mu : List Bool} {α : Type} {xs : List α} {i j : Nat} {y : α}, mu.length = xs.length → (j, y) ∈ (mIdx mu i).zip (sel mu xs) → i ≤ j ∧ xs[j - i]? = some y
  | true :: m, _, x :: xs, i, j, y, hl, h => by
    rcases List.mem_cons.mp (show (j, y) ∈ (i, x) :: (mIdx m (i + 1)).zip (sel m xs) from h) with h | h
    · cases h; exact ⟨Nat.le_refl _, by simp⟩
    · obtain ⟨a, b⟩ := mIdx_at (mu := m) (xs := xs) (by simpa using hl) h
      refine ⟨by omega, ?_⟩
      rw [show j - i = (j - (i + 1)) + 1 by omega, List.getElem?_cons_succ]
      exact b
  | false :: m, _, x :: xs, i, j, y, hl, h => by
    obtain ⟨a, b⟩ := mIdx_at (mu := m) (xs := xs) (i := i + 1) (by simpa using hl) h
    refine ⟨by omega, ?_⟩
    rw [show j - i = (j - (i + 1)) + 1 by omega, List.getElem?_cons_succ]
    exact b
  | [], _, _, i, j, y, _, h => by simp [mIdx] at h
  | _ :: _, _, [], _, _, _, hl, _ => by simp at hl
theorem prs_start : ∀ {vs : List V} {as : List Val} {n k : Nat}, vs.length = as.length → prs (vs.map some ++ List.replicate n none) (as.map some ++ List.replicate k none) = vs.zip as
  | [], [], n, k, _ => by
    simp only [List.map_nil, List.nil_append, List.zip_nil_left]
    induction n generalizing k with
    | zero => cases k <;> rfl
    | succ n ih =>
      cases k with
      | zero => rfl
      | succ k => rw [List.replicate_succ, List.replicate_succ]; exact ih k
  | v :: vs, a :: as, n, k, h => by
    rw [List.map_cons, List.map_cons, List.cons_append, List.cons_append]
    show (v, a) :: prs _ _ = _
    rw [prs_start (by simpa using h)]
    rfl
  | [], _ :: _, _, _, h => by simp at h
  | _ :: _, [], _, _, h => by simp at h
theorem prs_sel {σ : L2.St} : ∀ {is : List Nat} {ys : List V} {outs : List Val} {δ : Sl}, is.length = ys.length → is.Nodup → (∀ p ∈ is.zip ys, σ[p.1]? = some (some p.2)) → outsAt is δ = some outs → ∃ R, (prs σ δ).Perm (ys.zip outs ++ R) ∧ outs.length = ys.length
  | [], [], outs, δ, _, _, _, e => by cases e; exact ⟨prs σ δ, .refl _, rfl⟩
  | i :: is, y :: ys, outs, δ, hl, hn, hp, e => by
    unfold outsAt at e
    cases e1 : atSl δ i with
    | none => rw [e1] at e; cases e
    | some v =>
      cases e2 : outsAt is δ with
      | none => rw [e1, e2] at e; cases e
      | some vs =>
        rw [e1, e2] at e
        cases e
        obtain ⟨n1, n2⟩ := List.nodup_cons.mp hn
        have hx : σ[i]? = some (some y) := hp (i, y) (by simp)
        have e3 : outsAt is (δ.set i none) = some vs := by
          clear hl hn hp n2
          induction is generalizing vs with
          | nil => exact e2
          | cons j is ih =>
            unfold outsAt at e2 ⊢
            have hj : i ≠ j := fun q => n1 (by simp [q])
            rw [atSl_set_ne hj]
            cases e4 : atSl δ j with
            | none => rw [e4] at e2; cases e2
            | some w =>
              cases e5 : outsAt is δ with
              | none => rw [e4, e5] at e2; cases e2
              | some ws =>
                rw [e4, e5] at e2
                cases e2
                rw [ih ws e5 fun h => n1 (List.mem_cons_of_mem _ h)]
                rfl
        obtain ⟨R, p, hl2⟩ := prs_sel (is := is) (ys := ys) (by simpa using hl) n2 (fun p h => hp p (List.mem_cons_of_mem _ h)) e3
        exact ⟨R, (prs_take e1 hx).trans (p.cons _), by simp [hl2]⟩
  | [], _ :: _, _, _, h, _, _, _ => by simp at h
  | _ :: _, [], _, _, h, _, _, _ => by simp at h
section
variable {P : Program} {w : World} {K : PySem.W.Frag} {mg : Str → Option Value} {base : Heap}
theorem start_get {N : List Str} {vs : List V} {i : Nat} {v : V} (h : vs[i]? = some v) : (start N vs)[i]? = some (some v) := by
  unfold L2.start
  have hl : i < vs.length := (List.getElem?_eq_some_iff.mp h).1
  rw [List.getElem?_append_left (by simpa using hl), List.getElem?_map, h]
  rfl
theorem fn_core {qual : Str} {sc : Scope} {bd : List Stmt} {f : Addr} {cdv : Value} {N ps : List Str} (S : FnScope N ps sc) (Fm : Fs) (sem : SS) (hl : Fm.mu.length = ps.length)
    (hs : ∀ as r, as.length = Fm.mu.length → Fm.fn as = some r → endOf (mIdx Fm.mu 0) (sem (startD N.length as)) = some r) {A : Around} {outer : List Env} {s : Shared} {H : Hp} {vs : List V} {Q : VK} {E : XK}
    (hb : DSs (cxOf (L2.CX P w) P w K mg base N qual sc f cdv A outer s H E) (mIdx Fm.mu 0) bd sem) (h : spV mg K Fm vs H Q E) :
    ∃ t, PSs (cxOf (L2.CX P w) P w K mg base N qual sc f cdv A outer s H E) bd t ∧ t { nx := fun _ H' => Q .non H', rt := Q } (start N vs) H := by
  obtain ⟨as, Z, fp, h1, h2, t, nd, nz, zt, tb, q⟩ := h
  have hva : vs.length = as.length := h1.trans h2.symm
  let pn := (mIdx Fm.mu 0).zip (sel Fm.mu vs)
  let B : Bs := ⟨K, Tbs.list, H, (· ∈ fp), Z, pn⟩
  have hpn : B.pn.map Prod.fst = mIdx Fm.mu 0 := zip_fst (sel_length h1.symm)
  have pins : ∀ p ∈ pn, (start N vs)[p.1]? = some (some p.2) := fun p hp => by
    obtain ⟨_, e⟩ := mIdx_at (i := 0) (j := p.1) (y := p.2) h1.symm hp
    exact start_get (by simpa using e)
  have hN : ps.length ≤ N.length := by
    have := S.pre
    rw [← this, List.length_take]
    omega
  have hlen : (startD N.length as).length = (start N vs).length := by
    unfold startD L2.start
    simp [hva]
  have s0 : SR B (start N vs) (startD N.length as) (tmL []) H := by
    refine ⟨hlen, ?_, fun i v h => ?_, fun x i h => (no_sl' h).elim, pins⟩
    · show Own B H (prs _ _ ++ [])
      rw [List.append_nil]
      unfold L2.start startD
      rw [prs_start hva]
      exact ⟨Z, fp, t, nd, nz, fun a ha => .inl ha, zt, fun a z => .inl z, ⟨fun _ _ e _ _ => e⟩, tb⟩
    · have hi : i < as.length := by
        refine Classical.byContradiction fun hn => ?_
        unfold atSl startD at h
        rw [List.getElem?_append_right (by simpa using Nat.le_of_not_lt hn), List.getElem?_replicate] at h
        split at h
        · rename_i e; split at e <;> cases e
        · cases h
      obtain ⟨y, hy⟩ : ∃ y, vs[i]? = some y := ⟨_, List.getElem?_eq_getElem (by omega)⟩
      exact ⟨y, start_get hy⟩
  refine ⟨_, hb.run B (fun cls d _ H' => E cls d H') ⟨rfl, takes_of rfl rfl rfl rfl, rfl, passes_of rfl, rfl⟩ hpn, startD N.length as, [], s0, ?_⟩
  have back : ∀ (σ' : L2.St) (δ' : Sl) (L : List (V × Rs)) (H' : Hp) (outs : List Val), SR B σ' δ' L H' → outsAt (mIdx Fm.mu 0) δ' = some outs → Own ⟨K, Tbs.list, H, (· ∈ fp), Z, []⟩ H' (tms L ++ (sel Fm.mu vs).zip outs) := fun σ' δ' L H' outs s' e => by
    obtain ⟨R, p, _⟩ := prs_sel (σ := σ') (sel_length h1.symm) mIdx_nodup s'.pin e
    have o := s'.own.pnTo []
    refine Own.dropL (P := R) (o.perm ?_)
    refine (p.append_right _).trans ?_
    refine List.perm_append_comm.trans ?_
    rw [← List.append_assoc]
    exact List.perm_append_comm
  have hout : ∀ (outs : List Val) (δ' : Sl), outsAt (mIdx Fm.mu 0) δ' = some outs → outs.length = (sel Fm.mu vs).length := fun outs δ' e => (prs_sel (σ := start N vs) (sel_length h1.symm) mIdx_nodup pins e).choose_spec.2
  cases e0 : Fm.fn as with
  | none => rw [e0] at q; exact q.elim
  | some r =>
    have hs' := hs as r h2 e0
    obtain ⟨r, outs⟩ := r
    cases e1 : sem (startD N.length as) with
    | none => rw [e1] at hs'; cases hs'
    | some p =>
      obtain ⟨g, δ'⟩ := p
      rw [e1] at hs'
      rw [e0] at q
      cases g with
      | error ex =>
        cases e2 : outsAt (mIdx Fm.mu 0) δ' with
        | none => simp only [endOf, e2] at hs'; cases hs'
        | some o =>
          simp only [endOf, e2, Option.map_some, Option.some.injEq, Prod.mk.injEq] at hs'
          obtain ⟨a1, a2⟩ := hs'
          subst a1; subst a2
          intro cls dd σ' H' ⟨C, d, us, g1, g2, g3, g4, g5, sx⟩
          refine q.2 cls dd H' ⟨C, d, us, g1, g2, g3, g4, g5, ?_⟩
          have b := back σ' δ' _ H' o sx e2
          have e3 : (ex.fs.map fun p => Rs.tm (.d p.2)) = (ex.fs.map Prod.snd).map tmD := by rw [List.map_map]; rfl
          have e4 : (ex.fs.map fun p => Val.d p.2) = (ex.fs.map Prod.snd).map Val.d := by rw [List.map_map]; rfl
          rw [tms_append, e3, tms_data] at b
          rw [e4]
          have e5 : tms (tmL []) = [] := rfl
          rw [e5, List.append_nil] at b
          exact b
      | ok f =>
        cases f with
        | bk => cases hs'
        | ct => cases hs'
        | nx =>
          cases e2 : outsAt (mIdx Fm.mu 0) δ' with
          | none => simp only [endOf, e2] at hs'; cases hs'
          | some o =>
            simp only [endOf, e2, Option.map_some, Option.some.injEq, Prod.mk.injEq] at hs'
            obtain ⟨a1, a2⟩ := hs'
            subst a1; subst a2
            intro σ' H' sx
            exact q.2 .non H' (back σ' δ' [] H' o sx e2).non
        | rt v =>
          cases e2 : outsAt (mIdx Fm.mu 0) δ' with
          | none => simp only [endOf, e2] at hs'; cases hs'
          | some o =>
            simp only [endOf, e2, Option.map_some, Option.some.injEq, Prod.mk.injEq] at hs'
            obtain ⟨a1, a2⟩ := hs'
            subst a1; subst a2
            intro x σ' H' sx
            exact q.2 x H' (back σ' δ' _ H' o sx e2)
theorem spV_len {Fm : Fs} {ps : List Str} (hl : Fm.mu.length = ps.length) (vs : List V) (H : Hp) (Q : VK) (E : XK) (h : spV mg K Fm vs H Q E) : vs.length = ps.length := by
  obtain ⟨_, _, _, h1, _⟩ := h
  exact h1.trans hl
/-- THE RULE for a def -/
theorem fn_ok {x qual : Str} {st : Stmt} {f : Addr} {fd : FuncData} {N ps : List Str} {k : Nat} (F : Fun K x qual st f fd) (S : FnScope N ps (defScope st)) (Fm : Fs) (sem : SS) (hl : Fm.mu.length = ps.length)
    (hb : ∀ (cdv : Value) (A : Around) (outer : List Env) (s : Shared) (H : Hp) (E : XK), Room k (A.deeper (envOfC qual (defScope st) s.heap.objs.size f cdv)) →
      DSs (cxOf (L2.CX P w) P w K mg base N qual (defScope st) f cdv A outer s H E) (mIdx Fm.mu 0) (defBody st) sem)
    (hs : ∀ as r, as.length = Fm.mu.length → Fm.fn as = some r → endOf (mIdx Fm.mu 0) (sem (startD N.length as)) = some r) : FnOk P w K mg base (L2.CX P w) (k + 1) f fd ps (spV mg K Fm) :=
  F.okX S (spV_len hl) fun cdv A outer s H vs Q E hr h => fn_core S Fm sem hl hs (hb cdv A outer s H E hr) h
/-- .. its code object told -/
theorem fn_okC {name qual : Str} {params : Arguments} {bd : List Stmt} {sc : Scope} {dV kV doc pm cdv ct oc : Value} {an od : Option Addr} {osl : Array (Option Value)} {f : Addr} {N ps : List Str} {k : Nat}
    (lk : K.lookup f = some ⟨oc, od, .func (PySem.W.fnOf name qual params bd sc dV kV doc pm an cdv ct), osl⟩) (hcd : PySem.W.codeIn K cdv qual = true) (S : FnScope N ps sc) (Fm : Fs) (sem : SS) (hl : Fm.mu.length = ps.length)
    (hb : ∀ (A : Around) (outer : List Env) (s : Shared) (H : Hp) (E : XK), Room k (A.deeper (envOfC qual sc s.heap.objs.size f cdv)) →
      DSs (cxOf (L2.CX P w) P w K mg base N qual sc f cdv A outer s H E) (mIdx Fm.mu 0) bd sem)
    (hs : ∀ as r, as.length = Fm.mu.length → Fm.fn as = some r → endOf (mIdx Fm.mu 0) (sem (startD N.length as)) = some r) :
    FnOk P w K mg base (L2.CX P w) (k + 1) f (PySem.W.fnOf name qual params bd sc dV kV doc pm an cdv ct) ps (spV mg K Fm) :=
  fn_of lk hcd S (spV_len hl) fun A outer s H vs Q E hr h => fn_core S Fm sem hl hs (hb A outer s H E hr) h
end
end Nv

set_option Elab.async false
set_option linter.all false
set_option maxRecDepth 100000
set_option maxHeartbeats 1000000
/-! The data layer, part 14: and, or, not, if-else, chains, frozen values; short words. -/
namespace Nv
open PySem PySem.Spec PyProof.Rows L2
variable [Tbs]
section
variable {X : Cx} {a b c e : Expr} {ta tb te : ES} {tA tB : M Bool} {rest : List Expr} {pos : Pos}
/-! ### as tests -/
def andT (t u : M Bool) : M Bool := M.bind t fun b => if b then u else M.pure false
def orT (t u : M Bool) : M Bool := M.bind t fun b => if b then M.pure true else u
def notT (t : M Bool) : M Bool := M.bind t fun b => M.pure (!b)
theorem dw_and1 (ha : DT X a tA) : DW X (.BoolOp .And [a] pos) tA := ⟨fun B W c => pw_and1 (ha.run B W c)⟩
theorem dw_or1 (ha : DT X a tA) : DW X (.BoolOp .Or [a] pos) tA := ⟨fun B W c => pw_or1 (ha.run B W c)⟩
theorem dw_and (ha : DT X a tA) (hb : DW X (.BoolOp .And (b :: rest) pos) tB) : DW X (.BoolOp .And (a :: b :: rest) pos) (andT tA tB) :=
  ⟨fun B W c => PW_weak (pw_and (ha.run B W c) (hb.run B W c)) fun σ H Q ⟨δ, L, s, q⟩ => tDT_next (M' := []) knT s q fun H1 b δ s q => by
    cases b with
    | true => exact ⟨δ, L, s, q⟩
    | false => exact q H1 s⟩
theorem dw_or (ha : DT X a tA) (hb : DW X (.BoolOp .Or (b :: rest) pos) tB) : DW X (.BoolOp .Or (a :: b :: rest) pos) (orT tA tB) :=
  ⟨fun B W c => PW_weak (pw_or (ha.run B W c) (hb.run B W c)) fun σ H Q ⟨δ, L, s, q⟩ => tDT_next (M' := []) knT s q fun H1 b δ s q => by
    cases b with
    | true => exact q H1 s
    | false => exact ⟨δ, L, s, q⟩⟩
theorem dt_not (ha : DT X a tA) : DT X (.UnaryOp .Not a pos) (notT tA) :=
  ⟨fun B W c => PT_weak (pt_not (ha.run B W c)) fun σ H Q ⟨δ, L, s, q⟩ => tDT_next (M' := []) knT s q fun H1 b δ s q => q H1 s⟩
/-! ### as values -/
def andS (ta tb : ES) : ES := M.bind (asT ta) fun b => if b then tb else kB false
def orS (ta tb : ES) : ES := M.bind (asT ta) fun b => if b then kB true else tb
def notS (ta : ES) : ES := M.bind (asT ta) fun b => kB (!b)
def ifE (tc : M Bool) (ta tb : ES) : ES := M.bind tc fun b => if b then ta else tb
theorem de_one {op} (h : DE X a ta) : DE X (.BoolOp op [a] pos) ta := ⟨fun B W c => pe_one (h.run B W c)⟩
theorem push_bl {B : Bs} {σ : L2.St} {δ : Sl} {L : List (V × Rs)} {H : Hp} {k : Bool} (s : SR B σ δ L H) : SR B σ δ ((.bl k, .tm (.d (.bool k))) :: L) H := s.push s.own.bl
theorem de_and (ha : DE X a ta) (hb : DE X (.BoolOp .And (b :: rest) pos) tb) : DE X (.BoolOp .And (a :: b :: rest) pos) (andS ta tb) :=
  ⟨fun B W c => PE_weak (pe_and (ha.run B W c) (hb.run B W c)) fun σ H Q ⟨δ, L, s, q⟩ => tD_asT (tDT_next (M' := []) knE s q fun H1 b δ s q => by
    cases b with
    | true => exact ⟨δ, L, s, q⟩
    | false => exact q _ H1 (push_bl s))⟩
theorem de_or (ha : DE X a ta) (hb : DE X (.BoolOp .Or (b :: rest) pos) tb) : DE X (.BoolOp .Or (a :: b :: rest) pos) (orS ta tb) :=
  ⟨fun B W c => PE_weak (pe_or (ha.run B W c) (hb.run B W c)) fun σ H Q ⟨δ, L, s, q⟩ => tD_asT (tDT_next (M' := []) knE s q fun H1 b δ s q => by
    cases b with
    | true => exact q _ H1 (push_bl s)
    | false => exact ⟨δ, L, s, q⟩)⟩
theorem de_not (ha : DE X a ta) : DE X (.UnaryOp .Not a pos) (notS ta) :=
  ⟨fun B W c => PE_weak (pe_not (ha.run B W c)) fun σ H Q ⟨δ, L, s, q⟩ => tD_asT (tDT_next (M' := []) knE s q fun H1 b δ s q => q _ H1 (push_bl s))⟩
theorem de_ifexp (hc : DT X c tA) (ha : DE X a ta) (hb : DE X b tb) : DE X (.IfExp c a b pos) (ifE tA ta tb) :=
  ⟨fun B W cg => PE_weak (pe_ifExp (hc.run B W cg) (ha.run B W cg) (hb.run B W cg)) fun σ H Q ⟨δ, L, s, q⟩ => tDT_next (M' := []) knE s q fun H1 b δ s q => by
    cases b with
    | true => exact ⟨δ, L, s, q⟩
    | false => exact ⟨δ, L, s, q⟩⟩
/-- what is at hand, or in a slot, is frozen -/
theorem de_fz (h : DE X e te) : DE X e (fzS te) :=
  ⟨fun B W c => PE_weak (h.run B W c) fun σ H Q ⟨δ, L, s, q⟩ => tD_next (M' := []) knE s q fun x H1 r δ s q => by
    cases r with
    | tm v =>
      have o := s.pop.freeze
      exact q x H1 (s.drop1.push o)
    | sl i =>
      cases e1 : atSl δ i with
      | none => simp only [e1] at q; exact q.elim
      | some v =>
        simp only [e1] at q
        have hx := s.sl x i List.mem_cons_self
        have hl := atSl_lt e1
        have p := prs_take e1 hx
        have s1 := s.drop1
        have o2 : Own B H1 ((x, v) :: (prs σ (δ.set i none) ++ tms L)) := s1.own.perm (p.append_right (tms L))
        have o3 := o2.freeze.dup
        have hz2 : atSl (δ.set i none) i = none := atSl_set_self hl
        refine q x H1 ⟨by simpa using s1.len, ?_, fun j w h => ?_, fun y j h => ?_, s1.pin⟩
        · refine o3.perm ?_
          show ((x, Val.d v.fz) :: (x, Val.d v.fz) :: (prs σ (δ.set i none) ++ tms L)).Perm (prs σ (δ.set i (some (.d v.fz))) ++ ((x, Val.d v.fz) :: tms L))
          refine List.Perm.trans ?_ (List.perm_middle).symm
          exact List.Perm.cons _ ((prs_put (v := .d v.fz) hl hx).symm.append_right _)
        · by_cases hj : i = j
          · subst hj; exact ⟨x, hx⟩
          · rw [atSl_set_ne hj] at h; exact s1.has j w h
        · rcases List.mem_cons.mp h with h | h
          · injection h with _ h; cases h
          · exact s1.sl y j h⟩
/-- a local name -/
theorem dv (i : Nat) {x : Str} {pos : Pos} (hN : X.N[i]? = some x := by rfl) (hv : Vis X.env.scope x := by first | exact Or.inl rfl | exact Or.inr (Or.inl rfl) | exact Or.inr (Or.inr rfl)) (hd : (x == ("__debug__" : Str)) = false := by decide)
    (hcd : (x == ("__classdict__" : Str)) = false := by decide) : DE X (.Name x pos) (vr i) := de_var hN hv hd hcd
end
end Nv

set_option Elab.async false
set_option linter.all false
set_option maxRecDepth 100000
set_option maxHeartbeats 2000000
/-! The data layer, part 15: list(zip(x, y)). -/
namespace PySem
namespace NvZ
open PySem PySem.W PySem.Calls PyProof.Rows PySem.Spec
abbrev ZOut (h : Heap) (z TI TO T : Addr) (f : Bool) : Prop :=
  h.get? z = some { cls := .type "zip", dict := none, data := .fields #[rawInt T, .bool f, .bool false, .ref TI, .ref TO], slots := #[] }
section
variable {prog : Program} {w : World} {A : Around} {E : Value → Shared → Prop} {s : Shared} {z TI TO i1 i2 T : Addr} {f : Bool} {oT : Obj} {fp1 fp2 : List Addr} {n1 n2 i : Nat} {P1 P2 : Nat → Value → Prop} {St1 St2 : Nat → Heap → Prop} {a1 a2 : Value}
theorem own_out {Q : Bool → Shared → Prop} (hz : ZOut s.heap z TI TO T f) (hT : s.heap.get? T = some oT) (h : ∀ h', ZOut h' z TI TO T true → Heap.SameBut z s.heap h' → Q false { s with heap := h' }) : wpAny (model prog w) A (Builtin.SmallTypes.ownedTupleIsFree (.ref z)) Q E s := by
  unfold Builtin.SmallTypes.ownedTupleIsFree
  refine wpAny_bind (wpAny_field hz rfl (x := rawInt T) rfl ?_)
  show wpAny _ _ (loadIfAlive ((T : Int).toNat) >>= _) _ _ _
  rw [Int.toNat_natCast]
  refine wpAny_bind (kdx_alive hT ?_)
  simp only [Option.isNone_some, Bool.false_eq_true, if_false]
  refine wpAny_bind (wpAny_field hz rfl (x := .bool f) rfl ?_)
  cases f with
  | true =>
    rw [if_neg (show ¬ ((Value.bool true != Value.bool true) = true) from Bool.false_ne_true)]
    exact wpAny_pure (h s.heap hz (Heap.SameBut.refl _ _))
  | false =>
    rw [if_pos (show (Value.bool false != Value.bool true) = true from rfl)]
    refine wpAny_bind (wpAny_setField_rec hz (by simp) fun h₃ he₃ hs₃ => ?_)
    exact wpAny_pure (h h₃ he₃ hs₃)
theorem out_item {Q : Value → Shared → Prop} (S : ZipSep2 z TI TO i1 i2 fp1 fp2) (D1 : Draws prog w A i1 fp1 n1 P1 St1) (D2 : Draws prog w A i2 fp2 n2 P2 St2)
    (hz : ZOut s.heap z TI TO T f) (hT : s.heap.get? T = some oT) (hTI : IsTupOf2 s.heap TI (.ref i1) (.ref i2)) (st1 : St1 i s.heap) (st2 : St2 i s.heap) (hlt1 : i < n1) (hlt2 : i < n2)
    (hQ : ∀ x1 x2 h' tk, P1 i x1 → P2 i x2 → ZOut h' z TI TO T true → St1 (i + 1) h' → St2 (i + 1) h' → IsTupOf2 h' s.heap.objs.size x1 x2 → h'.objs.size = s.heap.objs.size + 1 →
      (∀ c o, c ≠ z → c ≠ i1 → c ≠ i2 → s.heap.get? c = some o → h'.get? c = some o) → Q (.ref s.heap.objs.size) { s with heap := h', toks := tk }) :
    wpAny (model prog w) A (Builtin.«zip.__next__» ⟨[.ref z], []⟩) (fun fin s' => ∃ v, fin = .done (.ret v) ∧ Q v s') E s := by
  obtain ⟨hp, g, d, tk0, os⟩ := s
  show wpAny _ _ (field (.ref z) 2 >>= _) _ _ _
  refine wpAny_bind (wpAny_field hz rfl (x := .bool false) rfl ?_)
  show wpAny _ _ (field (.ref z) 3 >>= _) _ _ _
  refine wpAny_bind (wpAny_field hz rfl (x := .ref TI) rfl ?_)
  refine wpAny_bind (wpAny_seqItems hTI rfl ?_)
  show wpAny _ _ (Builtin.SmallTypes.ownedTupleIsFree (.ref z) >>= _) _ _ _
  refine wpAny_bind (own_out hz hT fun g0 hz0 hs0 => ?_)
  replace hs0 : Heap.SameBut z hp g0 := hs0
  simp only [Bool.false_eq_true, if_false]
  rw [← Array.forIn_toList]
  simp only [List.forIn_cons, List.forIn_nil]
  refine wpAny_bind (wpAny_bind (wpAny_bind (wpAny_holding ?_)))
  show wpAny _ _ (Builtin.SmallTypes.nextOf (.ref i1) >>= _) _ _ ⟨g0, g, d, tk0, os⟩
  refine wpAny_bind (D1.item i _ _ _ hlt1 (D1.over st1 hs0 S.zf1) fun x1 p1 tk1 hx1 sn1 hp1 => wpAny_pure ?_)
  replace hp1 : Heap.SameBut i1 g0 p1 := hp1
  refine wpAny_pure ?_
  refine wpAny_bind (wpAny_bind (wpAny_holding ?_))
  show wpAny _ _ (Builtin.SmallTypes.nextOf (.ref i2) >>= _) _ _ ⟨p1, g, d, tk1, os⟩
  refine wpAny_bind (D2.item i _ _ _ hlt2 (D2.over (D2.over st2 hs0 S.zf2) hp1 S.sep1_2) fun x2 p2 tk2 hx2 sn2 hp2 => wpAny_pure ?_)
  replace hp2 : Heap.SameBut i2 p1 p2 := hp2
  refine wpAny_pure (wpAny_pure ?_)
  refine wpAny_bind (wpAny_newTuple ?_ (by show 2 ≤ sizeLine; rw [sizeLine_eq]; decide))
  have hsz : p2.objs.size = hp.objs.size := by rw [hp2.1, hp1.1, hs0.1]
  have hzz : ZOut p2 z TI TO T true := hp2.extBut _ _ S.zi2 (hp1.extBut _ _ S.zi1 hz0)
  have hkk : ∀ c o, c ≠ z → c ≠ i1 → c ≠ i2 → hp.get? c = some o → p2.get? c = some o := fun c o cz c1 c2 e => hp2.extBut _ _ c2 (hp1.extBut _ _ c1 (hs0.extBut _ _ cz e))
  have hj1 : St1 (i + 1) p2 := D1.over sn1 hp2 S.sep2_1
  refine wpAny_pure ⟨_, rfl, ?_⟩
  show Q (.ref p2.objs.size) ⟨p2.push { cls := .type "tuple", data := .seq #[x1, x2] }, g, d, tk2, os⟩
  have up : ∀ c o, p2.get? c = some o → (p2.push { cls := .type "tuple", data := .seq #[x1, x2] }).get? c = some o := fun c o e => Heap.get?_push_of_some _ e
  have hT8 : IsTupOf2 (p2.push { cls := .type "tuple", data := .seq #[x1, x2] }) p2.objs.size x1 x2 := Heap.get?_push_size _ rfl
  rw [hsz] at hT8 ⊢
  exact hQ x1 x2 _ tk2 hx1 hx2 (up _ _ hzz) (D1.frame _ _ _ hj1 fun b _ o e => up b o e) (D2.frame _ _ _ sn2 fun b _ o e => up b o e) hT8 (by rw [Heap.size_push, hsz]) fun c o cz c1 c2 e => up c o (hkk c o cz c1 c2 e)
theorem out_end {Q : Fin → Shared → Prop} (S : ZipSep2 z TI TO i1 i2 fp1 fp2) (D1 : Draws prog w A i1 fp1 n1 P1 St1) (D2 : Draws prog w A i2 fp2 n2 P2 St2)
    (hz : ZOut s.heap z TI TO T f) (hT : s.heap.get? T = some oT) (hTI : IsTupOf2 s.heap TI (.ref i1) (.ref i2)) (st1 : St1 i s.heap) (st2 : St2 i s.heap) (hle1 : i ≤ n1) (hle2 : i ≤ n2) (hend : i = n1 ∨ i = n2)
    (hE : ∀ h' tk e, (∀ c o, c ≠ z → c ≠ i1 → c ≠ i2 → s.heap.get? c = some o → h'.get? c = some o) → (∃ o, h'.get? e = some o ∧ o.cls = .type "StopIteration") → E (.ref e) { s with heap := h', toks := tk }) :
    wpAny (model prog w) A (Builtin.«zip.__next__» ⟨[.ref z], []⟩) Q E s := by
  obtain ⟨hp, g, d, tk0, os⟩ := s
  show wpAny _ _ (field (.ref z) 2 >>= _) _ _ _
  refine wpAny_bind (wpAny_field hz rfl (x := .bool false) rfl ?_)
  show wpAny _ _ (field (.ref z) 3 >>= _) _ _ _
  refine wpAny_bind (wpAny_field hz rfl (x := .ref TI) rfl ?_)
  refine wpAny_bind (wpAny_seqItems hTI rfl ?_)
  show wpAny _ _ (Builtin.SmallTypes.ownedTupleIsFree (.ref z) >>= _) _ _ _
  refine wpAny_bind (own_out hz hT fun g0 hz0 hs0 => ?_)
  replace hs0 : Heap.SameBut z hp g0 := hs0
  simp only [Bool.false_eq_true, if_false]
  rw [← Array.forIn_toList]
  simp only [List.forIn_cons, List.forIn_nil]
  refine wpAny_bind (wpAny_bind (wpAny_bind (wpAny_holding ?_)))
  show wpAny _ _ (Builtin.SmallTypes.nextOf (.ref i1) >>= _) _ _ ⟨g0, g, d, tk0, os⟩
  by_cases hlt1 : i < n1
  · refine wpAny_bind (D1.item i _ _ _ hlt1 (D1.over st1 hs0 S.zf1) fun x1 p1 tk1 hx1 sn1 hp1 => wpAny_pure ?_)
    replace hp1 : Heap.SameBut i1 g0 p1 := hp1
    have hi2 : i = n2 := by omega
    refine wpAny_pure ?_
    refine wpAny_bind (wpAny_bind (wpAny_holding ?_))
    show wpAny _ _ (Builtin.SmallTypes.nextOf (.ref i2) >>= _) _ _ ⟨p1, g, d, tk1, os⟩
    refine wpAny_bind (D2.done ⟨p1, g, d, tk1, os⟩ _ _ (by rw [← hi2]; exact (D2.over (D2.over st2 hs0 S.zf2) hp1 S.sep1_2)) fun q e hq he => ?_)
    exact hE q tk1 e (fun c o cz c1 c2 x => hq _ _ c2 (hp1.extBut _ _ c1 (hs0.extBut _ _ cz x))) he
  · have hi1 : i = n1 := by omega
    refine wpAny_bind (D1.done ⟨g0, g, d, tk0, os⟩ _ _ (by rw [← hi1]; exact (D1.over st1 hs0 S.zf1)) fun q e hq he => ?_)
    exact hE q tk0 e (fun c o cz c1 c2 x => hq _ _ c1 (hs0.extBut _ _ cz x)) he
theorem next_out_item {Q : Option Value → Shared → Prop} (S : ZipSep2 z TI TO i1 i2 fp1 fp2) (D1 : Draws prog w A.in1 i1 fp1 n1 P1 St1) (D2 : Draws prog w A.in1 i2 fp2 n2 P2 St2)
    (hz : ZOut s.heap z TI TO T f) (hT : s.heap.get? T = some oT) (hTI : IsTupOf2 s.heap TI (.ref i1) (.ref i2)) (st1 : St1 i s.heap) (st2 : St2 i s.heap) (hlt1 : i < n1) (hlt2 : i < n2)
    (hQ : ∀ x1 x2 h' tk, P1 i x1 → P2 i x2 → ZOut h' z TI TO T true → St1 (i + 1) h' → St2 (i + 1) h' → IsTupOf2 h' s.heap.objs.size x1 x2 → h'.objs.size = s.heap.objs.size + 1 →
      (∀ c o, c ≠ z → c ≠ i1 → c ≠ i2 → s.heap.get? c = some o → h'.get? c = some o) → Q (some (.ref s.heap.objs.size)) { s with heap := h', toks := tk }) :
    wpAny (model prog w) A (pyNext (.ref z)) Q E s := by
  have hTy : s.TypeIs (.ref z) "zip" := ⟨_, hz, rfl⟩
  unfold pyNext
  exact wpAny_bind (wpAny_attempt (wpAny_callSpecial?_slot (name := Str.ofString "__next__") hTy F.slot_zip_next
    (wpAny_call_entry F.slot_zip_next hTy F.entry_zip_next
      (out_item S D1 D2 hz hT hTI st1 st2 hlt1 hlt2 fun x1 x2 h' tk y1 y2 b1 d1 d2 b5 b6 b7 => wpAny_pure (hQ x1 x2 h' tk y1 y2 b1 d1 d2 b5 b6 b7)) (F.args_zip_next_1 _))))
theorem next_out_end {Q : Option Value → Shared → Prop} (S : ZipSep2 z TI TO i1 i2 fp1 fp2) (D1 : Draws prog w A.in1 i1 fp1 n1 P1 St1) (D2 : Draws prog w A.in1 i2 fp2 n2 P2 St2)
    (hz : ZOut s.heap z TI TO T f) (hT : s.heap.get? T = some oT) (hTI : IsTupOf2 s.heap TI (.ref i1) (.ref i2)) (st1 : St1 i s.heap) (st2 : St2 i s.heap) (hle1 : i ≤ n1) (hle2 : i ≤ n2) (hend : i = n1 ∨ i = n2)
    (hQ : ∀ h' tk, (∀ c o, c ≠ z → c ≠ i1 → c ≠ i2 → s.heap.get? c = some o → h'.get? c = some o) → Q none { s with heap := h', toks := tk }) : wpAny (model prog w) A (pyNext (.ref z)) Q E s := by
  have hTy : s.TypeIs (.ref z) "zip" := ⟨_, hz, rfl⟩
  unfold pyNext
  refine wpAny_bind (wpAny_attempt (wpAny_callSpecial?_slot (name := Str.ofString "__next__") hTy F.slot_zip_next
    (wpAny_call_entry F.slot_zip_next hTy F.entry_zip_next (out_end S D1 D2 hz hT hTI st1 st2 hle1 hle2 hend fun h' tk e hk he => ?_) (F.args_zip_next_1 _))))
  obtain ⟨o, ho, hc⟩ := he
  refine wpAny_bind (wpAny_isInstance (T := "StopIteration") (b := true) ⟨o, ho, hc⟩ isSubtype_stop ?_)
  exact wpAny_pure (hQ _ _ hk)
theorem ne_lo {a b base : Nat} (h : base ≤ a) (l : b < base) : a ≠ b := fun e => by subst e; exact Nat.lt_irrefl _ (Nat.lt_of_lt_of_le l h)
/-- where the walk stands: at its begin, or its last tuple is held -/
structure ZAt (z TI TO i1 i2 : Addr) (St1 St2 : Nat → Heap → Prop) (base : Nat) (i : Nat) (h : Heap) : Prop where
  st : (i = 0 ∧ IsZip h z TI TO .none) ∨ ∃ T f oT, ZOut h z TI TO T f ∧ h.get? T = some oT ∧ base ≤ T
  ti : IsTupOf2 h TI (.ref i1) (.ref i2)
  to : ∃ a b, IsTupOf2 h TO a b
  s1 : St1 i h
  s2 : St2 i h
theorem zat_item {base : Nat} {Q : Option Value → Shared → Prop} (S : ZipSep2 z TI TO i1 i2 fp1 fp2) (D1 : Draws prog w A.in1 i1 fp1 n1 P1 St1) (D2 : Draws prog w A.in1 i2 fp2 n2 P2 St2)
    (x : ZAt z TI TO i1 i2 St1 St2 base i s.heap) (hlt1 : i < n1) (hlt2 : i < n2) (hb : base ≤ s.heap.objs.size) (hTz : TO ≠ z) (hTI : TI ≠ z ∧ TI ≠ TO ∧ TI ≠ i1 ∧ TI ≠ i2) (hTO : TO ≠ i1 ∧ TO ≠ i2) (hlow : z < base ∧ TO < base ∧ i1 < base ∧ i2 < base)
    (hQ : ∀ x1 x2 h' tk, P1 i x1 → P2 i x2 → ZAt z TI TO i1 i2 St1 St2 base (i + 1) h' → IsTupOf2 h' s.heap.objs.size x1 x2 → h'.objs.size = s.heap.objs.size + 1 →
      (∀ c o, c ≠ z → c ≠ TO → c ≠ i1 → c ≠ i2 → s.heap.get? c = some o → h'.get? c = some o) → Q (some (.ref s.heap.objs.size)) { s with heap := h', toks := tk }) :
    wpAny (model prog w) A (pyNext (.ref z)) Q E s := by
  obtain ⟨a, b, hto⟩ := x.to
  obtain ⟨lz, lto, l1, l2⟩ := hlow
  rcases x.st with ⟨hi, hz⟩ | ⟨T, f, oT, hz, hT, hTb⟩
  · refine wpAny_pyNext_zipD2_item S D1 D2 hz x.ti hto x.s1 x.s2 hlt1 hlt2 fun x1 x2 h' tk p1 p2 hz' hto' t1 t2 ht hs hk => hQ x1 x2 h' tk p1 p2 ⟨.inr ⟨_, false, _, hz', ht, hb⟩, hk _ _ hTI.1 hTI.2.1 hTI.2.2.1 hTI.2.2.2 x.ti, ⟨_, _, hto'⟩, t1, t2⟩ ht hs hk
  · refine next_out_item S D1 D2 hz hT x.ti x.s1 x.s2 hlt1 hlt2 fun x1 x2 h' tk p1 p2 hz' t1 t2 ht hs hk => hQ x1 x2 h' tk p1 p2 ⟨.inr ⟨T, true, oT, hz', hk T oT (ne_lo hTb lz) (ne_lo hTb l1) (ne_lo hTb l2) hT, hTb⟩, hk _ _ hTI.1 hTI.2.2.1 hTI.2.2.2 x.ti, ⟨_, _, hk _ _ hTz hTO.1 hTO.2 hto⟩, t1, t2⟩ ht hs (fun c o c1 _ c3 c4 e => hk c o c1 c3 c4 e)
theorem zat_end {base : Nat} {Q : Option Value → Shared → Prop} (S : ZipSep2 z TI TO i1 i2 fp1 fp2) (D1 : Draws prog w A.in1 i1 fp1 n1 P1 St1) (D2 : Draws prog w A.in1 i2 fp2 n2 P2 St2)
    (x : ZAt z TI TO i1 i2 St1 St2 base i s.heap) (hle1 : i ≤ n1) (hle2 : i ≤ n2) (hend : i = n1 ∨ i = n2)
    (hQ : ∀ h' tk, (∀ c o, c ≠ z → c ≠ TO → c ≠ i1 → c ≠ i2 → s.heap.get? c = some o → h'.get? c = some o) → Q none { s with heap := h', toks := tk }) : wpAny (model prog w) A (pyNext (.ref z)) Q E s := by
  obtain ⟨a, b, hto⟩ := x.to
  rcases x.st with ⟨hi, hz⟩ | ⟨T, f, oT, hz, hT, hTb⟩
  · exact wpAny_pyNext_zipD2_end S D1 D2 hz x.ti hto x.s1 x.s2 hle1 hle2 hend hQ
  · exact next_out_end S D1 D2 hz hT x.ti x.s1 x.s2 hle1 hle2 hend fun h' tk hk => hQ h' tk fun c o c1 _ c3 c4 e => hk c o c1 c3 c4 e
structure ZG (P1 P2 : Nat → Value → Prop) (base : Nat) (h : Heap) (as : List Addr) : Prop where
  nd : as.Nodup
  above : ∀ a ∈ as, base ≤ a
  pairs : ∀ (j : Nat) (a : Addr), as[j]? = some a → ∃ x1 x2, P1 j x1 ∧ P2 j x2 ∧ IsTupOf2 h a x1 x2
/-- addresses below, apart -/
structure ZLow (z TI TO i1 i2 S base : Addr) : Prop where
  hz : z < base
  hti : TI < base
  hto : TO < base
  h1 : i1 < base
  h2 : i2 < base
  hs : S < base
  sz : S ≠ z
  sti : S ≠ TI
  sto : S ≠ TO
  si1 : S ≠ i1
  si2 : S ≠ i2
theorem zl_loop {R : Result → Shared → Prop} {Sl base : Addr} (S : ZipSep2 z TI TO i1 i2 fp1 fp2) (D1 : Draws prog w A.in1.in1 i1 fp1 n1 P1 St1) (D2 : Draws prog w A.in1.in1 i2 fp2 n2 P2 St2) (hn : min n1 n2 ≤ sizeLine) (lw : ZLow z TI TO i1 i2 Sl base) (hf1 : Sl ∉ fp1) (hf2 : Sl ∉ fp2) (res : Value) {h₁ : Heap}
    (hR : ∀ h' tk acc c as, (∀ b o, b ≠ Sl → b ≠ z → b ≠ TO → b ≠ i1 → b ≠ i2 → h₁.get? b = some o → h'.get? b = some o) → h'.get? Sl = some { cls := .type "list", dict := none, data := .seq acc c, slots := #[] } → as.length = min n1 n2 → ZG P1 P2 base h' as →
      acc.toList = as.map Value.ref → R (.ok (.ret res)) { s with heap := h', toks := tk }) :
    ∀ (k i : Nat) (h : Heap) (tk c : Nat) (acc : Array Value) (as : List Addr), min n1 n2 - i = k → i ≤ min n1 n2 → ZAt z TI TO i1 i2 St1 St2 base i h → (∀ b o, b ≠ Sl → b ≠ z → b ≠ TO → b ≠ i1 → b ≠ i2 → h₁.get? b = some o → h.get? b = some o) →
      h.get? Sl = some { cls := .type "list", dict := none, data := .seq acc c, slots := #[] } → acc.toList = as.map Value.ref → as.length = i → ZG P1 P2 base h as → base ≤ h.objs.size →
      codeAny (model prog w) A (.builtin "list.extend.loop" ⟨[.ref Sl, .ref z, res], []⟩) R { s with heap := h, toks := tk } := by
  intro k
  have hTI : TI ≠ z ∧ TI ≠ TO ∧ TI ≠ i1 ∧ TI ≠ i2 := ⟨S.TIz, S.TITO, S.TIi1, S.TIi2⟩
  induction k with
  | zero =>
    intro i h tk c acc as hk hi hst hkeep hS hacc hal hG hbs
    have hin : i = min n1 n2 := by omega
    refine codeAny_builtin PySem.F.entry_extend_loop ?_
    rw [Around.under_plainId PySem.F.plain_extend_loop _]
    show wpAny _ A.in1 (pyNext (.ref z) >>= _) _ _ _
    refine wpAny_bind (zat_end (s := { s with heap := h, toks := tk }) S D1 D2 hst (by omega) (by omega) (by omega) fun h' tk' he => ?_)
    refine wpAny_pure (hR h' tk' acc c as (fun b o h1 h2 h3 h4 h5 e => he b o h2 h3 h4 h5 (hkeep b o h1 h2 h3 h4 h5 e)) (he Sl _ lw.sz lw.sto lw.si1 lw.si2 hS) (by omega) ⟨hG.nd, hG.above, fun j a hj => ?_⟩ hacc)
    obtain ⟨x1, x2, p1, p2, e3⟩ := hG.pairs j a hj
    have ha := hG.above a (List.mem_of_getElem? hj)
    have l1 := lw.hz; have l2 := lw.hto; have l3 := lw.h1; have l4 := lw.h2
    exact ⟨x1, x2, p1, p2, he a _ (ne_lo ha l1) (ne_lo ha l2) (ne_lo ha l3) (ne_lo ha l4) e3⟩
  | succ k ih =>
    intro i h tk c acc as hk hi hst hkeep hS hacc hal hG hbs
    have hlt : i < min n1 n2 := by omega
    have hsz : acc.size = i := by rw [← Array.length_toList, hacc, List.length_map, hal]
    refine codeAny_builtin PySem.F.entry_extend_loop ?_
    rw [Around.under_plainId PySem.F.plain_extend_loop _]
    show wpAny _ A.in1 (pyNext (.ref z) >>= _) _ _ _
    refine wpAny_bind (zat_item (s := { s with heap := h, toks := tk }) S D1 D2 hst (by omega) (by omega) hbs S.TOz hTI ⟨S.Ti1, S.Ti2⟩ ⟨lw.hz, lw.hto, lw.h1, lw.h2⟩ fun x1 x2 h' tk' p1 p2 hst' ht hz hkp => ?_)
    dsimp only at ht hz hkp ⊢
    have hS' := hkp Sl _ lw.sz lw.sto lw.si1 lw.si2 hS
    have up : ∀ b o, b ≠ Sl → h'.get? b = some o → (h'.update Sl (Obj.mapSeq (·.push (Value.ref h.objs.size)))).get? b = some o := fun b o hb e => (Heap.get?_update_other _ _ (Ne.symm hb)).trans e
    have l0 := lw.hs; have l1 := lw.hz; have l2 := lw.hto; have l3 := lw.h1; have l4 := lw.h2
    show wpAny _ A.in1 (updateSeq Sl (·.push (Value.ref h.objs.size)) >>= _) _ _ _
    refine wpAny_bind ?_
    refine wpAny_updateSeq hS' rfl (wpAny_pure ⟨plainId_quiet PySem.F.plain_extend_loop _, ih (i + 1) _ tk' _ (acc.push (Value.ref h.objs.size)) (as ++ [h.objs.size]) (by omega) hlt ?_
      (fun b o h1 h2 h3 h4 h5 e => up b o h1 (hkp b o h2 h3 h4 h5 (hkeep b o h1 h2 h3 h4 h5 e))) (Heap.get?_update_self _ hS' rfl) (by rw [Array.toList_push, hacc, List.map_append]; rfl) (by rw [List.length_append, hal]; rfl) ⟨?_, ?_, ?_⟩ ?_⟩) (by rw [hsz]; omega) (by show (acc.push (Value.ref h.objs.size)).size ≤ sizeLine + 1; rw [Array.size_push, hsz]; omega)
    · obtain ⟨q1, q2, q3, q4, q5⟩ := hst'
      refine ⟨?_, up _ _ (Ne.symm lw.sti) q2, ?_, D1.frame _ _ _ q4 fun b hb o e => up b o (fun z => hf1 (z ▸ hb)) e, D2.frame _ _ _ q5 fun b hb o e => up b o (fun z => hf2 (z ▸ hb)) e⟩
      · rcases q1 with ⟨q, _⟩ | ⟨T, f, oT, q6, q7, q8⟩
        · cases q
        · exact .inr ⟨T, f, oT, up _ _ (Ne.symm lw.sz) q6, up T oT (ne_lo q8 l0) q7, q8⟩
      · obtain ⟨a, b, q⟩ := q3
        exact ⟨a, b, up _ _ (Ne.symm lw.sto) q⟩
    · refine List.nodup_append.mpr ⟨hG.nd, by simp, fun a ha b hb e => ?_⟩
      rw [List.mem_singleton.mp hb] at e
      subst e
      obtain ⟨j, hj⟩ := List.mem_iff_getElem?.mp ha
      obtain ⟨_, _, _, _, e3⟩ := hG.pairs j _ hj
      exact Nat.lt_irrefl _ (Heap.lt_size e3)
    · intro a ha
      rcases List.mem_append.mp ha with ha | ha
      · exact hG.above a ha
      · rw [List.mem_singleton.mp ha]; exact hbs
    · intro j b hj
      rcases Nat.lt_trichotomy j as.length with h1 | h1 | h1
      · rw [List.getElem?_append_left h1] at hj
        obtain ⟨y1, y2, r1, r2, e3⟩ := hG.pairs j b hj
        have hb := hG.above b (List.mem_of_getElem? hj)
        exact ⟨y1, y2, r1, r2, up b _ (ne_lo hb l0) (hkp b _ (ne_lo hb l1) (ne_lo hb l2) (ne_lo hb l3) (ne_lo hb l4) e3)⟩
      · subst h1
        have hb : h.objs.size = b := by simpa using hj
        subst hb
        subst hal
        exact ⟨x1, x2, p1, p2, up _ _ (ne_lo hbs l0) ht⟩
      · have hnone : (as ++ [h.objs.size])[j]? = none := List.getElem?_eq_none (by rw [List.length_append, List.length_singleton]; omega)
        rw [hnone] at hj; cases hj
    · have e : (h'.update Sl (Obj.mapSeq (·.push (Value.ref h.objs.size)))).get? h.objs.size = _ := up _ _ (ne_lo hbs l0) ht
      exact Nat.le_trans hbs (Nat.le_of_lt (Heap.lt_size e))
end
theorem nolen_zip : typeLookup (.type "zip") "__len__" = pure none := by rw [typeLookup_type, builtinLookup_eq_fast]; kernel_rfl
theorem nohint_zip : typeLookup (.type "zip") "__length_hint__" = pure none := by rw [typeLookup_type, builtinLookup_eq_fast]; kernel_rfl
section
variable {prog : Program} {w : World} {A : Around} {E : Value → Shared → Prop} {s : Shared} {z TI TO i1 i2 : Addr} {fp1 fp2 : List Addr} {n1 n2 : Nat} {P1 P2 : Nat → Value → Prop} {St1 St2 : Nat → Heap → Prop}
theorem zl_extend {R : Result → Shared → Prop} (S : ZipSep2 z TI TO i1 i2 fp1 fp2) (D1 : Draws prog w A.in1.in1 i1 fp1 n1 P1 St1) (D2 : Draws prog w A.in1.in1 i2 fp2 n2 P2 St2) (hn : min n1 n2 ≤ sizeLine) (Sl : Addr) (lw : ZLow z TI TO i1 i2 Sl s.heap.objs.size) (hf1 : Sl ∉ fp1) (hf2 : Sl ∉ fp2) (res : Value) (c₀ : Nat)
    (hS : s.heap.get? Sl = some { cls := .type "list", data := .seq #[] c₀ }) (st : ZAt z TI TO i1 i2 St1 St2 s.heap.objs.size 0 s.heap) (hz0 : IsZip s.heap z TI TO .none)
    (hR : ∀ h' tk acc c as, (∀ b o, b ≠ Sl → b ≠ z → b ≠ TO → b ≠ i1 → b ≠ i2 → s.heap.get? b = some o → h'.get? b = some o) → h'.get? Sl = some { cls := .type "list", dict := none, data := .seq acc c, slots := #[] } → as.length = min n1 n2 → ZG P1 P2 s.heap.objs.size h' as →
      acc.toList = as.map Value.ref → R (.ok (.ret res)) { s with heap := h', toks := tk }) :
    wpAny (model prog w) A.in1 (Builtin.List.listExtendWith (.ref Sl) (.ref z) res)
      (fun fin s' => match fin with | .done f => R (.ok f) s' | .again c' => c'.quiet = true ∧ codeAny (model prog w) A c' R s') (fun e s' => R (.error e) s') s := by
  have hT : s.TypeIs (.ref z) "zip" := ⟨_, hz0, rfl⟩
  unfold Builtin.List.listExtendWith
  refine wpAny_bind (wpAny_typeOf hT ?_)
  have h1 : Builtin.List.listSameRef (.ref Sl) (.ref z) = false := by simp [Builtin.List.listSameRef, lw.sz]
  have h2 : (Value.type "zip" == Value.type "list") = false := by decide
  have h3 : (Value.type "zip" == Value.type "tuple") = false := by decide
  simp only [h1, h2, h3, Bool.or_false, Bool.false_eq_true, if_false]
  refine wpAny_bind (wpAny_pyIter_zip hz0 ?_)
  refine wpAny_bind (wpAny_holding ?_)
  unfold Builtin.List.listLengthHint
  refine wpAny_bind (wpAny_specialOf hT nolen_zip ?_)
  show wpAny _ A.in1 (specialOf (Value.ref z) (Str.ofString "__length_hint__") >>= _) _ _ _
  refine wpAny_bind (wpAny_specialOf hT nohint_zip ?_)
  refine wpAny_pure ?_
  show wpAny _ A.in1 (rule "list.extend.makes-room" >>= fun _ => Builtin.List.listTouch (.ref Sl) >>= fun _ =>
    again (.builtin "list.extend.loop" ⟨[.ref Sl, .ref z, res], []⟩)) _ _ _
  refine wpAny_bind (wpAny_rule ?_)
  refine wpAny_bind ?_
  show wpAny _ A.in1 (updateSeq Sl (·.push .none) >>= fun _ => updateSeq Sl (·.pop)) _ _ _
  refine wpAny_bind (wpAny_updateSeq hS rfl ?_)
  have hS₂ := Heap.get?_update_self (Obj.mapSeq (·.push Value.none)) hS rfl
  refine wpAny_updateSeq (hz := by seq_fits) hS₂ rfl ?_
  have hS₃ := Heap.get?_update_self (Obj.mapSeq (·.pop)) hS₂ rfl
  have oth : ∀ b o, b ≠ Sl → s.heap.get? b = some o → ((s.heap.update Sl (Obj.mapSeq (·.push Value.none))).update Sl (Obj.mapSeq (·.pop))).get? b = some o :=
    fun b o hb e => (Heap.get?_update_other _ _ (Ne.symm hb)).trans ((Heap.get?_update_other _ _ (Ne.symm hb)).trans e)
  refine wpAny_pure ⟨plainId_quiet PySem.F.plain_extend_loop _, ?_⟩
  obtain ⟨q1, q2, q3, q4, q5⟩ := st
  refine zl_loop (s := s) (h₁ := s.heap) S D1 D2 hn lw hf1 hf2 res hR _ 0 _ s.toks _ #[] [] rfl (Nat.zero_le _) ⟨.inl ⟨rfl, oth _ _ (Ne.symm lw.sz) hz0⟩, oth _ _ (Ne.symm lw.sti) q2, ?_, D1.frame _ _ _ q4 fun b hb o e => oth b o (fun z => hf1 (z ▸ hb)) e, D2.frame _ _ _ q5 fun b hb o e => oth b o (fun z => hf2 (z ▸ hb)) e⟩ (fun b o hb _ _ _ _ e => oth b o hb e) hS₃ rfl rfl ⟨.nil, fun _ h => (nomatch h), fun j a h => by simp at h⟩ ?_
  · obtain ⟨a, b, q⟩ := q3
    exact ⟨a, b, oth _ _ (Ne.symm lw.sto) q⟩
  · rw [show ((s.heap.update Sl (Obj.mapSeq (·.push Value.none))).update Sl (Obj.mapSeq (·.pop))).objs.size = s.heap.objs.size from (Heap.SameBut.update ..).1.trans (Heap.SameBut.update ..).1]
    exact Nat.le_refl _
/-- list(z), z a zip that was just made -/
theorem zl_call {Q : Value → Shared → Prop} (S : ZipSep2 z TI TO i1 i2 fp1 fp2) (D1 : Draws prog w A.in1.in1.in1 i1 fp1 n1 P1 St1) (D2 : Draws prog w A.in1.in1.in1 i2 fp2 n2 P2 St2) (hn : min n1 n2 ≤ sizeLine) (hl : z < s.heap.objs.size ∧ TI < s.heap.objs.size ∧ TO < s.heap.objs.size ∧ i1 < s.heap.objs.size ∧ i2 < s.heap.objs.size) (hf1 : ∀ b ∈ fp1, b < s.heap.objs.size) (hf2 : ∀ b ∈ fp2, b < s.heap.objs.size)
    (hz0 : IsZip s.heap z TI TO .none) (ti : IsTupOf2 s.heap TI (.ref i1) (.ref i2)) (to : ∃ a b, IsTupOf2 s.heap TO a b) (s1 : St1 0 s.heap) (s2 : St2 0 s.heap)
    (hQ : ∀ h' tk acc c as, (∀ b o, b ≠ z → b ≠ TO → b ≠ i1 → b ≠ i2 → s.heap.get? b = some o → h'.get? b = some o) → h'.get? s.heap.objs.size = some { cls := .type "list", dict := none, data := .seq acc c, slots := #[] } → as.length = min n1 n2 → ZG P1 P2 (s.heap.objs.size + 1) h' as →
      acc.toList = as.map Value.ref → Q (.ref s.heap.objs.size) { s with heap := h', toks := tk }) :
    wpAny (model prog w) A (call (.type "list") [.ref z]) Q E s := by
  refine callType_codes (Q₁ := fun obj s₁ => obj = .ref s.heap.objs.size ∧ s₁ = { s with heap := s.heap.push { cls := .type "list", data := .seq #[] } }) PySem.F.called_list (PySem.F.typeCall_list_1 _) PySem.F.entry_list_init
    (code_list_new _ ⟨rfl, rfl⟩) fun obj s₁ h₁ => ?_
  obtain ⟨rfl, rfl⟩ := h₁
  have hS : (s.heap.push { cls := .type "list", data := .seq #[] }).get? s.heap.objs.size = some { cls := .type "list", data := .seq #[] } := Heap.get?_push_size _ rfl
  refine ⟨⟨_, hS, rfl⟩, PySem.F.args_list_init_2 _ _, ?_⟩
  obtain ⟨a, b, hto⟩ := to
  have pk : ∀ b o, s.heap.get? b = some o → (s.heap.push { cls := .type "list", data := .seq #[] }).get? b = some o := fun b o e => Heap.get?_push_of_some _ e
  show wpAny _ _ (do let old ← Builtin.List.listItems (.ref s.heap.objs.size); Builtin.List.listUpdate (.ref s.heap.objs.size) (fun _ => #[]); letGo old.toList.reverse; Builtin.List.listExtendWith (.ref s.heap.objs.size) (.ref z) .none) _ _ _
  refine wpAny_bind ?_
  unfold Builtin.List.listItems
  refine wpAny_bind (wpAny_seqItems hS rfl (wpAny_pure ?_))
  show wpAny _ _ (updateSeq s.heap.objs.size (fun _ => #[]) >>= fun _ => letGo (#[] : Array Value).toList.reverse >>= fun _ => Builtin.List.listExtendWith (.ref s.heap.objs.size) (.ref z) .none) _ _ _
  refine wpAny_bind (wpAny_updateSeq hS rfl ?_)
  have hS₂ := Heap.get?_update_self (Obj.mapSeq (fun _ => (#[] : Array Value))) hS rfl
  have oth : ∀ b o, b ≠ s.heap.objs.size → (s.heap.push { cls := .type "list", data := .seq #[] }).get? b = some o → ((s.heap.push { cls := .type "list", data := .seq #[] }).update s.heap.objs.size (Obj.mapSeq (fun _ => (#[] : Array Value)))).get? b = some o :=
    fun b o hb e => (Heap.get?_update_other _ _ (Ne.symm hb)).trans e
  have all : ∀ b o, s.heap.get? b = some o → ((s.heap.push { cls := .type "list", data := .seq #[] }).update s.heap.objs.size (Obj.mapSeq (fun _ => (#[] : Array Value)))).get? b = some o := fun b o e => oth b o (Nat.ne_of_lt (Heap.lt_size e)) (pk b o e)
  have sz : ((s.heap.push { cls := .type "list", data := .seq #[] }).update s.heap.objs.size (Obj.mapSeq (fun _ => (#[] : Array Value)))).objs.size = s.heap.objs.size + 1 := by
    rw [show ((s.heap.push { cls := .type "list", data := .seq #[] }).update s.heap.objs.size (Obj.mapSeq (fun _ => (#[] : Array Value)))).objs.size = (s.heap.push { cls := .type "list", data := .seq #[] }).objs.size from (Heap.SameBut.update ..).1, Heap.size_push]
  refine wpAny_bind (wpAny_letGo ?_)
  obtain ⟨l1, l2, l3, l4, l5⟩ := hl
  refine zl_extend (A := A.in1) (s := { s with heap := (s.heap.push { cls := .type "list", data := .seq #[] }).update s.heap.objs.size (Obj.mapSeq (fun _ => (#[] : Array Value))) }) S D1 D2 hn s.heap.objs.size ?_ (fun h => Nat.lt_irrefl _ (hf1 _ h)) (fun h => Nat.lt_irrefl _ (hf2 _ h)) .none _ hS₂ ⟨.inl ⟨rfl, all _ _ hz0⟩, all _ _ ti, ⟨a, b, all _ _ hto⟩, D1.frame _ _ _ s1 fun b _ o e => all b o e, D2.frame _ _ _ s2 fun b _ o e => all b o e⟩ (all _ _ hz0) fun h' tk acc c as hk hS' hl' hG hacc => ?_
  · show ZLow z TI TO i1 i2 s.heap.objs.size ((s.heap.push { cls := .type "list", data := .seq #[] }).update s.heap.objs.size (Obj.mapSeq (fun _ => (#[] : Array Value)))).objs.size
    rw [sz]
    exact ⟨Nat.lt_succ_of_lt l1, Nat.lt_succ_of_lt l2, Nat.lt_succ_of_lt l3, Nat.lt_succ_of_lt l4, Nat.lt_succ_of_lt l5, Nat.lt_succ_self _, Nat.ne_of_gt l1, Nat.ne_of_gt l2, Nat.ne_of_gt l3, Nat.ne_of_gt l4, Nat.ne_of_gt l5⟩
  · have hG' : ZG P1 P2 (s.heap.objs.size + 1) h' as := by
      have : ZG P1 P2 ((s.heap.push { cls := .type "list", data := .seq #[] }).update s.heap.objs.size (Obj.mapSeq (fun _ => (#[] : Array Value)))).objs.size h' as := hG
      rw [sz] at this
      exact this
    exact ⟨rfl, hQ h' tk acc c as (fun b o b1 b2 b3 b4 e => hk b o (Nat.ne_of_lt (Heap.lt_size e)) b1 b2 b3 b4 (all b o e)) hS' hl' hG' hacc⟩
end
end NvZ
end PySem

set_option Elab.async false
set_option linter.all false
set_option maxRecDepth 100000
set_option maxHeartbeats 2000000
/-! The data layer, part 16: list(zip(x, y)) as an expression, as data. -/
namespace Nv
open PySem PySem.Spec PyProof.Rows L2
variable [Tbs]
section
variable {X : Cx} {pins : List (Addr × Obj)} {σ : L2.St} {H : Hp} {s : Shared} {h' : Heap}
/-- records turned, any number of new things laid -/
theorem turnedMany {t' : Nat} {ch : List Addr} {H' : Hp} (I : Inv X pins σ H s) (k : ∀ b o, b ∉ ch → s.heap.get? b = some o → h'.get? b = some o) (hf : ∀ b ∈ ch, FpOk X pins H b)
    (low : ∀ b, b < s.heap.objs.size → H' b = H b) (new : ∀ b o, s.heap.objs.size ≤ b → H' b = some o → ObjOk X.prog X.w H' h' b o) : Inv X pins σ H' { s with heap := h', toks := t' } := by
  have nit : ∀ b u, H b = some u → b ∉ ch := fun b u e z => by
    have q := (hf b z).1
    rw [q] at e; cases e
  have up : ∀ b u, H b = some u → H' b = some u := fun b u e => (low b (I.hok.lt e)).trans e
  refine I.step (g' := s.gens) (d' := s.drawn) (ch := ch) (fun b hb => ⟨(hf b hb).2.2.2.1, (hf b hb).2.1, (hf b hb).2.2.2.2.1, (hf b hb).2.2.2.2.2⟩) (fun b o _ _ hc e _ => k b o hc e) (fun b o _ _ hc e _ => ⟨o.slots, k b o hc e⟩)
    (fun b o _ e n => (low b (Heap.lt_size e)).trans n) (fun b o hc e => ⟨o, k b o hc e⟩) (fun b xs e => up b _ e) (fun b o u e => up b _ e) (fun b ps e => ⟨#[], by rw [up b _ e]; simp⟩) (fun m hm => ?_) (fun b u e => ?_) I.bare
  · obtain ⟨o, es, ep, ho, r⟩ := hm
    exact ⟨o, es, ep, k _ o (fun z => (hf _ z).2.1 rfl) ho, r⟩
  · by_cases hb : s.heap.objs.size ≤ b
    · exact new b u hb e
    · rw [low b (Nat.lt_of_not_le hb)] at e
      refine (I.hok b u e).stay (fun c v hc q => k c v ?_ q) (fun c q => up c _ q) fun c xs q => up c _ q
      rcases hc with z | z
      · rw [z]; exact nit b u e
      · exact nit c _ z
end
theorem vals_get' : ∀ {xs : List V} {us : List Value} {i : Nat} {u : Value}, Vals xs us → us[i]? = some u → ∃ x, xs[i]? = some x ∧ L2.RelV x u
  | _, _, _, _, .nil, e => by simp at e
  | _, _, 0, _, .cons r _, e => by simp at e; subst e; exact ⟨_, rfl, r⟩
  | _, _, i + 1, u, .cons _ t, e => by
    obtain ⟨d, h1, h2⟩ := vals_get' (i := i) (u := u) t (by simpa using e)
    exact ⟨d, by simpa using h1, h2⟩
/-- the heap behind list(zip(..)) -/
structure ZipHp (H H2 : Hp) (p : Addr) (xs ys : List V) (ts : List Addr) : Prop where
  keep : ∀ b u, H b = some u → H2 b = some u
  new : H p = none
  lst : H2 p = some (.lst (ts.map V.ref))
  len : ts.length = min xs.length ys.length
  tup : ∀ (j : Nat) (t : Addr), ts[j]? = some t → ∃ x y, xs[j]? = some x ∧ ys[j]? = some y ∧ H2 t = some (.tup [x, y])
def tLZ (K : PySem.W.Frag) (ta : TA) : TE := fun σ H Q => ta σ H fun vs H1 => ∃ a b xs ys, vs = [.ref a, .ref b] ∧ ((SqL K H1 a xs ∧ SqL K H1 b ys) ∨ (SqT K H1 a xs ∧ SqT K H1 b ys)) ∧ ∀ p ts H2, ZipHp H1 H2 p xs ys ts → Q (.ref p) H2
section
variable {X : Cx} {e e2 : Expr} {ta : TA} {p p2 pos pos2 : Pos}
theorem zip_hp {pins : List (Addr × Obj)} {σ : L2.St} {H : Hp} {s : Shared} {h' : Heap} {t' N : Nat} {xs ys : List V} {i1 i2 : List Value} {ts : List Addr} {acc : Array Value} {c : Nat} (I : Inv X pins σ H s) (hN : s.heap.objs.size ≤ N) (r1 : Vals xs i1) (r2 : Vals ys i2) (hz : i1.length ≤ sizeLine)
    (k : ∀ b o, b < s.heap.objs.size → s.heap.get? b = some o → h'.get? b = some o) (hl : h'.get? N = some { cls := .type "list", dict := none, data := .seq acc c, slots := #[] }) (hlen : ts.length = min i1.length i2.length)
    (G : PySem.NvZ.ZG (fun i v => i1.toArray[i]? = some v) (fun i v => i2.toArray[i]? = some v) (N + 1) h' ts) (hacc : acc.toList = ts.map Value.ref) : ∃ H2, Inv X pins σ H2 { s with heap := h', toks := t' } ∧ ZipHp H H2 N xs ys ts := by
  classical
  have hx : ∀ (j : Nat) (t : Addr), ts[j]? = some t → ∃ x y u w, xs[j]? = some x ∧ ys[j]? = some y ∧ RelV x u ∧ RelV y w ∧ PySem.IsTupOf2 h' t u w := fun j t ht => by
    obtain ⟨u, w, a, b, d⟩ := G.pairs j t ht
    obtain ⟨x, ex, rx⟩ := vals_get' r1 (by simpa using a)
    obtain ⟨y, ey, ry⟩ := vals_get' r2 (by simpa using b)
    exact ⟨x, y, u, w, ex, ey, rx, ry, d⟩
  have ab : ∀ (j : Nat) (t : Addr), ts[j]? = some t → N < t := fun j t ht => G.above t (List.mem_of_getElem? ht)
  let H2 : Hp := fun b => if b = N then some (.lst (ts.map V.ref)) else if h : ∃ j, ts[j]? = some b then some (.tup [xs.getD h.choose .non, ys.getD h.choose .non]) else H b
  have e1 : H2 N = some (.lst (ts.map V.ref)) := if_pos rfl
  have uniq : ∀ (i j : Nat) (t : Addr), ts[i]? = some t → ts[j]? = some t → i = j := fun i j t a b => by
    obtain ⟨l1, q1⟩ := List.getElem?_eq_some_iff.mp a
    obtain ⟨l2, q2⟩ := List.getElem?_eq_some_iff.mp b
    exact (List.getElem_inj G.nd).mp (q1.trans q2.symm)
  have e2 : ∀ (j : Nat) (t : Addr) (x y : V), ts[j]? = some t → xs[j]? = some x → ys[j]? = some y → H2 t = some (.tup [x, y]) := fun j t x y ht ex ey => by
    have hne : ¬ t = N := Nat.ne_of_gt (ab j t ht)
    have hex : ∃ j, ts[j]? = some t := ⟨j, ht⟩
    show (if t = N then _ else _) = _
    rw [if_neg hne, dif_pos hex, uniq _ _ t hex.choose_spec ht]
    rw [List.getD_eq_getElem?_getD, List.getD_eq_getElem?_getD, ex, ey]; rfl
  have low : ∀ b, b < s.heap.objs.size → H2 b = H b := fun b hb => by
    show (if b = N then _ else _) = _
    rw [if_neg (Nat.ne_of_lt (Nat.lt_of_lt_of_le hb hN)), dif_neg (fun ⟨j, hj⟩ => Nat.lt_asymm (ab j b hj) (Nat.lt_of_lt_of_le hb hN))]
  refine ⟨H2, ?_, ⟨fun b u q => (low b (I.hok.lt q)).trans q, I.hok.fresh hN, e1, ?_, fun j t ht => ?_⟩⟩
  · refine turnedMany (ch := []) I (fun b o _ q => k b o (Heap.lt_size q) q) (fun _ h => nomatch h) low fun b o hb q => ?_
    by_cases hbN : b = N
    · subst hbN
      rw [e1] at q
      cases q
      refine ⟨by rw [List.length_map, hlen]; omega, ts.map Value.ref, c, ?_, ?_⟩
      · clear hacc hlen G hx ab uniq e2 low e1
        induction ts with
        | nil => exact .nil
        | cons t ts ih => exact .cons rfl ih
      · rw [← hacc]; exact hl
    · by_cases hex : ∃ j : Nat, ts[j]? = some b
      · obtain ⟨j, hj⟩ := hex
        obtain ⟨x, y, u, w, ex, ey, rx, ry, d⟩ := hx j b hj
        rw [e2 j b x y hj ex ey] at q
        cases q
        exact ⟨by show 2 ≤ sizeLine; decide, [u, w], .cons rx (.cons ry .nil), _, d, rfl, _, rfl⟩
      · have q' : H2 b = H b := by
          show (if b = N then _ else _) = _
          rw [if_neg hbN, dif_neg hex]
        rw [q', I.hok.fresh hb] at q
        cases q
  · rw [hlen, r1.length, r2.length]
  · obtain ⟨x, y, u, w, ex, ey, _⟩ := hx j t ht
    exact ⟨x, y, ex, ey, e2 j t x y ht ex ey⟩
theorem pe_listZip (hg : Gl X "list") (hm : X.mg "list" = none) (hg2 : Gl X "zip") (hm2 : X.mg "zip" = none) (ha : PA X [e, e2] ta) (hc : X.calm = true)
    (na : starEach [.Call (.Name "zip" p2) [e, e2] [] pos2] X.env = (false, eval (.Call (.Name "zip" p2) [e, e2] [] pos2) X.env) :: starEach [] X.env := by rfl)
    (hs : starEach [e, e2] X.env = (false, eval e X.env) :: starEach [e2] X.env := by rfl) (hpl : (backTo pos2 (starEach [e2] X.env)).any (·.1) = false := by rfl) :
    PE X (.Call (.Name "list" p) [.Call (.Name "zip" p2) [e, e2] [] pos2] [] pos) (tLZ X.K ta) := by
  refine ⟨fun pins s σ H Q I h => ?_⟩
  refine Call_ (ld_blt I hg hm PyProof.Rows.boot_list ?_)
  refine PyProof.Rows.callWith_type1 (PyProof.Rows.args_cons ?_ na) na rfl
  refine Call_ (ld_blt I hg2 hm2 PyProof.Rows.boot_zip (PyProof.Rows.callWith_type1 (thn (ha.run pos2 pins s σ H _ I h) fun us s1 ⟨vs, H1, I1, r1, q1⟩ => ?_) hs hpl))
  obtain ⟨a, b, xs, ys, ex, hq, q1⟩ := q1
  subst ex
  cases r1 with
  | cons r rr =>
    cases rr with
    | cons r' rr =>
      cases rr
      cases r
      cases r'
      have hh : X.A.handled = none := I1.ok.hd hc
      have fin : ∀ (h1 : Heap) (t1 : Nat) (i1 i2 : List Value) (St1 St2 : Nat → Heap → Prop) (hk : ∀ c o, s1.heap.get? c = some o → h1.get? c = some o) (hsz : h1.objs.size = s1.heap.objs.size + 5) (rv1 : Vals xs i1) (rv2 : Vals ys i2) (hz1 : i1.length ≤ sizeLine)
          (hz : IsZip h1 (s1.heap.objs.size + 4) (s1.heap.objs.size + 2) (s1.heap.objs.size + 3) .none) (hTI : IsTupOf2 h1 (s1.heap.objs.size + 2) (.ref s1.heap.objs.size) (.ref (s1.heap.objs.size + 1))) (hTO : IsTupOf2 h1 (s1.heap.objs.size + 3) .none .none)
          (ala : a < s1.heap.objs.size) (alb : b < s1.heap.objs.size)
          (D1 : Draws X.prog X.w X.A.in1.in1.in1 s1.heap.objs.size [s1.heap.objs.size, a] i1.length (fun i v => i1.toArray[i]? = some v) St1) (D2 : Draws X.prog X.w X.A.in1.in1.in1 (s1.heap.objs.size + 1) [s1.heap.objs.size + 1, b] i2.length (fun i v => i2.toArray[i]? = some v) St2) (b1 : St1 0 h1) (b2 : St2 0 h1),
          wpAny (model X.prog X.w) X.A (call (.type "list") [.ref (s1.heap.objs.size + 4)]) (EP X pins σ Q) X.xe { s1 with heap := h1, toks := t1 } := by
        intro h1 t1 i1 i2 St1 St2 hk hsz rv1 rv2 hz1 hz hTI hTO ala alb D1 D2 b1 b2
        have S := zip_sep2 (N := s1.heap.objs.size) (fp1 := [a]) (fp2 := [b]) (fun c hc => by rw [List.mem_singleton.mp hc]; exact ala) (fun c hc => by rw [List.mem_singleton.mp hc]; exact alb)
        have five : ∀ i, i < 5 → s1.heap.objs.size + i < h1.objs.size := fun i hi => by omega
        refine NvZ.zl_call (A := X.A) (s := { s1 with heap := h1, toks := t1 }) S D1 D2 (by omega) ⟨five 4 (by omega), five 2 (by omega), five 3 (by omega), five 0 (by omega), five 1 (by omega)⟩ (fun c hc => ?_) (fun c hc => ?_) hz hTI ⟨_, _, hTO⟩ b1 b2 fun h' tk acc c as k hl hlen G hacc => ?_
        · rcases List.mem_cons.mp hc with z | z
          · rw [z]; exact five 0 (by omega)
          · rw [List.mem_singleton.mp z]; exact Nat.lt_of_lt_of_le ala (by rw [hsz]; exact Nat.le_add_right _ _)
        · rcases List.mem_cons.mp hc with z | z
          · rw [z]; exact five 1 (by omega)
          · rw [List.mem_singleton.mp z]; exact Nat.lt_of_lt_of_le alb (by rw [hsz]; exact Nat.le_add_right _ _)
        · obtain ⟨H2, I2, z⟩ := zip_hp (s := s1) (h' := h') (t' := tk) (N := h1.objs.size) (ts := as) I1 (by omega) rv1 rv2 hz1 (fun c o hc q => k c o (Nat.ne_of_lt (Nat.lt_of_lt_of_le hc (Nat.le_add_right _ _))) (Nat.ne_of_lt (Nat.lt_of_lt_of_le hc (Nat.le_add_right _ _))) (Nat.ne_of_lt hc) (Nat.ne_of_lt (Nat.lt_of_lt_of_le hc (Nat.le_add_right _ _))) (hk c o q)) hl hlen G hacc
          exact ⟨.ref h1.objs.size, H2, I2, rfl, q1 _ _ _ z⟩
      rcases hq with ⟨hqx, hqy⟩ | ⟨hqx, hqy⟩
      · obtain ⟨its, rv, p1, hz1⟩ := I1.list hqx
        obtain ⟨its2, rv2, p2, hz2⟩ := I1.list hqy
        refine call_zip_2 p1.isList p2.isList fun h' hz hTI hTO h1 h2 hsz hk => PyProof.Rows.args_nil ?_
        exact fin h' _ its its2 _ _ hk hsz rv rv2 (by rw [← rv.length]; exact hz1) hz hTI hTO p1.lt p2.lt (Draws.list (A := X.A.in1.in1.in1) hh _ a (Nat.ne_of_lt p1.lt) its.toArray) (Draws.list (A := X.A.in1.in1.in1) hh _ b (Nat.ne_of_lt (Nat.lt_succ_of_lt p2.lt)) its2.toArray) ⟨h1, p1.isList.at fun o q => hk _ _ q⟩ ⟨h2, p2.isList.at fun o q => hk _ _ q⟩
      · obtain ⟨its, rv, p1, hz1⟩ := I1.tuple hqx
        obtain ⟨its2, rv2, p2, hz2⟩ := I1.tuple hqy
        obtain ⟨o1, ho1, _⟩ := id p1
        obtain ⟨o2, ho2, _⟩ := id p2
        have la := Heap.lt_size ho1
        have lb := Heap.lt_size ho2
        refine RZ.call_zipT (show s1.heap.IsTuple a its.toArray from p1) (show s1.heap.IsTuple b its2.toArray from p2) fun h' hz hTI hTO h1 h2 hsz hk => PyProof.Rows.args_nil ?_
        exact fin h' _ its its2 _ _ hk hsz rv rv2 (by rw [← rv.length]; exact hz1) hz hTI hTO la lb (Draws.tuple (A := X.A.in1.in1.in1) hh _ a (Nat.ne_of_lt la) its.toArray) (Draws.tuple (A := X.A.in1.in1.in1) hh _ b (Nat.ne_of_lt (Nat.lt_succ_of_lt lb)) its2.toArray) ⟨h1, Heap.IsTuple.at (show s1.heap.IsTuple a its.toArray from p1) fun o q => hk _ _ q⟩ ⟨h2, Heap.IsTuple.at (show s1.heap.IsTuple b its2.toArray from p2) fun o q => hk _ _ q⟩
/-! ### as data -/
theorem OwnZ.grow {B : Bs} {H H' : Hp} {P : List (V × Val)} {Z : Addr → Prop} {fp : List Addr} (x : OwnZ B H P Z fp) (k : ∀ b u, H b = some u → H' b = some u) : OwnZ B H' P Z fp := by
  refine ⟨x.tr.mono (fun b u e _ => k b u e) (fun a u _ e => k a u e) (fun _ z => z) (fun a _ u e => k a u e), x.nd, x.nz, x.new, fun a z => ?_, x.zo, ⟨fun b u e r t => k b u (x.fr.keep b u e r t)⟩, Tabs.keep x.tb fun b u e _ => k b u e⟩
  obtain ⟨u, q, t⟩ := x.zt a z
  exact ⟨u, k a u q, t⟩
/-- the couples of two rows -/
def zipD (xs ys : List PyData) : List PyData := (xs.zip ys).map fun p => .tuple [p.1, p.2]
theorem zip_tr {B : Bs} {H : Hp} {Z : Addr → Prop} {xs ys : List V} {ds es : List PyData} (rx : RepL B.K H Z xs ds) (ry : RepL B.K H Z ys es) : ∀ (ts : List Addr) (n : Nat), ts.length + n = min xs.length ys.length → (∀ (j : Nat) (t : Addr), ts[j]? = some t → ∃ x y, xs[j + n]? = some x ∧ ys[j + n]? = some y ∧ H t = some (.tup [x, y])) → RepL B.K H Z (ts.map V.ref) ((zipD ds es).drop n)
  | [], n, hl, _ => by
    have : (zipD ds es).drop n = [] := List.drop_eq_nil_of_le (by simp only [zipD, List.length_map, List.length_zip]; rw [← rx.length, ← ry.length]; simp at hl; omega)
    rw [this]
    exact .nil
  | t :: ts, n, hl, h => by
    obtain ⟨x, y, ex, ey, ht⟩ := h 0 t rfl
    rw [Nat.zero_add] at ex ey
    obtain ⟨d, ed, rd⟩ := rx.get' ex
    obtain ⟨e, ee, re⟩ := ry.get' ey
    have ez : (zipD ds es)[n]? = some (.tuple [d, e]) := by
      have : (ds.zip es)[n]? = some (d, e) := List.getElem?_zip_eq_some.mpr ⟨ed, ee⟩
      simp only [zipD, List.getElem?_map, this, Option.map_some]
    have ed' := List.drop_eq_getElem_cons (List.getElem?_eq_some_iff.mp ez).1
    rw [ed', (List.getElem?_eq_some_iff.mp ez).2]
    refine .cons (.tup (.inl (.inl ht)) (.cons rd (.cons re .nil))) (zip_tr rx ry ts (n + 1) (by simp at hl; omega) fun j u hu => ?_)
    obtain ⟨x, y, a, b, c⟩ := h (j + 1) u (by simpa using hu)
    exact ⟨x, y, by rw [← a]; congr 1; omega, by rw [← b]; congr 1; omega, c⟩
def tupD : Val → Option (List PyData)
  | .d (.tuple ds) => some ds
  | _ => none
theorem View.tupD {B : Bs} {H : Hp} {Z : Addr → Prop} {x : V} {v : Val} {ds : List PyData} (w : View B H Z x v) (e : tupD v = some ds) : ∃ a vs, x = .ref a ∧ SqT B.K H a vs ∧ RepL B.K H Z vs ds := by
  unfold Nv.tupD at e
  split at e
  · cases e; exact w.tup
  · cases e
def lzV : List Val → Option Val
  | [a, b] => match tupD a, tupD b with
    | some xs, some ys => some (.ol ((zipD xs ys).map Val.d))
    | _, _ => (lstD a).bind fun xs => (lstD b).map fun ys => .ol ((zipD xs ys).map Val.d)
  | _ => none
theorem de_listZip {X : Cx} {e e2 : Expr} {tr : M (List Rs)} {p p2 pos pos2 : Pos} (ha : DA X [e, e2] tr) (hg : Gl X "list") (hm : X.mg "list" = none) (hg2 : Gl X "zip") (hm2 : X.mg "zip" = none)
    (na : starEach [.Call (.Name "zip" p2) [e, e2] [] pos2] X.env = (false, eval (.Call (.Name "zip" p2) [e, e2] [] pos2) X.env) :: starEach [] X.env := by rfl)
    (hs : starEach [e, e2] X.env = (false, eval e X.env) :: starEach [e2] X.env := by rfl) (hpl : (backTo pos2 (starEach [e2] X.env)).any (·.1) = false := by rfl) :
    DE X (.Call (.Name "list" p) [.Call (.Name "zip" p2) [e, e2] [] pos2] [] pos) (opN lzV tr) :=
  ⟨fun B W c => PE_weak (pe_listZip hg hm hg2 hm2 (ha.run B W c) c.calm na hs hpl) fun σ H Q ⟨δ, L, s, q⟩ => by
    refine tDA_next (M' := []) knE s q fun xs H1 rs δ hl s q => ?_
    obtain ⟨z, ez⟩ := fin_has q
    cases e1 : getAll rs δ with
    | none => rw [e1] at ez; cases ez
    | some as =>
      obtain ⟨Z, fp, o, vw⟩ := SR.open (M' := xs.zip rs) s
      have vs := views_of hl (fun x r v m g => vw x r v (List.mem_append_left _ m) g) e1
      rw [e1] at ez
      have ez' : lzV as = some z := ez
      have q' := fun zv H' => fin_end (M' := xs.zip rs) (z := z) (by rw [e1]; exact ez) s q zv H'
      unfold lzV at ez'
      split at ez'
      · rename_i a b
        cases vs with
        | cons va vs =>
          cases vs with
          | cons vb vs =>
            cases vs
            have done : ∀ (x y : Addr) (ws us : List V) (ds es : List PyData), RepL B.K H1 Z ws ds → RepL B.K H1 Z us es → z = .ol ((zipD ds es).map Val.d) → ∀ p ts H2, ZipHp H1 H2 p ws us ts → Q (.ref p) H2 := fun x y ws us ds es r1 r2 ez p ts H2 zh => by
              subst ez
              refine q' _ _ ?_
              have o2 := o.grow zh.keep
              have r1' : RepL B.K H2 Z ws ds := r1.mono (fun b u e _ => zh.keep b u e) (fun a u _ e => zh.keep a u e) (fun _ z => z)
              have r2' : RepL B.K H2 Z us es := r2.mono (fun b u e _ => zh.keep b u e) (fun a u _ e => zh.keep a u e) (fun _ z => z)
              have rz := zip_tr r1' r2' ts 0 (by simpa using zh.len) fun j t ht => zh.tup j t ht
              obtain ⟨t, e1, e2⟩ := TrL.of_rep rz
              rw [List.drop_zero] at t e1 e2
              obtain ⟨nf, nz⟩ := o.nofp zh.new
              refine ⟨Z, [p] ++ fp, .cons (f := [p]) (.ol zh.lst e1.symm e2.symm t) o2.tr, ?_, fun a ha => ?_, fun a ha => ?_, o2.zt, o2.zo, o2.fr, o2.tb⟩
              · exact List.nodup_cons.mpr ⟨nf, o.nd⟩
              · rcases List.mem_cons.mp ha with rfl | ha
                · exact nz
                · exact o.nz a ha
              · rcases List.mem_cons.mp ha with rfl | ha
                · exact o.none0 zh.new
                · exact o.new a ha
            split at ez'
            · rename_i ds es h1 h2
              obtain ⟨x, ws, rfl, s1, r1⟩ := va.tupD h1
              obtain ⟨y, us, rfl, s2, r2⟩ := vb.tupD h2
              cases ez'
              exact ⟨x, y, ws, us, rfl, .inr ⟨c.k ▸ s1, c.k ▸ s2⟩, done x y ws us ds es r1 r2 rfl⟩
            · cases h1 : lstD a with
              | none => rw [h1] at ez'; cases ez'
              | some ds =>
                cases h2 : lstD b with
                | none => rw [h1, h2] at ez'; cases ez'
                | some es =>
                  rw [h1, h2] at ez'
                  obtain ⟨x, ws, rfl, s1, r1⟩ := va.lst h1
                  obtain ⟨y, us, rfl, s2, r2⟩ := vb.lst h2
                  cases ez'
                  exact ⟨x, y, ws, us, rfl, .inl ⟨c.k ▸ s1, c.k ▸ s2⟩, done x y ws us ds es r1 r2 rfl⟩
      · cases ez'⟩
end
end Nv

set_option Elab.async false
set_option linter.all false
set_option maxRecDepth 100000
set_option maxHeartbeats 2000000
/-! The data layer, part 17: int(t, 2); f'{n:07b}'; ''.join. -/
namespace Nv
open PySem PySem.Spec PyProof.Rows L2
open PySem.NumText PySem.Calls
variable [Tbs]
/-! ### int(t, 2) -/
def IsBin (c : Nat) : Prop := c = 48 ∨ c = 49
def binNum (l : List Nat) : Nat := l.foldl (fun a c => a * 2 + (c - 48)) 0
theorem bin_hex {c : Nat} (h : IsBin c) : Hx.IsHex c := by unfold IsBin at h; unfold Hx.IsHex; omega
theorem step_bin {ds : Array Nat} {b : Bool} {c : Nat} (h : IsBin c) : PySem.NumText.step 2 (ds, b) c = some (ds.push (c - 48), true) := by
  unfold PySem.NumText.step
  rcases h with rfl | rfl <;> rfl
theorem foldl_bin : ∀ (cs : List Nat) (ds : Array Nat), (∀ c ∈ cs, IsBin c) → cs.foldlM (PySem.NumText.step 2) (ds, true) = some (cs.foldl (fun acc c => acc.push (c - 48)) ds, true)
  | [], _, _ => rfl
  | c :: cs, ds, h => by
    rw [List.foldlM_cons, step_bin (h c (List.mem_cons_self ..))]
    show cs.foldlM (PySem.NumText.step 2) (ds.push (c - 48), true) = _
    exact foldl_bin cs (ds.push (c - 48)) fun d hd => h d (List.mem_cons_of_mem _ hd)
theorem digits_bin {cs : List Nat} (h : ∀ c ∈ cs, IsBin c) (hne : cs ≠ []) : digits? 2 cs = some (cs.foldl (fun acc c => acc.push (c - 48)) #[]) := by
  cases cs with
  | nil => exact absurd rfl hne
  | cons c cs =>
    unfold digits?
    rw [List.foldlM_cons, step_bin (h c (List.mem_cons_self ..))]
    show (cs.foldlM (PySem.NumText.step 2) ((#[] : Array Nat).push (c - 48), true)).bind _ = _
    rw [foldl_bin cs _ fun d hd => h d (List.mem_cons_of_mem _ hd)]
    rfl
theorem push_bin : ∀ (cs : List Nat) (ds : Array Nat), (cs.foldl (fun acc c => acc.push (c - 48)) ds).foldl (fun acc d => acc * 2 + d) 0 = cs.foldl (fun a c => a * 2 + (c - 48)) (ds.foldl (fun acc d => acc * 2 + d) 0)
  | [], _ => rfl
  | c :: cs, ds => by
    rw [List.foldl_cons, push_bin cs (ds.push (c - 48)), List.foldl_cons]
    congr 1
    simp
theorem basedB {cs : List Nat} (h : ∀ c ∈ cs, IsBin c) : based 2 cs = (2, false, cs) := by
  match cs, h with
  | [], _ => rfl
  | [a], h => rcases h a (List.mem_cons_self ..) with rfl | rfl <;> rfl
  | a :: c :: r, h =>
    rcases h a (List.mem_cons_self ..) with rfl | rfl <;> rcases h c (List.mem_cons_of_mem _ (List.mem_cons_self ..)) with rfl | rfl <;> rfl
theorem read_bin {cs : List Nat} (h : ∀ c ∈ cs, IsBin c) (hne : cs ≠ []) : (int_private% "readNumeral") 0 2 cs = (int_private% "Numeral.value") ((binNum cs : Nat) : Int) := by
  have hr : ∀ c ∈ cs.reverse, IsBin c := fun c hc => h c (List.mem_reverse.mp hc)
  refine (readNumeral_eq 0 2 cs).trans ?_
  rw [Hx.dropB fun c hc => bin_hex (h c hc), Hx.signH fun c hc => bin_hex (h c hc)]
  show judge 0 false (based 2 cs).1 (based 2 cs).2.1 (digits? (based 2 cs).1 (((based 2 cs).2.2.reverse.dropWhile blank).reverse)) = _
  rw [basedB h]
  show judge 0 false 2 false (digits? 2 ((cs.reverse.dropWhile blank).reverse)) = _
  rw [Hx.dropB fun c hc => bin_hex (hr c hc), List.reverse_reverse, digits_bin h hne]
  show (int_private% "Numeral.value") (((cs.foldl (fun acc c => acc.push (c - 48)) (#[] : Array Nat)).foldl (fun acc d => acc * 2 + d) 0 : Nat) : Int) = _
  have z : (#[] : Array Nat).foldl (fun acc d => acc * 2 + d) 0 = 0 := by first | rfl | simp
  rw [push_bin, z] <;> rfl
set_option maxHeartbeats 4000000 in
theorem gives_bin {x : PySem.Str} {u t : Tok} (hl : x.length ≤ 640) (h : ∀ c ∈ x.cps.toList, IsBin c) (hne : x.cps.toList ≠ []) :
    Gives (Builtin.«int.__new__» ⟨[.type "int", .str x u, .int 2 t], []⟩) (.int ((binNum x.cps.toList : Nat) : Int)) :=
  .of_wp fun M A E s Q hQ => by
    obtain ⟨hp, g, d, tk, os⟩ := s
    have f1 := F.conv_sub_int
    have f2 := F.madeHere_int
    have f6 : typeOf (.str x u) = pure (.type "str") := rfl
    obtain ⟨e1, e2⟩ := Hx.seen_hex fun c hc => bin_hex (h c hc)
    have hs : (numSeenOf x).length ≤ 640 := by
      rw [e2, Array.length_toList]
      exact hl
    have hr : (int_private% "readNumeral") 0 2 (numSeenOf x) = (int_private% "Numeral.value") ((binNum x.cps.toList : Nat) : Int) := by
      rw [e2]
      exact read_bin h hne
    have ha : ((numSeenOf x).length == (numTextOf x).length) = true := by
      rw [e1, e2]
      exact beq_self_eq_true _
    have hk := Hx.Hid.mk (And.intro hs (And.intro hr ha))
    clear hs hr ha e1 e2 hl hne h
    repeat (any_goals (first
      | assumption
      | ((with_reducible show wpAny _ _ ((int_private% "intFromText") _ _ _) _ _ _); refine Hx.wp_textB hk.out.1 hk.out.2.1 hk.out.2.2 ?_)
      | wp_step))
    all_goals first | exact ⟨_, rfl, hQ⟩ | skip
theorem call_bin {prog : Program} {w : World} {A : Around} {E : Value → Shared → Prop} {s : Shared} {Q : Value → Shared → Prop} {x : PySem.Str} {u t : Tok} (hl : x.length ≤ 640) (h : ∀ c ∈ x.cps.toList, IsBin c) (hne : x.cps.toList ≠ [])
    (hQ : Q (.int ((binNum x.cps.toList : Nat) : Int) s.toks) { s with toks := s.toks + 1 }) : wpAny (model prog w) A (call (.type "int") [.str x u, .int 2 t]) Q E s :=
  callType_new F.called_int F.newNe_int (Hx.typeCall_int_2 _ _) (Hx.newCall_int_2 _ _) (fun obj => F.initArgs_range_2 obj _ _) F.entry_int_new (gives_bin hl h hne).meets (show (Made.int ((binNum x.cps.toList : Nat) : Int)).post _ s from ⟨rfl, hQ⟩)
def rIntBin : List V → Hp → VK → Prop := fun xs H Q => ∃ x : Str, xs = [.str x, .int 2] ∧ x.cps.toList ≠ [] ∧ x.length ≤ 640 ∧ (∀ c ∈ x.cps.toList, IsBin c) ∧ Q (.int ((binNum x.cps.toList : Nat) : Int)) H
theorem call_int_bin {X : Cx} : CallR X (.type "int") rIntBin := by
  intro pins s σ H xs us Q I r h
  obtain ⟨x, rfl, hne, hl, hx, q⟩ := h
  obtain ⟨u, w', rfl, r1, r2⟩ := vals2 r
  obtain ⟨t1, rfl⟩ := r1
  obtain ⟨t2, rfl⟩ := r2
  exact call_bin (x := x) hl hx hne ⟨.int ((binNum x.cps.toList : Nat) : Int), H, I.tok _, ⟨_, rfl⟩, q⟩
def intBV : List Val → Option Val
  | [.d (.str x), .d (.int 2)] => if x.cps.toList ≠ [] ∧ x.length ≤ 640 ∧ x.cps.toList.all (fun c => c == 48 || c == 49) = true then some (.d (.int (binNum x.cps.toList : Nat))) else none
  | _ => none
theorem intB_ok {X : Cx} : CallOk X (.type "int") intBV := CallOk.of call_int_bin fun xs H B P Z fp as z hk o vs e => by
  unfold intBV at e
  split at e
  · rename_i x
    split at e
    · rename_i h
      cases e
      cases vs with | cons v t => cases t with | cons v2 t => cases t; exact ⟨x, by rw [v.str, v2.int], h.1, h.2.1, fun c hc => by
        have := List.all_eq_true.mp h.2.2 c hc
        simpa [IsBin] using this, ⟨Z, fp, Own.addD o (.int _)⟩⟩
    · cases e
  · cases e
end Nv

set_option Elab.async false
set_option linter.all false
set_option maxRecDepth 100000
set_option maxHeartbeats 2000000
/-! The data layer, part 18: f'{n:07b}'; ''.join. -/
namespace PySem.W
open PySem PySem.Calls PyProof.Rows
def bin7 (n : Nat) : PySem.Str := ⟨((List.range 7).map fun i => 48 + n / 2 ^ (6 - i) % 2).toArray⟩
theorem meets07 {n : Nat} (hn : n < 128) {t : Tok} : ∀ u, Meets (Builtin.«int.__format__» ⟨[.int (n : Int) t, .str "07b" u], []⟩) (fun _ R s => ∀ t' k, R (.ok (.ret (.str (bin7 n) t'))) { s with toks := k }) := by
  intro _
  apply KPc.meets_of
  intro _ _ _ _ _ _ _
  unfold Builtin.«int.__format__»
  refine wpAny_bind (wpAny_of_eq (a := (_, _)) rfl ?_)
  refine wpAny_bind (wpAny_of_eq (a := _) rfl ?_)
  kxf_if
  refine wpAny_bind (wpAny_typeNameOf (T := "str") (typeIs_str _ _ _) (by decide) fun _ => ?_)
  refine wpAny_bind (wpAny_of_eq (a := some _) rfl ?_)
  kxf_if
  kxf_if
  refine wpAny_bind (wpAny_typeNameOfCut_int ?_)
  (repeat kxf_if)
  refine KXf.ret_text (T := bin7 n) ?_ (by (repeat (rename_i h; clear h)); revert n; decide +kernel) ?_
  · (repeat (rename_i h; clear h))
    revert n
    decide +kernel
  · assumption
end PySem.W
namespace Nv
open PySem PySem.Spec PyProof.Rows L2
open PySem.W (bin7)
variable [Tbs]
def tFmt7 (te : TE) : TE := fun σ H Q => te σ H fun x H1 => ∃ n : Nat, n < 128 ∧ x = .int (n : Int) ∧ Q (.str (bin7 n)) H1
theorem pe_fmt07 {X : Cx} {e : Expr} {te : TE} {pos p1 p2 : Pos} {j} (he : PE X e te) : PE X (.FormattedValue e (-1) (some (.JoinedStr [.Constant (.str "07b") j p1] p2)) pos) (tFmt7 te) := by
  refine ⟨fun pins s σ H Q I h => ?_⟩
  refine wpAny_FormattedValue_spec (thn (he.run pins s σ H _ I h) fun v s1 ⟨x, H1, I1, r1, n, hn, ex, q⟩ => ?_)
  subst ex
  obtain ⟨t, rfl⟩ := r1
  have pj := pe_joined1 (X := X) (pos := p2) (pe_str (x := "07b") (pos := p1) (j := j))
  refine thn (pj.run pins s1 σ H1 (fun y H2 => y = .str "07b" ∧ H2 = H1) I1 ⟨rfl, rfl⟩) fun r s2 ⟨y, H2, I2, r2, ey, eH⟩ => ?_
  subst ey
  subst eH
  obtain ⟨t2, rfl⟩ := r2
  refine ⟨_, _, rfl, ?_⟩
  exact PySem.W.KXf.field_int (spec' := "07b") rfl (by decide) (by decide) (PySem.W.meets07 hn) fun t' k => ⟨.str (bin7 n), _, I2.tok _, ⟨_, rfl⟩, q⟩
def fmt7V : Val → Option Val
  | .d (.int i) => if 0 ≤ i ∧ i < 128 then some (.d (.str (bin7 i.toNat))) else none
  | _ => none
theorem de_fmt07 {X : Cx} {e : Expr} {te : ES} {pos p1 p2 pos3 : Pos} {j} (he : DE X e te) : DE X (.JoinedStr [.FormattedValue e (-1) (some (.JoinedStr [.Constant (.str "07b") j p1] p2)) pos] pos3) (op1 fmt7V te) :=
  ⟨fun B W c => PE_weak (pe_joined1 (pe_fmt07 (he.run B W c))) fun σ H Q h => by
    obtain ⟨δ, L, s, q⟩ := h
    refine tD_next (M' := []) knE s q fun x H1 r δ s q => ?_
    obtain ⟨z, e⟩ := fin_has q
    cases e1 : r.get δ with
    | none => rw [e1] at e; cases e
    | some v =>
      obtain ⟨Z, fp, o, vw⟩ := SR.open (M' := [(x, r)]) s
      rw [e1] at e
      have e' : fmt7V v = some z := e
      have fe := fin_end (M' := [(x, r)]) (z := z) (by rw [e1]; exact e) s q
      unfold fmt7V at e'
      split at e'
      · split at e'
        · rename_i i hi
          cases e'
          refine ⟨i.toNat, by omega, ?_, fe _ _ ⟨Z, fp, Own.addD o (.str _)⟩⟩
          rw [(vw x r _ List.mem_cons_self e1).int, Int.toNat_of_nonneg hi.1]
        · cases e'
      · cases e'⟩
/-! ### ''.join(e) -/
def strsD : List PyData → Option (List Str)
  | [] => some []
  | .str x :: ds => (strsD ds).map (x :: ·)
  | _ => none
theorem RepL.strs {K : PySem.W.Frag} {H : Hp} {Z : Addr → Prop} : ∀ {vs : List V} {ds : List PyData} {ys : List Str}, RepL K H Z vs ds → strsD ds = some ys → vs = ys.map V.str
  | [], [], ys, _, e => by cases e; rfl
  | v :: vs, d :: ds, ys, .cons r t, e => by
    cases r with
    | str x =>
      unfold strsD at e
      cases e1 : strsD ds with
      | none => rw [e1] at e; cases e
      | some zs => rw [e1] at e; cases e; rw [RepL.strs t e1]; rfl
    | _ => cases e
def joinV (x : Str) (b : Val) : Option Val := (seqD b).bind fun ds => (strsD ds).bind fun ys => if (ys.map (·.length)).sum + ys.length * x.length ≤ 16777216 then some (.d (.str (Txt.join x ys))) else none
def joinS (to te : ES) : ES := M.bind to fun r δ => match r.get δ with
  | some (.d (.str x)) => M.bind te (fun r2 δ2 => fin ((r2.get δ2).bind (joinV x)) δ2) δ
  | _ => none
theorem de_join {X : Cx} {o e : Expr} {to te : ES} {apos pos : Pos} (ho : DE X o to) (he : DE X e te) (hs : starEach [e] X.env = [(false, eval e X.env)] := by rfl) (hbase : attributeBase o "join" X.env (eval o X.env) = eval o X.env := by rfl) (hline : (apos.endLine == pos.line) = true := by rfl) :
    DE X (.Call (.Attribute o "join" apos) [e] [] pos) (joinS to te) :=
  ⟨fun B W c => PE_weak (pe_join (ho.run B W c) (he.run B W c) hs hbase hline) fun σ H Q h => by
    obtain ⟨δ, L, s, q⟩ := h
    refine tD_next (M' := []) knE s q fun x H1 r δ s q => ?_
    cases e1 : r.get δ with
    | none => simp only [e1] at q; exact q.elim
    | some v =>
      obtain ⟨Z, fp, o, vw⟩ := SR.open (M' := [(x, r)]) s
      have vx := vw x r v List.mem_cons_self e1
      cases v with
      | ol _ => simp only [e1] at q; exact q.elim
      | d y =>
        cases y with
        | str z =>
          simp only [e1] at q
          have ex := vx.str
          subst ex
          refine ⟨⟨z, rfl⟩, ?_⟩
          refine tD_next (M' := []) knE s.drop1 q fun y H2 r2 δ s q => ?_
          obtain ⟨w, e⟩ := fin_has q
          cases e2 : r2.get δ with
          | none => rw [e2] at e; cases e
          | some v2 =>
            obtain ⟨Z, fp, o, vw⟩ := SR.open (M' := [(y, r2)]) s
            have vy := vw y r2 v2 List.mem_cons_self e2
            rw [e2] at e
            have e' : joinV z v2 = some w := e
            have fe := fin_end (M' := [(y, r2)]) (z := w) (by rw [e2]; exact e) s q
            unfold joinV at e'
            cases e3 : seqD v2 with
            | none => rw [e3] at e'; cases e'
            | some ds =>
              rw [e3] at e'
              cases e4 : strsD ds with
              | none => simp only [Option.bind_some, e4] at e'; cases e'
              | some ys =>
                simp only [Option.bind_some, e4] at e'
                split at e'
                · rename_i hz
                  cases e'
                  obtain ⟨a, ws, rfl, h1, rr⟩ := vy.seq e3
                  have ews := rr.strs e4
                  subst ews
                  exact ⟨z, a, ys, rfl, rfl, c.k ▸ h1, hz, fe _ _ ⟨Z, fp, Own.addD o (.str _)⟩⟩
                · cases e'
        | _ => simp only [e1] at q; exact q.elim⟩
end Nv

set_option Elab.async false
set_option linter.all false
set_option maxRecDepth 100000
set_option maxHeartbeats 2000000
/-! The data layer, part 19: isinstance. -/
namespace Nv
open PySem PySem.Spec PyProof.Rows L2
variable [Tbs]
/-- the name of a value's type -/
def tyD : PyData → Option String
  | .none => some "NoneType"
  | .bool _ => some "bool"
  | .int _ => some "int"
  | .str _ => some "str"
  | .list _ => some "list"
  | .tuple _ => some "tuple"
  | _ => none
def tyV : Val → Option String
  | .d x => tyD x
  | .ol _ => some "list"
def isiB (a b : String) : Bool := a == b || (a == "bool" && b == "int")
def tyNames : List String := ["NoneType", "bool", "int", "str", "list", "tuple"]
def clNames : List String := ["bool", "int", "str", "list", "tuple", "dict", "set", "float", "bytes", "frozenset"]
theorem kit_tbl : ∀ a ∈ tyNames, ∀ b ∈ clNames, kitB a b = some (isiB a b) := by decide +kernel
theorem tyV_mem {v : Val} {T : String} (h : tyV v = some T) : T ∈ tyNames := by
  cases v with
  | ol xs => cases h; decide
  | d x => cases x <;> cases h <;> decide
theorem View.ty {B : Bs} {H : Hp} {Z : Addr → Prop} {x : V} {v : Val} {T : String} (w : View B H Z x v) (h : tyV v = some T) : TyX B.K H x (.type T) := by
  obtain ⟨f, t⟩ := w
  cases t with
  | ol e _ _ _ => cases h; exact .base (.lst e)
  | d r =>
    cases r with
    | non => cases h; exact .base .non
    | bl b => cases h; exact .base (.bl b)
    | int i => cases h; exact .base (.int i)
    | str x => cases h; exact .base (.str x)
    | lst e _ _ =>
      cases h
      rcases e with e | ⟨o, e⟩
      · exact .base (.lst e)
      · exact .base (.frz e)
    | lstK e _ =>
      cases h
      obtain ⟨o, its, n, e1, e2, _⟩ := e
      exact .kList e1 e2
    | tup e _ =>
      cases h
      rcases e with (e | ⟨o, e⟩) | e
      · exact .base (.tup e)
      · exact .fTuple e
      · obtain ⟨o, its, n, e1, e2, _⟩ := e
        exact .kTuple e1 e2
def isiV (Ts : List String) (v : Val) : Option Val := (tyV v).map fun T => .d (.bool (Ts.any (isiB T)))
theorem kitAny_tbl {K : PySem.W.Frag} {T : String} (hT : T ∈ tyNames) : ∀ (Ts : List String), (∀ b ∈ Ts, b ∈ clNames) → PySem.W.kitAny K (.type T) (Ts.map Value.type) = some (Ts.any (isiB T))
  | [], _ => rfl
  | b :: Ts, h => by
    rw [List.map_cons, List.any_cons]
    refine kitAny_cons (kit_ty (kit_tbl T hT b (h b List.mem_cons_self))) (fun e => ?_) (fun e => ?_)
    · rw [e, Bool.false_or]
      exact kitAny_tbl hT Ts fun c hc => h c (List.mem_cons_of_mem _ hc)
    · rw [e, Bool.true_or]
theorem clsv_tys : ∀ Ts : List String, Paired ClsV (Ts.map V.ty) (Ts.map Value.type)
  | [] => .nil
  | b :: Ts => .cons (.ty b) (clsv_tys Ts)
section
variable {X : Cx} {e : Expr} {te : ES} {p p2 p3 pos : Pos}
/-- isinstance(e, T) -/
theorem de_isi {t : Str} {T : String} (he : DE X e te) (hg : Gl X "isinstance") (hm : X.mg "isinstance" = none) (hg2 : Gl X t) (hm2 : X.mg t = none) (hv : bootBuiltins t = some (.type T)) (hT : T ∈ clNames)
    (hn : t ≠ "__name__" := by decide) (hd : (t == ("__debug__" : Str)) = false := by decide)
    (hs : starEach (e :: [.Name t p2]) X.env = (false, eval e X.env) :: starEach [.Name t p2] X.env := by rfl) (hpl : (backTo pos (starEach [.Name t p2] X.env)).any (·.1) = false := by rfl) :
    DE X (.Call (.Name "isinstance" p) [e, .Name t p2] [] pos) (op1 (isiV [T]) te) :=
  ⟨fun B W c => PE_weak (pe_callB call_isi hg hm boot_isinstance (pa_cons (he.run B W c) (pa_cons (pe_bltn hg2 hm2 hv (v := .ty T) rfl hn hd) pa_nil rfl) hs) (by decide) (by decide) hs hpl) fun σ H Q h => by
    obtain ⟨δ, L, s, q⟩ := h
    refine tD_next (M' := []) knE s q fun x H1 r δ s q => ?_
    obtain ⟨z, e⟩ := fin_has q
    cases e1 : r.get δ with
    | none => rw [e1] at e; cases e
    | some v =>
      obtain ⟨Z, fp, o, vw⟩ := SR.open (M' := [(x, r)]) s
      rw [e1] at e
      have e' : isiV [T] v = some z := e
      have fe := fin_end (M' := [(x, r)]) (z := z) (by rw [e1]; exact e) s q
      unfold isiV at e'
      cases e2 : tyV v with
      | none => rw [e2] at e'; cases e'
      | some U =>
        rw [e2] at e'
        cases e'
        have ty := (vw x r v List.mem_cons_self e1).ty e2
        rw [c.k] at ty
        have k := kit_tbl U (tyV_mem e2) T hT
        refine ⟨x, .ty T, .type U, .type T, _, rfl, .ty T, ty, kit_ty k, ?_⟩
        have := fe (.bl (isiB U T)) H1 ⟨Z, fp, Own.addD o (by simp; exact .bl _)⟩
        exact this⟩
/-- isinstance(e, (T, ..)) -/
theorem de_isiT {es : List Expr} {Ts : List String} {x1} {ta : TA} (he : DE X e te) (hg : Gl X "isinstance") (hm : X.mg "isinstance" = none) (ha : PA X es ta) (hta : ∀ σ H Q, Q (Ts.map V.ty) H → ta σ H Q) (hT : ∀ b ∈ Ts, b ∈ clNames) (hl : Ts.length ≤ sizeLine)
    (hs0 : starEach [.Tuple es x1 p2] X.env = (false, eval (.Tuple es x1 p2) X.env) :: starEach [] X.env := by rfl)
    (hs : starEach (e :: [.Tuple es x1 p2]) X.env = (false, eval e X.env) :: starEach [.Tuple es x1 p2] X.env := by rfl) (hpl : (backTo pos (starEach [.Tuple es x1 p2] X.env)).any (·.1) = false := by rfl) :
    DE X (.Call (.Name "isinstance" p) [e, .Tuple es x1 p2] [] pos) (op1 (isiV Ts) te) :=
  ⟨fun B W c => PE_weak (pe_callB call_isiT hg hm boot_isinstance (pa_cons (he.run B W c) (pa_cons (pe_tup ha) pa_nil hs0) hs) (by decide) (by decide) hs hpl) fun σ H Q h => by
    obtain ⟨δ, L, s, q⟩ := h
    refine tD_next (M' := []) knE s q fun x H1 r δ s q => ?_
    obtain ⟨z, e⟩ := fin_has q
    cases e1 : r.get δ with
    | none => rw [e1] at e; cases e
    | some v =>
      obtain ⟨Z, fp, o, vw⟩ := SR.open (M' := [(x, r)]) s
      rw [e1] at e
      have e' : isiV Ts v = some z := e
      have fe := fin_end (M' := [(x, r)]) (z := z) (by rw [e1]; exact e) s q
      unfold isiV at e'
      cases e2 : tyV v with
      | none => rw [e2] at e'; cases e'
      | some U =>
        rw [e2] at e'
        cases e'
        refine hta _ _ _ ⟨by simpa using hl, fun tp hp => ?_⟩
        have o2 := o.alloc (p := tp) (o := .tup (Ts.map V.ty)) hp
        have k : ∀ b u, H1 b = some u → upd H1 tp (.tup (Ts.map V.ty)) b = some u := fun b u e => by rw [upd_ne (ne_of_none e hp)]; exact e
        obtain ⟨f, tr⟩ := vw x r v List.mem_cons_self e1
        have vw2 : View B (upd H1 tp (.tup (Ts.map V.ty))) Z x v := ⟨f, tr.mono (fun b u e _ => k b u e) (fun a u _ e => k a u e) (fun _ z => z) (fun a _ u e => k a u e)⟩
        have ty := vw2.ty e2
        rw [c.k] at ty
        refine ⟨x, tp, Ts.map V.ty, .type U, Ts.map Value.type, _, rfl, upd_same, ?_, ty, kitAny_tbl (tyV_mem e2) Ts hT, ?_⟩
        · exact clsv_tys Ts
        · exact fe _ _ ⟨Z, fp, Own.addD o2 (.bl _)⟩⟩
end
end Nv

set_option Elab.async false
set_option linter.all false
set_option maxRecDepth 100000
set_option maxHeartbeats 2000000
/-! The data layer, part 20: an own exception class over ValueError, two fields, super().__init__(a, b). -/
namespace PySem
namespace NvX
open PySem PySem.W PySem.Calls PyProof.Rows PySem.HandSPX
section
variable {nm q : Str} {C N : Addr} {bs bm bmB : List Value} {hdct : Bool} {sn : List Str} {sub : List Value} {ab : Bool} {col : Option Bool} {dd : Option Addr} {k0 k1 k2 k3 k5 : Option Value} {B newId initId : String}
variable {prog : Program} {w : World} {A : Around} {E : Value → Shared → Prop} {h : Heap} {g : Array GenState} {d : Drawn} {t : Nat} {os : OsState}
/-- ValueError.__init__ bound to e, called -/
theorem call_bwV {u e t0 : Addr} {rest : List Value} {Q : Value → Shared → Prop}
    (hC : h.get? C = some (excClassObj nm q C N bs bm hdct sn sub ab col dd k0 k1 k2 k3 k5 "ValueError.__new__")) (he : h.get? e = some (HandSPX.excO C t0)) (hu : h.get? u = some (kxs_mw "ValueError.__init__" e)) (hrest : rest.length ≤ sizeLine)
    (hq : ∀ h' t1, (∀ b o, b ≠ e → h.get? b = some o → h'.get? b = some o) → h'.get? e = some (HandSPX.excO C t1) → Q .none ⟨h', g, d, t, os⟩) :
    wpAny (model prog w) A (call (.ref u) rest) Q E ⟨h, g, d, t, os⟩ := by
  refine wpAny_call (codeAny_of_tree ?_)
  show wpAny _ A.in1 (callAny (.ref u) ⟨rest, []⟩) _ _ _
  simp only [callAny]
  refine wpAny_bind (wpAny_load hu ?_)
  simp only [kxs_mw, show (Value.type "method-wrapper" == Value.type "method" || Value.type "method-wrapper" == Value.type "builtin_function_or_method" || Value.type "method-wrapper" == Value.type "method-wrapper") = true by decide, if_true]
  refine W.KFB.if_so (by decide) ?_
  refine wpAny_bind (ESX.check_bound F.excBase_ValueError hC he rfl ?_)
  refine wpAny_bind (wpAny_pure (wpAny_pure ?_))
  refine ⟨Code.quiet_builtin _ (by decide +kernel), codeAny_builtin F.excBase_ValueError.initEntry ?_⟩
  rw [Around.under_plainId F.excBase_ValueError.init.plain _]
  wp_walk
  refine hq _ h.objs.size (fun b o hb ho => ?_) ?_
  · rw [Heap.get?_update_other _ _ (Ne.symm hb)]
    exact Heap.get?_push_of_some _ ho
  · rw [Heap.get?_update_self _ (Heap.get?_push_of_some _ he) rfl]
    rfl
end
/-- what the written part says of the class at C and of its __init__ at fI, but for the body -/
structure ExcTxt (P : Program) (K : Frag) (mg : Str → Option Value) (cn : Str) (C fI cc cda : Addr) : Prop where
  gC : mg cn = some (.ref C)
  cls : ∃ nm q N bs bm sn sub ab col dd k0 k1 k2 k3 k5, K.lookup C = some (excClassObj nm q C N bs bm true sn sub ab col dd k0 k1 k2 k3 k5 "ValueError.__new__") ∧ refsVE bm = true
  sa : findIn K (.ref C) "__setattr__" = some (some (.builtin "object.__setattr__"))
  ga : findIn K (.ref C) "__getattribute__" = some (some (.builtin "BaseException.__getattribute__"))
  gg : findIn K (.ref C) "__getattr__" = some none
  iC : findIn K (.ref C) "__init__" = some (some (.ref fI))
  tC : typeIn K (.ref fI) = some (.type "function")
  kC : keepIn K (.ref C) = true
  exC : subIn K (.ref C) (.type "BaseException") = some true
  tyC : typeIn K (.ref C) = some (.type "type")
  hdC : hasDictIn K C = true
  isC : isClsIn K C = true
  te : subIn K (.ref C) (.ref C) = some true
  sup : mg "super" = none
  op : nsIn K cStatics "thirdparty.any" = some none
  al : ks_superIn K C C "__init__" = some (some (.builtin "ValueError.__init__"))
  sub : mroIn K C (.ref C) = some true
  subB : subIn K (.ref C) (.type "ValueError") = some true
  cell : ∃ cl cld csl, K.lookup cc = some ⟨cl, cld, .cell (some (.ref C)), csl⟩
  code : ∃ ccl cdd vs ccs file tf, K.lookup cda = some ⟨ccl, cdd, .fields vs, ccs⟩ ∧ vs[2]? = some (.str file tf) ∧ ((P.main.file : Str) == file) = true
  top : (P.main.scope.names.lookup ("super" : Str)).isSome = false
section
variable {prog : Program} {w : World} {A : Around} {E : Value → Shared → Prop} {s : Shared} {K : Frag} {mg mb : Str → Option Value} {cn : Str} {C fI cc cda L x : Addr} {m : Str → Option Value}
  {q : Str} {scope : Scope} {body : List Stmt} {fd : FuncData} {ar : Arg} {oc : Value} {od : Option Addr} {osl : Array (Option Value)} {es : List Expr} {e0 : Expr} {t0 : Addr} {us : List Value} {a1 a2 a3 a6 a7 : Pos} {pl : Sem Bool}
theorem super_stmt (T : ExcTxt prog K mg cn C fI cc cda) (X : K.In s.heap) (hg : s.heap.Ns mainGlobals mg) (hb : s.heap.Ns builtinsNs mb) (hmb : mb "super" = some (.type "super"))
    (hf : K.lookup fI = some ⟨oc, od, .func fd, osl⟩) (hp : (fd.params.posonlyargs ++ fd.params.args).head? = some ar) (har : ar.arg = "self")
    (hns : s.heap.Ns L m) (hv : m "self" = some (.ref x)) (hx : s.heap.get? x = some (excO C t0))
    (hks : scope.names.lookup ("super" : Str) = some .globalImplicit) (hkc : scope.names.lookup ("__class__" : Str) = some .free) (hka : scope.names.lookup ("self" : Str) = some .local) (hk : scope.kind = .function)
    (hes : ∀ s' : Shared, (∀ b o, s.heap.get? b = some o → s'.heap.get? b = some o) → wpAny (model prog w) A (spliced (backTo a6 (starEach (e0 :: es) (ksEnv q scope L fI (.ref cda) cc)))) (fun vs s2 => vs = us ∧ s2 = s') E s')
    (hz : us.length ≤ sizeLine)
    (he : eval (.Call (.Attribute (.Call (.Name "super" a1) [] [] a2) "__init__" a3) (e0 :: es) [] a6) (ksEnv q scope L fI (.ref cda) cc) = (do
      let ov ← attributeBase (.Call (.Name "super" a1) [] [] a2) "__init__" (ksEnv q scope L fI (.ref cda) cc) (eval (.Call (.Name "super" a1) [] [] a2) (ksEnv q scope L fI (.ref cda) cc))
      standAt a3.atName
      let (f, first) ← holding [ov] (getMethod ov "__init__" pl)
      callWith a6 f first (backTo a6 (starEach (e0 :: es) (ksEnv q scope L fI (.ref cda) cc))) []))
    (hpl : ((backTo a6 (starEach (e0 :: es) (ksEnv q scope L fI (.ref cda) cc))).any (·.1)) = false)
    (hst : starEach (e0 :: es) (ksEnv q scope L fI (.ref cda) cc) = (false, eval e0 (ksEnv q scope L fI (.ref cda) cc)) :: starEach es (ksEnv q scope L fI (.ref cda) cc))
    (hi : interactive (ksEnv q scope L fI (.ref cda) cc) = false)
    (hsw : swapsWith (.Call (.Attribute (.Call (.Name "super" a1) [] [] a2) "__init__" a3) (e0 :: es) [] a6) none a7.line (ksEnv q scope L fI (.ref cda) cc) = pure false)
    {Q : Flow → Shared → Prop} (hQ : ∀ h' tk t1, (∀ b o, b ≠ x → s.heap.get? b = some o → h'.get? b = some o) → h'.get? x = some (excO C t1) → Q .next { s with heap := h', toks := tk }) :
    wpAt (model prog w) A (.func body (ksEnv q scope L fI (.ref cda) cc)) (exec (.Expr (.Call (.Attribute (.Call (.Name "super" a1) [] [] a2) "__init__" a3) (e0 :: es) [] a6) a7) (ksEnv q scope L fI (.ref cda) cc)) Q E s := by
  obtain ⟨nm, qq, N, bs, bm, sn, sub, ab, col, dd, k0, k1, k2, k3, k5, hC, hbm⟩ := T.cls
  have hcl : clsIn K C = some { name := nm, bases := bs, mro := .ref C :: bm, ns := N, qualname := qq, hasDict := true, slotNames := sn, subclasses := sub, abstract := ab, collection := col, hasDel := false } := by unfold clsIn; rw [hC] <;> rfl
  obtain ⟨cl, cld, csl, hcell⟩ := T.cell
  obtain ⟨ccl, cdd, vs, ccs, file, tf, hcode, hvs, hfile⟩ := T.code
  obtain ⟨hh, g, d, t, os⟩ := s
  refine ks_wpAt_Expr_any (hi := hi) (hs := hsw) (ks_wpAt_MethodCall ?_ he)
  refine ks_wpAt_super_base (env := ksEnv q scope L fI (.ref cda) cc) hks hkc (by decide) rfl (X _ _ hf) rfl hp rfl (X _ _ hcode) rfl hvs hfile T.top ?_
  refine ks_loadName_global hk hks (loadGlobal_builtin (env := ksEnv q scope L fI (.ref cda) cc) hg T.sup hb hmb ⟨rfl, ?_⟩)
  refine wpAny_loadName_free hk hkc rfl ⟨_, X _ _ hcell, rfl⟩ ?_
  rw [har]
  refine wpAny_loadName_local hk hka hns hv ?_
  refine ks_wpAny_isType_cls (X _ _ hC) rfl ⟨rfl, ?_⟩
  refine ks_wpAny_call_super (X _ _ hC) rfl hx rfl (fun c e => by cases e) (looks_mroIn X T.sub) (fun h2 e2 k2 => ?_)
  have X2 : K.In h2 := X.keeps k2
  have hx2 := k2 _ _ hx
  have I2 : W.InstAt h2 x (excO C t0) C none := ⟨hx2, rfl, rfl, trivial⟩
  have hI : Looks (model prog w) h2 (isInstance (.ref x) (.type "ValueError")) true := I2.type.andThen (looks_subIn X2 T.subB)
  have al := T.al
  unfold ks_superIn at al
  rw [hcl] at al
  refine kxs_getMethod kxs_ValueError e2 (looks_opaque X2 T.op) (l₀ := .ref C :: bm) ((looks_clsIn X2 hcl).andThen .now) rfl X2 al hI (ks_ne X2 I2 hcl) (by decide) ?_
  have up : ∀ b o, hh.get? b = some o → (h2.push (kxs_mw "ValueError.__init__" x)).get? b = some o := fun b o e => Heap.get?_push_of_some _ (k2 b o e)
  have hes' := hes
  rw [hst] at hes' hpl ⊢
  refine kxs_callWith (i := "ValueError.__init__") (x := x) hpl (evalArgs_plain (wpAny_mono (hes' ⟨h2.push (kxs_mw "ValueError.__init__" x), g, d, t + 1, os⟩ up) (fun vs s2 hv2 => ?_) fun _ _ z => z))
  obtain ⟨rfl, rfl⟩ := hv2
  refine ⟨Heap.get?_push_size _ rfl, ?_⟩
  refine call_bwV (X.keeps up _ _ hC) (up _ _ hx) (Heap.get?_push_size _ rfl) hz fun h' t1 k e => ?_
  exact hQ h' (t + 1) t1 (fun b o hb hbo => k b o hb (up b o hbo)) e
end
/-! ### the text of __init__ -/
def iA (n1 n2 : Str) (p0 p1 p2 : Pos) : Arguments := { posonlyargs := [], args := [{ arg := "self", annotation := none, pos := p0 }, { arg := n1, annotation := none, pos := p1 }, { arg := n2, annotation := none, pos := p2 }], vararg := none, kwonlyargs := [], kw_defaults := [], kwarg := none, defaults := [] }
def iB (n1 n2 : Str) (a1 a2 a3 a4 a5 a6 a7 b1 b2 b3 b4 c1 c2 c3 c4 : Pos) : List Stmt := [.Expr (.Call (.Attribute (.Call (.Name "super" a1) [] [] a2) "__init__" a3) [.Name n1 a4, .Name n2 a5] [] a6) a7,
  .Assign [.Attribute (.Name "self" b1) n1 b2] (.Name n1 b3) b4, .Assign [.Attribute (.Name "self" c1) n2 c2] (.Name n2 c3) c4]
def iS (n1 n2 : Str) : Scope := { kind := .function, names := [("self", .local), (n1, .local), (n2, .local), ("__class__", .free), ("super", .globalImplicit)], isGenerator := false, isCoroutine := false, more := [] }
structure ExcTxt2 (P : Program) (K : Frag) (mg : Str → Option Value) (cn qual n1 n2 : Str) (C fI cc cda : Addr) : Prop where
  t : ExcTxt P K mg cn C fI cc cda
  no1 : findIn K (.ref C) n1 = some none
  no2 : findIn K (.ref C) n2 = some none
  fn : ∃ (oc : Value) (od : Option Addr) (doc pm : Value) (an : Option Addr) (ct : Value) (osl : Array (Option Value)) (p0 p1 p2 a1 a2 a3 a4 a5 a6 a7 b1 b2 b3 b4 c1 c2 c3 c4 : Pos),
    K.lookup fI = some ⟨oc, od, .func (ksFn "__init__" qual (iA n1 n2 p0 p1 p2) (iB n1 n2 a1 a2 a3 a4 a5 a6 a7 b1 b2 b3 b4 c1 c2 c3 c4) (iS n1 n2) .none .none doc pm an (.ref cda) ct cc), osl⟩ ∧ codeIn K (.ref cda) qual = true ∧ ∃ pl : Sem Bool, ∀ (qq : Str) (scope : Scope) (L : Addr), eval (.Call (.Attribute (.Call (.Name "super" a1) [] [] a2) "__init__" a3) [.Name n1 a4, .Name n2 a5] [] a6) (ksEnv qq scope L fI (.ref cda) cc) = (do
      let ov ← attributeBase (.Call (.Name "super" a1) [] [] a2) "__init__" (ksEnv qq scope L fI (.ref cda) cc) (eval (.Call (.Name "super" a1) [] [] a2) (ksEnv qq scope L fI (.ref cda) cc))
      standAt a3.atName
      let (f, first) ← holding [ov] (getMethod ov "__init__" pl)
      callWith a6 f first (backTo a6 (starEach [.Name n1 a4, .Name n2 a5] (ksEnv qq scope L fI (.ref cda) cc))) [])
/-- two names: how such an __init__ takes its arguments -/
structure Names2 (n1 n2 : Str) : Prop where
  bind : ∀ (qual : Str) (p0 p1 p2 : Pos) (body : List Stmt) (doc pm : Value) (an : Option Addr) (cdv ct : Value) (cc : Addr) (v0 v1 v2 : Value), bindArgs (ksFn "__init__" qual (iA n1 n2 p0 p1 p2) body (iS n1 n2) .none .none doc pm an cdv ct cc) ⟨[v0, v1, v2], []⟩ = pure [(("self" : Str), v0), (n1, v1), (n2, v2)]
theorem bsym {a b : Str} (h : (a == b) = false) : (b == a) = false := by rw [Bool.eq_false_iff] at h ⊢; intro z; exact h (beq_iff_eq.mpr (beq_iff_eq.mp z).symm)
theorem kept_but {K : Frag} {h h' : Heap} {x : Addr} (X : K.In h) (hx : K.lookup x = none) (k : ∀ b o, b ≠ x → h.get? b = some o → h'.get? b = some o) : K.In h' := fun a o e =>
  k a o (fun z => by rw [z, hx] at e; cases e) (X a o e)
/-- the names are apart -/
def apart2 (n1 n2 : Str) : Bool := !(n1 == "self") && !(n2 == "self") && !(n2 == n1) && !(n1 == "__class__") && !(n2 == "__class__") && !(n1 == "super") && !(n2 == "super") && !(n1 == "__debug__") && !(n2 == "__debug__") && !(n1 == "__classdict__") && !(n2 == "__classdict__")
structure InitEnd2 (n1 n2 : Str) (h h' : Heap) (x C dx t1 : Addr) (v1 v2 : Value) : Prop where
  keep : ∀ b o, b ≠ x → h.get? b = some o → h'.get? b = some o
  obj : h'.get? x = some { cls := .ref C, dict := some dx, data := .fields #[.ref t1, .none, .none, .none, .bool false, .none] }
  dbig : h.objs.size ≤ dx
  dne : dx ≠ x
  ns : h'.Ns1 dx (fun y => if y = n2 then some v2 else if y = n1 then some v1 else none)
section
variable {prog : Program} {w : World} {A : Around} {E : Value → Shared → Prop} {R : Result → Shared → Prop} {s : Shared} {K : Frag} {mg mb : Str → Option Value} {cn qual n1 n2 : Str} {C fI cc cda x t0 : Addr} {v1 v2 : Value}
theorem init2 (T : ExcTxt2 prog K mg cn qual n1 n2 C fI cc cda) (ap : apart2 n1 n2 = true) (nn : Names2 n1 n2) (X : K.In s.heap) (hg : s.heap.Ns mainGlobals mg) (hb : s.heap.Ns builtinsNs mb) (hmb : mb "super" = some (.type "super")) (hlim : s.heap.NoLimit)
    (hx : s.heap.get? x = some (excO C t0)) (hnx : K.lookup x = none) (hroom : A.depth < recursionLimit)
    (hq : ∀ h' tk dx t1, InitEnd2 n1 n2 s.heap h' x C dx t1 v1 v2 → R (.ok (.ret .none)) { s with heap := h', toks := tk }) :
    codeAny (model prog w) A (.call (.ref fI) ⟨[.ref x, v1, v2], []⟩) R s := by
  obtain ⟨oc, od, doc, pm, an, ct, osl, p0, p1, p2, a1, a2, a3, a4, a5, a6, a7, b1, b2, b3, b4, c1, c2, c3, c4, ho, hcd, pl, hev⟩ := T.fn
  have T0 := T.t
  obtain ⟨nm, q, N, bs, bm, sn, sub, ab, col, dd, k0, k1, k2, k3, k5, hC, hbm⟩ := T0.cls
  have hcl : clsIn K C = some { name := nm, bases := bs, mro := .ref C :: bm, ns := N, qualname := q, hasDict := true, slotNames := sn, subclasses := sub, abstract := ab, collection := col, hasDel := false } := by unfold clsIn; rw [hC] <;> rfl
  simp only [apart2, Bool.and_eq_true, Bool.not_eq_true'] at ap
  obtain ⟨⟨⟨⟨⟨⟨⟨⟨⟨⟨e1, e2⟩, e3⟩, e4⟩, e5⟩, e6⟩, e7⟩, e8⟩, e9⟩, e10⟩, e11⟩ := ap
  have l0 : (iS n1 n2).names.lookup ("self" : Str) = some .local := rfl
  have l1 : (iS n1 n2).names.lookup n1 = some .local := by show List.lookup n1 [_, _, _, _, _] = _; simp [List.lookup, e1]
  have l2 : (iS n1 n2).names.lookup n2 = some .local := by show List.lookup n2 [_, _, _, _, _] = _; simp [List.lookup, e2, e3]
  have ls : (iS n1 n2).names.lookup ("super" : Str) = some .globalImplicit := by show List.lookup ("super" : Str) [_, _, _, _, _] = _; simp [List.lookup, bsym e6, bsym e7, show (("super" : Str) == ("self" : Str)) = false by decide, show (("super" : Str) == ("__class__" : Str)) = false by decide]
  have lc : (iS n1 n2).names.lookup ("__class__" : Str) = some .free := by show List.lookup ("__class__" : Str) [_, _, _, _, _] = _; simp [List.lookup, bsym e4, bsym e5, show (("__class__" : Str) == ("self" : Str)) = false by decide]
  have env : Env := ksEnv qual (iS n1 n2) s.heap.objs.size fI (.ref cda) cc
  refine ks_codeAny_call_defAt (fd := ksFn "__init__" qual (iA n1 n2 p0 p1 p2) (iB n1 n2 a1 a2 a3 a4 a5 a6 a7 b1 b2 b3 b4 c1 c2 c3 c4) (iS n1 n2) .none .none doc pm an (.ref cda) ct cc) (body := iB n1 n2 a1 a2 a3 a4 a5 a6 a7 b1 b2 b3 b4 c1 c2 c3 c4)
    (binds := [("self", .ref x), (n1, v1), (n2, v2)]) hroom (X _ _ ho) rfl hlim (codeRec_of X hcd) rfl (BindsTo.of_eq ?hbind) ?hcell ?hloc (fun h₁ hns hk₁ => ?_) rfl rfl rfl
  case hcell =>
    intro y hy
    have hy' : y ∈ (iS n1 n2).names := hy
    simp only [iS, List.mem_cons, List.not_mem_nil, or_false] at hy'
    rcases hy' with rfl | rfl | rfl | rfl | rfl <;> (intro z; cases z)
  case hloc =>
    intro y hy
    simp only [List.mem_cons, List.not_mem_nil, or_false] at hy
    rcases hy with rfl | rfl | rfl
    · exact l0
    · exact l1
    · exact l2
  case hbind => exact nn.bind ..
  have X₁ : K.In h₁ := X.keeps hk₁
  have hx₁ := hk₁ _ _ hx
  have m0 : (fun y => ([(("self" : Str), Value.ref x), (n1, v1), (n2, v2)] : List (Str × Value)).reverse.lookup y) "self" = some (Value.ref x) := by
    show List.lookup ("self" : Str) ([(n2, v2), (n1, v1), (("self" : Str), Value.ref x)] : List (Str × Value)) = _
    simp [List.lookup, bsym e1, bsym e2]
  have m1 : (fun y => ([(("self" : Str), Value.ref x), (n1, v1), (n2, v2)] : List (Str × Value)).reverse.lookup y) n1 = some v1 := by
    show List.lookup n1 ([(n2, v2), (n1, v1), (("self" : Str), Value.ref x)] : List (Str × Value)) = _
    simp [List.lookup, bsym e3]
  have m2 : (fun y => ([(("self" : Str), Value.ref x), (n1, v1), (n2, v2)] : List (Str × Value)).reverse.lookup y) n2 = some v2 := by
    show List.lookup n2 ([(n2, v2), (n1, v1), (("self" : Str), Value.ref x)] : List (Str × Value)) = _
    simp [List.lookup]
  have ld : ∀ {M : Model} {A' : Around} {s' : Shared} {m : Str → Option Value} {y : Str} {p : Pos} {v : Value} {Q : Value → Shared → Prop} {E' : Value → Shared → Prop}, s'.heap.Ns s.heap.objs.size m → (iS n1 n2).names.lookup y = some .local → (y == ("__debug__" : Str)) = false → m y = some v → Q v s' →
      wpAny M A' (eval (.Name y p) (ksEnv qual (iS n1 n2) s.heap.objs.size fI (.ref cda) cc)) Q E' s' := fun hn hl hd hv q => wpAny_Name (wpAny_loadName_local rfl hl hn hv q) hd
  show wpAt _ (A.deeper (ksEnv qual (iS n1 n2) s.heap.objs.size fI (.ref cda) cc)) (.func _ (ksEnv qual (iS n1 n2) s.heap.objs.size fI (.ref cda) cc)) (execs (iB n1 n2 a1 a2 a3 a4 a5 a6 a7 b1 b2 b3 b4 c1 c2 c3 c4) (ksEnv qual (iS n1 n2) s.heap.objs.size fI (.ref cda) cc)) _ _ _
  refine' ks_wpAt_execs_cons (super_stmt (pl := pl) (s := { s with heap := h₁, toks := _ }) (us := [v1, v2]) (ar := { arg := "self", annotation := none, pos := p0 }) T0 X₁ (hg.keeps hk₁) (hb.keeps hk₁) hmb ho rfl rfl hns m0 hx₁ ls lc l0 rfl (fun s' k => ?_) (by show 2 ≤ sizeLine; decide) ?he ?hpl ?hst ?hi ?hsw fun h2 tk2 t1 k2 hx2 => ?_)
  case hpl => rfl
  case hst => rfl
  case hi => rfl
  case hsw => rfl
  case he => exact hev ..
  · show wpAny _ _ (spliced ((false, eval (.Name n1 a4) (ksEnv qual (iS n1 n2) s.heap.objs.size fI (.ref cda) cc)) :: backTo a6 (starEach [.Name n2 a5] (ksEnv qual (iS n1 n2) s.heap.objs.size fI (.ref cda) cc)))) _ _ _
    refine Calls.spliced_cons (ld (hns.keeps k) l1 e8 m1 ?_)
    show wpAny _ _ (spliced ((false, eval (.Name n2 a5) (ksEnv qual (iS n1 n2) s.heap.objs.size fI (.ref cda) cc)) :: backTo a6 (starEach [] (ksEnv qual (iS n1 n2) s.heap.objs.size fI (.ref cda) cc)))) _ _ _
    exact Calls.spliced_cons (ld (hns.keeps k) l2 e9 m2 (Calls.spliced_nil ⟨rfl, rfl⟩))
  · have hxL : x < s.heap.objs.size := Heap.lt_size hx
    have X2 : K.In h2 := kept_but X₁ hnx k2
    have hns2 : h2.Ns s.heap.objs.size _ := hns.at fun o q => k2 _ o (Nat.ne_of_gt hxL) q
    refine ks_wpAt_execs_cons (ks_wpAt_Assign_Attr (wpAt_of_wpAny (ld (v := v1) hns2 l1 e8 m1 (ld (v := .ref x) hns2 l0 rfl m0 ?_))))
    refine set_plain X2 (ox := excO C t1) (od := none) ⟨hx2, rfl, rfl, trivial⟩ T0.sa ?_
    refine exc_osa X2 hx2 hcl (show refsVE (.ref C :: bm) = true from hbm) rfl T.no1 (fun h3 tk3 dx k3 dn dne hx3 hn3 => ?_)
    have X3 : K.In h3 := kept_but X2 hnx k3
    have hns3 : h3.Ns s.heap.objs.size _ := hns2.at fun o q => k3 _ o (Nat.ne_of_gt hxL) q
    refine ks_wpAt_execs_cons (ks_wpAt_Assign_Attr (wpAt_of_wpAny (ld (v := v2) hns3 l2 e9 m2 (ld (v := .ref x) hns3 l0 rfl m0 ?_))))
    have hw : Within (fun y => if y = n1 then some v1 else none) [n1] := fun y hy => by
      by_cases z : y = n1
      · rw [z]; exact List.mem_cons_self
      · exact absurd (if_neg z) hy
    obtain ⟨oD, _, _, hoD, _, _⟩ := hn3.count hw
    refine set_plain X3 (ox := { cls := .ref C, dict := some dx, data := .fields #[.ref t1, .none, .none, .none, .bool false, .none] }) (od := some oD) ⟨hx3, rfl, rfl, hoD⟩ T0.sa ?_
    refine OEX.osa_old X3 hx3 hn3 hw (by show 1 ≤ 1000; decide) hcl (show refsVE (.ref C :: bm) = true from hbm) rfl T.no2 (fun h4 tk4 k4 hn4 => ?_)
    have big : s.heap.objs.size < dx := Nat.lt_of_lt_of_le (show s.heap.objs.size < h2.objs.size from hns2.lt) dn
    refine wpAt_of_wpAny (wpAny_execs_nil (hq h4 tk4 dx t1 ⟨fun b o hb e => k4 b o (fun z => ?_) (k3 b o hb (k2 b o hb (hk₁ b o e))), (k4 x _ (Ne.symm dne) hx3), Nat.le_of_lt big, dne, hn4⟩))
    exact absurd (Heap.lt_size e) (by rw [z]; exact Nat.lt_asymm big)
structure OwnMade2 (n1 n2 : Str) (h h' : Heap) (e C d : Addr) (v1 v2 : Value) : Prop where
  keep : ∀ b o, h.get? b = some o → h'.get? b = some o
  new : h.objs.size ≤ e
  obj : ∃ oe vs, h'.get? e = some oe ∧ oe.cls = .ref C ∧ oe.dict = some d ∧ oe.data = .fields vs ∧ vs[1]? = some .none
  dbig : h.objs.size ≤ d
  dne : d ≠ e
  ns : h'.Ns1 d (fun y => if y = n2 then some v2 else if y = n1 then some v1 else none)
theorem made2 (T : ExcTxt2 prog K mg cn qual n1 n2 C fI cc cda) (ap : apart2 n1 n2 = true) (nn : Names2 n1 n2) (X : K.In s.heap) (hg : s.heap.Ns mainGlobals mg) (hb : s.heap.Ns builtinsNs mb) (hmb : mb "super" = some (.type "super")) (hlim : s.heap.NoLimit) (hroom : A.depth + 1 < recursionLimit)
    (hq : ∀ h' tk e d, OwnMade2 n1 n2 s.heap h' e C d v1 v2 → R (.ok (.ret (.ref e))) { s with heap := h', toks := tk }) :
    codeAny (model prog w) A (.call (.ref C) ⟨[v1, v2], []⟩) R s := by
  obtain ⟨nm, q, N, bs, bm, sn, sub, ab, col, dd, k0, k1, k2, k3, k5, hC, hbm⟩ := T.t.cls
  obtain ⟨hp, g, dr, tk, os⟩ := s
  have k : ∀ b o, hp.get? b = some o → ((hp.push (kdv_tup [v1, v2])).push (excO C hp.objs.size)).get? b = some o := fun b o e => Heap.get?_push_of_some _ (Heap.get?_push_of_some _ e)
  have hget : ((hp.push (kdv_tup [v1, v2])).push (excO C hp.objs.size)).get? (hp.objs.size + 1) = some (excO C hp.objs.size) := by heap_get
  have hnx : K.lookup (hp.objs.size + 1) = none := by
    cases e : K.lookup (hp.objs.size + 1) with
    | none => rfl
    | some o =>
      have z : hp.get? (hp.objs.size + 1) = some o := X _ _ e
      exact absurd (Nat.lt_of_succ_lt (Heap.lt_size z)) (Nat.lt_irrefl _)
  refine call_own F.excBase_ValueError (fun X => refsVE_contains X bm hbm) (X _ _ hC) (looks_findIn X T.t.iC) (fun self => bind_fn X self T.t.tC) (by show 2 ≤ sizeLine; decide) ?_
  refine init2 (s := ⟨(hp.push (kdv_tup [v1, v2])).push (excO C hp.objs.size), g, dr, tk, os⟩) T ap nn (X.keeps k) (hg.keeps k) (hb.keeps k) hmb (hlim.keeps k) hget hnx ?_ fun h' tk' dx t1 ⟨k', hx, dn, dne, hns⟩ => ?_
  · show A.depth + 1 < recursionLimit
    exact hroom
  · have old : ∀ b o, hp.get? b = some o → h'.get? b = some o := fun b o e => k' b o (Nat.ne_of_lt (Nat.lt_succ_of_lt (Heap.lt_size e))) (k b o e)
    have z : hp.objs.size + 1 + 1 ≤ dx := by
      have q := dn
      rw [show (Heap.push (hp.push (kdv_tup [v1, v2])) (excO C hp.objs.size)).objs.size = hp.objs.size + 1 + 1 by rw [Heap.size_push, Heap.size_push]] at q
      exact q
    exact ⟨rfl, hq h' tk' (hp.objs.size + 1) dx ⟨old, Nat.le_succ _, ⟨_, _, hx, rfl, rfl, rfl, rfl⟩, Nat.le_trans (Nat.le_trans (Nat.le_succ _) (Nat.le_succ _)) z, dne, hns⟩⟩
end
end NvX
end PySem
namespace Nv
open PySem PySem.Spec PyProof.Rows L2
open PySem.NvX
variable [Tbs]
theorem relO2 {n1 n2 : Str} {x1 x2 : V} {u1 u2 : Value} (r1 : L2.RelV x1 u1) (r2 : L2.RelV x2 u2) (f : Str) : L2.RelO (List.lookup f [(n2, x2), (n1, x1)]) (if f = n2 then some u2 else if f = n1 then some u1 else none) := by
  by_cases h2 : f = n2
  · subst h2; rw [if_pos rfl]; simp [List.lookup]; exact r2
  · have q2 : (f == n2) = false := by simpa using h2
    rw [if_neg h2]
    by_cases h1 : f = n1
    · subst h1; rw [if_pos rfl]; simp [List.lookup, q2]; exact r1
    · have q1 : (f == n1) = false := by simpa using h1
      rw [if_neg h1]; simp [List.lookup, q2, q1]; trivial
section
variable {X : Cx} {C fI cc cda : Addr} {cn qual n1 n2 : Str}
def tMk2 (C : Addr) (n1 n2 : Str) (ta : TA) : L2.St → Hp → XK → Prop := fun σ H Q => ta σ H fun vs H1 => ∃ x1 x2, vs = [x1, x2] ∧ ∀ d, H1 d = none → Q (.ref C) (some d) (upd H1 d (.xd [(n2, x2), (n1, x1)]))
theorem pmk2 {e1 e2 : Expr} {ta : TA} {p pos : Pos} {k : Nat} (T : ExcTxt2 X.prog X.K X.mg cn qual n1 n2 C fI cc cda) (ap : apart2 n1 n2 = true) (nn : Names2 n1 n2) (hr : Room k X.A) (hk : 1 ≤ k) (ha : PA X [e1, e2] ta) (hg : Gl X cn) (hd : (cn == ("__debug__" : Str)) = false := by decide)
    (he : starEach (e1 :: [e2]) X.env = (false, eval e1 X.env) :: starEach [e2] X.env := by rfl) (hpl : (backTo pos (starEach [e2] X.env)).any (·.1) = false := by rfl) :
    PMk X (.Call (.Name cn p) [e1, e2] [] pos) (tMk2 C n1 n2 ta) := by
  intro pins s σ H Q I h
  refine wpAny_Call_Name_kw (ld_glob I hg T.t.gC ?_ hd)
  refine PySem.W.callWith_K (h₀ := X.base) I.ok.mod.kin T.t.kC (thn (ha.run pos pins s σ H _ I h) fun us s1 hh => ?_) he hpl
  obtain ⟨vs, H1, I1, r1, x1, x2, ev, q1⟩ := hh
  subst ev
  refine ⟨I1.kIn, ?_⟩
  cases r1 with
  | cons rv rn =>
    rename_i u1 us1
    cases rn with
    | cons rw rn =>
      rename_i u2 us2
      cases rn
      show wpAny _ _ (call (.ref C) [u1, u2]) _ _ _
      have hlim := I1.nolimit
      obtain ⟨mb, hb1, hb2⟩ := I1.mod.blt
      have hgl := I1.mod.glob.keeps I1.bk
      have hbl := hb1.keeps I1.bk
      have hmb : mb "super" = some (.type "super") := (hb2 "super" (by decide)).trans (by decide +kernel)
      obtain ⟨hp, g, dr, tk, os⟩ := s1
      refine wpAny_call (made2 T ap nn I1.kIn hgl hbl hmb hlim (by have := hr.dp; omega) fun h' tk' e d M => ?_)
      show MkP X pins σ Q (.ref e) ⟨h', g, dr, tk', os⟩
      obtain ⟨oe, fv, hoe, hc, hd, hdat, h1⟩ := M.obj
      have hns := M.ns
      obtain ⟨G', g1, g2⟩ := restrict h' fun b => decide (b ≠ e)
      have gk : ∀ b, b ≠ e → G'.get? b = h'.get? b := fun b hb => g1 b (decide_eq_true hb)
      have ge : G'.get? e = none := g2 e (by simp)
      have old : ∀ b o, hp.get? b = some o → G'.get? b = some o := fun b o q => (gk b (Nat.ne_of_lt (Nat.lt_of_lt_of_le (Heap.lt_size q) M.new))).trans (M.keep b o q)
      have ob : ObjOk X.prog X.w (upd H1 d (.xd [(n2, x2), (n1, x1)])) G' d (.xd [(n2, x2), (n1, x1)]) :=
        ⟨_, hns.at (fun o q => (gk d M.dne).trans q), fun f => relO2 rv rw f⟩
      have J : Inv X pins σ (upd H1 d (.xd [(n2, x2), (n1, x1)])) ⟨G', g, dr, tk', os⟩ := I1.laid (t' := tk') old M.dbig ob
      refine ⟨e, oe, fv, ⟨G', g, dr, tk', os⟩, _, .ref C, some d, rfl, J, fun b o q => ?_, ge, hoe, ⟨hc, hd⟩, hdat, h1, ?_, rfl, I1.bare, raises_own T.t.exC T.t.tyC, q1 d (I1.hok.fresh M.dbig)⟩
      · by_cases hb : b = e
        · have q' : G'.get? b = some o := q
          rw [hb, ge] at q'; cases q'
        · exact (gk b hb).symm.trans q
      · rw [upd_ne (Ne.symm M.dne)]
        exact I1.hok.fresh M.new
end
end Nv

set_option Elab.async false
set_option linter.all false
set_option maxRecDepth 100000
set_option maxHeartbeats 2000000
/-! The data layer, part 21: raise C(a, b). -/
namespace Nv
open PySem PySem.Spec PyProof.Rows L2
open PySem.NvX
variable [Tbs]
def raise2S (cn n1 n2 : Str) (tr : M (List Rs)) : SS := M.bind tr fun rs δ => match getDs rs δ with
  | some [a, b] => some (.error ⟨cn, [(n2, b), (n1, a)]⟩, δ)
  | _ => none
theorem ds_raise2 {X : Cx} {m : List Nat} {C fI cc cda : Addr} {cn qual n1 n2 : Str} {e1 e2 : Expr} {tr : M (List Rs)} {p pos pos2 : Pos} {k : Nat} (T : ExcTxt2 X.prog X.K X.mg cn qual n1 n2 C fI cc cda) (ap : apart2 n1 n2 = true) (nn : Names2 n1 n2) (hr : Room k X.A) (hk : 1 ≤ k)
    (ha : DA X [e1, e2] tr) (hg : Gl X cn) (hd : (cn == ("__debug__" : Str)) = false := by decide)
    (he : starEach (e1 :: [e2]) X.env = (false, eval e1 X.env) :: starEach [e2] X.env := by rfl) (hpl : (backTo pos (starEach [e2] X.env)).any (·.1) = false := by rfl) :
    DS X m (.Raise (some (.Call (.Name cn p) [e1, e2] [] pos)) none pos2) (raise2S cn n1 n2 tr) :=
  ⟨fun B W c hm => PS_weak (ps_raise c.calm c.tk (pmk2 T ap nn hr hk (ha.run B W c) hg hd he hpl)) fun D σ H ⟨δ, L, s, q⟩ => by
    refine tDA_next (M' := []) knS s q fun xs H1 rs δ hl s q => ?_
    cases e1 : getDs rs δ with
    | none => simp only [e1] at q; exact q.elim
    | some ds =>
      match ds, e1, q with
      | [], e1, q => simp only [e1] at q; exact q.elim
      | [_], e1, q => simp only [e1] at q; exact q.elim
      | _ :: _ :: _ :: _, e1, q => simp only [e1] at q; exact q.elim
      | [a, b], e1, q =>
        simp only [e1] at q
        obtain ⟨Z, fp, o, r⟩ := s.datas hl e1
        match xs, r with
        | [x1, x2], .cons ra (.cons rb .nil) =>
          refine ⟨x1, x2, rfl, fun d hd => q (.ref C) (some d) σ _ ⟨C, d, [x2, x1], T.t.gC, rfl, rfl, rfl, upd_same, ?_⟩⟩
          have k : ∀ b u, H1 b = some u → upd H1 d (.xd [(n2, x2), (n1, x1)]) b = some u := fun b u e => by rw [upd_ne (ne_of_none e hd)]; exact e
          have o2 := o.grow k
          have ra' := ra.mono (H' := upd H1 d (.xd [(n2, x2), (n1, x1)])) (Z' := Z) (fun b u e _ => k b u e) (fun a u _ e => k a u e) (fun _ z => z)
          have rb' := rb.mono (H' := upd H1 d (.xd [(n2, x2), (n1, x1)])) (Z' := Z) (fun b u e _ => k b u e) (fun a u _ e => k a u e) (fun _ z => z)
          have s0 : SR B σ δ (tmL L) (upd H1 d (.xd [(n2, x2), (n1, x1)])) := ⟨s.drop.len, ⟨Z, fp, o2⟩, s.has, s.drop.sl, s.pin⟩
          have s1 : SR B σ δ ((x1, .tm (.d a)) :: tmL L) _ := s0.push ⟨Z, fp, Own.addD o2 ra'⟩
          exact s1.push (by
            have o3 : OwnZ B _ ((x2, .d b) :: (x1, .d a) :: (prs σ δ ++ tms (tmL L))) Z fp := Own.addD (Own.addD o2 ra') rb'
            refine Own.perm ⟨Z, fp, o3⟩ (List.Perm.cons _ ?_)
            exact List.perm_middle.symm)⟩
end Nv

set_option Elab.async false
set_option linter.all false
set_option maxRecDepth 100000
set_option maxHeartbeats 2000000
/-! The data layer, part 22: told(lambda: e), where told catches an own exception and tells its fields. -/
namespace Nv
open PySem PySem.Spec PyProof.Rows L2
open PySem.NvX
variable [Tbs]
/-- told: try: return (w1, a()) / except C as e: return (w2, e.f1, e.f2) -/
def TT2 (C : Addr) (w1 w2 f1 f2 : Str) : (XK → Hp → VK → Prop) → Hp → VK → Prop := fun tl H Q =>
  tl (fun cls d H' => cls = .ref C ∧ ∃ (dd : Addr) (fs : List (Str × V)) (v1 v2 : V), d = some dd ∧ H' dd = some (.xd fs) ∧ fs.lookup f1 = some v1 ∧ fs.lookup f2 = some v2 ∧ ∀ p, H' p = none → Q (.ref p) (upd H' p (.tup [.str w2, v1, v2])))
    H (fun v H' => [V.str w1, v].length ≤ sizeLine ∧ ∀ p, H' p = none → Q (.ref p) (upd H' p (.tup [.str w1, v])))
def toldB (a ec en w1 w2 f1 f2 : Str) (k1 k2 : Nat) (j1 j2 : Nat) (p1 p2 p3 p4 p5 p6 p7 p8 p9 p10 p11 p12 p13 p14 p15 p16 : Pos) : List Stmt :=
  [.Try [.Return (some (.Tuple [.Constant (.str w1) j1 p1, .Call (.Name a p2) [] [] p3] k1 p4)) p5]
    [.ExceptHandler (some (.Name ec p6)) (some en) [.Return (some (.Tuple [.Constant (.str w2) j2 p7, .Attribute (.Name en p8) f1 p9, .Attribute (.Name en p10) f2 p11] k2 p12)) p13] p14] [] [] p15]
theorem takes_len {X : Cx} {W : WX} (t : Takes X W) : Takes X (fun c d σ H => σ.length = X.N.length → W c d σ H) := fun u s' ⟨a, B, sI, pins, σ, H, cls, d, e, I, nb, up, sky, na, os, ag, w⟩ =>
  t u s' ⟨a, B, sI, pins, σ, H, cls, d, e, I, nb, up, sky, na, os, ag, w I.len⟩
theorem told2_gives {X : Cx} {x a ec en q w1 w2 f1 f2 : Str} {sg : Scope} {g C : Addr} {cdg : Value} {k1 k2 j1 j2 : Nat} {p1 p2 p3 p4 p5 p6 p7 p8 p9 p10 p11 p12 p13 p14 p15 p16 : Pos}
    (hge : sg.names.lookup ec = some .globalImplicit) (hme : X.mg ec = some (.ref C)) (hde : (ec == ("__debug__" : Str)) = false) (hnd : (a == en) = false) (hen : sg.names.lookup en = some .local) (hden : (en == ("__debug__" : Str)) = false) (hcen : (en == ("__classdict__" : Str)) = false)
    (te : PySem.W.exmOne X.K (.ref C) (.ref C) = some true) (xf : XfC X.K C) (n1 : PySem.W.findIn X.K (.ref C) f1 = some none) (n2 : PySem.W.findIn X.K (.ref C) f2 = some none) (hsk : sg.kind = .function) :
    LamX.GivesTo X [a, en] x sg g cdg (toldB a ec en w1 w2 f1 f2 k1 k2 j1 j2 p1 p2 p3 p4 p5 p6 p7 p8 p9 p10 p11 p12 p13 p14 p15 p16) a q (TT2 C w1 w2 f1 f2) := by
  intro f c' s H Q tl act hc h
  have hgl : Gl (cxOf C8.CX0 X.prog X.w X.K X.mg X.base [a, en] x sg g cdg X.A X.stack s H C8.E0).nox ec := hge
  have hnod : ([a, en] : List Str).Nodup := by
    refine List.nodup_cons.mpr ⟨fun h => ?_, List.nodup_cons.mpr ⟨by simp, .nil⟩⟩
    rw [List.mem_singleton] at h
    rw [h] at hnd
    simp at hnd
  have hkl : ∀ (pn : List (Addr × Obj)) (b : Addr), Vis ((cxOf C8.CX0 X.prog X.w X.K X.mg X.base [a, en] x sg g cdg X.A X.stack s H C8.E0).nox.suite b pn).env.scope en := fun pn b => .inl hen
  refine ⟨_, pss_one (ps_try_as (X := (cxOf C8.CX0 X.prog X.w X.K X.mg X.base [a, en] x sg g cdg X.A X.stack s H C8.E0).nox) (c := .ref C) (i := 1)
      (tb := fun W D σ H => ∃ Ech : XK, (∀ cls d σ' H', σ'.length = 2 → Ech cls d H' → W cls d σ' H') ∧ σ[0]? = some (some (.ref f)) ∧ H c' = some (LamX.CodeO c' q) ∧ tl Ech H (fun v H' => [V.str w1, v].length ≤ sizeLine ∧ ∀ p, H' p = none → D.rt (.ref p) (upd H' p (.tup [.str w1, v]))))
      (ts := fun b cls d => tRet (tTup (tCons (tC (.str w2)) (tCons (tXf b cls d C f1 (tVar 1)) (tCons (tXf b cls d C f2 (tVar 1)) tNil)))))
      rfl rfl hnod rfl hen ⟨hgl, hde, .inl hme⟩ LamX.takes0 (fun W pn xe tk _ => ?_) (fun b oe cls d pn hz hf => ?_)), ?_⟩
  · refine ⟨fun pins s' σ H' D I h' => ?_⟩
    obtain ⟨Ech, hW, h1, h2, h3⟩ := h'
    have hp := act _ pn xe Ech p2 p3 (takes_len tk) fun cls d σ' H' hE hl => hW cls d σ' H' hl hE
    have hq := pss_one (ps_ret (pos := p5) (pe_tup (pos := p4) (x1 := k1) (pa_cons (pe_str (x := w1) (j := j1) (pos := p1)) (pa_cons hp pa_nil))))
    exact hq.run pins s' σ H' D I ⟨h1, h2, h3⟩
  · have hv := pe_var (X := (cxOf C8.CX0 X.prog X.w X.K X.mg X.base [a, en] x sg g cdg X.A X.stack s H C8.E0).nox.suite b ((b, oe) :: pn)) (pos := p8) (x := en) (i := 1) rfl (hkl ((b, oe) :: pn) b) hden hcen
    have hv2 := pe_var (X := (cxOf C8.CX0 X.prog X.w X.K X.mg X.base [a, en] x sg g cdg X.A X.stack s H C8.E0).nox.suite b ((b, oe) :: pn)) (pos := p10) (x := en) (i := 1) rfl (hkl ((b, oe) :: pn) b) hden hcen
    have e1 := pe_xf (X := (cxOf C8.CX0 X.prog X.w X.K X.mg X.base [a, en] x sg g cdg X.A X.stack s H C8.E0).nox) (pos := p9) xf n1 hz hf hv rfl
    have e2 := pe_xf (X := (cxOf C8.CX0 X.prog X.w X.K X.mg X.base [a, en] x sg g cdg X.A X.stack s H C8.E0).nox) (pos := p11) xf n2 hz hf hv2 rfl
    exact pss_one (ps_ret (pe_tup (pa_cons pe_str (pa_cons e1 (pa_cons e2 pa_nil)))))
  · refine ⟨fun cls d H' => cls = .ref C ∧ ∃ (dd : Addr) (fs : List (Str × V)) (v1 v2 : V), d = some dd ∧ H' dd = some (.xd fs) ∧ fs.lookup f1 = some v1 ∧ fs.lookup f2 = some v2 ∧ ∀ p, H' p = none → Q (.ref p) (upd H' p (.tup [.str w2, v1, v2])), fun cls d σ' H' hlen hh => ?_, rfl, hc, h⟩
    obtain ⟨rfl, dd, fs, v1, v2, rfl, hd, l1, l2, hq⟩ := hh
    refine ⟨true, te, fun _ b hb => ?_, fun z => nomatch z⟩
    have hs : (σ'.set 1 (some (V.ref b)))[1]? = some (some (V.ref b)) := List.getElem?_set_self (by omega)
    exact ⟨_, hs, rfl, rfl, dd, fs, v1, rfl, hd, l1, _, hs, rfl, rfl, dd, fs, v2, rfl, hd, l2, (by show 3 ≤ sizeLine; decide), hq⟩
theorem OwnZ.extN {B : Bs} {H H' : Hp} {P : List (V × Val)} {Z : Addr → Prop} {fp : List Addr} (x : OwnZ B H P Z fp) (k : LamX.ExtN H H') (tb : LamX.Tabs B.T H') : OwnZ B H' P Z fp := by
  have kt : ∀ b u, H b = some u → (∃ ys, u = .tup ys) ∨ (∃ o ys, u = .frz o (.tup ys)) → H' b = some u := fun b u e c => k b u e fun ps q => by
    rcases c with ⟨_, c⟩ | ⟨_, _, c⟩ <;> (subst c; cases q)
  have kz : ∀ a u, Z a → H a = some u → H' a = some u := fun a u z e => by
    obtain ⟨u', q, t⟩ := x.zt a z
    rw [e] at q
    cases q
    exact k a u e t
  have kf : ∀ a ∈ fp, ∀ u, H a = some u → H' a = some u := fun a ha u e => by
    obtain ⟨o, q, m⟩ := x.tr.mu a ha
    rw [e] at q
    cases q
    exact k a u e (isMu_ntup m).2.2.1
  refine ⟨x.tr.mono kt kz (fun _ z => z) kf, x.nd, x.nz, x.new, fun a z => ?_, x.zo, ⟨fun b u e r t => k b u (x.fr.keep b u e r t) t⟩, tb⟩
  obtain ⟨u, q, t⟩ := x.zt a z
  exact ⟨u, kz a u z q, t⟩
def toldS (cn w1 w2 f1 f2 : Str) (te : ES) : ES := fun δ => match te δ with
  | some (.ok r, δ') => (r.dat δ').map fun y => (.ok (.tm (.d (.tuple [.str w1, y]))), δ')
  | some (.error ex, δ') => if ex.cls = cn then (ex.fs.lookup f1).bind fun y1 => (ex.fs.lookup f2).map fun y2 => (.ok (.tm (.d (.tuple [.str w2, y1, y2]))), δ') else none
  | none => none
theorem lookup_zip {f : Str} {K : PySem.W.Frag} {H : Hp} {Z : Addr → Prop} : ∀ {fs : List (Str × PyData)} {vs : List V} {y : PyData}, RepL K H Z vs (fs.map Prod.snd) → fs.lookup f = some y → ∃ v, ((fs.map Prod.fst).zip vs).lookup f = some v ∧ Rep K H Z v y
  | (n, x) :: fs, v :: vs, y, .cons r t, e => by
    rw [List.lookup_cons] at e
    show ∃ w, List.lookup f ((n, v) :: (fs.map Prod.fst).zip vs) = some w ∧ _
    rw [List.lookup_cons]
    cases h : f == n with
    | true => rw [h] at e; cases e; exact ⟨v, rfl, r⟩
    | false => rw [h] at e; exact lookup_zip t e
theorem de_told {X : Cx} {x a cn qual n1 n2 ec en w1 w2 f1 f2 : Str} {C fI cc cda g c P : Addr} {k : Nat} {pg params : Arguments} {sg scope : Scope} {dV kV doc pm cdv ct oc : Value} {an od : Option Addr} {osl : Array (Option Value)} {k1 k2 j1 j2 : Nat} {p1 p2 p3 p4 p5 p6 p7 p8 p9 p10 p11 p12 p13 p14 p15 p16 : Pos} {body : Expr} {te : ES} {p lpos pos : Pos}
    (hgC : X.mg ec = some (.ref C)) (hnC : cn = ec) (tex : PySem.W.exmOne X.K (.ref C) (.ref C) = some true) (xf : XfC X.K C) (no1 : PySem.W.findIn X.K (.ref C) f1 = some none) (no2 : PySem.W.findIn X.K (.ref C) f2 = some none)
    (hg : Gl X x) (hm : X.mg x = some (.ref g)) (hk : PySem.W.keepIn X.K (.ref g) = true)
    (lk : X.K.lookup g = some ⟨oc, od, .func (PySem.W.fnOf x x pg (toldB a ec en w1 w2 f1 f2 k1 k2 j1 j2 p1 p2 p3 p4 p5 p6 p7 p8 p9 p10 p11 p12 p13 p14 p15 p16) sg dV kV doc pm an cdv ct), osl⟩) (hcg : PySem.W.codeIn X.K cdv x = true)
    (hb : L2.Binds X.K (PySem.W.fnOf x x pg (toldB a ec en w1 w2 f1 f2 k1 k2 j1 j2 p1 p2 p3 p4 p5 p6 p7 p8 p9 p10 p11 p12 p13 p14 p15 p16) sg dV kV doc pm an cdv ct) [a] []) (Sg : FnScope [a, en] [a] sg)
    (hge : sg.names.lookup ec = some .globalImplicit) (hva : Vis sg a) (hen : sg.names.lookup en = some .local) (hnn : (a == en) = false)
    (TB : LamX.TabB X.base X.mg c P) (hcode : X.env.code = .ref c) (hmT : (P, X.env.qual ++ "<lambda>") ∈ Tbs.list) (hu : ∀ p ∈ Tbs.list, p.1 = P → p.2 = X.env.qual ++ "<lambda>") (hr : Room (k + 2) X.A) (L : LamX.LamS X.env.scope scope) (hdef : defaultsOf params X.env = ([], []))
    (hbind : ∀ (q : Str) (cl : List (Str × Addr)) (pm cv ctv : Value), bindArgs (PySem.W.kla_fn "<lambda>" q params body scope cl pm cv ctv) ⟨[], []⟩ = pure [])
    (hbody : ∀ (A : Around) (outer : List Env) (s : Shared) (H : Hp) (E : XK) (f c' : Addr), Room k (A.deeper (LamX.lamEnv X scope s.heap.objs.size f c')) → DE (LamX.lamCx X A outer s H E scope f c') body te)
    (hdb : (x == ("__debug__" : Str)) = false := by decide) (hd : (a == ("__debug__" : Str)) = false := by decide) (hcd : (a == ("__classdict__" : Str)) = false := by decide) (hde : (ec == ("__debug__" : Str)) = false := by decide) (hden : (en == ("__debug__" : Str)) = false := by decide) (hcen : (en == ("__classdict__" : Str)) = false := by decide) :
    DE X (.Call (.Name x p) [.Lambda params body scope lpos] [] pos) (toldS cn w1 w2 f1 f2 te) := by
  subst hnC
  refine ⟨fun B W cg => PE_weak (LamX.pe_lamcall (T := Tbs.list) (t := fun E => tD X.mg B (fun cls d _ H' => E cls d H') te) (TT := TT2 C w1 w2 f1 f2) hg hm hk lk hcg hb Sg rfl hva
    (told2_gives (p16 := p16) hge hgC hde hnn hen hden hcen tex xf no1 no2 Sg.kind) TB hcode hmT hu hr L hdef hbind (fun A outer s H E f c' hr => ?_) hdb hd hcd) fun σ H Q h => ?_⟩
  · exact (hbody A outer s H E f c' hr).run B _ ⟨cg.k, takes_of rfl rfl rfl rfl, rfl, passes_of rfl, cg.tab⟩
  · obtain ⟨δ, Lv, s, q⟩ := h
    obtain ⟨Z, fp, o⟩ := s.own
    refine ⟨by rw [← cg.tab]; exact o.tb, fun H1 e1 t1 => ?_⟩
    have o1 := o.extN e1 (by rw [cg.tab]; exact t1)
    have s1 : SR B σ δ Lv H1 := ⟨s.len, ⟨Z, fp, o1⟩, s.has, s.sl, s.pin⟩
    refine ⟨δ, Lv, s1, ?_⟩
    unfold toldS at q
    cases e2 : te δ with
    | none => simp only [e2] at q; exact q.elim
    | some pr =>
      obtain ⟨r, δ'⟩ := pr
      cases r with
      | ok r =>
        simp only [e2] at q
        intro v H2 s2
        refine ⟨by show 2 ≤ sizeLine; decide, fun pp hp => ?_⟩
        cases e3 : r.dat δ' with
        | none => rw [e3] at q; exact q.elim
        | some y =>
          rw [e3] at q
          have e4 : getDs [r] δ' = some [y] := by simp [getDs, e3]
          have s2' : SR B σ δ' ([v].zip [r] ++ Lv) H2 := s2
          obtain ⟨Z2, fp2, o2, r2⟩ := s2'.datas rfl e4
          have rs : RepL B.K H2 Z2 [.str w1, v] [.str w1, y] := .cons (.str w1) r2
          exact q _ _ (s2.drop1.push (o2.tup rs hp).own)
      | error ex =>
        simp only [e2] at q
        intro cls dd H2 hx
        obtain ⟨C', d', vs, g1, g2, g3, g4, g5, sx⟩ := hx
        split at q
        · rename_i hcl
          rw [hcl, hgC] at g1
          cases g1
          cases e3 : ex.fs.lookup f1 with
          | none => rw [e3] at q; exact q.elim
          | some y1 =>
            cases e4 : ex.fs.lookup f2 with
            | none => rw [e3, e4] at q; exact q.elim
            | some y2 =>
              rw [e3, e4] at q
              have e5 : (ex.fs.map fun p => Rs.tm (.d p.2)) = (ex.fs.map Prod.snd).map tmD := by rw [List.map_map]; rfl
              rw [e5] at sx
              have e6 : getDs ((ex.fs.map Prod.snd).map tmD) δ' = some (ex.fs.map Prod.snd) := by
                generalize ex.fs.map Prod.snd = ds
                induction ds with
                | nil => rfl
                | cons d ds ih => simp [getDs, Rs.dat, tmD, Val.fz, ih]
              obtain ⟨Z2, fp2, o2, r2⟩ := sx.datas (by simpa using g4) e6
              obtain ⟨v1, l1, rr1⟩ := lookup_zip r2 e3
              obtain ⟨v2, l2, rr2⟩ := lookup_zip r2 e4
              refine ⟨g2, d', _, v1, v2, g3, g5, l1, l2, fun pp hp => ?_⟩
              have rs : RepL B.K H2 Z2 [.str w2, v1, v2] [.str w2, y1, y2] := .cons (.str w2) (.cons rr1 (.cons rr2 .nil))
              exact q _ _ (sx.drop.push (o2.tup rs hp).own)
        · exact q.elim
/-- a def that calls what it got, catching an own exception: what the written part says -/
structure ToldF (K : PySem.W.Frag) (mg : Str → Option Value) (x a ec en w1 w2 f1 f2 : Str) : Prop where
  ex : ∃ (C g : Addr) (pg : Arguments) (sg : Scope) (dV kV doc pm cdv ct oc : Value) (an od : Option Addr) (osl : Array (Option Value)) (k1 k2 j1 j2 : Nat) (p1 p2 p3 p4 p5 p6 p7 p8 p9 p10 p11 p12 p13 p14 p15 p16 : Pos),
    mg ec = some (.ref C) ∧ PySem.W.exmOne K (.ref C) (.ref C) = some true ∧ XfC K C ∧ PySem.W.findIn K (.ref C) f1 = some none ∧ PySem.W.findIn K (.ref C) f2 = some none ∧ mg x = some (.ref g) ∧ PySem.W.keepIn K (.ref g) = true ∧
    K.lookup g = some ⟨oc, od, .func (PySem.W.fnOf x x pg (toldB a ec en w1 w2 f1 f2 k1 k2 j1 j2 p1 p2 p3 p4 p5 p6 p7 p8 p9 p10 p11 p12 p13 p14 p15 p16) sg dV kV doc pm an cdv ct), osl⟩ ∧ PySem.W.codeIn K cdv x = true ∧
    L2.Binds K (PySem.W.fnOf x x pg (toldB a ec en w1 w2 f1 f2 k1 k2 j1 j2 p1 p2 p3 p4 p5 p6 p7 p8 p9 p10 p11 p12 p13 p14 p15 p16) sg dV kV doc pm an cdv ct) [a] [] ∧ FnScope [a, en] [a] sg ∧
    sg.names.lookup ec = some .globalImplicit ∧ Vis sg a ∧ sg.names.lookup en = some .local ∧ (a == en) = false
theorem de_toldF {X : Cx} {x a ec en w1 w2 f1 f2 : Str} {c P : Addr} {k : Nat} {params : Arguments} {scope : Scope} {body : Expr} {te : ES} {p lpos pos : Pos} (T : ToldF X.K X.mg x a ec en w1 w2 f1 f2) (hg : Gl X x)
    (TB : LamX.TabB X.base X.mg c P) (hcode : X.env.code = .ref c) (hmT : (P, X.env.qual ++ "<lambda>") ∈ Tbs.list) (hu : ∀ p ∈ Tbs.list, p.1 = P → p.2 = X.env.qual ++ "<lambda>") (hr : Room (k + 2) X.A) (L : LamX.LamS X.env.scope scope) (hdef : defaultsOf params X.env = ([], []))
    (hbind : ∀ (q : Str) (cl : List (Str × Addr)) (pm cv ctv : Value), bindArgs (PySem.W.kla_fn "<lambda>" q params body scope cl pm cv ctv) ⟨[], []⟩ = pure [])
    (hbody : ∀ (A : Around) (outer : List Env) (s : Shared) (H : Hp) (E : XK) (f c' : Addr), Room k (A.deeper (LamX.lamEnv X scope s.heap.objs.size f c')) → DE (LamX.lamCx X A outer s H E scope f c') body te)
    (hdb : (x == ("__debug__" : Str)) = false := by decide) (hd : (a == ("__debug__" : Str)) = false := by decide) (hcd : (a == ("__classdict__" : Str)) = false := by decide) (hde : (ec == ("__debug__" : Str)) = false := by decide) (hden : (en == ("__debug__" : Str)) = false := by decide) (hcen : (en == ("__classdict__" : Str)) = false := by decide) :
    DE X (.Call (.Name x p) [.Lambda params body scope lpos] [] pos) (toldS ec w1 w2 f1 f2 te) := by
  obtain ⟨C, g, pg, sg, dV, kV, doc, pm, cdv, ct, oc, an, od, osl, k1, k2, j1, j2, p1, p2, p3, p4, p5, p6, p7, p8, p9, p10, p11, p12, p13, p14, p15, p16, g1, g2, g3, g4, g5, g6, g7, g8, g9, g10, g11, g12, g13, g14, g15⟩ := T.ex
  exact de_told (p16 := p16) (cn := ec) (qual := x) (n1 := x) (n2 := x) (fI := C) (cc := C) (cda := C) g1 rfl g2 g3 g4 g5 hg g6 g7 g8 g9 g10 g11 g12 g13 g14 g15 TB hcode hmT hu hr L hdef hbind hbody hdb hd hcd hde hden hcen
end Nv

set_option Elab.async false
set_option linter.all false
set_option maxRecDepth 100000
set_option maxHeartbeats 2000000
/-! The data layer, part 23: plain facts of the data. -/
namespace Nv
open PySem
theorem eqvAll_ints : ∀ (xs ys : List Int), PyData.eqvAll (xs.map .int) (ys.map .int) = decide (xs = ys)
  | [], [] => rfl
  | x :: xs, y :: ys => by
    show (x == y && PyData.eqvAll (xs.map .int) (ys.map .int)) = _
    rw [eqvAll_ints xs ys]
    by_cases h : x = y <;> by_cases h2 : xs = ys <;> simp [h, h2]
  | [], _ :: _ => by simp [PyData.eqvAll]
  | _ :: _, [] => by simp [PyData.eqvAll]
theorem canLay_ints : ∀ (xs : List Int), PyData.canLayAll0 (xs.map .int) = true
  | [] => rfl
  | x :: xs => by show (true && PyData.canLayAll0 (xs.map .int)) = true; rw [canLay_ints xs]; rfl
theorem depth_ints : ∀ (xs : List Int), PyData.depthAll (xs.map .int) = 0
  | [] => rfl
  | x :: xs => by
    show max 0 (PyData.depthAll (xs.map .int)) = 0
    rw [depth_ints xs]; rfl
theorem shaped_tup (xs : List Int) : SeqAt.shaped (.tuple (xs.map .int)) = true := by
  show (PyData.canLayAll0 (xs.map .int) && decide (PyData.depthAll (xs.map .int) + 1 ≤ 64)) = true
  rw [canLay_ints, depth_ints]; rfl
theorem shaped_int (i : Int) : SeqAt.shaped (.int i) = true := rfl
theorem shaped_bool (i : Bool) : SeqAt.shaped (.bool i) = true := rfl
theorem eqV_int (i j : Int) : eqV (.d (.int i)) (.d (.int j)) = some (.d (.bool (i == j))) := rfl
theorem neV_int (i j : Int) : neV (.d (.int i)) (.d (.int j)) = some (.d (.bool (!(i == j)))) := rfl
theorem neV_bool (i j : Bool) : neV (.d (.bool i)) (.d (.bool j)) = some (.d (.bool (!(i == j)))) := rfl
theorem eqV_tup (xs ys : List Int) : eqV (.d (.tuple (xs.map .int))) (.d (.tuple (ys.map .int))) = some (.d (.bool (decide (xs = ys)))) := by
  unfold eqV
  show (if (SeqAt.shaped (.tuple (xs.map .int)) && SeqAt.shaped (.tuple (ys.map .int))) = true then some (Val.d (.bool (PyData.eqvAll (xs.map .int) (ys.map .int)))) else none) = _
  rw [shaped_tup, shaped_tup, eqvAll_ints]; rfl
theorem mulV_r {i j : Int} (h : -(2 ^ 64) < j ∧ j < 2 ^ 64) : mulV (.d (.int i)) (.d (.int j)) = some (.d (.int (i * j))) := if_pos (show mulC i j = true from decide_eq_true (.inr h))
theorem mulV_l {i j : Int} (h : -(2 ^ 64) < i ∧ i < 2 ^ 64) : mulV (.d (.int i)) (.d (.int j)) = some (.d (.int (i * j))) := if_pos (show mulC i j = true from decide_eq_true (.inl h))
theorem modV_r {i j : Int} (h : 0 < j) : modV (.d (.int i)) (.d (.int j)) = some (.d (.int (i % j))) := if_pos (show modC i j = true from decide_eq_true h)
theorem fdivV_r {i j : Int} (h : 0 < j ∧ j < 2 ^ 64) : fdivV (.d (.int i)) (.d (.int j)) = some (.d (.int (i / j))) := if_pos (show divC i j = true from decide_eq_true ⟨h.1, Int.lt_trans h.2 (by decide +kernel)⟩)
theorem addV_int (i j : Int) : addV (.d (.int i)) (.d (.int j)) = some (.d (.int (i + j))) := rfl
theorem subV_int (i j : Int) : subV (.d (.int i)) (.d (.int j)) = some (.d (.int (i - j))) := rfl
theorem andV_int (i j : Int) : andV (.d (.int i)) (.d (.int j)) = some (.d (.int (Builtin.bitAnd i j))) := rfl
theorem shrV_r {i j : Int} (h : 0 ≤ j) : shrV (.d (.int i)) (.d (.int j)) = some (.d (.int (i / 2 ^ j.toNat))) := if_pos (show shrC i j = true from decide_eq_true h)
/-- a while's turn -/
theorem while_step [Tbs] {tc : M Bool} {tb : SS} {δ δ1 δ2 : Sl} (h1 : tc δ = some (.ok true, δ1)) (h2 : tb δ1 = some (.ok .nx, δ2)) : whileS tc tb δ = whileS tc tb δ2 := by
  conv => lhs; rw [whileS_eq]
  rw [bind_ok h1]
  show M.bind tb _ δ1 = _
  rw [bind_ok h2]
theorem while_end [Tbs] {tc : M Bool} {tb : SS} {δ δ1 : Sl} (h1 : tc δ = some (.ok false, δ1)) : whileS tc tb δ = some (.ok .nx, δ1) := by
  rw [whileS_eq, bind_ok h1]; rfl
theorem while_ret [Tbs] {tc : M Bool} {tb : SS} {δ δ1 δ2 : Sl} {v : Val} (h1 : tc δ = some (.ok true, δ1)) (h2 : tb δ1 = some (.ok (.rt v), δ2)) : whileS tc tb δ = some (.ok (.rt v), δ2) := by
  rw [whileS_eq, bind_ok h1]
  show M.bind tb _ δ1 = _
  rw [bind_ok h2]; rfl
theorem forL_cons [Tbs] {g : GS} {tb : SS} {d : PyData} {ds : List PyData} {δ δ1 δ2 : Sl} {u : Unit} (h1 : g (.d d) δ = some (.ok u, δ1)) (h2 : tb δ1 = some (.ok .nx, δ2)) : forL g tb (d :: ds) δ = forL g tb ds δ2 := by
  show (match g (.d d) δ with | some (.ok _, δ') => _ | _ => none) = _
  rw [h1]
  show M.bind tb _ δ1 = _
  rw [bind_ok h2]
theorem seq_nx [Tbs] {t u : SS} {δ δ1 : Sl} (h : t δ = some (.ok .nx, δ1)) : seqS t u δ = u δ1 := by
  unfold seqS; rw [bind_ok h]
theorem seq_rt [Tbs] {t u : SS} {δ δ1 : Sl} {v : Val} (h : t δ = some (.ok (.rt v), δ1)) : seqS t u δ = some (.ok (.rt v), δ1) := by
  unfold seqS; rw [bind_ok h]; rfl
theorem seq_er [Tbs] {t u : SS} {δ δ1 : Sl} {e : Exn} (h : t δ = some (.error e, δ1)) : seqS t u δ = some (.error e, δ1) := by
  unfold seqS; rw [bind_err h]
theorem ifS_t [Tbs] {tc : M Bool} {t u : SS} {δ δ1 : Sl} (h : tc δ = some (.ok true, δ1)) : ifS tc t u δ = t δ1 := by
  unfold ifS; rw [bind_ok h]; rfl
theorem ifS_f [Tbs] {tc : M Bool} {t u : SS} {δ δ1 : Sl} (h : tc δ = some (.ok false, δ1)) : ifS tc t u δ = u δ1 := by
  unfold ifS; rw [bind_ok h]; rfl
/-! masks -/
theorem and_mask (n : Nat) (k : Nat) : Builtin.bitAnd (n : Int) ((2 : Int) ^ k - 1) = ((n % 2 ^ k : Nat) : Int) := by
  rw [Bits.bitAnd_mask k (Int.natCast_nonneg n)]
  norm_cast
/-! calls -/
theorem ev_call1 [Tbs] {F : Fs} {te : ES} {δ δ1 : Sl} {r : Rs} {x v : Val} (mu : F.mu = [false]) (h1 : te δ = some (.ok r, δ1)) (ho : r.own δ1 = some x) (hf : F.fn [x] = some (.ok v, [])) : callS F (consA te (M.pure [])) δ = some (.ok (.tm v), δ1) := by
  have h2 : consA te (M.pure []) δ = some (.ok [r], δ1) := by unfold consA; rw [bind_ok h1]; rfl
  unfold callS
  rw [bind_ok h2, mu]
  simp [takeArgs, ho, hf, putBack]
theorem er_call2 [Tbs] {F : Fs} {ta tb : ES} {δ δ1 δ2 : Sl} {r r2 : Rs} {x y : Val} {e : Exn} (mu : F.mu = [false, false]) (h1 : ta δ = some (.ok r, δ1)) (h2 : tb δ1 = some (.ok r2, δ2)) (ho : r.own δ2 = some x) (ho2 : r2.own δ2 = some y) (hf : F.fn [x, y] = some (.error e, [])) :
    callS F (consA ta (consA tb (M.pure []))) δ = some (.error e, δ2) := by
  have h3 : consA ta (consA tb (M.pure [])) δ = some (.ok [r, r2], δ2) := by unfold consA; rw [bind_ok h1, bind_ok (by rw [bind_ok h2]; rfl)]; rfl
  unfold callS
  rw [bind_ok h3, mu]
  simp [takeArgs, ho, ho2, hf, putBack]
theorem ev_call2 [Tbs] {F : Fs} {ta tb : ES} {δ δ1 δ2 : Sl} {r r2 : Rs} {x y v : Val} (mu : F.mu = [false, false]) (h1 : ta δ = some (.ok r, δ1)) (h2 : tb δ1 = some (.ok r2, δ2)) (ho : r.own δ2 = some x) (ho2 : r2.own δ2 = some y) (hf : F.fn [x, y] = some (.ok v, [])) :
    callS F (consA ta (consA tb (M.pure []))) δ = some (.ok (.tm v), δ2) := by
  have h3 : consA ta (consA tb (M.pure [])) δ = some (.ok [r, r2], δ2) := by unfold consA; rw [bind_ok h1, bind_ok (by rw [bind_ok h2]; rfl)]; rfl
  unfold callS
  rw [bind_ok h3, mu]
  simp [takeArgs, ho, ho2, hf, putBack]
/-- f(x, e), x in slot i is changed -/
theorem ev_callM [Tbs] {F : Fs} {tb : ES} {δ δ1 : Sl} {i : Nat} {r : Rs} {b b' y v a : Val} (mu : F.mu = [true, false]) (h0 : atSl δ i = some a) (h1 : tb δ = some (.ok r, δ1)) (hb : atSl δ1 i = some b) (ho : r.own (δ1.set i none) = some y) (hf : F.fn [b, y] = some (.ok v, [b'])) :
    callS F (consA (vr i) (consA tb (M.pure []))) δ = some (.ok (.tm v), δ1.set i (some b')) := by
  have hv : vr i δ = some (.ok (.sl i), δ) := by unfold vr; rw [h0]
  have h3 : consA (vr i) (consA tb (M.pure [])) δ = some (.ok [.sl i, r], δ1) := by unfold consA; rw [bind_ok hv, bind_ok (by rw [bind_ok h1]; rfl)]; rfl
  unfold callS
  rw [bind_ok h3, mu]
  simp [takeArgs, hb, ho, hf, putBack, List.set_set]
theorem and_mask' {x : Int} (k : Nat) (hx : 0 ≤ x) : Builtin.bitAnd x ((2 : Int) ^ k - 1) = x % 2 ^ k := Bits.bitAnd_mask k hx
theorem ev_cons [Tbs] {te : ES} {tr : M (List Rs)} {δ δ1 δ2 : Sl} {r : Rs} {rs : List Rs} (h1 : te δ = some (.ok r, δ1)) (h2 : tr δ1 = some (.ok rs, δ2)) : consA te tr δ = some (.ok (r :: rs), δ2) := by
  show M.bind te _ δ = _
  rw [bind_ok h1]
  show M.bind tr _ δ1 = _
  rw [bind_ok h2]; rfl
theorem ev_one [Tbs] {te : ES} {δ δ1 : Sl} {r : Rs} (h1 : te δ = some (.ok r, δ1)) : consA te (M.pure []) δ = some (.ok [r], δ1) := ev_cons h1 rfl
end Nv

set_option Elab.async false
set_option linter.all false
set_option maxRecDepth 100000
set_option maxHeartbeats 4000000
namespace K43
open PySem PySem.Spec PyProof.Rows L2 Nv
def top (i : Nat) : Stmt := PySem.Challenge.pw_neversure_k43_octets_of_integers_and_the.main.body.getD i (.Pass ⟨0, 0, 0, 0⟩)
theorem bt_abs : bootBuiltins "abs" = some (.builtin "abs") := by decide +kernel
theorem bt_bool : bootBuiltins "bool" = some (.type "bool") := by decide +kernel
theorem bt_int : bootBuiltins "int" = some (.type "int") := by decide +kernel
theorem bt_isinstance : bootBuiltins "isinstance" = some (.builtin "isinstance") := by decide +kernel
theorem bt_len : bootBuiltins "len" = some (.builtin "len") := by decide +kernel
theorem bt_list : bootBuiltins "list" = some (.type "list") := by decide +kernel
theorem bt_min : bootBuiltins "min" = some (.builtin "min") := by decide +kernel
theorem bt_range : bootBuiltins "range" = some (.type "range") := by decide +kernel
theorem bt_str : bootBuiltins "str" = some (.type "str") := by decide +kernel
theorem bt_tuple : bootBuiltins "tuple" = some (.type "tuple") := by decide +kernel
theorem bt_zip : bootBuiltins "zip" = some (.type "zip") := by decide +kernel
/-- what the module's globals are -/
structure Gs (mg : Str → Option Value) : Prop where
  MODULUS : ∃ t, mg "MODULUS" = some (.int 4294967291 t)
  FACTOR : ∃ t, mg "FACTOR" = some (.int 257 t)
  GROUP : ∃ t, mg "GROUP" = some (.int 7 t)
  HALF : ∃ t, mg "HALF" = some (.int 128 t)
  CHECK : ∃ t, mg "CHECK" = some (.int 4 t)
  n_abs : mg "abs" = none
  n_bool : mg "bool" = none
  n_int : mg "int" = none
  n_isinstance : mg "isinstance" = none
  n_len : mg "len" = none
  n_list : mg "list" = none
  n_min : mg "min" = none
  n_range : mg "range" = none
  n_str : mg "str" = none
  n_tuple : mg "tuple" = none
  n_zip : mg "zip" = none
/-- a def that is known by its meaning -/
def Fd [Tbs] (P : Program) (w : World) (K : PySem.W.Frag) (mg : Str → Option Value) (base : Heap) (k : Nat) (x : Str) (F : Fs) : Prop :=
  ∃ (f : Addr) (fd : FuncData) (ps : List Str), FnOk P w K mg base (L2.CX P w) k f fd ps (spV mg K F) ∧ mg x = some (.ref f) ∧ PySem.W.keepIn K (.ref f) = true ∧ Binds K fd ps []
section
variable [Tbs]
/-! ### integer_octets(number); slots: number, found -/
abbrev s_integer_octets : Stmt := top 10
noncomputable def m_integer_octets : SS :=
  (seqS (asgS (lstS (M.pure [])) (nmG 1))
  (seqS (whileS (asT (op2 geV (vr 0) (kI 128)))
  (seqS (dropS (appS 1 (op2 addV (kI 128) (op2 andV (vr 0) (op2 subV (kI 128) (kI 1))))))
  (seqS (augS 0 shrV (kI 7))
  (M.pure .nx))))
  (seqS (retS (tupS (starA (vr 1) (consA (vr 0) (M.pure [])))))
  (M.pure .nx))))
noncomputable def fs_integer_octets : Fs := ⟨[false], fun as => endOf [] (m_integer_octets (startD 2 as))⟩
/-! ### read_integer(octets, place); slots: octets, place, at, bits, octet -/
abbrev s_read_integer : Stmt := top 11
noncomputable def m_read_integer : SS :=
  (seqS (asgS (vr 1) (nmG 2))
  (seqS (whileS (andT (asT (op2 ltV (vr 2) (opN lenV (consA (vr 0) (M.pure []))))) (asT (op2 geV (op2 idxV (vr 0) (vr 2)) (kI 128))))
  (seqS (augS 2 addI (kI 1))
  (M.pure .nx)))
  (seqS (ifS (orT (asT (op2 eqV (vr 2) (opN lenV (consA (vr 0) (M.pure []))))) (andT (asT (op2 eqV (op2 idxV (vr 0) (vr 2)) (kI 0))) (asT (op2 gtV (vr 2) (vr 1)))))
  (seqS (raise2S "BadBytes" "index" "fault" (consA (vr 1) (consA (kS "integer") (M.pure []))))
  (M.pure .nx))
  (M.pure .nx))
  (seqS (asgS (joinS (kS "") (lcS [4] (tupI (op1 revV (slS (vr 0) (asI (vr 1)) (asI (op2 addV (vr 2) (kI 1)))))) (nmG 4) (M.pure true) (op1 fmt7V (op2 andV (vr 4) (op2 subV (kI 128) (kI 1)))))) (nmG 3))
  (seqS (retS (tupS (consA (opN intBV (consA (vr 3) (consA (kI 2) (M.pure [])))) (consA (op2 addV (vr 2) (kI 1)) (M.pure [])))))
  (M.pure .nx))))))
noncomputable def fs_read_integer : Fs := ⟨[false, false], fun as => endOf [] (m_read_integer (startD 5 as))⟩
/-! ### check_of(octets); slots: octets, found, octet -/
abbrev s_check_of : Stmt := top 12
noncomputable def m_check_of : SS :=
  (seqS (asgS (kI 1) (nmG 1))
  (seqS (forS (tupI (vr 0)) (nmG 2)
  (seqS (asgS (op2 modV (op2 addV (op2 addV (op2 mulV (vr 1) (kI 257)) (vr 2)) (kI 1)) (kI 4294967291)) (nmG 1))
  (M.pure .nx)))
  (seqS (retS (vr 1))
  (M.pure .nx))))
noncomputable def fs_check_of : Fs := ⟨[false], fun as => endOf [] (m_check_of (startD 3 as))⟩
/-! ### sealed(octets); slots: octets, check -/
abbrev s_sealed : Stmt := top 13
noncomputable def m_sealed : SS :=
  (seqS (asgS (callS fs_check_of (consA (vr 0) (M.pure []))) (nmG 1))
  (seqS (retS (tupS (starA (vr 0) (consA (op2 shrV (vr 1) (kI 24)) (consA (op2 andV (op2 shrV (vr 1) (kI 16)) (kI 255)) (consA (op2 andV (op2 shrV (vr 1) (kI 8)) (kI 255)) (consA (op2 andV (vr 1) (kI 255)) (M.pure []))))))))
  (M.pure .nx)))
noncomputable def fs_sealed : Fs := ⟨[false], fun as => endOf [] (m_sealed (startD 2 as))⟩
/-! ### is_sealed(octets); slots: octets -/
abbrev s_is_sealed : Stmt := top 14
noncomputable def m_is_sealed : SS :=
  (seqS (retS (andS (op2 geV (opN lenV (consA (vr 0) (M.pure []))) (kI 4)) (op2 eqV (callS fs_sealed (consA (slS (vr 0) noP (asI (op2 subV (opN lenV (consA (vr 0) (M.pure []))) (kI 4)))) (M.pure []))) (opN tupleV (consA (vr 0) (M.pure []))))))
  (M.pure .nx))
noncomputable def fs_is_sealed : Fs := ⟨[false], fun as => endOf [] (m_is_sealed (startD 1 as))⟩
/-! ### _law_bag(script); slots: script, cell -/
abbrev s__law_bag : Stmt := top 16
noncomputable def m__law_bag : SS :=
  (seqS (retS (lstS (consA (kI 0) (consA (kI 1234567891) (consA (kI 0) (consA (fzS (lcS [1] (seqI (slS (vr 0) noP (asI (kI 63)))) (nmG 1) (M.pure true) (opN absV (consA (vr 1) (M.pure []))))) (M.pure [])))))))
  (M.pure .nx))
noncomputable def fs__law_bag : Fs := ⟨[false], fun as => endOf [] (m__law_bag (startD 2 as))⟩
/-! ### _law_take(bag, many); slots: bag, many, cell, stirred, value, begin, second -/
abbrev s__law_take : Stmt := top 17
noncomputable def m__law_take : SS :=
  (seqS (ifS (asT (op2 eqV (op2 idxV (vr 0) (kI 0)) (kI 0)))
  (seqS (asgS (op2 idxV (op2 addV (slS (op2 idxV (vr 0) (kI 3)) (asI (op2 idxV (vr 0) (kI 2))) noP) (lstS (consA (kI 0) (M.pure [])))) (kI 0)) (nmG 2))
  (seqS (augIx 0 2 addI (kI 1))
  (seqS (ifS (asT (op2 geV (vr 2) (op2 powV (kI 10) (kI 18))))
  (seqS (asgS (vr 2) (ixG 0 (kI 0)))
  (M.pure .nx))
  (M.pure .nx))
  (seqS (asgS (op2 addV (op2 addV (op2 mulV (op2 idxV (vr 0) (kI 1)) (kI 48271)) (op2 modV (opN intV (consA (vr 2) (M.pure []))) (kI 2147483647))) (op2 mulV (kI 7919) (op2 idxV (vr 0) (kI 2)))) (nmG 3))
  (seqS (asgS (op2 modV (opN intV (consA (vr 3) (M.pure []))) (kI 2147483647)) (ixG 0 (kI 1)))
  (M.pure .nx))))))
  (M.pure .nx))
  (seqS (ifS (asT (op2 gtV (op2 idxV (vr 0) (kI 0)) (kI 0)))
  (seqS (asgS (op2 modV (opN intV (consA (op2 idxV (vr 0) (kI 0)) (M.pure []))) (vr 1)) (nmG 4))
  (seqS (asgS (op2 fdivV (opN intV (consA (op2 idxV (vr 0) (kI 0)) (M.pure []))) (vr 1)) (ixG 0 (kI 0)))
  (seqS (retS (vr 4))
  (M.pure .nx))))
  (M.pure .nx))
  (seqS (asgS (op2 modV (opN intV (consA (op2 mulV (op2 addV (op2 idxV (vr 0) (kI 1)) (kI 1)) (kI 39373)) (M.pure []))) (kI 1000000007)) (nmG 5))
  (seqS (asgS (op2 modV (opN intV (consA (op2 mulV (op2 modV (opN intV (consA (op2 mulV (vr 5) (vr 5)) (M.pure []))) (kI 998244353)) (kI 30011)) (M.pure []))) (kI 998244353)) (nmG 6))
  (seqS (retS (op2 modV (opN intV (consA (op2 fdivV (vr 6) (kI 7)) (M.pure []))) (vr 1)))
  (M.pure .nx))))))
noncomputable def fs__law_take : Fs := ⟨[true, false], fun as => endOf [0] (m__law_take (startD 7 as))⟩
/-! ### _law_some(bag, things); slots: bag, things -/
abbrev s__law_some : Stmt := top 18
noncomputable def m__law_some : SS :=
  (seqS (retS (op2 idxV (vr 1) (callS fs__law_take (consA (vr 0) (consA (opN lenV (consA (vr 1) (M.pure []))) (M.pure []))))))
  (M.pure .nx))
noncomputable def fs__law_some : Fs := ⟨[true, false], fun as => endOf [0] (m__law_some (startD 2 as))⟩
/-! ### _law_alike(found, due); slots: found, due, pairs, at, one, other -/
abbrev s__law_alike : Stmt := top 19
noncomputable def m__law_alike : SS :=
  (seqS (parS 2 3 (consA (lstS (consA (tupS (consA (vr 0) (consA (vr 1) (M.pure [])))) (M.pure []))) (consA (kI 0) (M.pure []))))
  (seqS (whileS (asT (op2 ltV (vr 3) (opN lenV (consA (vr 2) (M.pure [])))))
  (seqS (asgS (op2 idxV (vr 2) (vr 3)) (tupG 2 (consG (nmG 4) (consG (nmG 5) nilG))))
  (seqS (augS 3 addI (kI 1))
  (seqS (ifS (orT (asT (op2 neV (op1 (isiV ["bool"]) (vr 4)) (op1 (isiV ["bool"]) (vr 5)))) (asT (op2 neV (op1 (isiV ["str"]) (vr 4)) (op1 (isiV ["str"]) (vr 5)))))
  (seqS (retS (kB false))
  (M.pure .nx))
  (M.pure .nx))
  (seqS (ifS (asT (op2 neV (op1 (isiV ["tuple", "list"]) (vr 4)) (op1 (isiV ["tuple", "list"]) (vr 5))))
  (seqS (retS (kB false))
  (M.pure .nx))
  (M.pure .nx))
  (seqS (ifS (asT (op1 (isiV ["tuple", "list"]) (vr 4)))
  (seqS (ifS (orT (asT (op2 neV (op1 (isiV ["tuple"]) (vr 4)) (op1 (isiV ["tuple"]) (vr 5)))) (asT (op2 neV (opN lenV (consA (vr 4) (M.pure []))) (opN lenV (consA (vr 5) (M.pure []))))))
  (seqS (retS (kB false))
  (M.pure .nx))
  (M.pure .nx))
  (seqS (dropS (extS 2 (opN lzV (consA (vr 4) (consA (vr 5) (M.pure []))))))
  (M.pure .nx)))
  (seqS (ifS (asT (op2 neV (vr 4) (vr 5)))
  (seqS (retS (kB false))
  (M.pure .nx))
  (M.pure .nx))
  (M.pure .nx)))
  (M.pure .nx)))))))
  (seqS (retS (kB true))
  (M.pure .nx))))
noncomputable def fs__law_alike : Fs := ⟨[false, false], fun as => endOf [] (m__law_alike (startD 6 as))⟩
/-! ### _law_integer(number); slots: number, found -/
abbrev s__law_integer : Stmt := top 20
noncomputable def m__law_integer : SS :=
  (seqS (asgS (lstS (M.pure [])) (nmG 1))
  (seqS (whileS (asT (op2 gtV (vr 0) (kI 127)))
  (seqS (dropS (appS 1 (op2 addV (kI 128) (op2 modV (opN intV (consA (vr 0) (M.pure []))) (kI 128)))))
  (seqS (asgS (op2 fdivV (opN intV (consA (vr 0) (M.pure []))) (kI 128)) (nmG 0))
  (M.pure .nx))))
  (seqS (retS (opN tupleV (consA (op2 addV (vr 1) (lstS (consA (vr 0) (M.pure [])))) (M.pure []))))
  (M.pure .nx))))
noncomputable def fs__law_integer : Fs := ⟨[false], fun as => endOf [] (m__law_integer (startD 2 as))⟩
/-! ### _law_check(octets); slots: octets, found, octet -/
abbrev s__law_check : Stmt := top 21
noncomputable def m__law_check : SS :=
  (seqS (asgS (kI 1) (nmG 1))
  (seqS (forS (tupI (vr 0)) (nmG 2)
  (seqS (asgS (op2 modV (opN intV (consA (op2 addV (op2 addV (op2 mulV (vr 1) (kI 257)) (vr 2)) (kI 1)) (M.pure []))) (kI 4294967291)) (nmG 1))
  (M.pure .nx)))
  (seqS (retS (vr 1))
  (M.pure .nx))))
noncomputable def fs__law_check : Fs := ⟨[false], fun as => endOf [] (m__law_check (startD 3 as))⟩
/-! ### _law_sealed(octets); slots: octets, check, found, place -/
abbrev s__law_sealed : Stmt := top 22
noncomputable def m__law_sealed : SS :=
  (seqS (parS 1 2 (consA (callS fs__law_check (consA (vr 0) (M.pure []))) (consA (lstS (M.pure [])) (M.pure []))))
  (seqS (forS (rg1I (kI 4)) (nmG 3)
  (seqS (dropS (appS 2 (op2 modV (opN intV (consA (vr 1) (M.pure []))) (kI 256))))
  (seqS (asgS (op2 fdivV (opN intV (consA (vr 1) (M.pure []))) (kI 256)) (nmG 1))
  (M.pure .nx))))
  (seqS (retS (op2 addV (opN tupleV (consA (vr 0) (M.pure []))) (opN tupleV (consA (op1 revV (vr 2)) (M.pure [])))))
  (M.pure .nx))))
noncomputable def fs__law_sealed : Fs := ⟨[false], fun as => endOf [] (m__law_sealed (startD 4 as))⟩
/-! ### law(script); slots: script, bag, turn, number, octets, ahead, told, row, whole, at, bent, place, one -/
abbrev s_law : Stmt := top 24
noncomputable def m_law : SS :=
  (seqS (asgS (callS fs__law_bag (consA (vr 0) (M.pure []))) (nmG 1))
  (seqS (forS (rg1I (kI 10)) (nmG 2)
  (seqS (asgS (callS fs__law_some (consA (vr 1) (consA (lstS (consA (callS fs__law_take (consA (vr 1) (consA (kI 200) (M.pure [])))) (consA (callS fs__law_take (consA (vr 1) (consA (op2 powV (kI 10) (kI 9)) (M.pure [])))) (consA (kI 128) (consA (kI 16384) (consA (op2 addV (op2 powV (kI 10) (kI 60)) (callS fs__law_take (consA (vr 1) (consA (op2 powV (kI 10) (kI 9)) (M.pure []))))) (M.pure []))))))) (M.pure [])))) (nmG 3))
  (seqS (asgS (callS fs__law_integer (consA (vr 3) (M.pure []))) (nmG 4))
  (seqS (asgS (opN tupleV (consA (lcS [12] (rg1I (callS fs__law_take (consA (vr 1) (consA (kI 4) (M.pure []))))) (nmG 12) (M.pure true) (callS fs__law_take (consA (vr 1) (consA (kI 256) (M.pure []))))) (M.pure []))) (nmG 5))
  (seqS (asgS (fzS (lstS (consA (callS fs_integer_octets (consA (vr 3) (M.pure []))) (consA (callS fs_read_integer (consA (op2 addV (op2 addV (vr 5) (vr 4)) (tupS (consA (kI 5) (M.pure [])))) (consA (opN lenV (consA (vr 5) (M.pure []))) (M.pure [])))) (M.pure []))))) (nmG 6))
  (seqS (ifS (notT (asT (callS fs__law_alike (consA (vr 6) (consA (fzS (lstS (consA (vr 4) (consA (tupS (consA (vr 3) (consA (op2 addV (opN lenV (consA (vr 5) (M.pure []))) (opN lenV (consA (vr 4) (M.pure [])))) (M.pure [])))) (M.pure []))))) (M.pure []))))))
  (seqS (retS (kB false))
  (M.pure .nx))
  (M.pure .nx))
  (seqS (ifS (asT (op2 neV (toldS "BadBytes" "told" "bytes" "index" "fault" (callS fs_read_integer (consA (op2 addV (vr 5) (slS (vr 4) noP (asI (op1 negV (kI 1))))) (consA (opN lenV (consA (vr 5) (M.pure []))) (M.pure []))))) (tupS (consA (kS "bytes") (consA (opN lenV (consA (vr 5) (M.pure []))) (consA (kS "integer") (M.pure [])))))))
  (seqS (retS (kB false))
  (M.pure .nx))
  (M.pure .nx))
  (seqS (ifS (asT (op2 neV (toldS "BadBytes" "told" "bytes" "index" "fault" (callS fs_read_integer (consA (tupS (consA (kI 128) (consA (kI 0) (M.pure [])))) (consA (kI 0) (M.pure []))))) (tupS (consA (kS "bytes") (consA (kI 0) (consA (kS "integer") (M.pure [])))))))
  (seqS (retS (kB false))
  (M.pure .nx))
  (M.pure .nx))
  (seqS (asgS (opN tupleV (consA (lcS [12] (rg1I (callS fs__law_take (consA (vr 1) (consA (kI 12) (M.pure []))))) (nmG 12) (M.pure true) (callS fs__law_take (consA (vr 1) (consA (kI 256) (M.pure []))))) (M.pure []))) (nmG 7))
  (seqS (asgS (callS fs__law_sealed (consA (vr 7) (M.pure []))) (nmG 8))
  (seqS (ifS (notT (asT (callS fs__law_alike (consA (fzS (lstS (consA (callS fs_check_of (consA (vr 7) (M.pure []))) (consA (callS fs_sealed (consA (vr 7) (M.pure []))) (consA (callS fs_is_sealed (consA (vr 8) (M.pure []))) (M.pure [])))))) (consA (fzS (lstS (consA (callS fs__law_check (consA (vr 7) (M.pure []))) (consA (vr 8) (consA (kB true) (M.pure [])))))) (M.pure []))))))
  (seqS (retS (kB false))
  (M.pure .nx))
  (M.pure .nx))
  (seqS (asgS (callS fs__law_take (consA (vr 1) (consA (opN lenV (consA (vr 8) (M.pure []))) (M.pure [])))) (nmG 9))
  (seqS (asgS (opN listV (consA (vr 8) (M.pure []))) (nmG 10))
  (seqS (forS (rg2I (consA (vr 9) (consA (opN minV (consA (opN lenV (consA (vr 8) (M.pure []))) (consA (op2 addV (op2 addV (vr 9) (kI 1)) (callS fs__law_take (consA (vr 1) (consA (kI 3) (M.pure []))))) (M.pure [])))) (M.pure [])))) (nmG 11)
  (seqS (asgS (callS fs__law_take (consA (vr 1) (consA (kI 256) (M.pure [])))) (ixG 10 (vr 11)))
  (M.pure .nx)))
  (seqS (ifS (asT (op2 neV (callS fs_is_sealed (consA (opN tupleV (consA (vr 10) (M.pure []))) (M.pure []))) (op2 eqV (opN tupleV (consA (vr 10) (M.pure []))) (vr 8))))
  (seqS (retS (kB false))
  (M.pure .nx))
  (M.pure .nx))
  (M.pure .nx))))))))))))))))
  (seqS (retS (kB true))
  (M.pure .nx))))
noncomputable def fs_law : Fs := ⟨[false], fun as => endOf [] (m_law (startD 13 as))⟩
end
theorem sc_integer_octets : FnScope ["number", "found"] ["number"] (defScope s_integer_octets) := ⟨rfl, rfl, rfl, by decide +kernel, rfl, by decide +kernel, by decide +kernel⟩
theorem sc_read_integer : FnScope ["octets", "place", "at", "bits", "octet"] ["octets", "place"] (defScope s_read_integer) := ⟨rfl, rfl, rfl, by decide +kernel, rfl, by decide +kernel, by decide +kernel⟩
theorem sc_check_of : FnScope ["octets", "found", "octet"] ["octets"] (defScope s_check_of) := ⟨rfl, rfl, rfl, by decide +kernel, rfl, by decide +kernel, by decide +kernel⟩
theorem sc_sealed : FnScope ["octets", "check"] ["octets"] (defScope s_sealed) := ⟨rfl, rfl, rfl, by decide +kernel, rfl, by decide +kernel, by decide +kernel⟩
theorem sc_is_sealed : FnScope ["octets"] ["octets"] (defScope s_is_sealed) := ⟨rfl, rfl, rfl, by decide +kernel, rfl, by decide +kernel, by decide +kernel⟩
theorem sc__law_bag : FnScope ["script", "cell"] ["script"] (defScope s__law_bag) := ⟨rfl, rfl, rfl, by decide +kernel, rfl, by decide +kernel, by decide +kernel⟩
theorem sc__law_take : FnScope ["bag", "many", "cell", "stirred", "value", "begin", "second"] ["bag", "many"] (defScope s__law_take) := ⟨rfl, rfl, rfl, by decide +kernel, rfl, by decide +kernel, by decide +kernel⟩
theorem sc__law_some : FnScope ["bag", "things"] ["bag", "things"] (defScope s__law_some) := ⟨rfl, rfl, rfl, by decide +kernel, rfl, by decide +kernel, by decide +kernel⟩
theorem sc__law_alike : FnScope ["found", "due", "pairs", "at", "one", "other"] ["found", "due"] (defScope s__law_alike) := ⟨rfl, rfl, rfl, by decide +kernel, rfl, by decide +kernel, by decide +kernel⟩
theorem sc__law_integer : FnScope ["number", "found"] ["number"] (defScope s__law_integer) := ⟨rfl, rfl, rfl, by decide +kernel, rfl, by decide +kernel, by decide +kernel⟩
theorem sc__law_check : FnScope ["octets", "found", "octet"] ["octets"] (defScope s__law_check) := ⟨rfl, rfl, rfl, by decide +kernel, rfl, by decide +kernel, by decide +kernel⟩
theorem sc__law_sealed : FnScope ["octets", "check", "found", "place"] ["octets"] (defScope s__law_sealed) := ⟨rfl, rfl, rfl, by decide +kernel, rfl, by decide +kernel, by decide +kernel⟩
theorem sc_law : FnScope ["script", "bag", "turn", "number", "octets", "ahead", "told", "row", "whole", "at", "bent", "place", "one"] ["script"] (defScope s_law) := ⟨rfl, rfl, rfl, by decide +kernel, rfl, by decide +kernel, by decide +kernel⟩
section
variable [Tbs] {P : Program} {w : World} {K : PySem.W.Frag} {mg : Str → Option Value} {base : Heap}
theorem ap_BadBytes : PySem.NvX.apart2 "index" "fault" = true := by decide +kernel
theorem nn_BadBytes : PySem.NvX.Names2 "index" "fault" := ⟨fun _ _ _ _ _ _ _ _ _ _ _ _ _ _ => rfl⟩
theorem b_integer_octets (G : Gs mg) (cdv : Value) (f : Addr) (A : Around) (outer : List Env) (s : Shared) (H : Hp) (E : XK) (hr : Room 0 (A.deeper (envOfC "integer_octets" (defScope s_integer_octets) s.heap.objs.size f cdv))) :
    DSs (cxOf (L2.CX P w) P w K mg base ["number", "found"] "integer_octets" (defScope s_integer_octets) f cdv A outer s H E) [] (defBody s_integer_octets) m_integer_octets := by
  obtain ⟨t_GROUP, c_GROUP⟩ := G.GROUP
  obtain ⟨t_HALF, c_HALF⟩ := G.HALF
  exact (dss_cons (ds_asg (de_lst da_nil) (dg_name (i := 1) sc_integer_octets.nd rfl (by first | exact Or.inl rfl | exact Or.inr rfl) (by decide)))
  (dss_cons (ds_while (dt_cmp ge_ok (dv 0) (de_gint rfl c_HALF) (nomark _))
  (dss_cons (ds_expr (de_append (i := 1) rfl (by first | exact Or.inl rfl | exact Or.inr (Or.inl rfl)) (de_bin add_ok (de_gint rfl c_HALF) (de_bin and_ok (dv 0) (de_bin sub_ok (de_gint rfl c_HALF) de_int)))))
  (dss_cons (ds_aug (i := 0) sc_integer_octets.nd rfl (by first | exact Or.inl rfl | exact Or.inr rfl) (by decide) (de_gint rfl c_GROUP) ishr_ok)
  dss_nil)))
  (dss_cons (ds_ret (de_tup (da_star (dv 1) (da_cons (dv 0) da_nil))))
  dss_nil)))
theorem fd_integer_octets {f : Addr} {fd : FuncData} (F : Fun K "integer_octets" "integer_octets" s_integer_octets f fd) (hm : mg "integer_octets" = some (.ref f)) (G : Gs mg) : Fd P w K mg base 1 "integer_octets" fs_integer_octets :=
  ⟨f, fd, ["number"], fn_ok F sc_integer_octets fs_integer_octets m_integer_octets rfl (fun cdv A outer s H E hr => b_integer_octets G cdv f A outer s H E hr) (fun as r hl h => h), hm, F.kp, F.binds fun _ _ _ _ _ _ us hl => match us, hl with | [_], _ => rfl⟩
theorem b_read_integer (G : Gs mg) {C_BadBytes fI_BadBytes cc_BadBytes cda_BadBytes : Addr} (t_BadBytes : PySem.NvX.ExcTxt2 P K mg "BadBytes" "BadBytes.__init__" "index" "fault" C_BadBytes fI_BadBytes cc_BadBytes cda_BadBytes) (cdv : Value) (f : Addr) (A : Around) (outer : List Env) (s : Shared) (H : Hp) (E : XK) (hr : Room 1 (A.deeper (envOfC "read_integer" (defScope s_read_integer) s.heap.objs.size f cdv))) :
    DSs (cxOf (L2.CX P w) P w K mg base ["octets", "place", "at", "bits", "octet"] "read_integer" (defScope s_read_integer) f cdv A outer s H E) [] (defBody s_read_integer) m_read_integer := by
  obtain ⟨t_HALF, c_HALF⟩ := G.HALF
  have n_int := G.n_int
  have n_len := G.n_len
  exact (dss_cons (ds_asg (dv 1) (dg_name (i := 2) sc_read_integer.nd rfl (by first | exact Or.inl rfl | exact Or.inr rfl) (by decide)))
  (dss_cons (ds_while (DW.dt (dw_and (dt_cmp lt_ok (dv 2) (de_callB len_ok rfl n_len bt_len (da_cons (dv 0) da_nil)) (nomark _)) (dw_and1 (dt_cmp ge_ok (de_ix (dv 0) (dv 2) (fun _ _ => rfl)) (de_gint rfl c_HALF) (nomark _)))))
  (dss_cons (ds_aug (i := 2) sc_read_integer.nd rfl (by first | exact Or.inl rfl | exact Or.inr rfl) (by decide) de_int iaddI_ok)
  dss_nil))
  (dss_cons (ds_if (DW.dt (dw_or (dt_cmp (eq_ok (Room.units hr)) (dv 2) (de_callB len_ok rfl n_len bt_len (da_cons (dv 0) da_nil)) (nomark _)) (dw_or1 (DW.dt (dw_and (dt_cmp (eq_ok (Room.units hr)) (de_ix (dv 0) (dv 2) (fun _ _ => rfl)) de_int (nomark _)) (dw_and1 (dt_cmp gt_ok (dv 2) (dv 1) (nomark _))))))))
  (dss_cons (ds_raise2 t_BadBytes ap_BadBytes nn_BadBytes hr (by decide) (da_cons (dv 1) (da_cons de_str da_nil)) rfl)
  dss_nil)
  dss_nil)
  (dss_cons (ds_asg (de_join de_str (de_lc (own := [("octet", 4)]) sc_read_integer.nd (di_tup (de_rev (de_slice (dv 0) (do_some (dv 1)) (do_some (de_bin add_ok (dv 2) de_int))))) (show BlkOk (["octets", "place", "at", "bits", "octet"] : List Str) (defScope s_read_integer) _ [("octet", 4)] from ⟨rfl, by decide +kernel, by decide +kernel, by decide +kernel, by decide +kernel⟩) (fun _ _ _ _ _ => (dg_name (i := 4) sc_read_integer.nd rfl (by first | exact Or.inl rfl | exact Or.inr rfl) (by decide))) (fun _ _ _ _ _ => dts_nil) (fun _ _ _ _ _ => (de_fmt07 (de_bin and_ok (dv 4) (de_bin sub_ok (de_gint rfl c_HALF) de_int)))) (by decide))) (dg_name (i := 3) sc_read_integer.nd rfl (by first | exact Or.inl rfl | exact Or.inr rfl) (by decide)))
  (dss_cons (ds_ret (de_tup (da_cons (de_callTy intB_ok rfl n_int bt_int (da_cons (dv 3) (da_cons de_int da_nil))) (da_cons (de_bin add_ok (dv 2) de_int) da_nil))))
  dss_nil)))))
theorem fd_read_integer {f : Addr} {fd : FuncData} (F : Fun K "read_integer" "read_integer" s_read_integer f fd) (hm : mg "read_integer" = some (.ref f)) (G : Gs mg) {C_BadBytes fI_BadBytes cc_BadBytes cda_BadBytes : Addr} (t_BadBytes : PySem.NvX.ExcTxt2 P K mg "BadBytes" "BadBytes.__init__" "index" "fault" C_BadBytes fI_BadBytes cc_BadBytes cda_BadBytes) : Fd P w K mg base 2 "read_integer" fs_read_integer :=
  ⟨f, fd, ["octets", "place"], fn_ok F sc_read_integer fs_read_integer m_read_integer rfl (fun cdv A outer s H E hr => b_read_integer G t_BadBytes cdv f A outer s H E hr) (fun as r hl h => h), hm, F.kp, F.binds fun _ _ _ _ _ _ us hl => match us, hl with | [_, _], _ => rfl⟩
theorem b_check_of (G : Gs mg) (cdv : Value) (f : Addr) (A : Around) (outer : List Env) (s : Shared) (H : Hp) (E : XK) (hr : Room 0 (A.deeper (envOfC "check_of" (defScope s_check_of) s.heap.objs.size f cdv))) :
    DSs (cxOf (L2.CX P w) P w K mg base ["octets", "found", "octet"] "check_of" (defScope s_check_of) f cdv A outer s H E) [] (defBody s_check_of) m_check_of := by
  obtain ⟨t_MODULUS, c_MODULUS⟩ := G.MODULUS
  obtain ⟨t_FACTOR, c_FACTOR⟩ := G.FACTOR
  exact (dss_cons (ds_asg de_int (dg_name (i := 1) sc_check_of.nd rfl (by first | exact Or.inl rfl | exact Or.inr rfl) (by decide)))
  (dss_cons (ds_for (di_tup (dv 0)) (dg_name (i := 2) sc_check_of.nd rfl (by first | exact Or.inl rfl | exact Or.inr rfl) (by decide))
  (dss_cons (ds_asg (de_bin mod_ok (de_bin add_ok (de_bin add_ok (de_bin mul_ok (dv 1) (de_gint rfl c_FACTOR)) (dv 2)) de_int) (de_gint rfl c_MODULUS)) (dg_name (i := 1) sc_check_of.nd rfl (by first | exact Or.inl rfl | exact Or.inr rfl) (by decide)))
  dss_nil))
  (dss_cons (ds_ret (dv 1))
  dss_nil)))
theorem fd_check_of {f : Addr} {fd : FuncData} (F : Fun K "check_of" "check_of" s_check_of f fd) (hm : mg "check_of" = some (.ref f)) (G : Gs mg) : Fd P w K mg base 1 "check_of" fs_check_of :=
  ⟨f, fd, ["octets"], fn_ok F sc_check_of fs_check_of m_check_of rfl (fun cdv A outer s H E hr => b_check_of G cdv f A outer s H E hr) (fun as r hl h => h), hm, F.kp, F.binds fun _ _ _ _ _ _ us hl => match us, hl with | [_], _ => rfl⟩
theorem b_sealed (G : Gs mg) (h_check_of : Fd P w K mg base 1 "check_of" fs_check_of) (cdv : Value) (f : Addr) (A : Around) (outer : List Env) (s : Shared) (H : Hp) (E : XK) (hr : Room 1 (A.deeper (envOfC "sealed" (defScope s_sealed) s.heap.objs.size f cdv))) :
    DSs (cxOf (L2.CX P w) P w K mg base ["octets", "check"] "sealed" (defScope s_sealed) f cdv A outer s H E) [] (defBody s_sealed) m_sealed := by
  exact (dss_cons (ds_asg (de_call (k := 1) (F := fs_check_of) ⟨h_check_of⟩ (hr.mono (by decide)) rfl (da_cons (dv 0) da_nil)) (dg_name (i := 1) sc_sealed.nd rfl (by first | exact Or.inl rfl | exact Or.inr rfl) (by decide)))
  (dss_cons (ds_ret (de_tup (da_star (dv 0) (da_cons (de_bin shr_ok (dv 1) de_int) (da_cons (de_bin and_ok (de_bin shr_ok (dv 1) de_int) de_int) (da_cons (de_bin and_ok (de_bin shr_ok (dv 1) de_int) de_int) (da_cons (de_bin and_ok (dv 1) de_int) da_nil)))))))
  dss_nil))
theorem fd_sealed {f : Addr} {fd : FuncData} (F : Fun K "sealed" "sealed" s_sealed f fd) (hm : mg "sealed" = some (.ref f)) (G : Gs mg) (h_check_of : Fd P w K mg base 1 "check_of" fs_check_of) : Fd P w K mg base 2 "sealed" fs_sealed :=
  ⟨f, fd, ["octets"], fn_ok F sc_sealed fs_sealed m_sealed rfl (fun cdv A outer s H E hr => b_sealed G h_check_of cdv f A outer s H E hr) (fun as r hl h => h), hm, F.kp, F.binds fun _ _ _ _ _ _ us hl => match us, hl with | [_], _ => rfl⟩
theorem b_is_sealed (G : Gs mg) (h_sealed : Fd P w K mg base 2 "sealed" fs_sealed) (cdv : Value) (f : Addr) (A : Around) (outer : List Env) (s : Shared) (H : Hp) (E : XK) (hr : Room 2 (A.deeper (envOfC "is_sealed" (defScope s_is_sealed) s.heap.objs.size f cdv))) :
    DSs (cxOf (L2.CX P w) P w K mg base ["octets"] "is_sealed" (defScope s_is_sealed) f cdv A outer s H E) [] (defBody s_is_sealed) m_is_sealed := by
  obtain ⟨t_CHECK, c_CHECK⟩ := G.CHECK
  have n_len := G.n_len
  have n_tuple := G.n_tuple
  exact (dss_cons (ds_ret (de_and (de_cmp ge_ok (de_callB len_ok rfl n_len bt_len (da_cons (dv 0) da_nil)) (de_gint rfl c_CHECK) (nomark _)) (de_one (de_cmp (eq_ok (Room.units hr)) (de_call (k := 2) (F := fs_sealed) ⟨h_sealed⟩ (hr.mono (by decide)) rfl (da_cons (de_slice (dv 0) do_none (do_some (de_bin sub_ok (de_callB len_ok rfl n_len bt_len (da_cons (dv 0) da_nil)) (de_gint rfl c_CHECK)))) da_nil)) (de_callTy tuple_ok rfl n_tuple bt_tuple (da_cons (dv 0) da_nil)) (nomark _)))))
  dss_nil)
theorem fd_is_sealed {f : Addr} {fd : FuncData} (F : Fun K "is_sealed" "is_sealed" s_is_sealed f fd) (hm : mg "is_sealed" = some (.ref f)) (G : Gs mg) (h_sealed : Fd P w K mg base 2 "sealed" fs_sealed) : Fd P w K mg base 3 "is_sealed" fs_is_sealed :=
  ⟨f, fd, ["octets"], fn_ok F sc_is_sealed fs_is_sealed m_is_sealed rfl (fun cdv A outer s H E hr => b_is_sealed G h_sealed cdv f A outer s H E hr) (fun as r hl h => h), hm, F.kp, F.binds fun _ _ _ _ _ _ us hl => match us, hl with | [_], _ => rfl⟩
theorem b__law_bag (G : Gs mg) (cdv : Value) (f : Addr) (A : Around) (outer : List Env) (s : Shared) (H : Hp) (E : XK) (hr : Room 0 (A.deeper (envOfC "_law_bag" (defScope s__law_bag) s.heap.objs.size f cdv))) :
    DSs (cxOf (L2.CX P w) P w K mg base ["script", "cell"] "_law_bag" (defScope s__law_bag) f cdv A outer s H E) [] (defBody s__law_bag) m__law_bag := by
  have n_abs := G.n_abs
  exact (dss_cons (ds_ret (de_lst (da_cons de_int (da_cons de_int (da_cons de_int (da_cons (de_fz (de_lc (own := [("cell", 1)]) sc__law_bag.nd (di_list (de_slice (dv 0) do_none (do_some de_int))) (show BlkOk (["script", "cell"] : List Str) (defScope s__law_bag) _ [("cell", 1)] from ⟨rfl, by decide +kernel, by decide +kernel, by decide +kernel, by decide +kernel⟩) (fun _ _ _ _ _ => (dg_name (i := 1) sc__law_bag.nd rfl (by first | exact Or.inl rfl | exact Or.inr rfl) (by decide))) (fun _ _ _ _ _ => dts_nil) (fun _ _ _ _ _ => (de_callB abs_ok rfl n_abs bt_abs (da_cons (dv 1) da_nil))) (by decide))) da_nil))))))
  dss_nil)
theorem fd__law_bag {f : Addr} {fd : FuncData} (F : Fun K "_law_bag" "_law_bag" s__law_bag f fd) (hm : mg "_law_bag" = some (.ref f)) (G : Gs mg) : Fd P w K mg base 1 "_law_bag" fs__law_bag :=
  ⟨f, fd, ["script"], fn_ok F sc__law_bag fs__law_bag m__law_bag rfl (fun cdv A outer s H E hr => b__law_bag G cdv f A outer s H E hr) (fun as r hl h => h), hm, F.kp, F.binds fun _ _ _ _ _ _ us hl => match us, hl with | [_], _ => rfl⟩
theorem b__law_take (G : Gs mg) (cdv : Value) (f : Addr) (A : Around) (outer : List Env) (s : Shared) (H : Hp) (E : XK) (hr : Room 0 (A.deeper (envOfC "_law_take" (defScope s__law_take) s.heap.objs.size f cdv))) :
    DSs (cxOf (L2.CX P w) P w K mg base ["bag", "many", "cell", "stirred", "value", "begin", "second"] "_law_take" (defScope s__law_take) f cdv A outer s H E) [0] (defBody s__law_take) m__law_take := by
  have n_int := G.n_int
  exact (dss_cons (ds_if (dt_cmp (eq_ok (Room.units hr)) (de_ix (dv 0) de_int (fun _ _ => rfl)) de_int (nomark _))
  (dss_cons (ds_asg (de_ix (de_bin add_ok (de_slice (de_ix (dv 0) de_int (fun _ _ => rfl)) (do_some (de_ix (dv 0) de_int (fun _ _ => rfl))) do_none) (de_lst (da_cons de_int da_nil))) de_int (fun _ _ => rfl)) (dg_name (i := 2) sc__law_take.nd rfl (by first | exact Or.inl rfl | exact Or.inr rfl) (by decide)))
  (dss_cons (ds_augIx (i := 0) rfl (by first | exact Or.inl rfl | exact Or.inr (Or.inl rfl)) de_int iaddI_ok)
  (dss_cons (ds_if (dt_cmp ge_ok (dv 2) (de_bin pow_ok de_int de_int) (nomark _))
  (dss_cons (ds_asg (dv 2) (dg_ix (i := 0) rfl (by first | exact Or.inl rfl | exact Or.inr (Or.inl rfl)) de_int))
  dss_nil)
  dss_nil)
  (dss_cons (ds_asg (de_bin add_ok (de_bin add_ok (de_bin mul_ok (de_ix (dv 0) de_int (fun _ _ => rfl)) de_int) (de_bin mod_ok (de_callTy int_ok rfl n_int bt_int (da_cons (dv 2) da_nil)) de_int)) (de_bin mul_ok de_int (de_ix (dv 0) de_int (fun _ _ => rfl)))) (dg_name (i := 3) sc__law_take.nd rfl (by first | exact Or.inl rfl | exact Or.inr rfl) (by decide)))
  (dss_cons (ds_asg (de_bin mod_ok (de_callTy int_ok rfl n_int bt_int (da_cons (dv 3) da_nil)) de_int) (dg_ix (i := 0) rfl (by first | exact Or.inl rfl | exact Or.inr (Or.inl rfl)) de_int))
  dss_nil)))))
  dss_nil)
  (dss_cons (ds_if (dt_cmp gt_ok (de_ix (dv 0) de_int (fun _ _ => rfl)) de_int (nomark _))
  (dss_cons (ds_asg (de_bin mod_ok (de_callTy int_ok rfl n_int bt_int (da_cons (de_ix (dv 0) de_int (fun _ _ => rfl)) da_nil)) (dv 1)) (dg_name (i := 4) sc__law_take.nd rfl (by first | exact Or.inl rfl | exact Or.inr rfl) (by decide)))
  (dss_cons (ds_asg (de_bin fdiv_ok (de_callTy int_ok rfl n_int bt_int (da_cons (de_ix (dv 0) de_int (fun _ _ => rfl)) da_nil)) (dv 1)) (dg_ix (i := 0) rfl (by first | exact Or.inl rfl | exact Or.inr (Or.inl rfl)) de_int))
  (dss_cons (ds_ret (dv 4))
  dss_nil)))
  dss_nil)
  (dss_cons (ds_asg (de_bin mod_ok (de_callTy int_ok rfl n_int bt_int (da_cons (de_bin mul_ok (de_bin add_ok (de_ix (dv 0) de_int (fun _ _ => rfl)) de_int) de_int) da_nil)) de_int) (dg_name (i := 5) sc__law_take.nd rfl (by first | exact Or.inl rfl | exact Or.inr rfl) (by decide)))
  (dss_cons (ds_asg (de_bin mod_ok (de_callTy int_ok rfl n_int bt_int (da_cons (de_bin mul_ok (de_bin mod_ok (de_callTy int_ok rfl n_int bt_int (da_cons (de_bin mul_ok (dv 5) (dv 5)) da_nil)) de_int) de_int) da_nil)) de_int) (dg_name (i := 6) sc__law_take.nd rfl (by first | exact Or.inl rfl | exact Or.inr rfl) (by decide)))
  (dss_cons (ds_ret (de_bin mod_ok (de_callTy int_ok rfl n_int bt_int (da_cons (de_bin fdiv_ok (dv 6) de_int) da_nil)) (dv 1)))
  dss_nil)))))
theorem fd__law_take {f : Addr} {fd : FuncData} (F : Fun K "_law_take" "_law_take" s__law_take f fd) (hm : mg "_law_take" = some (.ref f)) (G : Gs mg) : Fd P w K mg base 1 "_law_take" fs__law_take :=
  ⟨f, fd, ["bag", "many"], fn_ok F sc__law_take fs__law_take m__law_take rfl (fun cdv A outer s H E hr => b__law_take G cdv f A outer s H E hr) (fun as r hl h => h), hm, F.kp, F.binds fun _ _ _ _ _ _ us hl => match us, hl with | [_, _], _ => rfl⟩
theorem b__law_some (G : Gs mg) (h__law_take : Fd P w K mg base 1 "_law_take" fs__law_take) (cdv : Value) (f : Addr) (A : Around) (outer : List Env) (s : Shared) (H : Hp) (E : XK) (hr : Room 1 (A.deeper (envOfC "_law_some" (defScope s__law_some) s.heap.objs.size f cdv))) :
    DSs (cxOf (L2.CX P w) P w K mg base ["bag", "things"] "_law_some" (defScope s__law_some) f cdv A outer s H E) [0] (defBody s__law_some) m__law_some := by
  have n_len := G.n_len
  exact (dss_cons (ds_ret (de_ix (dv 1) (de_call (k := 1) (F := fs__law_take) ⟨h__law_take⟩ (hr.mono (by decide)) rfl (da_cons (dv 0) (da_cons (de_callB len_ok rfl n_len bt_len (da_cons (dv 1) da_nil)) da_nil))) (fun _ _ => rfl)))
  dss_nil)
theorem fd__law_some {f : Addr} {fd : FuncData} (F : Fun K "_law_some" "_law_some" s__law_some f fd) (hm : mg "_law_some" = some (.ref f)) (G : Gs mg) (h__law_take : Fd P w K mg base 1 "_law_take" fs__law_take) : Fd P w K mg base 2 "_law_some" fs__law_some :=
  ⟨f, fd, ["bag", "things"], fn_ok F sc__law_some fs__law_some m__law_some rfl (fun cdv A outer s H E hr => b__law_some G h__law_take cdv f A outer s H E hr) (fun as r hl h => h), hm, F.kp, F.binds fun _ _ _ _ _ _ us hl => match us, hl with | [_, _], _ => rfl⟩
theorem b__law_alike (G : Gs mg) (cdv : Value) (f : Addr) (A : Around) (outer : List Env) (s : Shared) (H : Hp) (E : XK) (hr : Room 0 (A.deeper (envOfC "_law_alike" (defScope s__law_alike) s.heap.objs.size f cdv))) :
    DSs (cxOf (L2.CX P w) P w K mg base ["found", "due", "pairs", "at", "one", "other"] "_law_alike" (defScope s__law_alike) f cdv A outer s H E) [] (defBody s__law_alike) m__law_alike := by
  have n_bool := G.n_bool
  have n_isinstance := G.n_isinstance
  have n_len := G.n_len
  have n_list := G.n_list
  have n_str := G.n_str
  have n_tuple := G.n_tuple
  have n_zip := G.n_zip
  exact (dss_cons (ds_par (i := 2) (j := 3) sc__law_alike.nd rfl rfl (by decide) (by decide) (by decide) rfl rfl (da_cons (de_lst (da_cons (de_tup (da_cons (dv 0) (da_cons (dv 1) da_nil))) da_nil)) (da_cons de_int da_nil)) rfl)
  (dss_cons (ds_while (dt_cmp lt_ok (dv 3) (de_callB len_ok rfl n_len bt_len (da_cons (dv 2) da_nil)) (nomark _))
  (dss_cons (ds_asg (de_ix (dv 2) (dv 3) (fun _ _ => rfl)) (dg_tup (dgs_cons (dg_name (i := 4) sc__law_alike.nd rfl (by first | exact Or.inl rfl | exact Or.inr rfl) (by decide)) (dgs_cons (dg_name (i := 5) sc__law_alike.nd rfl (by first | exact Or.inl rfl | exact Or.inr rfl) (by decide)) dgs_nil))))
  (dss_cons (ds_aug (i := 3) sc__law_alike.nd rfl (by first | exact Or.inl rfl | exact Or.inr rfl) (by decide) de_int iaddI_ok)
  (dss_cons (ds_if (DW.dt (dw_or (dt_cmp (ne_ok (Room.units hr)) (de_isi (T := "bool") (dv 4) rfl n_isinstance rfl n_bool bt_bool (by decide)) (de_isi (T := "bool") (dv 5) rfl n_isinstance rfl n_bool bt_bool (by decide)) (nomark _)) (dw_or1 (dt_cmp (ne_ok (Room.units hr)) (de_isi (T := "str") (dv 4) rfl n_isinstance rfl n_str bt_str (by decide)) (de_isi (T := "str") (dv 5) rfl n_isinstance rfl n_str bt_str (by decide)) (nomark _)))))
  (dss_cons (ds_ret de_bl)
  dss_nil)
  dss_nil)
  (dss_cons (ds_if (dt_cmp (ne_ok (Room.units hr)) (de_isiT (Ts := ["tuple", "list"]) (dv 4) rfl n_isinstance (pa_cons (pe_bltn (v := V.ty "tuple") rfl n_tuple bt_tuple rfl) (pa_cons (pe_bltn (v := V.ty "list") rfl n_list bt_list rfl) pa_nil)) (fun _ _ _ h => h) (by decide) (by decide)) (de_isiT (Ts := ["tuple", "list"]) (dv 5) rfl n_isinstance (pa_cons (pe_bltn (v := V.ty "tuple") rfl n_tuple bt_tuple rfl) (pa_cons (pe_bltn (v := V.ty "list") rfl n_list bt_list rfl) pa_nil)) (fun _ _ _ h => h) (by decide) (by decide)) (nomark _))
  (dss_cons (ds_ret de_bl)
  dss_nil)
  dss_nil)
  (dss_cons (ds_if (dt_val (de_isiT (Ts := ["tuple", "list"]) (dv 4) rfl n_isinstance (pa_cons (pe_bltn (v := V.ty "tuple") rfl n_tuple bt_tuple rfl) (pa_cons (pe_bltn (v := V.ty "list") rfl n_list bt_list rfl) pa_nil)) (fun _ _ _ h => h) (by decide) (by decide)))
  (dss_cons (ds_if (DW.dt (dw_or (dt_cmp (ne_ok (Room.units hr)) (de_isi (T := "tuple") (dv 4) rfl n_isinstance rfl n_tuple bt_tuple (by decide)) (de_isi (T := "tuple") (dv 5) rfl n_isinstance rfl n_tuple bt_tuple (by decide)) (nomark _)) (dw_or1 (dt_cmp (ne_ok (Room.units hr)) (de_callB len_ok rfl n_len bt_len (da_cons (dv 4) da_nil)) (de_callB len_ok rfl n_len bt_len (da_cons (dv 5) da_nil)) (nomark _)))))
  (dss_cons (ds_ret de_bl)
  dss_nil)
  dss_nil)
  (dss_cons (ds_expr (de_extend (i := 2) rfl (by first | exact Or.inl rfl | exact Or.inr (Or.inl rfl)) (de_listZip (da_cons (dv 4) (da_cons (dv 5) da_nil)) rfl n_list rfl n_zip)))
  dss_nil))
  (dss_cons (ds_if (dt_cmp (ne_ok (Room.units hr)) (dv 4) (dv 5) (nomark _))
  (dss_cons (ds_ret de_bl)
  dss_nil)
  dss_nil)
  dss_nil))
  dss_nil))))))
  (dss_cons (ds_ret de_bl)
  dss_nil)))
theorem fd__law_alike {f : Addr} {fd : FuncData} (F : Fun K "_law_alike" "_law_alike" s__law_alike f fd) (hm : mg "_law_alike" = some (.ref f)) (G : Gs mg) : Fd P w K mg base 1 "_law_alike" fs__law_alike :=
  ⟨f, fd, ["found", "due"], fn_ok F sc__law_alike fs__law_alike m__law_alike rfl (fun cdv A outer s H E hr => b__law_alike G cdv f A outer s H E hr) (fun as r hl h => h), hm, F.kp, F.binds fun _ _ _ _ _ _ us hl => match us, hl with | [_, _], _ => rfl⟩
theorem b__law_integer (G : Gs mg) (cdv : Value) (f : Addr) (A : Around) (outer : List Env) (s : Shared) (H : Hp) (E : XK) (hr : Room 0 (A.deeper (envOfC "_law_integer" (defScope s__law_integer) s.heap.objs.size f cdv))) :
    DSs (cxOf (L2.CX P w) P w K mg base ["number", "found"] "_law_integer" (defScope s__law_integer) f cdv A outer s H E) [] (defBody s__law_integer) m__law_integer := by
  have n_int := G.n_int
  have n_tuple := G.n_tuple
  exact (dss_cons (ds_asg (de_lst da_nil) (dg_name (i := 1) sc__law_integer.nd rfl (by first | exact Or.inl rfl | exact Or.inr rfl) (by decide)))
  (dss_cons (ds_while (dt_cmp gt_ok (dv 0) de_int (nomark _))
  (dss_cons (ds_expr (de_append (i := 1) rfl (by first | exact Or.inl rfl | exact Or.inr (Or.inl rfl)) (de_bin add_ok de_int (de_bin mod_ok (de_callTy int_ok rfl n_int bt_int (da_cons (dv 0) da_nil)) de_int))))
  (dss_cons (ds_asg (de_bin fdiv_ok (de_callTy int_ok rfl n_int bt_int (da_cons (dv 0) da_nil)) de_int) (dg_name (i := 0) sc__law_integer.nd rfl (by first | exact Or.inl rfl | exact Or.inr rfl) (by decide)))
  dss_nil)))
  (dss_cons (ds_ret (de_callTy tuple_ok rfl n_tuple bt_tuple (da_cons (de_bin add_ok (dv 1) (de_lst (da_cons (dv 0) da_nil))) da_nil)))
  dss_nil)))
theorem fd__law_integer {f : Addr} {fd : FuncData} (F : Fun K "_law_integer" "_law_integer" s__law_integer f fd) (hm : mg "_law_integer" = some (.ref f)) (G : Gs mg) : Fd P w K mg base 1 "_law_integer" fs__law_integer :=
  ⟨f, fd, ["number"], fn_ok F sc__law_integer fs__law_integer m__law_integer rfl (fun cdv A outer s H E hr => b__law_integer G cdv f A outer s H E hr) (fun as r hl h => h), hm, F.kp, F.binds fun _ _ _ _ _ _ us hl => match us, hl with | [_], _ => rfl⟩
theorem b__law_check (G : Gs mg) (cdv : Value) (f : Addr) (A : Around) (outer : List Env) (s : Shared) (H : Hp) (E : XK) (hr : Room 0 (A.deeper (envOfC "_law_check" (defScope s__law_check) s.heap.objs.size f cdv))) :
    DSs (cxOf (L2.CX P w) P w K mg base ["octets", "found", "octet"] "_law_check" (defScope s__law_check) f cdv A outer s H E) [] (defBody s__law_check) m__law_check := by
  have n_int := G.n_int
  exact (dss_cons (ds_asg de_int (dg_name (i := 1) sc__law_check.nd rfl (by first | exact Or.inl rfl | exact Or.inr rfl) (by decide)))
  (dss_cons (ds_for (di_tup (dv 0)) (dg_name (i := 2) sc__law_check.nd rfl (by first | exact Or.inl rfl | exact Or.inr rfl) (by decide))
  (dss_cons (ds_asg (de_bin mod_ok (de_callTy int_ok rfl n_int bt_int (da_cons (de_bin add_ok (de_bin add_ok (de_bin mul_ok (dv 1) de_int) (dv 2)) de_int) da_nil)) de_int) (dg_name (i := 1) sc__law_check.nd rfl (by first | exact Or.inl rfl | exact Or.inr rfl) (by decide)))
  dss_nil))
  (dss_cons (ds_ret (dv 1))
  dss_nil)))
theorem fd__law_check {f : Addr} {fd : FuncData} (F : Fun K "_law_check" "_law_check" s__law_check f fd) (hm : mg "_law_check" = some (.ref f)) (G : Gs mg) : Fd P w K mg base 1 "_law_check" fs__law_check :=
  ⟨f, fd, ["octets"], fn_ok F sc__law_check fs__law_check m__law_check rfl (fun cdv A outer s H E hr => b__law_check G cdv f A outer s H E hr) (fun as r hl h => h), hm, F.kp, F.binds fun _ _ _ _ _ _ us hl => match us, hl with | [_], _ => rfl⟩
theorem b__law_sealed (G : Gs mg) (h__law_check : Fd P w K mg base 1 "_law_check" fs__law_check) (cdv : Value) (f : Addr) (A : Around) (outer : List Env) (s : Shared) (H : Hp) (E : XK) (hr : Room 1 (A.deeper (envOfC "_law_sealed" (defScope s__law_sealed) s.heap.objs.size f cdv))) :
    DSs (cxOf (L2.CX P w) P w K mg base ["octets", "check", "found", "place"] "_law_sealed" (defScope s__law_sealed) f cdv A outer s H E) [] (defBody s__law_sealed) m__law_sealed := by
  have n_int := G.n_int
  have n_range := G.n_range
  have n_tuple := G.n_tuple
  exact (dss_cons (ds_par (i := 1) (j := 2) sc__law_sealed.nd rfl rfl (by decide) (by decide) (by decide) rfl rfl (da_cons (de_call (k := 1) (F := fs__law_check) ⟨h__law_check⟩ (hr.mono (by decide)) rfl (da_cons (dv 0) da_nil)) (da_cons (de_lst da_nil) da_nil)) rfl)
  (dss_cons (ds_for (di_range1 rfl n_range de_int) (dg_name (i := 3) sc__law_sealed.nd rfl (by first | exact Or.inl rfl | exact Or.inr rfl) (by decide))
  (dss_cons (ds_expr (de_append (i := 2) rfl (by first | exact Or.inl rfl | exact Or.inr (Or.inl rfl)) (de_bin mod_ok (de_callTy int_ok rfl n_int bt_int (da_cons (dv 1) da_nil)) de_int)))
  (dss_cons (ds_asg (de_bin fdiv_ok (de_callTy int_ok rfl n_int bt_int (da_cons (dv 1) da_nil)) de_int) (dg_name (i := 1) sc__law_sealed.nd rfl (by first | exact Or.inl rfl | exact Or.inr rfl) (by decide)))
  dss_nil)))
  (dss_cons (ds_ret (de_bin add_ok (de_callTy tuple_ok rfl n_tuple bt_tuple (da_cons (dv 0) da_nil)) (de_callTy tuple_ok rfl n_tuple bt_tuple (da_cons (de_rev (dv 2)) da_nil))))
  dss_nil)))
theorem fd__law_sealed {f : Addr} {fd : FuncData} (F : Fun K "_law_sealed" "_law_sealed" s__law_sealed f fd) (hm : mg "_law_sealed" = some (.ref f)) (G : Gs mg) (h__law_check : Fd P w K mg base 1 "_law_check" fs__law_check) : Fd P w K mg base 2 "_law_sealed" fs__law_sealed :=
  ⟨f, fd, ["octets"], fn_ok F sc__law_sealed fs__law_sealed m__law_sealed rfl (fun cdv A outer s H E hr => b__law_sealed G h__law_check cdv f A outer s H E hr) (fun as r hl h => h), hm, F.kp, F.binds fun _ _ _ _ _ _ us hl => match us, hl with | [_], _ => rfl⟩
theorem b_law (G : Gs mg) (told__law_octets : ToldF K mg "_law_octets" "deed" "BadBytes" "e" "told" "bytes" "index" "fault") (h__law_alike : Fd P w K mg base 1 "_law_alike" fs__law_alike) (h__law_bag : Fd P w K mg base 1 "_law_bag" fs__law_bag) (h__law_check : Fd P w K mg base 1 "_law_check" fs__law_check) (h__law_integer : Fd P w K mg base 1 "_law_integer" fs__law_integer) (h__law_sealed : Fd P w K mg base 2 "_law_sealed" fs__law_sealed) (h__law_some : Fd P w K mg base 2 "_law_some" fs__law_some) (h__law_take : Fd P w K mg base 1 "_law_take" fs__law_take) (h_check_of : Fd P w K mg base 1 "check_of" fs_check_of) (h_integer_octets : Fd P w K mg base 1 "integer_octets" fs_integer_octets) (h_is_sealed : Fd P w K mg base 3 "is_sealed" fs_is_sealed) (h_read_integer : Fd P w K mg base 2 "read_integer" fs_read_integer) (h_sealed : Fd P w K mg base 2 "sealed" fs_sealed) {ca Pa : Addr} (TB : LamX.TabB base mg ca Pa) (hmT : (Pa, ("law" ++ ".<locals>." : Str) ++ "<lambda>") ∈ Tbs.list) (hu : ∀ p ∈ Tbs.list, p.1 = Pa → p.2 = ("law" ++ ".<locals>." : Str) ++ "<lambda>") (f : Addr) (A : Around) (outer : List Env) (s : Shared) (H : Hp) (E : XK) (hr : Room 4 (A.deeper (envOfC "law" (defScope s_law) s.heap.objs.size f (.ref ca)))) :
    DSs (cxOf (L2.CX P w) P w K mg base ["script", "bag", "turn", "number", "octets", "ahead", "told", "row", "whole", "at", "bent", "place", "one"] "law" (defScope s_law) f (.ref ca) A outer s H E) [] (defBody s_law) m_law := by
  have n_len := G.n_len
  have n_list := G.n_list
  have n_min := G.n_min
  have n_range := G.n_range
  have n_tuple := G.n_tuple
  exact (dss_cons (ds_asg (de_call (k := 1) (F := fs__law_bag) ⟨h__law_bag⟩ (hr.mono (by decide)) rfl (da_cons (dv 0) da_nil)) (dg_name (i := 1) sc_law.nd rfl (by first | exact Or.inl rfl | exact Or.inr rfl) (by decide)))
  (dss_cons (ds_for (di_range1 rfl n_range de_int) (dg_name (i := 2) sc_law.nd rfl (by first | exact Or.inl rfl | exact Or.inr rfl) (by decide))
  (dss_cons (ds_asg (de_call (k := 2) (F := fs__law_some) ⟨h__law_some⟩ (hr.mono (by decide)) rfl (da_cons (dv 1) (da_cons (de_lst (da_cons (de_call (k := 1) (F := fs__law_take) ⟨h__law_take⟩ (hr.mono (by decide)) rfl (da_cons (dv 1) (da_cons de_int da_nil))) (da_cons (de_call (k := 1) (F := fs__law_take) ⟨h__law_take⟩ (hr.mono (by decide)) rfl (da_cons (dv 1) (da_cons (de_bin pow_ok de_int de_int) da_nil))) (da_cons de_int (da_cons de_int (da_cons (de_bin add_ok (de_bin pow_ok de_int de_int) (de_call (k := 1) (F := fs__law_take) ⟨h__law_take⟩ (hr.mono (by decide)) rfl (da_cons (dv 1) (da_cons (de_bin pow_ok de_int de_int) da_nil)))) da_nil)))))) da_nil))) (dg_name (i := 3) sc_law.nd rfl (by first | exact Or.inl rfl | exact Or.inr rfl) (by decide)))
  (dss_cons (ds_asg (de_call (k := 1) (F := fs__law_integer) ⟨h__law_integer⟩ (hr.mono (by decide)) rfl (da_cons (dv 3) da_nil)) (dg_name (i := 4) sc_law.nd rfl (by first | exact Or.inl rfl | exact Or.inr rfl) (by decide)))
  (dss_cons (ds_asg (de_callTy tuple_ok rfl n_tuple bt_tuple (da_cons (de_lc (own := [("one", 12)]) sc_law.nd (di_range1 rfl n_range (de_call (k := 1) (F := fs__law_take) ⟨h__law_take⟩ (hr.mono (by decide)) rfl (da_cons (dv 1) (da_cons de_int da_nil)))) (show BlkOk (["script", "bag", "turn", "number", "octets", "ahead", "told", "row", "whole", "at", "bent", "place", "one"] : List Str) (defScope s_law) _ [("one", 12)] from ⟨rfl, by decide +kernel, by decide +kernel, by decide +kernel, by decide +kernel⟩) (fun _ _ _ _ _ => (dg_name (i := 12) sc_law.nd rfl (by first | exact Or.inl rfl | exact Or.inr rfl) (by decide))) (fun _ _ _ _ _ => dts_nil) (fun _ _ _ _ _ => (de_call (k := 1) (F := fs__law_take) ⟨h__law_take⟩ (hr.mono (by decide)) rfl (da_cons (dv 1) (da_cons de_int da_nil)))) (by decide)) da_nil)) (dg_name (i := 5) sc_law.nd rfl (by first | exact Or.inl rfl | exact Or.inr rfl) (by decide)))
  (dss_cons (ds_asg (de_fz (de_lst (da_cons (de_call (k := 1) (F := fs_integer_octets) ⟨h_integer_octets⟩ (hr.mono (by decide)) rfl (da_cons (dv 3) da_nil)) (da_cons (de_call (k := 2) (F := fs_read_integer) ⟨h_read_integer⟩ (hr.mono (by decide)) rfl (da_cons (de_bin add_ok (de_bin add_ok (dv 5) (dv 4)) (de_tup (da_cons de_int da_nil))) (da_cons (de_callB len_ok rfl n_len bt_len (da_cons (dv 5) da_nil)) da_nil))) da_nil)))) (dg_name (i := 6) sc_law.nd rfl (by first | exact Or.inl rfl | exact Or.inr rfl) (by decide)))
  (dss_cons (ds_if (dt_not (dt_val (de_call (k := 1) (F := fs__law_alike) ⟨h__law_alike⟩ (hr.mono (by decide)) rfl (da_cons (dv 6) (da_cons (de_fz (de_lst (da_cons (dv 4) (da_cons (de_tup (da_cons (dv 3) (da_cons (de_bin add_ok (de_callB len_ok rfl n_len bt_len (da_cons (dv 5) da_nil)) (de_callB len_ok rfl n_len bt_len (da_cons (dv 4) da_nil))) da_nil))) da_nil)))) da_nil)))))
  (dss_cons (ds_ret de_bl)
  dss_nil)
  dss_nil)
  (dss_cons (ds_if (dt_cmp (ne_ok (Room.units hr)) (de_toldF (k := 2) told__law_octets rfl TB rfl hmT hu (hr.mono (by decide)) (LamX.lamS_by (sc := defScope s_law) (by decide +kernel)) rfl (fun _ _ _ _ _ => rfl) (fun _ _ _ _ _ _ _ hrl => (de_call (k := 2) (F := fs_read_integer) ⟨h_read_integer⟩ (hrl.mono (by decide)) rfl (da_cons (de_bin add_ok (dv 5) (de_slice (dv 4) do_none (do_some (de_un neg_ok de_int)))) (da_cons (de_callB len_ok rfl n_len bt_len (da_cons (dv 5) da_nil)) da_nil))))) (de_tup (da_cons de_str (da_cons (de_callB len_ok rfl n_len bt_len (da_cons (dv 5) da_nil)) (da_cons de_str da_nil)))) (nomark _))
  (dss_cons (ds_ret de_bl)
  dss_nil)
  dss_nil)
  (dss_cons (ds_if (dt_cmp (ne_ok (Room.units hr)) (de_toldF (k := 2) told__law_octets rfl TB rfl hmT hu (hr.mono (by decide)) (LamX.lamS_by (sc := defScope s_law) (by decide +kernel)) rfl (fun _ _ _ _ _ => rfl) (fun _ _ _ _ _ _ _ hrl => (de_call (k := 2) (F := fs_read_integer) ⟨h_read_integer⟩ (hrl.mono (by decide)) rfl (da_cons (de_tup (da_cons de_int (da_cons de_int da_nil))) (da_cons de_int da_nil))))) (de_tup (da_cons de_str (da_cons de_int (da_cons de_str da_nil)))) (nomark _))
  (dss_cons (ds_ret de_bl)
  dss_nil)
  dss_nil)
  (dss_cons (ds_asg (de_callTy tuple_ok rfl n_tuple bt_tuple (da_cons (de_lc (own := [("one", 12)]) sc_law.nd (di_range1 rfl n_range (de_call (k := 1) (F := fs__law_take) ⟨h__law_take⟩ (hr.mono (by decide)) rfl (da_cons (dv 1) (da_cons de_int da_nil)))) (show BlkOk (["script", "bag", "turn", "number", "octets", "ahead", "told", "row", "whole", "at", "bent", "place", "one"] : List Str) (defScope s_law) _ [("one", 12)] from ⟨rfl, by decide +kernel, by decide +kernel, by decide +kernel, by decide +kernel⟩) (fun _ _ _ _ _ => (dg_name (i := 12) sc_law.nd rfl (by first | exact Or.inl rfl | exact Or.inr rfl) (by decide))) (fun _ _ _ _ _ => dts_nil) (fun _ _ _ _ _ => (de_call (k := 1) (F := fs__law_take) ⟨h__law_take⟩ (hr.mono (by decide)) rfl (da_cons (dv 1) (da_cons de_int da_nil)))) (by decide)) da_nil)) (dg_name (i := 7) sc_law.nd rfl (by first | exact Or.inl rfl | exact Or.inr rfl) (by decide)))
  (dss_cons (ds_asg (de_call (k := 2) (F := fs__law_sealed) ⟨h__law_sealed⟩ (hr.mono (by decide)) rfl (da_cons (dv 7) da_nil)) (dg_name (i := 8) sc_law.nd rfl (by first | exact Or.inl rfl | exact Or.inr rfl) (by decide)))
  (dss_cons (ds_if (dt_not (dt_val (de_call (k := 1) (F := fs__law_alike) ⟨h__law_alike⟩ (hr.mono (by decide)) rfl (da_cons (de_fz (de_lst (da_cons (de_call (k := 1) (F := fs_check_of) ⟨h_check_of⟩ (hr.mono (by decide)) rfl (da_cons (dv 7) da_nil)) (da_cons (de_call (k := 2) (F := fs_sealed) ⟨h_sealed⟩ (hr.mono (by decide)) rfl (da_cons (dv 7) da_nil)) (da_cons (de_call (k := 3) (F := fs_is_sealed) ⟨h_is_sealed⟩ (hr.mono (by decide)) rfl (da_cons (dv 8) da_nil)) da_nil))))) (da_cons (de_fz (de_lst (da_cons (de_call (k := 1) (F := fs__law_check) ⟨h__law_check⟩ (hr.mono (by decide)) rfl (da_cons (dv 7) da_nil)) (da_cons (dv 8) (da_cons de_bl da_nil))))) da_nil)))))
  (dss_cons (ds_ret de_bl)
  dss_nil)
  dss_nil)
  (dss_cons (ds_asg (de_call (k := 1) (F := fs__law_take) ⟨h__law_take⟩ (hr.mono (by decide)) rfl (da_cons (dv 1) (da_cons (de_callB len_ok rfl n_len bt_len (da_cons (dv 8) da_nil)) da_nil))) (dg_name (i := 9) sc_law.nd rfl (by first | exact Or.inl rfl | exact Or.inr rfl) (by decide)))
  (dss_cons (ds_asg (de_callTy list_ok rfl n_list bt_list (da_cons (dv 8) da_nil)) (dg_name (i := 10) sc_law.nd rfl (by first | exact Or.inl rfl | exact Or.inr rfl) (by decide)))
  (dss_cons (ds_for (di_range2 rfl n_range (da_cons (dv 9) (da_cons (de_callB (min_ok rfl) rfl n_min bt_min (da_cons (de_callB len_ok rfl n_len bt_len (da_cons (dv 8) da_nil)) (da_cons (de_bin add_ok (de_bin add_ok (dv 9) de_int) (de_call (k := 1) (F := fs__law_take) ⟨h__law_take⟩ (hr.mono (by decide)) rfl (da_cons (dv 1) (da_cons de_int da_nil)))) da_nil))) da_nil))) (dg_name (i := 11) sc_law.nd rfl (by first | exact Or.inl rfl | exact Or.inr rfl) (by decide))
  (dss_cons (ds_asg (de_call (k := 1) (F := fs__law_take) ⟨h__law_take⟩ (hr.mono (by decide)) rfl (da_cons (dv 1) (da_cons de_int da_nil))) (dg_ix (i := 10) rfl (by first | exact Or.inl rfl | exact Or.inr (Or.inl rfl)) (dv 11)))
  dss_nil))
  (dss_cons (ds_if (dt_cmp (ne_ok (Room.units hr)) (de_call (k := 3) (F := fs_is_sealed) ⟨h_is_sealed⟩ (hr.mono (by decide)) rfl (da_cons (de_callTy tuple_ok rfl n_tuple bt_tuple (da_cons (dv 10) da_nil)) da_nil)) (de_cmp (eq_ok (Room.units hr)) (de_callTy tuple_ok rfl n_tuple bt_tuple (da_cons (dv 10) da_nil)) (dv 8) (nomark _)) (nomark _))
  (dss_cons (ds_ret de_bl)
  dss_nil)
  dss_nil)
  dss_nil)))))))))))))))
  (dss_cons (ds_ret de_bl)
  dss_nil)))
end
end K43

set_option Elab.async false
set_option linter.all false
set_option maxRecDepth 100000
set_option maxHeartbeats 4000000
namespace K43
open PySem Nv
variable [Tbs]
/-- the octets of a number below 128 ^ (k + 1), the last one below 128 -/
def octs : Nat → Nat → List Int
  | 0, n => [(n : Int)]
  | k + 1, n => if n < 128 then [(n : Int)] else ((128 + n % 128 : Nat) : Int) :: octs k (n / 128)
theorem and127 (n : Nat) : Builtin.bitAnd (n : Int) (128 - 1) = ((n % 128 : Nat) : Int) := and_mask n 7
theorem and127' (n : Nat) : Builtin.bitAnd (n : Int) 127 = ((n % 128 : Nat) : Int) := and_mask n 7
abbrev tc1 : M Bool := (asT (op2 geV (vr 0) (kI 128)))
abbrev tb1 : SS := (seqS (dropS (appS 1 (op2 addV (kI 128) (op2 andV (vr 0) (op2 subV (kI 128) (kI 1)))))) (seqS (augS 0 shrV (kI 7)) (M.pure .nx)))
theorem io_tc (n : Int) (acc : Option Val) : tc1 [some (.d (.int n)), acc] = some (.ok (decide (128 ≤ n)), [some (.d (.int n)), acc]) := rfl
theorem io_tb (n : Nat) (acc : List Val) (h : acc.length < sizeLine) : tb1 [some (.d (.int n)), some (.ol acc)] = some (.ok .nx, [some (.d (.int ((n / 128 : Nat) : Int))), some (.ol (acc ++ [.d (.int ((128 + n % 128 : Nat) : Int))]))]) := by
  have e := and127' n
  simp [tb1, seqS, dropS, appS, extS, Nv.listAt, atSl, M.bind, M.pure, op1, op2, opN, getAll, kI, kS, kB, kN, fin, vr, Rs.get, Rs.own, Rs.dat, Rs.out, Rs.items, augS, asT, asgS, nmG, parS, retS, tupS, lstS, getDs, getOs, consA, starA, fzS, Val.fz, Val.fzL, ifS, addV_int, subV_int, andV_int, eqV_int, neV_int, neV_bool, mulV_r, modV_r, fdivV_r, shrV_r, ltV, leV, gtV, geV, cmp2, lenV, intV, absV, tupleV, listV, seqD, tmD, List.set_cons_zero, List.set_cons_succ, startD, h, e]
/-- all but the last, the last -/
theorem io_loop : ∀ (k n : Nat) (acc : List Val), n < 128 ^ (k + 1) → acc.length + k < 1000 → ∃ (ini : List Int) (z : Nat), z < 128 ∧
    whileS tc1 tb1 [some (.d (.int n)), some (.ol acc)] = some (.ok .nx, [some (.d (.int (z : Int))), some (.ol (acc ++ (ini.map fun i => Val.d (.int i))))]) ∧ octs k n = ini ++ [(z : Int)]
  | 0, n, acc, hn, hl => by
    have hn' : n < 128 := by simpa using hn
    refine ⟨[], n, hn', ?_, by simp [octs]⟩
    rw [while_end (io_tc n _ |>.trans (by rw [decide_eq_false (by omega)]))]
    simp
  | k + 1, n, acc, hn, hl => by
    by_cases h : n < 128
    · refine ⟨[], n, h, ?_, by simp [octs, h]⟩
      rw [while_end (io_tc n _ |>.trans (by rw [decide_eq_false (by omega)]))]
      simp
    · have hn2 : n / 128 < 128 ^ (k + 1) := by rw [Nat.div_lt_iff_lt_mul (by decide)]; rw [Nat.pow_succ] at hn; exact hn
      have hsz : acc.length < sizeLine := Nat.lt_of_lt_of_le (show acc.length < 1000 by omega) (by decide)
      obtain ⟨ini, z, hz, e1, e2⟩ := io_loop k (n / 128) (acc ++ [.d (.int ((128 + n % 128 : Nat) : Int))]) hn2 (by simp; omega)
      refine ⟨((128 + n % 128 : Nat) : Int) :: ini, z, hz, ?_, ?_⟩
      · rw [while_step (io_tc n _ |>.trans (by rw [decide_eq_true (by omega)])) (io_tb n acc hsz), e1]
        simp only [List.map_cons, List.append_assoc, List.cons_append, List.nil_append]
      · simp only [octs, if_neg h, List.cons_append, e2]
theorem allD_ints (xs : List Int) : allD (xs.map fun i => Val.d (.int i)) = some (xs.map .int) := by
  have := allD_map (xs.map PyData.int)
  rw [List.map_map] at this
  exact this
theorem getDs_tm (ds : List PyData) (rs : List Rs) (δ : Sl) (es : List PyData) (h : getDs rs δ = some es) : getDs (ds.map tmD ++ rs) δ = some (ds ++ es) := by
  induction ds with
  | nil => exact h
  | cons d ds ih =>
    show ((tmD d).dat δ).bind _ = _
    simp [tmD, Rs.dat, Val.fz] at ih ⊢
    simp [ih]
theorem f_integer_octets (k n : Nat) (hn : n < 128 ^ (k + 1)) (hk : k < 900) : fs_integer_octets.fn [.d (.int n)] = some (.ok (.d (.tuple ((octs k n).map .int))), []) := by
  obtain ⟨ini, z, hz, e1, e2⟩ := io_loop k n [] hn (by simpa using Nat.lt_of_lt_of_le hk (by decide))
  have hlen : (octs k n).length ≤ k + 1 := by
    clear e1 e2 hn hz hk
    induction k generalizing n with
    | zero => simp [octs]
    | succ k ih => unfold octs; split <;> simp; exact ih _
  show endOf [] (m_integer_octets [some (.d (.int n)), none]) = _
  have s1 : asgS (lstS (M.pure [])) (nmG 1) [some (.d (.int n)), none] = some (.ok .nx, [some (.d (.int n)), some (.ol [])]) := rfl
  unfold m_integer_octets
  rw [seq_nx s1, seq_nx e1]
  have g : getDs ((ini.map .int).map tmD ++ [Rs.sl 0]) [some (.d (.int (z : Int))), some (.ol ([] ++ (ini.map fun i => Val.d (.int i))))] = some ((ini.map .int) ++ [.int z]) := getDs_tm _ _ _ _ rfl
  have e3 : (ini.map PyData.int) ++ [PyData.int z] = (octs k n).map .int := by
    conv => rhs; rw [e2]
    rw [List.map_append]; rfl
  have e4 : (ini.map PyData.int ++ [PyData.int z]).length ≤ sizeLine := by
    rw [e3, List.length_map]; exact Nat.le_trans hlen (Nat.le_trans (show k + 1 ≤ 900 by omega) (by decide))
  have s3 : retS (tupS (starA (vr 1) (consA (vr 0) (M.pure [])))) [some (.d (.int (z : Int))), some (.ol ([] ++ (ini.map fun i => Val.d (.int i))))] = some (.ok (.rt (.d (.tuple ((octs k n).map .int)))), [some (.d (.int (z : Int))), some (.ol ([] ++ (ini.map fun i => Val.d (.int i))))]) := by
    have a1 : (starA (vr 1) (consA (vr 0) (M.pure []))) [some (.d (.int (z : Int))), some (.ol ([] ++ (ini.map fun i => Val.d (.int i))))] = some (.ok ((ini.map .int).map tmD ++ [Rs.sl 0]), [some (.d (.int (z : Int))), some (.ol ([] ++ (ini.map fun i => Val.d (.int i))))]) := by
      simp [seqS, dropS, appS, extS, Nv.listAt, atSl, M.bind, M.pure, op1, op2, opN, getAll, kI, kS, kB, kN, fin, vr, Rs.get, Rs.own, Rs.dat, Rs.out, Rs.items, augS, asT, asgS, nmG, parS, retS, tupS, lstS, getDs, getOs, consA, starA, fzS, Val.fz, Val.fzL, ifS, addV_int, subV_int, andV_int, eqV_int, neV_int, neV_bool, mulV_r, modV_r, fdivV_r, shrV_r, ltV, leV, gtV, geV, cmp2, lenV, intV, absV, tupleV, listV, seqD, tmD, List.set_cons_zero, List.set_cons_succ, startD, allD_ints]
    unfold retS tupS
    rw [bind_ok (δ1 := [some (.d (.int (z : Int))), some (.ol ([] ++ (ini.map fun i => Val.d (.int i))))]) (a := .tm (.d (.tuple ((octs k n).map .int)))) ?_]
    · rfl
    · rw [bind_ok a1]
      simp only [g]
      rw [if_pos e4, e3]
  rw [seq_rt s3]
  rfl
end K43

set_option Elab.async false
set_option linter.all false
set_option maxRecDepth 100000
set_option maxHeartbeats 4000000
namespace K43
open PySem Nv
variable [Tbs]
/-! ### _law_integer -/
abbrev tc2 : M Bool := (asT (op2 gtV (vr 0) (kI 127)))
abbrev tb2 : SS := (seqS (dropS (appS 1 (op2 addV (kI 128) (op2 modV (opN intV (consA (vr 0) (M.pure []))) (kI 128)))))
  (seqS (asgS (op2 fdivV (opN intV (consA (vr 0) (M.pure []))) (kI 128)) (nmG 0))
  (M.pure .nx)))
theorem li_tc (n : Int) (acc : Option Val) : tc2 [some (.d (.int n)), acc] = some (.ok (decide (127 < n)), [some (.d (.int n)), acc]) := rfl
theorem li_tb (n : Nat) (acc : List Val) (h : acc.length < sizeLine) : tb2 [some (.d (.int n)), some (.ol acc)] = some (.ok .nx, [some (.d (.int ((n / 128 : Nat) : Int))), some (.ol (acc ++ [.d (.int ((128 + n % 128 : Nat) : Int))]))]) := by
  simp [tb2, seqS, dropS, appS, extS, Nv.listAt, atSl, M.bind, M.pure, op1, op2, opN, getAll, kI, kS, kB, kN, fin, vr, Rs.get, Rs.own, Rs.dat, Rs.out, Rs.items, augS, asT, asgS, nmG, parS, retS, tupS, lstS, getDs, getOs, consA, starA, fzS, Val.fz, Val.fzL, ifS, addV_int, subV_int, andV_int, eqV_int, neV_int, neV_bool, mulV_r, modV_r, fdivV_r, shrV_r, ltV, leV, gtV, geV, cmp2, lenV, intV, absV, tupleV, listV, seqD, tmD, List.set_cons_zero, List.set_cons_succ, startD, h]
theorem li_loop : ∀ (k n : Nat) (acc : List Val), n < 128 ^ (k + 1) → acc.length + k < 1000 → ∃ (ini : List Int) (z : Nat), z < 128 ∧
    whileS tc2 tb2 [some (.d (.int n)), some (.ol acc)] = some (.ok .nx, [some (.d (.int (z : Int))), some (.ol (acc ++ (ini.map fun i => Val.d (.int i))))]) ∧ octs k n = ini ++ [(z : Int)]
  | 0, n, acc, hn, hl => by
    have hn' : n < 128 := by simpa using hn
    refine ⟨[], n, hn', ?_, by simp [octs]⟩
    rw [while_end (li_tc n _ |>.trans (by rw [decide_eq_false (by omega)]))]
    simp
  | k + 1, n, acc, hn, hl => by
    by_cases h : n < 128
    · refine ⟨[], n, h, ?_, by simp [octs, h]⟩
      rw [while_end (li_tc n _ |>.trans (by rw [decide_eq_false (by omega)]))]
      simp
    · have hn2 : n / 128 < 128 ^ (k + 1) := by rw [Nat.div_lt_iff_lt_mul (by decide)]; rw [Nat.pow_succ] at hn; exact hn
      have hsz : acc.length < sizeLine := Nat.lt_of_lt_of_le (show acc.length < 1000 by omega) (by decide)
      obtain ⟨ini, z, hz, e1, e2⟩ := li_loop k (n / 128) (acc ++ [.d (.int ((128 + n % 128 : Nat) : Int))]) hn2 (by simp; omega)
      refine ⟨((128 + n % 128 : Nat) : Int) :: ini, z, hz, ?_, ?_⟩
      · rw [while_step (li_tc n _ |>.trans (by rw [decide_eq_true (by omega)])) (li_tb n acc hsz), e1]
        simp only [List.map_cons, List.append_assoc, List.cons_append, List.nil_append]
      · simp only [octs, if_neg h, List.cons_append, e2]
theorem octs_len : ∀ (k n : Nat), (octs k n).length ≤ k + 1
  | 0, n => by simp [octs]
  | k + 1, n => by unfold octs; split <;> simp; exact octs_len k _
theorem allD_app (xs : List Int) (z : Int) : allD ((xs.map fun i => Val.d (.int i)) ++ [.d (.int z)]) = some ((xs ++ [z]).map .int) := by
  have := allD_ints (xs ++ [z])
  rw [List.map_append] at this
  exact this
theorem addL_ints (xs ys : List Int) (h : xs.length + ys.length ≤ sizeLine) : addV (.ol (xs.map fun i => Val.d (.int i))) (.ol (ys.map fun i => Val.d (.int i))) = some (.ol ((xs ++ ys).map fun i => Val.d (.int i))) := by
  have e1 : addI (.ol (xs.map fun i => Val.d (.int i))) (.ol (ys.map fun i => Val.d (.int i))) = none := rfl
  have e2 : addS (.ol (xs.map fun i => Val.d (.int i))) (.ol (ys.map fun i => Val.d (.int i))) = none := rfl
  have e3 : addT (.ol (xs.map fun i => Val.d (.int i))) (.ol (ys.map fun i => Val.d (.int i))) = none := rfl
  unfold addV
  rw [e1, e2, e3]
  simp [addL, lstD, allD_ints, h]
  rfl
theorem f__law_integer (k n : Nat) (hn : n < 128 ^ (k + 1)) (hk : k < 900) : fs__law_integer.fn [.d (.int n)] = some (.ok (.d (.tuple ((octs k n).map .int))), []) := by
  obtain ⟨ini, z, hz, e1, e2⟩ := li_loop k n [] hn (by simpa using Nat.lt_of_lt_of_le hk (by decide))
  have hlen := octs_len k n
  show endOf [] (m__law_integer [some (.d (.int n)), none]) = _
  have s1 : asgS (lstS (M.pure [])) (nmG 1) [some (.d (.int n)), none] = some (.ok .nx, [some (.d (.int n)), some (.ol [])]) := rfl
  unfold m__law_integer
  rw [seq_nx s1, seq_nx e1]
  have ha := addL_ints ini [(z : Int)] (by rw [e2, List.length_append] at hlen; exact Nat.le_trans hlen (Nat.le_trans (show k + 1 ≤ 900 by omega) (by decide)))
  have hb := allD_ints (ini ++ [(z : Int)])
  have s3 : retS (opN tupleV (consA (op2 addV (vr 1) (lstS (consA (vr 0) (M.pure [])))) (M.pure []))) [some (.d (.int (z : Int))), some (.ol ([] ++ (ini.map fun i => Val.d (.int i))))] = some (.ok (.rt (.d (.tuple ((octs k n).map .int)))), [some (.d (.int (z : Int))), some (.ol ([] ++ (ini.map fun i => Val.d (.int i))))]) := by
    rw [List.nil_append, e2]
    have l1 : (1 : Nat) ≤ sizeLine := by decide
    simp only [List.map_cons, List.map_nil] at ha
    simp only [seqS, dropS, appS, extS, Nv.listAt, atSl, M.bind, M.pure, op1, op2, opN, getAll, kI, kS, kB, kN, fin, vr, Rs.get, Rs.own, Rs.dat, Rs.out, Rs.items, augS, asT, asgS, nmG, parS, retS, tupS, lstS, getDs, getOs, consA, starA, fzS, Val.fz, Val.fzL, ifS, addV_int, subV_int, andV_int, eqV_int, neV_int, neV_bool, mulV_r, modV_r, fdivV_r, shrV_r, ltV, leV, gtV, geV, cmp2, lenV, intV, absV, tupleV, listV, seqD, tmD, List.set_cons_zero, List.set_cons_succ, startD, List.length_cons, List.length_nil, Nat.zero_add, l1, if_true, List.getElem?_cons_zero, List.getElem?_cons_succ, Option.bind_some, Option.map_some, ha, hb]
  rw [seq_rt s3]
  rfl
/-! ### the check -/
def chk (x : Int) (L : List Int) : Int := L.foldl (fun x o => (x * 257 + o + 1) % 4294967291) x
abbrev tb3 : SS := (seqS (asgS (op2 modV (op2 addV (op2 addV (op2 mulV (vr 1) (kI 257)) (vr 2)) (kI 1)) (kI 4294967291)) (nmG 1)) (M.pure .nx))
abbrev tb4 : SS := (seqS (asgS (op2 modV (opN intV (consA (op2 addV (op2 addV (op2 mulV (vr 1) (kI 257)) (vr 2)) (kI 1)) (M.pure []))) (kI 4294967291)) (nmG 1)) (M.pure .nx))
theorem ck_tb3 (a : Option Val) (x o : Int) : tb3 [a, some (.d (.int x)), some (.d (.int o))] = some (.ok .nx, [a, some (.d (.int ((x * 257 + o + 1) % 4294967291))), some (.d (.int o))]) := by
  simp [tb3, seqS, dropS, appS, extS, Nv.listAt, atSl, M.bind, M.pure, op1, op2, opN, getAll, kI, kS, kB, kN, fin, vr, Rs.get, Rs.own, Rs.dat, Rs.out, Rs.items, augS, asT, asgS, nmG, parS, retS, tupS, lstS, getDs, getOs, consA, starA, fzS, Val.fz, Val.fzL, ifS, addV_int, subV_int, andV_int, eqV_int, neV_int, neV_bool, mulV_r, modV_r, fdivV_r, shrV_r, ltV, leV, gtV, geV, cmp2, lenV, intV, absV, tupleV, listV, seqD, tmD, List.set_cons_zero, List.set_cons_succ, startD]
theorem ck_tb4 (a : Option Val) (x o : Int) : tb4 [a, some (.d (.int x)), some (.d (.int o))] = some (.ok .nx, [a, some (.d (.int ((x * 257 + o + 1) % 4294967291))), some (.d (.int o))]) := by
  simp [tb4, seqS, dropS, appS, extS, Nv.listAt, atSl, M.bind, M.pure, op1, op2, opN, getAll, kI, kS, kB, kN, fin, vr, Rs.get, Rs.own, Rs.dat, Rs.out, Rs.items, augS, asT, asgS, nmG, parS, retS, tupS, lstS, getDs, getOs, consA, starA, fzS, Val.fz, Val.fzL, ifS, addV_int, subV_int, andV_int, eqV_int, neV_int, neV_bool, mulV_r, modV_r, fdivV_r, shrV_r, ltV, leV, gtV, geV, cmp2, lenV, intV, absV, tupleV, listV, seqD, tmD, List.set_cons_zero, List.set_cons_succ, startD]
theorem ck_loop {tb : SS} (h : ∀ (a : Option Val) (x o : Int), tb [a, some (.d (.int x)), some (.d (.int o))] = some (.ok .nx, [a, some (.d (.int ((x * 257 + o + 1) % 4294967291))), some (.d (.int o))])) (a : Option Val) :
    ∀ (L : List Int) (x : Int) (b : Option Val), ∃ b', forL (nmG 2) tb (L.map .int) [a, some (.d (.int x)), b] = some (.ok .nx, [a, some (.d (.int (chk x L))), b'])
  | [], x, b => ⟨b, rfl⟩
  | o :: L, x, b => by
    obtain ⟨b', e⟩ := ck_loop h a L ((x * 257 + o + 1) % 4294967291) (some (.d (.int o)))
    refine ⟨b', ?_⟩
    rw [List.map_cons, forL_cons (δ1 := [a, some (.d (.int x)), some (.d (.int o))]) (u := ()) rfl (h a x o), e]
    rfl
theorem f_check_of (L : List Int) : fs_check_of.fn [.d (.tuple (L.map .int))] = some (.ok (.d (.int (chk 1 L))), []) := by
  obtain ⟨b', e⟩ := ck_loop ck_tb3 (some (.d (.tuple (L.map .int)))) L 1 none
  show endOf [] (m_check_of [some (.d (.tuple (L.map .int))), none, none]) = _
  have s1 : asgS (kI 1) (nmG 1) [some (.d (.tuple (L.map .int))), none, none] = some (.ok .nx, [some (.d (.tuple (L.map .int))), some (.d (.int 1)), none]) := rfl
  unfold m_check_of
  rw [seq_nx s1, seq_nx (t := forS _ _ _) (δ1 := [some (.d (.tuple (L.map .int))), some (.d (.int (chk 1 L))), b'])]
  · rfl
  · unfold forS
    rw [bind_ok (a := L.map .int) (δ1 := [some (.d (.tuple (L.map .int))), some (.d (.int 1)), none]) rfl]
    exact e
theorem f__law_check (L : List Int) : fs__law_check.fn [.d (.tuple (L.map .int))] = some (.ok (.d (.int (chk 1 L))), []) := by
  obtain ⟨b', e⟩ := ck_loop ck_tb4 (some (.d (.tuple (L.map .int)))) L 1 none
  show endOf [] (m__law_check [some (.d (.tuple (L.map .int))), none, none]) = _
  have s1 : asgS (kI 1) (nmG 1) [some (.d (.tuple (L.map .int))), none, none] = some (.ok .nx, [some (.d (.tuple (L.map .int))), some (.d (.int 1)), none]) := rfl
  unfold m__law_check
  rw [seq_nx s1, seq_nx (t := forS _ _ _) (δ1 := [some (.d (.tuple (L.map .int))), some (.d (.int (chk 1 L))), b'])]
  · rfl
  · unfold forS
    rw [bind_ok (a := L.map .int) (δ1 := [some (.d (.tuple (L.map .int))), some (.d (.int 1)), none]) rfl]
    exact e
end K43

set_option Elab.async false
set_option linter.all false
set_option maxRecDepth 100000
set_option maxHeartbeats 4000000
namespace K43
open PySem Nv
variable [Tbs]
theorem chk_lt : ∀ (L : List Int) (x : Int), 0 ≤ x ∧ x < 4294967291 → 0 ≤ chk x L ∧ chk x L < 4294967291
  | [], x, h => h
  | o :: L, x, h => chk_lt L ((x * 257 + o + 1) % 4294967291) ⟨Int.emod_nonneg _ (by decide), Int.emod_lt_of_pos _ (by decide)⟩
/-- the four octets of a check -/
def by4 (c : Int) : List Int := [c / 16777216, c / 65536 % 256, c / 256 % 256, c % 256]
theorem addT_ints (xs ys : List Int) (h : xs.length + ys.length ≤ sizeLine) : addV (.d (.tuple (xs.map .int))) (.d (.tuple (ys.map .int))) = some (.d (.tuple ((xs ++ ys).map .int))) := by
  have e1 : addI (.d (.tuple (xs.map .int))) (.d (.tuple (ys.map .int))) = none := rfl
  have e2 : addS (.d (.tuple (xs.map .int))) (.d (.tuple (ys.map .int))) = none := rfl
  unfold addV
  rw [e1, e2]
  simp [addT, h]
theorem f_sealed (L : List Int) (hl : L.length + 4 ≤ sizeLine) : fs_sealed.fn [.d (.tuple (L.map .int))] = some (.ok (.d (.tuple ((L ++ by4 (chk 1 L)).map .int))), []) := by
  obtain ⟨h0, h1⟩ := chk_lt L 1 (by decide)
  generalize hc : chk 1 L = c at h0 h1
  show endOf [] (m_sealed [some (.d (.tuple (L.map .int))), none]) = _
  have s1 : asgS (callS fs_check_of (consA (vr 0) (M.pure []))) (nmG 1) [some (.d (.tuple (L.map .int))), none] = some (.ok .nx, [some (.d (.tuple (L.map .int))), some (.d (.int c))]) := by
    unfold asgS
    rw [bind_ok (ev_call1 (r := .sl 0) (δ1 := [some (.d (.tuple (L.map .int))), none]) (x := .d (.tuple (L.map .int))) (v := .d (.int c)) rfl rfl rfl (by rw [f_check_of, hc]))]
    rfl
  have g : getDs (((L.map .int).map tmD) ++ [.tm (.d (.int (c / 16777216))), .tm (.d (.int (c / 65536 % 256))), .tm (.d (.int (c / 256 % 256))), .tm (.d (.int (c % 256)))]) [some (.d (.tuple (L.map .int))), some (.d (.int c))] = some (L.map .int ++ (by4 c).map .int) := getDs_tm _ _ _ _ rfl
  have e4 : (L.map PyData.int ++ (by4 c).map PyData.int).length ≤ sizeLine := by simp [by4]; omega
  have m1 : Builtin.bitAnd (c / 65536) 255 = c / 65536 % 256 := and_mask' (x := c / 65536) 8 (by omega)
  have m2 : Builtin.bitAnd (c / 256) 255 = c / 256 % 256 := and_mask' (x := c / 256) 8 (by omega)
  have m3 : Builtin.bitAnd c 255 = c % 256 := and_mask' (x := c) 8 h0
  have s3 : retS (tupS (starA (vr 0) (consA (op2 shrV (vr 1) (kI 24)) (consA (op2 andV (op2 shrV (vr 1) (kI 16)) (kI 255)) (consA (op2 andV (op2 shrV (vr 1) (kI 8)) (kI 255)) (consA (op2 andV (vr 1) (kI 255)) (M.pure []))))))) [some (.d (.tuple (L.map .int))), some (.d (.int c))] =
      some (.ok (.rt (.d (.tuple ((L ++ by4 c).map .int)))), [some (.d (.tuple (L.map .int))), some (.d (.int c))]) := by
    have a1 : starA (vr 0) (consA (op2 shrV (vr 1) (kI 24)) (consA (op2 andV (op2 shrV (vr 1) (kI 16)) (kI 255)) (consA (op2 andV (op2 shrV (vr 1) (kI 8)) (kI 255)) (consA (op2 andV (vr 1) (kI 255)) (M.pure []))))) [some (.d (.tuple (L.map .int))), some (.d (.int c))] =
        some (.ok (((L.map .int).map tmD) ++ [.tm (.d (.int (c / 16777216))), .tm (.d (.int (c / 65536 % 256))), .tm (.d (.int (c / 256 % 256))), .tm (.d (.int (c % 256)))]), [some (.d (.tuple (L.map .int))), some (.d (.int c))]) := by
      simp [seqS, dropS, appS, extS, Nv.listAt, atSl, M.bind, M.pure, op1, op2, opN, getAll, kI, kS, kB, kN, fin, vr, Rs.get, Rs.own, Rs.dat, Rs.out, Rs.items, augS, asT, asgS, nmG, parS, retS, tupS, lstS, getDs, getOs, consA, starA, fzS, Val.fz, Val.fzL, ifS, addV_int, subV_int, andV_int, eqV_int, neV_int, neV_bool, mulV_r, modV_r, fdivV_r, shrV_r, ltV, leV, gtV, geV, cmp2, lenV, intV, absV, tupleV, listV, seqD, tmD, List.set_cons_zero, List.set_cons_succ, startD, m1, m2, m3]
    unfold retS tupS
    rw [bind_ok (δ1 := [some (.d (.tuple (L.map .int))), some (.d (.int c))]) (a := .tm (.d (.tuple ((L ++ by4 c).map .int)))) ?_]
    · rfl
    · rw [bind_ok a1]
      simp only [g]
      rw [if_pos e4, List.map_append]
  unfold m_sealed
  rw [seq_nx s1, seq_rt s3]
  rfl
abbrev tb5 : SS := (seqS (dropS (appS 2 (op2 modV (opN intV (consA (vr 1) (M.pure []))) (kI 256))))
  (seqS (asgS (op2 fdivV (opN intV (consA (vr 1) (M.pure []))) (kI 256)) (nmG 1))
  (M.pure .nx)))
theorem ls_tb (a : Option Val) (c : Int) (acc : List Val) (p : Option Val) (h : acc.length < sizeLine) : tb5 [a, some (.d (.int c)), some (.ol acc), p] = some (.ok .nx, [a, some (.d (.int (c / 256))), some (.ol (acc ++ [.d (.int (c % 256))])), p]) := by
  simp [tb5, seqS, dropS, appS, extS, Nv.listAt, atSl, M.bind, M.pure, op1, op2, opN, getAll, kI, kS, kB, kN, fin, vr, Rs.get, Rs.own, Rs.dat, Rs.out, Rs.items, augS, asT, asgS, nmG, parS, retS, tupS, lstS, getDs, getOs, consA, starA, fzS, Val.fz, Val.fzL, ifS, addV_int, subV_int, andV_int, eqV_int, neV_int, neV_bool, mulV_r, modV_r, fdivV_r, shrV_r, ltV, leV, gtV, geV, cmp2, lenV, intV, absV, tupleV, listV, seqD, tmD, List.set_cons_zero, List.set_cons_succ, startD, h]
theorem f__law_sealed (L : List Int) (hl : L.length + 4 ≤ sizeLine) : fs__law_sealed.fn [.d (.tuple (L.map .int))] = some (.ok (.d (.tuple ((L ++ by4 (chk 1 L)).map .int))), []) := by
  obtain ⟨h0, h1⟩ := chk_lt L 1 (by decide)
  generalize hc : chk 1 L = c at h0 h1
  show endOf [] (m__law_sealed [some (.d (.tuple (L.map .int))), none, none, none]) = _
  have s1 : parS 1 2 (consA (callS fs__law_check (consA (vr 0) (M.pure []))) (consA (lstS (M.pure [])) (M.pure []))) [some (.d (.tuple (L.map .int))), none, none, none] = some (.ok .nx, [some (.d (.tuple (L.map .int))), some (.d (.int c)), some (.ol []), none]) := by
    have e1 := ev_call1 (F := fs__law_check) (te := vr 0) (δ := [some (.d (.tuple (L.map .int))), none, none, none]) (r := .sl 0) (δ1 := [some (.d (.tuple (L.map .int))), none, none, none]) (x := .d (.tuple (L.map .int))) (v := .d (.int c)) rfl rfl rfl (by rw [f__law_check, hc])
    unfold parS
    rw [bind_ok (a := [.tm (.d (.int c)), .tm (.ol [])]) (δ1 := [some (.d (.tuple (L.map .int))), none, none, none]) (by
      show M.bind _ _ _ = _
      rw [bind_ok e1]; rfl)]
    rfl
  have s2 : forS (rg1I (kI 4)) (nmG 3) tb5 [some (.d (.tuple (L.map .int))), some (.d (.int c)), some (.ol []), none] = some (.ok .nx, [some (.d (.tuple (L.map .int))), some (.d (.int (c / 256 / 256 / 256 / 256))), some (.ol [.d (.int (c % 256)), .d (.int (c / 256 % 256)), .d (.int (c / 256 / 256 % 256)), .d (.int (c / 256 / 256 / 256 % 256))]), some (.d (.int 3))]) := by
    unfold forS
    rw [bind_ok (a := [.int 0, .int 1, .int 2, .int 3]) (δ1 := [some (.d (.tuple (L.map .int))), some (.d (.int c)), some (.ol []), none]) rfl]
    rw [forL_cons (u := ()) (δ1 := [some (.d (.tuple (L.map .int))), some (.d (.int c)), some (.ol []), some (.d (.int 0))]) rfl (ls_tb _ _ _ _ (by decide))]
    rw [forL_cons (u := ()) (δ1 := [some (.d (.tuple (L.map .int))), some (.d (.int (c / 256))), some (.ol ([] ++ [.d (.int (c % 256))])), some (.d (.int 1))]) rfl (ls_tb _ _ _ _ (by simp; decide))]
    rw [forL_cons (u := ()) (δ1 := [some (.d (.tuple (L.map .int))), some (.d (.int (c / 256 / 256))), some (.ol ([] ++ [.d (.int (c % 256))] ++ [.d (.int (c / 256 % 256))])), some (.d (.int 2))]) rfl (ls_tb _ _ _ _ (by simp; decide))]
    rw [forL_cons (u := ()) (δ1 := [some (.d (.tuple (L.map .int))), some (.d (.int (c / 256 / 256 / 256))), some (.ol ([] ++ [.d (.int (c % 256))] ++ [.d (.int (c / 256 % 256))] ++ [.d (.int (c / 256 / 256 % 256))])), some (.d (.int 3))]) rfl (ls_tb _ _ _ _ (by simp; decide))]
    rfl
  have eb : [c / 256 / 256 / 256 % 256, c / 256 / 256 % 256, c / 256 % 256, c % 256] = by4 c := by
    have a1 : c / 256 / 256 / 256 % 256 = c / 16777216 := by omega
    have a2 : c / 256 / 256 % 256 = c / 65536 % 256 := by omega
    rw [a1, a2]; rfl
  have ha := addT_ints L (by4 c) hl
  have s3 : retS (op2 addV (opN tupleV (consA (vr 0) (M.pure []))) (opN tupleV (consA (op1 revV (vr 2)) (M.pure [])))) [some (.d (.tuple (L.map .int))), some (.d (.int (c / 256 / 256 / 256 / 256))), some (.ol [.d (.int (c % 256)), .d (.int (c / 256 % 256)), .d (.int (c / 256 / 256 % 256)), .d (.int (c / 256 / 256 / 256 % 256))]), some (.d (.int 3))] =
      some (.ok (.rt (.d (.tuple ((L ++ by4 c).map .int)))), [some (.d (.tuple (L.map .int))), some (.d (.int (c / 256 / 256 / 256 / 256))), some (.ol [.d (.int (c % 256)), .d (.int (c / 256 % 256)), .d (.int (c / 256 / 256 % 256)), .d (.int (c / 256 / 256 / 256 % 256))]), some (.d (.int 3))]) := by
    rw [← eb] at ha ⊢
    simp only [List.map_cons, List.map_nil] at ha
    simp only [seqS, dropS, appS, extS, Nv.listAt, atSl, M.bind, M.pure, op1, op2, opN, getAll, kI, kS, kB, kN, fin, vr, Rs.get, Rs.own, Rs.dat, Rs.out, Rs.items, augS, asT, asgS, nmG, parS, retS, tupS, lstS, getDs, getOs, consA, starA, fzS, Val.fz, Val.fzL, ifS, addV_int, subV_int, andV_int, eqV_int, neV_int, neV_bool, mulV_r, modV_r, fdivV_r, shrV_r, ltV, leV, gtV, geV, cmp2, lenV, intV, absV, tupleV, listV, seqD, tmD, List.set_cons_zero, List.set_cons_succ, startD, revV, lstD, allD, Option.map_some, List.reverse_cons, List.reverse_nil, List.nil_append, List.cons_append, List.map_cons, List.map_nil, List.getElem?_cons_zero, List.getElem?_cons_succ, Option.bind_some, ha]
  unfold m__law_sealed
  rw [seq_nx s1, seq_nx s2, seq_rt s3]
  rfl
theorem by4_len (c : Int) : (by4 c).length = 4 := rfl
theorem lenV_ints (L : List Int) : lenV [.d (.tuple (L.map .int))] = some (.d (.int (L.length : Nat))) := by
  show some (Val.d (.int ((L.map PyData.int).length : Nat))) = _
  rw [List.length_map]
theorem cut_take {α : Type} (xs : List α) (k : Nat) (h : k ≤ xs.length) : cutA xs none (some ((xs.length : Int) - (k : Int))) = xs.take (xs.length - k) := by
  unfold cutA
  have e : HT.sIx xs.length xs.length (some ((xs.length : Int) - (k : Int))) = xs.length - k := by
    show (if (xs.length : Int) - k < 0 then _ else min ((xs.length : Int) - k).toNat xs.length) = _
    rw [if_neg (by omega)]
    omega
  rw [e]
  show (xs.drop 0).take (xs.length - k - 0) = _
  simp
/-- is_sealed(L): the last four are the others' check -/
theorem f_is_sealed (L : List Int) (h4 : 4 ≤ L.length) (hl : L.length ≤ sizeLine) : fs_is_sealed.fn [.d (.tuple (L.map .int))] = some (.ok (.d (.bool (decide (L.take (L.length - 4) ++ by4 (chk 1 (L.take (L.length - 4))) = L)))), []) := by
  show endOf [] (m_is_sealed [some (.d (.tuple (L.map .int)))]) = _
  have hcut : slV none (some ((L.length : Int) - 4)) (.d (.tuple (L.map .int))) = some (.d (.tuple ((L.take (L.length - 4)).map .int))) := by
    show some (Val.d (.tuple (cutA (L.map PyData.int) none (some ((L.length : Int) - 4))))) = _
    have := cut_take (L.map PyData.int) 4 (by simpa using h4)
    rw [List.length_map] at this
    rw [show ((L.length : Int) - 4) = (L.length : Int) - ((4 : Nat) : Int) from rfl, this, ← List.map_take]
  have hs := f_sealed (L.take (L.length - 4)) (by rw [List.length_take]; omega)
  generalize hT : L.take (L.length - 4) ++ by4 (chk 1 (L.take (L.length - 4))) = T at hs ⊢
  have e0 : (4 : Int) ≤ (L.length : Int) := by omega
  have e1 : slS (vr 0) noP (asI (op2 subV (opN lenV (consA (vr 0) (M.pure []))) (kI 4))) [some (.d (.tuple (L.map .int)))] = some (.ok (.tm (.d (.tuple ((L.take (L.length - 4)).map .int)))), [some (.d (.tuple (L.map .int)))]) := by
    simp only [slS, noP, asI, seqS, dropS, appS, extS, Nv.listAt, atSl, M.bind, M.pure, op1, op2, opN, getAll, kI, kS, kB, kN, fin, vr, Rs.get, Rs.own, Rs.dat, Rs.out, Rs.items, augS, asT, asgS, nmG, parS, retS, tupS, lstS, getDs, getOs, consA, starA, fzS, Val.fz, Val.fzL, ifS, addV_int, subV_int, andV_int, eqV_int, neV_int, neV_bool, mulV_r, modV_r, fdivV_r, shrV_r, ltV, leV, gtV, geV, cmp2, lenV, intV, absV, tupleV, listV, seqD, tmD, List.set_cons_zero, List.set_cons_succ, startD, List.getElem?_cons_zero, Option.bind_some, Option.map_some, List.length_map, hcut]
  have e2 := ev_call1 (F := fs_sealed) rfl e1 rfl hs
  have s1 : retS (andS (op2 geV (opN lenV (consA (vr 0) (M.pure []))) (kI 4)) (op2 eqV (callS fs_sealed (consA (slS (vr 0) noP (asI (op2 subV (opN lenV (consA (vr 0) (M.pure []))) (kI 4)))) (M.pure []))) (opN tupleV (consA (vr 0) (M.pure []))))) [some (.d (.tuple (L.map .int)))] =
      some (.ok (.rt (.d (.bool (decide (T = L))))), [some (.d (.tuple (L.map .int)))]) := by
    have t1 : asT (op2 geV (opN lenV (consA (vr 0) (M.pure []))) (kI 4)) [some (.d (.tuple (L.map .int)))] = some (.ok true, [some (.d (.tuple (L.map .int)))]) := by
      simp only [seqS, dropS, appS, extS, Nv.listAt, atSl, M.bind, M.pure, op1, op2, opN, getAll, kI, kS, kB, kN, fin, vr, Rs.get, Rs.own, Rs.dat, Rs.out, Rs.items, augS, asT, asgS, nmG, parS, retS, tupS, lstS, getDs, getOs, consA, starA, fzS, Val.fz, Val.fzL, ifS, addV_int, subV_int, andV_int, eqV_int, neV_int, neV_bool, mulV_r, modV_r, fdivV_r, shrV_r, ltV, leV, gtV, geV, cmp2, lenV, intV, absV, tupleV, listV, seqD, tmD, List.set_cons_zero, List.set_cons_succ, startD, List.getElem?_cons_zero, Option.bind_some, Option.map_some, List.length_map, decide_eq_true e0]
    unfold retS andS
    rw [bind_ok (a := .tm (.d (.bool (decide (T = L))))) (δ1 := [some (.d (.tuple (L.map .int)))]) ?_]
    · rfl
    · rw [bind_ok t1]
      show M.bind _ _ _ = _
      rw [bind_ok e2]
      have hq := eqV_tup T L
      simp only [seqS, dropS, appS, extS, Nv.listAt, atSl, M.bind, M.pure, op1, op2, opN, getAll, kI, kS, kB, kN, fin, vr, Rs.get, Rs.own, Rs.dat, Rs.out, Rs.items, augS, asT, asgS, nmG, parS, retS, tupS, lstS, getDs, getOs, consA, starA, fzS, Val.fz, Val.fzL, ifS, addV_int, subV_int, andV_int, eqV_int, neV_int, neV_bool, mulV_r, modV_r, fdivV_r, shrV_r, ltV, leV, gtV, geV, cmp2, lenV, intV, absV, tupleV, listV, seqD, tmD, List.set_cons_zero, List.set_cons_succ, startD, List.getElem?_cons_zero, Option.bind_some, Option.map_some, hq]
  unfold m_is_sealed
  rw [seq_rt s1]
  rfl
end K43

set_option Elab.async false
set_option linter.all false
set_option maxRecDepth 100000
set_option maxHeartbeats 4000000
namespace K43
open PySem Nv
variable [Tbs]
theorem powV_r {i j : Int} (h : 0 ≤ j ∧ j ≤ 1000000 ∧ i.natAbs < 2 ^ 64) : powV (.d (.int i)) (.d (.int j)) = some (.d (.int (i ^ j.toNat))) := if_pos (show powC i j = true from decide_eq_true h)
/-! ### _law_take -/
abbrev bagv (h s k : Int) (cs : List Int) : Val := .ol [.d (.int h), .d (.int s), .d (.int k), .d (.list (cs.map .int))]
theorem ix0 (h s k : Int) (cs : List Int) : idxV (bagv h s k cs) (.d (.int 0)) = some (.d (.int h)) := rfl
theorem ix1 (h s k : Int) (cs : List Int) : idxV (bagv h s k cs) (.d (.int 1)) = some (.d (.int s)) := rfl
theorem ix2 (h s k : Int) (cs : List Int) : idxV (bagv h s k cs) (.d (.int 2)) = some (.d (.int k)) := rfl
theorem ix3 (h s k : Int) (cs : List Int) : idxV (bagv h s k cs) (.d (.int 3)) = some (.d (.list (cs.map .int))) := rfl
structure Good (b : Val) : Prop where
  ex : ∃ h s k cs, b = bagv h s k cs ∧ 0 ≤ h ∧ 0 ≤ s ∧ 0 ≤ k ∧ (∀ c ∈ cs, 0 ≤ c) ∧ cs.length ≤ 63
theorem cut_from (cs : List Int) (k : Int) : ∃ j, cutA (cs.map PyData.int) (some k) none = (cs.drop j).map .int := by
  refine ⟨HT.sIx cs.length 0 (some k), ?_⟩
  unfold cutA
  rw [List.length_map]
  show (List.drop _ (cs.map PyData.int)).take (cs.length - _) = _
  rw [← List.map_drop, List.take_of_length_le]
  simp
/-- the next cell, or 0 -/
theorem lt_cell (h s k : Int) (cs : List Int) (hc : ∀ c ∈ cs, 0 ≤ c) (hl : cs.length ≤ 63) (m o2 o3 o4 o5 o6 : Option Val) : ∃ c : Int, 0 ≤ c ∧
    asgS (op2 idxV (op2 addV (slS (op2 idxV (vr 0) (kI 3)) (asI (op2 idxV (vr 0) (kI 2))) noP) (lstS (consA (kI 0) (M.pure [])))) (kI 0)) (nmG 2) [some (bagv h s k cs), m, o2, o3, o4, o5, o6] =
      some (.ok .nx, [some (bagv h s k cs), m, some (.d (.int c)), o3, o4, o5, o6]) := by
  obtain ⟨j, hj⟩ := cut_from cs k
  have hsl : slV (some k) none (.d (.list (cs.map .int))) = some (.ol ((cs.drop j).map fun i => Val.d (.int i))) := by
    show some (Val.ol ((cutA (cs.map PyData.int) (some k) none).map Val.d)) = _
    rw [hj, List.map_map]; rfl
  have hb : (cs.drop j).length + 1 ≤ sizeLine := Nat.le_trans (show _ ≤ 64 by rw [List.length_drop]; omega) (by decide)
  have ha := addL_ints (cs.drop j) [0] hb
  simp only [List.map_cons, List.map_nil] at ha
  have l1 : (1 : Nat) ≤ sizeLine := by decide
  have hall : ∀ c ∈ cs.drop j ++ [0], 0 ≤ c := fun c hm => by
    rcases List.mem_append.mp hm with hm | hm
    · exact hc c (List.mem_of_mem_drop hm)
    · rw [List.mem_singleton.mp hm]; decide
  obtain ⟨c, r, e⟩ : ∃ c r, cs.drop j ++ [0] = c :: r := by
    cases cs.drop j with
    | nil => exact ⟨0, [], rfl⟩
    | cons c r => exact ⟨c, r ++ [0], rfl⟩
  refine ⟨c, hall c (by rw [e]; exact List.mem_cons_self), ?_⟩
  have hx : idxV (.ol ((cs.drop j ++ [0]).map fun i => Val.d (.int i))) (.d (.int 0)) = some (.d (.int c)) := by
    rw [e]
    show (match L2.atI (Val.d (.int c) :: r.map fun i => Val.d (.int i)) 0 with | some (.d y) => some (Val.d y) | _ => none) = _
    have : L2.atI (Val.d (.int c) :: r.map fun i => Val.d (.int i)) 0 = some (Val.d (.int c)) := by
      unfold L2.atI L2.ixN
      simp
    rw [this]
  simp only [slS, noP, asI, seqS, dropS, appS, extS, Nv.listAt, atSl, M.bind, M.pure, op1, op2, opN, getAll, kI, kS, kB, kN, fin, vr, Rs.get, Rs.own, Rs.dat, Rs.out, Rs.items, augS, asT, asgS, nmG, parS, retS, tupS, lstS, getDs, getOs, consA, starA, fzS, Val.fz, Val.fzL, ifS, addV_int, subV_int, andV_int, eqV_int, neV_int, neV_bool, mulV_r, modV_r, fdivV_r, shrV_r, ltV, leV, gtV, geV, cmp2, lenV, intV, absV, tupleV, listV, seqD, tmD, List.set_cons_zero, List.set_cons_succ, startD, List.length_cons, List.length_nil, Nat.zero_add, l1, if_true, List.getElem?_cons_zero, List.getElem?_cons_succ, Option.bind_some, Option.map_some, ix2, ix3, hsl, ha, hx]
  rfl
theorem lt_stir (h s k c : Int) (cs : List Int) (m o3 o4 o5 o6 : Option Val) : ∃ z : Int,
    asgS (op2 addV (op2 addV (op2 mulV (op2 idxV (vr 0) (kI 1)) (kI 48271)) (op2 modV (opN intV (consA (vr 2) (M.pure []))) (kI 2147483647))) (op2 mulV (kI 7919) (op2 idxV (vr 0) (kI 2)))) (nmG 3) [some (bagv h s k cs), m, some (.d (.int c)), o3, o4, o5, o6] =
      some (.ok .nx, [some (bagv h s k cs), m, some (.d (.int c)), some (.d (.int z)), o4, o5, o6]) := by
  have e1 : mulV (.d (.int s)) (.d (.int 48271)) = some (.d (.int (s * 48271))) := mulV_r (by decide)
  have e2 : mulV (.d (.int 7919)) (.d (.int k)) = some (.d (.int (7919 * k))) := mulV_l (by decide)
  have e3 : modV (.d (.int c)) (.d (.int 2147483647)) = some (.d (.int (c % 2147483647))) := modV_r (by decide)
  refine ⟨s * 48271 + c % 2147483647 + 7919 * k, ?_⟩
  simp only [seqS, dropS, appS, extS, Nv.listAt, atSl, M.bind, M.pure, op1, op2, opN, getAll, kI, kS, kB, kN, fin, vr, Rs.get, Rs.own, Rs.dat, Rs.out, Rs.items, augS, asT, asgS, nmG, parS, retS, tupS, lstS, getDs, getOs, consA, starA, fzS, Val.fz, Val.fzL, ifS, addV_int, subV_int, andV_int, eqV_int, neV_int, neV_bool, mulV_r, modV_r, fdivV_r, shrV_r, ltV, leV, gtV, geV, cmp2, lenV, intV, absV, tupleV, listV, seqD, tmD, List.set_cons_zero, List.set_cons_succ, startD, List.getElem?_cons_zero, List.getElem?_cons_succ, Option.bind_some, Option.map_some, ix1, ix2, e1, e2, e3]
  rfl
theorem lt_put (h s k z : Int) (cs : List Int) (m o2 o4 o5 o6 : Option Val) :
    asgS (op2 modV (opN intV (consA (vr 3) (M.pure []))) (kI 2147483647)) (ixG 0 (kI 1)) [some (bagv h s k cs), m, o2, some (.d (.int z)), o4, o5, o6] =
      some (.ok .nx, [some (bagv h (z % 2147483647) k cs), m, o2, some (.d (.int z)), o4, o5, o6]) := by
  have e3 : modV (.d (.int z)) (.d (.int 2147483647)) = some (.d (.int (z % 2147483647))) := modV_r (by decide)
  simp only [seqS, dropS, appS, extS, Nv.listAt, atSl, M.bind, M.pure, op1, op2, opN, getAll, kI, kS, kB, kN, fin, vr, Rs.get, Rs.own, Rs.dat, Rs.out, Rs.items, augS, asT, asgS, nmG, parS, retS, tupS, lstS, getDs, getOs, consA, starA, fzS, Val.fz, Val.fzL, ifS, addV_int, subV_int, andV_int, eqV_int, neV_int, neV_bool, mulV_r, modV_r, fdivV_r, shrV_r, ltV, leV, gtV, geV, cmp2, lenV, intV, absV, tupleV, listV, seqD, tmD, List.set_cons_zero, List.set_cons_succ, startD, List.getElem?_cons_zero, List.getElem?_cons_succ, Option.bind_some, Option.map_some, e3]
  rfl
/-- the first part: a cell is drawn where nothing is left -/
theorem lt_first (h s k : Int) (cs : List Int) (g0 : 0 ≤ h) (g1 : 0 ≤ s) (g2 : 0 ≤ k) (hc : ∀ c ∈ cs, 0 ≤ c) (hl : cs.length ≤ 63) (m : Option Val) : ∃ (h' s' k' : Int) (o2 o3 : Option Val), 0 ≤ h' ∧ 0 ≤ s' ∧ 0 ≤ k' ∧
    ifS (asT (op2 eqV (op2 idxV (vr 0) (kI 0)) (kI 0)))
      (seqS (asgS (op2 idxV (op2 addV (slS (op2 idxV (vr 0) (kI 3)) (asI (op2 idxV (vr 0) (kI 2))) noP) (lstS (consA (kI 0) (M.pure [])))) (kI 0)) (nmG 2))
      (seqS (augIx 0 2 addI (kI 1))
      (seqS (ifS (asT (op2 geV (vr 2) (op2 powV (kI 10) (kI 18))))
      (seqS (asgS (vr 2) (ixG 0 (kI 0)))
      (M.pure .nx))
      (M.pure .nx))
      (seqS (asgS (op2 addV (op2 addV (op2 mulV (op2 idxV (vr 0) (kI 1)) (kI 48271)) (op2 modV (opN intV (consA (vr 2) (M.pure []))) (kI 2147483647))) (op2 mulV (kI 7919) (op2 idxV (vr 0) (kI 2)))) (nmG 3))
      (seqS (asgS (op2 modV (opN intV (consA (vr 3) (M.pure []))) (kI 2147483647)) (ixG 0 (kI 1)))
      (M.pure .nx))))))
      (M.pure .nx) [some (bagv h s k cs), m, none, none, none, none, none] = some (.ok .nx, [some (bagv h' s' k' cs), m, o2, o3, none, none, none]) := by
  have t1 : asT (op2 eqV (op2 idxV (vr 0) (kI 0)) (kI 0)) [some (bagv h s k cs), m, none, none, none, none, none] = some (.ok (h == 0), [some (bagv h s k cs), m, none, none, none, none, none]) := rfl
  by_cases hz : h = 0
  · rw [show (h == 0) = true by simp [hz]] at t1
    rw [ifS_t t1]
    obtain ⟨c, hc0, e1⟩ := lt_cell h s k cs hc hl m none none none none none
    rw [seq_nx e1]
    have e2 : augIx 0 2 addI (kI 1) [some (bagv h s k cs), m, some (.d (.int c)), none, none, none, none] = some (.ok .nx, [some (bagv h s (k + 1) cs), m, some (.d (.int c)), none, none, none, none]) := rfl
    rw [seq_nx e2]
    have t3 : asT (op2 geV (vr 2) (op2 powV (kI 10) (kI 18))) [some (bagv h s (k + 1) cs), m, some (.d (.int c)), none, none, none, none] = some (.ok (decide (10 ^ 18 ≤ c)), [some (bagv h s (k + 1) cs), m, some (.d (.int c)), none, none, none, none]) := by
      have e : powV (.d (.int 10)) (.d (.int 18)) = some (.d (.int (10 ^ 18))) := powV_r (i := 10) (j := 18) (by decide)
      simp only [seqS, dropS, appS, extS, Nv.listAt, atSl, M.bind, M.pure, op1, op2, opN, getAll, kI, kS, kB, kN, fin, vr, Rs.get, Rs.own, Rs.dat, Rs.out, Rs.items, augS, asT, asgS, nmG, parS, retS, tupS, lstS, getDs, getOs, consA, starA, fzS, Val.fz, Val.fzL, ifS, addV_int, subV_int, andV_int, eqV_int, neV_int, neV_bool, mulV_r, modV_r, fdivV_r, shrV_r, ltV, leV, gtV, geV, cmp2, lenV, intV, absV, tupleV, listV, seqD, tmD, List.set_cons_zero, List.set_cons_succ, startD, List.getElem?_cons_zero, List.getElem?_cons_succ, Option.bind_some, Option.map_some, e]
    obtain ⟨h', hh, e3⟩ : ∃ h' : Int, 0 ≤ h' ∧ ifS (asT (op2 geV (vr 2) (op2 powV (kI 10) (kI 18)))) (seqS (asgS (vr 2) (ixG 0 (kI 0))) (M.pure .nx)) (M.pure .nx) [some (bagv h s (k + 1) cs), m, some (.d (.int c)), none, none, none, none] = some (.ok .nx, [some (bagv h' s (k + 1) cs), m, some (.d (.int c)), none, none, none, none]) := by
      by_cases hb : 10 ^ 18 ≤ c
      · rw [decide_eq_true hb] at t3
        exact ⟨c, hc0, by rw [ifS_t t3]; rfl⟩
      · rw [decide_eq_false hb] at t3
        exact ⟨h, g0, by rw [ifS_f t3]; rfl⟩
    rw [seq_nx e3]
    obtain ⟨z, e4⟩ := lt_stir h' s (k + 1) c cs m none none none none
    rw [seq_nx e4, seq_nx (lt_put h' s (k + 1) z cs m (some (.d (.int c))) none none none)]
    exact ⟨h', z % 2147483647, k + 1, _, _, hh, Int.emod_nonneg _ (by decide), by omega, rfl⟩
  · rw [show (h == 0) = false by simp [hz]] at t1
    rw [ifS_f t1]
    exact ⟨h, s, k, none, none, g0, g1, g2, rfl⟩
theorem f__law_take {b : Val} (G : Good b) (many : Int) (h0 : 0 < many) (h1 : many < 2 ^ 64) : ∃ (v : Int) (b' : Val), 0 ≤ v ∧ v < many ∧ Good b' ∧ fs__law_take.fn [b, .d (.int many)] = some (.ok (.d (.int v)), [b']) := by
  obtain ⟨h, s, k, cs, rfl, g0, g1, g2, g3, g4⟩ := G.ex
  obtain ⟨h', s', k', o2, o3, q0, q1, q2, e1⟩ := lt_first h s k cs g0 g1 g2 g3 g4 (some (.d (.int many)))
  have hm : modV (.d (.int h')) (.d (.int many)) = some (.d (.int (h' % many))) := modV_r h0
  have hd : fdivV (.d (.int h')) (.d (.int many)) = some (.d (.int (h' / many))) := fdivV_r ⟨h0, h1⟩
  have t2 : asT (op2 gtV (op2 idxV (vr 0) (kI 0)) (kI 0)) [some (bagv h' s' k' cs), some (.d (.int many)), o2, o3, none, none, none] = some (.ok (decide (0 < h')), [some (bagv h' s' k' cs), some (.d (.int many)), o2, o3, none, none, none]) := rfl
  by_cases hp : 0 < h'
  · rw [decide_eq_true hp] at t2
    refine ⟨h' % many, bagv (h' / many) s' k' cs, Int.emod_nonneg _ (by omega), Int.emod_lt_of_pos _ h0, ⟨_, _, _, _, rfl, Int.ediv_nonneg q0 (by omega), q1, q2, g3, g4⟩, ?_⟩
    show endOf [0] (m__law_take [some (bagv h s k cs), some (.d (.int many)), none, none, none, none, none]) = _
    unfold m__law_take
    rw [seq_nx e1]
    have s2 : asgS (op2 modV (opN intV (consA (op2 idxV (vr 0) (kI 0)) (M.pure []))) (vr 1)) (nmG 4) [some (bagv h' s' k' cs), some (.d (.int many)), o2, o3, none, none, none] = some (.ok .nx, [some (bagv h' s' k' cs), some (.d (.int many)), o2, o3, some (.d (.int (h' % many))), none, none]) := by
      simp only [seqS, dropS, appS, extS, Nv.listAt, atSl, M.bind, M.pure, op1, op2, opN, getAll, kI, kS, kB, kN, fin, vr, Rs.get, Rs.own, Rs.dat, Rs.out, Rs.items, augS, asT, asgS, nmG, parS, retS, tupS, lstS, getDs, getOs, consA, starA, fzS, Val.fz, Val.fzL, ifS, addV_int, subV_int, andV_int, eqV_int, neV_int, neV_bool, mulV_r, modV_r, fdivV_r, shrV_r, ltV, leV, gtV, geV, cmp2, lenV, intV, absV, tupleV, listV, seqD, tmD, List.set_cons_zero, List.set_cons_succ, startD, List.getElem?_cons_zero, List.getElem?_cons_succ, Option.bind_some, Option.map_some, ix0, hm]
      rfl
    have s3 : asgS (op2 fdivV (opN intV (consA (op2 idxV (vr 0) (kI 0)) (M.pure []))) (vr 1)) (ixG 0 (kI 0)) [some (bagv h' s' k' cs), some (.d (.int many)), o2, o3, some (.d (.int (h' % many))), none, none] = some (.ok .nx, [some (bagv (h' / many) s' k' cs), some (.d (.int many)), o2, o3, some (.d (.int (h' % many))), none, none]) := by
      simp only [seqS, dropS, appS, extS, Nv.listAt, atSl, M.bind, M.pure, op1, op2, opN, getAll, kI, kS, kB, kN, fin, vr, Rs.get, Rs.own, Rs.dat, Rs.out, Rs.items, augS, asT, asgS, nmG, parS, retS, tupS, lstS, getDs, getOs, consA, starA, fzS, Val.fz, Val.fzL, ifS, addV_int, subV_int, andV_int, eqV_int, neV_int, neV_bool, mulV_r, modV_r, fdivV_r, shrV_r, ltV, leV, gtV, geV, cmp2, lenV, intV, absV, tupleV, listV, seqD, tmD, List.set_cons_zero, List.set_cons_succ, startD, List.getElem?_cons_zero, List.getElem?_cons_succ, Option.bind_some, Option.map_some, ix0, hd]
      rfl
    have s4 : retS (vr 4) [some (bagv (h' / many) s' k' cs), some (.d (.int many)), o2, o3, some (.d (.int (h' % many))), none, none] = some (.ok (.rt (.d (.int (h' % many)))), [some (bagv (h' / many) s' k' cs), some (.d (.int many)), o2, o3, some (.d (.int (h' % many))), none, none]) := rfl
    rw [seq_rt (t := ifS _ _ _) (by rw [ifS_t t2, seq_nx s2, seq_nx s3, seq_rt s4])]
    rfl
  · rw [decide_eq_false hp] at t2
    have eb : mulV (.d (.int (s' + 1))) (.d (.int 39373)) = some (.d (.int ((s' + 1) * 39373))) := mulV_r (by decide)
    have em : modV (.d (.int ((s' + 1) * 39373))) (.d (.int 1000000007)) = some (.d (.int ((s' + 1) * 39373 % 1000000007))) := modV_r (by decide)
    obtain ⟨B, hB⟩ : ∃ B, B = (s' + 1) * 39373 % 1000000007 := ⟨_, rfl⟩
    have b0 : 0 ≤ B := by rw [hB]; exact Int.emod_nonneg _ (by decide)
    have b1 : B < 1000000007 := by rw [hB]; exact Int.emod_lt_of_pos _ (by decide)
    rw [← hB] at em
    have e5 : mulV (.d (.int B)) (.d (.int B)) = some (.d (.int (B * B))) := mulV_r ⟨by omega, by omega⟩
    have e6 : modV (.d (.int (B * B))) (.d (.int 998244353)) = some (.d (.int (B * B % 998244353))) := modV_r (by decide)
    have e7 : mulV (.d (.int (B * B % 998244353))) (.d (.int 30011)) = some (.d (.int (B * B % 998244353 * 30011))) := mulV_r (by decide)
    have e8 : modV (.d (.int (B * B % 998244353 * 30011))) (.d (.int 998244353)) = some (.d (.int (B * B % 998244353 * 30011 % 998244353))) := modV_r (by decide)
    obtain ⟨S, hS⟩ : ∃ S, S = B * B % 998244353 * 30011 % 998244353 := ⟨_, rfl⟩
    rw [← hS] at e8
    have e9 : fdivV (.d (.int S)) (.d (.int 7)) = some (.d (.int (S / 7))) := fdivV_r (by decide)
    have e10 : modV (.d (.int (S / 7))) (.d (.int many)) = some (.d (.int (S / 7 % many))) := modV_r h0
    refine ⟨S / 7 % many, bagv h' s' k' cs, Int.emod_nonneg _ (by omega), Int.emod_lt_of_pos _ h0, ⟨_, _, _, _, rfl, q0, q1, q2, g3, g4⟩, ?_⟩
    show endOf [0] (m__law_take [some (bagv h s k cs), some (.d (.int many)), none, none, none, none, none]) = _
    unfold m__law_take
    rw [seq_nx e1]
    have s1 : ifS (asT (op2 gtV (op2 idxV (vr 0) (kI 0)) (kI 0)))
      (seqS (asgS (op2 modV (opN intV (consA (op2 idxV (vr 0) (kI 0)) (M.pure []))) (vr 1)) (nmG 4))
      (seqS (asgS (op2 fdivV (opN intV (consA (op2 idxV (vr 0) (kI 0)) (M.pure []))) (vr 1)) (ixG 0 (kI 0)))
      (seqS (retS (vr 4))
      (M.pure .nx))))
      (M.pure .nx) [some (bagv h' s' k' cs), some (.d (.int many)), o2, o3, none, none, none] = some (.ok .nx, [some (bagv h' s' k' cs), some (.d (.int many)), o2, o3, none, none, none]) := by rw [ifS_f t2]; rfl
    have s2 : asgS (op2 modV (opN intV (consA (op2 mulV (op2 addV (op2 idxV (vr 0) (kI 1)) (kI 1)) (kI 39373)) (M.pure []))) (kI 1000000007)) (nmG 5) [some (bagv h' s' k' cs), some (.d (.int many)), o2, o3, none, none, none] = some (.ok .nx, [some (bagv h' s' k' cs), some (.d (.int many)), o2, o3, none, some (.d (.int B)), none]) := by
      simp only [seqS, dropS, appS, extS, Nv.listAt, atSl, M.bind, M.pure, op1, op2, opN, getAll, kI, kS, kB, kN, fin, vr, Rs.get, Rs.own, Rs.dat, Rs.out, Rs.items, augS, asT, asgS, nmG, parS, retS, tupS, lstS, getDs, getOs, consA, starA, fzS, Val.fz, Val.fzL, ifS, addV_int, subV_int, andV_int, eqV_int, neV_int, neV_bool, mulV_r, modV_r, fdivV_r, shrV_r, ltV, leV, gtV, geV, cmp2, lenV, intV, absV, tupleV, listV, seqD, tmD, List.set_cons_zero, List.set_cons_succ, startD, List.getElem?_cons_zero, List.getElem?_cons_succ, Option.bind_some, Option.map_some, ix1, eb, em]
      rfl
    have s3 : asgS (op2 modV (opN intV (consA (op2 mulV (op2 modV (opN intV (consA (op2 mulV (vr 5) (vr 5)) (M.pure []))) (kI 998244353)) (kI 30011)) (M.pure []))) (kI 998244353)) (nmG 6) [some (bagv h' s' k' cs), some (.d (.int many)), o2, o3, none, some (.d (.int B)), none] = some (.ok .nx, [some (bagv h' s' k' cs), some (.d (.int many)), o2, o3, none, some (.d (.int B)), some (.d (.int S))]) := by
      simp only [seqS, dropS, appS, extS, Nv.listAt, atSl, M.bind, M.pure, op1, op2, opN, getAll, kI, kS, kB, kN, fin, vr, Rs.get, Rs.own, Rs.dat, Rs.out, Rs.items, augS, asT, asgS, nmG, parS, retS, tupS, lstS, getDs, getOs, consA, starA, fzS, Val.fz, Val.fzL, ifS, addV_int, subV_int, andV_int, eqV_int, neV_int, neV_bool, mulV_r, modV_r, fdivV_r, shrV_r, ltV, leV, gtV, geV, cmp2, lenV, intV, absV, tupleV, listV, seqD, tmD, List.set_cons_zero, List.set_cons_succ, startD, List.getElem?_cons_zero, List.getElem?_cons_succ, Option.bind_some, Option.map_some, e5, e6, e7, e8]
      rfl
    have s4 : retS (op2 modV (opN intV (consA (op2 fdivV (vr 6) (kI 7)) (M.pure []))) (vr 1)) [some (bagv h' s' k' cs), some (.d (.int many)), o2, o3, none, some (.d (.int B)), some (.d (.int S))] = some (.ok (.rt (.d (.int (S / 7 % many)))), [some (bagv h' s' k' cs), some (.d (.int many)), o2, o3, none, some (.d (.int B)), some (.d (.int S))]) := by
      simp only [seqS, dropS, appS, extS, Nv.listAt, atSl, M.bind, M.pure, op1, op2, opN, getAll, kI, kS, kB, kN, fin, vr, Rs.get, Rs.own, Rs.dat, Rs.out, Rs.items, augS, asT, asgS, nmG, parS, retS, tupS, lstS, getDs, getOs, consA, starA, fzS, Val.fz, Val.fzL, ifS, addV_int, subV_int, andV_int, eqV_int, neV_int, neV_bool, mulV_r, modV_r, fdivV_r, shrV_r, ltV, leV, gtV, geV, cmp2, lenV, intV, absV, tupleV, listV, seqD, tmD, List.set_cons_zero, List.set_cons_succ, startD, List.getElem?_cons_zero, List.getElem?_cons_succ, Option.bind_some, Option.map_some, e9, e10]
    rw [seq_nx s1, seq_nx s2, seq_nx s3, seq_rt s4]
    rfl
/-- one of ints -/
theorem f__law_some {b : Val} (G : Good b) (xs : List Int) (h0 : 0 < xs.length) (h1 : xs.length < 1000) : ∃ (v : Int) (b' : Val), v ∈ xs ∧ Good b' ∧ fs__law_some.fn [b, .ol (xs.map fun i => Val.d (.int i))] = some (.ok (.d (.int v)), [b']) := by
  obtain ⟨i, b', i0, i1, G', e⟩ := f__law_take G (xs.length : Nat) (by omega) (by omega)
  have hi : i.toNat < xs.length := by omega
  refine ⟨xs[i.toNat], b', List.getElem_mem hi, G', ?_⟩
  show endOf [0] (m__law_some [some b, some (.ol (xs.map fun i => Val.d (.int i)))]) = _
  have e1 := ev_callM (F := fs__law_take) (i := 0) (tb := opN lenV (consA (vr 1) (M.pure []))) (δ := [some b, some (.ol (xs.map fun i => Val.d (.int i)))]) (δ1 := [some b, some (.ol (xs.map fun i => Val.d (.int i)))]) (a := b) (b := b) (b' := b') (r := .tm (.d (.int (xs.length : Nat)))) (y := .d (.int (xs.length : Nat))) (v := .d (.int i)) rfl rfl (by
    simp only [seqS, dropS, appS, extS, Nv.listAt, atSl, M.bind, M.pure, op1, op2, opN, getAll, kI, kS, kB, kN, fin, vr, Rs.get, Rs.own, Rs.dat, Rs.out, Rs.items, augS, asT, asgS, nmG, parS, retS, tupS, lstS, getDs, getOs, consA, starA, fzS, Val.fz, Val.fzL, ifS, addV_int, subV_int, andV_int, eqV_int, neV_int, neV_bool, mulV_r, modV_r, fdivV_r, shrV_r, ltV, leV, gtV, geV, cmp2, lenV, intV, absV, tupleV, listV, seqD, tmD, List.set_cons_zero, List.set_cons_succ, startD, List.getElem?_cons_zero, List.getElem?_cons_succ, Option.bind_some, Option.map_some, List.length_map]) rfl rfl e
  have hx : idxV (.ol (xs.map fun i => Val.d (.int i))) (.d (.int i)) = some (.d (.int xs[i.toNat])) := by
    show (match L2.atI (xs.map fun i => Val.d (.int i)) i with | some (.d y) => some (Val.d y) | _ => none) = _
    have : L2.atI (xs.map fun i => Val.d (.int i)) i = some (Val.d (.int xs[i.toNat])) := by
      unfold L2.atI L2.ixN
      rw [List.length_map, if_pos i0, if_pos i1]
      simp [hi]
    rw [this]
  have s1 : retS (op2 idxV (vr 1) (callS fs__law_take (consA (vr 0) (consA (opN lenV (consA (vr 1) (M.pure []))) (M.pure []))))) [some b, some (.ol (xs.map fun i => Val.d (.int i)))] = some (.ok (.rt (.d (.int xs[i.toNat]))), [some b', some (.ol (xs.map fun i => Val.d (.int i)))]) := by
    unfold retS
    rw [bind_ok (a := .tm (.d (.int xs[i.toNat]))) (δ1 := [some b', some (.ol (xs.map fun i => Val.d (.int i)))]) ?_]
    · rfl
    · unfold op2
      rw [bind_ok (a := .sl 1) (δ1 := [some b, some (.ol (xs.map fun i => Val.d (.int i)))]) rfl, bind_ok e1]
      show fin ((Rs.get (.sl 1) [some b', some (.ol (xs.map fun i => Val.d (.int i)))]).bind fun x => (Rs.get (.tm (.d (.int i))) _).bind fun y => idxV x y) _ = _
      simp only [Rs.get, atSl, List.getElem?_cons_succ, List.getElem?_cons_zero, Option.bind_some, hx]
      rfl
  unfold m__law_some
  rw [seq_rt s1]
  rfl
end K43

set_option Elab.async false
set_option linter.all false
set_option maxRecDepth 100000
set_option maxHeartbeats 4000000
namespace K43
open PySem Nv
variable [Tbs]
/-! ### _law_bag -/
def ab (i : Int) : Int := if i < 0 then -i else i
theorem ab_nn (i : Int) : 0 ≤ ab i := by unfold ab; split <;> omega
theorem lb_loop (a : Option Val) : ∀ (L : List Int) (acc : List Val), acc.length + L.length ≤ 63 →
    lcL [1] (nmG 1) (M.pure true) (opN absV (consA (vr 1) (M.pure []))) (L.map .int) acc [a, none] = some (acc ++ (L.map fun i => Val.d (.int (ab i))), [a, none])
  | [], acc, h => by simp [lcL]
  | i :: L, acc, h => by
    have hz : acc.length < sizeLine := Nat.lt_of_lt_of_le (show acc.length < 64 by simp at h; omega) (by decide)
    have e : (opN absV (consA (vr 1) (M.pure []))) [a, some (.d (.int i))] = some (.ok (.tm (.d (.int (ab i)))), [a, some (.d (.int i))]) := rfl
    have ih := lb_loop a L (acc ++ [.d (.int (ab i))]) (by simp at h ⊢; omega)
    rw [List.map_cons, lcL]
    show (match (opN absV (consA (vr 1) (M.pure []))) [a, some (.d (.int i))] with | some (.ok r, δ3) => _ | _ => none) = _
    rw [e]
    show (if acc.length < sizeLine then lcL [1] (nmG 1) (M.pure true) (opN absV (consA (vr 1) (M.pure []))) (L.map .int) (acc ++ [.d (.int (ab i))]) [a, none] else none) = _
    rw [if_pos hz, ih]
    simp
theorem fzL_ints (xs : List Int) : Val.fzL (xs.map fun i => Val.d (.int i)) = xs.map .int := by
  rw [Val.fzL_map, List.map_map]; rfl
theorem f__law_bag (ns : List Int) : ∃ b, Good b ∧ fs__law_bag.fn [.d (.list (ns.map .int))] = some (.ok b, []) := by
  refine ⟨bagv 0 1234567891 0 ((ns.take 63).map ab), ⟨_, _, _, _, rfl, by decide, by decide, by decide, fun c hc => ?_, by simp; omega⟩, ?_⟩
  · obtain ⟨i, _, rfl⟩ := List.mem_map.mp hc
    exact ab_nn i
  · show endOf [] (m__law_bag [some (.d (.list (ns.map .int))), none]) = _
    have hcut : cutA (ns.map PyData.int) none (some 63) = (ns.take 63).map .int := by
      unfold cutA
      show (List.drop 0 (ns.map PyData.int)).take (min 63 (ns.map PyData.int).length - 0) = _
      rw [List.drop_zero, Nat.sub_zero, List.map_take]
      simp
    have hsl : slV none (some 63) (.d (.list (ns.map .int))) = some (.ol ((ns.take 63).map fun i => Val.d (.int i))) := by
      show some (Val.ol ((cutA (ns.map PyData.int) none (some 63)).map Val.d)) = _
      rw [hcut, List.map_map]; rfl
    have e1 : seqI (slS (vr 0) noP (asI (kI 63))) [some (.d (.list (ns.map .int))), none] = some (.ok ((ns.take 63).map .int), [some (.d (.list (ns.map .int))), none]) := by
      have := allD_ints (ns.take 63)
      simp only [seqI, lstD, slS, noP, asI, seqS, dropS, appS, extS, Nv.listAt, atSl, M.bind, M.pure, op1, op2, opN, getAll, kI, kS, kB, kN, fin, vr, Rs.get, Rs.own, Rs.dat, Rs.out, Rs.items, augS, asT, asgS, nmG, parS, retS, tupS, lstS, getDs, getOs, consA, starA, fzS, Val.fz, Val.fzL, ifS, addV_int, subV_int, andV_int, eqV_int, neV_int, neV_bool, mulV_r, modV_r, fdivV_r, shrV_r, ltV, leV, gtV, geV, cmp2, lenV, intV, absV, tupleV, listV, seqD, tmD, List.set_cons_zero, List.set_cons_succ, startD, List.getElem?_cons_zero, Option.bind_some, Option.map_some, hsl, this]
    have e2 : lcS [1] (seqI (slS (vr 0) noP (asI (kI 63)))) (nmG 1) (M.pure true) (opN absV (consA (vr 1) (M.pure []))) [some (.d (.list (ns.map .int))), none] = some (.ok (.tm (.ol ((ns.take 63).map fun i => Val.d (.int (ab i))))), [some (.d (.list (ns.map .int))), none]) := by
      unfold lcS
      rw [bind_ok e1]
      have := lb_loop (some (.d (.list (ns.map .int)))) (ns.take 63) [] (by simp; omega)
      show (match lcL [1] (nmG 1) (M.pure true) (opN absV (consA (vr 1) (M.pure []))) ((ns.take 63).map .int) [] [some (.d (.list (ns.map .int))), none] with | some (acc, δ') => _ | none => none) = _
      rw [this]; rfl
    have e3 : fzS (lcS [1] (seqI (slS (vr 0) noP (asI (kI 63)))) (nmG 1) (M.pure true) (opN absV (consA (vr 1) (M.pure [])))) [some (.d (.list (ns.map .int))), none] = some (.ok (.tm (.d (.list (((ns.take 63).map ab).map .int)))), [some (.d (.list (ns.map .int))), none]) := by
      unfold fzS
      rw [bind_ok e2]
      show some (Except.ok (Rs.tm (.d (.list (Val.fzL ((ns.take 63).map fun i => Val.d (.int (ab i))))))), _) = _
      have := fzL_ints ((ns.take 63).map ab)
      rw [List.map_map] at this
      rw [show ((ns.take 63).map fun i => Val.d (.int (ab i))) = (ns.take 63).map ((fun i => Val.d (.int i)) ∘ ab) from rfl, this]
    unfold m__law_bag retS lstS
    rw [seq_rt (v := bagv 0 1234567891 0 ((ns.take 63).map ab)) (δ1 := [some (.d (.list (ns.map .int))), none])]
    · rfl
    · have e4 : consA (kI 0) (consA (kI 1234567891) (consA (kI 0) (consA (fzS (lcS [1] (seqI (slS (vr 0) noP (asI (kI 63)))) (nmG 1) (M.pure true) (opN absV (consA (vr 1) (M.pure []))))) (M.pure [])))) [some (.d (.list (ns.map .int))), none] =
          some (.ok [.tm (.d (.int 0)), .tm (.d (.int 1234567891)), .tm (.d (.int 0)), .tm (.d (.list (((ns.take 63).map ab).map .int)))], [some (.d (.list (ns.map .int))), none]) := ev_cons rfl (ev_cons rfl (ev_cons rfl (ev_one e3)))
      rw [bind_ok (a := .tm (bagv 0 1234567891 0 ((ns.take 63).map ab))) (δ1 := [some (.d (.list (ns.map .int))), none])]
      · rfl
      · rw [bind_ok e4]; rfl
/-! ### _law_alike -/
mutual
def nodes : PyData → Nat
  | .list xs => nodesL xs + 1
  | .tuple xs => nodesL xs + 1
  | _ => 1
def nodesL : List PyData → Nat
  | [] => 0
  | x :: xs => nodes x + nodesL xs
end
mutual
def plainB : PyData → Bool
  | .int _ => true
  | .bool _ => true
  | .list xs => plainL xs
  | .tuple xs => plainL xs
  | _ => false
def plainL : List PyData → Bool
  | [] => true
  | x :: xs => plainB x && plainL xs
end
theorem nodesL_app : ∀ xs ys : List PyData, nodesL (xs ++ ys) = nodesL xs + nodesL ys
  | [], ys => by simp [nodesL]
  | x :: xs, ys => by rw [List.cons_append, nodesL, nodesL, nodesL_app xs ys]; omega
theorem plainL_app : ∀ xs ys : List PyData, plainL (xs ++ ys) = (plainL xs && plainL ys)
  | [], ys => by simp [plainL]
  | x :: xs, ys => by rw [List.cons_append, plainL, plainL, plainL_app xs ys, Bool.and_assoc]
theorem nodes_pos : ∀ x : PyData, 1 ≤ nodes x := fun x => by cases x <;> simp [nodes]
theorem len_nodes : ∀ xs : List PyData, xs.length ≤ nodesL xs
  | [] => by simp [nodesL]
  | x :: xs => by have := len_nodes xs; have := nodes_pos x; simp [nodesL]; omega
def cpl (x : PyData) : PyData := .tuple [x, x]
theorem zip_self : ∀ xs : List PyData, zipD xs xs = xs.map cpl
  | [] => rfl
  | x :: xs => by
    have := zip_self xs
    unfold zipD at this ⊢
    rw [List.zip_cons_cons, List.map_cons, this]
    rfl
abbrev tcA : M Bool := asT (op2 ltV (vr 3) (opN lenV (consA (vr 2) (M.pure []))))
abbrev bA1 : SS := asgS (op2 idxV (vr 2) (vr 3)) (tupG 2 (consG (nmG 4) (consG (nmG 5) nilG)))
abbrev bA2 : SS := augS 3 addI (kI 1)
abbrev bA3 : SS := ifS (orT (asT (op2 neV (op1 (isiV ["bool"]) (vr 4)) (op1 (isiV ["bool"]) (vr 5)))) (asT (op2 neV (op1 (isiV ["str"]) (vr 4)) (op1 (isiV ["str"]) (vr 5)))))
  (seqS (retS (kB false))
  (M.pure .nx))
  (M.pure .nx)
abbrev bA4 : SS := ifS (asT (op2 neV (op1 (isiV ["tuple", "list"]) (vr 4)) (op1 (isiV ["tuple", "list"]) (vr 5))))
  (seqS (retS (kB false))
  (M.pure .nx))
  (M.pure .nx)
abbrev bA6 : SS := ifS (orT (asT (op2 neV (op1 (isiV ["tuple"]) (vr 4)) (op1 (isiV ["tuple"]) (vr 5)))) (asT (op2 neV (opN lenV (consA (vr 4) (M.pure []))) (opN lenV (consA (vr 5) (M.pure []))))))
  (seqS (retS (kB false))
  (M.pure .nx))
  (M.pure .nx)
abbrev bA7 : SS := dropS (extS 2 (opN lzV (consA (vr 4) (consA (vr 5) (M.pure [])))))
abbrev bA5 : SS := ifS (asT (op1 (isiV ["tuple", "list"]) (vr 4)))
  (seqS bA6
  (seqS bA7
  (M.pure .nx)))
  (seqS (ifS (asT (op2 neV (vr 4) (vr 5)))
  (seqS (retS (kB false))
  (M.pure .nx))
  (M.pure .nx))
  (M.pure .nx))
abbrev tbA : SS := (seqS bA1 (seqS bA2 (seqS bA3 (seqS bA4 (seqS bA5 (M.pure .nx))))))
theorem al_same (T : List String) (x : PyData) (b : Bool) (h : isiV T (.d x) = some (.d (.bool b))) (δ : Sl) (h4 : atSl δ 4 = some (.d x)) (h5 : atSl δ 5 = some (.d x)) : asT (op2 neV (op1 (isiV T) (vr 4)) (op1 (isiV T) (vr 5))) δ = some (.ok false, δ) := by
  have v4 : vr 4 δ = some (.ok (.sl 4), δ) := by unfold vr; rw [h4]
  have v5 : vr 5 δ = some (.ok (.sl 5), δ) := by unfold vr; rw [h5]
  have a4 : op1 (isiV T) (vr 4) δ = some (.ok (.tm (.d (.bool b))), δ) := by
    unfold op1; rw [bind_ok v4]; show fin ((atSl δ 4).bind (isiV T)) δ = _; rw [h4]; show fin (isiV T (.d x)) δ = _; rw [h]; rfl
  have a5 : op1 (isiV T) (vr 5) δ = some (.ok (.tm (.d (.bool b))), δ) := by
    unfold op1; rw [bind_ok v5]; show fin ((atSl δ 5).bind (isiV T)) δ = _; rw [h5]; show fin (isiV T (.d x)) δ = _; rw [h]; rfl
  unfold asT op2
  rw [bind_ok (a := .tm (.d (.bool false))) (δ1 := δ)]
  · rfl
  · rw [bind_ok a4, bind_ok a5]
    cases b <;> rfl
theorem al_body (f d : Option Val) (ps : List Val) (t : Nat) (x : PyData) (o4 o5 : Option Val) (hx : ps[t]? = some (.d (cpl x))) (hp : plainB x = true) (hb : ps.length + nodes x < 10000) :
    ∃ qs : List PyData, plainL qs = true ∧ nodesL qs + 1 = nodes x ∧ tbA [f, d, some (.ol ps), some (.d (.int (t : Nat))), o4, o5] = some (.ok .nx, [f, d, some (.ol (ps ++ qs.map fun y => .d (cpl y))), some (.d (.int ((t + 1 : Nat) : Int))), some (.d x), some (.d x)]) := by
  have ht : t < ps.length := (List.getElem?_eq_some_iff.mp hx).1
  have hi : idxV (.ol ps) (.d (.int (t : Nat))) = some (.d (cpl x)) := by
    show (match L2.atI ps (t : Nat) with | some (.d y) => some (Val.d y) | _ => none) = _
    have : L2.atI ps ((t : Nat) : Int) = some (.d (cpl x)) := by
      unfold L2.atI L2.ixN
      rw [if_pos (by omega), if_pos (by omega)]
      simpa using hx
    rw [this]
  have e1 : bA1 [f, d, some (.ol ps), some (.d (.int (t : Nat))), o4, o5] = some (.ok .nx, [f, d, some (.ol ps), some (.d (.int (t : Nat))), some (.d x), some (.d x)]) := by
    simp only [bA1, seqS, dropS, appS, extS, Nv.listAt, atSl, M.bind, M.pure, op1, op2, opN, getAll, kI, kS, kB, kN, fin, vr, Rs.get, Rs.own, Rs.dat, Rs.out, Rs.items, augS, asT, asgS, nmG, parS, retS, tupS, lstS, getDs, getOs, consA, starA, fzS, Val.fz, Val.fzL, ifS, addV_int, subV_int, andV_int, eqV_int, neV_int, neV_bool, mulV_r, modV_r, fdivV_r, shrV_r, ltV, leV, gtV, geV, cmp2, lenV, intV, absV, tupleV, listV, seqD, tmD, List.set_cons_zero, List.set_cons_succ, startD, List.getElem?_cons_zero, List.getElem?_cons_succ, Option.bind_some, Option.map_some, hi]
    rfl
  have e2 : bA2 [f, d, some (.ol ps), some (.d (.int (t : Nat))), some (.d x), some (.d x)] = some (.ok .nx, [f, d, some (.ol ps), some (.d (.int ((t + 1 : Nat) : Int))), some (.d x), some (.d x)]) := rfl
  obtain ⟨δ, hδ⟩ : ∃ δ, δ = [f, d, some (.ol ps), some (.d (.int ((t + 1 : Nat) : Int))), some (.d x), some (.d x)] := ⟨_, rfl⟩
  have h4 : atSl δ 4 = some (.d x) := by rw [hδ]; rfl
  have h5 : atSl δ 5 = some (.d x) := by rw [hδ]; rfl
  have e3 : ∀ (b1 b2 : Bool), isiV ["bool"] (.d x) = some (.d (.bool b1)) → isiV ["str"] (.d x) = some (.d (.bool b2)) → bA3 δ = some (.ok .nx, δ) := fun b1 b2 q1 q2 => by
    unfold bA3
    rw [ifS_f (δ1 := δ)]
    · rfl
    · unfold orT; rw [bind_ok (al_same _ _ _ q1 δ h4 h5)]; exact al_same _ _ _ q2 δ h4 h5
  have e4 : ∀ (b1 : Bool), isiV ["tuple", "list"] (.d x) = some (.d (.bool b1)) → bA4 δ = some (.ok .nx, δ) := fun b1 q1 => by
    unfold bA4
    rw [ifS_f (al_same _ _ _ q1 δ h4 h5)]; rfl
  have v4 : vr 4 δ = some (.ok (.sl 4), δ) := by unfold vr; rw [h4]
  have v5 : vr 5 δ = some (.ok (.sl 5), δ) := by unfold vr; rw [h5]
  have e5 : ∀ (b1 : Bool), isiV ["tuple", "list"] (.d x) = some (.d (.bool b1)) → asT (op1 (isiV ["tuple", "list"]) (vr 4)) δ = some (.ok b1, δ) := fun b1 q1 => by
    unfold asT op1
    rw [bind_ok (a := .tm (.d (.bool b1))) (δ1 := δ)]
    · rfl
    · rw [bind_ok v4]; show fin ((atSl δ 4).bind (isiV ["tuple", "list"])) δ = _; rw [h4]; show fin (isiV ["tuple", "list"] (.d x)) δ = _; rw [q1]; rfl
  have leaf : isiV ["tuple", "list"] (.d x) = some (.d (.bool false)) → neV (.d x) (.d x) = some (.d (.bool false)) → bA5 δ = some (.ok .nx, δ) := fun q1 q2 => by
    unfold bA5
    rw [ifS_f (e5 _ q1), seq_nx (δ1 := δ)]
    · rfl
    · rw [ifS_f (δ1 := δ)]
      · rfl
      · unfold asT op2
        rw [bind_ok (a := .tm (.d (.bool false))) (δ1 := δ)]
        · rfl
        · rw [bind_ok v4, bind_ok v5]; show fin ((atSl δ 4).bind fun x => (atSl δ 5).bind fun y => neV x y) δ = _; rw [h4, h5]; show fin (neV (.d x) (.d x)) δ = _; rw [q2]; rfl
  have node : ∀ (xs : List PyData) (b1 : Bool), isiV ["tuple", "list"] (.d x) = some (.d (.bool true)) → isiV ["tuple"] (.d x) = some (.d (.bool b1)) → lenV [.d x] = some (.d (.int (xs.length : Nat))) → lzV [.d x, .d x] = some (.ol ((zipD xs xs).map Val.d)) → ps.length + xs.length ≤ sizeLine →
      bA5 δ = some (.ok .nx, [f, d, some (.ol (ps ++ xs.map fun y => .d (cpl y))), some (.d (.int ((t + 1 : Nat) : Int))), some (.d x), some (.d x)]) := fun xs b1 q1 q2 q3 q4 q5 => by
    unfold bA5
    rw [ifS_t (e5 _ q1)]
    have l4 : opN lenV (consA (vr 4) (M.pure [])) δ = some (.ok (.tm (.d (.int (xs.length : Nat)))), δ) := by
      unfold opN; rw [bind_ok (a := [.sl 4]) (δ1 := δ) (by unfold consA; rw [bind_ok v4]; rfl)]; show fin ((getAll [.sl 4] δ).bind lenV) δ = _; simp only [getAll, Rs.get, h4, Option.bind_some, q3]; rfl
    have l5 : opN lenV (consA (vr 5) (M.pure [])) δ = some (.ok (.tm (.d (.int (xs.length : Nat)))), δ) := by
      unfold opN; rw [bind_ok (a := [.sl 5]) (δ1 := δ) (by unfold consA; rw [bind_ok v5]; rfl)]; show fin ((getAll [.sl 5] δ).bind lenV) δ = _; simp only [getAll, Rs.get, h5, Option.bind_some, q3]; rfl
    rw [seq_nx (δ1 := δ)]
    · rw [seq_nx (δ1 := [f, d, some (.ol (ps ++ xs.map fun y => .d (cpl y))), some (.d (.int ((t + 1 : Nat) : Int))), some (.d x), some (.d x)])]
      · rfl
      · have z1 : opN lzV (consA (vr 4) (consA (vr 5) (M.pure []))) δ = some (.ok (.tm (.ol ((zipD xs xs).map Val.d))), δ) := by
          unfold opN; rw [bind_ok (a := [.sl 4, .sl 5]) (δ1 := δ) (by unfold consA; rw [bind_ok v4, bind_ok (a := [.sl 5]) (δ1 := δ) (by rw [bind_ok v5]; rfl)]; rfl)]; show fin ((getAll [.sl 4, .sl 5] δ).bind lzV) δ = _; simp only [getAll, Rs.get, h4, h5, Option.bind_some, q4]; rfl
        unfold bA7 dropS
        rw [bind_ok (a := .tm (.d .none)) (δ1 := [f, d, some (.ol (ps ++ xs.map fun y => .d (cpl y))), some (.d (.int ((t + 1 : Nat) : Int))), some (.d x), some (.d x)])]
        · rfl
        · have la : Nv.listAt 2 δ = some ps := by rw [hδ]; rfl
          unfold extS
          rw [la]
          show M.bind _ _ δ = _
          rw [bind_ok z1]
          show (match Nv.listAt 2 δ, some ((zipD xs xs).map Val.d) with | some xs, some ys => _ | _, _ => none) = _
          rw [la]
          show (if ps.length + ((zipD xs xs).map Val.d).length ≤ sizeLine then some (Except.ok (Rs.tm (.d .none)), δ.set 2 (some (.ol (ps ++ (zipD xs xs).map Val.d)))) else none) = _
          rw [zip_self, List.map_map, if_pos (by simpa using q5), hδ]
          rfl
    · unfold bA6
      rw [ifS_f (δ1 := δ)]
      · rfl
      · unfold orT
        rw [bind_ok (al_same _ _ _ q2 δ h4 h5)]
        show asT _ δ = _
        unfold asT op2
        rw [bind_ok (a := .tm (.d (.bool false))) (δ1 := δ)]
        · rfl
        · rw [bind_ok l4, bind_ok l5]
          show fin (neV (.d (.int (xs.length : Nat))) (.d (.int (xs.length : Nat)))) δ = _
          rw [neV_int]; simp; rfl
  have big : (10000 : Nat) ≤ sizeLine := by decide
  cases x with
  | int i =>
    refine ⟨[], rfl, rfl, ?_⟩
    show seqS _ _ _ = _
    rw [seq_nx e1, seq_nx e2, ← hδ, seq_nx (e3 false false rfl rfl), seq_nx (e4 false rfl), seq_nx (leaf rfl (by rw [neV_int]; simp)), hδ]
    simp [M.pure]
  | bool i =>
    refine ⟨[], rfl, rfl, ?_⟩
    show seqS _ _ _ = _
    rw [seq_nx e1, seq_nx e2, ← hδ, seq_nx (e3 true false rfl rfl), seq_nx (e4 false rfl), seq_nx (leaf rfl (by rw [neV_bool]; simp)), hδ]
    simp [M.pure]
  | tuple xs =>
    have := len_nodes xs
    refine ⟨xs, hp, rfl, ?_⟩
    show seqS _ _ _ = _
    rw [seq_nx e1, seq_nx e2, ← hδ, seq_nx (e3 false false rfl rfl), seq_nx (e4 true rfl), seq_nx (node xs true rfl rfl rfl rfl (by simp only [nodes] at hb; omega))]
    rfl
  | list xs =>
    have := len_nodes xs
    refine ⟨xs, hp, rfl, ?_⟩
    show seqS _ _ _ = _
    rw [seq_nx e1, seq_nx e2, ← hδ, seq_nx (e3 false false rfl rfl), seq_nx (e4 true rfl), seq_nx (node xs false rfl rfl rfl rfl (by simp only [nodes] at hb; omega))]
    rfl
  | none => cases hp
  | str _ => cases hp
  | dict _ => cases hp
theorem al_loop (f d : Option Val) : ∀ (N : Nat) (ps : List Val) (W : List PyData) (t : Nat) (o4 o5 : Option Val), nodesL W ≤ N → ps.drop t = W.map (fun y => Val.d (cpl y)) → t ≤ ps.length → plainL W = true → ps.length + nodesL W < 9999 + W.length →
    ∃ p t' a b, whileS tcA tbA [f, d, some (.ol ps), some (.d (.int (t : Nat))), o4, o5] = some (.ok .nx, [f, d, p, t', a, b]) := by
  intro N
  induction N with
  | zero =>
    intro ps W t o4 o5 hN hd ht hp hb
    cases W with
    | cons x W => have := nodes_pos x; simp [nodesL] at hN; omega
    | nil =>
      have hl : ps.length ≤ t := by simpa using hd
      have tc : tcA [f, d, some (.ol ps), some (.d (.int (t : Nat))), o4, o5] = some (.ok (decide ((t : Int) < (ps.length : Nat))), [f, d, some (.ol ps), some (.d (.int (t : Nat))), o4, o5]) := rfl
      rw [decide_eq_false (by omega)] at tc
      exact ⟨_, _, _, _, while_end tc⟩
  | succ N ih =>
    intro ps W t o4 o5 hN hd ht hp hb
    have tc : tcA [f, d, some (.ol ps), some (.d (.int (t : Nat))), o4, o5] = some (.ok (decide ((t : Int) < (ps.length : Nat))), [f, d, some (.ol ps), some (.d (.int (t : Nat))), o4, o5]) := rfl
    cases W with
    | nil =>
      have hl : ps.length ≤ t := by simpa using hd
      rw [decide_eq_false (by omega)] at tc
      exact ⟨_, _, _, _, while_end tc⟩
    | cons x W =>
      have hlt : t < ps.length := by
        refine Classical.byContradiction fun h => ?_
        rw [List.drop_eq_nil_of_le (by omega)] at hd
        simp at hd
      rw [decide_eq_true (by omega)] at tc
      have hx : ps[t]? = some (.d (cpl x)) := by
        have := congrArg (·[0]?) hd
        simpa [List.getElem?_drop] using this
      rw [plainL, Bool.and_eq_true] at hp
      rw [nodesL] at hN hb
      have hW := len_nodes W
      obtain ⟨qs, q1, q2, q3⟩ := al_body f d ps t x o4 o5 hx hp.1 (by simp only [List.length_cons] at hb; omega)
      have := nodes_pos x
      have z1 : (ps ++ qs.map fun y => Val.d (cpl y)).drop (t + 1) = (W ++ qs).map fun y => Val.d (cpl y) := by
        rw [List.drop_append_of_le_length (by omega), List.map_append]
        have := congrArg List.tail hd
        rw [List.tail_drop] at this
        rw [this]
        rfl
      have z2 : (ps ++ qs.map fun y => Val.d (cpl y)).length + nodesL (W ++ qs) < 9999 + (W ++ qs).length := by
        rw [nodesL_app, List.length_append, List.length_map, List.length_append]
        simp only [List.length_cons] at hb
        have := len_nodes qs
        omega
      obtain ⟨p, t', a, b, e⟩ := ih (ps ++ qs.map fun y => .d (cpl y)) (W ++ qs) (t + 1) (some (.d x)) (some (.d x)) (by rw [nodesL_app]; omega) z1 (by simp; omega) (by rw [plainL_app, hp.2, q1]; rfl) z2
      exact ⟨p, t', a, b, by rw [while_step tc q3]; exact e⟩
theorem f__law_alike (x : PyData) (hp : plainB x = true) (hb : 2 * nodes x < 9000) : fs__law_alike.fn [.d x, .d x] = some (.ok (.d (.bool true)), []) := by
  show endOf [] (m__law_alike [some (.d x), some (.d x), none, none, none, none]) = _
  have s1 : parS 2 3 (consA (lstS (consA (tupS (consA (vr 0) (consA (vr 1) (M.pure [])))) (M.pure []))) (consA (kI 0) (M.pure []))) [some (.d x), some (.d x), none, none, none, none] = some (.ok .nx, [some (.d x), some (.d x), some (.ol [.d (cpl x)]), some (.d (.int 0)), none, none]) := by
    have l1 : (1 : Nat) ≤ sizeLine := by decide
    have l2 : (2 : Nat) ≤ sizeLine := by decide
    simp only [seqS, dropS, appS, extS, Nv.listAt, atSl, M.bind, M.pure, op1, op2, opN, getAll, kI, kS, kB, kN, fin, vr, Rs.get, Rs.own, Rs.dat, Rs.out, Rs.items, augS, asT, asgS, nmG, parS, retS, tupS, lstS, getDs, getOs, consA, starA, fzS, Val.fz, Val.fzL, ifS, addV_int, subV_int, andV_int, eqV_int, neV_int, neV_bool, mulV_r, modV_r, fdivV_r, shrV_r, ltV, leV, gtV, geV, cmp2, lenV, intV, absV, tupleV, listV, seqD, tmD, List.set_cons_zero, List.set_cons_succ, startD, List.getElem?_cons_zero, List.getElem?_cons_succ, Option.bind_some, Option.map_some, List.length_cons, List.length_nil, Nat.zero_add, Nat.reduceAdd, l1, l2, if_true]
    rfl
  obtain ⟨p, t', a, b, e⟩ := al_loop (some (.d x)) (some (.d x)) (nodes x) [.d (cpl x)] [x] 0 none none (by simp [nodesL]) rfl (by simp) (by simp [plainL, hp]) (by simp [nodesL]; omega)
  have e' : whileS tcA tbA [some (.d x), some (.d x), some (.ol [.d (cpl x)]), some (.d (.int 0)), none, none] = some (.ok .nx, [some (.d x), some (.d x), p, t', a, b]) := e
  unfold m__law_alike
  rw [seq_nx s1, seq_nx e']
  rfl
end K43

set_option Elab.async false
set_option linter.all false
set_option maxRecDepth 100000
set_option maxHeartbeats 4000000
namespace K43
open PySem Nv
open PySem.W (bin7)
variable [Tbs]
/-! ### read_integer -/
abbrev tcR : M Bool := andT (asT (op2 ltV (vr 2) (opN lenV (consA (vr 0) (M.pure []))))) (asT (op2 geV (op2 idxV (vr 0) (vr 2)) (kI 128)))
abbrev tbR : SS := seqS (augS 2 addI (kI 1)) (M.pure .nx)
theorem ix_app (A B : List Int) (z : Int) : idxV (.d (.tuple ((A ++ z :: B).map .int))) (.d (.int (A.length : Nat))) = some (.d (.int z)) := by
  show (L2.atI ((A ++ z :: B).map PyData.int) (A.length : Nat)).map Val.d = _
  have : L2.atI ((A ++ z :: B).map PyData.int) ((A.length : Nat) : Int) = some (.int z) := by
    unfold L2.atI L2.ixN
    rw [if_pos (by omega), if_pos (by simp; omega)]
    simp
  rw [this]; rfl
theorem ri_lt (O : List Int) (p : Option Val) (t : Nat) (b o : Option Val) : asT (op2 ltV (vr 2) (opN lenV (consA (vr 0) (M.pure [])))) [some (.d (.tuple (O.map .int))), p, some (.d (.int (t : Nat))), b, o] = some (.ok (decide (t < O.length)), [some (.d (.tuple (O.map .int))), p, some (.d (.int (t : Nat))), b, o]) := by
  have : asT (op2 ltV (vr 2) (opN lenV (consA (vr 0) (M.pure [])))) [some (.d (.tuple (O.map .int))), p, some (.d (.int (t : Nat))), b, o] = some (.ok (decide ((t : Int) < ((O.map PyData.int).length : Nat))), [some (.d (.tuple (O.map .int))), p, some (.d (.int (t : Nat))), b, o]) := rfl
  rw [this, List.length_map]
  congr 2
  simp
theorem ri_ge (A B : List Int) (z : Int) (p : Option Val) (b o : Option Val) : asT (op2 geV (op2 idxV (vr 0) (vr 2)) (kI 128)) [some (.d (.tuple ((A ++ z :: B).map .int))), p, some (.d (.int (A.length : Nat))), b, o] = some (.ok (decide (128 ≤ z)), [some (.d (.tuple ((A ++ z :: B).map .int))), p, some (.d (.int (A.length : Nat))), b, o]) := by
  have h := ix_app A B z
  simp only [seqS, dropS, appS, extS, Nv.listAt, atSl, M.bind, M.pure, op1, op2, opN, getAll, kI, kS, kB, kN, fin, vr, Rs.get, Rs.own, Rs.dat, Rs.out, Rs.items, augS, asT, asgS, nmG, parS, retS, tupS, lstS, getDs, getOs, consA, starA, fzS, Val.fz, Val.fzL, ifS, addV_int, subV_int, andV_int, eqV_int, neV_int, neV_bool, mulV_r, modV_r, fdivV_r, shrV_r, ltV, leV, gtV, geV, cmp2, lenV, intV, absV, tupleV, listV, seqD, tmD, List.set_cons_zero, List.set_cons_succ, startD, List.getElem?_cons_zero, List.getElem?_cons_succ, Option.bind_some, Option.map_some, h]
theorem ri_loop (p b o : Option Val) : ∀ (ini A B : List Int) (z : Int), (∀ x ∈ ini, 128 ≤ x) → z < 128 →
    whileS tcR tbR [some (.d (.tuple ((A ++ (ini ++ z :: B)).map .int))), p, some (.d (.int (A.length : Nat))), b, o] = some (.ok .nx, [some (.d (.tuple ((A ++ (ini ++ z :: B)).map .int))), p, some (.d (.int ((A.length + ini.length : Nat) : Int))), b, o])
  | [], A, B, z, h, hz => by
    refine while_end ?_
    unfold tcR andT
    rw [bind_ok ((ri_lt _ _ _ _ _).trans (by rw [decide_eq_true (by simp)]))]
    show asT _ _ = _
    rw [List.nil_append, ri_ge, decide_eq_false (by omega)]
    rfl
  | x :: ini, A, B, z, h, hz => by
    have hx := h x List.mem_cons_self
    have ih := ri_loop p b o ini (A ++ [x]) B z (fun y hy => h y (List.mem_cons_of_mem _ hy)) hz
    have e : A ++ [x] ++ (ini ++ z :: B) = A ++ (x :: ini ++ z :: B) := by simp
    rw [e] at ih
    rw [while_step (δ1 := [some (.d (.tuple ((A ++ (x :: ini ++ z :: B)).map .int))), p, some (.d (.int (A.length : Nat))), b, o]) (δ2 := [some (.d (.tuple ((A ++ (x :: ini ++ z :: B)).map .int))), p, some (.d (.int ((A ++ [x]).length : Nat))), b, o]) ?_ ?_, ih]
    · congr 4
      simp
      omega
    · unfold tcR andT
      rw [bind_ok ((ri_lt _ _ _ _ _).trans (by rw [decide_eq_true (by simp)]))]
      show asT _ _ = _
      rw [List.cons_append, ri_ge, decide_eq_true hx]
    · have : (((A ++ [x]).length : Nat) : Int) = (A.length : Nat) + 1 := by simp
      rw [this]
      rfl
theorem ri_loopE (p b o : Option Val) : ∀ (ini A : List Int), (∀ x ∈ ini, 128 ≤ x) →
    whileS tcR tbR [some (.d (.tuple ((A ++ ini).map .int))), p, some (.d (.int (A.length : Nat))), b, o] = some (.ok .nx, [some (.d (.tuple ((A ++ ini).map .int))), p, some (.d (.int ((A ++ ini).length : Nat))), b, o])
  | [], A, h => by
    rw [List.append_nil]
    refine while_end ?_
    unfold tcR andT
    rw [bind_ok ((ri_lt _ _ _ _ _).trans (by rw [decide_eq_false (by simp)]))]
    rfl
  | x :: ini, A, h => by
    have hx := h x List.mem_cons_self
    have ih := ri_loopE p b o ini (A ++ [x]) (fun y hy => h y (List.mem_cons_of_mem _ hy))
    have e : A ++ [x] ++ ini = A ++ (x :: ini) := by simp
    rw [e] at ih
    rw [while_step (δ1 := [some (.d (.tuple ((A ++ (x :: ini)).map .int))), p, some (.d (.int (A.length : Nat))), b, o]) (δ2 := [some (.d (.tuple ((A ++ (x :: ini)).map .int))), p, some (.d (.int ((A ++ [x]).length : Nat))), b, o]) ?_ ?_, ih]
    · unfold tcR andT
      rw [bind_ok ((ri_lt _ _ _ _ _).trans (by rw [decide_eq_true (by simp)]))]
      show asT _ _ = _
      rw [ri_ge, decide_eq_true hx]
    · have : (((A ++ [x]).length : Nat) : Int) = (A.length : Nat) + 1 := by simp
      rw [this]
      rfl
abbrev tcQ : M Bool := orT (asT (op2 eqV (vr 2) (opN lenV (consA (vr 0) (M.pure []))))) (andT (asT (op2 eqV (op2 idxV (vr 0) (vr 2)) (kI 0))) (asT (op2 gtV (vr 2) (vr 1))))
abbrev bQ : SS := raise2S "BadBytes" "index" "fault" (consA (vr 1) (consA (kS "integer") (M.pure [])))
theorem ri_eq (O : List Int) (p : Option Val) (t : Nat) (b o : Option Val) : asT (op2 eqV (vr 2) (opN lenV (consA (vr 0) (M.pure [])))) [some (.d (.tuple (O.map .int))), p, some (.d (.int (t : Nat))), b, o] = some (.ok (decide (t = O.length)), [some (.d (.tuple (O.map .int))), p, some (.d (.int (t : Nat))), b, o]) := by
  have : asT (op2 eqV (vr 2) (opN lenV (consA (vr 0) (M.pure [])))) [some (.d (.tuple (O.map .int))), p, some (.d (.int (t : Nat))), b, o] = some (.ok ((t : Int) == ((O.map PyData.int).length : Nat)), [some (.d (.tuple (O.map .int))), p, some (.d (.int (t : Nat))), b, o]) := rfl
  rw [this, List.length_map]
  congr 2
  by_cases h : t = O.length
  · subst h; simp
  · have hb : ((t : Int) == (O.length : Nat)) = false := beq_eq_false_iff_ne.mpr (by omega)
    rw [decide_eq_false h, hb]
theorem ri_bad (p : Int) (δr : Sl) (h : atSl δr 1 = some (.d (.int p))) : seqS bQ (M.pure .nx) δr = some (.error ⟨"BadBytes", [("fault", .str "integer"), ("index", .int p)]⟩, δr) := by
  have v1 : vr 1 δr = some (.ok (.sl 1), δr) := by unfold vr; rw [h]
  refine seq_er ?_
  unfold bQ raise2S
  rw [bind_ok (ev_cons v1 (ev_one (r := .tm (.d (.str "integer"))) (δ1 := δr) rfl))]
  simp [getDs, Rs.dat, h, Val.fz]
/-- cut off: told so -/
theorem f_read_cut (A ini : List Int) (hi : ∀ x ∈ ini, 128 ≤ x) : fs_read_integer.fn [.d (.tuple ((A ++ ini).map .int)), .d (.int (A.length : Nat))] = some (.error ⟨"BadBytes", [("fault", .str "integer"), ("index", .int (A.length : Nat))]⟩, []) := by
  show endOf [] (m_read_integer [some (.d (.tuple ((A ++ ini).map .int))), some (.d (.int (A.length : Nat))), none, none, none]) = _
  have s1 : asgS (vr 1) (nmG 2) [some (.d (.tuple ((A ++ ini).map .int))), some (.d (.int (A.length : Nat))), none, none, none] = some (.ok .nx, [some (.d (.tuple ((A ++ ini).map .int))), some (.d (.int (A.length : Nat))), some (.d (.int (A.length : Nat))), none, none]) := rfl
  have s2 := ri_loopE (some (.d (.int (A.length : Nat)))) none none ini A hi
  have t3 : tcQ [some (.d (.tuple ((A ++ ini).map .int))), some (.d (.int (A.length : Nat))), some (.d (.int ((A ++ ini).length : Nat))), none, none] = some (.ok true, [some (.d (.tuple ((A ++ ini).map .int))), some (.d (.int (A.length : Nat))), some (.d (.int ((A ++ ini).length : Nat))), none, none]) := by
    unfold tcQ orT
    rw [bind_ok ((ri_eq _ _ _ _ _).trans (by rw [decide_eq_true rfl]))]
    rfl
  unfold m_read_integer
  rw [seq_nx s1, seq_nx s2, seq_er (t := ifS tcQ _ _) (by rw [ifS_t t3, ri_bad (A.length : Nat) _ rfl])]
  rfl
/-- a last octet that is 0, behind others -/
theorem f_read_zero (A ini B : List Int) (hi : ∀ x ∈ ini, 128 ≤ x) (h0 : 0 < ini.length) : fs_read_integer.fn [.d (.tuple ((A ++ (ini ++ 0 :: B)).map .int)), .d (.int (A.length : Nat))] = some (.error ⟨"BadBytes", [("fault", .str "integer"), ("index", .int (A.length : Nat))]⟩, []) := by
  show endOf [] (m_read_integer [some (.d (.tuple ((A ++ (ini ++ 0 :: B)).map .int))), some (.d (.int (A.length : Nat))), none, none, none]) = _
  have s1 : asgS (vr 1) (nmG 2) [some (.d (.tuple ((A ++ (ini ++ 0 :: B)).map .int))), some (.d (.int (A.length : Nat))), none, none, none] = some (.ok .nx, [some (.d (.tuple ((A ++ (ini ++ 0 :: B)).map .int))), some (.d (.int (A.length : Nat))), some (.d (.int (A.length : Nat))), none, none]) := rfl
  have s2 := ri_loop (some (.d (.int (A.length : Nat)))) none none ini A B 0 hi (by decide)
  have e : A ++ (ini ++ 0 :: B) = (A ++ ini) ++ 0 :: B := by simp
  have hix := ix_app (A ++ ini) B 0
  rw [← e, List.length_append] at hix
  obtain ⟨δ, hδ⟩ : ∃ δ, δ = [some (Val.d (.tuple ((A ++ (ini ++ 0 :: B)).map .int))), some (.d (.int (A.length : Nat))), some (.d (.int ((A.length + ini.length : Nat) : Int))), none, none] := ⟨_, rfl⟩
  have t3 : tcQ δ = some (.ok true, δ) := by
    unfold tcQ orT
    rw [hδ, bind_ok ((ri_eq _ _ _ _ _).trans (by rw [decide_eq_false (by rw [List.length_append, List.length_append, List.length_cons]; omega)]))]
    show andT _ _ _ = _
    unfold andT
    have q1 : asT (op2 eqV (op2 idxV (vr 0) (vr 2)) (kI 0)) [some (Val.d (.tuple ((A ++ (ini ++ 0 :: B)).map .int))), some (.d (.int (A.length : Nat))), some (.d (.int ((A.length + ini.length : Nat) : Int))), none, none] = some (.ok true, [some (Val.d (.tuple ((A ++ (ini ++ 0 :: B)).map .int))), some (.d (.int (A.length : Nat))), some (.d (.int ((A.length + ini.length : Nat) : Int))), none, none]) := by
      simp only [seqS, dropS, appS, extS, Nv.listAt, atSl, M.bind, M.pure, op1, op2, opN, getAll, kI, kS, kB, kN, fin, vr, Rs.get, Rs.own, Rs.dat, Rs.out, Rs.items, augS, asT, asgS, nmG, parS, retS, tupS, lstS, getDs, getOs, consA, starA, fzS, Val.fz, Val.fzL, ifS, addV_int, subV_int, andV_int, eqV_int, neV_int, neV_bool, mulV_r, modV_r, fdivV_r, shrV_r, ltV, leV, gtV, geV, cmp2, lenV, intV, absV, tupleV, listV, seqD, tmD, List.set_cons_zero, List.set_cons_succ, startD, List.getElem?_cons_zero, List.getElem?_cons_succ, Option.bind_some, Option.map_some, hix]
      rfl
    rw [bind_ok q1]
    have q2 : asT (op2 gtV (vr 2) (vr 1)) [some (Val.d (.tuple ((A ++ (ini ++ 0 :: B)).map .int))), some (.d (.int (A.length : Nat))), some (.d (.int ((A.length + ini.length : Nat) : Int))), none, none] = some (.ok (decide ((A.length : Int) < ((A.length + ini.length : Nat) : Int))), [some (Val.d (.tuple ((A ++ (ini ++ 0 :: B)).map .int))), some (.d (.int (A.length : Nat))), some (.d (.int ((A.length + ini.length : Nat) : Int))), none, none]) := rfl
    rw [decide_eq_true (by omega)] at q2
    exact q2
  unfold m_read_integer
  rw [seq_nx s1, seq_nx s2, ← hδ, seq_er (t := ifS tcQ _ _) (by rw [ifS_t t3, ri_bad (A.length : Nat) δ (by rw [hδ]; rfl)])]
  rfl
/-! the bits -/
theorem bin7_list (m : Nat) : (bin7 m).cps.toList = [48 + m / 64 % 2, 48 + m / 32 % 2, 48 + m / 16 % 2, 48 + m / 8 % 2, 48 + m / 4 % 2, 48 + m / 2 % 2, 48 + m / 1 % 2] := rfl
theorem bin7_fold (m a : Nat) (h : m < 128) : (bin7 m).cps.toList.foldl (fun a c => a * 2 + (c - 48)) a = a * 128 + m := by
  rw [bin7_list]
  simp only [List.foldl_cons, List.foldl_nil, Nat.add_sub_cancel_left]
  omega
def val : List Int → Nat
  | [] => 0
  | o :: r => (o % 128).toNat + 128 * val r
theorem val_octs : ∀ (k n : Nat), n < 128 ^ (k + 1) → val (octs k n) = n
  | 0, n, h => by
    have h' : n < 128 := by simpa using h
    simp only [octs, val]; omega
  | k + 1, n, h => by
    by_cases c : n < 128
    · simp only [octs, if_pos c, val]; omega
    · have h2 : n / 128 < 128 ^ (k + 1) := by rw [Nat.div_lt_iff_lt_mul (by decide)]; rw [Nat.pow_succ] at h; exact h
      simp only [octs, if_neg c, val, val_octs k (n / 128) h2]
      omega
abbrev teB : ES := op1 fmt7V (op2 andV (vr 4) (op2 subV (kI 128) (kI 1)))
def tx (o : Int) : Str := bin7 (o % 128).toNat
theorem ri_te (a0 a1 a2 a3 : Option Val) (o : Int) (h : 0 ≤ o) : teB [a0, a1, a2, a3, some (.d (.int o))] = some (.ok (.tm (.d (.str (tx o)))), [a0, a1, a2, a3, some (.d (.int o))]) := by
  have e : Builtin.bitAnd o (128 - 1) = o % 128 := and_mask' (x := o) 7 h
  have f : fmt7V (.d (.int (o % 128))) = some (.d (.str (tx o))) := if_pos ⟨Int.emod_nonneg _ (by decide), Int.emod_lt_of_pos _ (by decide)⟩
  simp only [teB, seqS, dropS, appS, extS, Nv.listAt, atSl, M.bind, M.pure, op1, op2, opN, getAll, kI, kS, kB, kN, fin, vr, Rs.get, Rs.own, Rs.dat, Rs.out, Rs.items, augS, asT, asgS, nmG, parS, retS, tupS, lstS, getDs, getOs, consA, starA, fzS, Val.fz, Val.fzL, ifS, addV_int, subV_int, andV_int, eqV_int, neV_int, neV_bool, mulV_r, modV_r, fdivV_r, shrV_r, ltV, leV, gtV, geV, cmp2, lenV, intV, absV, tupleV, listV, seqD, tmD, List.set_cons_zero, List.set_cons_succ, startD, List.getElem?_cons_zero, List.getElem?_cons_succ, Option.bind_some, Option.map_some, e, f]
theorem ri_lc (a0 a1 a2 a3 : Option Val) : ∀ (L : List Int) (acc : List Val), (∀ x ∈ L, 0 ≤ x) → acc.length + L.length ≤ 1000 →
    lcL [4] (nmG 4) (M.pure true) teB (L.map .int) acc [a0, a1, a2, a3, none] = some (acc ++ (L.map fun o => Val.d (.str (tx o))), [a0, a1, a2, a3, none])
  | [], acc, h, hl => by simp [lcL]
  | o :: L, acc, h, hl => by
    have hz : acc.length < sizeLine := Nat.lt_of_lt_of_le (show acc.length < 1001 by simp at hl; omega) (by decide)
    have ih := ri_lc a0 a1 a2 a3 L (acc ++ [.d (.str (tx o))]) (fun x hx => h x (List.mem_cons_of_mem _ hx)) (by simp at hl ⊢; omega)
    rw [List.map_cons, lcL]
    show (match teB [a0, a1, a2, a3, some (.d (.int o))] with | some (.ok r, δ3) => _ | _ => none) = _
    rw [ri_te a0 a1 a2 a3 o (h o List.mem_cons_self)]
    show (if acc.length < sizeLine then lcL [4] (nmG 4) (M.pure true) teB (L.map .int) (acc ++ [.d (.str (tx o))]) [a0, a1, a2, a3, none] else none) = _
    rw [if_pos hz, ih]
    simp
theorem strs_tx : ∀ L : List Int, strsD (L.map fun o => PyData.str (tx o)) = some (L.map tx)
  | [] => rfl
  | o :: L => by rw [List.map_cons, strsD, strs_tx L]; rfl
theorem joinL_nil : ∀ ps : List (List Nat), TL.joinL [] ps = ps.flatten
  | [] => rfl
  | [p] => by simp [TL.joinL]
  | p :: q :: r => by
    rw [TL.joinL, joinL_nil (q :: r)]; simp
theorem tl_tx (L : List Int) : (Txt.join "" (L.map tx)).cps.toList = (L.map fun o => (tx o).cps.toList).flatten := by
  rw [TL.join_eq]
  have := TL.tl_join "" (L.map tx)
  rw [show TL.tl "" = [] from rfl, joinL_nil, List.map_map] at this
  exact this
theorem fold_tx : ∀ (L : List Int) (a : Nat), ((L.map fun o => (tx o).cps.toList).flatten).foldl (fun a c => a * 2 + (c - 48)) a = L.foldl (fun a o => a * 128 + (o % 128).toNat) a
  | [], a => rfl
  | o :: L, a => by
    rw [List.map_cons, List.flatten_cons, List.foldl_append, List.foldl_cons]
    rw [show (tx o).cps.toList.foldl (fun a c => a * 2 + (c - 48)) a = a * 128 + (o % 128).toNat from bin7_fold _ _ (by omega)]
    exact fold_tx L _
theorem fold_rev (L : List Int) : L.reverse.foldl (fun a o => a * 128 + (o % 128).toNat) 0 = val L := by
  rw [List.foldl_reverse]
  induction L with
  | nil => rfl
  | cons o L ih => rw [List.foldr_cons, ih, val]; omega
theorem len_tx (L : List Int) : ((L.map fun o => (tx o).cps.toList).flatten).length = 7 * L.length := by
  induction L with
  | nil => rfl
  | cons o L ih =>
    rw [List.map_cons, List.flatten_cons, List.length_append, ih]
    show 7 + _ = _
    simp; omega
theorem sum_tx (L : List Int) : ((L.map tx).map (·.length)).sum = 7 * L.length := by
  induction L with
  | nil => rfl
  | cons o L ih => rw [List.map_cons, List.map_cons, List.sum_cons, ih]; show 7 + _ = _; simp; omega
theorem all_tx (L : List Int) : ((L.map fun o => (tx o).cps.toList).flatten).all (fun c => c == 48 || c == 49) = true := by
  rw [List.all_eq_true]
  intro c hc
  obtain ⟨l, hl, hc⟩ := List.mem_flatten.mp hc
  obtain ⟨o, _, rfl⟩ := List.mem_map.mp hl
  unfold tx at hc
  rw [bin7_list] at hc
  simp only [List.mem_cons, List.not_mem_nil, or_false] at hc
  rcases hc with h | h | h | h | h | h | h <;> (subst h; simp; omega)
end K43

set_option Elab.async false
set_option linter.all false
set_option maxRecDepth 100000
set_option maxHeartbeats 4000000
namespace K43
open PySem Nv
open PySem.W (bin7)
variable [Tbs]
theorem cut_mid (A M B : List Int) : cutA ((A ++ (M ++ B)).map PyData.int) (some ((A.length : Nat) : Int)) (some ((A.length + M.length : Nat) : Int)) = M.map .int := by
  unfold cutA
  rw [HT.sIx_nat, HT.sIx_nat, List.length_map, List.length_append, List.length_append]
  have e1 : min A.length (A.length + (M.length + B.length)) = A.length := by omega
  have e2 : min (A.length + M.length) (A.length + (M.length + B.length)) = A.length + M.length := by omega
  rw [e1, e2, ← List.map_drop, List.drop_left, ← List.map_take, Nat.add_sub_cancel_left, List.take_left]
theorem octs_parts : ∀ (k n : Nat), n < 128 ^ (k + 1) → ∃ (ini : List Int) (z : Nat), octs k n = ini ++ [(z : Int)] ∧ z < 128 ∧ (∀ x ∈ ini, 128 ≤ x ∧ x < 256) ∧ (z = 0 → ini = [])
  | 0, n, h => ⟨[], n, rfl, by simpa using h, by simp, fun _ => rfl⟩
  | k + 1, n, h => by
    by_cases c : n < 128
    · exact ⟨[], n, by simp [octs, c], c, by simp, fun _ => rfl⟩
    · have h2 : n / 128 < 128 ^ (k + 1) := by rw [Nat.div_lt_iff_lt_mul (by decide)]; rw [Nat.pow_succ] at h; exact h
      obtain ⟨ini, z, e, hz, hi, h0⟩ := octs_parts k (n / 128) h2
      refine ⟨((128 + n % 128 : Nat) : Int) :: ini, z, by simp only [octs, if_neg c, e, List.cons_append], hz, fun x hx => ?_, fun q => ?_⟩
      · rcases List.mem_cons.mp hx with rfl | hx
        · omega
        · exact hi x hx
      · exfalso
        have e1 := h0 q
        subst e1
        have := val_octs k (n / 128) h2
        rw [e, q] at this
        simp [val] at this
        omega
/-- read back, from any place -/
theorem f_read_ok (A B : List Int) (k n : Nat) (hn : n < 128 ^ (k + 1)) (hk : k ≤ 80) : fs_read_integer.fn [.d (.tuple ((A ++ (octs k n ++ B)).map .int)), .d (.int (A.length : Nat))] = some (.ok (.d (.tuple [.int (n : Nat), .int ((A.length + (octs k n).length : Nat) : Int)])), []) := by
  obtain ⟨ini, z, e, hz, hi, h0⟩ := octs_parts k n hn
  have hlen := octs_len k n
  have hval := val_octs k n hn
  have hpos : ∀ x ∈ octs k n, 0 ≤ x := fun x hx => by
    rw [e] at hx
    rcases List.mem_append.mp hx with hx | hx
    · have := hi x hx; omega
    · rw [List.mem_singleton.mp hx]; omega
  have eO : A ++ (octs k n ++ B) = A ++ (ini ++ (z : Int) :: B) := by rw [e]; simp
  obtain ⟨O, hO⟩ : ∃ O, O = A ++ (octs k n ++ B) := ⟨_, rfl⟩
  rw [← hO]
  show endOf [] (m_read_integer [some (.d (.tuple (O.map .int))), some (.d (.int (A.length : Nat))), none, none, none]) = _
  have s1 : asgS (vr 1) (nmG 2) [some (.d (.tuple (O.map .int))), some (.d (.int (A.length : Nat))), none, none, none] = some (.ok .nx, [some (.d (.tuple (O.map .int))), some (.d (.int (A.length : Nat))), some (.d (.int (A.length : Nat))), none, none]) := rfl
  have s2 := ri_loop (some (.d (.int (A.length : Nat)))) none none ini A B z (fun x hx => (hi x hx).1) (by omega)
  rw [← eO, ← hO] at s2
  have hix := ix_app (A ++ ini) B z
  rw [show (A ++ ini) ++ (z : Int) :: B = O by rw [hO, eO]; simp, List.length_append] at hix
  have hOl : O.length = A.length + (ini.length + (1 + B.length)) := by rw [hO, eO]; simp; omega
  obtain ⟨t, ht⟩ : ∃ t, t = A.length + ini.length := ⟨_, rfl⟩
  rw [← ht] at s2 hix
  obtain ⟨δ, hδ⟩ : ∃ δ, δ = [some (Val.d (.tuple (O.map .int))), some (.d (.int (A.length : Nat))), some (.d (.int (t : Nat))), none, none] := ⟨_, rfl⟩
  have t3 : tcQ δ = some (.ok false, δ) := by
    unfold tcQ orT
    rw [hδ, bind_ok ((ri_eq _ _ _ _ _).trans (by rw [decide_eq_false (by omega)]))]
    show andT _ _ _ = _
    unfold andT
    have q1 : asT (op2 eqV (op2 idxV (vr 0) (vr 2)) (kI 0)) [some (Val.d (.tuple (O.map .int))), some (.d (.int (A.length : Nat))), some (.d (.int (t : Nat))), none, none] = some (.ok ((z : Int) == 0), [some (Val.d (.tuple (O.map .int))), some (.d (.int (A.length : Nat))), some (.d (.int (t : Nat))), none, none]) := by
      simp only [seqS, dropS, appS, extS, Nv.listAt, atSl, M.bind, M.pure, op1, op2, opN, getAll, kI, kS, kB, kN, fin, vr, Rs.get, Rs.own, Rs.dat, Rs.out, Rs.items, augS, asT, asgS, nmG, parS, retS, tupS, lstS, getDs, getOs, consA, starA, fzS, Val.fz, Val.fzL, ifS, addV_int, subV_int, andV_int, eqV_int, neV_int, neV_bool, mulV_r, modV_r, fdivV_r, shrV_r, ltV, leV, gtV, geV, cmp2, lenV, intV, absV, tupleV, listV, seqD, tmD, List.set_cons_zero, List.set_cons_succ, startD, List.getElem?_cons_zero, List.getElem?_cons_succ, Option.bind_some, Option.map_some, hix]
    rw [bind_ok q1]
    have q2 : asT (op2 gtV (vr 2) (vr 1)) [some (Val.d (.tuple (O.map .int))), some (.d (.int (A.length : Nat))), some (.d (.int (t : Nat))), none, none] = some (.ok (decide ((A.length : Int) < (t : Nat))), [some (Val.d (.tuple (O.map .int))), some (.d (.int (A.length : Nat))), some (.d (.int (t : Nat))), none, none]) := rfl
    by_cases hz0 : z = 0
    · have := h0 hz0
      rw [show ((z : Int) == 0) = true by rw [hz0]; rfl]
      have ht2 : t = A.length := by rw [ht, this]; rfl
      rw [decide_eq_false (by omega)] at q2
      exact q2
    · rw [show ((z : Int) == 0) = false from beq_eq_false_iff_ne.mpr (by omega)]
      rfl
  have eM : ini ++ [(z : Int)] = octs k n := e.symm
  have hcut : slV (some ((A.length : Nat) : Int)) (some ((t : Int) + 1)) (.d (.tuple (O.map .int))) = some (.d (.tuple ((octs k n).map .int))) := by
    show some (Val.d (.tuple (cutA (O.map PyData.int) (some ((A.length : Nat) : Int)) (some ((t : Int) + 1))))) = _
    have hl : (octs k n).length = ini.length + 1 := by rw [e]; simp
    rw [show ((t : Int) + 1) = ((A.length + (octs k n).length : Nat) : Int) by omega, hO, cut_mid]
  have itE : tupI (op1 revV (slS (vr 0) (asI (vr 1)) (asI (op2 addV (vr 2) (kI 1))))) δ = some (.ok (((octs k n).reverse).map .int), δ) := by
    have hrev : revV (.d (.tuple ((octs k n).map .int))) = some (.d (.tuple (((octs k n).reverse).map .int))) := by rw [List.map_reverse]; rfl
    rw [hδ]
    simp only [tupI, slS, asI, seqS, dropS, appS, extS, Nv.listAt, atSl, M.bind, M.pure, op1, op2, opN, getAll, kI, kS, kB, kN, fin, vr, Rs.get, Rs.own, Rs.dat, Rs.out, Rs.items, augS, asT, asgS, nmG, parS, retS, tupS, lstS, getDs, getOs, consA, starA, fzS, Val.fz, Val.fzL, ifS, addV_int, subV_int, andV_int, eqV_int, neV_int, neV_bool, mulV_r, modV_r, fdivV_r, shrV_r, ltV, leV, gtV, geV, cmp2, lenV, intV, absV, tupleV, listV, seqD, tmD, List.set_cons_zero, List.set_cons_succ, startD, List.getElem?_cons_zero, List.getElem?_cons_succ, Option.bind_some, Option.map_some, hcut, hrev]
  have lc : lcS [4] (tupI (op1 revV (slS (vr 0) (asI (vr 1)) (asI (op2 addV (vr 2) (kI 1)))))) (nmG 4) (M.pure true) teB δ = some (.ok (.tm (.ol ((octs k n).reverse.map fun o => Val.d (.str (tx o))))), δ) := by
    unfold lcS
    rw [bind_ok itE]
    have := ri_lc (some (Val.d (.tuple (O.map .int)))) (some (.d (.int (A.length : Nat)))) (some (.d (.int (t : Nat)))) none (octs k n).reverse [] (fun x hx => hpos x (List.mem_reverse.mp hx)) (by simp; omega)
    rw [hδ]
    show (match lcL [4] (nmG 4) (M.pure true) teB (((octs k n).reverse).map .int) [] [some (Val.d (.tuple (O.map .int))), some (.d (.int (A.length : Nat))), some (.d (.int (t : Nat))), none, none] with | some (acc, δ') => _ | none => none) = _
    rw [this]; rfl
  obtain ⟨x, hx⟩ : ∃ x, x = Txt.join "" ((octs k n).reverse.map tx) := ⟨_, rfl⟩
  have hxl : x.cps.toList = ((octs k n).reverse.map fun o => (tx o).cps.toList).flatten := by rw [hx]; exact tl_tx _
  have jn : joinV "" (.ol ((octs k n).reverse.map fun o => Val.d (.str (tx o)))) = some (.d (.str x)) := by
    have h1 : seqD (.ol ((octs k n).reverse.map fun o => Val.d (.str (tx o)))) = some ((octs k n).reverse.map fun o => PyData.str (tx o)) := by
      have := allD_map ((octs k n).reverse.map fun o => PyData.str (tx o))
      rw [List.map_map] at this
      exact this
    unfold joinV
    rw [h1]
    show (strsD ((octs k n).reverse.map fun o => PyData.str (tx o))).bind _ = _
    rw [strs_tx]
    show (if (((octs k n).reverse.map tx).map (·.length)).sum + ((octs k n).reverse.map tx).length * Str.length "" ≤ 16777216 then _ else none) = _
    rw [sum_tx, if_pos (by rw [List.length_reverse, show Str.length "" = 0 from rfl]; omega), hx]
  have s4 : asgS (joinS (kS "") (lcS [4] (tupI (op1 revV (slS (vr 0) (asI (vr 1)) (asI (op2 addV (vr 2) (kI 1)))))) (nmG 4) (M.pure true) teB)) (nmG 3) δ = some (.ok .nx, [some (Val.d (.tuple (O.map .int))), some (.d (.int (A.length : Nat))), some (.d (.int (t : Nat))), some (.d (.str x)), none]) := by
    unfold asgS
    rw [bind_ok (a := .tm (.d (.str x))) (δ1 := δ)]
    · rw [hδ]; rfl
    · unfold joinS
      rw [bind_ok (a := .tm (.d (.str ""))) (δ1 := δ) rfl]
      show M.bind _ _ δ = _
      rw [bind_ok lc]
      show fin (joinV "" _) δ = _
      rw [jn]; rfl
  have ib : intBV [.d (.str x), .d (.int 2)] = some (.d (.int (n : Nat))) := by
    have b1 : x.cps.toList ≠ [] := by
      intro q
      have := congrArg List.length q
      rw [hxl, len_tx, List.length_reverse, e] at this
      simp at this
    have b2 : x.length ≤ 640 := by
      show x.cps.size ≤ 640
      rw [← Array.length_toList, hxl, len_tx, List.length_reverse]; omega
    have b3 : x.cps.toList.all (fun c => c == 48 || c == 49) = true := by rw [hxl]; exact all_tx _
    show (if x.cps.toList ≠ [] ∧ x.length ≤ 640 ∧ x.cps.toList.all (fun c => c == 48 || c == 49) = true then some (Val.d (.int (binNum x.cps.toList : Nat))) else none) = _
    rw [if_pos ⟨b1, b2, b3⟩]
    have : binNum x.cps.toList = n := by
      unfold binNum
      rw [hxl, fold_tx, fold_rev, hval]
    rw [this]
  have s5 : retS (tupS (consA (opN intBV (consA (vr 3) (consA (kI 2) (M.pure [])))) (consA (op2 addV (vr 2) (kI 1)) (M.pure [])))) [some (Val.d (.tuple (O.map .int))), some (.d (.int (A.length : Nat))), some (.d (.int (t : Nat))), some (.d (.str x)), none] =
      some (.ok (.rt (.d (.tuple [.int (n : Nat), .int ((A.length + (octs k n).length : Nat) : Int)]))), [some (Val.d (.tuple (O.map .int))), some (.d (.int (A.length : Nat))), some (.d (.int (t : Nat))), some (.d (.str x)), none]) := by
    have hl : (octs k n).length = ini.length + 1 := by rw [e]; simp
    have l2 : (2 : Nat) ≤ sizeLine := by decide
    rw [show ((A.length + (octs k n).length : Nat) : Int) = (t : Int) + 1 by omega]
    simp only [seqS, dropS, appS, extS, Nv.listAt, atSl, M.bind, M.pure, op1, op2, opN, getAll, kI, kS, kB, kN, fin, vr, Rs.get, Rs.own, Rs.dat, Rs.out, Rs.items, augS, asT, asgS, nmG, parS, retS, tupS, lstS, getDs, getOs, consA, starA, fzS, Val.fz, Val.fzL, ifS, addV_int, subV_int, andV_int, eqV_int, neV_int, neV_bool, mulV_r, modV_r, fdivV_r, shrV_r, ltV, leV, gtV, geV, cmp2, lenV, intV, absV, tupleV, listV, seqD, tmD, List.set_cons_zero, List.set_cons_succ, startD, List.getElem?_cons_zero, List.getElem?_cons_succ, Option.bind_some, Option.map_some, ib, List.length_cons, List.length_nil, Nat.zero_add, Nat.reduceAdd, l2, if_true]
  unfold m_read_integer
  rw [seq_nx s1, seq_nx s2, ← hδ, seq_nx (t := ifS tcQ _ _) (by rw [ifS_f t3]; rfl), seq_nx s4, seq_rt s5]
  rfl
end K43

set_option Elab.async false
set_option linter.all false
set_option maxRecDepth 100000
set_option maxHeartbeats 4000000
namespace K43
open PySem Nv
variable [Tbs]
/-! ### octets altered within three neighbouring places are never sealed: plain numbers -/
/-- the check without the modulus, over the reversed row -/
def ph : List Int → Int
  | [] => 1
  | o :: r => ph r * 257 + o + 1
def ch : List Int → Int
  | [] => 1
  | o :: r => (ch r * 257 + o + 1) % 4294967291
theorem ch_ph : ∀ r : List Int, ∃ q : Int, ch r = ph r + 4294967291 * q
  | [] => ⟨0, rfl⟩
  | o :: r => by
    obtain ⟨q, e⟩ := ch_ph r
    refine ⟨q * 257 - (ch r * 257 + o + 1) / 4294967291, ?_⟩
    have := Int.emod_add_mul_ediv (ch r * 257 + o + 1) 4294967291
    show (ch r * 257 + o + 1) % 4294967291 = ph r * 257 + o + 1 + 4294967291 * (q * 257 - (ch r * 257 + o + 1) / 4294967291)
    omega
theorem ch_app : ∀ (r : List Int) (o : Int) , ch r.reverse = chk 1 r := fun r o => by
  unfold chk
  have : ∀ (r : List Int), r.foldl (fun x o => (x * 257 + o + 1) % 4294967291) 1 = r.reverse.foldr (fun o x => (x * 257 + o + 1) % 4294967291) 1 := fun r => by rw [List.foldr_reverse]
  rw [this]
  generalize r.reverse = s
  induction s with
  | nil => rfl
  | cons o s ih => rw [ch, List.foldr_cons, ih]
def Phi : List Int → Int
  | d0 :: d1 :: d2 :: d3 :: r => ph r - (d0 + 256 * d1 + 65536 * d2 + 16777216 * d3)
  | _ => 0
def Sealed (L : List Int) : Prop := L.take (L.length - 4) ++ by4 (chk 1 (L.take (L.length - 4))) = L
theorem sealed_phi {L : List Int} (h : Sealed L) : ∃ q : Int, Phi L.reverse = 4294967291 * q := by
  obtain ⟨r, hr⟩ : ∃ r, r = L.take (L.length - 4) := ⟨_, rfl⟩
  unfold Sealed at h
  rw [← hr] at h
  obtain ⟨c0, c1⟩ := chk_lt r 1 (by decide)
  have e := ch_app r 0
  obtain ⟨q, hq⟩ := ch_ph r.reverse
  rw [e] at hq
  generalize chk 1 r = C at *
  rw [← h, List.reverse_append]
  refine ⟨-q, ?_⟩
  show ph r.reverse - (C % 256 + 256 * (C / 256 % 256) + 65536 * (C / 65536 % 256) + 16777216 * (C / 16777216)) = _
  omega
theorem ph_diff : ∀ (X Z Z' : List Int), ph (X ++ Z') - ph (X ++ Z) = 257 ^ X.length * (ph Z' - ph Z)
  | [], Z, Z' => by simp
  | x :: X, Z, Z' => by
    have ih := ph_diff X Z Z'
    show (ph (X ++ Z') * 257 + x + 1) - (ph (X ++ Z) * 257 + x + 1) = 257 ^ (X.length + 1) * (ph Z' - ph Z)
    have e : (ph (X ++ Z') * 257 + x + 1) - (ph (X ++ Z) * 257 + x + 1) = 257 * (ph (X ++ Z') - ph (X ++ Z)) := by omega
    rw [e, ih, ← Int.mul_assoc, Int.pow_succ, Int.mul_comm 257]
theorem cancel1 (y q : Int) (h : 257 * y = 4294967291 * q) : ∃ q', y = 4294967291 * q' := by
  refine ⟨q * 3225403452 - 193 * y, ?_⟩
  omega
theorem cancel : ∀ (e : Nat) (y q : Int), 257 ^ e * y = 4294967291 * q → ∃ q', y = 4294967291 * q'
  | 0, y, q, h => ⟨q, by simpa using h⟩
  | e + 1, y, q, h => by
    rw [Int.pow_succ, Int.mul_assoc] at h
    obtain ⟨q', h'⟩ := cancel e (257 * y) q h
    exact cancel1 y q' h'
theorem s0 {a b c : Int} (ha : -255 ≤ a ∧ a ≤ 255) (hb : -255 ≤ b ∧ b ≤ 255) (hc : -255 ≤ c ∧ c ≤ 255) {q : Int} (h : a + 256 * b + 65536 * c = 4294967291 * q) : a = 0 ∧ b = 0 ∧ c = 0 := by
  have hq : q = 0 := by omega
  subst hq
  have h2 : a + 256 * b + 65536 * c = 0 := by omega
  clear h
  have z0 : c = 0 := by omega
  subst z0
  have z1 : b = 0 := by omega
  subst z1
  have z2 : a = 0 := by omega
  subst z2
  exact ⟨rfl, rfl, rfl⟩
theorem s1 {a b c : Int} (ha : -255 ≤ a ∧ a ≤ 255) (hb : -255 ≤ b ∧ b ≤ 255) (hc : -255 ≤ c ∧ c ≤ 255) {q : Int} (h : 256 * a + 65536 * b + 16777216 * c = 4294967291 * q) : a = 0 ∧ b = 0 ∧ c = 0 := by
  have hq : q = 0 := by omega
  subst hq
  have h2 : 256 * a + 65536 * b + 16777216 * c = 0 := by omega
  clear h
  have z0 : c = 0 := by omega
  subst z0
  have z1 : b = 0 := by omega
  subst z1
  have z2 : a = 0 := by omega
  subst z2
  exact ⟨rfl, rfl, rfl⟩
theorem s2 {a b c : Int} (ha : -255 ≤ a ∧ a ≤ 255) (hb : -255 ≤ b ∧ b ≤ 255) (hc : -255 ≤ c ∧ c ≤ 255) {q : Int} (h : 65536 * a + 16777216 * b - c = 4294967291 * q) : a = 0 ∧ b = 0 ∧ c = 0 := by
  have hq : q = 0 := by omega
  subst hq
  have h2 : 65536 * a + 16777216 * b - c = 0 := by omega
  clear h
  have z0 : b = 0 := by omega
  subst z0
  have z1 : a = 0 := by omega
  subst z1
  have z2 : c = 0 := by omega
  subst z2
  exact ⟨rfl, rfl, rfl⟩
theorem s3 {a b c : Int} (ha : -255 ≤ a ∧ a ≤ 255) (hb : -255 ≤ b ∧ b ≤ 255) (hc : -255 ≤ c ∧ c ≤ 255) {q : Int} (h : 16777216 * a - b - 257 * c = 4294967291 * q) : a = 0 ∧ b = 0 ∧ c = 0 := by
  have hq : q = 0 := by omega
  subst hq
  have h2 : 16777216 * a - b - 257 * c = 0 := by omega
  clear h
  have z0 : a = 0 := by omega
  subst z0
  have z1 : c = 0 := by omega
  subst z1
  have z2 : b = 0 := by omega
  subst z2
  exact ⟨rfl, rfl, rfl⟩
theorem small {a b c : Int} (ha : -255 ≤ a ∧ a ≤ 255) (hb : -255 ≤ b ∧ b ≤ 255) (hc : -255 ≤ c ∧ c ≤ 255) {q : Int} (h : a + 257 * b + 66049 * c = 4294967291 * q) : a = 0 ∧ b = 0 ∧ c = 0 := by
  have hq : q = 0 := by omega
  subst hq
  have h2 : a + 257 * b + 66049 * c = 0 := by omega
  clear h
  have z0 : c = 0 := by omega
  subst z0
  have z1 : b = 0 := by omega
  subst z1
  have z2 : a = 0 := by omega
  subst z2
  exact ⟨rfl, rfl, rfl⟩
theorem phi0 (a b c y : Int) (Y : List Int) : Phi (a :: b :: c :: y :: Y) = ph Y - (a + 256 * b + 65536 * c + 16777216 * y) := rfl
theorem ph1 (c : Int) (Y : List Int) : ph (c :: Y) = ph Y * 257 + c + 1 := rfl
theorem c0 {g a b c a' b' c' y q q' : Int} (ha : -255 ≤ a' - a ∧ a' - a ≤ 255) (hb : -255 ≤ b' - b ∧ b' - b ≤ 255) (hc : -255 ≤ c' - c ∧ c' - c ≤ 255)
    (h : g - (a + 256 * b + 65536 * c + 16777216 * y) = 4294967291 * q) (h' : g - (a' + 256 * b' + 65536 * c' + 16777216 * y) = 4294967291 * q') : a' = a ∧ b' = b ∧ c' = c := by
  obtain ⟨z1, z2, z3⟩ := s0 ha hb hc (q := q - q') (by clear ha hb hc; omega)
  exact ⟨Int.eq_of_sub_eq_zero z1, Int.eq_of_sub_eq_zero z2, Int.eq_of_sub_eq_zero z3⟩
theorem c1 {g a b c a' b' c' x0 q q' : Int} (ha : -255 ≤ a' - a ∧ a' - a ≤ 255) (hb : -255 ≤ b' - b ∧ b' - b ≤ 255) (hc : -255 ≤ c' - c ∧ c' - c ≤ 255)
    (h : g - (x0 + 256 * a + 65536 * b + 16777216 * c) = 4294967291 * q) (h' : g - (x0 + 256 * a' + 65536 * b' + 16777216 * c') = 4294967291 * q') : a' = a ∧ b' = b ∧ c' = c := by
  obtain ⟨z1, z2, z3⟩ := s1 ha hb hc (q := q - q') (by clear ha hb hc; omega)
  exact ⟨Int.eq_of_sub_eq_zero z1, Int.eq_of_sub_eq_zero z2, Int.eq_of_sub_eq_zero z3⟩
theorem c2 {g a b c a' b' c' x0 x1 q q' : Int} (ha : -255 ≤ a' - a ∧ a' - a ≤ 255) (hb : -255 ≤ b' - b ∧ b' - b ≤ 255) (hc : -255 ≤ c' - c ∧ c' - c ≤ 255)
    (h : (g * 257 + c + 1) - (x0 + 256 * x1 + 65536 * a + 16777216 * b) = 4294967291 * q) (h' : (g * 257 + c' + 1) - (x0 + 256 * x1 + 65536 * a' + 16777216 * b') = 4294967291 * q') : a' = a ∧ b' = b ∧ c' = c := by
  obtain ⟨z1, z2, z3⟩ := s2 ha hb hc (q := q - q') (by clear ha hb hc; omega)
  exact ⟨Int.eq_of_sub_eq_zero z1, Int.eq_of_sub_eq_zero z2, Int.eq_of_sub_eq_zero z3⟩
theorem c3 {g a b c a' b' c' x0 x1 x2 q q' : Int} (ha : -255 ≤ a' - a ∧ a' - a ≤ 255) (hb : -255 ≤ b' - b ∧ b' - b ≤ 255) (hc : -255 ≤ c' - c ∧ c' - c ≤ 255)
    (h : ((g * 257 + c + 1) * 257 + b + 1) - (x0 + 256 * x1 + 65536 * x2 + 16777216 * a) = 4294967291 * q) (h' : ((g * 257 + c' + 1) * 257 + b' + 1) - (x0 + 256 * x1 + 65536 * x2 + 16777216 * a') = 4294967291 * q') : a' = a ∧ b' = b ∧ c' = c := by
  obtain ⟨z1, z2, z3⟩ := s3 ha hb hc (q := q - q') (by clear ha hb hc; omega)
  exact ⟨Int.eq_of_sub_eq_zero z1, Int.eq_of_sub_eq_zero z2, Int.eq_of_sub_eq_zero z3⟩
theorem c4 {g a b c a' b' c' z : Int} (ha : -255 ≤ a' - a ∧ a' - a ≤ 255) (hb : -255 ≤ b' - b ∧ b' - b ≤ 255) (hc : -255 ≤ c' - c ∧ c' - c ≤ 255)
    (h : (((g * 257 + c' + 1) * 257 + b' + 1) * 257 + a' + 1) - (((g * 257 + c + 1) * 257 + b + 1) * 257 + a + 1) = 4294967291 * z) : a' = a ∧ b' = b ∧ c' = c := by
  obtain ⟨z1, z2, z3⟩ := small ha hb hc (q := z) (by clear ha hb hc; omega)
  exact ⟨Int.eq_of_sub_eq_zero z1, Int.eq_of_sub_eq_zero z2, Int.eq_of_sub_eq_zero z3⟩
/-- .. in the reversed row -/
theorem phi_alter (X Y : List Int) (a b c a' b' c' : Int) (ha : -255 ≤ a' - a ∧ a' - a ≤ 255) (hb : -255 ≤ b' - b ∧ b' - b ≤ 255) (hc : -255 ≤ c' - c ∧ c' - c ≤ 255) (hl : 4 ≤ (X ++ a :: b :: c :: Y).length)
    (q q' : Int) (h : Phi (X ++ a :: b :: c :: Y) = 4294967291 * q) (h' : Phi (X ++ a' :: b' :: c' :: Y) = 4294967291 * q') : a' = a ∧ b' = b ∧ c' = c := by
  cases X with
  | nil =>
    cases Y with
    | nil => simp at hl
    | cons y Y =>
      rw [List.nil_append, phi0] at h h'
      exact c0 ha hb hc h h'
  | cons x0 X =>
    cases X with
    | nil =>
      rw [List.cons_append, List.nil_append, phi0] at h h'
      exact c1 ha hb hc h h'
    | cons x1 X =>
      cases X with
      | nil =>
        rw [List.cons_append, List.cons_append, List.nil_append, phi0, ph1] at h h'
        exact c2 ha hb hc h h'
      | cons x2 X =>
        cases X with
        | nil =>
          rw [List.cons_append, List.cons_append, List.cons_append, List.nil_append, phi0, ph1, ph1] at h h'
          exact c3 ha hb hc h h'
        | cons x3 X =>
          rw [List.cons_append, List.cons_append, List.cons_append, List.cons_append, phi0] at h h'
          have d := ph_diff X (a :: b :: c :: Y) (a' :: b' :: c' :: Y)
          generalize ph (X ++ a' :: b' :: c' :: Y) = u' at h' d
          generalize ph (X ++ a :: b :: c :: Y) = u at h d
          obtain ⟨z, hz⟩ := cancel X.length (ph (a' :: b' :: c' :: Y) - ph (a :: b :: c :: Y)) (q' - q) (by rw [← d]; omega)
          rw [ph1, ph1, ph1, ph1, ph1, ph1] at hz
          exact c4 ha hb hc hz
theorem alter (A B : List Int) (a b c a' b' c' : Int) (ha : -255 ≤ a' - a ∧ a' - a ≤ 255) (hb : -255 ≤ b' - b ∧ b' - b ≤ 255) (hc : -255 ≤ c' - c ∧ c' - c ≤ 255) (hl : 4 ≤ (A ++ [a, b, c] ++ B).length)
    (h : Sealed (A ++ [a, b, c] ++ B)) (h' : Sealed (A ++ [a', b', c'] ++ B)) : A ++ [a', b', c'] ++ B = A ++ [a, b, c] ++ B := by
  obtain ⟨q, e⟩ := sealed_phi h
  obtain ⟨q', e'⟩ := sealed_phi h'
  have r1 : (A ++ [a, b, c] ++ B).reverse = B.reverse ++ c :: b :: a :: A.reverse := by simp
  have r2 : (A ++ [a', b', c'] ++ B).reverse = B.reverse ++ c' :: b' :: a' :: A.reverse := by simp
  rw [r1] at e
  rw [r2] at e'
  have hl' : 4 ≤ (B.reverse ++ c :: b :: a :: A.reverse).length := by rw [← r1, List.length_reverse]; exact hl
  obtain ⟨z1, z2, z3⟩ := phi_alter B.reverse A.reverse c b a c' b' a' hc hb ha hl' q q' e e'
  rw [z1, z2, z3]
/-- a row of octets -/
def Oct (L : List Int) : Prop := ∀ x ∈ L, 0 ≤ x ∧ x ≤ 255
theorem three {L : List Int} {j : Nat} (h : j + 3 ≤ L.length) : L = L.take j ++ [L.getD j 0, L.getD (j + 1) 0, L.getD (j + 2) 0] ++ L.drop (j + 3) := by
  have e0 : L.drop j = L.getD j 0 :: L.drop (j + 1) := by rw [List.drop_eq_getElem_cons (by omega)]; congr 1; simp [List.getD_eq_getElem?_getD, List.getElem?_eq_getElem (show j < L.length by omega)]
  have e1 : L.drop (j + 1) = L.getD (j + 1) 0 :: L.drop (j + 2) := by rw [List.drop_eq_getElem_cons (by omega)]; congr 1; simp [List.getD_eq_getElem?_getD, List.getElem?_eq_getElem (show j + 1 < L.length by omega)]
  have e2 : L.drop (j + 2) = L.getD (j + 2) 0 :: L.drop (j + 3) := by rw [List.drop_eq_getElem_cons (by omega)]; congr 1; simp [List.getD_eq_getElem?_getD, List.getElem?_eq_getElem (show j + 2 < L.length by omega)]
  conv => lhs; rw [← List.take_append_drop j L, e0, e1, e2]
  simp
theorem oct_get {L : List Int} (h : Oct L) (j : Nat) : 0 ≤ L.getD j 0 ∧ L.getD j 0 ≤ 255 := by
  rw [List.getD_eq_getElem?_getD]
  cases e : L[j]? with
  | none => simp
  | some x => exact h x (List.mem_of_getElem? e)
/-- what agrees but for three places in a row, and is sealed too, is the same -/
theorem altered {L L' : List Int} (hL : Oct L) (hL' : Oct L') (hn : L'.length = L.length) (h4 : 4 ≤ L.length) (at_ : Nat) (ag : ∀ i, (i < at_ ∨ at_ + 3 ≤ i) → L'[i]? = L[i]?) (h : Sealed L) (h' : Sealed L') : L' = L := by
  obtain ⟨j, hj⟩ : ∃ j, j = min at_ (L.length - 3) := ⟨_, rfl⟩
  have hj3 : j + 3 ≤ L.length := by omega
  have t : L'.take j = L.take j := by
    refine List.ext_getElem? fun i => ?_
    rw [List.getElem?_take, List.getElem?_take]
    split
    · exact ag i (.inl (by omega))
    · rfl
  have d : L'.drop (j + 3) = L.drop (j + 3) := by
    refine List.ext_getElem? fun i => ?_
    rw [List.getElem?_drop, List.getElem?_drop]
    by_cases c : at_ + 3 ≤ j + 3 + i
    · exact ag _ (.inr c)
    · rw [List.getElem?_eq_none (by omega), List.getElem?_eq_none (by omega)]
  have e := three hj3
  have e' := three (L := L') (j := j) (by omega)
  rw [t, d] at e'
  rw [e] at h h4
  rw [e'] at h'
  have b0 := oct_get hL j; have b1 := oct_get hL (j + 1); have b2 := oct_get hL (j + 2)
  have c0 := oct_get hL' j; have c1 := oct_get hL' (j + 1); have c2 := oct_get hL' (j + 2)
  have r := alter (L.take j) (L.drop (j + 3)) _ _ _ _ _ _ (by omega) (by omega) (by omega) h4 h h'
  rw [e', r]
  exact e.symm
theorem sealed_self (r : List Int) : Sealed (r ++ by4 (chk 1 r)) := by
  unfold Sealed
  have e : (r ++ by4 (chk 1 r)).length - 4 = r.length := by rw [List.length_append, by4_len]; omega
  rw [e, List.take_left]
theorem by4_oct {c : Int} (h : 0 ≤ c ∧ c < 4294967291) : Oct (by4 c) := fun x hx => by
  simp only [by4, List.mem_cons, List.not_mem_nil, or_false] at hx
  rcases hx with rfl | rfl | rfl | rfl <;> omega
end K43

set_option Elab.async false
set_option linter.all false
set_option maxRecDepth 100000
set_option maxHeartbeats 4000000
namespace K43
open PySem Nv
variable [Tbs]
variable {b : Val} {s0 s1 s2 s3 s4 s5 s6 s7 s8 s9 s10 s11 s12 : Option Val}
theorem ev_take (G : Good b) {δ : Sl} (hb : atSl δ 1 = some b) {te : ES} {r : Rs} {many : Int} (h0 : 0 < many) (h1 : many < 2 ^ 64) (he : te δ = some (.ok r, δ)) (ho : r.own (δ.set 1 none) = some (.d (.int many))) :
    ∃ (v : Int) (b' : Val), 0 ≤ v ∧ v < many ∧ Good b' ∧ callS fs__law_take (consA (vr 1) (consA te (M.pure []))) δ = some (.ok (.tm (.d (.int v))), δ.set 1 (some b')) := by
  obtain ⟨v, b', a1, a2, a3, e⟩ := f__law_take G many h0 h1
  exact ⟨v, b', a1, a2, a3, ev_callM (F := fs__law_take) (i := 1) (tb := te) rfl hb he hb ho e⟩
theorem asg_of {te : ES} {g : GS} {δ δ1 δ2 : Sl} {r : Rs} {v : Val} (h : te δ = some (.ok r, δ1)) (ho : r.own δ1 = some v) (hg : g v δ1 = some (.ok (), δ2)) : asgS te g δ = some (.ok .nx, δ2) := by
  unfold asgS
  rw [bind_ok h]
  show (match r.own δ1 with | some v => _ | none => none) = _
  rw [ho]
  show (match g v δ1 with | some (.ok _, δ') => _ | _ => none) = _
  rw [hg]
theorem lst_of {tr : M (List Rs)} {δ δ1 : Sl} {rs : List Rs} {vs : List Val} (h : tr δ = some (.ok rs, δ1)) (ho : getOs rs δ1 = some vs) (hz : vs.length ≤ sizeLine) : lstS tr δ = some (.ok (.tm (.ol vs)), δ1) := by
  unfold lstS
  rw [bind_ok h]
  show (match getOs rs δ1 with | some vs => _ | none => none) = _
  rw [ho]
  exact if_pos hz
theorem tup_of {tr : M (List Rs)} {δ δ1 : Sl} {rs : List Rs} {vs : List PyData} (h : tr δ = some (.ok rs, δ1)) (ho : getDs rs δ1 = some vs) (hz : vs.length ≤ sizeLine) : tupS tr δ = some (.ok (.tm (.d (.tuple vs))), δ1) := by
  unfold tupS
  rw [bind_ok h]
  show (match getDs rs δ1 with | some vs => _ | none => none) = _
  rw [ho]
  exact if_pos hz
theorem fz_of {te : ES} {δ δ1 : Sl} {v : Val} (h : te δ = some (.ok (.tm v), δ1)) : fzS te δ = some (.ok (.tm (.d v.fz)), δ1) := by
  unfold fzS
  rw [bind_ok h]
theorem opN_of {f : List Val → Option Val} {tr : M (List Rs)} {δ δ1 : Sl} {rs : List Rs} {vs : List Val} {z : Val} (h : tr δ = some (.ok rs, δ1)) (hg : getAll rs δ1 = some vs) (hf : f vs = some z) : opN f tr δ = some (.ok (.tm z), δ1) := by
  unfold opN
  rw [bind_ok h, hg]
  show fin (f vs) δ1 = _
  rw [hf]; rfl
theorem op2_of {f : Val → Val → Option Val} {ta tb : ES} {δ δ1 δ2 : Sl} {r r2 : Rs} {x y z : Val} (h1 : ta δ = some (.ok r, δ1)) (h2 : tb δ1 = some (.ok r2, δ2)) (g1 : r.get δ2 = some x) (g2 : r2.get δ2 = some y) (hf : f x y = some z) : op2 f ta tb δ = some (.ok (.tm z), δ2) := by
  unfold op2
  rw [bind_ok h1, bind_ok h2, g1, g2]
  show fin (f x y) δ2 = _
  rw [hf]; rfl
theorem asT_of {te : ES} {δ δ1 : Sl} {k : Bool} (h : te δ = some (.ok (.tm (.d (.bool k))), δ1)) : asT te δ = some (.ok k, δ1) := by
  unfold asT
  rw [bind_ok h]; rfl
theorem notT_of {t : M Bool} {δ δ1 : Sl} {k : Bool} (h : t δ = some (.ok k, δ1)) : notT t δ = some (.ok (!k), δ1) := by
  unfold notT
  rw [bind_ok h]; rfl
theorem pass_of {tc : M Bool} {u : SS} {δ δ1 : Sl} (h : tc δ = some (.ok false, δ1)) : ifS tc u (M.pure .nx) δ = some (.ok .nx, δ1) := by
  rw [ifS_f h]; rfl
theorem vr_of {δ : Sl} {i : Nat} {v : Val} (h : atSl δ i = some v) : vr i δ = some (.ok (.sl i), δ) := by unfold vr; rw [h]

theorem st1 (G : Good b) : ∃ (n : Nat) (b' : Val), n < 128 ^ 31 ∧ Good b' ∧
    (asgS (callS fs__law_some (consA (vr 1) (consA (lstS (consA (callS fs__law_take (consA (vr 1) (consA (kI 200) (M.pure [])))) (consA (callS fs__law_take (consA (vr 1) (consA (op2 powV (kI 10) (kI 9)) (M.pure [])))) (consA (kI 128) (consA (kI 16384) (consA (op2 addV (op2 powV (kI 10) (kI 60)) (callS fs__law_take (consA (vr 1) (consA (op2 powV (kI 10) (kI 9)) (M.pure []))))) (M.pure []))))))) (M.pure [])))) (nmG 3)) [s0, some b, s2, s3, s4, s5, s6, s7, s8, s9, s10, s11, s12] = some (.ok .nx, [s0, some b', s2, some (.d (.int (n : Nat))), s4, s5, s6, s7, s8, s9, s10, s11, s12]) := by
  obtain ⟨v1, b1, a1, a2, G1, e1⟩ := ev_take G (δ := [s0, some b, s2, s3, s4, s5, s6, s7, s8, s9, s10, s11, s12]) rfl (te := kI 200) (r := .tm (.d (.int 200))) (many := 200) (by decide) (by decide) rfl rfl
  have p9 : powV (.d (.int 10)) (.d (.int 9)) = some (.d (.int (10 ^ 9))) := powV_r (i := 10) (j := 9) (by decide)
  have p60 : powV (.d (.int 10)) (.d (.int 60)) = some (.d (.int (10 ^ 60))) := powV_r (i := 10) (j := 60) (by decide)
  obtain ⟨v2, b2, a3, a4, G2, e2⟩ := ev_take G1 (δ := [s0, some b1, s2, s3, s4, s5, s6, s7, s8, s9, s10, s11, s12]) rfl (te := op2 powV (kI 10) (kI 9)) (r := .tm (.d (.int (10 ^ 9)))) (many := 10 ^ 9) (by decide) (by decide) (op2_of rfl rfl rfl rfl p9) rfl
  obtain ⟨v3, b3, a5, a6, G3, e3⟩ := ev_take G2 (δ := [s0, some b2, s2, s3, s4, s5, s6, s7, s8, s9, s10, s11, s12]) rfl (te := op2 powV (kI 10) (kI 9)) (r := .tm (.d (.int (10 ^ 9)))) (many := 10 ^ 9) (by decide) (by decide) (op2_of rfl rfl rfl rfl p9) rfl
  have e60 : (op2 addV (op2 powV (kI 10) (kI 60)) (callS fs__law_take (consA (vr 1) (consA (op2 powV (kI 10) (kI 9)) (M.pure []))))) [s0, some b2, s2, s3, s4, s5, s6, s7, s8, s9, s10, s11, s12] = some (.ok (.tm (.d (.int (10 ^ 60 + v3)))), [s0, some b3, s2, s3, s4, s5, s6, s7, s8, s9, s10, s11, s12]) := op2_of (op2_of rfl rfl rfl rfl p60) e3 rfl rfl (addV_int _ _)
  have el : (lstS (consA (callS fs__law_take (consA (vr 1) (consA (kI 200) (M.pure [])))) (consA (callS fs__law_take (consA (vr 1) (consA (op2 powV (kI 10) (kI 9)) (M.pure [])))) (consA (kI 128) (consA (kI 16384) (consA (op2 addV (op2 powV (kI 10) (kI 60)) (callS fs__law_take (consA (vr 1) (consA (op2 powV (kI 10) (kI 9)) (M.pure []))))) (M.pure []))))))) [s0, some b, s2, s3, s4, s5, s6, s7, s8, s9, s10, s11, s12] = some (.ok (.tm (.ol ([v1, v2, 128, 16384, 10 ^ 60 + v3].map fun i => Val.d (.int i)))), [s0, some b3, s2, s3, s4, s5, s6, s7, s8, s9, s10, s11, s12]) :=
    lst_of (ev_cons e1 (ev_cons e2 (ev_cons rfl (ev_cons rfl (ev_one e60))))) rfl (by show 5 ≤ sizeLine; decide)
  obtain ⟨n, b4, hn, G4, e4⟩ := f__law_some G3 [v1, v2, 128, 16384, 10 ^ 60 + v3] (by show 0 < 5; decide) (by show 5 < 1000; decide)
  have hb : 0 ≤ n ∧ n < 128 ^ 31 := by
    simp only [List.mem_cons, List.not_mem_nil, or_false] at hn
    have big : (10 : Int) ^ 60 + 10 ^ 9 < 128 ^ 31 := by decide
    have p1 : (0 : Int) < 10 ^ 60 := by decide
    have p2 : (200 : Int) < 128 ^ 31 := by decide
    have p3 : (16384 : Int) < 128 ^ 31 := by decide
    have p4 : (10 : Int) ^ 9 < 128 ^ 31 := by decide
    generalize (128 : Int) ^ 31 = M at *
    generalize (10 : Int) ^ 60 = S at *
    rcases hn with rfl | rfl | rfl | rfl | rfl <;> constructor <;> omega
  have ec := ev_callM (F := fs__law_some) (i := 1) (tb := lstS (consA (callS fs__law_take (consA (vr 1) (consA (kI 200) (M.pure [])))) (consA (callS fs__law_take (consA (vr 1) (consA (op2 powV (kI 10) (kI 9)) (M.pure [])))) (consA (kI 128) (consA (kI 16384) (consA (op2 addV (op2 powV (kI 10) (kI 60)) (callS fs__law_take (consA (vr 1) (consA (op2 powV (kI 10) (kI 9)) (M.pure []))))) (M.pure []))))))) (δ := [s0, some b, s2, s3, s4, s5, s6, s7, s8, s9, s10, s11, s12]) (δ1 := [s0, some b3, s2, s3, s4, s5, s6, s7, s8, s9, s10, s11, s12]) (b := b3) (b' := b4) (a := b) (v := .d (.int n)) rfl rfl el rfl rfl e4
  refine ⟨n.toNat, b4, ?_, G4, ?_⟩
  · have h2 := hb.2
    have e : ((128 ^ 31 : Nat) : Int) = 128 ^ 31 := by norm_cast
    omega
  · rw [Int.toNat_of_nonneg hb.1]
    exact asg_of ec rfl rfl
theorem st2 (n : Nat) (hn : n < 128 ^ 31) : (asgS (callS fs__law_integer (consA (vr 3) (M.pure []))) (nmG 4)) [s0, some b, s2, some (.d (.int (n : Nat))), s4, s5, s6, s7, s8, s9, s10, s11, s12] = some (.ok .nx, [s0, some b, s2, some (.d (.int (n : Nat))), some (.d (.tuple ((octs 30 n).map .int))), s5, s6, s7, s8, s9, s10, s11, s12]) :=
  asg_of (ev_call1 (F := fs__law_integer) (te := vr 3) rfl rfl rfl (f__law_integer 30 n hn (by decide))) rfl rfl
theorem lc_loop : ∀ (ds : List PyData) (acc : List Val) (b : Val), Good b → acc.length + ds.length ≤ 100 → ∃ (xs : List Int) (b' : Val), xs.length = ds.length ∧ Oct xs ∧ Good b' ∧
    lcL [12] (nmG 12) (M.pure true) (callS fs__law_take (consA (vr 1) (consA (kI 256) (M.pure [])))) ds acc [s0, some b, s2, s3, s4, s5, s6, s7, s8, s9, s10, s11, none] = some (acc ++ xs.map fun i => Val.d (.int i), [s0, some b', s2, s3, s4, s5, s6, s7, s8, s9, s10, s11, none])
  | [], acc, b, G, h => ⟨[], b, rfl, fun _ h => (nomatch h), G, by simp [lcL]⟩
  | d :: ds, acc, b, G, h => by
    obtain ⟨v, b1, a1, a2, G1, e1⟩ := ev_take G (δ := [s0, some b, s2, s3, s4, s5, s6, s7, s8, s9, s10, s11, some (.d d)]) rfl (te := kI 256) (r := .tm (.d (.int 256))) (many := 256) (by decide) (by decide) rfl rfl
    have hz : acc.length < sizeLine := Nat.lt_of_lt_of_le (show acc.length < 101 by simp at h; omega) (by decide)
    obtain ⟨xs, b', l1, o1, G', e2⟩ := lc_loop ds (acc ++ [.d (.int v)]) b1 G1 (by simp at h ⊢; omega)
    refine ⟨v :: xs, b', by simp [l1], fun x hx => ?_, G', ?_⟩
    · rcases List.mem_cons.mp hx with rfl | hx
      · omega
      · exact o1 x hx
    · rw [lcL]
      show (match (callS fs__law_take (consA (vr 1) (consA (kI 256) (M.pure [])))) [s0, some b, s2, s3, s4, s5, s6, s7, s8, s9, s10, s11, some (.d d)] with | some (.ok r, δ3) => _ | _ => none) = _
      rw [e1]
      show (if acc.length < sizeLine then lcL [12] (nmG 12) (M.pure true) (callS fs__law_take (consA (vr 1) (consA (kI 256) (M.pure [])))) ds (acc ++ [.d (.int v)]) [s0, some b1, s2, s3, s4, s5, s6, s7, s8, s9, s10, s11, none] else none) = _
      rw [if_pos hz, e2]
      simp
theorem row_of (G : Good b) (k : Int) (h0 : 0 < k) (h1 : k ≤ 64) : ∃ (xs : List Int) (b' : Val), (xs.length : Int) < k ∧ Oct xs ∧ Good b' ∧
    opN tupleV (consA (lcS [12] (rg1I (callS fs__law_take (consA (vr 1) (consA (kI k) (M.pure []))))) (nmG 12) (M.pure true) (callS fs__law_take (consA (vr 1) (consA (kI 256) (M.pure []))))) (M.pure [])) [s0, some b, s2, s3, s4, s5, s6, s7, s8, s9, s10, s11, s12] = some (.ok (.tm (.d (.tuple (xs.map .int)))), [s0, some b', s2, s3, s4, s5, s6, s7, s8, s9, s10, s11, none]) := by
  obtain ⟨v, b1, a1, a2, G1, e1⟩ := ev_take G (δ := [s0, some b, s2, s3, s4, s5, s6, s7, s8, s9, s10, s11, s12]) rfl (te := kI k) (r := .tm (.d (.int k))) (many := k) h0 (by omega) rfl rfl
  obtain ⟨xs, b', l1, o1, G', e2⟩ := lc_loop (s0 := s0) (s2 := s2) (s3 := s3) (s4 := s4) (s5 := s5) (s6 := s6) (s7 := s7) (s8 := s8) (s9 := s9) (s10 := s10) (s11 := s11) (rangeD 0 v.toNat) [] b1 G1 (by simp [rangeD]; omega)
  refine ⟨xs, b', by rw [l1]; simp [rangeD]; omega, o1, G', ?_⟩
  have er : rg1I (callS fs__law_take (consA (vr 1) (consA (kI k) (M.pure [])))) [s0, some b, s2, s3, s4, s5, s6, s7, s8, s9, s10, s11, s12] = some (.ok (rangeD 0 v.toNat), [s0, some b1, s2, s3, s4, s5, s6, s7, s8, s9, s10, s11, s12]) := by
    unfold rg1I
    rw [bind_ok e1]
    exact if_pos ⟨by omega, by omega⟩
  have el : lcS [12] (rg1I (callS fs__law_take (consA (vr 1) (consA (kI k) (M.pure []))))) (nmG 12) (M.pure true) (callS fs__law_take (consA (vr 1) (consA (kI 256) (M.pure [])))) [s0, some b, s2, s3, s4, s5, s6, s7, s8, s9, s10, s11, s12] = some (.ok (.tm (.ol (xs.map fun i => Val.d (.int i)))), [s0, some b', s2, s3, s4, s5, s6, s7, s8, s9, s10, s11, none]) := by
    unfold lcS
    rw [bind_ok er]
    show (match lcL [12] (nmG 12) (M.pure true) (callS fs__law_take (consA (vr 1) (consA (kI 256) (M.pure [])))) (rangeD 0 v.toNat) [] [s0, some b1, s2, s3, s4, s5, s6, s7, s8, s9, s10, s11, none] with | some (acc, δ') => _ | none => none) = _
    rw [e2]; rfl
  exact opN_of (ev_one el) rfl (by show (allD (xs.map fun i => Val.d (.int i))).map _ = _; rw [allD_ints]; rfl)
theorem st3 (G : Good b) : ∃ (A : List Int) (b' : Val), A.length < 4 ∧ Oct A ∧ Good b' ∧ (asgS (opN tupleV (consA (lcS [12] (rg1I (callS fs__law_take (consA (vr 1) (consA (kI 4) (M.pure []))))) (nmG 12) (M.pure true) (callS fs__law_take (consA (vr 1) (consA (kI 256) (M.pure []))))) (M.pure []))) (nmG 5)) [s0, some b, s2, s3, s4, s5, s6, s7, s8, s9, s10, s11, s12] = some (.ok .nx, [s0, some b', s2, s3, s4, some (.d (.tuple (A.map .int))), s6, s7, s8, s9, s10, s11, none]) := by
  obtain ⟨A, b', l, o, G', e⟩ := row_of (s0 := s0) (s2 := s2) (s3 := s3) (s4 := s4) (s5 := s5) (s6 := s6) (s7 := s7) (s8 := s8) (s9 := s9) (s10 := s10) (s11 := s11) (s12 := s12) G 4 (by decide) (by decide)
  exact ⟨A, b', by omega, o, G', asg_of e rfl rfl⟩
theorem st8 (G : Good b) : ∃ (A : List Int) (b' : Val), A.length < 12 ∧ Oct A ∧ Good b' ∧ (asgS (opN tupleV (consA (lcS [12] (rg1I (callS fs__law_take (consA (vr 1) (consA (kI 12) (M.pure []))))) (nmG 12) (M.pure true) (callS fs__law_take (consA (vr 1) (consA (kI 256) (M.pure []))))) (M.pure []))) (nmG 7)) [s0, some b, s2, s3, s4, s5, s6, s7, s8, s9, s10, s11, s12] = some (.ok .nx, [s0, some b', s2, s3, s4, s5, s6, some (.d (.tuple (A.map .int))), s8, s9, s10, s11, none]) := by
  obtain ⟨A, b', l, o, G', e⟩ := row_of (s0 := s0) (s2 := s2) (s3 := s3) (s4 := s4) (s5 := s5) (s6 := s6) (s7 := s7) (s8 := s8) (s9 := s9) (s10 := s10) (s11 := s11) (s12 := s12) G 12 (by decide) (by decide)
  exact ⟨A, b', by omega, o, G', asg_of e rfl rfl⟩
end K43
set_option Elab.async false
set_option linter.all false
set_option maxRecDepth 100000
set_option maxHeartbeats 4000000
namespace K43
open PySem Nv
variable [Tbs]
variable {b : Val} {s0 s1 s2 s3 s4 s5 s6 s7 s8 s9 s10 s11 s12 : Option Val}
theorem nodes_ints : ∀ xs : List Int, nodesL (xs.map .int) = xs.length
  | [] => rfl
  | x :: xs => by rw [List.map_cons, nodesL, nodes_ints xs]; simp [nodes]; omega
theorem plain_ints : ∀ xs : List Int, plainL (xs.map .int) = true
  | [] => rfl
  | x :: xs => by rw [List.map_cons, plainL, plain_ints xs]; rfl
theorem len_of {δ : Sl} {i : Nat} {xs : List Int} (h : atSl δ i = some (.d (.tuple (xs.map .int)))) : opN lenV (consA (vr i) (M.pure [])) δ = some (.ok (.tm (.d (.int (xs.length : Nat)))), δ) :=
  opN_of (ev_one (vr_of h)) (by show ((atSl δ i).bind _) = _; rw [h]; rfl) (lenV_ints xs)

theorem st4 (n : Nat) (hn : n < 128 ^ 31) (A : List Int) (hA : A.length < 4) : (asgS (fzS (lstS (consA (callS fs_integer_octets (consA (vr 3) (M.pure []))) (consA (callS fs_read_integer (consA (op2 addV (op2 addV (vr 5) (vr 4)) (tupS (consA (kI 5) (M.pure [])))) (consA (opN lenV (consA (vr 5) (M.pure []))) (M.pure [])))) (M.pure []))))) (nmG 6)) [s0, some b, s2, some (.d (.int (n : Nat))), some (.d (.tuple ((octs 30 n).map .int))), some (.d (.tuple (A.map .int))), s6, s7, s8, s9, s10, s11, s12] = some (.ok .nx, [s0, some b, s2, some (.d (.int (n : Nat))), some (.d (.tuple ((octs 30 n).map .int))), some (.d (.tuple (A.map .int))), some (.d (.list [.tuple ((octs 30 n).map .int), .tuple [.int (n : Nat), .int ((A.length + (octs 30 n).length : Nat) : Int)]])), s7, s8, s9, s10, s11, s12]) := by
  have hl := octs_len 30 n
  have big : (100 : Nat) ≤ sizeLine := by decide
  have e1 := ev_call1 (F := fs_integer_octets) (te := vr 3) (δ := [s0, some b, s2, some (.d (.int (n : Nat))), some (.d (.tuple ((octs 30 n).map .int))), some (.d (.tuple (A.map .int))), s6, s7, s8, s9, s10, s11, s12]) rfl rfl rfl (f_integer_octets 30 n hn (by decide))
  have e2 : op2 addV (vr 5) (vr 4) [s0, some b, s2, some (.d (.int (n : Nat))), some (.d (.tuple ((octs 30 n).map .int))), some (.d (.tuple (A.map .int))), s6, s7, s8, s9, s10, s11, s12] = some (.ok (.tm (.d (.tuple ((A ++ octs 30 n).map .int)))), [s0, some b, s2, some (.d (.int (n : Nat))), some (.d (.tuple ((octs 30 n).map .int))), some (.d (.tuple (A.map .int))), s6, s7, s8, s9, s10, s11, s12]) := op2_of rfl rfl rfl rfl (addT_ints A (octs 30 n) (by omega))
  have e3 : tupS (consA (kI 5) (M.pure [])) [s0, some b, s2, some (.d (.int (n : Nat))), some (.d (.tuple ((octs 30 n).map .int))), some (.d (.tuple (A.map .int))), s6, s7, s8, s9, s10, s11, s12] = some (.ok (.tm (.d (.tuple (([5] : List Int).map .int)))), [s0, some b, s2, some (.d (.int (n : Nat))), some (.d (.tuple ((octs 30 n).map .int))), some (.d (.tuple (A.map .int))), s6, s7, s8, s9, s10, s11, s12]) := tup_of (ev_one rfl) rfl (by show 1 ≤ sizeLine; decide)
  have e4 : op2 addV (op2 addV (vr 5) (vr 4)) (tupS (consA (kI 5) (M.pure []))) [s0, some b, s2, some (.d (.int (n : Nat))), some (.d (.tuple ((octs 30 n).map .int))), some (.d (.tuple (A.map .int))), s6, s7, s8, s9, s10, s11, s12] = some (.ok (.tm (.d (.tuple ((A ++ octs 30 n ++ [5]).map .int)))), [s0, some b, s2, some (.d (.int (n : Nat))), some (.d (.tuple ((octs 30 n).map .int))), some (.d (.tuple (A.map .int))), s6, s7, s8, s9, s10, s11, s12]) := op2_of e2 e3 rfl rfl (addT_ints (A ++ octs 30 n) [5] (by rw [List.length_append]; show A.length + (octs 30 n).length + 1 ≤ sizeLine; omega))
  have f := f_read_ok A [5] 30 n hn (by decide)
  rw [← List.append_assoc] at f
  have e5 := ev_call2 (F := fs_read_integer) (δ := [s0, some b, s2, some (.d (.int (n : Nat))), some (.d (.tuple ((octs 30 n).map .int))), some (.d (.tuple (A.map .int))), s6, s7, s8, s9, s10, s11, s12]) rfl e4 (len_of (i := 5) (xs := A) rfl) rfl rfl f
  have e6 := fz_of (lst_of (ev_cons e1 (ev_one e5)) rfl (by show 2 ≤ sizeLine; decide))
  exact asg_of e6 rfl rfl
theorem st5 (n : Nat) (A : List Int) (hA : A.length < 4) : (ifS (notT (asT (callS fs__law_alike (consA (vr 6) (consA (fzS (lstS (consA (vr 4) (consA (tupS (consA (vr 3) (consA (op2 addV (opN lenV (consA (vr 5) (M.pure []))) (opN lenV (consA (vr 4) (M.pure [])))) (M.pure [])))) (M.pure []))))) (M.pure []))))))
  (seqS (retS (kB false))
  (M.pure .nx))
  (M.pure .nx)) [s0, some b, s2, some (.d (.int (n : Nat))), some (.d (.tuple ((octs 30 n).map .int))), some (.d (.tuple (A.map .int))), some (.d (.list [.tuple ((octs 30 n).map .int), .tuple [.int (n : Nat), .int ((A.length + (octs 30 n).length : Nat) : Int)]])), s7, s8, s9, s10, s11, s12] = some (.ok .nx, [s0, some b, s2, some (.d (.int (n : Nat))), some (.d (.tuple ((octs 30 n).map .int))), some (.d (.tuple (A.map .int))), some (.d (.list [.tuple ((octs 30 n).map .int), .tuple [.int (n : Nat), .int ((A.length + (octs 30 n).length : Nat) : Int)]])), s7, s8, s9, s10, s11, s12]) := by
  have hl := octs_len 30 n
  have e1 : op2 addV (opN lenV (consA (vr 5) (M.pure []))) (opN lenV (consA (vr 4) (M.pure []))) [s0, some b, s2, some (.d (.int (n : Nat))), some (.d (.tuple ((octs 30 n).map .int))), some (.d (.tuple (A.map .int))), some (.d (.list [.tuple ((octs 30 n).map .int), .tuple [.int (n : Nat), .int ((A.length + (octs 30 n).length : Nat) : Int)]])), s7, s8, s9, s10, s11, s12] = some (.ok (.tm (.d (.int ((A.length + (octs 30 n).length : Nat) : Int)))), [s0, some b, s2, some (.d (.int (n : Nat))), some (.d (.tuple ((octs 30 n).map .int))), some (.d (.tuple (A.map .int))), some (.d (.list [.tuple ((octs 30 n).map .int), .tuple [.int (n : Nat), .int ((A.length + (octs 30 n).length : Nat) : Int)]])), s7, s8, s9, s10, s11, s12]) :=
    op2_of (len_of (i := 5) (xs := A) rfl) (len_of (i := 4) (xs := octs 30 n) rfl) rfl rfl (by rw [addV_int]; simp)
  have e2 : tupS (consA (vr 3) (consA (op2 addV (opN lenV (consA (vr 5) (M.pure []))) (opN lenV (consA (vr 4) (M.pure [])))) (M.pure []))) [s0, some b, s2, some (.d (.int (n : Nat))), some (.d (.tuple ((octs 30 n).map .int))), some (.d (.tuple (A.map .int))), some (.d (.list [.tuple ((octs 30 n).map .int), .tuple [.int (n : Nat), .int ((A.length + (octs 30 n).length : Nat) : Int)]])), s7, s8, s9, s10, s11, s12] = some (.ok (.tm (.d (.tuple [.int (n : Nat), .int ((A.length + (octs 30 n).length : Nat) : Int)]))), [s0, some b, s2, some (.d (.int (n : Nat))), some (.d (.tuple ((octs 30 n).map .int))), some (.d (.tuple (A.map .int))), some (.d (.list [.tuple ((octs 30 n).map .int), .tuple [.int (n : Nat), .int ((A.length + (octs 30 n).length : Nat) : Int)]])), s7, s8, s9, s10, s11, s12]) := tup_of (ev_cons rfl (ev_one e1)) rfl (by show 2 ≤ sizeLine; decide)
  have e3 := fz_of (lst_of (δ := [s0, some b, s2, some (.d (.int (n : Nat))), some (.d (.tuple ((octs 30 n).map .int))), some (.d (.tuple (A.map .int))), some (.d (.list [.tuple ((octs 30 n).map .int), .tuple [.int (n : Nat), .int ((A.length + (octs 30 n).length : Nat) : Int)]])), s7, s8, s9, s10, s11, s12]) (ev_cons (te := vr 4) rfl (ev_one e2)) rfl (by show 2 ≤ sizeLine; decide))
  have f := f__law_alike (.list [.tuple ((octs 30 n).map .int), .tuple [.int (n : Nat), .int ((A.length + (octs 30 n).length : Nat) : Int)]]) (by simp [plainB, plainL, plain_ints]) (by simp [nodes, nodesL, nodes_ints]; omega)
  exact pass_of (notT_of (asT_of (ev_call2 (F := fs__law_alike) (δ := [s0, some b, s2, some (.d (.int (n : Nat))), some (.d (.tuple ((octs 30 n).map .int))), some (.d (.tuple (A.map .int))), some (.d (.list [.tuple ((octs 30 n).map .int), .tuple [.int (n : Nat), .int ((A.length + (octs 30 n).length : Nat) : Int)]])), s7, s8, s9, s10, s11, s12]) rfl rfl e3 rfl rfl f)))
theorem neB (i : Nat) : neV (.d (.tuple [.str "bytes", .int (i : Int), .str "integer"])) (.d (.tuple [.str "bytes", .int (i : Int), .str "integer"])) = some (.d (.bool false)) := by
  unfold neV
  have h1 : SeqAt.shaped (.tuple [.str "bytes", .int (i : Int), .str "integer"]) = true := by
    show (PyData.canLayAll0 [.str "bytes", .int (i : Int), .str "integer"] && decide (PyData.depth (.tuple [.str "bytes", .int (i : Int), .str "integer"]) ≤ 64)) = true
    have c1 : PyData.canLay0 (.str "bytes") = true := by decide +kernel
    have c2 : PyData.canLay0 (.str "integer") = true := by decide +kernel
    have c3 : PyData.depth (.tuple [.str "bytes", .int (i : Int), .str "integer"]) = 1 := rfl
    rw [c3]
    show ((PyData.canLay0 (.str "bytes") && (true && (PyData.canLay0 (.str "integer") && true))) && true) = true
    rw [c1, c2]; rfl
  show (if (SeqAt.shaped (.tuple [.str "bytes", .int (i : Int), .str "integer"]) && SeqAt.shaped (.tuple [.str "bytes", .int (i : Int), .str "integer"])) = true then some (Val.d (.bool (!PyData.eqv (.tuple [.str "bytes", .int (i : Int), .str "integer"]) (.tuple [.str "bytes", .int (i : Int), .str "integer"])))) else none) = _
  rw [h1]
  have h2 : PyData.eqv (.tuple [.str "bytes", .int (i : Int), .str "integer"]) (.tuple [.str "bytes", .int (i : Int), .str "integer"]) = true := by
    show ((("bytes" : Str) == "bytes") && (((i : Int) == i) && ((("integer" : Str) == "integer") && true))) = true
    simp
  rw [h2]; rfl
theorem told_er {te : ES} {δ δ1 : Sl} {i : Int} (h : te δ = some (.error ⟨"BadBytes", [("fault", .str "integer"), ("index", .int i)]⟩, δ1)) : toldS "BadBytes" "told" "bytes" "index" "fault" te δ = some (.ok (.tm (.d (.tuple [.str "bytes", .int i, .str "integer"]))), δ1) := by
  unfold toldS
  rw [h]
  have l1 : List.lookup ("index" : Str) [(("fault" : Str), PyData.str "integer"), (("index" : Str), PyData.int i)] = some (.int i) := by
    have : (("index" : Str) == ("fault" : Str)) = false := by decide
    simp [List.lookup, this]
  have l2 : List.lookup ("fault" : Str) [(("fault" : Str), PyData.str "integer"), (("index" : Str), PyData.int i)] = some (.str "integer") := by simp [List.lookup]
  show (if ("BadBytes" : Str) = "BadBytes" then (List.lookup ("index" : Str) [(("fault" : Str), PyData.str "integer"), (("index" : Str), PyData.int i)]).bind (fun y1 => (List.lookup ("fault" : Str) [(("fault" : Str), PyData.str "integer"), (("index" : Str), PyData.int i)]).map fun y2 => ((Except.ok (Rs.tm (.d (.tuple [.str "bytes", y1, y2]))), δ1) : Except Exn Rs × Sl)) else none) = _
  rw [if_pos rfl, l1, l2]; rfl
theorem cut_last (xs : List Int) (z : Int) : slV none (some (-1)) (.d (.tuple ((xs ++ [z]).map .int))) = some (.d (.tuple (xs.map .int))) := by
  show some (Val.d (.tuple (cutA ((xs ++ [z]).map PyData.int) none (some (-1))))) = _
  have h := cut_take ((xs ++ [z]).map PyData.int) 1 (by simp)
  have e : HT.sIx ((xs ++ [z]).map PyData.int).length ((xs ++ [z]).map PyData.int).length (some (-1)) = xs.length := by
    show (if (-1 : Int) < 0 then ((-1 : Int) + (((xs ++ [z]).map PyData.int).length : Nat)).toNat else min (-1 : Int).toNat ((xs ++ [z]).map PyData.int).length) = _
    rw [if_pos (by decide)]
    simp
    omega
  unfold cutA
  rw [e]
  show some (Val.d (.tuple ((List.drop 0 ((xs ++ [z]).map PyData.int)).take (xs.length - 0)))) = _
  rw [List.drop_zero, Nat.sub_zero, ← List.map_take, List.take_left]
theorem st6 (n : Nat) (hn : n < 128 ^ 31) (A : List Int) (hA : A.length < 4) : (ifS (asT (op2 neV (toldS "BadBytes" "told" "bytes" "index" "fault" (callS fs_read_integer (consA (op2 addV (vr 5) (slS (vr 4) noP (asI (op1 negV (kI 1))))) (consA (opN lenV (consA (vr 5) (M.pure []))) (M.pure []))))) (tupS (consA (kS "bytes") (consA (opN lenV (consA (vr 5) (M.pure []))) (consA (kS "integer") (M.pure [])))))))
  (seqS (retS (kB false))
  (M.pure .nx))
  (M.pure .nx)) [s0, some b, s2, s3, some (.d (.tuple ((octs 30 n).map .int))), some (.d (.tuple (A.map .int))), s6, s7, s8, s9, s10, s11, s12] = some (.ok .nx, [s0, some b, s2, s3, some (.d (.tuple ((octs 30 n).map .int))), some (.d (.tuple (A.map .int))), s6, s7, s8, s9, s10, s11, s12]) := by
  have hl := octs_len 30 n
  have big : (100 : Nat) ≤ sizeLine := by decide
  obtain ⟨ini, z, ez, hz, hi, h0⟩ := octs_parts 30 n hn
  obtain ⟨δ, hδ⟩ : ∃ δ, δ = [s0, some b, s2, s3, some (.d (.tuple ((octs 30 n).map .int))), some (.d (.tuple (A.map .int))), s6, s7, s8, s9, s10, s11, s12] := ⟨_, rfl⟩
  have h5 : atSl δ 5 = some (.d (.tuple (A.map .int))) := by rw [hδ]; rfl
  have h4 : atSl δ 4 = some (.d (.tuple ((octs 30 n).map .int))) := by rw [hδ]; rfl
  have e1 : slS (vr 4) noP (asI (op1 negV (kI 1))) δ = some (.ok (.tm (.d (.tuple (ini.map .int)))), δ) := by
    have hc := cut_last ini z
    rw [← ez] at hc
    unfold slS
    rw [bind_ok (vr_of h4)]
    show fin (((atSl δ 4)).bind (slV none (some (-1)))) δ = _
    rw [h4]
    show fin (slV none (some (-1)) _) δ = _
    rw [hc]; rfl
  have e2 : op2 addV (vr 5) (slS (vr 4) noP (asI (op1 negV (kI 1)))) δ = some (.ok (.tm (.d (.tuple ((A ++ ini).map .int)))), δ) := op2_of (vr_of h5) e1 h5 rfl (addT_ints A ini (by rw [ez, List.length_append] at hl; simp at hl; omega))
  have e3 := er_call2 (F := fs_read_integer) (δ := δ) rfl e2 (len_of h5) rfl rfl (f_read_cut A ini fun x hx => (hi x hx).1)
  have e4 : tupS (consA (kS "bytes") (consA (opN lenV (consA (vr 5) (M.pure []))) (consA (kS "integer") (M.pure [])))) δ = some (.ok (.tm (.d (.tuple [.str "bytes", .int (A.length : Nat), .str "integer"]))), δ) := tup_of (ev_cons rfl (ev_cons (len_of h5) (ev_one rfl))) rfl (by show 3 ≤ sizeLine; decide)
  rw [← hδ]
  exact pass_of (asT_of (op2_of (told_er e3) e4 rfl rfl (neB A.length)))
theorem st7 : (ifS (asT (op2 neV (toldS "BadBytes" "told" "bytes" "index" "fault" (callS fs_read_integer (consA (tupS (consA (kI 128) (consA (kI 0) (M.pure [])))) (consA (kI 0) (M.pure []))))) (tupS (consA (kS "bytes") (consA (kI 0) (consA (kS "integer") (M.pure [])))))))
  (seqS (retS (kB false))
  (M.pure .nx))
  (M.pure .nx)) [s0, some b, s2, s3, s4, s5, s6, s7, s8, s9, s10, s11, s12] = some (.ok .nx, [s0, some b, s2, s3, s4, s5, s6, s7, s8, s9, s10, s11, s12]) := by
  obtain ⟨δ, hδ⟩ : ∃ δ, δ = [s0, some b, s2, s3, s4, s5, s6, s7, s8, s9, s10, s11, s12] := ⟨_, rfl⟩
  rw [← hδ]
  have f := f_read_zero [] [128] [] (by simp) (by decide)
  have e1 : tupS (consA (kI 128) (consA (kI 0) (M.pure []))) δ = some (.ok (.tm (.d (.tuple (([] ++ ([128] ++ 0 :: []) : List Int).map .int)))), δ) := tup_of (ev_cons rfl (ev_one rfl)) rfl (by show 2 ≤ sizeLine; decide)
  have e3 := er_call2 (F := fs_read_integer) (δ := δ) rfl e1 (tb := kI 0) (r2 := .tm (.d (.int ((([] : List Int).length : Nat) : Int)))) rfl rfl rfl f
  have e4 : tupS (consA (kS "bytes") (consA (kI 0) (consA (kS "integer") (M.pure [])))) δ = some (.ok (.tm (.d (.tuple [.str "bytes", .int ((([] : List Int).length : Nat) : Int), .str "integer"]))), δ) := tup_of (ev_cons rfl (ev_cons rfl (ev_one rfl))) rfl (by show 3 ≤ sizeLine; decide)
  exact pass_of (asT_of (op2_of (told_er e3) e4 rfl rfl (neB 0)))
theorem st9 (A : List Int) (hA : A.length < 12) : (asgS (callS fs__law_sealed (consA (vr 7) (M.pure []))) (nmG 8)) [s0, some b, s2, s3, s4, s5, s6, some (.d (.tuple (A.map .int))), s8, s9, s10, s11, s12] = some (.ok .nx, [s0, some b, s2, s3, s4, s5, s6, some (.d (.tuple (A.map .int))), some (.d (.tuple ((A ++ by4 (chk 1 A)).map .int))), s9, s10, s11, s12]) := by
  have big : (100 : Nat) ≤ sizeLine := by decide
  exact asg_of (ev_call1 (F := fs__law_sealed) (te := vr 7) rfl rfl rfl (f__law_sealed A (by omega))) rfl rfl
theorem st10 (A : List Int) (hA : A.length < 12) : (ifS (notT (asT (callS fs__law_alike (consA (fzS (lstS (consA (callS fs_check_of (consA (vr 7) (M.pure []))) (consA (callS fs_sealed (consA (vr 7) (M.pure []))) (consA (callS fs_is_sealed (consA (vr 8) (M.pure []))) (M.pure [])))))) (consA (fzS (lstS (consA (callS fs__law_check (consA (vr 7) (M.pure []))) (consA (vr 8) (consA (kB true) (M.pure [])))))) (M.pure []))))))
  (seqS (retS (kB false))
  (M.pure .nx))
  (M.pure .nx)) [s0, some b, s2, s3, s4, s5, s6, some (.d (.tuple (A.map .int))), some (.d (.tuple ((A ++ by4 (chk 1 A)).map .int))), s9, s10, s11, s12] = some (.ok .nx, [s0, some b, s2, s3, s4, s5, s6, some (.d (.tuple (A.map .int))), some (.d (.tuple ((A ++ by4 (chk 1 A)).map .int))), s9, s10, s11, s12]) := by
  have big : (100 : Nat) ≤ sizeLine := by decide
  have wl : (A ++ by4 (chk 1 A)).length = A.length + 4 := by rw [List.length_append, by4_len]
  have hs := sealed_self A
  unfold Sealed at hs
  have f3 := f_is_sealed (A ++ by4 (chk 1 A)) (by omega) (by omega)
  rw [decide_eq_true hs] at f3
  have a1 := ev_call1 (F := fs_check_of) (te := vr 7) (δ := [s0, some b, s2, s3, s4, s5, s6, some (.d (.tuple (A.map .int))), some (.d (.tuple ((A ++ by4 (chk 1 A)).map .int))), s9, s10, s11, s12]) rfl rfl rfl (f_check_of A)
  have a2 := ev_call1 (F := fs_sealed) (te := vr 7) (δ := [s0, some b, s2, s3, s4, s5, s6, some (.d (.tuple (A.map .int))), some (.d (.tuple ((A ++ by4 (chk 1 A)).map .int))), s9, s10, s11, s12]) rfl rfl rfl (f_sealed A (by omega))
  have a3 := ev_call1 (F := fs_is_sealed) (te := vr 8) (δ := [s0, some b, s2, s3, s4, s5, s6, some (.d (.tuple (A.map .int))), some (.d (.tuple ((A ++ by4 (chk 1 A)).map .int))), s9, s10, s11, s12]) rfl rfl rfl f3
  have a4 := fz_of (lst_of (ev_cons a1 (ev_cons a2 (ev_one a3))) rfl (by show 3 ≤ sizeLine; decide))
  have b1 := ev_call1 (F := fs__law_check) (te := vr 7) (δ := [s0, some b, s2, s3, s4, s5, s6, some (.d (.tuple (A.map .int))), some (.d (.tuple ((A ++ by4 (chk 1 A)).map .int))), s9, s10, s11, s12]) rfl rfl rfl (f__law_check A)
  have b4 := fz_of (lst_of (ev_cons b1 (ev_cons (te := vr 8) rfl (ev_one (te := kB true) rfl))) rfl (by show 3 ≤ sizeLine; decide))
  have f := f__law_alike (.list [.int (chk 1 A), .tuple ((A ++ by4 (chk 1 A)).map .int), .bool true]) (by show (true && (plainL ((A ++ by4 (chk 1 A)).map .int) && (true && true))) = true; rw [plain_ints]; rfl) (by
    show 2 * (1 + (nodesL ((A ++ by4 (chk 1 A)).map .int) + 1 + (1 + 0)) + 1) < 9000
    rw [nodes_ints, wl]; omega)
  exact pass_of (notT_of (asT_of (ev_call2 (F := fs__law_alike) rfl a4 b4 rfl rfl f)))
theorem st11 (G : Good b) (A : List Int) (hA : A.length < 12) : ∃ (t : Nat) (b' : Val), t < A.length + 4 ∧ Good b' ∧ (asgS (callS fs__law_take (consA (vr 1) (consA (opN lenV (consA (vr 8) (M.pure []))) (M.pure [])))) (nmG 9)) [s0, some b, s2, s3, s4, s5, s6, s7, some (.d (.tuple ((A ++ by4 (chk 1 A)).map .int))), s9, s10, s11, s12] = some (.ok .nx, [s0, some b', s2, s3, s4, s5, s6, s7, some (.d (.tuple ((A ++ by4 (chk 1 A)).map .int))), some (.d (.int (t : Nat))), s10, s11, s12]) := by
  have wl : (A ++ by4 (chk 1 A)).length = A.length + 4 := by rw [List.length_append, by4_len]
  obtain ⟨v, b', a1, a2, G', e⟩ := ev_take G (δ := [s0, some b, s2, s3, s4, s5, s6, s7, some (.d (.tuple ((A ++ by4 (chk 1 A)).map .int))), s9, s10, s11, s12]) rfl (many := ((A ++ by4 (chk 1 A)).length : Nat)) (by omega) (by omega) (len_of (i := 8) (xs := (A ++ by4 (chk 1 A))) rfl) rfl
  refine ⟨v.toNat, b', by omega, G', ?_⟩
  rw [Int.toNat_of_nonneg a1]
  exact asg_of e rfl rfl
theorem st12 (B : List Int) : (asgS (opN listV (consA (vr 8) (M.pure []))) (nmG 10)) [s0, some b, s2, s3, s4, s5, s6, s7, some (.d (.tuple (B.map .int))), s9, s10, s11, s12] = some (.ok .nx, [s0, some b, s2, s3, s4, s5, s6, s7, some (.d (.tuple (B.map .int))), s9, some (.ol (B.map fun i => Val.d (.int i))), s11, s12]) := by
  refine asg_of (opN_of (z := .ol (B.map fun i => Val.d (.int i))) (ev_one (te := vr 8) rfl) rfl ?_) rfl rfl
  show some (Val.ol ((B.map PyData.int).map Val.d)) = _
  rw [List.map_map]; rfl
end K43
set_option Elab.async false
set_option linter.all false
set_option maxRecDepth 100000
set_option maxHeartbeats 4000000
namespace K43
open PySem Nv
variable [Tbs]
variable {b : Val} {s0 s1 s2 s3 s4 s5 s6 s7 s8 s9 s10 s11 s12 : Option Val}
theorem rangeD_succ (lo : Nat) (k : Nat) : rangeD (lo : Int) (k + 1) = .int (lo : Nat) :: rangeD ((lo + 1 : Nat) : Int) k := by
  unfold rangeD
  rw [List.range_succ_eq_map, List.map_cons, List.map_map]
  refine List.cons_eq_cons.mpr ⟨by simp, List.map_congr_left fun i _ => ?_⟩
  show PyData.int ((lo : Int) + ((i + 1 : Nat) : Int)) = PyData.int (((lo + 1 : Nat) : Int) + (i : Nat))
  have : (lo : Int) + ((i + 1 : Nat) : Int) = ((lo + 1 : Nat) : Int) + (i : Nat) := by omega
  rw [this]
theorem set_ints (xs : List Int) (i : Nat) (v : Int) : (xs.map fun i => Val.d (.int i)).set i (.d (.int v)) = (xs.set i v).map fun i => Val.d (.int i) := by
  rw [List.map_set]
theorem bent_loop : ∀ (k lo : Nat) (xs : List Int) (b : Val) (s11 : Option Val), Good b → lo + k ≤ xs.length → Oct xs → ∃ (ys : List Int) (b' : Val) (o11 : Option Val), Good b' ∧ ys.length = xs.length ∧ Oct ys ∧ (∀ i, (i < lo ∨ lo + k ≤ i) → ys[i]? = xs[i]?) ∧
    forL (nmG 11) (seqS (asgS (callS fs__law_take (consA (vr 1) (consA (kI 256) (M.pure [])))) (ixG 10 (vr 11))) (M.pure .nx)) (rangeD (lo : Int) k) [s0, some b, s2, s3, s4, s5, s6, s7, s8, s9, some (.ol (xs.map fun i => Val.d (.int i))), s11, s12] = some (.ok .nx, [s0, some b', s2, s3, s4, s5, s6, s7, s8, s9, some (.ol (ys.map fun i => Val.d (.int i))), o11, s12])
  | 0, lo, xs, b, s11, G, h, o => ⟨xs, b, s11, G, rfl, o, fun _ _ => rfl, rfl⟩
  | k + 1, lo, xs, b, s11, G, h, o => by
    obtain ⟨v, b1, a1, a2, G1, e1⟩ := ev_take G (δ := [s0, some b, s2, s3, s4, s5, s6, s7, s8, s9, some (.ol (xs.map fun i => Val.d (.int i))), some (.d (.int (lo : Nat))), s12]) rfl (te := kI 256) (r := .tm (.d (.int 256))) (many := 256) (by decide) (by decide) rfl rfl
    have hix : L2.ixN (xs.map fun i => Val.d (.int i)).length ((lo : Nat) : Int) = some lo := by
      unfold L2.ixN
      rw [List.length_map, if_pos (by omega), if_pos (by omega)]; rfl
    have eg : ixG 10 (vr 11) (.d (.int v)) [s0, some b1, s2, s3, s4, s5, s6, s7, s8, s9, some (.ol (xs.map fun i => Val.d (.int i))), some (.d (.int (lo : Nat))), s12] = some (.ok (), [s0, some b1, s2, s3, s4, s5, s6, s7, s8, s9, some (.ol ((xs.set lo v).map fun i => Val.d (.int i))), some (.d (.int (lo : Nat))), s12]) := by
      show (match L2.ixN (xs.map fun i => Val.d (.int i)).length ((lo : Nat) : Int) with | some j => some (Except.ok (), [s0, some b1, s2, s3, s4, s5, s6, s7, s8, s9, some (.ol (xs.map fun i => Val.d (.int i))), some (.d (.int (lo : Nat))), s12].set 10 (some (.ol ((xs.map fun i => Val.d (.int i)).set j (.d (.int v)))))) | none => none) = _
      rw [hix]
      show some (Except.ok (), [s0, some b1, s2, s3, s4, s5, s6, s7, s8, s9, (some (.ol ((xs.map fun i => Val.d (.int i)).set lo (.d (.int v))))), some (.d (.int (lo : Nat))), s12]) = _
      rw [set_ints]
    have eb : (seqS (asgS (callS fs__law_take (consA (vr 1) (consA (kI 256) (M.pure [])))) (ixG 10 (vr 11))) (M.pure .nx)) [s0, some b, s2, s3, s4, s5, s6, s7, s8, s9, some (.ol (xs.map fun i => Val.d (.int i))), some (.d (.int (lo : Nat))), s12] = some (.ok .nx, [s0, some b1, s2, s3, s4, s5, s6, s7, s8, s9, some (.ol ((xs.set lo v).map fun i => Val.d (.int i))), some (.d (.int (lo : Nat))), s12]) := by
      rw [seq_nx (asg_of e1 rfl eg)]; rfl
    obtain ⟨ys, b', o11, G', l1, oc, ag, e2⟩ := bent_loop k (lo + 1) (xs.set lo v) b1 (some (.d (.int (lo : Nat)))) G1 (by rw [List.length_set]; omega) (fun x hx => by
      rcases List.mem_or_eq_of_mem_set hx with hx | rfl
      · exact o x hx
      · omega)
    refine ⟨ys, b', o11, G', by rw [l1, List.length_set], oc, fun i hi => ?_, ?_⟩
    · rw [ag i (by omega), List.getElem?_set_ne (by omega)]
    · rw [rangeD_succ, forL_cons (u := ()) (δ1 := [s0, some b, s2, s3, s4, s5, s6, s7, s8, s9, some (.ol (xs.map fun i => Val.d (.int i))), some (.d (.int (lo : Nat))), s12]) rfl eb, e2]
theorem st13 (G : Good b) (W : List Int) (t : Nat) (ht : t < W.length) (hW : W.length < 1000) (o : Oct W) : ∃ (ys : List Int) (b' : Val) (o11 : Option Val), Good b' ∧ ys.length = W.length ∧ Oct ys ∧ (∀ i, (i < t ∨ t + 3 ≤ i) → ys[i]? = W[i]?) ∧
    (forS (rg2I (consA (vr 9) (consA (opN minV (consA (opN lenV (consA (vr 8) (M.pure []))) (consA (op2 addV (op2 addV (vr 9) (kI 1)) (callS fs__law_take (consA (vr 1) (consA (kI 3) (M.pure []))))) (M.pure [])))) (M.pure [])))) (nmG 11) (seqS (asgS (callS fs__law_take (consA (vr 1) (consA (kI 256) (M.pure [])))) (ixG 10 (vr 11))) (M.pure .nx))) [s0, some b, s2, s3, s4, s5, s6, s7, some (.d (.tuple (W.map .int))), some (.d (.int (t : Nat))), some (.ol (W.map fun i => Val.d (.int i))), s11, s12] = some (.ok .nx, [s0, some b', s2, s3, s4, s5, s6, s7, some (.d (.tuple (W.map .int))), some (.d (.int (t : Nat))), some (.ol (ys.map fun i => Val.d (.int i))), o11, s12]) := by
  obtain ⟨v, b1, a1, a2, G1, e1⟩ := ev_take G (δ := [s0, some b, s2, s3, s4, s5, s6, s7, some (.d (.tuple (W.map .int))), some (.d (.int (t : Nat))), some (.ol (W.map fun i => Val.d (.int i))), s11, s12]) rfl (te := kI 3) (r := .tm (.d (.int 3))) (many := 3) (by decide) (by decide) rfl rfl
  have e2 : op2 addV (op2 addV (vr 9) (kI 1)) (callS fs__law_take (consA (vr 1) (consA (kI 3) (M.pure [])))) [s0, some b, s2, s3, s4, s5, s6, s7, some (.d (.tuple (W.map .int))), some (.d (.int (t : Nat))), some (.ol (W.map fun i => Val.d (.int i))), s11, s12] = some (.ok (.tm (.d (.int ((t : Int) + 1 + v)))), [s0, some b1, s2, s3, s4, s5, s6, s7, some (.d (.tuple (W.map .int))), some (.d (.int (t : Nat))), some (.ol (W.map fun i => Val.d (.int i))), s11, s12]) := op2_of (op2_of (vr_of rfl) rfl rfl rfl (addV_int _ _)) e1 rfl rfl (addV_int _ _)
  obtain ⟨m, hm⟩ : ∃ m : Int, m = if (t : Int) + 1 + v < (W.length : Nat) then (t : Int) + 1 + v else (W.length : Nat) := ⟨_, rfl⟩
  have e3 : opN minV (consA (opN lenV (consA (vr 8) (M.pure []))) (consA (op2 addV (op2 addV (vr 9) (kI 1)) (callS fs__law_take (consA (vr 1) (consA (kI 3) (M.pure []))))) (M.pure []))) [s0, some b, s2, s3, s4, s5, s6, s7, some (.d (.tuple (W.map .int))), some (.d (.int (t : Nat))), some (.ol (W.map fun i => Val.d (.int i))), s11, s12] = some (.ok (.tm (.d (.int m))), [s0, some b1, s2, s3, s4, s5, s6, s7, some (.d (.tuple (W.map .int))), some (.d (.int (t : Nat))), some (.ol (W.map fun i => Val.d (.int i))), s11, s12]) :=
    opN_of (ev_cons (len_of (i := 8) (xs := W) rfl) (ev_one e2)) rfl (by rw [hm]; rfl)
  have hm1 : (t : Int) < m ∧ m ≤ (t : Int) + 3 ∧ m ≤ (W.length : Nat) := by rw [hm]; split <;> omega
  have e4 : (rg2I (consA (vr 9) (consA (opN minV (consA (opN lenV (consA (vr 8) (M.pure []))) (consA (op2 addV (op2 addV (vr 9) (kI 1)) (callS fs__law_take (consA (vr 1) (consA (kI 3) (M.pure []))))) (M.pure [])))) (M.pure [])))) [s0, some b, s2, s3, s4, s5, s6, s7, some (.d (.tuple (W.map .int))), some (.d (.int (t : Nat))), some (.ol (W.map fun i => Val.d (.int i))), s11, s12] = some (.ok (rangeD (t : Nat) (m - (t : Nat)).toNat), [s0, some b1, s2, s3, s4, s5, s6, s7, some (.d (.tuple (W.map .int))), some (.d (.int (t : Nat))), some (.ol (W.map fun i => Val.d (.int i))), s11, s12]) := by
    unfold rg2I
    rw [bind_ok (ev_cons (te := vr 9) (vr_of rfl) (ev_one e3))]
    exact if_pos ⟨by omega, by omega, by omega, by omega⟩
  obtain ⟨ys, b', o11, G', l1, oc, ag, e5⟩ := bent_loop (s0 := s0) (s2 := s2) (s3 := s3) (s4 := s4) (s5 := s5) (s6 := s6) (s7 := s7) (s8 := some (.d (.tuple (W.map .int)))) (s9 := some (.d (.int (t : Nat)))) (s12 := s12) (m - (t : Nat)).toNat t W b1 s11 G1 (by omega) o
  refine ⟨ys, b', o11, G', l1, oc, fun i hi => ag i (by omega), ?_⟩
  unfold forS
  rw [bind_ok e4, e5]
theorem tup_bent {δ : Sl} {ys : List Int} (h : atSl δ 10 = some (.ol (ys.map fun i => Val.d (.int i)))) : opN tupleV (consA (vr 10) (M.pure [])) δ = some (.ok (.tm (.d (.tuple (ys.map .int)))), δ) :=
  opN_of (ev_one (vr_of h)) (by show ((atSl δ 10).bind _) = _; rw [h]; rfl) (by show (allD (ys.map fun i => Val.d (.int i))).map _ = _; rw [allD_ints]; rfl)
theorem st14 (A ys : List Int) (hA : A.length < 12) (oA : Oct A) (t : Nat) (hl : ys.length = (A ++ by4 (chk 1 A)).length) (oy : Oct ys) (ag : ∀ i, (i < t ∨ t + 3 ≤ i) → ys[i]? = (A ++ by4 (chk 1 A))[i]?) :
    (ifS (asT (op2 neV (callS fs_is_sealed (consA (opN tupleV (consA (vr 10) (M.pure []))) (M.pure []))) (op2 eqV (opN tupleV (consA (vr 10) (M.pure []))) (vr 8))))
  (seqS (retS (kB false))
  (M.pure .nx))
  (M.pure .nx)) [s0, some b, s2, s3, s4, s5, s6, s7, some (.d (.tuple ((A ++ by4 (chk 1 A)).map .int))), s9, some (.ol (ys.map fun i => Val.d (.int i))), s11, s12] = some (.ok .nx, [s0, some b, s2, s3, s4, s5, s6, s7, some (.d (.tuple ((A ++ by4 (chk 1 A)).map .int))), s9, some (.ol (ys.map fun i => Val.d (.int i))), s11, s12]) := by
  have big : (100 : Nat) ≤ sizeLine := by decide
  have wl : (A ++ by4 (chk 1 A)).length = A.length + 4 := by rw [List.length_append, by4_len]
  have oW : Oct (A ++ by4 (chk 1 A)) := fun x hx => by
    rcases List.mem_append.mp hx with hx | hx
    · exact oA x hx
    · exact by4_oct (chk_lt A 1 (by decide)) x hx
  have sW := sealed_self A
  have eqv : decide (ys.take (ys.length - 4) ++ by4 (chk 1 (ys.take (ys.length - 4))) = ys) = decide (ys = A ++ by4 (chk 1 A)) := by
    refine decide_eq_decide.mpr ⟨fun h => altered oW oy hl (by omega) t ag sW h, fun h => ?_⟩
    subst h
    exact sW
  have f := f_is_sealed ys (by omega) (by omega)
  rw [eqv] at f
  obtain ⟨δ, hδ⟩ : ∃ δ, δ = [s0, some b, s2, s3, s4, s5, s6, s7, some (.d (.tuple ((A ++ by4 (chk 1 A)).map .int))), s9, some (.ol (ys.map fun i => Val.d (.int i))), s11, s12] := ⟨_, rfl⟩
  rw [← hδ]
  have h10 : atSl δ 10 = some (.ol (ys.map fun i => Val.d (.int i))) := by rw [hδ]; rfl
  have h8 : atSl δ 8 = some (.d (.tuple ((A ++ by4 (chk 1 A)).map .int))) := by rw [hδ]; rfl
  have e1 := ev_call1 (F := fs_is_sealed) rfl (tup_bent h10) rfl f
  have e2 : op2 eqV (opN tupleV (consA (vr 10) (M.pure []))) (vr 8) δ = some (.ok (.tm (.d (.bool (decide (ys = A ++ by4 (chk 1 A)))))), δ) := op2_of (tup_bent h10) (vr_of h8) rfl h8 (eqV_tup ys _)
  exact pass_of (asT_of (op2_of e1 e2 rfl rfl (by rw [neV_bool]; simp)))
noncomputable abbrev TB : SS := (seqS (asgS (callS fs__law_some (consA (vr 1) (consA (lstS (consA (callS fs__law_take (consA (vr 1) (consA (kI 200) (M.pure [])))) (consA (callS fs__law_take (consA (vr 1) (consA (op2 powV (kI 10) (kI 9)) (M.pure [])))) (consA (kI 128) (consA (kI 16384) (consA (op2 addV (op2 powV (kI 10) (kI 60)) (callS fs__law_take (consA (vr 1) (consA (op2 powV (kI 10) (kI 9)) (M.pure []))))) (M.pure []))))))) (M.pure [])))) (nmG 3))
  (seqS (asgS (callS fs__law_integer (consA (vr 3) (M.pure []))) (nmG 4))
  (seqS (asgS (opN tupleV (consA (lcS [12] (rg1I (callS fs__law_take (consA (vr 1) (consA (kI 4) (M.pure []))))) (nmG 12) (M.pure true) (callS fs__law_take (consA (vr 1) (consA (kI 256) (M.pure []))))) (M.pure []))) (nmG 5))
  (seqS (asgS (fzS (lstS (consA (callS fs_integer_octets (consA (vr 3) (M.pure []))) (consA (callS fs_read_integer (consA (op2 addV (op2 addV (vr 5) (vr 4)) (tupS (consA (kI 5) (M.pure [])))) (consA (opN lenV (consA (vr 5) (M.pure []))) (M.pure [])))) (M.pure []))))) (nmG 6))
  (seqS (ifS (notT (asT (callS fs__law_alike (consA (vr 6) (consA (fzS (lstS (consA (vr 4) (consA (tupS (consA (vr 3) (consA (op2 addV (opN lenV (consA (vr 5) (M.pure []))) (opN lenV (consA (vr 4) (M.pure [])))) (M.pure [])))) (M.pure []))))) (M.pure []))))))
  (seqS (retS (kB false))
  (M.pure .nx))
  (M.pure .nx))
  (seqS (ifS (asT (op2 neV (toldS "BadBytes" "told" "bytes" "index" "fault" (callS fs_read_integer (consA (op2 addV (vr 5) (slS (vr 4) noP (asI (op1 negV (kI 1))))) (consA (opN lenV (consA (vr 5) (M.pure []))) (M.pure []))))) (tupS (consA (kS "bytes") (consA (opN lenV (consA (vr 5) (M.pure []))) (consA (kS "integer") (M.pure [])))))))
  (seqS (retS (kB false))
  (M.pure .nx))
  (M.pure .nx))
  (seqS (ifS (asT (op2 neV (toldS "BadBytes" "told" "bytes" "index" "fault" (callS fs_read_integer (consA (tupS (consA (kI 128) (consA (kI 0) (M.pure [])))) (consA (kI 0) (M.pure []))))) (tupS (consA (kS "bytes") (consA (kI 0) (consA (kS "integer") (M.pure [])))))))
  (seqS (retS (kB false))
  (M.pure .nx))
  (M.pure .nx))
  (seqS (asgS (opN tupleV (consA (lcS [12] (rg1I (callS fs__law_take (consA (vr 1) (consA (kI 12) (M.pure []))))) (nmG 12) (M.pure true) (callS fs__law_take (consA (vr 1) (consA (kI 256) (M.pure []))))) (M.pure []))) (nmG 7))
  (seqS (asgS (callS fs__law_sealed (consA (vr 7) (M.pure []))) (nmG 8))
  (seqS (ifS (notT (asT (callS fs__law_alike (consA (fzS (lstS (consA (callS fs_check_of (consA (vr 7) (M.pure []))) (consA (callS fs_sealed (consA (vr 7) (M.pure []))) (consA (callS fs_is_sealed (consA (vr 8) (M.pure []))) (M.pure [])))))) (consA (fzS (lstS (consA (callS fs__law_check (consA (vr 7) (M.pure []))) (consA (vr 8) (consA (kB true) (M.pure [])))))) (M.pure []))))))
  (seqS (retS (kB false))
  (M.pure .nx))
  (M.pure .nx))
  (seqS (asgS (callS fs__law_take (consA (vr 1) (consA (opN lenV (consA (vr 8) (M.pure []))) (M.pure [])))) (nmG 9))
  (seqS (asgS (opN listV (consA (vr 8) (M.pure []))) (nmG 10))
  (seqS (forS (rg2I (consA (vr 9) (consA (opN minV (consA (opN lenV (consA (vr 8) (M.pure []))) (consA (op2 addV (op2 addV (vr 9) (kI 1)) (callS fs__law_take (consA (vr 1) (consA (kI 3) (M.pure []))))) (M.pure [])))) (M.pure [])))) (nmG 11) (seqS (asgS (callS fs__law_take (consA (vr 1) (consA (kI 256) (M.pure [])))) (ixG 10 (vr 11))) (M.pure .nx)))
  (seqS (ifS (asT (op2 neV (callS fs_is_sealed (consA (opN tupleV (consA (vr 10) (M.pure []))) (M.pure []))) (op2 eqV (opN tupleV (consA (vr 10) (M.pure []))) (vr 8))))
  (seqS (retS (kB false))
  (M.pure .nx))
  (M.pure .nx))
  (M.pure .nx)))))))))))))))
theorem turn (G : Good b) : ∃ (b' : Val) (o3 o4 o5 o6 o7 o8 o9 o10 o11 o12 : Option Val), Good b' ∧ TB [s0, some b, s2, s3, s4, s5, s6, s7, s8, s9, s10, s11, s12] = some (.ok .nx, [s0, some b', s2, o3, o4, o5, o6, o7, o8, o9, o10, o11, o12]) := by
  have big : (100 : Nat) ≤ sizeLine := by decide
  obtain ⟨n, b1, hn, G1, e1⟩ := st1 (s0 := s0) (s2 := s2) (s3 := s3) (s4 := s4) (s5 := s5) (s6 := s6) (s7 := s7) (s8 := s8) (s9 := s9) (s10 := s10) (s11 := s11) (s12 := s12) G
  unfold TB
  rw [seq_nx e1, seq_nx (st2 n hn)]
  obtain ⟨A, b2, lA, oA, G2, e3⟩ := st3 (s0 := s0) (s2 := s2) (s3 := some (.d (.int (n : Nat)))) (s4 := some (.d (.tuple ((octs 30 n).map .int)))) (s5 := s5) (s6 := s6) (s7 := s7) (s8 := s8) (s9 := s9) (s10 := s10) (s11 := s11) (s12 := s12) G1
  rw [seq_nx e3, seq_nx (st4 n hn A lA), seq_nx (st5 n A lA), seq_nx (st6 n hn A lA), seq_nx st7]
  obtain ⟨R, b3, lR, oR, G3, e8⟩ := st8 (s0 := s0) (s2 := s2) (s3 := some (.d (.int (n : Nat)))) (s4 := some (.d (.tuple ((octs 30 n).map .int)))) (s5 := some (.d (.tuple (A.map .int)))) (s6 := some (.d (.list [.tuple ((octs 30 n).map .int), .tuple [.int (n : Nat), .int ((A.length + (octs 30 n).length : Nat) : Int)]]))) (s7 := s7) (s8 := s8) (s9 := s9) (s10 := s10) (s11 := s11) (s12 := none) G2
  rw [seq_nx e8, seq_nx (st9 R lR), seq_nx (st10 R lR)]
  obtain ⟨t, b4, ht, G4, e11⟩ := st11 (s0 := s0) (s2 := s2) (s3 := some (.d (.int (n : Nat)))) (s4 := some (.d (.tuple ((octs 30 n).map .int)))) (s5 := some (.d (.tuple (A.map .int)))) (s6 := some (.d (.list [.tuple ((octs 30 n).map .int), .tuple [.int (n : Nat), .int ((A.length + (octs 30 n).length : Nat) : Int)]]))) (s7 := some (.d (.tuple (R.map .int)))) (s9 := s9) (s10 := s10) (s11 := s11) (s12 := none) G3 R lR
  rw [seq_nx e11, seq_nx (st12 _)]
  have wl : (R ++ by4 (chk 1 R)).length = R.length + 4 := by rw [List.length_append, by4_len]
  have oW : Oct (R ++ by4 (chk 1 R)) := fun x hx => by
    rcases List.mem_append.mp hx with hx | hx
    · exact oR x hx
    · exact by4_oct (chk_lt R 1 (by decide)) x hx
  obtain ⟨ys, b5, o11, G5, l5, o5, ag, e13⟩ := st13 (s0 := s0) (s2 := s2) (s3 := some (.d (.int (n : Nat)))) (s4 := some (.d (.tuple ((octs 30 n).map .int)))) (s5 := some (.d (.tuple (A.map .int)))) (s6 := some (.d (.list [.tuple ((octs 30 n).map .int), .tuple [.int (n : Nat), .int ((A.length + (octs 30 n).length : Nat) : Int)]]))) (s7 := some (.d (.tuple (R.map .int)))) (s11 := s11) (s12 := none) G4 (R ++ by4 (chk 1 R)) t (by omega) (by omega) oW
  rw [seq_nx e13, seq_nx (st14 R ys lR oR t l5 o5 ag)]
  exact ⟨b5, _, _, _, _, _, _, _, _, _, _, G5, rfl⟩
theorem turns : ∀ (ds : List PyData) (b : Val) (s2 s3 s4 s5 s6 s7 s8 s9 s10 s11 s12 : Option Val), Good b → ∃ δ, forL (nmG 2) TB ds [s0, some b, s2, s3, s4, s5, s6, s7, s8, s9, s10, s11, s12] = some (.ok .nx, δ)
  | [], b, s2, s3, s4, s5, s6, s7, s8, s9, s10, s11, s12, G => ⟨_, rfl⟩
  | d :: ds, b, s2, s3, s4, s5, s6, s7, s8, s9, s10, s11, s12, G => by
    obtain ⟨b', o3, o4, o5, o6, o7, o8, o9, o10, o11, o12, G', e⟩ := turn (s0 := s0) (s2 := some (.d d)) (s3 := s3) (s4 := s4) (s5 := s5) (s6 := s6) (s7 := s7) (s8 := s8) (s9 := s9) (s10 := s10) (s11 := s11) (s12 := s12) G
    obtain ⟨δ, e2⟩ := turns ds b' (some (.d d)) o3 o4 o5 o6 o7 o8 o9 o10 o11 o12 G'
    exact ⟨δ, by rw [forL_cons (u := ()) (δ1 := [s0, some b, some (.d d), s3, s4, s5, s6, s7, s8, s9, s10, s11, s12]) rfl e, e2]⟩
/-- THE LAW -/
theorem f_law (ns : List Int) : fs_law.fn [.d (.list (ns.map .int))] = some (.ok (.d (.bool true)), []) := by
  obtain ⟨b, G, e⟩ := f__law_bag ns
  show endOf [] (m_law [some (.d (.list (ns.map .int))), none, none, none, none, none, none, none, none, none, none, none, none]) = _
  have s1 : asgS (callS fs__law_bag (consA (vr 0) (M.pure []))) (nmG 1) [some (.d (.list (ns.map .int))), none, none, none, none, none, none, none, none, none, none, none, none] = some (.ok .nx, [some (.d (.list (ns.map .int))), some b, none, none, none, none, none, none, none, none, none, none, none]) :=
    asg_of (ev_call1 (F := fs__law_bag) (te := vr 0) rfl rfl rfl e) rfl rfl
  obtain ⟨δ, e2⟩ := turns (s0 := some (.d (.list (ns.map .int)))) (rangeD 0 10) b none none none none none none none none none none none G
  have s2 : forS (rg1I (kI 10)) (nmG 2) TB [some (.d (.list (ns.map .int))), some b, none, none, none, none, none, none, none, none, none, none, none] = some (.ok .nx, δ) := by
    unfold forS
    rw [bind_ok (a := rangeD 0 10) (δ1 := [some (.d (.list (ns.map .int))), some b, none, none, none, none, none, none, none, none, none, none, none]) rfl]
    exact e2
  unfold m_law
  rw [seq_nx s1, seq_nx s2]
  rfl
end K43
set_option Elab.async false
set_option linter.all false
set_option maxRecDepth 100000
set_option maxHeartbeats 4000000
namespace K43
open PySem PySem.Spec PyProof.Rows L2 Nv
abbrev s__law_octets : Stmt := top 23
abbrev PW : Program := PySem.Challenge.pw_neversure_k43_octets_of_integers_and_the
abbrev LQ : Str := ("law" ++ ".<locals>." : Str) ++ "<lambda>"
theorem sc__law_octets : FnScope ["deed", "e"] ["deed"] (defScope s__law_octets) := ⟨rfl, rfl, rfl, by decide +kernel, rfl, by decide +kernel, by decide +kernel⟩
theorem all_mk {w : World} {K : PySem.W.Frag} {h : Heap} {mg : Str → Option Value} {fa : Addr} (X : K.In h) (G : h.Ns mainGlobals mg) (hfa : mg "law" = some (.ref fa))
    {f_integer_octets : Addr} {od0 an0 : Option Addr} {sl0 : Array (Option Value)} {oc0 kV0 dc0 pm0 ct0 : Value} {cd0 : Value} {f_read_integer : Addr} {od1 an1 : Option Addr} {sl1 : Array (Option Value)} {oc1 kV1 dc1 pm1 ct1 : Value} {cd1 : Value} {f_check_of : Addr} {od2 an2 : Option Addr} {sl2 : Array (Option Value)} {oc2 kV2 dc2 pm2 ct2 : Value} {cd2 : Value} {f_sealed : Addr} {od3 an3 : Option Addr} {sl3 : Array (Option Value)} {oc3 kV3 dc3 pm3 ct3 : Value} {cd3 : Value} {f_is_sealed : Addr} {od4 an4 : Option Addr} {sl4 : Array (Option Value)} {oc4 kV4 dc4 pm4 ct4 : Value} {cd4 : Value} {f__law_bag : Addr} {od5 an5 : Option Addr} {sl5 : Array (Option Value)} {oc5 kV5 dc5 pm5 ct5 : Value} {cd5 : Value} {f__law_take : Addr} {od6 an6 : Option Addr} {sl6 : Array (Option Value)} {oc6 kV6 dc6 pm6 ct6 : Value} {cd6 : Value} {f__law_some : Addr} {od7 an7 : Option Addr} {sl7 : Array (Option Value)} {oc7 kV7 dc7 pm7 ct7 : Value} {cd7 : Value} {f__law_alike : Addr} {od8 an8 : Option Addr} {sl8 : Array (Option Value)} {oc8 kV8 dc8 pm8 ct8 : Value} {cd8 : Value} {f__law_integer : Addr} {od9 an9 : Option Addr} {sl9 : Array (Option Value)} {oc9 kV9 dc9 pm9 ct9 : Value} {cd9 : Value} {f__law_check : Addr} {od10 an10 : Option Addr} {sl10 : Array (Option Value)} {oc10 kV10 dc10 pm10 ct10 : Value} {cd10 : Value} {f__law_sealed : Addr} {od11 an11 : Option Addr} {sl11 : Array (Option Value)} {oc11 kV11 dc11 pm11 ct11 : Value} {cd11 : Value} {f__law_octets : Addr} {od12 an12 : Option Addr} {sl12 : Array (Option Value)} {oc12 kV12 dc12 pm12 ct12 : Value} {cd12 : Value} {f_law : Addr} {od13 an13 : Option Addr} {sl13 : Array (Option Value)} {oc13 kV13 dc13 pm13 ct13 : Value} {ca Pa : Addr} {t_MODULUS : Tok} {t_FACTOR : Tok} {t_GROUP : Tok} {t_HALF : Tok} {t_CHECK : Tok} {C S fI cc cda N : Addr} {nm q : Str} {bs : List Value} {sn : List Str} {sub : List Value} {ab : Bool} {col : Option Bool} {dd : Option Addr} {m0 m1 m2 m3 m5 : Option Value} {oci cti dci pmi cl ccl : Value} {odi ani cld cdd : Option Addr} {sli csl ccs : Array (Option Value)} {vs : Array Value} {file : Str} {tf : Tok}
    (a0 : PySem.W.nsIn K mainGlobals "integer_octets" = some (some (.ref f_integer_octets))) (l0 : K.lookup f_integer_octets = some ⟨oc0, od0, .func (PySem.W.fnOf "integer_octets" "integer_octets" (defArgs s_integer_octets) (defBody s_integer_octets) (defScope s_integer_octets) .none kV0 dc0 pm0 an0 cd0 ct0), sl0⟩) (c0 : PySem.W.codeIn K cd0 "integer_octets" = true) (k0 : PySem.W.keepIn K (.ref f_integer_octets) = true) (a1 : PySem.W.nsIn K mainGlobals "read_integer" = some (some (.ref f_read_integer))) (l1 : K.lookup f_read_integer = some ⟨oc1, od1, .func (PySem.W.fnOf "read_integer" "read_integer" (defArgs s_read_integer) (defBody s_read_integer) (defScope s_read_integer) .none kV1 dc1 pm1 an1 cd1 ct1), sl1⟩) (c1 : PySem.W.codeIn K cd1 "read_integer" = true) (k1 : PySem.W.keepIn K (.ref f_read_integer) = true) (a2 : PySem.W.nsIn K mainGlobals "check_of" = some (some (.ref f_check_of))) (l2 : K.lookup f_check_of = some ⟨oc2, od2, .func (PySem.W.fnOf "check_of" "check_of" (defArgs s_check_of) (defBody s_check_of) (defScope s_check_of) .none kV2 dc2 pm2 an2 cd2 ct2), sl2⟩) (c2 : PySem.W.codeIn K cd2 "check_of" = true) (k2 : PySem.W.keepIn K (.ref f_check_of) = true) (a3 : PySem.W.nsIn K mainGlobals "sealed" = some (some (.ref f_sealed))) (l3 : K.lookup f_sealed = some ⟨oc3, od3, .func (PySem.W.fnOf "sealed" "sealed" (defArgs s_sealed) (defBody s_sealed) (defScope s_sealed) .none kV3 dc3 pm3 an3 cd3 ct3), sl3⟩) (c3 : PySem.W.codeIn K cd3 "sealed" = true) (k3 : PySem.W.keepIn K (.ref f_sealed) = true) (a4 : PySem.W.nsIn K mainGlobals "is_sealed" = some (some (.ref f_is_sealed))) (l4 : K.lookup f_is_sealed = some ⟨oc4, od4, .func (PySem.W.fnOf "is_sealed" "is_sealed" (defArgs s_is_sealed) (defBody s_is_sealed) (defScope s_is_sealed) .none kV4 dc4 pm4 an4 cd4 ct4), sl4⟩) (c4 : PySem.W.codeIn K cd4 "is_sealed" = true) (k4 : PySem.W.keepIn K (.ref f_is_sealed) = true) (a5 : PySem.W.nsIn K mainGlobals "_law_bag" = some (some (.ref f__law_bag))) (l5 : K.lookup f__law_bag = some ⟨oc5, od5, .func (PySem.W.fnOf "_law_bag" "_law_bag" (defArgs s__law_bag) (defBody s__law_bag) (defScope s__law_bag) .none kV5 dc5 pm5 an5 cd5 ct5), sl5⟩) (c5 : PySem.W.codeIn K cd5 "_law_bag" = true) (k5 : PySem.W.keepIn K (.ref f__law_bag) = true) (a6 : PySem.W.nsIn K mainGlobals "_law_take" = some (some (.ref f__law_take))) (l6 : K.lookup f__law_take = some ⟨oc6, od6, .func (PySem.W.fnOf "_law_take" "_law_take" (defArgs s__law_take) (defBody s__law_take) (defScope s__law_take) .none kV6 dc6 pm6 an6 cd6 ct6), sl6⟩) (c6 : PySem.W.codeIn K cd6 "_law_take" = true) (k6 : PySem.W.keepIn K (.ref f__law_take) = true) (a7 : PySem.W.nsIn K mainGlobals "_law_some" = some (some (.ref f__law_some))) (l7 : K.lookup f__law_some = some ⟨oc7, od7, .func (PySem.W.fnOf "_law_some" "_law_some" (defArgs s__law_some) (defBody s__law_some) (defScope s__law_some) .none kV7 dc7 pm7 an7 cd7 ct7), sl7⟩) (c7 : PySem.W.codeIn K cd7 "_law_some" = true) (k7 : PySem.W.keepIn K (.ref f__law_some) = true) (a8 : PySem.W.nsIn K mainGlobals "_law_alike" = some (some (.ref f__law_alike))) (l8 : K.lookup f__law_alike = some ⟨oc8, od8, .func (PySem.W.fnOf "_law_alike" "_law_alike" (defArgs s__law_alike) (defBody s__law_alike) (defScope s__law_alike) .none kV8 dc8 pm8 an8 cd8 ct8), sl8⟩) (c8 : PySem.W.codeIn K cd8 "_law_alike" = true) (k8 : PySem.W.keepIn K (.ref f__law_alike) = true) (a9 : PySem.W.nsIn K mainGlobals "_law_integer" = some (some (.ref f__law_integer))) (l9 : K.lookup f__law_integer = some ⟨oc9, od9, .func (PySem.W.fnOf "_law_integer" "_law_integer" (defArgs s__law_integer) (defBody s__law_integer) (defScope s__law_integer) .none kV9 dc9 pm9 an9 cd9 ct9), sl9⟩) (c9 : PySem.W.codeIn K cd9 "_law_integer" = true) (k9 : PySem.W.keepIn K (.ref f__law_integer) = true) (a10 : PySem.W.nsIn K mainGlobals "_law_check" = some (some (.ref f__law_check))) (l10 : K.lookup f__law_check = some ⟨oc10, od10, .func (PySem.W.fnOf "_law_check" "_law_check" (defArgs s__law_check) (defBody s__law_check) (defScope s__law_check) .none kV10 dc10 pm10 an10 cd10 ct10), sl10⟩) (c10 : PySem.W.codeIn K cd10 "_law_check" = true) (k10 : PySem.W.keepIn K (.ref f__law_check) = true) (a11 : PySem.W.nsIn K mainGlobals "_law_sealed" = some (some (.ref f__law_sealed))) (l11 : K.lookup f__law_sealed = some ⟨oc11, od11, .func (PySem.W.fnOf "_law_sealed" "_law_sealed" (defArgs s__law_sealed) (defBody s__law_sealed) (defScope s__law_sealed) .none kV11 dc11 pm11 an11 cd11 ct11), sl11⟩) (c11 : PySem.W.codeIn K cd11 "_law_sealed" = true) (k11 : PySem.W.keepIn K (.ref f__law_sealed) = true) (a12 : PySem.W.nsIn K mainGlobals "_law_octets" = some (some (.ref f__law_octets))) (l12 : K.lookup f__law_octets = some ⟨oc12, od12, .func (PySem.W.fnOf "_law_octets" "_law_octets" (defArgs s__law_octets) (defBody s__law_octets) (defScope s__law_octets) .none kV12 dc12 pm12 an12 cd12 ct12), sl12⟩) (c12 : PySem.W.codeIn K cd12 "_law_octets" = true) (k12 : PySem.W.keepIn K (.ref f__law_octets) = true) (a13 : PySem.W.nsIn K mainGlobals "law" = some (some (.ref f_law))) (l13 : K.lookup f_law = some ⟨oc13, od13, .func (PySem.W.fnOf "law" "law" (defArgs s_law) (defBody s_law) (defScope s_law) .none kV13 dc13 pm13 an13 (.ref ca) ct13), sl13⟩) (c13 : PySem.W.codeIn K (.ref ca) "law" = true) (k13 : PySem.W.keepIn K (.ref f_law) = true) (g_MODULUS : PySem.W.nsIn K mainGlobals "MODULUS" = some (some (.int 4294967291 t_MODULUS))) (g_FACTOR : PySem.W.nsIn K mainGlobals "FACTOR" = some (some (.int 257 t_FACTOR))) (g_GROUP : PySem.W.nsIn K mainGlobals "GROUP" = some (some (.int 7 t_GROUP))) (g_HALF : PySem.W.nsIn K mainGlobals "HALF" = some (some (.int 128 t_HALF))) (g_CHECK : PySem.W.nsIn K mainGlobals "CHECK" = some (some (.int 4 t_CHECK))) (n_abs : PySem.W.nsIn K mainGlobals "abs" = some none) (n_bool : PySem.W.nsIn K mainGlobals "bool" = some none) (n_int : PySem.W.nsIn K mainGlobals "int" = some none) (n_isinstance : PySem.W.nsIn K mainGlobals "isinstance" = some none) (n_len : PySem.W.nsIn K mainGlobals "len" = some none) (n_list : PySem.W.nsIn K mainGlobals "list" = some none) (n_min : PySem.W.nsIn K mainGlobals "min" = some none) (n_range : PySem.W.nsIn K mainGlobals "range" = some none) (n_str : PySem.W.nsIn K mainGlobals "str" = some none) (n_tuple : PySem.W.nsIn K mainGlobals "tuple" = some none) (n_zip : PySem.W.nsIn K mainGlobals "zip" = some none) (n_super : PySem.W.nsIn K mainGlobals "super" = some none) (aC : PySem.W.nsIn K mainGlobals "BadBytes" = some (some (.ref C))) (xC : K.lookup C = some (excClassObj nm q C N bs [.ref S, .type "ValueError", .type "Exception", .type "BaseException", .type "object"] true sn sub ab col dd m0 m1 m2 m3 m5 "ValueError.__new__")) (sa : PySem.W.findIn K (.ref C) "__setattr__" = some (some (.builtin "object.__setattr__"))) (ga : PySem.W.findIn K (.ref C) "__getattribute__" = some (some (.builtin "BaseException.__getattribute__"))) (gg : PySem.W.findIn K (.ref C) "__getattr__" = some none) (no1 : PySem.W.findIn K (.ref C) "index" = some none) (no2 : PySem.W.findIn K (.ref C) "fault" = some none) (iC : PySem.W.findIn K (.ref C) "__init__" = some (some (.ref fI))) (tI : PySem.W.typeIn K (.ref fI) = some (.type "function")) (kC : PySem.W.keepIn K (.ref C) = true) (exC : PySem.W.subIn K (.ref C) (.type "BaseException") = some true) (tyC : PySem.W.typeIn K (.ref C) = some (.type "type")) (hdC : PySem.W.hasDictIn K C = true) (isC : PySem.W.isClsIn K C = true) (teC : PySem.W.subIn K (.ref C) (.ref C) = some true) (op : PySem.W.nsIn K PySem.cStatics "thirdparty.any" = some none) (al : PySem.W.ks_superIn K C C "__init__" = some (some (.builtin "ValueError.__init__"))) (mro : PySem.W.mroIn K C (.ref C) = some true) (suB : PySem.W.subIn K (.ref C) (.type "ValueError") = some true) (lI : K.lookup fI = some ⟨oci, odi, .func (PySem.W.ksFn "__init__" "BadBytes.__init__" (PySem.NvX.iA "index" "fault" ⟨11, 17, 11, 21⟩ ⟨11, 23, 11, 28⟩ ⟨11, 30, 11, 35⟩) (PySem.NvX.iB "index" "fault" ⟨12, 8, 12, 13⟩ ⟨12, 8, 12, 15⟩ ⟨12, 8, 12, 24⟩ ⟨12, 25, 12, 30⟩ ⟨12, 32, 12, 37⟩ ⟨12, 8, 12, 38⟩ ⟨12, 8, 12, 38⟩ ⟨13, 8, 13, 12⟩ ⟨13, 8, 13, 18⟩ ⟨13, 21, 13, 26⟩ ⟨13, 8, 13, 26⟩ ⟨14, 8, 14, 12⟩ ⟨14, 8, 14, 18⟩ ⟨14, 21, 14, 26⟩ ⟨14, 8, 14, 26⟩) (PySem.NvX.iS "index" "fault") .none .none dci pmi ani (.ref cda) cti cc), sli⟩) (cI : PySem.W.codeIn K (.ref cda) "BadBytes.__init__" = true) (lcc : K.lookup cc = some ⟨cl, cld, .cell (some (.ref C)), csl⟩) (lcd : K.lookup cda = some ⟨ccl, cdd, .fields vs, ccs⟩) (vs2 : vs[2]? = some (.str file tf)) (fil : ((PW.main.file : Str) == file) = true) (hd : PySem.W.codeHdIn K ca Pa = true) (nP : K.lookup Pa = none)
    (tb : h.get? Pa = some { cls := .none, data := .fields #[] }) :
    LamX.LawAtS PySem.Challenge.rw_neversure_k43_octets_of_integers_and_the w K (L2.CX PW w) 5 63 "script" mg fa h := by
  have e := hfa.symm.trans (PySem.W.mg_of X G a13)
  cases e
  letI : Tbs := ⟨[(Pa, LQ)]⟩
  have T : PySem.NvX.ExcTxt PW K mg "BadBytes" C fI cc cda :=
    { gC := PySem.W.mg_of X G aC, cls := ⟨nm, q, N, bs, _, sn, sub, ab, col, dd, m0, m1, m2, m3, m5, xC, rfl⟩, sa := sa, ga := ga, gg := gg, iC := iC, tC := tI, kC := kC, exC := exC, tyC := tyC, hdC := hdC, isC := isC, te := teC,
      sup := PySem.W.mg_none_of X G n_super, op := op, al := al, sub := mro, subB := suB, cell := ⟨cl, cld, csl, lcc⟩, code := ⟨ccl, cdd, vs, ccs, file, tf, lcd, vs2, fil⟩, top := by decide +kernel }
  have T2 : PySem.NvX.ExcTxt2 PW K mg "BadBytes" "BadBytes.__init__" "index" "fault" C fI cc cda :=
    ⟨T, no1, no2, ⟨oci, odi, dci, pmi, ani, cti, sli, _, _, _, _, _, _, _, _, _, _, _, _, _, _, _, _, _, _, lI, cI, _, fun _ _ _ => rfl⟩⟩
  have GS : Gs mg := ⟨⟨_, PySem.W.mg_of X G g_MODULUS⟩, ⟨_, PySem.W.mg_of X G g_FACTOR⟩, ⟨_, PySem.W.mg_of X G g_GROUP⟩, ⟨_, PySem.W.mg_of X G g_HALF⟩, ⟨_, PySem.W.mg_of X G g_CHECK⟩, PySem.W.mg_none_of X G n_abs, PySem.W.mg_none_of X G n_bool, PySem.W.mg_none_of X G n_int, PySem.W.mg_none_of X G n_isinstance, PySem.W.mg_none_of X G n_len, PySem.W.mg_none_of X G n_list, PySem.W.mg_none_of X G n_min, PySem.W.mg_none_of X G n_range, PySem.W.mg_none_of X G n_str, PySem.W.mg_none_of X G n_tuple, PySem.W.mg_none_of X G n_zip⟩
  have F0 := fun_mk (st := s_integer_octets) l0 c0 k0
  have F1 := fun_mk (st := s_read_integer) l1 c1 k1
  have F2 := fun_mk (st := s_check_of) l2 c2 k2
  have F3 := fun_mk (st := s_sealed) l3 c3 k3
  have F4 := fun_mk (st := s_is_sealed) l4 c4 k4
  have F5 := fun_mk (st := s__law_bag) l5 c5 k5
  have F6 := fun_mk (st := s__law_take) l6 c6 k6
  have F7 := fun_mk (st := s__law_some) l7 c7 k7
  have F8 := fun_mk (st := s__law_alike) l8 c8 k8
  have F9 := fun_mk (st := s__law_integer) l9 c9 k9
  have F10 := fun_mk (st := s__law_check) l10 c10 k10
  have F11 := fun_mk (st := s__law_sealed) l11 c11 k11
  have xm : PySem.W.exmOne K (.ref C) (.ref C) = some true := by
    have e1 : (PySem.W.subIn K (.ref C) (.type "BaseException") == some true) = true := by rw [exC] <;> rfl
    have e2 : ((PySem.W.clsIn K C).isSome && PySem.W.typeIn K (.ref C) == some (.type "type")) = true := by
      have h2' : (PySem.W.clsIn K C).isSome = true := isC
      rw [h2', tyC] <;> rfl
    show (if (PySem.W.subIn K (.ref C) (.type "BaseException") == some true) = true then (if ((PySem.W.clsIn K C).isSome && PySem.W.typeIn K (.ref C) == some (.type "type")) = true then PySem.W.subIn K (.ref C) (.ref C) else none) else none) = some true
    rw [if_pos e1, if_pos e2]
    exact teC
  have TO : ToldF K mg "_law_octets" "deed" "BadBytes" "e" "told" "bytes" "index" "fault" :=
    ⟨C, f__law_octets, defArgs s__law_octets, defScope s__law_octets, .none, kV12, dc12, pm12, cd12, ct12, oc12, an12, od12, sl12, 0, 0, 0, 0, _, _, _, _, _, _, _, _, _, _, _, _, _, _, _, ⟨0, 0, 0, 0⟩,
      PySem.W.mg_of X G aC, xm, ⟨ga, gg, exC, hdC⟩, no1, no2, PySem.W.mg_of X G a12, k12, l12, c12, .all (fun us hl => match us, hl with | [_], _ => rfl), sc__law_octets, rfl, .inl rfl, rfl, by decide⟩
  refine ⟨PySem.W.fnOf "law" "law" (defArgs s_law) (defBody s_law) (defScope s_law) .none kV13 dc13 pm13 an13 (.ref ca) ct13, [(ca, Pa)], spV mg K fs_law, fun p hp => ?_, fun p hp => ?_, fun p hp => ?_, fun s u => ?_, fun H a ns hl hb ht hS => ?_, fun base hK hns hT => ?_⟩
  · rw [List.mem_singleton.mp hp]; exact tb
  · rw [List.mem_singleton.mp hp]; exact nP
  · rw [List.mem_singleton.mp hp]; exact PySem.W.codeHd_of_K X hd
  rotate_left 2
  · have TB := hT (ca, Pa) (List.mem_singleton_self _)
    have h0 := fd_integer_octets (P := PW) (w := w) (base := base) F0 (PySem.W.mg_of X G a0) GS
    have h1 := fd_read_integer (P := PW) (w := w) (base := base) F1 (PySem.W.mg_of X G a1) GS T2
    have h2 := fd_check_of (P := PW) (w := w) (base := base) F2 (PySem.W.mg_of X G a2) GS
    have h3 := fd_sealed (P := PW) (w := w) (base := base) F3 (PySem.W.mg_of X G a3) GS h2
    have h4 := fd_is_sealed (P := PW) (w := w) (base := base) F4 (PySem.W.mg_of X G a4) GS h3
    have h5 := fd__law_bag (P := PW) (w := w) (base := base) F5 (PySem.W.mg_of X G a5) GS
    have h6 := fd__law_take (P := PW) (w := w) (base := base) F6 (PySem.W.mg_of X G a6) GS
    have h7 := fd__law_some (P := PW) (w := w) (base := base) F7 (PySem.W.mg_of X G a7) GS h6
    have h8 := fd__law_alike (P := PW) (w := w) (base := base) F8 (PySem.W.mg_of X G a8) GS
    have h9 := fd__law_integer (P := PW) (w := w) (base := base) F9 (PySem.W.mg_of X G a9) GS
    have h10 := fd__law_check (P := PW) (w := w) (base := base) F10 (PySem.W.mg_of X G a10) GS
    have h11 := fd__law_sealed (P := PW) (w := w) (base := base) F11 (PySem.W.mg_of X G a11) GS h10
    exact fn_okC l13 c13 sc_law fs_law m_law rfl (fun A outer s H E hr => b_law GS TO h8 h5 h10 h9 h11 h7 h6 h2 h0 h4 h1 h3 TB (List.mem_singleton_self _) (fun p hp _ => by rw [List.mem_singleton.mp hp]) _ A outer s H E hr) (fun as r hl h => h)
  · exact .of_eq rfl
  · refine ⟨[.d (.list (ns.map .int))], fun b => b = a ∧ ∃ o, H a = some o ∧ ∀ ps, o ≠ .tbl ps, [], rfl, rfl, ?_, .nil, fun _ h => (nomatch h), fun b hb => ?_, fun p hp => ?_, ?_⟩
    · refine .cons (f := []) (.d ?_) .nil
      rcases hS with hS | hS
      · exact .lst hS ⟨rfl, by rcases hS with q | ⟨_, q⟩ <;> exact ⟨_, q, fun ps z => by cases z⟩⟩ (RepL.of_ints ns)
      · exact .lstK hS (RepL.of_ints ns)
    · obtain ⟨rfl, hn⟩ := hb
      exact hn
    · rw [List.mem_singleton.mp hp]
      exact LamX.TabS.nil (ht (ca, Pa) (List.mem_singleton_self _))
    · rw [f_law ns]
      exact ⟨rfl, fun x H' o => by
        obtain ⟨Z, fp, o⟩ := o
        cases Own.rep o
        rfl⟩
end K43
set_option Elab.async false
set_option linter.all false
set_option maxRecDepth 100000
open PySem PySem.W PyProof.Rows
set_option maxRecDepth 100000 in
set_option maxHeartbeats 16000000 in
theorem PySem.Challenge.cw_neversure_k43_octets_of_integers_and_the_holds : PySem.Challenge.rw_neversure_k43_octets_of_integers_and_the.Holds := by
  w_on; o_law; k_head; (case hw => w_witness2)
  k_fill
  refine LamX.walk_ofTs (CX := fun w => L2.CX K43.PW w) (k := 5) (n := 63) (x := "script") rfl (by decide) rfl ⟨rfl, by decide, by decide⟩ (fun w h Y => PySem.W.km_in_of Y) ?F (fun w H s e s' z => by obtain ⟨_, _, _, _, _, _, _, _, _, _, _, _, z⟩ := z; exact z)
  case F =>
    intro w mg fa h Y KX G hmg
    have tb := PySem.W.km_tabs_of Y _ (List.mem_singleton_self _)
    refine' K43.all_mk KX G hmg ?a0 ?l0 ?c0 ?k0 ?a1 ?l1 ?c1 ?k1 ?a2 ?l2 ?c2 ?k2 ?a3 ?l3 ?c3 ?k3 ?a4 ?l4 ?c4 ?k4 ?a5 ?l5 ?c5 ?k5 ?a6 ?l6 ?c6 ?k6 ?a7 ?l7 ?c7 ?k7 ?a8 ?l8 ?c8 ?k8 ?a9 ?l9 ?c9 ?k9 ?a10 ?l10 ?c10 ?k10 ?a11 ?l11 ?c11 ?k11 ?a12 ?l12 ?c12 ?k12 ?a13 ?l13 ?c13 ?k13 ?g_MODULUS ?g_FACTOR ?g_GROUP ?g_HALF ?g_CHECK ?n_abs ?n_bool ?n_int ?n_isinstance ?n_len ?n_list ?n_min ?n_range ?n_str ?n_tuple ?n_zip ?n_super ?aC ?xC ?sa ?ga ?gg ?no1 ?no2 ?iC ?tI ?kC ?exC ?tyC ?hdC ?isC ?teC ?op ?al ?mro ?suB ?lI ?cI ?lcc ?lcd ?vs2 ?fil ?hd ?nP tb
    (case a0 => first | k_is | rfl | decide +kernel)
    (case l0 => first | k_is | rfl | decide +kernel)
    (case c0 => first | k_is | rfl | decide +kernel)
    (case k0 => first | k_is | rfl | decide +kernel)
    (case a1 => first | k_is | rfl | decide +kernel)
    (case l1 => first | k_is | rfl | decide +kernel)
    (case c1 => first | k_is | rfl | decide +kernel)
    (case k1 => first | k_is | rfl | decide +kernel)
    (case a2 => first | k_is | rfl | decide +kernel)
    (case l2 => first | k_is | rfl | decide +kernel)
    (case c2 => first | k_is | rfl | decide +kernel)
    (case k2 => first | k_is | rfl | decide +kernel)
    (case a3 => first | k_is | rfl | decide +kernel)
    (case l3 => first | k_is | rfl | decide +kernel)
    (case c3 => first | k_is | rfl | decide +kernel)
    (case k3 => first | k_is | rfl | decide +kernel)
    (case a4 => first | k_is | rfl | decide +kernel)
    (case l4 => first | k_is | rfl | decide +kernel)
    (case c4 => first | k_is | rfl | decide +kernel)
    (case k4 => first | k_is | rfl | decide +kernel)
    (case a5 => first | k_is | rfl | decide +kernel)
    (case l5 => first | k_is | rfl | decide +kernel)
    (case c5 => first | k_is | rfl | decide +kernel)
    (case k5 => first | k_is | rfl | decide +kernel)
    (case a6 => first | k_is | rfl | decide +kernel)
    (case l6 => first | k_is | rfl | decide +kernel)
    (case c6 => first | k_is | rfl | decide +kernel)
    (case k6 => first | k_is | rfl | decide +kernel)
    (case a7 => first | k_is | rfl | decide +kernel)
    (case l7 => first | k_is | rfl | decide +kernel)
    (case c7 => first | k_is | rfl | decide +kernel)
    (case k7 => first | k_is | rfl | decide +kernel)
    (case a8 => first | k_is | rfl | decide +kernel)
    (case l8 => first | k_is | rfl | decide +kernel)
    (case c8 => first | k_is | rfl | decide +kernel)
    (case k8 => first | k_is | rfl | decide +kernel)
    (case a9 => first | k_is | rfl | decide +kernel)
    (case l9 => first | k_is | rfl | decide +kernel)
    (case c9 => first | k_is | rfl | decide +kernel)
    (case k9 => first | k_is | rfl | decide +kernel)
    (case a10 => first | k_is | rfl | decide +kernel)
    (case l10 => first | k_is | rfl | decide +kernel)
    (case c10 => first | k_is | rfl | decide +kernel)
    (case k10 => first | k_is | rfl | decide +kernel)
    (case a11 => first | k_is | rfl | decide +kernel)
    (case l11 => first | k_is | rfl | decide +kernel)
    (case c11 => first | k_is | rfl | decide +kernel)
    (case k11 => first | k_is | rfl | decide +kernel)
    (case a12 => first | k_is | rfl | decide +kernel)
    (case l12 => first | k_is | rfl | decide +kernel)
    (case c12 => first | k_is | rfl | decide +kernel)
    (case k12 => first | k_is | rfl | decide +kernel)
    (case a13 => first | k_is | rfl | decide +kernel)
    (case l13 => first | k_is | rfl | decide +kernel)
    (case c13 => first | k_is | rfl | decide +kernel)
    (case k13 => first | k_is | rfl | decide +kernel)
    (case g_MODULUS => first | k_is | rfl | decide +kernel)
    (case g_FACTOR => first | k_is | rfl | decide +kernel)
    (case g_GROUP => first | k_is | rfl | decide +kernel)
    (case g_HALF => first | k_is | rfl | decide +kernel)
    (case g_CHECK => first | k_is | rfl | decide +kernel)
    (case n_abs => first | k_is | rfl | decide +kernel)
    (case n_bool => first | k_is | rfl | decide +kernel)
    (case n_int => first | k_is | rfl | decide +kernel)
    (case n_isinstance => first | k_is | rfl | decide +kernel)
    (case n_len => first | k_is | rfl | decide +kernel)
    (case n_list => first | k_is | rfl | decide +kernel)
    (case n_min => first | k_is | rfl | decide +kernel)
    (case n_range => first | k_is | rfl | decide +kernel)
    (case n_str => first | k_is | rfl | decide +kernel)
    (case n_tuple => first | k_is | rfl | decide +kernel)
    (case n_zip => first | k_is | rfl | decide +kernel)
    (case n_super => first | k_is | rfl | decide +kernel)
    (case aC => first | k_is | rfl | decide +kernel)
    (case xC => first | k_is | rfl | decide +kernel)
    (case sa => first | k_is | rfl | decide +kernel)
    (case ga => first | k_is | rfl | decide +kernel)
    (case gg => first | k_is | rfl | decide +kernel)
    (case no1 => first | k_is | rfl | decide +kernel)
    (case no2 => first | k_is | rfl | decide +kernel)
    (case iC => first | k_is | rfl | decide +kernel)
    (case tI => first | k_is | rfl | decide +kernel)
    (case kC => first | k_is | rfl | decide +kernel)
    (case exC => first | k_is | rfl | decide +kernel)
    (case tyC => first | k_is | rfl | decide +kernel)
    (case hdC => first | k_is | rfl | decide +kernel)
    (case isC => first | k_is | rfl | decide +kernel)
    (case teC => first | k_is | rfl | decide +kernel)
    (case op => first | k_is | rfl | decide +kernel)
    (case al => first | k_is | rfl | decide +kernel)
    (case mro => first | k_is | rfl | decide +kernel)
    (case suB => first | k_is | rfl | decide +kernel)
    (case lI => first | k_is | rfl | decide +kernel)
    (case cI => first | k_is | rfl | decide +kernel)
    (case lcc => first | k_is | rfl | decide +kernel)
    (case lcd => first | k_is | rfl | decide +kernel)
    (case vs2 => first | k_is | rfl | decide +kernel)
    (case fil => first | k_is | rfl | decide +kernel)
    (case hd => first | k_is | rfl | decide +kernel)
    (case nP => first | k_is | rfl | decide +kernel)

