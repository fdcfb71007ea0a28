import PyProof.Rows.All
import Wide.All
import OpenK.AllK
import Wide.FinOn
import HandS.ForMost
import HandS.ForExc
import HandS.TupAny
import HandS.Deep
import HandS.IsInst
import HandS.Zip
import HandS.Small
import HandS.Head0
import HandS.Head1
import HandS.Head2
import HandS.HeadEnd
import HandS.HeadHook1
import HandS.HeadHook2
import PySem.Challenge.RW_probefoundry_k43_merged_partial_patterns
set_option Elab.async false
set_option linter.all false
set_option maxRecDepth 100000
/-! DS1: plain data over the hand layer's abstract heap -/
namespace DS
open PySem PySem.Spec PyProof.Rows L2

/-- plain data: tuples, and lists, dicts, instances that nobody changes any more, are told by what is in them; ref: an object that may be changed -/
inductive D where
  | non | bl (b : Bool) | int (i : Int) | str (x : Str)
  | tup (ds : List D) | lst (ds : List D) | dic (kvs : List (Key × D)) | ins (c : Str) (fs : List (Str × D)) | ref (a : Addr) | glo (x : Str)

/-- an object that may be changed -/
inductive MO where
  | lst (ds : List D) | dic (kvs : List (Key × D)) | ins (c : Str) (fs : List (Str × D))
abbrev Mp := Addr → Option MO
def mset (M : Mp) (a : Addr) (o : MO) : Mp := fun b => if b = a then some o else M b
def mdel (M : Mp) (a : Addr) : Mp := fun b => if b = a then none else M b
theorem mset_same {M : Mp} {a : Addr} {o : MO} : mset M a o a = some o := by unfold mset; rw [if_pos rfl]
theorem mset_ne {M : Mp} {a b : Addr} {o : MO} (h : b ≠ a) : mset M a o b = M b := by unfold mset; rw [if_neg h]
theorem mdel_same {M : Mp} {a : Addr} : mdel M a a = none := by unfold mdel; rw [if_pos rfl]
theorem mdel_ne {M : Mp} {a b : Addr} (h : b ≠ a) : mdel M a b = M b := by unfold mdel; rw [if_neg h]
theorem mset_mset {M : Mp} {a : Addr} {o u : MO} : mset (mset M a o) a u = mset M a u := by
  funext b; unfold mset; split <;> rfl
theorem mdel_mset {M : Mp} {a : Addr} {o : MO} (h : M a = none) : mdel (mset M a o) a = M := by
  funext b; unfold mdel mset; split
  · rename_i e; rw [e, h]
  · rfl

/-- a list of the written part -/
def SqK (K : PySem.W.Frag) (a : Addr) (xs : List V) : Prop := ∃ (o : Obj) (its : Array Value) (n : Nat), K.lookup a = some o ∧ o.cls = .type "list" ∧ o.dict = none ∧ o.data = .seq its n ∧ its.size ≤ sizeLine ∧ Vals xs its.toList
/-- what is not ours to change is kept -/
structure Ext (H : Hp) (M : Mp) (H' : Hp) (M' : Mp) : Prop where
  tup : ∀ a xs, Rd H a (.tup xs) → Rd H' a (.tup xs)
  keep : ∀ a u, M a = none → H a = some u → H' a = some u ∧ M' a = none
theorem Ext.refl {H : Hp} {M : Mp} : Ext H M H M := ⟨fun _ _ h => h, fun _ _ m h => ⟨h, m⟩⟩
theorem Ext.trans {H H1 H2 : Hp} {M M1 M2 : Mp} (a : Ext H M H1 M1) (b : Ext H1 M1 H2 M2) : Ext H M H2 M2 :=
  ⟨fun c xs h => b.tup c xs (a.tup c xs h), fun c u m h => let ⟨h1, m1⟩ := a.keep c u m h; b.keep c u m1 h1⟩
theorem Ext.rd {H H' : Hp} {M M' : Mp} (e : Ext H M H' M') (a : Addr) (u : HO) (m : M a = none) (h : Rd H a u) : Rd H' a u ∧ M' a = none := by
  rcases h with h | ⟨o, h⟩
  · exact ⟨.inl (e.keep a _ m h).1, (e.keep a _ m h).2⟩
  · exact ⟨.inr ⟨o, (e.keep a _ m h).1⟩, (e.keep a _ m h).2⟩
theorem Ext.ins {H H' : Hp} {M M' : Mp} (e : Ext H M H' M') (a C dx : Addr) (fs : List (Str × V)) (m : M a = none) (h : H a = some (.ins C dx fs)) : H' a = some (.ins C dx fs) ∧ M' a = none := e.keep a _ m h

/-- what holds of the places since some entry -/
structure An where
  ph : (Addr → Prop) → Hp → Mp → Prop
  cl : ∀ P H M H' M', Ext H M H' M' → ph P H M → ph P H' M'
def An.top : An := ⟨fun _ _ _ => True, fun _ _ _ _ _ _ h => h⟩
/-- the written part, the module's names, the places that are somebody's beside ours -/
structure Wd where
  K : PySem.W.Frag
  mg : Str → Option Value
  P : Addr → Prop
  an : An
abbrev wd (X : Cx) (an : An) (P : Addr → Prop) : Wd := ⟨X.K, X.mg, P, an⟩
section
variable (F : Wd)
mutual
inductive Rep : Hp → Mp → D → V → Prop
  | non {H M} : Rep H M .non .non
  | bl {H M} (b : Bool) : Rep H M (.bl b) (.bl b)
  | int {H M} (i : Int) : Rep H M (.int i) (.int i)
  | str {H M} (x : Str) : Rep H M (.str x) (.str x)
  | tup {H M} {a : Addr} {vs : List V} {ds : List D} : SqT F.K H a vs → Reps H M ds vs → Rep H M (.tup ds) (.ref a)
  | lst {H M} {a : Addr} {vs : List V} {ds : List D} : Rd H a (.lst vs) → M a = none → ¬ F.P a → Reps H M ds vs → Rep H M (.lst ds) (.ref a)
  | lstK {H M} {a : Addr} {vs : List V} {ds : List D} : SqK F.K a vs → Reps H M ds vs → Rep H M (.lst ds) (.ref a)
  | dic {H M} {a : Addr} {vs : List (Key × V)} {ds : List (Key × D)} : Rd H a (.dK vs) → M a = none → ¬ F.P a → RepK H M ds vs → Rep H M (.dic ds) (.ref a)
  | ins {H M} {a C dx : Addr} {c : Str} {vs : List (Str × V)} {ds : List (Str × D)} : H a = some (.ins C dx vs) → M a = none → ¬ F.P a → F.mg c = some (.ref C) → RepF H M ds vs → Rep H M (.ins c ds) (.ref a)
  | ref {H M} (a : Addr) : Rep H M (.ref a) (.ref a)
  | glo {H M} {x : Str} {v : V} {u : Value} : F.mg x = some u → RelV v u → v ≠ .non → Rep H M (.glo x) v
inductive Reps : Hp → Mp → List D → List V → Prop
  | nil {H M} : Reps H M [] []
  | cons {H M} {d : D} {v : V} {ds : List D} {vs : List V} : Rep H M d v → Reps H M ds vs → Reps H M (d :: ds) (v :: vs)
inductive RepK : Hp → Mp → List (Key × D) → List (Key × V) → Prop
  | nil {H M} : RepK H M [] []
  | cons {H M} {k : Key} {d : D} {v : V} {ds : List (Key × D)} {vs : List (Key × V)} : Rep H M d v → RepK H M ds vs → RepK H M ((k, d) :: ds) ((k, v) :: vs)
inductive RepF : Hp → Mp → List (Str × D) → List (Str × V) → Prop
  | nil {H M} : RepF H M [] []
  | cons {H M} {k : Str} {d : D} {v : V} {ds : List (Str × D)} {vs : List (Str × V)} : Rep H M d v → RepF H M ds vs → RepF H M ((k, d) :: ds) ((k, v) :: vs)
end
end

section
variable {F : Wd} {H H' : Hp} {M M' : Mp}
theorem SqT.ext {K : PySem.W.Frag} {a : Addr} {xs : List V} (e : Ext H M H' M') (h : SqT K H a xs) : SqT K H' a xs := by
  rcases h with h | h
  · exact .inl (e.tup a xs h)
  · exact .inr h
mutual
theorem Rep.ext (e : Ext H M H' M') : ∀ {d : D} {v : V}, Rep F H M d v → Rep F H' M' d v
  | _, _, .non => .non
  | _, _, .bl b => .bl b
  | _, _, .int i => .int i
  | _, _, .str x => .str x
  | _, _, .tup h r => .tup (SqT.ext e h) (Reps.ext e r)
  | _, _, .lst h m p r => .lst (e.rd _ _ m h).1 (e.rd _ _ m h).2 p (Reps.ext e r)
  | _, _, .lstK h r => .lstK h (Reps.ext e r)
  | _, _, .dic h m p r => .dic (e.rd _ _ m h).1 (e.rd _ _ m h).2 p (RepK.ext e r)
  | _, _, .ins h m p g r => .ins (e.ins _ _ _ _ m h).1 (e.ins _ _ _ _ m h).2 p g (RepF.ext e r)
  | _, _, .ref a => .ref a
  | _, _, .glo g r n => .glo g r n
theorem Reps.ext (e : Ext H M H' M') : ∀ {ds : List D} {vs : List V}, Reps F H M ds vs → Reps F H' M' ds vs
  | _, _, .nil => .nil
  | _, _, .cons h r => .cons (Rep.ext e h) (Reps.ext e r)
theorem RepK.ext (e : Ext H M H' M') : ∀ {ds : List (Key × D)} {vs : List (Key × V)}, RepK F H M ds vs → RepK F H' M' ds vs
  | _, _, .nil => .nil
  | _, _, .cons h r => .cons (Rep.ext e h) (RepK.ext e r)
theorem RepF.ext (e : Ext H M H' M') : ∀ {ds : List (Str × D)} {vs : List (Str × V)}, RepF F H M ds vs → RepF F H' M' ds vs
  | _, _, .nil => .nil
  | _, _, .cons h r => .cons (Rep.ext e h) (RepF.ext e r)
end
theorem Reps.length : ∀ {ds : List D} {vs : List V}, Reps F H M ds vs → ds.length = vs.length
  | _, _, .nil => rfl
  | _, _, .cons _ r => congrArg (· + 1) r.length
theorem Reps.get : ∀ {ds : List D} {vs : List V} {i : Nat} {d : D}, Reps F H M ds vs → ds[i]? = some d → ∃ v, vs[i]? = some v ∧ Rep F H M d v
  | _, _, _, _, .nil, e => by simp at e
  | _, _, 0, _, .cons h _, e => by simp at e; subst e; exact ⟨_, rfl, h⟩
  | _, _, i + 1, d, .cons _ r, e => by
    obtain ⟨v, h1, h2⟩ := Reps.get (i := i) (d := d) r (by simpa using e)
    exact ⟨v, by simpa using h1, h2⟩
theorem Reps.get' : ∀ {ds : List D} {vs : List V} {i : Nat} {v : V}, Reps F H M ds vs → vs[i]? = some v → ∃ d, ds[i]? = some d ∧ Rep F H M d v
  | _, _, _, _, .nil, e => by simp at e
  | _, _, 0, _, .cons h _, e => by simp at e; subst e; exact ⟨_, rfl, h⟩
  | _, _, i + 1, v, .cons _ r, e => by
    obtain ⟨d, h1, h2⟩ := Reps.get' (i := i) (v := v) r (by simpa using e)
    exact ⟨d, by simpa using h1, h2⟩
theorem Reps.append : ∀ {ds es : List D} {vs us : List V}, Reps F H M ds vs → Reps F H M es us → Reps F H M (ds ++ es) (vs ++ us)
  | _, _, _, _, .nil, s => s
  | _, _, _, _, .cons h r, s => .cons h (Reps.append r s)
theorem Reps.take : ∀ {ds : List D} {vs : List V} (n : Nat), Reps F H M ds vs → Reps F H M (ds.take n) (vs.take n)
  | _, _, 0, _ => by simpa using Reps.nil
  | _, _, _ + 1, .nil => .nil
  | _, _, n + 1, .cons h r => .cons h (Reps.take n r)
theorem Reps.drop : ∀ {ds : List D} {vs : List V} (n : Nat), Reps F H M ds vs → Reps F H M (ds.drop n) (vs.drop n)
  | _, _, 0, r => r
  | _, _, _ + 1, .nil => .nil
  | _, _, n + 1, .cons _ r => Reps.drop n r
theorem Reps.set {d : D} {v : V} (h : Rep F H M d v) : ∀ {ds : List D} {vs : List V} (i : Nat), Reps F H M ds vs → Reps F H M (ds.set i d) (vs.set i v)
  | _, _, _, .nil => .nil
  | _, _, 0, .cons _ r => .cons h r
  | _, _, i + 1, .cons q r => .cons q (Reps.set h i r)
theorem Reps.rev : ∀ {ds : List D} {vs : List V}, Reps F H M ds vs → Reps F H M ds.reverse vs.reverse
  | _, _, .nil => .nil
  | _, _, .cons h r => by
    rw [List.reverse_cons, List.reverse_cons]
    exact (Reps.rev r).append (.cons h .nil)
theorem RepF.look {f : Str} : ∀ {ds : List (Str × D)} {vs : List (Str × V)} {d : D}, RepF F H M ds vs → ds.lookup f = some d → ∃ v, vs.lookup f = some v ∧ Rep F H M d v
  | _, _, _, .nil, e => by simp at e
  | (k, d0) :: ds, (_, v0) :: vs, d, .cons h r, e => by
    rw [List.lookup_cons] at e ⊢
    cases hk : f == k with
    | true => rw [hk] at e; simp at e; subst e; exact ⟨_, rfl, h⟩
    | false => rw [hk] at e; exact RepF.look r e
theorem RepF.lookN {f : Str} : ∀ {ds : List (Str × D)} {vs : List (Str × V)}, RepF F H M ds vs → ds.lookup f = none → vs.lookup f = none
  | _, _, .nil, e => rfl
  | (k, d0) :: ds, (_, v0) :: vs, .cons h r, e => by
    rw [List.lookup_cons] at e ⊢
    cases hk : f == k with
    | true => rw [hk] at e; simp at e
    | false => rw [hk] at e; exact RepF.lookN r e
def putD (f : Str) (d : D) : List (Str × D) → List (Str × D)
  | [] => [(f, d)]
  | (g, x) :: r => if g = f then (g, d) :: r else (g, x) :: putD f d r
theorem RepF.put {f : Str} {d : D} {v : V} (h : Rep F H M d v) : ∀ {ds : List (Str × D)} {vs : List (Str × V)}, RepF F H M ds vs → RepF F H M (putD f d ds) (putF f v vs)
  | _, _, .nil => .cons h .nil
  | (k, d0) :: ds, (_, v0) :: vs, .cons q r => by
    unfold putD putF
    split
    · exact .cons h r
    · exact .cons q (RepF.put h r)
theorem RepF.length : ∀ {ds : List (Str × D)} {vs : List (Str × V)}, RepF F H M ds vs → ds.length = vs.length
  | _, _, .nil => rfl
  | _, _, .cons _ r => congrArg (· + 1) r.length
end

/-- an object that may be changed stands in the heap -/
def RepO (F : Wd) (H : Hp) (M : Mp) (a : Addr) : MO → Prop
  | .lst ds => ∃ vs, H a = some (.lst vs) ∧ Reps F H M ds vs
  | .dic ds => ∃ vs, H a = some (.dK vs) ∧ RepK F H M ds vs
  | .ins c ds => ∃ C dx vs, H a = some (.ins C dx vs) ∧ F.mg c = some (.ref C) ∧ RepF F H M ds vs
structure RelH (F : Wd) (H : Hp) (M : Mp) : Prop where
  ob : ∀ a o, M a = some o → RepO F H M a o
  pv : ∀ a, F.P a → M a = none ∧ ∃ u, H a = some u
  ah : F.an.ph F.P H M
section
variable {F : Wd} {H H' : Hp} {M M' : Mp} {a : Addr} {o : MO}
theorem RelH.free (r : RelH F H M) (h : H a = none) : M a = none := by
  cases e : M a with
  | none => rfl
  | some o =>
    have q := r.ob a o e
    cases o with
    | lst ds => obtain ⟨_, z, _⟩ := q; rw [h] at z; cases z
    | dic ds => obtain ⟨_, z, _⟩ := q; rw [h] at z; cases z
    | ins c ds => obtain ⟨_, _, _, z, _⟩ := q; rw [h] at z; cases z
theorem rdSome {u : HO} (h : Rd H a u) : ∃ o, H a = some o := h.elim (fun h => ⟨_, h⟩) fun ⟨_, h⟩ => ⟨_, h⟩
theorem rdNe {b : Addr} {u w : HO} (h : Rd H a u) (n : a ≠ b) : Rd (upd H b w) a u := by
  rcases h with h | ⟨o, h⟩
  · exact .inl (by rw [L2.upd_ne n]; exact h)
  · exact .inr ⟨o, by rw [L2.upd_ne n]; exact h⟩
theorem rdNew {b : Addr} {u w : HO} (h : Rd H a u) (n : H b = none) : Rd (upd H b w) a u := by
  refine rdNe h ?_
  rintro rfl
  obtain ⟨o, q⟩ := rdSome h
  rw [n] at q; cases q
/-- a new object, ours -/
theorem Ext.new (h : H a = none) (m : M a = none) {u : HO} : Ext H M (upd H a u) (mset M a o) := by
  refine ⟨fun b xs q => rdNew q h, fun b w mb q => ?_⟩
  have nb : b ≠ a := by rintro rfl; rw [h] at q; cases q
  rw [mset_ne nb, L2.upd_ne nb]; exact ⟨q, mb⟩
/-- a new object, nobody's -/
theorem Ext.newF (h : H a = none) {u : HO} : Ext H M (upd H a u) M := by
  refine ⟨fun b xs q => rdNew q h, fun b w mb q => ?_⟩
  have nb : b ≠ a := by rintro rfl; rw [h] at q; cases q
  rw [L2.upd_ne nb]; exact ⟨q, mb⟩
/-- one of ours is changed -/
theorem Ext.wr {u : HO} (m : M a = some o) {o' : MO} (nt : ∀ xs, ¬ Rd H a (.tup xs)) : Ext H M (upd H a u) (mset M a o') := by
  have ne : ∀ b, M b = none → b ≠ a := fun b mb e => by subst e; rw [m] at mb; cases mb
  refine ⟨fun b xs q => rdNe q fun e => ?_, fun b w mb q => ?_⟩
  · subst e; exact nt xs q
  · rw [mset_ne (ne b mb), L2.upd_ne (ne b mb)]; exact ⟨q, mb⟩
/-- one of ours is given up -/
theorem Ext.give : Ext H M H (mdel M a) :=
  ⟨fun _ _ q => q, fun b u mb q => ⟨q, by unfold mdel; split; rfl; exact mb⟩⟩
theorem RepO.ext (e : Ext H M H' M') (k : H' a = H a) (q : RepO F H M a o) : RepO F H' M' a o := by
  cases o with
  | lst ds => obtain ⟨vs, h, r⟩ := q; exact ⟨vs, k.trans h, r.ext e⟩
  | dic ds => obtain ⟨vs, h, r⟩ := q; exact ⟨vs, k.trans h, r.ext e⟩
  | ins c ds => obtain ⟨C, dx, vs, h, g, r⟩ := q; exact ⟨C, dx, vs, k.trans h, g, r.ext e⟩
theorem RepO.some (q : RepO F H M a o) : ∃ u, H a = .some u := by
  cases o with
  | lst ds => obtain ⟨vs, h, r⟩ := q; exact ⟨_, h⟩
  | dic ds => obtain ⟨vs, h, r⟩ := q; exact ⟨_, h⟩
  | ins c ds => obtain ⟨C, dx, vs, h, g, r⟩ := q; exact ⟨_, h⟩
theorem RepO.notup (q : RepO F H M a o) : ∀ xs, ¬ Rd H a (.tup xs) := by
  intro xs z
  rcases z with z | ⟨ob, z⟩
  · cases o with
    | lst ds => obtain ⟨vs, h, r⟩ := q; rw [h] at z; cases z
    | dic ds => obtain ⟨vs, h, r⟩ := q; rw [h] at z; cases z
    | ins c ds => obtain ⟨C, dx, vs, h, g, r⟩ := q; rw [h] at z; cases z
  · cases o with
    | lst ds => obtain ⟨vs, h, r⟩ := q; rw [h] at z; cases z
    | dic ds => obtain ⟨vs, h, r⟩ := q; rw [h] at z; cases z
    | ins c ds => obtain ⟨C, dx, vs, h, g, r⟩ := q; rw [h] at z; cases z
theorem RelH.nop (r : RelH F H M) (h : H a = none) : ¬ F.P a := fun p => by
  obtain ⟨_, u, e⟩ := r.pv a p
  rw [h] at e; cases e
/-- behind a new object of ours -/
theorem RelH.new (r : RelH F H M) (h : H a = none) {u : HO} (q : RepO F (upd H a u) (mset M a o) a o) : RelH F (upd H a u) (mset M a o) := by
  refine ⟨fun b p e => ?_, fun b p => ?_, F.an.cl _ _ _ _ _ (Ext.new h (r.free h)) r.ah⟩
  · by_cases hb : b = a
    · subst hb; rw [mset_same] at e; cases e; exact q
    · rw [mset_ne hb] at e
      exact (r.ob b p e).ext (Ext.new h (r.free h)) (L2.upd_ne hb)
  · have nb : b ≠ a := by rintro rfl; exact r.nop h p
    rw [mset_ne nb, L2.upd_ne nb]; exact r.pv b p
theorem RelH.newF (r : RelH F H M) (h : H a = none) {u : HO} : RelH F (upd H a u) M := by
  refine ⟨fun b p e => ?_, fun b p => ?_, F.an.cl _ _ _ _ _ (Ext.newF h) r.ah⟩
  · have nb : b ≠ a := by rintro rfl; rw [r.free h] at e; cases e
    exact (r.ob b p e).ext (Ext.newF h) (L2.upd_ne nb)
  · have nb : b ≠ a := by rintro rfl; exact r.nop h p
    rw [L2.upd_ne nb]; exact r.pv b p
theorem RelH.wr (r : RelH F H M) (m : M a = some o) {o' : MO} {u : HO} (q : RepO F (upd H a u) (mset M a o') a o') : RelH F (upd H a u) (mset M a o') := by
  refine ⟨fun b p e => ?_, fun b p => ?_, F.an.cl _ _ _ _ _ (Ext.wr m (r.ob a o m).notup) r.ah⟩
  · by_cases hb : b = a
    · subst hb; rw [mset_same] at e; cases e; exact q
    · rw [mset_ne hb] at e
      exact (r.ob b p e).ext (Ext.wr m (r.ob a o m).notup) (L2.upd_ne hb)
  · have nb : b ≠ a := by rintro rfl; rw [(r.pv _ p).1] at m; cases m
    rw [mset_ne nb, L2.upd_ne nb]; exact r.pv b p
theorem RelH.give (r : RelH F H M) : RelH F H (mdel M a) := by
  refine ⟨fun b p e => ?_, fun b p => ⟨?_, (r.pv b p).2⟩, F.an.cl _ _ _ _ _ Ext.give r.ah⟩
  · have e' : M b = some p := by
      unfold mdel at e; split at e
      · cases e
      · exact e
    exact (r.ob b p e').ext Ext.give rfl
  · unfold mdel; split
    · rfl
    · exact (r.pv b p).1
end

/-! ### readings over plain data -/
abbrev Env1 := List (Option D)
abbrev QE := D → Mp → Prop
abbrev XD := Str × List (Str × D)
abbrev QX := XD → Mp → Prop
abbrev TD := Env1 → Mp → QE → Prop
abbrev SpD := List D → Mp → QE → QX → Prop
def RepE (F : Wd) (H : Hp) (M : Mp) (ρ : Env1) (σ : L2.St) : Prop :=
  ρ.length = σ.length ∧ ∀ (i : Nat) (d : D), ρ[i]? = some (some d) → ∃ v, σ[i]? = some (some v) ∧ Rep F H M d v
/-- an exception of an own class -/
def RepX (F : Wd) (H : Hp) (M : Mp) (x : XD) (cls : Value) (dd : Option Addr) : Prop :=
  ∃ C, cls = .ref C ∧ F.mg x.1 = some (.ref C) ∧ ((x.2 = [] ∧ dd = none) ∨ ∃ d vs, dd = some d ∧ H d = some (.xd vs) ∧ ∀ f e, x.2.lookup f = some e → ∃ v, vs.lookup f = some v ∧ Rep F H M e v)
section
variable {F : Wd} {H H' : Hp} {M M' : Mp} {ρ : Env1} {σ : L2.St}
theorem RepE.ext (e : Ext H M H' M') (r : RepE F H M ρ σ) : RepE F H' M' ρ σ :=
  ⟨r.1, fun i d h => let ⟨v, h1, h2⟩ := r.2 i d h; ⟨v, h1, h2.ext e⟩⟩
theorem RepE.set (r : RepE F H M ρ σ) {i : Nat} {d : D} {v : V} (h : Rep F H M d v) : RepE F H M (ρ.set i (some d)) (σ.set i (some v)) := by
  refine ⟨by simp [r.1], fun j e hj => ?_⟩
  by_cases hij : i = j
  · subst hij
    have hl : i < ρ.length := by
      have := (List.getElem?_eq_some_iff.mp hj).1
      simpa using this
    rw [List.getElem?_set_self hl] at hj
    cases hj
    exact ⟨v, by rw [List.getElem?_set_self (by rw [← r.1]; exact hl)], h⟩
  · rw [List.getElem?_set_ne hij] at hj ⊢
    exact r.2 j e hj
theorem RepE.setN (r : RepE F H M ρ σ) {i : Nat} : RepE F H M (ρ.set i none) (σ.set i none) := by
  refine ⟨by simp [r.1], fun j e hj => ?_⟩
  by_cases hij : i = j
  · subst hij
    have hl : i < ρ.length := by
      have := (List.getElem?_eq_some_iff.mp hj).1
      simpa using this
    rw [List.getElem?_set_self hl] at hj
    cases hj
  · rw [List.getElem?_set_ne hij] at hj ⊢
    exact r.2 j e hj
end
/-- a reading over data, as a reading over values -/
def lift (X : Cx) (an : An) (r : TD) : TE := fun σ H Q => ∃ P ρ M R, RepE (wd X an P) H M ρ σ ∧ RelH (wd X an P) H M ∧ r ρ M R ∧
  ∀ d M', R d M' → ∀ v H', Ext H M H' M' → RelH (wd X an P) H' M' → Rep (wd X an P) H' M' d v → Q v H'
abbrev TTD := Env1 → Mp → (Bool → Mp → Prop) → Prop
def liftT (X : Cx) (an : An) (r : TTD) : TT := fun σ H Q => ∃ P ρ M R, RepE (wd X an P) H M ρ σ ∧ RelH (wd X an P) H M ∧ r ρ M R ∧
  ∀ b M', R b M' → ∀ H', Ext H M H' M' → RelH (wd X an P) H' M' → Q b H'
abbrev TAD := Env1 → Mp → (List D → Mp → Prop) → Prop
def liftA (X : Cx) (an : An) (r : TAD) : TA := fun σ H Q => ∃ P ρ M R, RepE (wd X an P) H M ρ σ ∧ RelH (wd X an P) H M ∧ r ρ M R ∧
  ∀ ds M', R ds M' → ∀ vs H', Ext H M H' M' → RelH (wd X an P) H' M' → Reps (wd X an P) H' M' ds vs → Q vs H'
structure EndsD where
  nx : Env1 → Mp → Prop
  rt : QE
  bk : Env1 → Mp → Prop
  ct : Env1 → Mp → Prop
abbrev TSD := EndsD → Env1 → Mp → Prop
def liftS (X : Cx) (an : An) (r : TSD) : TS := fun Dn σ H => ∃ P ρ M R, RepE (wd X an P) H M ρ σ ∧ RelH (wd X an P) H M ∧ r R ρ M ∧
  (∀ ρ' M', R.nx ρ' M' → ∀ σ' H', Ext H M H' M' → RelH (wd X an P) H' M' → RepE (wd X an P) H' M' ρ' σ' → Dn.nx σ' H') ∧
  (∀ d M', R.rt d M' → ∀ v H', Ext H M H' M' → RelH (wd X an P) H' M' → Rep (wd X an P) H' M' d v → Dn.rt v H') ∧
  (∀ ρ' M', R.bk ρ' M' → ∀ σ' H', Ext H M H' M' → RelH (wd X an P) H' M' → RepE (wd X an P) H' M' ρ' σ' → Dn.bk σ' H') ∧
  (∀ ρ' M', R.ct ρ' M' → ∀ σ' H', Ext H M H' M' → RelH (wd X an P) H' M' → RepE (wd X an P) H' M' ρ' σ' → Dn.ct σ' H')
/-- a promise over data -/
def liftSp (K : PySem.W.Frag) (mg : Str → Option Value) (n : Nat) (sp : SpD) : Sp := fun vs H Q E => ∃ P an ds M R RX, ds.length = n ∧ Reps ⟨K, mg, P, an⟩ H M ds vs ∧ RelH ⟨K, mg, P, an⟩ H M ∧ sp ds M R RX ∧
  (∀ d M', R d M' → ∀ v H', Ext H M H' M' → RelH ⟨K, mg, P, an⟩ H' M' → Rep ⟨K, mg, P, an⟩ H' M' d v → Q v H') ∧
  (∀ x M', RX x M' → ∀ cls dd H', Ext H M H' M' → RelH ⟨K, mg, P, an⟩ H' M' → RepX ⟨K, mg, P, an⟩ H' M' x cls dd → E cls dd H')
section
variable {X : Cx} {e : Expr} {t t' : TE} {r : TD}
theorem PE.imp (h : PE X e t) (q : ∀ σ H Q, t' σ H Q → t σ H Q) : PE X e t' := ⟨fun pins s σ H Q I w => h.run pins s σ H Q I (q σ H Q w)⟩
theorem PT.imp {t t' : TT} (h : PT X e t) (q : ∀ σ H Q, t' σ H Q → t σ H Q) : PT X e t' := ⟨fun pins s σ H Q I w => h.run pins s σ H Q I (q σ H Q w)⟩
theorem PW.imp {t t' : TT} (h : PW X e t) (q : ∀ σ H Q, t' σ H Q → t σ H Q) : PW X e t' := ⟨fun w0 pins s σ H Q I w => h.run w0 pins s σ H Q I (q σ H Q w)⟩
theorem PA.imp {es : List Expr} {t t' : TA} (h : PA X es t) (q : ∀ σ H Q, t' σ H Q → t σ H Q) : PA X es t' := ⟨fun p pins s σ H Q I w => h.run p pins s σ H Q I (q σ H Q w)⟩
theorem PS.imp {st : Stmt} {t t' : TS} (h : PS X st t) (q : ∀ Dn σ H, t' Dn σ H → t Dn σ H) : PS X st t' := ⟨fun pins s σ H Dn I w => h.run pins s σ H Dn I (q Dn σ H w)⟩
theorem PSs.imp {st : List Stmt} {t t' : TS} (h : PSs X st t) (q : ∀ Dn σ H, t' Dn σ H → t Dn σ H) : PSs X st t' := ⟨fun pins s σ H Dn I w => h.run pins s σ H Dn I (q Dn σ H w)⟩
end
end DS

/-! DS2: a small language of one's own, its meaning (weakest preconditions over plain data), and when a text of Python is one of it -/
namespace DS
open PySem PySem.Spec PyProof.Rows L2

/-- built-in functions -/
inductive BF where
  | len | all | any | sum | abs | max | min | sorted
  deriving DecidableEq
/-- built-in classes -/
inductive BT where
  | int | tuple | list | str
  deriving DecidableEq
/-- built-in methods -/
inductive BM where
  | append | pop | extend
  deriving DecidableEq
def BF.id : BF → String
  | .len => "len" | .all => "all" | .any => "any" | .sum => "sum" | .abs => "abs" | .max => "max" | .min => "min" | .sorted => "sorted"
def BT.id : BT → String
  | .int => "int" | .tuple => "tuple" | .list => "list" | .str => "str"
/-- classes that isinstance asks -/
inductive IC where
  | int | tuple | list | str | bool | dict
  deriving DecidableEq
def IC.id : IC → String
  | .int => "int" | .tuple => "tuple" | .list => "list" | .str => "str" | .bool => "bool" | .dict => "dict"
mutual
inductive E where
  | var (i : Nat)
  | int (i : Int) | bl (b : Bool) | non | str (x : Str)
  | cst (i : Nat)
  | bin (m : Bool) (op : Operator) (a b : E)
  | neg (a : E)
  | cmp (op : CmpOp) (a b : E)
  | chain (op op' : CmpOp) (a b c : E)
  | and (a b : E) | or (a b : E) | not (a : E)
  | ife (c a b : E)
  | tup (es : EL) | lst (m : Bool) (es : EL)
  | ix (a i : E)
  | sl (m : Bool) (a : E) (lo hi : EO)
  | fld (a : E) (f : Str)
  | call (f : Nat) (es : EL)
  | meth (f : Nat) (a : E) (es : EL)
  | new (z : Bool) (f : Nat) (es : EL)
  | blt (m : Bool) (f : BF) (es : EL)
  | bty (m : Bool) (f : BT) (es : EL)
  | bm (f : BM) (o : E) (es : EL)
  | isi (a : E) (T : IC)
  | lc (m : Bool) (own : List (Str × Nat)) (elt : E) (tg : TG1) (it : IT) (c : EO)
  | lc2 (m : Bool) (own : List (Str × Nat)) (vs1 : List Nat) (elt : E) (tg : TG1) (it : IT) (c : EO) (tg1 : TG1) (it1 : IT) (c1 : EO)
inductive EL where
  | nil | cons (e : E) (es : EL)
inductive EO where
  | none | some (e : E)
inductive IT where
  | seq (e : E) | rng1 (a : E) | rng2 (a b : E) | rng3 (a b c : E) | zip (a b : E) | enum (a : E)
inductive TG1 where
  | v (i : Nat) | tup (ts : TGL) | sub (a i : E) | att (a : E) (f : Str)
inductive TGL where
  | nil | cons (t : TG1) (ts : TGL)
end
mutual
inductive S where
  | asg (tg : TG1) (e : E)
  /-- a name's store of a comprehension, within the comprehension's own frame -/
  | asgc (i : Nat) (e : E)
  | par (i j : Nat) (a b : E)
  | aug (i : Nat) (op : Operator) (e : E)
  | ex (e : E)
  | ret (e : E) | retN
  | ifs (c : E) (a b : SL)
  | for (tg : TG1) (it : IT) (b : SL)
  | while (c : E) (b : SL)
  | pass | brk | cont
  | raise (c : Nat) (es : EL)
  | fz (i : Nat)
inductive SL where
  | nil | cons (s : S) (ss : SL)
end

/-! ### the meaning -/
/-- what stands outside: the promises of defs and methods, the constants -/
structure Gam where
  fn : List (Nat × SpD)
  /-- class, method, number of arguments with self, promise -/
  mt : List (Str × Str × Nat × SpD)
  cst : List D
  /-- own exceptions: the fields that their arguments become -/
  exc : List (Str × List Str)
  /-- fields of a class's instances -/
  fl : List (Str × Str)
def nth {α : Type} : List α → Nat → Option α
  | [], _ => none
  | x :: _, 0 => some x
  | _ :: r, n + 1 => nth r n
abbrev XW := XD → Env1 → Mp → Prop

def slot : Env1 → Nat → Option D
  | [], _ => none
  | x :: _, 0 => x
  | _ :: r, n + 1 => slot r n
/-- a list's items -/
def lsOf (M : Mp) : D → Option (List D)
  | .lst ds => some ds
  | .ref a => match M a with
    | some (.lst ds) => some ds
    | _ => none
  | _ => none
def sqOf (M : Mp) : D → Option (List D)
  | .tup ds => some ds
  | d => lsOf M d
/-- a new list: told by its address, or by what is in it -/
def newL (m : Bool) (ds : List D) (M : Mp) (Q : QE) : Prop := match m with
  | true => ∀ p, M p = none → Q (.ref p) (mset M p (.lst ds))
  | false => Q (.lst ds) M
/-- a new instance: kept as one that may be changed, or told by what is in it -/
def newI (z : Bool) (p : Addr) (M : Mp) (Q : QE) : Prop := match z with
  | false => Q (.ref p) M
  | true => match M p with
    | some (.ins c fs) => Q (.ins c fs) (mdel M p)
    | _ => False
def flds (M : Mp) : D → Option (Str × List (Str × D))
  | .ins c fs => some (c, fs)
  | .ref a => match M a with
    | some (.ins c fs) => some (c, fs)
    | _ => none
  | _ => none

/-! ### data that == reads -/
mutual
def pyF : D → Option PyData
  | .non => some .none
  | .bl b => some (.bool b)
  | .int i => some (.int i)
  | .str x => some (.str x)
  | .tup ds => (pyFs ds).map .tuple
  | .lst ds => (pyFs ds).map .list
  | _ => none
def pyFs : List D → Option (List PyData)
  | [] => some []
  | d :: ds => match pyF d, pyFs ds with
    | some x, some xs => some (x :: xs)
    | _, _ => none
end
/-- one list of ours at the top -/
def pyOf (M : Mp) : D → Option PyData
  | .ref a => match M a with
    | some (.lst ds) => (pyFs ds).map .list
    | _ => none
  | d => pyF d

def MulOk (i j : Int) : Prop := CMul i j
def DivOk (i j : Int) : Prop := CDivN i j
def binD (m : Bool) (op : Operator) (x y : D) (M : Mp) (Q : QE) : Prop :=
  match op, x, y with
  | .Add, .int i, .int j => Q (.int (i + j)) M
  | .Sub, .int i, .int j => Q (.int (i - j)) M
  | .Mult, .int i, .int j => MulOk i j ∧ Q (.int (i * j)) M
  | .FloorDiv, .int i, .int j => DivOk i j ∧ Q (.int (i.fdiv j)) M
  | .Mod, .int i, .int j => j ≠ 0 ∧ Q (.int (i.fmod j)) M
  | .Pow, .int i, .int j => CPow i j ∧ Q (.int (i ^ j.toNat)) M
  | .LShift, .int i, .int j => CPow i j ∧ Q (.int (i * 2 ^ j.toNat)) M
  | .RShift, .int i, .int j => 0 ≤ j ∧ Q (.int (i / 2 ^ j.toNat)) M
  | .BitAnd, .int i, .int j => Q (.int (Builtin.bitAnd i j)) M
  | .BitOr, .int i, .int j => Q (.int (Builtin.bitOr i j)) M
  | .BitXor, .int i, .int j => Q (.int (Builtin.bitXor i j)) M
  | .Add, .str i, .str j => i.length + j.length ≤ sizeLine ∧ Q (.str (i ++ j)) M
  | .Add, .tup i, .tup j => i.length + j.length ≤ sizeLine ∧ Q (.tup (i ++ j)) M
  | _, _, _ => False
/-- x op= y of ints, of texts -/
def augD (op : Operator) (x y : D) (M : Mp) (Q : QE) : Prop :=
  match op, x, y with
  | .Add, .int i, .int j => Q (.int (i + j)) M
  | .Sub, .int i, .int j => Q (.int (i - j)) M
  | .Mult, .int i, .int j => CMul i j ∧ Q (.int (i * j)) M
  | .FloorDiv, .int i, .int j => CDiv i j ∧ Q (.int (i / j)) M
  | .Mod, .int i, .int j => 0 < j ∧ Q (.int (i % j)) M
  | .LShift, .int i, .int j => CPow i j ∧ Q (.int (i * 2 ^ j.toNat)) M
  | .RShift, .int i, .int j => 0 ≤ j ∧ Q (.int (i / 2 ^ j.toNat)) M
  | .BitAnd, .int i, .int j => Q (.int (Builtin.bitAnd i j)) M
  | .BitOr, .int i, .int j => Q (.int (Builtin.bitOr i j)) M
  | .BitXor, .int i, .int j => Q (.int (Builtin.bitXor i j)) M
  | .Add, .str i, .str j => i.length + j.length ≤ sizeLine ∧ Q (.str (i ++ j)) M
  | _, _, _ => False
def isN : D → Bool
  | .non => true
  | _ => false
def cmpD (op : CmpOp) (x y : D) (M : Mp) (Q : QE) : Prop :=
  match op with
  | .Eq => match pyOf M x, pyOf M y with
    | some d, some e => SeqAt.shaped d = true ∧ SeqAt.shaped e = true ∧ Q (.bl (PyData.eqv d e)) M
    | _, _ => False
  | .NotEq => match pyOf M x, pyOf M y with
    | some d, some e => SeqAt.shaped d = true ∧ SeqAt.shaped e = true ∧ Q (.bl (!PyData.eqv d e)) M
    | _, _ => False
  | .Lt => match x, y with
    | .int i, .int j => Q (.bl (decide (i < j))) M
    | _, _ => False
  | .LtE => match x, y with
    | .int i, .int j => Q (.bl (decide (i ≤ j))) M
    | _, _ => False
  | .Gt => match x, y with
    | .int i, .int j => Q (.bl (decide (j < i))) M
    | _, _ => False
  | .GtE => match x, y with
    | .int i, .int j => Q (.bl (decide (j ≤ i))) M
    | _, _ => False
  | .Is => isN y = true ∧ Q (.bl (isN x)) M
  | .IsNot => isN y = true ∧ Q (.bl (!isN x)) M
  | .In => match lsOf M y, pyF x with
    | some ys, some d => match pyFs ys with
      | some es => SeqAt.shaped d = true ∧ SeqAt.shaped (.list es) = true ∧ Q (.bl (es.any fun z => PyData.eqv z d)) M
      | none => False
    | _, _ => False
  | .NotIn => match lsOf M y, pyF x with
    | some ys, some d => match pyFs ys with
      | some es => SeqAt.shaped d = true ∧ SeqAt.shaped (.list es) = true ∧ Q (.bl (!es.any fun z => PyData.eqv z d)) M
      | none => False
    | _, _ => False
def ixD (x i : D) (M : Mp) (Q : QE) : Prop :=
  match i with
  | .int i => match sqOf M x with
    | some ds => match atI ds i with
      | some d => Q d M
      | none => False
    | none => False
  | _ => False
def cutD {α : Type} (xs : List α) (lo hi : Option Int) : List α := (xs.drop (HT.sIx xs.length 0 lo)).take (HT.sIx xs.length xs.length hi - HT.sIx xs.length 0 lo)
def slD (m : Bool) (x : D) (lo hi : Option Int) (M : Mp) (Q : QE) : Prop :=
  match x with
  | .tup ds => Q (.tup (cutD ds lo hi)) M
  | x => match lsOf M x with
    | some ds => newL m (cutD ds lo hi) M Q
    | none => False
def intsOf : List D → Option (List Int)
  | [] => some []
  | .int i :: r => (intsOf r).map (i :: ·)
  | _ => none
def blsOf : List D → Option (List Bool)
  | [] => some []
  | .bl i :: r => (blsOf r).map (i :: ·)
  | _ => none
/-- a built-in function -/
def bltD (m : Bool) : BF → List D → Mp → QE → Prop
  | .len, [x], M, Q => match x with
    | .str x => x.length ≤ sizeLine ∧ Q (.int x.length) M
    | d => match sqOf M d with
      | some ds => ds.length ≤ sizeLine → Q (.int ds.length) M
      | none => False
  | .all, [d], M, Q => match lsOf M d with
    | some ds => match blsOf ds with
      | some bs => Q (.bl (bs.all id)) M
      | none => False
    | none => False
  | .any, [d], M, Q => match lsOf M d with
    | some ds => match blsOf ds with
      | some bs => Q (.bl (bs.any id)) M
      | none => False
    | none => False
  | .sum, [d], M, Q => match lsOf M d with
    | some ds => match intsOf ds with
      | some bs => Q (.int bs.sum) M
      | none => False
    | none => False
  | .abs, [.int i], M, Q => Q (.int (if i < 0 then -i else i)) M
  | .max, [.int i, .int j], M, Q => Q (.int (if j > i then j else i)) M
  | .max, [d], M, Q => match lsOf M d with
    | some ds => match intsOf ds with
      | some bs => 0 < bs.length ∧ ∀ m, m ∈ bs → (∀ y, y ∈ bs → y ≤ m) → Q (.int m) M
      | none => False
    | none => False
  | .min, [.int i, .int j], M, Q => Q (.int (if j < i then j else i)) M
  | .min, [d], M, Q => match lsOf M d with
    | some ds => match intsOf ds with
      | some bs => 0 < bs.length ∧ ∀ m, m ∈ bs → (∀ y, y ∈ bs → m ≤ y) → Q (.int m) M
      | none => False
    | none => False
  | _, _, _, _ => False
/-- a built-in class called -/
def btyD (m : Bool) : BT → List D → Mp → QE → Prop
  | .int, [.int i], M, Q => Q (.int i) M
  | .int, [.bl k], M, Q => Q (.int (if k then 1 else 0)) M
  | .tuple, [d], M, Q => match sqOf M d with
    | some ds => Q (.tup ds) M
    | none => False
  | .list, [d], M, Q => match sqOf M d with
    | some ds => newL m ds M Q
    | none => False
  | .str, [.int i], M, Q => i.natAbs.log2 < 1920 ∧ Q (.str (toString i)) M
  | _, _, _, _ => False
/-- a method of a built-in class -/
def bmD : BM → D → List D → Mp → QE → Prop
  | .append, .ref a, [d], M, Q => match M a with
    | some (.lst ds) => ds.length < sizeLine ∧ Q .non (mset M a (.lst (ds ++ [d])))
    | _ => False
  | .pop, .ref a, [], M, Q => match M a with
    | some (.lst ds) => match ds[ds.length - 1]? with
      | some d => Q d (mset M a (.lst ds.dropLast))
      | none => False
    | _ => False
  | .extend, .ref a, [x], M, Q => match M a with
    | some (.lst ds) => match x with
      | .ref b => match M b with
        | some (.lst es) => ds.length + es.length ≤ sizeLine ∧ Q .non (mset M a (.lst (ds ++ es)))
        | _ => False
      | _ => False
    | _ => False
  | _, _, _, _, _ => False
/-- the receiver is of the class -/
def bmTy (f : BM) (M : Mp) (x : D) : Prop := match f with
  | .append => (lsOf M x).isSome = true
  | .pop => (lsOf M x).isSome = true
  | .extend => (lsOf M x).isSome = true
/-- isinstance(x, T), T a built-in class -/
def isiD (T : IC) (M : Mp) : D → Option Bool
  | .non => some false
  | .bl _ => some (decide (T = .int ∨ T = .bool))
  | .int _ => some (decide (T = .int))
  | .str _ => some (decide (T = .str))
  | .tup _ => some (decide (T = .tuple))
  | .lst _ => some (decide (T = .list))
  | .dic _ => some (decide (T = .dict))
  | .ref a => match M a with
    | some (.lst _) => some (decide (T = .list))
    | some (.dic _) => some (decide (T = .dict))
    | _ => none
  | _ => none

/-! ### loops -/
/-- what is walked: the items, and what must hold at each turn -/
abbrev TID := Env1 → Mp → (List D → (Mp → Prop) → Mp → Prop) → Prop
def foldC (bind : D → Env1 → Mp → (Env1 → Mp → Prop) → Prop) (cond : Env1 → Mp → (Bool → Mp → Prop) → Prop) (elt : Env1 → Mp → QE → Prop) (ρ : Env1) (g : Mp → Prop) : List D → List D → Mp → (List D → Mp → Prop) → Prop
  | [], acc, M, Q => g M ∧ Q acc M
  | x :: xs, acc, M, Q => g M ∧ bind x ρ M fun ρ1 M1 => cond ρ1 M1 fun b M2 =>
      match b with
      | true => elt ρ1 M2 fun d M3 => foldC bind cond elt ρ g xs (acc ++ [d]) M3 Q
      | false => foldC bind cond elt ρ g xs acc M2 Q
def foldS (bind : D → Env1 → Mp → (Env1 → Mp → Prop) → Prop) (body : EndsD → Env1 → Mp → Prop) (g : Mp → Prop) : List D → EndsD → Env1 → Mp → Prop
  | [], R, ρ, M => g M ∧ R.nx ρ M
  | x :: xs, R, ρ, M => g M ∧ bind x ρ M fun ρ1 M1 => body { R with nx := foldS bind body g xs R, ct := foldS bind body g xs R, bk := R.nx } ρ1 M1
def wipeD (ρ : Env1) : List Nat → Env1
  | [] => ρ
  | v :: vs => (wipeD ρ vs).set v none
def rgD (lo c : Int) (n : Nat) : List D := (List.range n).map fun (i : Nat) => D.int (lo + (i : Int) * c)
def zipD : List D → List D → List D
  | x :: xs, y :: ys => .tup [x, y] :: zipD xs ys
  | _, _ => []
def enumD : Nat → List D → List D
  | _, [] => []
  | i, x :: xs => .tup [.int i, x] :: enumD (i + 1) xs
/-- two lists, or two tuples -/
def zpOf (M : Mp) (x y : D) : Option (List D × List D) :=
  match x, y with
  | .tup a, .tup b => some (a, b)
  | x, y => match lsOf M x, lsOf M y with
    | some a, some b => some (a, b)
    | _, _ => none
/-- a thing that is walked stands still -/
def stay (M : Mp) (d : D) : Mp → Prop := fun M' => match d with
  | .ref a => M' a = M a
  | _ => True
def rgOk (i j c : Int) : Prop := c ≠ 0 ∧ c.natAbs < 1073741824 ∧ Builtin.Range.small i j c = true

def tgLen : TGL → Nat
  | .nil => 0
  | .cons _ ts => tgLen ts + 1
mutual
def wpE (G : Gam) (W : XW) : E → Env1 → Mp → QE → Prop
  | .var i, ρ, M, Q => match slot ρ i with
    | some d => Q d M
    | none => False
  | .int i, _, M, Q => Q (.int i) M
  | .bl i, _, M, Q => Q (.bl i) M
  | .non, _, M, Q => Q .non M
  | .str i, _, M, Q => Q (.str i) M
  | .cst x, _, M, Q => match nth G.cst x with
    | some d => Q d M
    | none => False
  | .bin m op a b, ρ, M, Q => wpE G W a ρ M fun x M1 => wpE G W b ρ M1 fun y M2 => binD m op x y M2 Q
  | .neg a, ρ, M, Q => wpE G W a ρ M fun x M1 => match x with
    | .int i => Q (.int (-i)) M1
    | _ => False
  | .cmp op a b, ρ, M, Q => wpE G W a ρ M fun x M1 => wpE G W b ρ M1 fun y M2 => cmpD op x y M2 Q
  | .chain op op' a b c, ρ, M, Q => wpE G W a ρ M fun x M1 => wpE G W b ρ M1 fun y M2 => cmpD op x y M2 fun z M3 => match z with
    | .bl true => wpE G W c ρ M3 fun w M4 => cmpD op' y w M4 Q
    | .bl false => Q (.bl false) M3
    | _ => False
  | .and a b, ρ, M, Q => wpE G W a ρ M fun x M1 => match x with
    | .bl true => wpE G W b ρ M1 Q
    | .bl false => Q (.bl false) M1
    | _ => False
  | .or a b, ρ, M, Q => wpE G W a ρ M fun x M1 => match x with
    | .bl true => Q (.bl true) M1
    | .bl false => wpE G W b ρ M1 Q
    | _ => False
  | .not a, ρ, M, Q => wpE G W a ρ M fun x M1 => match x with
    | .bl k => Q (.bl (!k)) M1
    | _ => False
  | .ife c a b, ρ, M, Q => wpE G W c ρ M fun x M1 => match x with
    | .bl true => wpE G W a ρ M1 Q
    | .bl false => wpE G W b ρ M1 Q
    | _ => False
  | .tup es, ρ, M, Q => wpL G W es ρ M fun ds M1 => Q (.tup ds) M1
  | .lst m es, ρ, M, Q => wpL G W es ρ M fun ds M1 => newL m ds M1 Q
  | .ix a i, ρ, M, Q => wpE G W a ρ M fun x M1 => wpE G W i ρ M1 fun y M2 => ixD x y M2 Q
  | .sl m a lo hi, ρ, M, Q => wpE G W a ρ M fun x M1 => wpO G W lo ρ M1 fun l M2 => wpO G W hi ρ M2 fun h M3 => slD m x l h M3 Q
  | .fld a f, ρ, M, Q => wpE G W a ρ M fun x M1 => match flds M1 x with
    | some (c, fs) => (c, f) ∈ G.fl ∧ match fs.lookup f with
      | some d => Q d M1
      | none => False
    | none => False
  | .call f es, ρ, M, Q => match nth G.fn f with
    | some (n, sp) => wpL G W es ρ M fun ds M1 => ds.length = n ∧ sp ds M1 Q fun x M' => W x ρ M'
    | none => False
  | .meth i a es, ρ, M, Q => match nth G.mt i with
    | some (c, f, n, sp) => wpE G W a ρ M fun x M0 => match flds M0 x with
      | some (k, fs) => k = c ∧ fs.lookup f = none ∧ wpL G W es ρ M0 fun ds M1 => ds.length + 1 = n ∧ sp (x :: ds) M1 Q fun x M' => W x ρ M'
      | none => False
    | none => False
  | .new z i es, ρ, M, Q => match nth G.mt i with
    | some (c, _, n, sp) => wpL G W es ρ M fun ds M1 => ds.length + 1 = n ∧ ∀ p, M1 p = none → sp (.ref p :: ds) (mset M1 p (.ins c [])) (fun d M2 => isN d = true ∧ newI z p M2 Q) fun x M' => W x ρ M'
    | none => False
  | .blt m f es, ρ, M, Q => wpL G W es ρ M fun ds M1 => bltD m f ds M1 Q
  | .bty m f es, ρ, M, Q => wpL G W es ρ M fun ds M1 => btyD m f ds M1 Q
  | .bm f o es, ρ, M, Q => wpE G W o ρ M fun x M1 => bmTy f M1 x ∧ wpL G W es ρ M1 fun ds M2 => bmD f x ds M2 Q
  | .isi a T, ρ, M, Q => wpE G W a ρ M fun x M1 => match isiD T M1 x with
    | some k => Q (.bl k) M1
    | none => False
  | .lc m own elt tg it c, ρ, M, Q => wpI G W it ρ M fun xs g M1 => foldC (bindT G (fun _ _ _ => False) tg) (wpC G (fun _ _ _ => False) c) (wpE G (fun _ _ _ => False) elt) (wipeD ρ (own.map (·.2))) g xs [] M1 fun acc M2 => newL m acc M2 Q
  | .lc2 m own vs1 elt tg it c tg1 it1 c1, ρ, M, Q => False
def wpL (G : Gam) (W : XW) : EL → Env1 → Mp → (List D → Mp → Prop) → Prop
  | .nil, _, M, Q => Q [] M
  | .cons e es, ρ, M, Q => wpE G W e ρ M fun d M1 => wpL G W es ρ M1 fun ds M2 => Q (d :: ds) M2
def wpO (G : Gam) (W : XW) : EO → Env1 → Mp → (Option Int → Mp → Prop) → Prop
  | .none, _, M, Q => Q none M
  | .some e, ρ, M, Q => wpE G W e ρ M fun d M1 => match d with
    | .int i => Q (some i) M1
    | _ => False
/-- a clause's test -/
def wpC (G : Gam) (W : XW) : EO → Env1 → Mp → (Bool → Mp → Prop) → Prop
  | .none, _, M, Q => Q true M
  | .some e, ρ, M, Q => wpE G W e ρ M fun d M1 => match d with
    | .bl b => Q b M1
    | _ => False
def wpI (G : Gam) (W : XW) : IT → Env1 → Mp → (List D → (Mp → Prop) → Mp → Prop) → Prop
  | .seq e, ρ, M, Q => wpE G W e ρ M fun d M1 => match sqOf M1 d with
    | some ds => ds.length ≤ sizeLine → Q ds (stay M1 d) M1
    | none => False
  | .rng1 e, ρ, M, Q => wpE G W e ρ M fun d M1 => match d with
    | .int i => (-(2 ^ 62) ≤ i ∧ i ≤ 16777216) ∧ Q (rgD 0 1 i.toNat) (fun _ => True) M1
    | _ => False
  | .rng2 a b, ρ, M, Q => wpE G W a ρ M fun x M1 => wpE G W b ρ M1 fun y M2 => match x, y with
    | .int i, .int j => (-(2 ^ 62) ≤ i ∧ i < 2 ^ 62 ∧ -(2 ^ 62) ≤ j ∧ j < 2 ^ 62 ∧ j - i ≤ 16777216) ∧ Q (rgD i 1 (j - i).toNat) (fun _ => True) M2
    | _, _ => False
  | .rng3 a b c, ρ, M, Q => wpE G W a ρ M fun x M1 => wpE G W b ρ M1 fun y M2 => wpE G W c ρ M2 fun z M3 => match x, y, z with
    | .int i, .int j, .int c => rgOk i j c ∧ Builtin.Range.rangeSize i j c ≤ 16777216 ∧ Q (rgD i c (Builtin.Range.rangeSize i j c).toNat) (fun _ => True) M3
    | _, _, _ => False
  | .zip a b, ρ, M, Q => wpE G W a ρ M fun x M1 => wpE G W b ρ M1 fun y M2 => match zpOf M2 x y with
    | some (xs, ys) => xs.length ≤ sizeLine → ys.length ≤ sizeLine → Q (zipD xs ys) (fun M' => stay M2 x M' ∧ stay M2 y M') M2
    | none => False
  | .enum a, ρ, M, Q => wpE G W a ρ M fun x M1 => match lsOf M1 x with
    | some xs => xs.length ≤ sizeLine → Q (enumD 0 xs) (stay M1 x) M1
    | _ => False
def bindT (G : Gam) (W : XW) : TG1 → D → Env1 → Mp → (Env1 → Mp → Prop) → Prop
  | .v i, d, ρ, M, Q => Q (ρ.set i (some d)) M
  | .tup ts, d, ρ, M, Q => match d with
    | .tup ds => ds.length = tgLen ts ∧ bindL G W ts ds ρ M Q
    | _ => False
  | .sub a i, d, ρ, M, Q => wpE G W a ρ M fun x M1 => wpE G W i ρ M1 fun y M2 => match x, y with
    | .ref p, .int k => match M2 p with
      | some (.lst ds) => match ixN ds.length k with
        | some j => Q ρ (mset M2 p (.lst (ds.set j d)))
        | none => False
      | _ => False
    | _, _ => False
  | .att a f, d, ρ, M, Q => wpE G W a ρ M fun x M1 => match x with
    | .ref p => match M1 p with
      | some (.ins c fs) => (c, f) ∈ G.fl ∧ fs.length < 1000 ∧ Q ρ (mset M1 p (.ins c (putD f d fs)))
      | _ => False
    | _ => False
def bindL (G : Gam) (W : XW) : TGL → List D → Env1 → Mp → (Env1 → Mp → Prop) → Prop
  | .nil, ds, ρ, M, Q => ds = [] ∧ Q ρ M
  | .cons t ts, ds, ρ, M, Q => match ds with
    | d :: ds => bindT G W t d ρ M fun ρ1 M1 => bindL G W ts ds ρ1 M1 Q
    | [] => False
end
/-- a test -/
def wpT (G : Gam) (W : XW) (e : E) (ρ : Env1) (M : Mp) (Q : Bool → Mp → Prop) : Prop := wpE G W e ρ M fun d M1 => match d with
  | .bl b => Q b M1
  | _ => False
mutual
def wpS (G : Gam) (W : XW) : S → EndsD → Env1 → Mp → Prop
  | .asg tg e, R, ρ, M => wpE G W e ρ M fun d M1 => bindT G W tg d ρ M1 R.nx
  | .asgc i e, R, ρ, M => wpE G W e ρ M fun d M1 => R.nx (ρ.set i (some d)) M1
  | .par i j a b, R, ρ, M => wpE G W a ρ M fun x M1 => wpE G W b ρ M1 fun y M2 => R.nx ((ρ.set i (some x)).set j (some y)) M2
  | .aug i op e, R, ρ, M => match slot ρ i with
    | some x => wpE G W e ρ M fun y M1 => augD op x y M1 fun z M2 => R.nx (ρ.set i (some z)) M2
    | none => False
  | .ex e, R, ρ, M => wpE G W e ρ M fun _ M1 => R.nx ρ M1
  | .ret e, R, ρ, M => wpE G W e ρ M R.rt
  | .retN, R, _, M => R.rt .non M
  | .ifs c a b, R, ρ, M => wpT G W c ρ M fun k M1 => match k with
    | true => wpSs G W a R ρ M1
    | false => wpSs G W b R ρ M1
  | .for tg it b, R, ρ, M => wpI G W it ρ M fun xs g M1 => foldS (bindT G W tg) (wpSs G W b) g xs R ρ M1
  | .while c b, R, ρ, M => ∃ I : Nat → Env1 → Mp → Prop, (∃ m, I m ρ M) ∧ ∀ m ρ M, I m ρ M → wpT G W c ρ M fun k M1 => match k with
    | true => wpSs G W b { R with nx := fun ρ' M' => ∃ m', m' < m ∧ I m' ρ' M', ct := fun ρ' M' => ∃ m', m' < m ∧ I m' ρ' M', bk := R.nx } ρ M1
    | false => R.nx ρ M1
  | .pass, R, ρ, M => R.nx ρ M
  | .brk, R, ρ, M => R.bk ρ M
  | .cont, R, ρ, M => R.ct ρ M
  | .raise c es, R, ρ, M => match nth G.exc c with
    | some (c, fs) => wpL G W es ρ M fun ds M1 => ds.length = fs.length ∧ W (c, fs.zip ds) ρ M1
    | none => False
  | .fz i, R, ρ, M => match slot ρ i with
    | some (.ref a) => match M a with
      | some (.lst ds) => R.nx (ρ.set i (some (.lst ds))) (mdel M a)
      | some (.dic ds) => R.nx (ρ.set i (some (.dic ds))) (mdel M a)
      | some (.ins c ds) => R.nx (ρ.set i (some (.ins c ds))) (mdel M a)
      | none => False
    | _ => False
def wpSs (G : Gam) (W : XW) : SL → EndsD → Env1 → Mp → Prop
  | .nil, R, ρ, M => R.nx ρ M
  | .cons s ss, R, ρ, M => wpS G W s { R with nx := wpSs G W ss R } ρ M
end
end DS

/-! DS3: the primitive steps keep their word -/
namespace DS
open PySem PySem.Spec PyProof.Rows L2
/-- every list and tuple is within the line -/
def LenOk (X : Cx) (H : Hp) : Prop := ∀ a vs, (SqL X.K H a vs ∨ SqT X.K H a vs) → vs.length ≤ sizeLine
section
variable {X : Cx}
theorem Inv.lenOk {pins : List (Addr × Obj)} {σ : L2.St} {H : Hp} {s : Shared} (I : Inv X pins σ H s) : LenOk X H := fun a vs h => by
  rcases h with h | h
  · obtain ⟨_, _, _, z⟩ := I.list h; exact z
  · obtain ⟨_, _, _, z⟩ := I.tuple h; exact z
end
section
variable {F : Wd} {H : Hp} {M : Mp}
theorem lsRep {x : D} {v : V} {ds : List D} (p : Rep F H M x v) (r : RelH F H M) (h : lsOf M x = some ds) : ∃ a vs, v = .ref a ∧ SqL F.K H a vs ∧ Reps F H M ds vs := by
  cases p with
  | lst h1 h2 hp h3 => cases h; exact ⟨_, _, rfl, .inl h1, h3⟩
  | lstK h1 h3 => cases h; exact ⟨_, _, rfl, .inr h1, h3⟩
  | ref a =>
    have h' : (match M a with | some (.lst ds) => some ds | _ => none) = some ds := h
    split at h'
    · rename_i e
      cases h'
      obtain ⟨vs, h1, h2⟩ := r.ob _ _ e
      exact ⟨_, vs, rfl, .inl (.inl h1), h2⟩
    · cases h'
  | _ => cases h
theorem sqRep {x : D} {v : V} {ds : List D} (p : Rep F H M x v) (r : RelH F H M) (h : sqOf M x = some ds) : ∃ a vs, v = .ref a ∧ (SqL F.K H a vs ∨ SqT F.K H a vs) ∧ Reps F H M ds vs := by
  cases p with
  | tup h1 h2 => cases h; exact ⟨_, _, rfl, .inr h1, h2⟩
  | lst h1 h2 hp h3 => cases h; exact ⟨_, _, rfl, .inl (.inl h1), h3⟩
  | lstK h1 h3 => cases h; exact ⟨_, _, rfl, .inl (.inr h1), h3⟩
  | ref a =>
    obtain ⟨a, vs, e, h1, h2⟩ := lsRep (.ref a) r (show lsOf M (.ref a) = some ds from h)
    exact ⟨a, vs, e, .inl h1, h2⟩
  | _ => cases h
mutual
theorem pyDp : ∀ (x : D) {v : V} {d : PyData}, Rep F H M x v → pyF x = some d → Dp F.K H v d
  | .non, _, _, .non, h => by cases h; exact .non
  | .bl b, _, _, .bl _, h => by cases h; exact .bl b
  | .int i, _, _, .int _, h => by cases h; exact .int i
  | .str i, _, _, .str _, h => by cases h; exact .str i
  | .tup ds, _, _, .tup h1 h2, h => by
    unfold pyF at h
    cases e : pyFs ds with
    | none => rw [e] at h; cases h
    | some es => rw [e] at h; cases h; exact .tup h1 (pyDps ds h2 e)
  | .lst ds, _, _, .lst h1 h3 hp h2, h => by
    unfold pyF at h
    cases e : pyFs ds with
    | none => rw [e] at h; cases h
    | some es => rw [e] at h; cases h; exact .lst (.inl h1) (pyDps ds h2 e)
  | .lst ds, _, _, .lstK h1 h2, h => by
    unfold pyF at h
    cases e : pyFs ds with
    | none => rw [e] at h; cases h
    | some es => rw [e] at h; cases h; exact .lst (.inr h1) (pyDps ds h2 e)
theorem pyDps : ∀ (xs : List D) {vs : List V} {ds : List PyData}, Reps F H M xs vs → pyFs xs = some ds → DpAll F.K H vs ds
  | [], _, _, .nil, h => by cases h; exact .nil
  | x :: xs, _, _, .cons h1 h2, h => by
    unfold pyFs at h
    split at h
    · rename_i e1 e2
      cases h
      exact .cons (pyDp x h1 e1) (pyDps xs h2 e2)
    · cases h
end
theorem pyOfDp {x : D} {v : V} {d : PyData} (p : Rep F H M x v) (r : RelH F H M) (h : pyOf M x = some d) : Dp F.K H v d := by
  unfold pyOf at h
  split at h
  · rename_i a
    split at h
    · rename_i ds e
      obtain ⟨vs, h1, h2⟩ := r.ob _ _ e
      cases p
      cases e2 : pyFs ds with
      | none => rw [e2] at h; cases h
      | some es => rw [e2] at h; cases h; exact .lst (.inl (.inl h1)) (pyDps ds h2 e2)
    · cases h
  · exact pyDp _ p h
theorem lsDp {x : D} {v : V} {ds : List D} {es : List PyData} (p : Rep F H M x v) (r : RelH F H M) (h : lsOf M x = some ds) (e : pyFs ds = some es) : Dp F.K H v (.list es) := by
  obtain ⟨a, vs, rfl, h1, h2⟩ := lsRep p r h
  exact .lst h1 (pyDps ds h2 e)
theorem intsRep : ∀ {ds : List D} {vs : List V} {ns : List Int}, Reps F H M ds vs → intsOf ds = some ns → vs = ns.map V.int
  | [], _, _, .nil, h => by cases h; rfl
  | .int i :: r, _, ns, .cons h1 h2, h => by
    unfold intsOf at h
    cases e : intsOf r with
    | none => rw [e] at h; cases h
    | some ms => rw [e] at h; cases h; cases h1; rw [intsRep h2 e]; rfl
  | .non :: r, _, ns, _, h => by cases h
  | .bl _ :: r, _, ns, _, h => by cases h
  | .str _ :: r, _, ns, _, h => by cases h
  | .tup _ :: r, _, ns, _, h => by cases h
  | .lst _ :: r, _, ns, _, h => by cases h
  | .dic _ :: r, _, ns, _, h => by cases h
  | .ins _ _ :: r, _, ns, _, h => by cases h
  | .ref _ :: r, _, ns, _, h => by cases h
  | .glo _ :: r, _, ns, _, h => by cases h
theorem blsRep : ∀ {ds : List D} {vs : List V} {ns : List Bool}, Reps F H M ds vs → blsOf ds = some ns → vs = ns.map V.bl
  | [], _, _, .nil, h => by cases h; rfl
  | .bl i :: r, _, ns, .cons h1 h2, h => by
    unfold blsOf at h
    cases e : blsOf r with
    | none => rw [e] at h; cases h
    | some ms => rw [e] at h; cases h; cases h1; rw [blsRep h2 e]; rfl
  | .non :: r, _, ns, _, h => by cases h
  | .int _ :: r, _, ns, _, h => by cases h
  | .str _ :: r, _, ns, _, h => by cases h
  | .tup _ :: r, _, ns, _, h => by cases h
  | .lst _ :: r, _, ns, _, h => by cases h
  | .dic _ :: r, _, ns, _, h => by cases h
  | .ins _ _ :: r, _, ns, _, h => by cases h
  | .ref _ :: r, _, ns, _, h => by cases h
  | .glo _ :: r, _, ns, _, h => by cases h
end
/-- what follows -/
def Cont (X : Cx) (an : An) (P : Addr → Prop) (H : Hp) (M : Mp) (R : QE) (Q : VK) : Prop := ∀ d M', R d M' → ∀ v H', Ext H M H' M' → RelH (wd X an P) H' M' → Rep (wd X an P) H' M' d v → Q v H'
section
variable {X : Cx} {an : An} {P : Addr → Prop} {H : Hp} {M : Mp} {R : QE} {Q : VK}
theorem Cont.here (k : Cont X an P H M R Q) (r : RelH (wd X an P) H M) {d : D} {v : V} (h : R d M) (p : Rep (wd X an P) H M d v) : Q v H := k _ _ h _ _ .refl r p
theorem newL_ok (k : Cont X an P H M R Q) (r : RelH (wd X an P) H M) {m : Bool} {ds : List D} {vs : List V} (h : newL m ds M R) (p : Reps (wd X an P) H M ds vs) : ∀ q, H q = none → Q (.ref q) (upd H q (.lst vs)) := by
  intro q hq
  cases m with
  | true => exact k _ _ (h q (r.free hq)) _ _ (Ext.new hq (r.free hq)) (r.new hq ⟨vs, upd_same, p.ext (Ext.new hq (r.free hq))⟩) (.ref q)
  | false => exact k _ _ h _ _ (Ext.newF hq) (r.newF hq) (.lst (.inl upd_same) (r.free hq) (r.nop hq) (p.ext (Ext.newF hq)))
theorem newT_ok (k : Cont X an P H M R Q) (r : RelH (wd X an P) H M) {ds : List D} {vs : List V} (h : R (.tup ds) M) (p : Reps (wd X an P) H M ds vs) : ∀ q, H q = none → Q (.ref q) (upd H q (.tup vs)) := by
  intro q hq
  exact k _ _ h _ _ (Ext.newF hq) (r.newF hq) (.tup (SqT.of upd_same) (p.ext (Ext.newF hq)))
end
/-- a step on two values, over data -/
def lift2 (X : Cx) (an : An) (r : D → D → Mp → QE → Prop) : R2 := fun v u H Q => ∃ P x y M R, Rep (wd X an P) H M x v ∧ Rep (wd X an P) H M y u ∧ RelH (wd X an P) H M ∧ r x y M R ∧ Cont X an P H M R Q
def liftN (X : Cx) (an : An) (r : List D → Mp → QE → Prop) : List V → Hp → VK → Prop := fun vs H Q => ∃ P ds M R, Reps (wd X an P) H M ds vs ∧ RelH (wd X an P) H M ∧ r ds M R ∧ Cont X an P H M R Q
section
variable {X : Cx} {an : An}
theorem binD_ok (m : Bool) (op : Operator) : OpR X (binaryOp op) (lift2 X an (binD m op)) := by
  intro pins s σ H v u vv uu Q I rv ru h
  obtain ⟨P, x, y, M, R, px, py, rh, h, k⟩ := h
  unfold binD at h
  split at h
  · cases px; cases py; exact op_add pins s σ H _ _ _ _ Q I rv ru ⟨_, _, rfl, rfl, k.here rh h (.int _)⟩
  · cases px; cases py; exact op_sub pins s σ H _ _ _ _ Q I rv ru ⟨_, _, rfl, rfl, k.here rh h (.int _)⟩
  · cases px; cases py; exact op_mul pins s σ H _ _ _ _ Q I rv ru ⟨_, _, rfl, rfl, h.1, k.here rh h.2 (.int _)⟩
  · cases px; cases py; exact op_fdivN pins s σ H _ _ _ _ Q I rv ru ⟨_, _, rfl, rfl, h.1, k.here rh h.2 (.int _)⟩
  · cases px; cases py; exact op_modN pins s σ H _ _ _ _ Q I rv ru ⟨_, _, rfl, rfl, h.1, k.here rh h.2 (.int _)⟩
  · cases px; cases py; exact op_pow pins s σ H _ _ _ _ Q I rv ru ⟨_, _, rfl, rfl, h.1, k.here rh h.2 (.int _)⟩
  · cases px; cases py; exact op_shl pins s σ H _ _ _ _ Q I rv ru ⟨_, _, rfl, rfl, h.1, k.here rh h.2 (.int _)⟩
  · cases px; cases py; exact op_shr pins s σ H _ _ _ _ Q I rv ru ⟨_, _, rfl, rfl, h.1, k.here rh h.2 (.int _)⟩
  · cases px; cases py; exact op_and pins s σ H _ _ _ _ Q I rv ru ⟨_, _, rfl, rfl, k.here rh h (.int _)⟩
  · cases px; cases py; exact op_or pins s σ H _ _ _ _ Q I rv ru ⟨_, _, rfl, rfl, k.here rh h (.int _)⟩
  · cases px; cases py; exact op_xor pins s σ H _ _ _ _ Q I rv ru ⟨_, _, rfl, rfl, k.here rh h (.int _)⟩
  · cases px; cases py; exact op_add_str pins s σ H _ _ _ _ Q I rv ru ⟨_, _, rfl, rfl, h.1, k.here rh h.2 (.str _)⟩
  · cases px with
    | tup h1 h2 =>
      cases py with
      | tup h3 h4 =>
        refine op_catA pins s σ H _ _ _ _ Q I rv ru ⟨_, _, _, _, rfl, rfl, h1, h3, by rw [← h2.length, ← h4.length]; exact h.1, fun e => ?_, fun _ e => ?_, fun _ _ p hp => newT_ok k rh h.2 (h2.append h4) p hp⟩
        · subst e; cases h2; exact k.here rh h.2 (.tup h3 h4)
        · subst e; cases h4; exact k.here rh h.2 (.tup h1 (by rw [List.append_nil]; exact h2))
  · cases h
theorem augD_ok (op : Operator) : PIp X op (lift2 X an (augD op)) := by
  intro pins s σ H v u vv uu Q I rv ru h
  obtain ⟨P, x, y, M, R, px, py, rh, h, k⟩ := h
  unfold augD at h
  split at h
  · cases px; cases py; exact iop_add pins s σ H _ _ _ _ Q I rv ru ⟨_, _, rfl, rfl, k.here rh h (.int _)⟩
  · cases px; cases py; exact iop_sub pins s σ H _ _ _ _ Q I rv ru ⟨_, _, rfl, rfl, k.here rh h (.int _)⟩
  · cases px; cases py; exact iop_mul pins s σ H _ _ _ _ Q I rv ru ⟨_, _, rfl, rfl, h.1, k.here rh h.2 (.int _)⟩
  · cases px; cases py; exact iop_fdiv pins s σ H _ _ _ _ Q I rv ru ⟨_, _, rfl, rfl, h.1, k.here rh h.2 (.int _)⟩
  · cases px; cases py; exact iop_mod pins s σ H _ _ _ _ Q I rv ru ⟨_, _, rfl, rfl, h.1, k.here rh h.2 (.int _)⟩
  · cases px; cases py; exact iop_shl pins s σ H _ _ _ _ Q I rv ru ⟨_, _, rfl, rfl, h.1, k.here rh h.2 (.int _)⟩
  · cases px; cases py; exact iop_shr pins s σ H _ _ _ _ Q I rv ru ⟨_, _, rfl, rfl, h.1, k.here rh h.2 (.int _)⟩
  · cases px; cases py; exact iop_and pins s σ H _ _ _ _ Q I rv ru ⟨_, _, rfl, rfl, k.here rh h (.int _)⟩
  · cases px; cases py; exact iop_or pins s σ H _ _ _ _ Q I rv ru ⟨_, _, rfl, rfl, k.here rh h (.int _)⟩
  · cases px; cases py; exact iop_xor pins s σ H _ _ _ _ Q I rv ru ⟨_, _, rfl, rfl, k.here rh h (.int _)⟩
  · cases px; cases py; exact iop_add_str pins s σ H _ _ _ _ Q I rv ru ⟨_, _, rfl, rfl, h.1, k.here rh h.2 (.str _)⟩
  · cases h
theorem repN {F : Wd} {H : Hp} {M : Mp} {x : D} {v : V} (p : Rep F H M x v) : decide (v = .non) = isN x := by
  cases p with
  | glo h r n => simp [n, isN]
  | _ => simp [isN]
theorem isN_eq {x : D} (h : isN x = true) : x = .non := by cases x <;> first | rfl | cases h
theorem cmpD_ok (op : CmpOp) (hu : X.A.units + 65 < cLine) : OpR X (compareOp op) (lift2 X an (cmpD op)) := by
  have hu' : X.A.units + 64 < cLine := by omega
  intro pins s σ H v u vv uu Q I rv ru h
  obtain ⟨P, x, y, M, R, px, py, rh, h, k⟩ := h
  unfold cmpD at h
  split at h
  · split at h
    · rename_i e1 e2
      exact op_eqD hu' pins s σ H _ _ _ _ Q I rv ru ⟨_, _, pyOfDp px rh e1, pyOfDp py rh e2, h.1, h.2.1, k.here rh h.2.2 (.bl _)⟩
    · cases h
  · split at h
    · rename_i e1 e2
      exact op_neD hu' pins s σ H _ _ _ _ Q I rv ru ⟨_, _, pyOfDp px rh e1, pyOfDp py rh e2, h.1, h.2.1, k.here rh h.2.2 (.bl _)⟩
    · cases h
  · split at h
    · cases px; cases py; exact op_lt pins s σ H _ _ _ _ Q I rv ru ⟨_, _, rfl, rfl, k.here rh h (.bl _)⟩
    · cases h
  · split at h
    · cases px; cases py; exact op_le pins s σ H _ _ _ _ Q I rv ru ⟨_, _, rfl, rfl, k.here rh h (.bl _)⟩
    · cases h
  · split at h
    · cases px; cases py; exact op_gt pins s σ H _ _ _ _ Q I rv ru ⟨_, _, rfl, rfl, k.here rh h (.bl _)⟩
    · cases h
  · split at h
    · cases px; cases py; exact op_ge pins s σ H _ _ _ _ Q I rv ru ⟨_, _, rfl, rfl, k.here rh h (.bl _)⟩
    · cases h
  · have e := isN_eq h.1
    subst e
    cases py
    exact op_isN pins s σ H _ _ _ _ Q I rv ru ⟨rfl, by rw [repN px]; exact k.here rh h.2 (.bl _)⟩
  · have e := isN_eq h.1
    subst e
    cases py
    exact op_notN pins s σ H _ _ _ _ Q I rv ru ⟨rfl, by rw [repN px]; exact k.here rh h.2 (.bl _)⟩
  · split at h
    · rename_i e1 e2
      split at h
      · rename_i e3
        exact op_inD hu pins s σ H _ _ _ _ Q I rv ru ⟨_, _, pyDp _ px e2, lsDp py rh e1 e3, h.1, h.2.1, k.here rh h.2.2 (.bl _)⟩
      · cases h
    · cases h
  · split at h
    · rename_i e1 e2
      split at h
      · rename_i e3
        exact op_notInD hu pins s σ H _ _ _ _ Q I rv ru ⟨_, _, pyDp _ px e2, lsDp py rh e1 e3, h.1, h.2.1, k.here rh h.2.2 (.bl _)⟩
      · cases h
    · cases h
theorem atI_rep {F : Wd} {H : Hp} {M : Mp} {ds : List D} {vs : List V} {i : Int} {d : D} (p : Reps F H M ds vs) (h : atI ds i = some d) : ∃ v, atI vs i = some v ∧ Rep F H M d v := by
  unfold atI at h ⊢
  rw [← p.length]
  cases e : ixN ds.length i with
  | none => rw [e] at h; cases h
  | some j =>
    rw [e] at h
    exact p.get h
theorem ixD_ok : IxR X (lift2 X an ixD) := by
  intro value slice pins s σ H v u vv uu Q I rv ru h
  obtain ⟨P, x, y, M, R, px, py, rh, h, k⟩ := h
  unfold ixD at h
  split at h
  · split at h
    · rename_i e1
      split at h
      · rename_i e2
        obtain ⟨a, vs, rfl, h1, h2⟩ := sqRep px rh e1
        obtain ⟨w, h3, h4⟩ := atI_rep h2 e2
        cases py
        rcases h1 with h1 | h1
        · exact ix_list value slice pins s σ H _ _ _ _ Q I rv ru ⟨_, _, _, _, rfl, rfl, h1, h3, k.here rh h h4⟩
        · exact ix_tup value slice pins s σ H _ _ _ _ Q I rv ru ⟨_, _, _, _, rfl, rfl, h1, h3, k.here rh h h4⟩
      · cases h
    · cases h
  · cases h
theorem cut_rep {F : Wd} {H : Hp} {M : Mp} {ds : List D} {vs : List V} {lo hi : Option Int} (p : Reps F H M ds vs) : Reps F H M (cutD ds lo hi) (cutV vs lo hi) := by
  unfold cutD cutV
  rw [p.length]
  exact (p.drop _).take _
theorem cut_whole {α : Type} {xs : List α} {lo hi : Option Int} (h : HT.sIx xs.length 0 lo = 0 ∧ HT.sIx xs.length xs.length hi = xs.length) : cutD xs lo hi = xs := by
  unfold cutD
  rw [h.1, h.2]
  simp
def liftSl (X : Cx) (an : An) (r : D → Option Int → Option Int → Mp → QE → Prop) : V → Option Int → Option Int → Hp → VK → Prop := fun v lo hi H Q => ∃ P x M R, Rep (wd X an P) H M x v ∧ RelH (wd X an P) H M ∧ r x lo hi M R ∧ Cont X an P H M R Q
theorem slD_ok (m : Bool) : SlR X (liftSl X an (slD m)) := by
  intro pins s σ H v vv vl vu lo hi sl Q I rv hs pl pu h
  obtain ⟨P, x, M, R, px, rh, h, k⟩ := h
  unfold slD at h
  split at h
  · cases px with
    | tup h1 h2 =>
      refine sl_tupA pins s σ H _ _ vl vu lo hi sl Q I rv hs pl pu ⟨_, _, rfl, h1, fun e => ?_, fun _ p hp => newT_ok k rh h (cut_rep h2) p hp⟩
      rw [cut_whole (by rw [h2.length]; exact e)] at h
      exact k.here rh h (.tup h1 h2)
  · split at h
    · rename_i e1
      obtain ⟨a, vs, rfl, h1, h2⟩ := lsRep px rh e1
      exact sl_list pins s σ H _ _ vl vu lo hi sl Q I rv hs pl pu ⟨_, _, rfl, h1, fun p hp => newL_ok k rh h (cut_rep h2) p hp⟩
    · cases h
/-! calls -/
theorem bltD_ok (hc : X.calm = true) (m : Bool) (f : BF) : CallR X (.builtin f.id) (liftN X an (bltD m f)) := by
  intro pins s σ H vs us Q I rv h
  obtain ⟨P, ds, M, R, p, rh, h, k⟩ := h
  unfold bltD at h
  split at h
  · cases p with
    | cons p1 p2 =>
      cases p2
      split at h
      · cases p1
        exact call_len pins s σ H _ _ Q I rv ⟨_, _, rfl, ⟨h.1, rfl⟩, k.here rh h.2 (.int _)⟩
      · split at h
        · rename_i e1
          obtain ⟨a, vs, rfl, h1, h2⟩ := sqRep p1 rh e1
          rw [h2.length] at h
          rcases h1 with h1 | h1
          · exact call_len pins s σ H _ _ Q I rv ⟨_, _, rfl, .inl ⟨_, h1, rfl⟩, k.here rh (h (Inv.lenOk I _ _ (.inl h1))) (.int _)⟩
          · exact call_len pins s σ H _ _ Q I rv ⟨_, _, rfl, .inr ⟨_, h1, rfl⟩, k.here rh (h (Inv.lenOk I _ _ (.inr h1))) (.int _)⟩
        · cases h
  · cases p with
    | cons p1 p2 =>
      cases p2
      split at h
      · rename_i e1
        split at h
        · rename_i e2
          obtain ⟨a, vs, rfl, h1, h2⟩ := lsRep p1 rh e1
          obtain rfl := blsRep h2 e2
          exact cr_all hc pins s σ H _ _ Q I rv ⟨_, _, rfl, h1, k.here rh h (.bl _)⟩
        · cases h
      · cases h
  · cases p with
    | cons p1 p2 =>
      cases p2
      split at h
      · rename_i e1
        split at h
        · rename_i e2
          obtain ⟨a, vs, rfl, h1, h2⟩ := lsRep p1 rh e1
          obtain rfl := blsRep h2 e2
          exact cr_any hc pins s σ H _ _ Q I rv ⟨_, _, rfl, h1, k.here rh h (.bl _)⟩
        · cases h
      · cases h
  · cases p with
    | cons p1 p2 =>
      cases p2
      split at h
      · rename_i e1
        split at h
        · rename_i e2
          obtain ⟨a, vs, rfl, h1, h2⟩ := lsRep p1 rh e1
          obtain rfl := intsRep h2 e2
          exact cr_sum hc pins s σ H _ _ Q I rv ⟨_, _, rfl, h1, k.here rh h (.int _)⟩
        · cases h
      · cases h
  · cases p with
    | cons p1 p2 =>
      cases p2; cases p1
      exact call_abs pins s σ H _ _ Q I rv ⟨_, rfl, k.here rh h (.int _)⟩
  · cases p with
    | cons p1 p2 =>
      cases p2 with
      | cons p2 p3 =>
        cases p1; cases p2; cases p3
        exact call_max2 hc pins s σ H _ _ Q I rv ⟨_, _, rfl, k.here rh h (.int _)⟩
  · cases p with
    | cons p1 p2 =>
      cases p2
      split at h
      · rename_i e1
        split at h
        · rename_i e2
          obtain ⟨a, vs, rfl, h1, h2⟩ := lsRep p1 rh e1
          obtain rfl := intsRep h2 e2
          exact cr_max hc pins s σ H _ _ Q I rv ⟨_, _, rfl, h1, h.1, fun m hm hy => k.here rh (h.2 m hm hy) (.int _)⟩
        · cases h
      · cases h
  · cases p with
    | cons p1 p2 =>
      cases p2 with
      | cons p2 p3 =>
        cases p1; cases p2; cases p3
        exact call_min2 hc pins s σ H _ _ Q I rv ⟨_, _, rfl, k.here rh h (.int _)⟩
  · cases p with
    | cons p1 p2 =>
      cases p2
      split at h
      · rename_i e1
        split at h
        · rename_i e2
          obtain ⟨a, vs, rfl, h1, h2⟩ := lsRep p1 rh e1
          obtain rfl := intsRep h2 e2
          exact cr_min hc pins s σ H _ _ Q I rv ⟨_, _, rfl, h1, h.1, fun m hm hy => k.here rh (h.2 m hm hy) (.int _)⟩
        · cases h
      · cases h
  · cases h
theorem sq_cases {M : Mp} {x : D} {ds : List D} (h : sqOf M x = some ds) : x = .tup ds ∨ lsOf M x = some ds := by
  cases x with
  | tup es => cases h; exact .inl rfl
  | _ => exact .inr h
theorem btyD_ok (m : Bool) (f : BT) : CallR X (.type f.id) (liftN X an (btyD m f)) := by
  intro pins s σ H vs us Q I rv h
  obtain ⟨P, ds, M, R, p, rh, h, k⟩ := h
  unfold btyD at h
  split at h
  · cases p with
    | cons p1 p2 =>
      cases p2; cases p1
      exact call_int1 pins s σ H _ _ Q I rv (.inl ⟨_, rfl, k.here rh h (.int _)⟩)
  · cases p with
    | cons p1 p2 =>
      cases p2; cases p1
      exact call_int1 pins s σ H _ _ Q I rv (.inr ⟨_, rfl, k.here rh h (.int _)⟩)
  · cases p with
    | cons p1 p2 =>
      cases p2
      split at h
      · rename_i e1
        rcases sq_cases e1 with e2 | e2
        · subst e2
          cases p1 with
          | tup h1 h2 => exact call_tupleT pins s σ H _ _ Q I rv ⟨_, _, rfl, h1, k.here rh h (.tup h1 h2)⟩
        · obtain ⟨a, vs, rfl, h1, h2⟩ := lsRep p1 rh e2
          exact call_tuple_of pins s σ H _ _ Q I rv ⟨_, _, rfl, .inl ⟨h1, fun q hq => newT_ok k rh h h2 q hq⟩⟩
      · cases h
  · cases p with
    | cons p1 p2 =>
      cases p2
      split at h
      · rename_i e1
        obtain ⟨a, vs, rfl, h1, h2⟩ := sqRep p1 rh e1
        exact call_list_of pins s σ H _ _ Q I rv ⟨_, _, rfl, h1, fun q hq => newL_ok k rh h h2 q hq⟩
      · cases h
  · cases p with
    | cons p1 p2 =>
      cases p2; cases p1
      exact call_str_int pins s σ H _ _ Q I rv ⟨_, rfl, h.1, k.here rh h.2 (.str _)⟩
  · cases h
def liftM (X : Cx) (an : An) (r : D → List D → Mp → QE → Prop) : V → List V → Hp → VK → Prop := fun v vs H Q => ∃ P x ds M R, Rep (wd X an P) H M x v ∧ Reps (wd X an P) H M ds vs ∧ RelH (wd X an P) H M ∧ r x ds M R ∧ Cont X an P H M R Q
def BM.id : BM → String
  | .append => "list.append" | .pop => "list.pop" | .extend => "list.extend"
theorem dropLast_rep {F : Wd} {H : Hp} {M : Mp} {ds : List D} {vs : List V} (p : Reps F H M ds vs) : Reps F H M ds.dropLast vs.dropLast := by
  rw [List.dropLast_eq_take, List.dropLast_eq_take, p.length]
  exact p.take _
/-- a list of ours is changed -/
theorem wrL {P : Addr → Prop} {R : QE} {Q : VK} {H : Hp} {M : Mp} (k : Cont X an P H M R Q) (r : RelH (wd X an P) H M) {a : Addr} {ds es : List D} {us : List V} (e : M a = some (.lst ds)) {d : D} (h : R d (mset M a (.lst es))) (p : Reps (wd X an P) H M es us) {v : V} (pd : Rep (wd X an P) H M d v) :
    Q v (upd H a (.lst us)) := by
  have nt := (r.ob _ _ e).notup
  exact k _ _ h _ _ (Ext.wr e nt) (r.wr e ⟨us, upd_same, p.ext (Ext.wr e nt)⟩) (pd.ext (Ext.wr e nt))
theorem bmD_ok (f : BM) : MtM X f.id (liftM X an (bmD f)) := by
  intro pins s σ H v vs vv us Q I rv ru h
  obtain ⟨P, x, ds, M, R, px, p, rh, h, k⟩ := h
  unfold bmD at h
  split at h
  · cases px
    cases p with
    | cons p1 p2 =>
      cases p2
      split at h
      · rename_i e
        obtain ⟨vs, h1, h2⟩ := rh.ob _ _ e
        exact mt_append pins s σ H _ _ _ _ Q I rv ru ⟨_, _, _, rfl, rfl, h1, by rw [← h2.length]; exact h.1, wrL k rh e h.2 (h2.append (.cons p1 .nil)) .non⟩
      · cases h
  · cases px
    cases p
    split at h
    · rename_i e
      split at h
      · rename_i e2
        obtain ⟨vs, h1, h2⟩ := rh.ob _ _ e
        rw [h2.length] at e2
        obtain ⟨w, h3, h4⟩ := h2.get e2
        exact mt_pop pins s σ H _ _ _ _ Q I rv ru ⟨_, _, _, rfl, rfl, h1, h3, wrL k rh e h (dropLast_rep h2) h4⟩
      · cases h
    · cases h
  · cases px
    cases p with
    | cons p1 p2 =>
      cases p2
      split at h
      · rename_i e
        split at h
        · split at h
          · rename_i e2
            obtain ⟨vs, h1, h2⟩ := rh.ob _ _ e
            cases p1
            obtain ⟨us, h3, h4⟩ := rh.ob _ _ e2
            exact mt_extend pins s σ H _ _ _ _ Q I rv ru ⟨_, _, _, _, rfl, rfl, h1, h3, by rw [← h2.length, ← h4.length]; exact h.1, wrL k rh e h.2 (h2.append h4) .non⟩
          · cases h
        · cases h
      · cases h
  · cases h
/-- isinstance(x, T) -/
theorem isi_ty (T : IC) {P : Addr → Prop} {H : Hp} {M : Mp} {x : D} {v : V} {b : Bool} (p : Rep (wd X an P) H M x v) (r : RelH (wd X an P) H M) (h : isiD T M x = some b) : ∃ t, TyX X.K H v (.type t) ∧ kitB t T.id = some b := by
  have frz : ∀ {a : Addr} {vs : List V}, Rd H a (.lst vs) → TyX X.K H (.ref a) (.type "list") := fun h => by
    rcases h with h | ⟨o, h⟩
    · exact .base (.lst h)
    · exact .base (.frz h)
  cases p with
  | non => cases h; exact ⟨_, .base .non, by cases T <;> decide +kernel⟩
  | bl c => cases h; exact ⟨_, .base (.bl c), by cases T <;> decide +kernel⟩
  | int c => cases h; exact ⟨_, .base (.int c), by cases T <;> decide +kernel⟩
  | str c => cases h; exact ⟨_, .base (.str c), by cases T <;> decide +kernel⟩
  | tup h1 h2 =>
    cases h
    refine ⟨"tuple", ?_, by cases T <;> decide +kernel⟩
    rcases h1 with (h1 | ⟨o, h1⟩) | ⟨o, its, n, e, c, _⟩
    · exact .base (.tup h1)
    · exact .fTuple h1
    · exact .kTuple e c
  | lst h1 h2 hp h3 => cases h; exact ⟨_, frz h1, by cases T <;> decide +kernel⟩
  | lstK h1 h3 =>
    cases h
    obtain ⟨o, its, n, e, c, _⟩ := h1
    exact ⟨_, .kList e c, by cases T <;> decide +kernel⟩
  | dic h1 h2 hp h3 =>
    cases h
    refine ⟨"dict", ?_, by cases T <;> decide +kernel⟩
    rcases h1 with h1 | ⟨o, h1⟩
    · exact .base (.dK h1)
    · exact .fDict h1
  | ins h1 h2 hp h3 h4 => cases h
  | glo h1 h2 h3 => cases h
  | ref a =>
    have h' : (match M a with | some (.lst _) => some (decide (T = .list)) | some (.dic _) => some (decide (T = .dict)) | _ => none) = some b := h
    split at h'
    · rename_i e
      cases h'
      obtain ⟨vs, h1, _⟩ := r.ob _ _ e
      exact ⟨_, frz (.inl h1), by cases T <;> decide +kernel⟩
    · rename_i e
      cases h'
      obtain ⟨vs, h1, _⟩ := r.ob _ _ e
      exact ⟨_, .base (.dK h1), by cases T <;> decide +kernel⟩
    · cases h'
end
end DS

/-! DS4: when a text is one of the small language -/
namespace DS
open PySem PySem.Spec PyProof.Rows L2

/-- names by slot, the scope as it is read, the scope as it is written -/
structure CT where
  N : List Str
  sc : Scope
  ws : Scope
  fn : List Str
  mt : List (Str × Str)
  cst : List Str
  exc : List Str
def visB (c : CT) (i : Nat) (x : Str) : Bool :=
  decide (c.N[i]? = some x) && (match c.sc.names.lookup x with
    | some .local => true
    | some .cell => true
    | some .free => true
    | _ => false) && !(x == ("__debug__" : Str)) && !(x == ("__classdict__" : Str))
def glB (c : CT) (x : Str) : Bool := decide (c.sc.names.lookup x = some .globalImplicit) && !(x == ("__debug__" : Str))
def wrB (c : CT) (i : Nat) (x : Str) : Bool :=
  decide (c.N[i]? = some x) && (match c.ws.names.lookup x with
    | some .local => true
    | some .cell => true
    | _ => false)
def isStar : Expr → Bool
  | .Starred _ _ => true
  | _ => false
def isSet : Expr → Bool
  | .Set _ _ _ => true
  | _ => false
def isSlice : Expr → Bool
  | .Slice _ _ _ _ => true
  | _ => false
def isCall0 : Expr → Bool
  | .Call (.Name _ _) [] [] _ => true
  | _ => false
def isTupE : Expr → Bool
  | .Tuple _ _ _ => true
  | _ => false
def noStars : List Expr → Bool
  | [] => true
  | e :: r => !isStar e && noStars r
def blkCT (c : CT) (scope : Scope) : CT := { c with sc := relS scope c.sc, ws := scope }
def BM.at : BM → Str
  | .append => "append" | .pop => "pop" | .extend => "extend"

mutual
def namesT (vs : List Nat) : TG1 → Bool
  | .v i => decide (i ∈ vs)
  | .tup ts => namesTL vs ts
  | .sub _ _ => false
  | .att _ _ => false
def namesTL (vs : List Nat) : TGL → Bool
  | .nil => true
  | .cons t ts => namesT vs t && namesTL vs ts
end
mutual
def chkE : CT → E → Expr → Bool
  | c, .var i, e => match e with
    | .Name x _ => visB c i x
    | _ => false
  | c, .int i, e => match e with
    | .Constant (.int j) _ _ => decide (i = j)
    | _ => false
  | c, .bl i, e => match e with
    | .Constant (.bool j) _ _ => decide (i = j)
    | _ => false
  | c, .non, e => match e with
    | .Constant .none _ _ => true
    | _ => false
  | c, .str i, e => match e with
    | .Constant (.str j) _ _ => decide (i = j)
    | _ => false
  | c, .cst y, e => match e with
    | .Name x _ => glB c x && decide (nth c.cst y = some x)
    | _ => false
  | c, .bin m op a b, e => match e with
    | .BinOp a' op' b' _ => decide (op = op') && chkE c a a' && chkE c b b'
    | _ => false
  | c, .neg a, e => match e with
    | .UnaryOp .USub a' _ => chkE c a a'
    | _ => false
  | c, .cmp op a b, e => match e with
    | .Compare a' [op'] [b'] _ => decide (op = op') && chkE c a a' && chkE c b b' && !isSet b'
    | _ => false
  | c, .chain op op2 a b d, e => match e with
    | .Compare a' [op', op2'] [b', d'] _ => decide (op = op') && decide (op2 = op2') && chkE c a a' && chkE c b b' && chkE c d d' && !isSet b' && !isSet d'
    | _ => false
  | c, .and a b, e => match e with
    | .BoolOp .And [x, y] _ => chkE c a x && chkE c b y
    | .BoolOp .And (x :: y :: z :: r) p => chkE c a x && chkE c b (.BoolOp .And (y :: z :: r) p)
    | _ => false
  | c, .or a b, e => match e with
    | .BoolOp .Or [x, y] _ => chkE c a x && chkE c b y
    | .BoolOp .Or (x :: y :: z :: r) p => chkE c a x && chkE c b (.BoolOp .Or (y :: z :: r) p)
    | _ => false
  | c, .not a, e => match e with
    | .UnaryOp .Not a' _ => chkE c a a'
    | _ => false
  | c, .ife t a b, e => match e with
    | .IfExp t' a' b' _ => okT t && chkE c t t' && chkE c a a' && chkE c b b'
    | _ => false
  | c, .tup es, e => match e with
    | .Tuple es' _ _ => chkL c es es' && decide (es'.length ≤ 1000)
    | _ => false
  | c, .lst m es, e => match e with
    | .List es' _ => chkL c es es' && decide (es'.length ≤ 1000)
    | _ => false
  | c, .ix a i, e => match e with
    | .Subscript a' i' _ => chkE c a a' && chkE c i i' && !isSlice i'
    | _ => false
  | c, .sl m a lo hi, e => match e with
    | .Subscript a' (.Slice lo' hi' none _) _ => chkE c a a' && chkO c lo lo' && chkO c hi hi'
    | _ => false
  | c, .fld a f, e => match e with
    | .Attribute a' f' _ => chkE c a a' && decide (f = f') && !isCall0 a'
    | _ => false
  | c, .call f es, e => match e with
    | .Call (.Name x _) es' [] _ => glB c x && decide (nth c.fn f = some x) && chkL c es es'
    | _ => false
  | c, .meth i a es, e => match e with
    | .Call (.Attribute a' f' apos) es' [] cpos => chkE c a a' && decide ((nth c.mt i).map (·.2) = some f') && chkL c es es' && !isCall0 a' && (apos.endLine == cpos.line) && decide (es'.length < 20)
    | _ => false
  | c, .new z k es, e => match e with
    | .Call (.Name x _) es' [] _ => glB c x && decide (nth c.mt k = some (x, ("__init__" : Str))) && chkL c es es'
    | _ => false
  | c, .blt m f es, e => match e with
    | .Call (.Name x _) (e1 :: es') [] _ => glB c x && decide (x = f.id) && chkL c es (e1 :: es')
    | _ => false
  | c, .bty m f es, e => match e with
    | .Call (.Name x _) (e1 :: es') [] _ => glB c x && decide (x = f.id) && chkL c es (e1 :: es')
    | _ => false
  | c, .bm f o es, e => match e with
    | .Call (.Attribute o' x apos) es' [] cpos => chkE c o o' && decide (x = f.at) && chkL c es es' && !isCall0 o' && (apos.endLine == cpos.line) && decide (es'.length < 20)
    | _ => false
  | c, .isi a T, e => match e with
    | .Call (.Name x _) [a', .Name y _] [] _ => glB c x && decide (x = "isinstance") && chkE c a a' && !isStar a' && glB c y && decide (y = T.id)
    | _ => false
  | c, .lc m own elt tg it cond, e => match e with
    | .ListComp elt' [⟨tg', it', ifs, 0⟩] scope _ => blkC c.N c.sc scope own && namesT (own.map (·.2)) tg && chkT (blkCT c scope) tg tg' && chkI c it tg' it' && chkC (blkCT c scope) cond ifs && chkE (blkCT c scope) elt elt' && !isSet it'
    | _ => false
  | c, .lc2 m own vs1 elt tg it cond tg1 it1 cond1, e => false
def chkL : CT → EL → List Expr → Bool
  | c, .nil, es => match es with
    | [] => true
    | _ => false
  | c, .cons e es, fs => match fs with
    | e' :: es' => chkE c e e' && !isStar e' && chkL c es es'
    | _ => false
def chkO : CT → EO → Option Expr → Bool
  | c, .none, e => match e with
    | none => true
    | _ => false
  | c, .some e, f => match f with
    | some e' => chkE c e e'
    | _ => false
def chkC : CT → EO → List Expr → Bool
  | c, .none, e => match e with
    | [] => true
    | _ => false
  | c, .some e, f => match f with
    | [e'] => okT e && chkE c e e'
    | _ => false
def chkI : CT → IT → Expr → Expr → Bool
  | c, .seq e, tg, e' => chkE c e e'
  | c, .rng1 a, tg, e => match e with
    | .Call (.Name x _) [a'] [] _ => glB c x && decide (x = "range") && chkE c a a' && !isStar a'
    | _ => false
  | c, .rng2 a b, tg, e => match e with
    | .Call (.Name x _) [a', b'] [] _ => glB c x && decide (x = "range") && chkE c a a' && !isStar a' && chkE c b b' && !isStar b'
    | _ => false
  | c, .rng3 a b d, tg, e => match e with
    | .Call (.Name x _) [a', b', d'] [] _ => glB c x && decide (x = "range") && chkE c a a' && !isStar a' && chkE c b b' && !isStar b' && chkE c d d' && !isStar d'
    | _ => false
  | c, .zip a b, tg, e => match e with
    | .Call (.Name x _) [a', b'] [] _ => glB c x && decide (x = "zip") && chkE c a a' && !isStar a' && chkE c b b' && !isStar b' && isTupE tg
    | _ => false
  | c, .enum a, tg, e => match e with
    | .Call (.Name x _) [a'] [] _ => glB c x && decide (x = "enumerate") && chkE c a a' && !isStar a' && isTupE tg
    | _ => false
def chkT : CT → TG1 → Expr → Bool
  | c, .v i, e => match e with
    | .Name x _ => wrB c i x
    | _ => false
  | c, .tup ts, e => match e with
    | .Tuple es _ _ => chkTL c ts es
    | _ => false
  | c, .sub a i, e => match e with
    | .Subscript a' i' _ => chkE c a a' && chkE c i i' && !isSlice i'
    | _ => false
  | c, .att a f, e => match e with
    | .Attribute a' f' _ => chkE c a a' && decide (f = f')
    | _ => false
def chkTL : CT → TGL → List Expr → Bool
  | c, .nil, es => match es with
    | [] => true
    | _ => false
  | c, .cons t ts, es => match es with
    | e :: r => chkT c t e && !isStar e && chkTL c ts r
    | _ => false
def okT : E → Bool
  | .ife _ _ _ => false
  | .and a b => okT a && okT b
  | .or a b => okT a && okT b
  | .not a => okT a
  | _ => true
end
def isComp : Expr → Bool
  | .ListComp _ _ _ _ => true
  | .SetComp _ _ _ _ => true
  | .DictComp _ _ _ _ _ => true
  | _ => false
def isSeqT : Expr → Bool
  | .Tuple _ _ _ => true
  | .List _ _ => true
  | _ => false
def isNameE : Expr → Bool
  | .Name _ _ => true
  | _ => false
/-- the store is not made within the comprehension's own frame -/
def nsw (c : CT) (t v : Expr) : Bool := match t, v with
  | .Name x p, .ListComp _ _ scope pos => !(decide (c.sc.names.lookup x = some .local) && (p.line == pos.line) && !(scope.names.any fun (n, k) => n == x && (k == .local || k == .cell)))
  | _, _ => false
mutual
def chkS : CT → S → Stmt → Bool
  | c, .asg tg e, s => match s with
    | .Assign [t] v _ => chkT c tg t && chkE c e v && !isStar t && !(isSeqT t && isTupE v) && (!(isNameE t && isComp v) || nsw c t v)
    | _ => false
  | c, .asgc i e, s => match s with
    | .Assign [.Name y py] v _ => match e, v with
      | .lc m own elt tg it cond, .ListComp elt' [⟨tg', it', ifs, 0⟩] scope pos => decide (c.N[i]? = some y) && decide (c.sc.kind = .function) && decide (c.sc.names.lookup y = some .local) && (py.line == pos.line) && !(scope.names.any fun (n, k) => n == y && (k == .local || k == .cell)) &&
          blkC c.N c.sc scope own && namesT (own.map (·.2)) tg && chkT (blkCT c scope) tg tg' && chkI c it tg' it' && chkC (blkCT c scope) cond ifs && chkE (blkCT c scope) elt elt' && !isSet it'
      | _, _ => false
    | _ => false
  | c, .par i j a b, s => match s with
    | .Assign [.Tuple [.Name x px, .Name y py] _ _] (.Tuple [a', b'] _ _) _ => wrB c i x && wrB c j y && decide (i ≠ j) && decide (c.sc.names.lookup x = some .local) && decide (c.sc.names.lookup y = some .local) && chkE c a a' && chkE c b b' && !isStar a' && !isStar b' && false
    | _ => false
  | c, .aug i op e, s => match s with
    | .AugAssign (.Name x _) op' v _ => wrB c i x && decide (op = op') && chkE c e v
    | _ => false
  | c, .ex e, s => match s with
    | .Expr v _ => chkE c e v && !isComp v
    | _ => false
  | c, .ret e, s => match s with
    | .Return (some v) _ => chkE c e v
    | _ => false
  | c, .retN, s => match s with
    | .Return none _ => true
    | _ => false
  | c, .ifs t a b, s => match s with
    | .If t' a' b' _ => okT t && chkE c t t' && chkSs c a a' && chkSs c b b'
    | _ => false
  | c, .for tg it b, s => match s with
    | .For t i b' [] _ => chkT c tg t && chkI c it t i && chkSs c b b' && !isSet i
    | _ => false
  | c, .while t b, s => match s with
    | .While t' b' [] _ => okT t && chkE c t t' && chkSs c b b'
    | _ => false
  | c, .pass, s => match s with
    | .Pass _ => true
    | _ => false
  | c, .brk, s => match s with
    | .Break _ => true
    | _ => false
  | c, .cont, s => match s with
    | .Continue _ => true
    | _ => false
  | c, .raise k es, s => match s with
    | .Raise (some (.Call (.Name x _) es' [] _)) none _ => glB c x && decide (nth c.exc k = some x) && chkL c es es'
    | _ => false
  | c, .fz i, s => false
def chkSs : CT → SL → List Stmt → Bool
  | c, .nil, ss => match ss with
    | [] => true
    | _ => false
  | c, .cons (.fz i) r, ss => chkSs c r ss
  | c, .cons s r, ss => match ss with
    | s' :: r' => chkS c s s' && chkSs c r r'
    | _ => false
end
end DS

/-! DS5: loops -/
namespace DS
open PySem PySem.Spec PyProof.Rows L2

/-- later, with more places that are somebody's -/
structure ExtP (P : Addr → Prop) (H : Hp) (M : Mp) (P' : Addr → Prop) (H' : Hp) (M' : Mp) : Prop where
  ext : Ext H M H' M'
  up : ∀ a, P a → P' a
  nw : ∀ a, P' a → ¬ P a → H a = none
theorem ExtP.refl {P : Addr → Prop} {H : Hp} {M : Mp} : ExtP P H M P H M := ⟨.refl, fun _ h => h, fun _ h n => (n h).elim⟩
theorem ExtP.of {P : Addr → Prop} {H H' : Hp} {M M' : Mp} (e : Ext H M H' M') : ExtP P H M P H' M' := ⟨e, fun _ h => h, fun _ h n => (n h).elim⟩
theorem Ext.back {H H' : Hp} {M M' : Mp} (e : Ext H M H' M') {a : Addr} (m : M a = none) (h : H' a = none) : H a = none := by
  cases q : H a with
  | none => rfl
  | some u => rw [(e.keep a u m q).1] at h; cases h
section
variable {K : PySem.W.Frag} {mg : Str → Option Value} {an an' : An} {P P' : Addr → Prop} {H H' : Hp} {M M' : Mp}
theorem ExtP.np (e : ExtP P H M P' H' M') {a : Addr} {u : HO} (n : ¬ P a) (h : Rd H a u) : ¬ P' a := fun q => by
  obtain ⟨o, z⟩ := rdSome h
  rw [e.nw a q n] at z; cases z
mutual
theorem Rep.extP (e : ExtP P H M P' H' M') : ∀ {d : D} {v : V}, Rep ⟨K, mg, P, an⟩ H M d v → Rep ⟨K, mg, P', an'⟩ H' M' d v
  | _, _, .non => .non
  | _, _, .bl b => .bl b
  | _, _, .int i => .int i
  | _, _, .str x => .str x
  | _, _, .tup h r => .tup (SqT.ext e.ext h) (Reps.extP e r)
  | _, _, .lst h m p r => .lst (e.ext.rd _ _ m h).1 (e.ext.rd _ _ m h).2 (e.np p h) (Reps.extP e r)
  | _, _, .lstK h r => .lstK h (Reps.extP e r)
  | _, _, .dic h m p r => .dic (e.ext.rd _ _ m h).1 (e.ext.rd _ _ m h).2 (e.np p h) (RepK.extP e r)
  | _, _, .ins h m p g r => .ins (e.ext.ins _ _ _ _ m h).1 (e.ext.ins _ _ _ _ m h).2 (e.np p (.inl h)) g (RepF.extP e r)
  | _, _, .ref a => .ref a
  | _, _, .glo g r n => .glo g r n
theorem Reps.extP (e : ExtP P H M P' H' M') : ∀ {ds : List D} {vs : List V}, Reps ⟨K, mg, P, an⟩ H M ds vs → Reps ⟨K, mg, P', an'⟩ H' M' ds vs
  | _, _, .nil => .nil
  | _, _, .cons h r => .cons (Rep.extP e h) (Reps.extP e r)
theorem RepK.extP (e : ExtP P H M P' H' M') : ∀ {ds : List (Key × D)} {vs : List (Key × V)}, RepK ⟨K, mg, P, an⟩ H M ds vs → RepK ⟨K, mg, P', an'⟩ H' M' ds vs
  | _, _, .nil => .nil
  | _, _, .cons h r => .cons (Rep.extP e h) (RepK.extP e r)
theorem RepF.extP (e : ExtP P H M P' H' M') : ∀ {ds : List (Str × D)} {vs : List (Str × V)}, RepF ⟨K, mg, P, an⟩ H M ds vs → RepF ⟨K, mg, P', an'⟩ H' M' ds vs
  | _, _, .nil => .nil
  | _, _, .cons h r => .cons (Rep.extP e h) (RepF.extP e r)
end
theorem RepE.extP {ρ : Env1} {σ : L2.St} (e : ExtP P H M P' H' M') (r : RepE ⟨K, mg, P, an⟩ H M ρ σ) : RepE ⟨K, mg, P', an'⟩ H' M' ρ σ :=
  ⟨r.1, fun i d h => let ⟨v, h1, h2⟩ := r.2 i d h; ⟨v, h1, h2.extP e⟩⟩

mutual
theorem Rep.show' (e : ∀ a, P a → P' a) : ∀ {d : D} {v : V}, Rep ⟨K, mg, P', an'⟩ H M d v → Rep ⟨K, mg, P, an⟩ H M d v
  | _, _, .non => .non
  | _, _, .bl b => .bl b
  | _, _, .int i => .int i
  | _, _, .str x => .str x
  | _, _, .tup h r => .tup h (Reps.show' e r)
  | _, _, .lst h m p r => .lst h m (fun q => p (e _ q)) (Reps.show' e r)
  | _, _, .lstK h r => .lstK h (Reps.show' e r)
  | _, _, .dic h m p r => .dic h m (fun q => p (e _ q)) (RepK.show' e r)
  | _, _, .ins h m p g r => .ins h m (fun q => p (e _ q)) g (RepF.show' e r)
  | _, _, .ref a => .ref a
  | _, _, .glo g r n => .glo g r n
theorem Reps.show' (e : ∀ a, P a → P' a) : ∀ {ds : List D} {vs : List V}, Reps ⟨K, mg, P', an'⟩ H M ds vs → Reps ⟨K, mg, P, an⟩ H M ds vs
  | _, _, .nil => .nil
  | _, _, .cons h r => .cons (Rep.show' e h) (Reps.show' e r)
theorem RepK.show' (e : ∀ a, P a → P' a) : ∀ {ds : List (Key × D)} {vs : List (Key × V)}, RepK ⟨K, mg, P', an'⟩ H M ds vs → RepK ⟨K, mg, P, an⟩ H M ds vs
  | _, _, .nil => .nil
  | _, _, .cons h r => .cons (Rep.show' e h) (RepK.show' e r)
theorem RepF.show' (e : ∀ a, P a → P' a) : ∀ {ds : List (Str × D)} {vs : List (Str × V)}, RepF ⟨K, mg, P', an'⟩ H M ds vs → RepF ⟨K, mg, P, an⟩ H M ds vs
  | _, _, .nil => .nil
  | _, _, .cons h r => .cons (Rep.show' e h) (RepF.show' e r)
end
theorem RepO.show' {a : Addr} {o : MO} (e : ∀ a, P a → P' a) (q : RepO ⟨K, mg, P', an'⟩ H M a o) : RepO ⟨K, mg, P, an⟩ H M a o := by
  cases o with
  | lst ds => obtain ⟨vs, h, r⟩ := q; exact ⟨vs, h, r.show' e⟩
  | dic ds => obtain ⟨vs, h, r⟩ := q; exact ⟨vs, h, r.show' e⟩
  | ins c ds => obtain ⟨C, dx, vs, h, g, r⟩ := q; exact ⟨C, dx, vs, h, g, r.show' e⟩
theorem RelH.show' (e : ∀ a, P a → P' a) (z : an.ph P H M) (r : RelH ⟨K, mg, P', an'⟩ H M) : RelH ⟨K, mg, P, an⟩ H M := ⟨fun a o h => (r.ob a o h).show' e, fun a p => r.pv a (e a p), z⟩
theorem RepO.extP {a : Addr} {o : MO} (e : ExtP P H M P' H' M') (k : H' a = H a) (q : RepO ⟨K, mg, P, an⟩ H M a o) : RepO ⟨K, mg, P', an'⟩ H' M' a o := by
  cases o with
  | lst ds => obtain ⟨vs, h, r⟩ := q; exact ⟨vs, k.trans h, r.extP e⟩
  | dic ds => obtain ⟨vs, h, r⟩ := q; exact ⟨vs, k.trans h, r.extP e⟩
  | ins c ds => obtain ⟨C, dx, vs, h, g, r⟩ := q; exact ⟨C, dx, vs, k.trans h, g, r.extP e⟩
/-- the place D0, that is somebody's from now on -/
abbrev hid (P : Addr → Prop) (D0 : Addr) : Addr → Prop := fun a => P a ∨ a = D0
theorem ExtP.hide {D0 : Addr} {o : HO} (h : H D0 = none) : ExtP P H M (hid P D0) (upd H D0 o) M :=
  ⟨Ext.newF h, fun _ p => .inl p, fun a p n => by
    rcases p with p | p
    · exact (n p).elim
    · rw [p]; exact h⟩
theorem RelH.hide {D0 : Addr} {o : HO} (r : RelH ⟨K, mg, P, an⟩ H M) (h : H D0 = none) : RelH ⟨K, mg, hid P D0, .top⟩ (upd H D0 o) M := by
  refine ⟨fun a u e => ?_, fun a p => ?_, trivial⟩
  · have na : a ≠ D0 := by rintro rfl; rw [r.free h] at e; cases e
    exact (r.ob a u e).extP (ExtP.hide h) (upd_ne na)
  · by_cases hb : a = D0
    · subst hb; exact ⟨r.free h, _, upd_same⟩
    · rcases p with p | p
      · rw [upd_ne hb]; exact r.pv a p
      · exact (hb p).elim
/-- what is written at a place that is somebody's is not seen -/
theorem sqt_hid {a D0 : Addr} {xs : List V} {o : HO} (h : SqT K H a xs) (nt : ∀ xs, ¬ Rd H D0 (.tup xs)) : SqT K (upd H D0 o) a xs := by
  rcases h with h | h
  · exact .inl (rdNe h fun e => by subst e; exact nt xs h)
  · exact .inr h
mutual
theorem Rep.priv {D0 : Addr} {o : HO} (p0 : P D0) (nt : ∀ xs, ¬ Rd H D0 (.tup xs)) : ∀ {d : D} {v : V}, Rep ⟨K, mg, P, an⟩ H M d v → Rep ⟨K, mg, P, an⟩ (upd H D0 o) M d v
  | _, _, .non => .non
  | _, _, .bl b => .bl b
  | _, _, .int i => .int i
  | _, _, .str x => .str x
  | _, _, .tup h r => .tup (sqt_hid h nt) (Reps.priv p0 nt r)
  | _, _, .lst h m p r => .lst (rdNe h fun e => by subst e; exact p p0) m p (Reps.priv p0 nt r)
  | _, _, .lstK h r => .lstK h (Reps.priv p0 nt r)
  | _, _, .dic h m p r => .dic (rdNe h fun e => by subst e; exact p p0) m p (RepK.priv p0 nt r)
  | _, _, .ins h m p g r => .ins ((upd_ne fun e => by subst e; exact p p0).trans h) m p g (RepF.priv p0 nt r)
  | _, _, .ref a => .ref a
  | _, _, .glo g r n => .glo g r n
theorem Reps.priv {D0 : Addr} {o : HO} (p0 : P D0) (nt : ∀ xs, ¬ Rd H D0 (.tup xs)) : ∀ {ds : List D} {vs : List V}, Reps ⟨K, mg, P, an⟩ H M ds vs → Reps ⟨K, mg, P, an⟩ (upd H D0 o) M ds vs
  | _, _, .nil => .nil
  | _, _, .cons h r => .cons (Rep.priv p0 nt h) (Reps.priv p0 nt r)
theorem RepK.priv {D0 : Addr} {o : HO} (p0 : P D0) (nt : ∀ xs, ¬ Rd H D0 (.tup xs)) : ∀ {ds : List (Key × D)} {vs : List (Key × V)}, RepK ⟨K, mg, P, an⟩ H M ds vs → RepK ⟨K, mg, P, an⟩ (upd H D0 o) M ds vs
  | _, _, .nil => .nil
  | _, _, .cons h r => .cons (Rep.priv p0 nt h) (RepK.priv p0 nt r)
theorem RepF.priv {D0 : Addr} {o : HO} (p0 : P D0) (nt : ∀ xs, ¬ Rd H D0 (.tup xs)) : ∀ {ds : List (Str × D)} {vs : List (Str × V)}, RepF ⟨K, mg, P, an⟩ H M ds vs → RepF ⟨K, mg, P, an⟩ (upd H D0 o) M ds vs
  | _, _, .nil => .nil
  | _, _, .cons h r => .cons (Rep.priv p0 nt h) (RepF.priv p0 nt r)
end
theorem RelH.priv {D0 : Addr} {o : HO} (r : RelH ⟨K, mg, P, .top⟩ H M) (p0 : P D0) (nt : ∀ xs, ¬ Rd H D0 (.tup xs)) : RelH ⟨K, mg, P, .top⟩ (upd H D0 o) M := by
  refine ⟨fun a u e => ?_, fun a p => ?_, trivial⟩
  · have na : a ≠ D0 := by rintro rfl; rw [(r.pv _ p0).1] at e; cases e
    have q := r.ob a u e
    cases u with
    | lst ds => obtain ⟨vs, h, q⟩ := q; exact ⟨vs, (upd_ne na).trans h, q.priv p0 nt⟩
    | dic ds => obtain ⟨vs, h, q⟩ := q; exact ⟨vs, (upd_ne na).trans h, q.priv p0 nt⟩
    | ins c ds => obtain ⟨C, dx, vs, h, g, q⟩ := q; exact ⟨C, dx, vs, (upd_ne na).trans h, g, q.priv p0 nt⟩
  · by_cases hb : a = D0
    · subst hb; exact ⟨(r.pv _ p).1, _, upd_same⟩
    · rw [upd_ne hb]; exact r.pv a p
theorem ExtP.priv {D0 : Addr} {o : HO} (e : ExtP P H M P' H' M') (h : H D0 = none) : ExtP P H M P' (upd H' D0 o) M' := by
  refine ⟨⟨fun a xs q => rdNe (e.ext.tup a xs q) fun z => ?_, fun a u m q => ?_⟩, e.up, e.nw⟩
  · subst z; obtain ⟨_, z⟩ := rdSome q; rw [h] at z; cases z
  · have na : a ≠ D0 := by rintro rfl; rw [h] at q; cases q
    rw [upd_ne na]; exact e.ext.keep a u m q

mutual
theorem Rep.own {D0 : Addr} {o : MO} : ∀ {d : D} {v : V}, Rep ⟨K, mg, hid P D0, an'⟩ H M d v → Rep ⟨K, mg, P, an⟩ H (mset M D0 o) d v
  | _, _, .non => .non
  | _, _, .bl b => .bl b
  | _, _, .int i => .int i
  | _, _, .str x => .str x
  | _, _, .tup h r => .tup h (Reps.own r)
  | _, _, .lst h m p r => .lst h ((mset_ne fun e => p (.inr e)).trans m) (fun q => p (.inl q)) (Reps.own r)
  | _, _, .lstK h r => .lstK h (Reps.own r)
  | _, _, .dic h m p r => .dic h ((mset_ne fun e => p (.inr e)).trans m) (fun q => p (.inl q)) (RepK.own r)
  | _, _, .ins h m p g r => .ins h ((mset_ne fun e => p (.inr e)).trans m) (fun q => p (.inl q)) g (RepF.own r)
  | _, _, .ref a => .ref a
  | _, _, .glo g r n => .glo g r n
theorem Reps.own {D0 : Addr} {o : MO} : ∀ {ds : List D} {vs : List V}, Reps ⟨K, mg, hid P D0, an'⟩ H M ds vs → Reps ⟨K, mg, P, an⟩ H (mset M D0 o) ds vs
  | _, _, .nil => .nil
  | _, _, .cons h r => .cons (Rep.own h) (Reps.own r)
theorem RepK.own {D0 : Addr} {o : MO} : ∀ {ds : List (Key × D)} {vs : List (Key × V)}, RepK ⟨K, mg, hid P D0, an'⟩ H M ds vs → RepK ⟨K, mg, P, an⟩ H (mset M D0 o) ds vs
  | _, _, .nil => .nil
  | _, _, .cons h r => .cons (Rep.own h) (RepK.own r)
theorem RepF.own {D0 : Addr} {o : MO} : ∀ {ds : List (Str × D)} {vs : List (Str × V)}, RepF ⟨K, mg, hid P D0, an'⟩ H M ds vs → RepF ⟨K, mg, P, an⟩ H (mset M D0 o) ds vs
  | _, _, .nil => .nil
  | _, _, .cons h r => .cons (Rep.own h) (RepF.own r)
end
theorem RelH.own {D0 : Addr} {o : MO} (r : RelH ⟨K, mg, hid P D0, an'⟩ H M) (np : ¬ P D0) (z : an.ph P H (mset M D0 o)) (q : RepO ⟨K, mg, P, an⟩ H (mset M D0 o) D0 o) : RelH ⟨K, mg, P, an⟩ H (mset M D0 o) := by
  refine ⟨fun a u e => ?_, fun a p => ?_, z⟩
  · by_cases hb : a = D0
    · subst hb; rw [mset_same] at e; cases e; exact q
    · rw [mset_ne hb] at e
      have z := r.ob a u e
      cases u with
      | lst ds => obtain ⟨vs, h, z⟩ := z; exact ⟨vs, h, z.own⟩
      | dic ds => obtain ⟨vs, h, z⟩ := z; exact ⟨vs, h, z.own⟩
      | ins c ds => obtain ⟨C, dx, vs, h, g, z⟩ := z; exact ⟨C, dx, vs, h, g, z.own⟩
  · have na : a ≠ D0 := by rintro rfl; exact np p
    rw [mset_ne na]; exact r.pv a (.inl p)
theorem Ext.take {D0 : Addr} {o : MO} (e : Ext H M H' M') (h : H D0 = none) : Ext H M H' (mset M' D0 o) :=
  ⟨e.tup, fun a u m q => by
    have na : a ≠ D0 := by rintro rfl; rw [h] at q; cases q
    rw [mset_ne na]; exact e.keep a u m q⟩
end
theorem ExtP.trans {P P1 P2 : Addr → Prop} {H H1 H2 : Hp} {M M1 M2 : Mp} (a : ExtP P H M P1 H1 M1) (b : ExtP P1 H1 M1 P2 H2 M2) (mm : ∀ c, H c ≠ none → M c ≠ none → H1 c ≠ none) : ExtP P H M P2 H2 M2 := by
  refine ⟨a.ext.trans b.ext, fun c h => b.up c (a.up c h), fun c h n => ?_⟩
  by_cases q : P1 c
  · exact a.nw c q n
  · have z := b.nw c h q
    by_cases m : M c = none
    · exact a.ext.back m z
    · by_cases hh : H c = none
      · exact hh
      · exact (mm c hh m z).elim

/-- the iterator J walks the items xs while g holds -/
structure ItRep (X : Cx) (P0 : Addr → Prop) (H0 : Hp) (M0 : Mp) (J : It) (xs : List D) (g : Mp → Prop) : Prop where
  go : ∀ (i : Nat) (an : An) (P : Addr → Prop) (H : Hp) (M : Mp) (x : D), ExtP P0 H0 M0 P H M → RelH (wd X an P) H M → g M → xs[i]? = some x → J.go i H
  stop : ∀ (i : Nat) (an : An) (P : Addr → Prop) (H : Hp) (M : Mp), ExtP P0 H0 M0 P H M → RelH (wd X an P) H M → g M → xs.length ≤ i → J.stop i H
  yld : ∀ (i : Nat) (an : An) (P : Addr → Prop) (H : Hp) (M : Mp) (x : D) (v : V) (H' : Hp), ExtP P0 H0 M0 P H M → RelH (wd X an P) H M → g M → xs[i]? = some x → J.yld i H v H' → Ext H M H' M ∧ RelH (wd X an P) H' M ∧ Rep (wd X an P) H' M x v
def liftI (X : Cx) (an : An) (r : TID) : TI := fun σ H RR => ∃ P ρ M RD, RepE (wd X an P) H M ρ σ ∧ RelH (wd X an P) H M ∧ r ρ M RD ∧
  ∀ xs g M', RD xs g M' → ∀ J H', Ext H M H' M' → RelH (wd X an P) H' M' → xs.length ≤ sizeLine → ItRep X P H' M' J xs g → RR J H'
abbrev TGD := D → Env1 → Mp → (Env1 → Mp → Prop) → Prop
def liftG (X : Cx) (an : An) (b : TGD) : TG := fun v σ H Q => ∃ P d ρ M RD, Rep (wd X an P) H M d v ∧ RepE (wd X an P) H M ρ σ ∧ RelH (wd X an P) H M ∧ b d ρ M RD ∧
  ∀ ρ' M', RD ρ' M' → ∀ σ' H', Ext H M H' M' → RelH (wd X an P) H' M' → RepE (wd X an P) H' M' ρ' σ' → Q σ' H'
section
variable {X : Cx} {an : An} {P : Addr → Prop}
theorem drop_cons {α : Type} {xs : List α} {i : Nat} {x : α} (h : xs[i]? = some x) : xs.drop i = x :: xs.drop (i + 1) := by
  obtain ⟨hi, e⟩ := List.getElem?_eq_some_iff.mp h
  rw [← e]
  exact List.drop_eq_getElem_cons hi
/-- the loop, from the fold -/
theorem for_fold {b : TGD} {body : TSD} {xs : List D} {g : Mp → Prop} {R : EndsD} {ρ : Env1} {M : Mp} {H : Hp} {σ : L2.St} {J : It} {Dn : Ends} (hE : RepE (wd X an P) H M ρ σ) (hR : RelH (wd X an P) H M) (hJ : ItRep X P H M J xs g)
    (h : foldS b body g xs R ρ M)
    (kn : ∀ ρ' M', R.nx ρ' M' → ∀ σ' H', Ext H M H' M' → RelH (wd X an P) H' M' → RepE (wd X an P) H' M' ρ' σ' → Dn.nx σ' H')
    (kr : ∀ d M', R.rt d M' → ∀ v H', Ext H M H' M' → RelH (wd X an P) H' M' → Rep (wd X an P) H' M' d v → Dn.rt v H') :
    ∃ W : Nat → Nat → L2.St → Hp → Prop, (∃ m, W 0 m σ H) ∧ ∀ i m σ H, W i m σ H →
      (J.stop i H ∧ Dn.nx σ H) ∨ (J.go i H ∧ ∃ N : L2.St → Hp → Prop, (∀ σ' H', N σ' H' → ∃ m', m' < m ∧ W (i + 1) m' σ' H') ∧ ∀ x H', J.yld i H x H' → liftG X an b x σ H' fun σ2 H2 => liftS X an body { Dn with nx := N, ct := N, bk := Dn.nx } σ2 H2) := by
  refine ⟨fun i m σ1 H1 => ∃ ρ1 M1, RepE (wd X an P) H1 M1 ρ1 σ1 ∧ RelH (wd X an P) H1 M1 ∧ Ext H M H1 M1 ∧ i + m = xs.length ∧ foldS b body g (xs.drop i) R ρ1 M1, ⟨xs.length, ρ, M, hE, hR, .refl, by omega, h⟩, ?_⟩
  rintro i m σ1 H1 ⟨ρ1, M1, hE1, hR1, e1, em, h1⟩
  cases hx : xs[i]? with
  | none =>
    have hl : xs.length ≤ i := List.getElem?_eq_none_iff.mp hx
    rw [List.drop_eq_nil_of_le hl] at h1
    exact .inl ⟨hJ.stop i an P H1 M1 (.of e1) hR1 h1.1 hl, kn _ _ h1.2 _ _ e1 hR1 hE1⟩
  | some x =>
    rw [drop_cons hx] at h1
    obtain ⟨hg, h1⟩ := h1
    have hi : i < xs.length := (List.getElem?_eq_some_iff.mp hx).1
    refine .inr ⟨hJ.go i an P H1 M1 x (.of e1) hR1 hg hx, fun σ' H' => ∃ ρ' M', RepE (wd X an P) H' M' ρ' σ' ∧ RelH (wd X an P) H' M' ∧ Ext H M H' M' ∧ foldS b body g (xs.drop (i + 1)) R ρ' M', ?_, ?_⟩
    · rintro σ' H' ⟨ρ', M', a1, a2, a3, a4⟩
      exact ⟨m - 1, by omega, ρ', M', a1, a2, a3, by omega, a4⟩
    · intro v H' hy
      obtain ⟨y1, y2, y3⟩ := hJ.yld i an P H1 M1 x v H' (.of e1) hR1 hg hx hy
      refine ⟨P, x, ρ1, M1, _, y3, hE1.ext y1, y2, h1, fun ρ2 M2 h2 σ2 H2 e2 r2 E2 => ?_⟩
      have e02 := (e1.trans y1).trans e2
      refine ⟨P, ρ2, M2, _, E2, r2, h2, fun ρ3 M3 h3 σ3 H3 e3 r3 E3 => ⟨ρ3, M3, E3, r3, e02.trans e3, h3⟩, fun d M3 h3 v3 H3 e3 r3 p3 => kr _ _ h3 _ _ (e02.trans e3) r3 p3, fun ρ3 M3 h3 σ3 H3 e3 r3 E3 => kn _ _ h3 _ _ (e02.trans e3) r3 E3, fun ρ3 M3 h3 σ3 H3 e3 r3 E3 => ⟨ρ3, M3, E3, r3, e02.trans e3, h3⟩⟩
theorem wipe_rep {F : Wd} {H : Hp} {M : Mp} {ρ : Env1} {σ : L2.St} (r : RepE F H M ρ σ) : ∀ vs : List Nat, RepE F H M (wipeD ρ vs) (wipe σ vs)
  | [] => r
  | v :: vs => (wipe_rep r vs).setN
/-- the comprehension, from the fold -/
theorem lc_fold {b : TGD} {cond : TTD} {elt : TD} {xs : List D} {g : Mp → Prop} {ρ : Env1} {M : Mp} {H : Hp} {σ : L2.St} {vs : List Nat} {J : It} {R : List D → Mp → Prop} {Q : VK} {D0 : Addr}
    (gg : TG) (hgg : ∀ P v H M d ρ1 RD Q', Rep (wd X .top P) H M d v → RepE (wd X .top P) H M ρ1 (wipe σ vs) → RelH (wd X .top P) H M → b d ρ1 M RD → (∀ ρ' M', RD ρ' M' → ∀ σ' H', wipe σ' vs = wipe σ vs → Ext H M H' M' → RelH (wd X .top P) H' M' → RepE (wd X .top P) H' M' ρ' σ' → Q' σ' H') → gg v (wipe σ vs) H Q')
    (hE : RepE (wd X an P) H M ρ σ) (hR : RelH (wd X an P) H M) (hJ : ItRep X P H M J xs g) (hD : H D0 = none) (hz : xs.length ≤ sizeLine)
    (h : foldC b cond elt (wipeD ρ vs) g xs [] M R)
    (k : ∀ ds M', R ds M' → ∀ us H', H' D0 = some (.lst us) → M' D0 = none → Ext H M H' M' → RelH (wd X .top (hid P D0)) H' M' → Reps (wd X .top (hid P D0)) H' M' ds us → Q (.ref D0) H') :
    ∃ W : Nat → Nat → Hp → Prop, (∃ m, W 0 m (upd H D0 (.lst []))) ∧ ∀ i m H, W i m H →
      (J.stop i H ∧ Q (.ref D0) H) ∨ (J.go i H ∧ ∃ Nx : Hp → Prop, (∀ H', Nx H' → ∃ m', m' < m ∧ W (i + 1) m' H') ∧ ∀ x H', J.yld i H x H' → gg x (wipe σ vs) H' fun σ2 H2 => wipe σ2 vs = wipe σ vs ∧ liftT X .top cond σ2 H2 fun bb H3 =>
        if bb = true then lift X .top elt σ2 H3 fun y H4 => ∃ acc, H4 D0 = some (.lst acc) ∧ acc.length < sizeLine ∧ Nx (upd H4 D0 (.lst (acc ++ [y]))) else Nx H3) := by
  refine ⟨fun i m H1 => ∃ M1 ds us, H1 D0 = some (.lst us) ∧ Reps (wd X .top (hid P D0)) H1 M1 ds us ∧ RelH (wd X .top (hid P D0)) H1 M1 ∧ ExtP P H M (hid P D0) H1 M1 ∧ i + m = xs.length ∧ us.length ≤ i ∧ foldC b cond elt (wipeD ρ vs) g (xs.drop i) ds M1 R,
    ⟨xs.length, M, [], [], upd_same, .nil, hR.hide hD, ExtP.hide hD, by omega, Nat.zero_le _, h⟩, ?_⟩
  rintro i m H1 ⟨M1, ds, us, hd, pd, hR1, e1, em, ul, h1⟩
  have p0 : hid P D0 D0 := .inr rfl
  have hm : M1 D0 = none := (hR1.pv D0 p0).1
  cases hx : xs[i]? with
  | none =>
    have hl : xs.length ≤ i := List.getElem?_eq_none_iff.mp hx
    rw [List.drop_eq_nil_of_le hl] at h1
    exact .inl ⟨hJ.stop i _ _ H1 M1 e1 hR1 h1.1 hl, k _ _ h1.2 _ _ hd hm e1.ext hR1 pd⟩
  | some x =>
    rw [drop_cons hx] at h1
    obtain ⟨hg, h1⟩ := h1
    have hi : i < xs.length := (List.getElem?_eq_some_iff.mp hx).1
    refine .inr ⟨hJ.go i _ _ H1 M1 x e1 hR1 hg hx, fun H' => ∃ M' ds us, H' D0 = some (.lst us) ∧ Reps (wd X .top (hid P D0)) H' M' ds us ∧ RelH (wd X .top (hid P D0)) H' M' ∧ ExtP P H M (hid P D0) H' M' ∧ us.length ≤ i + 1 ∧ foldC b cond elt (wipeD ρ vs) g (xs.drop (i + 1)) ds M' R, ?_, ?_⟩
    · rintro H' ⟨M', ds, us, a1, a3, a4, a5, a6, a7⟩
      exact ⟨m - 1, by omega, M', ds, us, a1, a3, a4, a5, by omega, a6, a7⟩
    · intro v H' hy
      obtain ⟨y1, y2, y3⟩ := hJ.yld i _ _ H1 M1 x v H' e1 hR1 hg hx hy
      have hE1 : RepE (wd X .top (hid P D0)) H' M1 ρ σ := (RepE.extP (an' := .top) e1 hE).ext y1
      refine hgg _ v H' M1 x _ _ _ y3 (wipe_rep hE1 vs) y2 h1 fun ρ2 M2 h2 σ2 H2 hw e2 r2 E2 => ⟨hw, ?_⟩
      have e12 := y1.trans e2
      refine ⟨_, ρ2, M2, _, E2, r2, h2, fun bb M3 h3 H3 e3 r3 => ?_⟩
      have e13 := e12.trans e3
      have up : ∀ {Hn : Hp} {Mn : Mp}, Ext H1 M1 Hn Mn → ExtP P H M (hid P D0) Hn Mn := fun q => ⟨e1.ext.trans q, e1.up, e1.nw⟩
      cases bb with
      | true =>
        show lift X .top elt σ2 H3 _
        refine ⟨_, ρ2, M3, _, E2.ext e3, r3, h3, fun d M4 h4 v4 H4 e4 r4 p4 => ?_⟩
        have e14 := e13.trans e4
        have q4 := e14.keep D0 _ hm hd
        have nt : ∀ xs, ¬ Rd H4 D0 (.tup xs) := fun xs z => by
          rcases z with z | ⟨o, z⟩ <;> (rw [q4.1] at z; cases z)
        exact ⟨us, q4.1, by omega, M4, ds ++ [d], us ++ [v4], upd_same, ((pd.ext e14).append (.cons p4 .nil)).priv p0 nt, r4.priv p0 nt, (up e14).priv hD, by simp; omega, h4⟩
      | false =>
        have q3 := e13.keep D0 _ hm hd
        exact ⟨M3, ds, us, q3.1, pd.ext e13, r3, up e13, by omega, h3⟩
end
end DS

/-! DS6: what is walked -/
namespace DS
open PySem PySem.Spec PyProof.Rows L2

section
variable {X : Cx}
theorem PE.len {e : Expr} {t : TE} (h : PE X e t) : PE X e (fun σ H Q => t σ H fun v H' => LenOk X H' → Q v H') :=
  ⟨fun pins s σ H Q I w => thn (h.run pins s σ H _ I w) fun u s1 ⟨v, H1, I1, r, q⟩ => ⟨v, H1, I1, r, q (Inv.lenOk I1)⟩⟩
theorem PA.len {es : List Expr} {t : TA} (h : PA X es t) : PA X es (fun σ H Q => t σ H fun v H' => LenOk X H' → Q v H') :=
  ⟨fun p pins s σ H Q I w => thn (h.run p pins s σ H _ I w) fun u s1 ⟨v, H1, I1, r, q⟩ => ⟨v, H1, I1, r, q (Inv.lenOk I1)⟩⟩
variable {an0 an : An} {P0 P : Addr → Prop} {H0 H : Hp} {M0 M : Mp}
/-- a list stands later -/
theorem lsLater {d : D} {ds : List D} {a : Addr} (h : lsOf M0 d = some ds) (p : Rep (wd X an0 P0) H0 M0 d (.ref a)) (e : ExtP P0 H0 M0 P H M) (r : RelH (wd X an P) H M) (st : stay M0 d M) :
    ∃ vs, SqL X.K H a vs ∧ Reps (wd X an P) H M ds vs := by
  cases p with
  | lst h1 h2 hp h3 => cases h; exact ⟨_, .inl (e.ext.rd _ _ h2 h1).1, h3.extP e⟩
  | lstK h1 h3 => cases h; exact ⟨_, .inr h1, h3.extP e⟩
  | ref a =>
    have h' : (match M0 a with | some (.lst ds) => some ds | _ => none) = some ds := h
    split at h'
    · rename_i e1
      cases h'
      have st' : M a = M0 a := st
      obtain ⟨vs, q1, q2⟩ := r.ob a _ (st'.trans e1)
      exact ⟨vs, .inl (.inl q1), q2⟩
    · cases h'
  | _ => cases h
theorem tpLater {ds : List D} {a : Addr} (p : Rep (wd X an0 P0) H0 M0 (.tup ds) (.ref a)) (e : ExtP P0 H0 M0 P H M) : ∃ vs, SqT X.K H a vs ∧ Reps (wd X an P) H M ds vs := by
  cases p with
  | tup h1 h2 => exact ⟨_, SqT.ext e.ext h1, h2.extP e⟩
theorem Rep.ref_of {ds : List D} {d : D} {v : V} (h : sqOf M0 d = some ds) (p : Rep (wd X an0 P0) H0 M0 d v) (r : RelH (wd X an0 P0) H0 M0) : ∃ a, v = .ref a := by
  obtain ⟨a, vs, e, _⟩ := sqRep p r h
  exact ⟨a, e⟩
theorem it_list {d : D} {ds : List D} {a : Addr} (h : lsOf M0 d = some ds) (p : Rep (wd X an0 P0) H0 M0 d (.ref a)) : ItRep X P0 H0 M0 (Itl X.K a) ds (stay M0 d) := by
  refine ⟨fun i an P H M x e r g hx => ?_, fun i an P H M e r g hl => ?_, fun i an P H M x v H' e r g hx hy => ?_⟩
  · obtain ⟨vs, q1, q2⟩ := lsLater h p e r g
    obtain ⟨v, q3, _⟩ := q2.get hx
    exact ⟨vs, v, q1, q3⟩
  · obtain ⟨vs, q1, q2⟩ := lsLater h p e r g
    exact ⟨vs, q1, by rw [← q2.length]; exact hl⟩
  · obtain ⟨vs, q1, q2⟩ := lsLater h p e r g
    obtain ⟨w, q3, q4⟩ := q2.get hx
    obtain ⟨rfl, hv⟩ := hy
    have := hv vs (q1)
    rw [q3] at this
    cases this
    exact ⟨.refl, r, q4⟩
theorem it_tup {ds : List D} {a : Addr} (p : Rep (wd X an0 P0) H0 M0 (.tup ds) (.ref a)) {g : Mp → Prop} : ItRep X P0 H0 M0 (Itt X.K a) ds g := by
  refine ⟨fun i an P H M x e r g hx => ?_, fun i an P H M e r g hl => ?_, fun i an P H M x v H' e r g hx hy => ?_⟩
  · obtain ⟨vs, q1, q2⟩ := tpLater (an := an) p e
    obtain ⟨v, q3, _⟩ := q2.get hx
    exact ⟨vs, v, q1, q3⟩
  · obtain ⟨vs, q1, q2⟩ := tpLater (an := an) p e
    exact ⟨vs, q1, by rw [← q2.length]; exact hl⟩
  · obtain ⟨vs, q1, q2⟩ := tpLater (an := an) p e
    obtain ⟨w, q3, q4⟩ := q2.get hx
    obtain ⟨rfl, hv⟩ := hy
    have := hv vs q1
    rw [q3] at this
    cases this
    exact ⟨.refl, r, q4⟩
theorem rgD_get {lo c : Int} {n i : Nat} {x : D} (h : (rgD lo c n)[i]? = some x) : i < n ∧ x = .int (lo + (i : Int) * c) := by
  unfold rgD at h
  rw [List.getElem?_map] at h
  cases e : (List.range n)[i]? with
  | none => rw [e] at h; cases h
  | some j =>
    rw [e] at h
    obtain ⟨hi, ej⟩ := List.getElem?_eq_some_iff.mp e
    rw [List.length_range] at hi
    rw [List.getElem_range] at ej
    subst ej
    cases h
    exact ⟨hi, rfl⟩
theorem rgD_len (lo c : Int) (n : Nat) : (rgD lo c n).length = n := by unfold rgD; rw [List.length_map, List.length_range]
theorem it_rng {lo : Int} {n : Nat} {g : Mp → Prop} : ItRep X P0 H0 M0 (Itr lo n) (rgD lo 1 n) g := by
  refine ⟨fun i an P H M x e r g hx => (rgD_get hx).1, fun i an P H M e r g hl => by rw [rgD_len] at hl; exact hl, fun i an P H M x v H' e r g hx hy => ?_⟩
  obtain ⟨rfl, rfl⟩ := hy
  obtain ⟨_, rfl⟩ := rgD_get hx
  rw [Int.mul_one]
  exact ⟨.refl, r, .int _⟩
theorem it_rngC {lo c : Int} {n : Nat} {g : Mp → Prop} : ItRep X P0 H0 M0 (Itc lo c n) (rgD lo c n) g := by
  refine ⟨fun i an P H M x e r g hx => (rgD_get hx).1, fun i an P H M e r g hl => by rw [rgD_len] at hl; exact hl, fun i an P H M x v H' e r g hx hy => ?_⟩
  obtain ⟨rfl, rfl⟩ := hy
  obtain ⟨_, rfl⟩ := rgD_get hx
  exact ⟨.refl, r, .int _⟩
theorem zipD_get : ∀ {xs ys : List D} {i : Nat} {d : D}, (zipD xs ys)[i]? = some d → ∃ x y, xs[i]? = some x ∧ ys[i]? = some y ∧ d = .tup [x, y]
  | [], _, _, _, h => by simp [zipD] at h
  | _ :: _, [], _, _, h => by simp [zipD] at h
  | x :: xs, y :: ys, 0, d, h => by
    simp only [zipD, List.getElem?_cons_zero, Option.some.injEq] at h
    exact ⟨x, y, rfl, rfl, h.symm⟩
  | x :: xs, y :: ys, i + 1, d, h => by
    simp only [zipD, List.getElem?_cons_succ] at h
    obtain ⟨a, b, h1, h2, h3⟩ := zipD_get h
    exact ⟨a, b, by simpa using h1, by simpa using h2, h3⟩
theorem zipD_len : ∀ (xs ys : List D), (zipD xs ys).length = min xs.length ys.length
  | [], _ => by simp [zipD]
  | _ :: _, [] => by simp [zipD]
  | x :: xs, y :: ys => by simp [zipD, zipD_len xs ys]
theorem enumD_get : ∀ {n : Nat} {xs : List D} {i : Nat} {d : D}, (enumD n xs)[i]? = some d → ∃ x, xs[i]? = some x ∧ d = .tup [.int ((n + i : Nat) : Int), x]
  | _, [], _, _, h => by simp [enumD] at h
  | n, x :: xs, 0, d, h => by
    simp only [enumD, List.getElem?_cons_zero, Option.some.injEq] at h
    exact ⟨x, rfl, h.symm⟩
  | n, x :: xs, i + 1, d, h => by
    simp only [enumD, List.getElem?_cons_succ] at h
    obtain ⟨a, h1, h3⟩ := enumD_get h
    exact ⟨a, by simpa using h1, by rw [h3, show n + 1 + i = n + (i + 1) from by omega]⟩
theorem enumD_len : ∀ (n : Nat) (xs : List D), (enumD n xs).length = xs.length
  | _, [] => rfl
  | n, _ :: xs => by simp [enumD, enumD_len (n + 1) xs]
/-- a new pair -/
theorem pair_new (r : RelH (wd X an P) H M) {T : Addr} (nT : H T = none) {x y : D} {v w : V} (px : Rep (wd X an P) H M x v) (py : Rep (wd X an P) H M y w) :
    Ext H M (upd H T (.tup [v, w])) M ∧ RelH (wd X an P) (upd H T (.tup [v, w])) M ∧ Rep (wd X an P) (upd H T (.tup [v, w])) M (.tup [x, y]) (.ref T) :=
  ⟨Ext.newF nT, r.newF nT, .tup (SqT.of upd_same) (.cons (px.ext (Ext.newF nT)) (.cons (py.ext (Ext.newF nT)) .nil))⟩
theorem it_zip {d e : D} {ds es : List D} {a b : Addr} (h : lsOf M0 d = some ds) (h' : lsOf M0 e = some es) (p : Rep (wd X an0 P0) H0 M0 d (.ref a)) (p' : Rep (wd X an0 P0) H0 M0 e (.ref b)) :
    ItRep X P0 H0 M0 (Itz X.K a b) (zipD ds es) (fun M' => stay M0 d M' ∧ stay M0 e M') := by
  refine ⟨fun i an P H M x e r g hx => ?_, fun i an P H M e r g hl => ?_, fun i an P H M x v H' e r g hx hy => ?_⟩
  · obtain ⟨x1, y1, z1, z2, _⟩ := zipD_get hx
    obtain ⟨vs, q1, q2⟩ := lsLater h p e r g.1
    obtain ⟨us, q3, q4⟩ := lsLater h' p' e r g.2
    obtain ⟨v, q5, _⟩ := q2.get z1
    obtain ⟨w, q6, _⟩ := q4.get z2
    exact ⟨vs, us, v, w, q1, q3, q5, q6⟩
  · obtain ⟨vs, q1, q2⟩ := lsLater h p e r g.1
    obtain ⟨us, q3, q4⟩ := lsLater h' p' e r g.2
    rw [zipD_len] at hl
    exact ⟨vs, us, q1, q3, by rw [← q2.length, ← q4.length]; omega⟩
  · obtain ⟨x1, y1, z1, z2, rfl⟩ := zipD_get hx
    obtain ⟨vs, q1, q2⟩ := lsLater h p e r g.1
    obtain ⟨us, q3, q4⟩ := lsLater h' p' e r g.2
    obtain ⟨v1, q5, r1⟩ := q2.get z1
    obtain ⟨w1, q6, r2⟩ := q4.get z2
    obtain ⟨T, a1, b1, rfl, nT, rfl, f1, f2⟩ := hy
    have w1' := f1 vs q1
    have w2' := f2 us q3
    rw [q5] at w1'; rw [q6] at w2'
    cases w1'; cases w2'
    exact pair_new r nT r1 r2
theorem it_zipT {ds es : List D} {a b : Addr} (p : Rep (wd X an0 P0) H0 M0 (.tup ds) (.ref a)) (p' : Rep (wd X an0 P0) H0 M0 (.tup es) (.ref b)) {g : Mp → Prop} :
    ItRep X P0 H0 M0 (RZ.ItzT X.K a b) (zipD ds es) g := by
  refine ⟨fun i an P H M x e r g hx => ?_, fun i an P H M e r g hl => ?_, fun i an P H M x v H' e r g hx hy => ?_⟩
  · obtain ⟨x1, y1, z1, z2, _⟩ := zipD_get hx
    obtain ⟨vs, q1, q2⟩ := tpLater (an := an) p e
    obtain ⟨us, q3, q4⟩ := tpLater (an := an) p' e
    obtain ⟨v, q5, _⟩ := q2.get z1
    obtain ⟨w, q6, _⟩ := q4.get z2
    exact ⟨vs, us, v, w, q1, q3, q5, q6⟩
  · obtain ⟨vs, q1, q2⟩ := tpLater (an := an) p e
    obtain ⟨us, q3, q4⟩ := tpLater (an := an) p' e
    rw [zipD_len] at hl
    exact ⟨vs, us, q1, q3, by rw [← q2.length, ← q4.length]; omega⟩
  · obtain ⟨x1, y1, z1, z2, rfl⟩ := zipD_get hx
    obtain ⟨vs, q1, q2⟩ := tpLater (an := an) p e
    obtain ⟨us, q3, q4⟩ := tpLater (an := an) p' e
    obtain ⟨v1, q5, r1⟩ := q2.get z1
    obtain ⟨w1, q6, r2⟩ := q4.get z2
    obtain ⟨T, a1, b1, rfl, nT, rfl, f1, f2⟩ := hy
    have w1' := f1 vs q1
    have w2' := f2 us q3
    rw [q5] at w1'; rw [q6] at w2'
    cases w1'; cases w2'
    exact pair_new r nT r1 r2
theorem it_enum {d : D} {ds : List D} {a : Addr} (h : lsOf M0 d = some ds) (p : Rep (wd X an0 P0) H0 M0 d (.ref a)) : ItRep X P0 H0 M0 (Ite X.K a) (enumD 0 ds) (stay M0 d) := by
  refine ⟨fun i an P H M x e r g hx => ?_, fun i an P H M e r g hl => ?_, fun i an P H M x v H' e r g hx hy => ?_⟩
  · obtain ⟨x1, z1, _⟩ := enumD_get hx
    obtain ⟨vs, q1, q2⟩ := lsLater h p e r g
    obtain ⟨v, q3, _⟩ := q2.get z1
    exact ⟨vs, v, q1, q3⟩
  · obtain ⟨vs, q1, q2⟩ := lsLater h p e r g
    rw [enumD_len] at hl
    exact ⟨vs, q1, by rw [← q2.length]; exact hl⟩
  · obtain ⟨x1, z1, rfl⟩ := enumD_get hx
    obtain ⟨vs, q1, q2⟩ := lsLater h p e r g
    obtain ⟨w, q3, q4⟩ := q2.get z1
    obtain ⟨T, b1, rfl, nT, rfl, f1⟩ := hy
    have w1' := f1 vs q1
    rw [q3] at w1'
    cases w1'
    rw [Nat.zero_add]
    exact pair_new r nT (.int _) q4
/-- list or tuple -/
def iSeqB (X : Cx) (te : TE) : TI := fun σ H R => te σ H fun x H1 => (∃ a vs, x = .ref a ∧ SqL X.K H1 a vs ∧ R (Itl X.K a) H1) ∨ ∃ a vs, x = .ref a ∧ SqT X.K H1 a vs ∧ R (Itt X.K a) H1
theorem pi_seqB {tg l : Expr} {tl : TE} (hl : PE X l tl) : PI X tg l (iSeqB X tl) := by
  refine ⟨fun pins s σ H R I h => ?_⟩
  refine thn (hl.run pins s σ H _ I h) fun v s1 ⟨x, H1, I1, r1, q1⟩ => ?_
  rcases q1 with ⟨a, xs, e, hq, q⟩ | ⟨a, xs, e, hq, q⟩
  · subst e
    cases r1
    obtain ⟨its, rv, p, hz⟩ := I1.list hq
    refine wpAny_pyIter_list p.isList ?_
    refine ⟨s1.heap.objs.size, [s1.heap.objs.size], _, _, H1, rfl, I1.kept (t' := s1.toks) fun b o e => Heap.get?_push_of_some _ e, turn_list a _, ⟨_, Heap.get?_push_size _ rfl, rfl, rfl⟩, fun b hb => ?_, q⟩
    have e : b = s1.heap.objs.size := by simpa using hb
    subst e
    exact I1.fpOk (Nat.le_refl _) (I1.hok.fresh (Nat.le_refl _))
  · subst e
    cases r1
    obtain ⟨its, rv, p, hz⟩ := I1.tuple hq
    refine wpAny_pyIter_tuple (show s1.heap.IsTuple a its.toArray from p) ?_
    refine ⟨s1.heap.objs.size, [s1.heap.objs.size], _, _, H1, rfl, I1.kept (t' := s1.toks) fun b o e => Heap.get?_push_of_some _ e, turn_tuple a _, ⟨_, Heap.get?_push_size _ rfl, rfl, rfl⟩, fun b hb => ?_, q⟩
    have e : b = s1.heap.objs.size := by simpa using hb
    subst e
    exact I1.fpOk (Nat.le_refl _) (I1.hok.fresh (Nat.le_refl _))
theorem PI.imp {tg e : Expr} {t t' : TI} (h : PI X tg e t) (q : ∀ σ H R, t' σ H R → t σ H R) : PI X tg e t' := ⟨fun pins s σ H R I w => h.run pins s σ H R I (q σ H R w)⟩
end
end DS

/-! DS7: expressions keep their word -/
namespace DS
open PySem PySem.Spec PyProof.Rows L2

def bnames : List Str := ["len", "all", "any", "sum", "abs", "max", "min", "sorted", "int", "tuple", "list", "str", "bool", "dict", "isinstance", "range", "zip", "enumerate"]
/-- what is wanted of an exception, over data -/
def liftX (X : Cx) (an : An) (W : XW) : WX := fun cls dd σ H => ∃ P x ρ M, RepE (wd X an P) H M ρ σ ∧ RelH (wd X an P) H M ∧ RepX (wd X an P) H M x cls dd ∧ W x ρ M
/-- a def with its promise -/
structure FnD (X : Cx) (n : Nat) (sp : SpD) (j : Nat) (f : Addr) : Prop where
  ok : ∃ k fd ps, FnOk X.prog X.w X.K X.mg X.base (L2.CX X.prog X.w) k f fd ps (liftSp X.K X.mg n sp) ∧ Room (k + j) X.A ∧ Binds X.K fd ps []
  kp : PySem.W.keepIn X.K (.ref f) = true
/-- an own exception class over ValueError, without fields -/
structure ExcA (X : Cx) (k : Str) (C : Addr) : Prop where
  g : X.mg k = some (.ref C)
  x : PySem.W.excIn X.K C [.type "ValueError", .type "Exception", .type "BaseException", .type "object"] "ValueError.__new__" = true
  kp : PySem.W.keepIn X.K (.ref C) = true
  sb : PySem.W.subIn X.K (.ref C) (.type "BaseException") = some true
  ty : PySem.W.typeIn X.K (.ref C) = some (.type "type")
def ExcF (X : Cx) (k : Str) (fs : List Str) : Prop := (fs = [] ∧ ∃ C, ExcA X k C)
structure Good (G : Gam) (an : An) (W : XW) (c : CT) (X : Cx) : Prop where
  N : X.N = c.N
  sc : X.env.scope = c.sc
  ws : ∀ x, c.ws.names.lookup x = some .local ∨ c.ws.names.lookup x = some .cell → Loc X.env.scope x ∧ (X.fn x = true ∨ X.env.scope.names.lookup x = some .local)
  nd : X.N.Nodup
  calm : X.calm = true
  room : ∃ k, Room k X.A
  blt : ∀ x ∈ bnames, X.mg x = none
  cst : ∀ i x d, nth c.cst i = some x → nth G.cst i = some d → ∃ v u, X.mg x = some u ∧ RelV v u ∧ ∀ an P H M, Rep (wd X an P) H M d v
  fn : ∀ i x n sp, nth c.fn i = some x → nth G.fn i = some (n, sp) → ∃ f, X.mg x = some (.ref f) ∧ FnD X n sp 0 f
  mt : ∀ i k m k' m' n sp, nth c.mt i = some (k', m') → nth G.mt i = some (k, m, n, sp) → k' = k ∧ m' = m ∧ ∃ C f, X.mg k = some (.ref C) ∧ Cls X.K C ∧ Meth X.K C m f ∧ FnD X n sp 1 f ∧ (m = "__init__" → Mk X.K C f)
  fl : ∀ k f, (k, f) ∈ G.fl → ∃ C, X.mg k = some (.ref C) ∧ Cls X.K C ∧ NoAttr X.K C f
  exc : ∀ i k k' fs, nth c.exc i = some k' → nth G.exc i = some (k, fs) → k' = k ∧ ExcF X k fs
  tk : Takes X (liftX X an W)
section
variable {G : Gam} {an : An} {W : XW} {c : CT} {X : Cx}
theorem Good.units (g : Good G an W c X) : X.A.units + 65 < cLine := by
  obtain ⟨k, hr⟩ := g.room
  have := hr.un
  omega
theorem gl_of (g : Good G an W c X) {x : Str} (h : glB c x = true) : Gl X x ∧ (x == ("__debug__" : Str)) = false := by
  unfold glB at h
  simp only [Bool.and_eq_true, decide_eq_true_eq, Bool.not_eq_true'] at h
  refine ⟨?_, h.2⟩
  show X.env.scope.names.lookup x = _
  rw [g.sc]; exact h.1
theorem vis_of (g : Good G an W c X) {i : Nat} {x : Str} (h : visB c i x = true) : X.N[i]? = some x ∧ Vis X.env.scope x ∧ (x == ("__debug__" : Str)) = false ∧ (x == ("__classdict__" : Str)) = false := by
  unfold visB at h
  simp only [Bool.and_eq_true, decide_eq_true_eq, Bool.not_eq_true'] at h
  obtain ⟨⟨⟨h1, h2⟩, h3⟩, h4⟩ := h
  refine ⟨by rw [g.N]; exact h1, ?_, h3, h4⟩
  unfold Vis
  rw [g.sc]
  split at h2
  · rename_i e; exact .inl e
  · rename_i e; exact .inr (.inl e)
  · rename_i e; exact .inr (.inr e)
  · cases h2
theorem wr_of (g : Good G an W c X) {i : Nat} {x : Str} (h : wrB c i x = true) : X.N[i]? = some x ∧ Loc X.env.scope x ∧ (X.fn x = true ∨ X.env.scope.names.lookup x = some .local) := by
  unfold wrB at h
  simp only [Bool.and_eq_true, decide_eq_true_eq] at h
  refine ⟨by rw [g.N]; exact h.1, g.ws x ?_⟩
  have h2 := h.2
  split at h2
  · rename_i e; exact .inl e
  · rename_i e; exact .inr e
  · cases h2
theorem slot_get : ∀ {ρ : Env1} {i : Nat} {d : D}, slot ρ i = some d → ρ[i]? = some (some d)
  | [], _, _, h => by cases h
  | x :: r, 0, d, h => by
    have h' : x = some d := h
    simp [h']
  | x :: r, i + 1, d, h => by
    have h' : slot r i = some d := h
    simpa using slot_get h'
theorem star_of {e : Expr} {es : List Expr} {env : Env} (h : (!isStar e) = true) : starEach (e :: es) env = (false, eval e env) :: starEach es env := by
  cases e <;> first | rfl | (exact (Bool.false_ne_true h).elim)
theorem stars_none {env : Env} {pos : Pos} : ∀ {es : List Expr}, noStars es = true → (backTo pos (starEach es env)).any (·.1) = false
  | [], _ => rfl
  | e :: es, h => by
    unfold noStars at h
    rw [Bool.and_eq_true] at h
    rw [star_of h.1]
    show (false || (backTo pos (starEach es env)).any (·.1)) = false
    rw [stars_none h.2]; rfl
theorem chkL_stars : ∀ {c : CT} {es : EL} {fs : List Expr}, chkL c es fs = true → noStars fs = true
  | c, .nil, fs, h => by
    cases fs with
    | nil => rfl
    | cons _ _ => cases h
  | c, .cons e es, fs, h => by
    cases fs with
    | nil => cases h
    | cons f fs =>
      unfold chkL at h
      simp only [Bool.and_eq_true] at h
      unfold noStars
      rw [h.1.2, chkL_stars h.2]; rfl
theorem base_of {e : Expr} {f : Str} {env : Env} {w : Sem Value} (h : (!isCall0 e) = true) : attributeBase e f env w = w := by
  unfold attributeBase
  split
  · exact (Bool.false_ne_true h).elim
  · rfl
theorem marks_of {op : CmpOp} {e : Expr} (h : (!isSet e) = true) : behindInMarks op e = false := by
  cases e <;> first | rfl | (exact (Bool.false_ne_true h).elim)
theorem folded_of {e : Expr} {env : Env} {x : Value} (h : (!isSet e) = true) : foldedSetIterable e env x = pure x := by
  cases e <;> first | rfl | (exact (Bool.false_ne_true h).elim)
theorem plainIx_of {e : Expr} (h : (!isSlice e) = true) : PlainIx e := by
  intro o i
  cases e <;> first | rfl | (exact (Bool.false_ne_true h).elim)
theorem assign_sub {o i : Expr} {pos : Pos} {env : Env} (h : (!isSlice i) = true) : ∀ v, assign (.Subscript o i pos) env v = (do
      let ov ← holding [v] (eval o env)
      let iv ← holding [v, ov] (eval i env)
      standAt pos
      holding [v, ov, iv] (setItem ov iv v)
      release [v, ov, iv] []) := by
  intro v
  cases i <;> first | rfl | (exact (Bool.false_ne_true h).elim)
end
end DS

/-! DS8: calls whose exceptions are wished for at the caller's slots -/
namespace DS
open PySem PySem.Spec PyProof.Rows L2
section
variable {X : Cx} {CX : CXT} {k : Nat} {f C : Addr} {fd : FuncData} {ps : List Str} {sp : Sp} {E : L2.St → XK} {x m : Str} {p pos apos : Pos} {e o : Expr} {es : List Expr} {ta : TE} {t : TA}
theorem pe_callS0 (F : FnOk X.prog X.w X.K X.mg X.base CX k f fd ps sp) (hr : Room k X.A) (hg : Gl X x) (hm : X.mg x = some (.ref f)) (hk : PySem.W.keepIn X.K (.ref f) = true) (hb : Binds X.K fd ps []) (hx : ∀ σ, PassesAt CX X σ (E σ))
    (hdb : (x == ("__debug__" : Str)) = false) : PE X (.Call (.Name x p) [] [] pos) (tCallS sp E tNil) := by
  refine ⟨fun pins s σ H Q I h => ?_⟩
  refine wpAny_Call_Name_kw (ld_glob I hg hm ?_ hdb)
  exact PySem.W.callWith_K0 I.kIn hk (run_fnS (us := []) F hr hb (hx σ) I .nil h)
def tMethS (C : Addr) (m : Str) (sp : Sp) (E : L2.St → XK) (ta : TE) (t : TA) : TE := fun σ H Q => ta σ H fun x H1 => ∃ a dx fs, x = .ref a ∧ H1 a = some (.ins C dx fs) ∧ fs.lookup m = none ∧
  t σ H1 fun vs H2 => sp (x :: vs) H2 Q (E σ)
theorem pe_methS {pl : Sem Bool} (he : PE X o ta) (c : Cls X.K C) (hm : Meth X.K C m f) (F : FnOk X.prog X.w X.K X.mg X.base CX k f fd ps sp) (hr : Room k X.A) (hb : Binds X.K fd ps []) (hx : ∀ σ, PassesAt CX X σ (E σ)) (ha : PA X (e :: es) t)
    (hst : starEach (e :: es) X.env = (false, eval e X.env) :: starEach es X.env) (hpl : (backTo pos (starEach es X.env)).any (·.1) = false)
    (ht : eval (.Call (.Attribute o m apos) (e :: es) [] pos) X.env = (do
      let ov ← eval o X.env
      standAt apos.atName
      let (f, first) ← holding [ov] (getMethod ov m pl)
      callWith pos f first (backTo pos (starEach (e :: es) X.env)) (backToKw pos (keywordEach [] X.env)))) :
    PE X (.Call (.Attribute o m apos) (e :: es) [] pos) (tMethS C m sp E ta t) := by
  refine ⟨fun pins s σ H Q I h => ?_⟩
  refine PySem.W.methodCall_KW (pl := pl) (thn (he.run pins s σ H _ I h) fun u s1 ⟨x, H1, I1, rx, a, dx, fs, ex, ea, l, q⟩ => ?_) ht
  subst ex
  obtain rfl : u = Value.ref a := rx
  refine getmeth_ok I1 ea c hm l ?_
  refine PySem.W.callWith_K (first := [.ref a]) (h₀ := X.base) I.ok.mod.kin hm.kp (thn (ha.run pos pins s1 σ H1 _ I1 q) fun us s2 ⟨vs, H2, I2, r, q2⟩ => ⟨I2.kIn, ?_⟩) hst hpl
  exact run_fnS (us := .ref a :: us) (vs := .ref a :: vs) F hr hb (hx σ) I2 (.cons rfl r) q2
theorem pe_methS0 {pl : Sem Bool} (he : PE X o ta) (c : Cls X.K C) (hm : Meth X.K C m f) (F : FnOk X.prog X.w X.K X.mg X.base CX k f fd ps sp) (hr : Room k X.A) (hb : Binds X.K fd ps []) (hx : ∀ σ, PassesAt CX X σ (E σ))
    (ht : eval (.Call (.Attribute o m apos) [] [] pos) X.env = (do
      let ov ← eval o X.env
      standAt apos.atName
      let (f, first) ← holding [ov] (getMethod ov m pl)
      callWith pos f first (backTo pos (starEach [] X.env)) (backToKw pos (keywordEach [] X.env)))) :
    PE X (.Call (.Attribute o m apos) [] [] pos) (tMethS C m sp E ta tNil) := by
  refine ⟨fun pins s σ H Q I h => ?_⟩
  refine PySem.W.methodCall_KW (pl := pl) (thn (he.run pins s σ H _ I h) fun u s1 ⟨x, H1, I1, rx, a, dx, fs, ex, ea, l, q⟩ => ?_) ht
  subst ex
  obtain rfl : u = Value.ref a := rx
  refine getmeth_ok I1 ea c hm l ?_
  exact PySem.W.callWith_K0 (first := [.ref a]) I1.kIn hm.kp (run_fnS (us := [.ref a]) (vs := [.ref a]) F hr hb (hx σ) I1 (.cons rfl .nil) q)
def tMakeS (C : Addr) (sp : Sp) (E : L2.St → XK) (t : TA) : TE := fun σ H Q => t σ H fun vs H1 => ∀ x dx, H1 x = none → H1 dx = none → dx ≠ x →
  sp (.ref x :: vs) (upd (upd H1 dx (.own x)) x (.ins C dx [])) (fun v H2 => v = .non ∧ Q (.ref x) H2) (E σ)
theorem run_makeS {pins : List (Addr × Obj)} {σ : L2.St} {H : Hp} {s : Shared} {Q : VK} {us : List Value} {vs : List V} {E : XK} (M : Mk X.K C f) (F : FnOk X.prog X.w X.K X.mg X.base CX k f fd ps sp) (hr : Room (k + 1) X.A) (hb : Binds X.K fd ps [])
    (hx : PassesAt CX X σ E) (I : Inv X pins σ H s) (r : Vals vs us)
    (h : ∀ x dx, H x = none → H dx = none → dx ≠ x → sp (.ref x :: vs) (upd (upd H dx (.own x)) x (.ins C dx [])) (fun v H2 => v = .non ∧ Q (.ref x) H2) E) :
    wpAny (model X.prog X.w) X.A (call (.ref C) us) (EP X pins σ Q) X.xe s := by
  have hq := h (s.heap.objs.size + 1) s.heap.objs.size (I.hok.fresh (Nat.le_succ _)) (I.hok.fresh (Nat.le_refl _)) (Nat.ne_of_lt (Nat.lt_succ_self _))
  have I2 := Inv.made (C := C) I
  have r2 : Vals (V.ref (s.heap.objs.size + 1) :: vs) (Value.ref (s.heap.objs.size + 1) :: us) := .cons rfl r
  have hl : ((Value.ref (s.heap.objs.size + 1) :: us) ++ []).length = ps.length := by
    have e := r2.length
    rw [F.len _ _ _ _ hq] at e
    rw [List.append_nil]
    exact e.symm
  refine wpAny_call (make_map (f := f) I.kIn M.makes M.init (beq_iff_eq.mp M.fn) (codeAny_mono (F.run _ X.stack _ _ ⟨Value.ref (s.heap.objs.size + 1) :: us, []⟩ ((Value.ref (s.heap.objs.size + 1) :: us) ++ []) _ _ E ((hr.make C us []).mono (Nat.le_refl _))
    (I2.env0.make C us []) (hb _ (Value.ref (s.heap.objs.size + 1) :: us) I2.kIn hl) (by rw [List.append_nil]; exact r2) hq) fun r s' hq' => ?_))
  cases r with
  | error e => exact hx pins _ _ e s' I2 hq'
  | ok fl =>
    cases fl with
    | ret u =>
      obtain ⟨v, H', I3, rv, ev, q3⟩ := I2.after hq'
      subst ev
      exact ⟨rv, ⟨V.ref (s.heap.objs.size + 1), H', I3, rfl, q3⟩⟩
    | next => exact False.elim hq'
    | brk => exact False.elim hq'
    | cont => exact False.elim hq'
theorem pe_makeS (M : Mk X.K C f) (F : FnOk X.prog X.w X.K X.mg X.base CX k f fd ps sp) (hr : Room (k + 1) X.A) (hg : Gl X x) (hm : X.mg x = some (.ref C)) (hb : Binds X.K fd ps []) (hx : ∀ σ, PassesAt CX X σ (E σ))
    (ha : PA X (e :: es) t) (hdb : (x == ("__debug__" : Str)) = false) (he : starEach (e :: es) X.env = (false, eval e X.env) :: starEach es X.env) (hpl : (backTo pos (starEach es X.env)).any (·.1) = false) :
    PE X (.Call (.Name x p) (e :: es) [] pos) (tMakeS C sp E t) := by
  refine ⟨fun pins s σ H Q I h => ?_⟩
  refine wpAny_Call_Name_kw (ld_glob I hg hm ?_ hdb)
  refine PySem.W.callWith_K (h₀ := X.base) I.ok.mod.kin M.kp (thn (ha.run pos pins s σ H _ I h) fun us s1 ⟨vs, H1, I1, r, q⟩ => ⟨I1.kIn, ?_⟩) he hpl
  exact run_makeS M F hr hb (hx σ) I1 r q
theorem pe_makeS0 (M : Mk X.K C f) (F : FnOk X.prog X.w X.K X.mg X.base CX k f fd ps sp) (hr : Room (k + 1) X.A) (hg : Gl X x) (hm : X.mg x = some (.ref C)) (hb : Binds X.K fd ps []) (hx : ∀ σ, PassesAt CX X σ (E σ))
    (hdb : (x == ("__debug__" : Str)) = false) : PE X (.Call (.Name x p) [] [] pos) (tMakeS C sp E tNil) := by
  refine ⟨fun pins s σ H Q I h => ?_⟩
  refine wpAny_Call_Name_kw (ld_glob I hg hm ?_ hdb)
  exact PySem.W.callWith_K0 I.kIn M.kp (run_makeS (us := []) M F hr hb (hx σ) I .nil h)
end
end DS

/-! DS9: side facts of the sound translation -/
namespace DS
open PySem PySem.Spec PyProof.Rows L2
theorem noStars_all {env : Env} {pos : Pos} : ∀ {es : List Expr}, noStars es = true → (backTo pos (starEach es env)).all (fun x => !x.1) = true
  | [], _ => rfl
  | e :: es, h => by
    unfold noStars at h
    rw [Bool.and_eq_true] at h
    rw [star_of h.1]
    show (true && (backTo pos (starEach es env)).all (fun x => !x.1)) = true
    rw [noStars_all h.2]; rfl
theorem form_of {env : Env} {pos : Pos} {es : List Expr} (h : noStars es = true) (hn : es.length < 20) : methodCallForm (es.length + ([] : List Keyword).length) (backTo pos (starEach es env)) (backToKw pos (keywordEach [] env)) = true := by
  unfold methodCallForm
  rw [noStars_all h]
  show (true && true && decide (es.length + 0 + 0 < 30)) = true
  rw [Bool.true_and, Bool.true_and, decide_eq_true_eq]
  omega
theorem call_form {o : Expr} {m : Str} {apos pos : Pos} {es : List Expr} {env : Env} (h0 : (!isCall0 o) = true) (hs : noStars es = true) (hl : (apos.endLine == pos.line) = true) (hn : es.length < 20) :
    eval (.Call (.Attribute o m apos) es [] pos) env = (do
      let ov ← eval o env
      standAt apos.atName
      let (f, first) ← holding [ov] (getMethod ov m (do return (← importBound o env).getD true))
      callWith pos f first (backTo pos (starEach es env)) (backToKw pos (keywordEach [] env))) := by
  show (do
    let ov ← attributeBase o m env (eval o env)
    standAt apos.atName
    methodCall o m apos pos env ov (es.length + ([] : List Keyword).length) (backTo pos (starEach es env)) (backToKw pos (keywordEach [] env))) = _
  rw [base_of h0]
  unfold methodCall calleeOf methodCallPos
  rw [form_of hs hn, hl]
  rfl
section
variable {G : Gam} {an : An} {W : XW} {c : CT} {X : Cx}
theorem Good.blk (g : Good G an W c X) {s : Shared} {H : Hp} {scope : Scope} {C : Addr} {cl : List (Str × Addr)} {fp : List Addr} : Good G .top (fun _ _ _ => False) (blkCT c scope) (X.blk s H scope (compEnvC scope cl C X.env) fp) := by
  have hsc : relabel scope X.env = relS scope c.sc := by rw [← g.sc]; rfl
  refine ⟨g.N, hsc, fun x h => ?_, g.nd, g.calm, g.room, g.blt, g.cst, fun i x n sp e1 e => ?_, fun i k m k' m' n sp e1 e => ?_, g.fl, fun i k k' fs e1 e => ?_, fun u s' h => ?_⟩
  · rcases h with h | h
    · have q : (relabel scope X.env).names.lookup x = some .local := lookup_relS_keep (by decide) h
      exact ⟨.inl q, .inr q⟩
    · have q : (relabel scope X.env).names.lookup x = some .cell := lookup_relS_keep (by decide) h
      exact ⟨.inr q, .inl (by show (scope.names.lookup x == some .cell) = true; rw [show scope.names.lookup x = some .cell from h]; rfl)⟩
  · obtain ⟨f, h1, h2⟩ := g.fn i x n sp e1 e
    exact ⟨f, h1, ⟨h2.ok, h2.kp⟩⟩
  · obtain ⟨z1, z2, C, f, h1, h2, h3, h4, h5⟩ := g.mt i k m k' m' n sp e1 e
    exact ⟨z1, z2, C, f, h1, h2, h3, ⟨h4.ok, h4.kp⟩, h5⟩
  · obtain ⟨z1, h1, C, h2⟩ := g.exc i k k' fs e1 e
    exact ⟨z1, h1, C, ⟨h2.g, h2.x, h2.kp, h2.sb, h2.ty⟩⟩
  · obtain ⟨_, _, _, _, _, _, _, _, _, _, _, _, _, _, _, _, _, _, _, _, _, _, _, z⟩ := h
    exact z.elim
theorem wipe_set {i : Nat} {x : Option V} : ∀ {vs : List Nat} {σ : L2.St}, i ∈ vs → wipe (σ.set i x) vs = wipe σ vs
  | [], _, h => by cases h
  | v :: vs, σ, h => by
    show (wipe (σ.set i x) vs).set v none = (wipe σ vs).set v none
    by_cases hi : i ∈ vs
    · rw [wipe_set hi]
    · have e : i = v := by
        rcases List.mem_cons.mp h with q | q
        · exact q
        · exact absurd q hi
      subst e
      have go : ∀ (ws : List Nat), i ∉ ws → wipe (σ.set i x) ws = (wipe σ ws).set i x := by
        intro ws
        induction ws with
        | nil => intro _; rfl
        | cons w ws ih =>
          intro hw
          show (wipe (σ.set i x) ws).set w none = ((wipe σ ws).set w none).set i x
          rw [ih fun q => hw (List.mem_cons_of_mem _ q), List.set_comm _ _ (fun q => hw (by rw [q]; exact List.mem_cons_self))]
      rw [go vs hi, List.set_set]
theorem wipe_set_none : ∀ {vs : List Nat} {σ : L2.St} {v : Nat}, wipe (σ.set v none) vs = (wipe σ vs).set v none
  | [], _, _ => rfl
  | w :: vs, σ, v => by
    show (wipe (σ.set v none) vs).set w none = ((wipe σ vs).set w none).set v none
    rw [wipe_set_none]
    by_cases e : v = w
    · subst e; rfl
    · rw [List.set_comm _ _ e]
theorem wipe_idem : ∀ {vs : List Nat} {σ : L2.St}, wipe (wipe σ vs) vs = wipe σ vs
  | [], _ => rfl
  | v :: vs, σ => by
    show (wipe ((wipe σ vs).set v none) vs).set v none = (wipe σ vs).set v none
    rw [wipe_set_none, wipe_idem, List.set_set]
end
/-- a target of names alone, all of them among vs -/
def gW (X : Cx) (an : An) (vs : List Nat) (b : TGD) : TG := fun v σ H Q => ∃ P d ρ M RD, Rep (wd X an P) H M d v ∧ RepE (wd X an P) H M ρ σ ∧ RelH (wd X an P) H M ∧ b d ρ M RD ∧
  ∀ ρ' M', RD ρ' M' → ∀ σ' H', wipe σ' vs = wipe σ vs → Ext H M H' M' → RelH (wd X an P) H' M' → RepE (wd X an P) H' M' ρ' σ' → Q σ' H'
def gWs (X : Cx) (an : An) (vs : List Nat) (b : List D → Env1 → Mp → (Env1 → Mp → Prop) → Prop) : TGs := fun us σ H Q => ∃ P ds ρ M RD, Reps (wd X an P) H M ds us ∧ RepE (wd X an P) H M ρ σ ∧ RelH (wd X an P) H M ∧ b ds ρ M RD ∧
  ∀ ρ' M', RD ρ' M' → ∀ σ' H', wipe σ' vs = wipe σ vs → Ext H M H' M' → RelH (wd X an P) H' M' → RepE (wd X an P) H' M' ρ' σ' → Q σ' H'
theorem assignEach_len {env : Env} : ∀ {es : List Expr}, noStars es = true → (assignEach es env).length = es.length ∧ (assignEach es env).findIdx? (·.1) = none ∧ (assignEach es env).map (·.2) = es.map fun e => assign e env
  | [], _ => ⟨rfl, rfl, rfl⟩
  | e :: es, h => by
    unfold noStars at h
    rw [Bool.and_eq_true] at h
    have q : assignEach (e :: es) env = (false, assign e env) :: assignEach es env := by
      have h1 := h.1
      cases e <;> first | rfl | (exact (Bool.false_ne_true h1).elim)
    obtain ⟨a, b, d⟩ := assignEach_len (env := env) h.2
    rw [q]
    refine ⟨by simp [a], ?_, by simp [d]⟩
    rw [List.findIdx?_cons, b]; rfl
theorem assignEach_cons {e : Expr} {es : List Expr} {env : Env} (h : (!isStar e) = true) : (assignEach (e :: es) env).map (·.2) = assign e env :: (assignEach es env).map (·.2) := by
  cases e <;> first | rfl | (exact (Bool.false_ne_true h).elim)
theorem chkTL_stars : ∀ {c : CT} {ts : TGL} {fs : List Expr}, chkTL c ts fs = true → noStars fs = true
  | c, .nil, fs, h => by
    cases fs with
    | nil => rfl
    | cons _ _ => cases h
  | c, .cons e es, fs, h => by
    cases fs with
    | nil => cases h
    | cons f fs =>
      unfold chkTL at h
      simp only [Bool.and_eq_true] at h
      unfold noStars
      rw [h.1.2, chkTL_stars h.2]; rfl
theorem chkTL_len : ∀ {c : CT} {ts : TGL} {fs : List Expr}, chkTL c ts fs = true → fs.length = tgLen ts
  | c, .nil, fs, h => by
    cases fs with
    | nil => rfl
    | cons _ _ => cases h
  | c, .cons t ts, fs, h => by
    cases fs with
    | nil => cases h
    | cons f fs =>
      unfold chkTL at h
      simp only [Bool.and_eq_true] at h
      show fs.length + 1 = tgLen ts + 1
      rw [chkTL_len h.2]
mutual
theorem sndTW {G : Gam} {an : An} {W : XW} {vs : List Nat} : ∀ (t : TG1) {c : CT} {X : Cx} {e : Expr}, Good G an W c X → chkT c t e = true → namesT vs t = true → PG X e (gW X an vs (bindT G W t))
  | .v i, c, X, e, g, h, n => by
    unfold chkT at h
    split at h
    · obtain ⟨h1, h2, h3⟩ := wr_of g h
      refine ⟨fun pins s σ H v u Q I r hq => ?_⟩
      obtain ⟨P, d, ρ, M, RD, pd, hE, hR, b, k⟩ := hq
      have hi : i ∈ vs := of_decide_eq_true n
      exact (pg_name g.nd h1 h2 h3).run pins s σ H v u Q I r (k _ _ b _ _ (wipe_set hi) .refl hR (hE.set pd))
    · cases h
  | .tup ts, c, X, e, g, h, n => by
    unfold chkT at h
    split at h
    · have hs := chkTL_stars h
      obtain ⟨a1, a2, _⟩ := assignEach_len (env := X.env) hs
      refine ⟨fun pins s σ H v u Q I r hq => ?_⟩
      obtain ⟨P, d, ρ, M, RD, pd, hE, hR, b, k⟩ := hq
      unfold bindT at b
      split at b
      · cases pd with
        | tup p1 p2 =>
          exact (pg_tup g.calm (sndTLW ts g h n) a1 a2).run pins s σ H _ u Q I r ⟨_, _, rfl, p1, by rw [← p2.length, chkTL_len h]; exact b.1, P, _, ρ, M, _, p2, hE, hR, b.2, k⟩
      · exact b.elim
    · cases h
  | .sub _ _, _, _, _, _, _, n => by cases n
  | .att _ _, _, _, _, _, _, n => by cases n
theorem sndTLW {G : Gam} {an : An} {W : XW} {vs : List Nat} : ∀ (ts : TGL) {c : CT} {X : Cx} {es : List Expr}, Good G an W c X → chkTL c ts es = true → namesTL vs ts = true → PGs X es (gWs X an vs (bindL G W ts))
  | .nil, c, X, es, g, h, n => by
    cases es with
    | nil =>
      refine ⟨fun pins s σ H us uu Q I r hq => ?_⟩
      obtain ⟨P, ds, ρ, M, RD, pd, hE, hR, b, k⟩ := hq
      obtain ⟨rfl, b⟩ := b
      cases pd
      exact pgs_nil.run pins s σ H _ uu Q I r ⟨rfl, k _ _ b _ _ rfl .refl hR hE⟩
    | cons _ _ => cases h
  | .cons t ts, c, X, es, g, h, n => by
    cases es with
    | nil => cases h
    | cons e es =>
      unfold chkTL at h
      simp only [Bool.and_eq_true] at h
      unfold namesTL at n
      simp only [Bool.and_eq_true] at n
      obtain ⟨⟨h1, h2⟩, h3⟩ := h
      refine ⟨fun pins s σ H us uu Q I r hq => ?_⟩
      obtain ⟨P, ds, ρ, M, RD, pd, hE, hR, b, k⟩ := hq
      cases ds with
      | nil => exact b.elim
      | cons d ds =>
        cases pd with
        | cons p1 p2 =>
          refine (pgs_cons (sndTW t g h1 n.1) (sndTLW ts g h3 n.2) (assignEach_cons h2)).run pins s σ H _ uu Q I r ⟨_, _, rfl, P, d, ρ, M, _, p1, hE, hR, b, fun ρ1 M1 b1 σ1 H1 w1 e1 r1 E1 => ?_⟩
          exact ⟨P, ds, ρ1, M1, _, p2.ext e1, E1, r1, b1, fun ρ2 M2 b2 σ2 H2 w2 e2 r2 E2 => k _ _ b2 _ _ (w2.trans w1) (e1.trans e2) r2 E2⟩
end
end DS

/-! DS10: expressions keep their word -/
namespace DS
open PySem PySem.Spec PyProof.Rows L2
section
variable {X : Cx} {an : An}
theorem tOp_lift {ra rb : TD} {r2 : D → D → Mp → QE → Prop} : ∀ (σ : L2.St) (H : Hp) (Q : VK), lift X an (fun ρ M Q => ra ρ M fun x M1 => rb ρ M1 fun y M2 => r2 x y M2 Q) σ H Q → tOp (lift2 X an r2) (lift X an ra) (lift X an rb) σ H Q := by
  rintro σ H Q ⟨P, ρ, M, R, hE, hR, h, k⟩
  refine ⟨P, ρ, M, _, hE, hR, h, fun x M1 h1 v1 H1 e1 r1 p1 => ?_⟩
  refine ⟨P, ρ, M1, _, hE.ext e1, r1, h1, fun y M2 h2 v2 H2 e2 r2 p2 => ?_⟩
  exact ⟨P, x, y, M2, R, p1.ext e2, p2, r2, h2, fun d M' hd v H' e r p => k d M' hd v H' ((e1.trans e2).trans e) r p⟩
theorem tB_lift {r : TD} : ∀ (σ : L2.St) (H : Hp) (Q : Bool → Hp → Prop), liftT X an (fun ρ M Q => r ρ M fun d M1 => match d with
    | .bl b => Q b M1
    | _ => False) σ H Q → tB (lift X an r) σ H Q := by
  rintro σ H Q ⟨P, ρ, M, R, hE, hR, h, k⟩
  refine ⟨P, ρ, M, _, hE, hR, h, fun x M1 h1 v1 H1 e1 r1 p1 => ?_⟩
  cases p1 with
  | bl b => exact ⟨b, rfl, k b M1 h1 H1 e1 r1⟩
  | _ => exact h1.elim
theorem pt_of {e : Expr} {r : TD} (h : PE X e (lift X an r)) (he : ∀ whole, isTrue e X.env whole = (do let v ← whole; standAt e.pos; holding [v] (truthy v))) : PT X e (liftT X an (fun ρ M Q => r ρ M fun d M1 => match d with
    | .bl b => Q b M1
    | _ => False)) := PT.imp (pt_val h he) tB_lift
theorem tA_lift {r : TAD} {rn : List D → Mp → QE → Prop} : ∀ (σ : L2.St) (H : Hp) (Q : VK), lift X an (fun ρ M Q => r ρ M fun ds M1 => rn ds M1 Q) σ H Q → tCB (liftN X an rn) (liftA X an r) σ H Q := by
  rintro σ H Q ⟨P, ρ, M, R, hE, hR, h, k⟩
  refine ⟨P, ρ, M, _, hE, hR, h, fun ds M1 h1 vs H1 e1 r1 p1 => ?_⟩
  exact ⟨P, ds, M1, R, p1, r1, h1, fun d M' hd v H' e r p => k d M' hd v H' (e1.trans e) r p⟩
def liftO (X : Cx) (an : An) (r : Env1 → Mp → (Option Int → Mp → Prop) → Prop) : TO := fun σ H Q => ∃ P ρ M R, RepE (wd X an P) H M ρ σ ∧ RelH (wd X an P) H M ∧ r ρ M R ∧
  ∀ o M', R o M' → ∀ H', Ext H M H' M' → RelH (wd X an P) H' M' → Q o H'
def liftGs (X : Cx) (an : An) (b : List D → Env1 → Mp → (Env1 → Mp → Prop) → Prop) : TGs := fun us σ H Q => ∃ P ds ρ M RD, Reps (wd X an P) H M ds us ∧ RepE (wd X an P) H M ρ σ ∧ RelH (wd X an P) H M ∧ b ds ρ M RD ∧
  ∀ ρ' M', RD ρ' M' → ∀ σ' H', Ext H M H' M' → RelH (wd X an P) H' M' → RepE (wd X an P) H' M' ρ' σ' → Q σ' H'
/-- what a def hands back, from its promise over data -/
theorem sp_lift {P : Addr → Prop} {H0 H : Hp} {M0 M : Mp} {ρ : Env1} {σ : L2.St} {n : Nat} {sp : SpD} {W : XW} {ds : List D} {vs : List V} {R : QE} {Q : VK} (hl : ds.length = n) (hE : RepE (wd X an P) H M ρ σ) (hR : RelH (wd X an P) H M) (p : Reps (wd X an P) H M ds vs)
    (h : sp ds M R fun x M' => W x ρ M') (e0 : Ext H0 M0 H M) (k : Cont X an P H0 M0 R Q) : liftSp X.K X.mg n sp vs H Q (WE (liftX X an W) σ) :=
  ⟨P, an, ds, M, R, _, hl, p, hR, h, fun d M' hd v H' e r q => k d M' hd v H' (e0.trans e) r q, fun x M' hx cls dd H' e r q => ⟨P, x, ρ, M', hE.ext e, r, q, hx⟩⟩
theorem gwp_pin {tg e : Expr} : True := trivial
end
section
variable {G : Gam} {X : Cx} {an : An}
theorem ls_ty {P : Addr → Prop} {H : Hp} {M : Mp} {x : D} {v : V} (p : Rep (wd X an P) H M x v) (r : RelH (wd X an P) H M) (h : (lsOf M x).isSome = true) : tyV X.K "list" v H := by
  obtain ⟨ds, e⟩ := Option.isSome_iff_exists.mp h
  obtain ⟨a, vs, rfl, h1, _⟩ := lsRep p r e
  exact .inl ⟨rfl, _, h1⟩
theorem flds_rep {P : Addr → Prop} {H : Hp} {M : Mp} {x : D} {v : V} {c : Str} {fs : List (Str × D)} (p : Rep (wd X an P) H M x v) (r : RelH (wd X an P) H M) (h : flds M x = some (c, fs)) :
    ∃ a C dx vs, v = .ref a ∧ H a = some (.ins C dx vs) ∧ X.mg c = some (.ref C) ∧ RepF (wd X an P) H M fs vs := by
  cases p with
  | ins h1 h2 hp h3 h4 => cases h; exact ⟨_, _, _, _, rfl, h1, h3, h4⟩
  | ref a =>
    have h' : (match M a with | some (.ins c fs) => some (c, fs) | _ => none) = some (c, fs) := h
    split at h'
    · rename_i e
      cases h'
      obtain ⟨C, dx, vs, q1, q2, q3⟩ := r.ob _ _ e
      exact ⟨_, C, dx, vs, rfl, q1, q2, q3⟩
    · cases h'
  | _ => cases h
theorem Cls.of_mg {k : Str} {C C' : Addr} (h : X.mg k = some (.ref C)) (h' : X.mg k = some (.ref C')) : C = C' := by
  rw [h] at h'; cases h'; rfl
theorem and_split {a b : Bool} (h : (a && b) = true) : a = true ∧ b = true := Bool.and_eq_true_iff.mp h
end
end DS

/-! DS11: expressions keep their word -/
namespace DS
open PySem PySem.Spec PyProof.Rows L2
theorem boot_bf : ∀ f : BF, bootBuiltins f.id = some (.builtin f.id) := by intro f; cases f <;> decide +kernel
theorem boot_bt : ∀ f : BT, bootBuiltins f.id = some (.type f.id) := by intro f; cases f <;> decide +kernel
theorem boot_ic : ∀ f : IC, bootBuiltins f.id = some (.type f.id) := by intro f; cases f <;> decide +kernel
theorem mem_bf : ∀ f : BF, (f.id : Str) ∈ bnames ∧ (f.id : Str) ≠ "__name__" := by intro f; cases f <;> decide +kernel
theorem mem_bt : ∀ f : BT, (f.id : Str) ∈ bnames ∧ (f.id : Str) ≠ "__name__" := by intro f; cases f <;> decide +kernel
theorem mem_ic : ∀ f : IC, (f.id : Str) ∈ bnames ∧ (f.id : Str) ≠ "__name__" := by intro f; cases f <;> decide +kernel
theorem range_nn (i j c : Int) : 0 ≤ Builtin.Range.rangeSize i j c := by
  unfold Builtin.Range.rangeSize
  split
  · split
    · rename_i h1 h2
      have := Int.ediv_nonneg (a := j - i - 1) (b := c) (by omega) (by omega)
      omega
    · exact Int.le_refl 0
  · split
    · rename_i h1 h2
      have := Int.ediv_nonneg (a := i - j - 1) (b := -c) (by omega) (by omega)
      omega
    · exact Int.le_refl 0
theorem boot_isi : bootBuiltins "isinstance" = some (.builtin "isinstance") := by decide +kernel
theorem slot_bm : ∀ f : BM, PlainAttrs "list" ∧ Slot "list" f.at f.id ∧ typeOf (.builtin f.id) = pure (.type "method_descriptor") := by
  intro f
  cases f
  · exact ⟨PySem.F.plainAttrs_list, PySem.F.slot_list_append, PySem.F.type_list_append⟩
  · exact ⟨PySem.F.plainAttrs_list, PySem.F.slot_list_pop, PySem.F.type_list_pop⟩
  · exact ⟨PySem.F.plainAttrs_list, PySem.F.slot_list_extend, PySem.F.type_list_extend⟩
section
variable {G : Gam} {an : An} {W : XW} {X : Cx}
theorem mkE {e : Expr} {t : E} (q : PE X e (lift X an (wpE G W t))) (he : ∀ whole, isTrue e X.env whole = (do let v ← whole; standAt e.pos; holding [v] (truthy v))) :
    PE X e (lift X an (wpE G W t)) ∧ (okT t = true → PT X e (liftT X an (wpT G W t))) := ⟨q, fun _ => pt_of q he⟩
theorem wpT_and {a b : E} {ρ : Env1} {M : Mp} {R : Bool → Mp → Prop} : wpT G W (.and a b) ρ M R = wpT G W a ρ M (fun t M1 => match t with
    | true => wpT G W b ρ M1 R
    | false => R false M1) := by
  show wpE G W a ρ M _ = wpE G W a ρ M _
  congr 1
  funext x M1
  cases x with
  | bl t => cases t <;> rfl
  | _ => rfl
theorem wpT_or {a b : E} {ρ : Env1} {M : Mp} {R : Bool → Mp → Prop} : wpT G W (.or a b) ρ M R = wpT G W a ρ M (fun t M1 => match t with
    | true => R true M1
    | false => wpT G W b ρ M1 R) := by
  show wpE G W a ρ M _ = wpE G W a ρ M _
  congr 1
  funext x M1
  cases x with
  | bl t => cases t <;> rfl
  | _ => rfl
theorem wpT_not {a : E} {ρ : Env1} {M : Mp} {R : Bool → Mp → Prop} : wpT G W (.not a) ρ M R = wpT G W a ρ M (fun t M1 => R (!t) M1) := by
  show wpE G W a ρ M _ = wpE G W a ρ M _
  have : ∀ {f g : D → Mp → Prop}, f = g → wpE G W a ρ M f = wpE G W a ρ M g := fun e => by rw [e]
  refine this ?_
  funext x M1
  cases x <;> rfl
theorem and_E {a b : E} {x y : Expr} {r : List Expr} {pos : Pos} (ha : PE X x (lift X an (wpE G W a))) (hb : PE X (.BoolOp .And (y :: r) pos) (lift X an (wpE G W b))) : PE X (.BoolOp .And (x :: y :: r) pos) (lift X an (wpE G W (.and a b))) := by
  refine PE.imp (pe_and ha hb) ?_
  rintro σ H Q ⟨P, ρ, M, R, hE, hR, hw, k⟩
  refine ⟨P, ρ, M, _, hE, hR, hw, fun z M1 h1 v1 H1 e1 r1 p1 => ?_⟩
  cases p1 with
  | bl t =>
    cases t with
    | true => exact ⟨true, rfl, P, ρ, M1, R, hE.ext e1, r1, h1, fun d M' hd v H' e r p => k d M' hd v H' (e1.trans e) r p⟩
    | false => exact ⟨false, rfl, k _ _ h1 _ _ e1 r1 (.bl _)⟩
  | _ => exact h1.elim
theorem or_E {a b : E} {x y : Expr} {r : List Expr} {pos : Pos} (ha : PE X x (lift X an (wpE G W a))) (hb : PE X (.BoolOp .Or (y :: r) pos) (lift X an (wpE G W b))) : PE X (.BoolOp .Or (x :: y :: r) pos) (lift X an (wpE G W (.or a b))) := by
  refine PE.imp (pe_or ha hb) ?_
  rintro σ H Q ⟨P, ρ, M, R, hE, hR, hw, k⟩
  refine ⟨P, ρ, M, _, hE, hR, hw, fun z M1 h1 v1 H1 e1 r1 p1 => ?_⟩
  cases p1 with
  | bl t =>
    cases t with
    | true => exact ⟨true, rfl, k _ _ h1 _ _ e1 r1 (.bl _)⟩
    | false => exact ⟨false, rfl, P, ρ, M1, R, hE.ext e1, r1, h1, fun d M' hd v H' e r p => k d M' hd v H' (e1.trans e) r p⟩
  | _ => exact h1.elim
theorem and_T {a b : E} {x y : Expr} {r : List Expr} {pos : Pos} (ha : PT X x (liftT X an (wpT G W a))) (hb : PT X (.BoolOp .And (y :: r) pos) (liftT X an (wpT G W b))) : PT X (.BoolOp .And (x :: y :: r) pos) (liftT X an (wpT G W (.and a b))) := by
  refine PT.imp (PW.pt (pw_and ha ⟨fun wh pins s σ H Q I h => hb.run pins s σ H Q I h⟩)) ?_
  rintro σ H Q ⟨P, ρ, M, R, hE, hR, hw, k⟩
  rw [wpT_and] at hw
  refine ⟨P, ρ, M, _, hE, hR, hw, fun t M1 h1 H1 e1 r1 => ?_⟩
  cases t with
  | true => exact ⟨P, ρ, M1, R, hE.ext e1, r1, h1, fun d M' hd H' e r => k d M' hd H' (e1.trans e) r⟩
  | false => exact k _ _ h1 _ e1 r1
theorem or_T {a b : E} {x y : Expr} {r : List Expr} {pos : Pos} (ha : PT X x (liftT X an (wpT G W a))) (hb : PT X (.BoolOp .Or (y :: r) pos) (liftT X an (wpT G W b))) : PT X (.BoolOp .Or (x :: y :: r) pos) (liftT X an (wpT G W (.or a b))) := by
  refine PT.imp (PW.pt (pw_or ha ⟨fun wh pins s σ H Q I h => hb.run pins s σ H Q I h⟩)) ?_
  rintro σ H Q ⟨P, ρ, M, R, hE, hR, hw, k⟩
  rw [wpT_or] at hw
  refine ⟨P, ρ, M, _, hE, hR, hw, fun t M1 h1 H1 e1 r1 => ?_⟩
  cases t with
  | true => exact k _ _ h1 _ e1 r1
  | false => exact ⟨P, ρ, M1, R, hE.ext e1, r1, h1, fun d M' hd H' e r => k d M' hd H' (e1.trans e) r⟩
theorem one_T {op : BoolOp} {x : Expr} {pos : Pos} {t : TT} (h : PT X x t) : PT X (.BoolOp op [x] pos) t := by
  cases op with
  | And => exact PW.pt (pw_and1 h)
  | Or => exact PW.pt (pw_or1 h)
end
def elLen : EL → Nat
  | .nil => 0
  | .cons _ es => elLen es + 1
theorem chkL_len : ∀ {c : CT} {es : EL} {fs : List Expr}, chkL c es fs = true → fs.length = elLen es
  | c, .nil, fs, h => by
    cases fs with
    | nil => rfl
    | cons _ _ => cases h
  | c, .cons e es, fs, h => by
    cases fs with
    | nil => cases h
    | cons f fs =>
      unfold chkL at h
      have h3 := (and_split h).2
      show fs.length + 1 = elLen es + 1
      rw [chkL_len h3]
/-- an argument list, and how many there are -/
def liftAn (X : Cx) (an : An) (n : Nat) (r : TAD) : TA := fun σ H Q => ∃ P ρ M R, RepE (wd X an P) H M ρ σ ∧ RelH (wd X an P) H M ∧ r ρ M R ∧
  ∀ ds M', R ds M' → ∀ vs H', ds.length = n → Ext H M H' M' → RelH (wd X an P) H' M' → Reps (wd X an P) H' M' ds vs → Q vs H'
theorem liftA_n {X : Cx} {an : An} {n : Nat} {r : TAD} : ∀ (σ : L2.St) (H : Hp) (Q : List V → Hp → Prop), liftA X an r σ H Q → liftAn X an n r σ H Q := by
  rintro σ H Q ⟨P, ρ, M, R, hE, hR, hw, k⟩
  exact ⟨P, ρ, M, R, hE, hR, hw, fun ds M' hd vs H' _ e r p => k ds M' hd vs H' e r p⟩
theorem line1000 {n : Nat} (h : n ≤ 1000) : n ≤ sizeLine := Nat.le_trans h (by decide)
/-- o.f = .., by values -/
def gAtt (K : PySem.W.Frag) (f : Str) (to : TE) : TG := fun v σ H Q => to σ H fun x H1 => ∃ a C dx fs, x = .ref a ∧ H1 a = some (.ins C dx fs) ∧ Cls K C ∧ NoAttr K C f ∧ fs.length < 1000 ∧ Q σ (upd H1 a (.ins C dx (putF f v fs)))
theorem pg_att {X : Cx} {o : Expr} {f : Str} {pos : Pos} {to : TE} (ho : PE X o to) : PG X (.Attribute o f pos) (gAtt X.K f to) := by
  refine ⟨fun pins s σ H v u Q I r h => ?_⟩
  show wpAny _ _ (do
    let ov ← holding [u] (eval o X.env)
    standAt pos.atName
    holding [u, ov] (setAttr ov f u)
    release [u, ov] []) _ _ _
  refine wpAny_bind (wpAny_holding (thn (ho.run pins s σ H _ I h) fun ov s1 ⟨x, H1, I1, r1, q1⟩ => ?_))
  obtain ⟨a, C, dx, fs, rfl, h1, h2, h3, h4, q⟩ := q1
  obtain rfl : ov = Value.ref a := r1
  refine wpAny_bind (wpAny_standAt (wpAny_bind (wpAny_holding ?_)))
  exact setattr_ok I1 h1 h2 h3 h4 r fun s' I' => wpAny_release ⟨σ, _, I', q⟩
section
variable {G : Gam}
mutual
theorem sndE : ∀ (e : E) {an : An} {W : XW} {c : CT} {X : Cx} {e' : Expr}, Good G an W c X → chkE c e e' = true → PE X e' (lift X an (wpE G W e)) ∧ (okT e = true → PT X e' (liftT X an (wpT G W e)))
  | .var i, an, W, c, X, e', g, h => by
    unfold chkE at h; split at h
    · obtain ⟨h1, h2, h3, h4⟩ := vis_of g h
      refine mkE (PE.imp (pe_var h1 h2 h3 h4) ?_) (by intro _; rfl)
      rintro σ H Q ⟨P, ρ, M, R, hE, hR, hw, k⟩
      unfold wpE at hw
      split at hw
      · rename_i e
        obtain ⟨v, a1, a2⟩ := hE.2 i _ (slot_get e)
        exact ⟨v, a1, Cont.here k hR hw a2⟩
      · exact hw.elim
    · cases h
  | .int i, an, W, c, X, e', g, h => by
    unfold chkE at h; split at h
    · refine mkE (PE.imp pe_int ?_) (by intro _; rfl)
      rintro σ H Q ⟨P, ρ, M, R, hE, hR, hw, k⟩
      have e := of_decide_eq_true h
      subst e
      exact Cont.here k hR hw (.int _)
    · cases h
  | .bl i, an, W, c, X, e', g, h => by
    unfold chkE at h; split at h
    · refine mkE (PE.imp pe_bl ?_) (by intro _; rfl)
      rintro σ H Q ⟨P, ρ, M, R, hE, hR, hw, k⟩
      have e := of_decide_eq_true h
      subst e
      exact Cont.here k hR hw (.bl _)
    · cases h
  | .non, an, W, c, X, e', g, h => by
    unfold chkE at h; split at h
    · refine mkE (PE.imp pe_non ?_) (by intro _; rfl)
      rintro σ H Q ⟨P, ρ, M, R, hE, hR, hw, k⟩
      exact Cont.here k hR hw .non
    · cases h
  | .str i, an, W, c, X, e', g, h => by
    unfold chkE at h; split at h
    · refine mkE (PE.imp pe_str ?_) (by intro _; rfl)
      rintro σ H Q ⟨P, ρ, M, R, hE, hR, hw, k⟩
      have e := of_decide_eq_true h
      subst e
      exact Cont.here k hR hw (.str _)
    · cases h
  | .cst y, an, W, c, X, e', g, h => by
    unfold chkE at h; split at h
    · obtain ⟨h1, h2⟩ := and_split h
      have e := of_decide_eq_true h2
      obtain ⟨h3, h4⟩ := gl_of g h1
      refine mkE ?_ (by intro _; rfl)
      cases hc : nth G.cst y with
      | none =>
        refine PE.imp (t := fun _ _ _ => False) ⟨fun _ _ _ _ _ _ z => z.elim⟩ ?_
        rintro σ H Q ⟨P, ρ, M, R, hE, hR, hw, k⟩
        unfold wpE at hw
        rw [hc] at hw
        exact hw.elim
      | some d =>
        obtain ⟨v, u, a1, a2, a3⟩ := g.cst _ _ _ e hc
        refine PE.imp (pe_glob h3 a1 a2 h4) ?_
        rintro σ H Q ⟨P, ρ, M, R, hE, hR, hw, k⟩
        unfold wpE at hw
        rw [hc] at hw
        exact Cont.here k hR hw (a3 an P H M)
    · cases h
  | .bin m op a b, an, W, c, X, e', g, h => by
    unfold chkE at h; split at h
    · obtain ⟨h, h3⟩ := and_split h
      obtain ⟨h1, h2⟩ := and_split h
      have e := of_decide_eq_true h1
      subst e
      exact mkE (PE.imp (pe_op (binD_ok (an := an) m op) (sndE a g h2).1 (sndE b g h3).1) tOp_lift) (by intro _; rfl)
    · cases h
  | .neg a, an, W, c, X, e', g, h => by
    unfold chkE at h; split at h
    · refine mkE (PE.imp (pe_un un_neg (sndE a g h).1) ?_) (by intro _; rfl)
      rintro σ H Q ⟨P, ρ, M, R, hE, hR, hw, k⟩
      refine ⟨P, ρ, M, _, hE, hR, hw, fun x M1 h1 v1 H1 e1 r1 p1 => ?_⟩
      cases p1 with
      | int i => exact ⟨i, rfl, k _ _ h1 _ _ e1 r1 (.int _)⟩
      | _ => exact h1.elim
    · cases h
  | .cmp op a b, an, W, c, X, e', g, h => by
    unfold chkE at h; split at h
    · obtain ⟨h, h4⟩ := and_split h
      obtain ⟨h, h3⟩ := and_split h
      obtain ⟨h1, h2⟩ := and_split h
      have e := of_decide_eq_true h1
      subst e
      have ho := cmpD_ok (X := X) (an := an) op g.units
      refine ⟨PE.imp (pe_cmpR ho (sndE a g h2).1 (sndE b g h3).1 (marks_of h4)) tOp_lift, fun _ => PT.imp (pt_cmpR ho (sndE a g h2).1 (sndE b g h3).1 (marks_of h4)) ?_⟩
      rintro σ H Q ⟨P, ρ, M, R, hE, hR, hw, k⟩
      refine tOp_lift σ H _ ⟨P, ρ, M, _, hE, hR, hw, fun x M1 h1 v1 H1 e1 r1 p1 => ?_⟩
      cases p1 with
      | bl b => exact ⟨b, rfl, k b M1 h1 H1 e1 r1⟩
      | _ => exact h1.elim
    · cases h
  | .chain op op2 a b d, an, W, c, X, e', g, h => by
    unfold chkE at h; split at h
    · obtain ⟨h, h7⟩ := and_split h
      obtain ⟨h, h6⟩ := and_split h
      obtain ⟨h, h5⟩ := and_split h
      obtain ⟨h, h4⟩ := and_split h
      obtain ⟨h, h3⟩ := and_split h
      obtain ⟨h1, h2⟩ := and_split h
      have e1 := of_decide_eq_true h1
      have e2 := of_decide_eq_true h2
      subst e1; subst e2
      have ho := cmpD_ok (X := X) (an := an) op g.units
      have ho2 := cmpD_ok (X := X) (an := an) op2 g.units
      have hm := fun (z : Expr) => show lastMarks [op, op2] [z, _] = false from marks_of (op := op2) h7
      have key : ∀ (σ : L2.St) (H : Hp) (Q : VK), lift X an (wpE G W (.chain op op2 a b d)) σ H Q → tChain (lift2 X an (cmpD op)) (lift2 X an (cmpD op2)) (lift X an (wpE G W a)) (lift X an (wpE G W b)) (lift X an (wpE G W d)) σ H Q := by
        rintro σ H Q ⟨P, ρ, M, R, hE, hR, hw, k⟩
        refine ⟨P, ρ, M, _, hE, hR, hw, fun x M1 h1 v1 H1 e1 r1 p1 => ?_⟩
        refine ⟨P, ρ, M1, _, hE.ext e1, r1, h1, fun y M2 h2 v2 H2 e2 r2 p2 => ?_⟩
        refine ⟨P, x, y, M2, _, p1.ext e2, p2, r2, h2, fun z M3 h3 v3 H3 e3 r3 p3 => ?_⟩
        have e13 := (e1.trans e2).trans e3
        cases p3 with
        | bl t =>
          refine ⟨t, rfl, ?_⟩
          cases t with
          | true =>
            refine ⟨P, ρ, M3, _, hE.ext e13, r3, h3, fun w M4 h4 v4 H4 e4 r4 p4 => ?_⟩
            exact ⟨P, y, w, M4, R, (p2.ext e3).ext e4, p4, r4, h4, fun d M' hd v H' e r p => k d M' hd v H' ((e13.trans e4).trans e) r p⟩
          | false => exact k _ _ h3 _ _ e13 r3 (.bl _)
        | _ => exact h3.elim
      refine ⟨PE.imp (pe_chain ho ho2 (sndE a g h3).1 (sndE b g h4).1 (sndE d g h5).1 (hm _)) key, fun _ => PT.imp (pt_chain ho ho2 (sndE a g h3).1 (sndE b g h4).1 (sndE d g h5).1 (hm _)) ?_⟩
      rintro σ H Q ⟨P, ρ, M, R, hE, hR, hw, k⟩
      refine key σ H _ ⟨P, ρ, M, _, hE, hR, hw, fun x M1 h1 v1 H1 e1 r1 p1 => ?_⟩
      cases p1 with
      | bl b => exact ⟨b, rfl, k b M1 h1 H1 e1 r1⟩
      | _ => exact h1.elim
    · cases h
  | .and a b, an, W, c, X, e', g, h => by
    unfold chkE at h; split at h
    · obtain ⟨h1, h2⟩ := and_split h
      refine ⟨and_E (sndE a g h1).1 (pe_one (sndE b g h2).1), fun ok => ?_⟩
      unfold okT at ok
      obtain ⟨o1, o2⟩ := and_split ok
      exact and_T ((sndE a g h1).2 o1) (one_T ((sndE b g h2).2 o2))
    · obtain ⟨h1, h2⟩ := and_split h
      refine ⟨and_E (sndE a g h1).1 (sndE b g h2).1, fun ok => ?_⟩
      unfold okT at ok
      obtain ⟨o1, o2⟩ := and_split ok
      exact and_T ((sndE a g h1).2 o1) ((sndE b g h2).2 o2)
    · cases h
  | .or a b, an, W, c, X, e', g, h => by
    unfold chkE at h; split at h
    · obtain ⟨h1, h2⟩ := and_split h
      refine ⟨or_E (sndE a g h1).1 (pe_one (sndE b g h2).1), fun ok => ?_⟩
      unfold okT at ok
      obtain ⟨o1, o2⟩ := and_split ok
      exact or_T ((sndE a g h1).2 o1) (one_T ((sndE b g h2).2 o2))
    · obtain ⟨h1, h2⟩ := and_split h
      refine ⟨or_E (sndE a g h1).1 (sndE b g h2).1, fun ok => ?_⟩
      unfold okT at ok
      obtain ⟨o1, o2⟩ := and_split ok
      exact or_T ((sndE a g h1).2 o1) ((sndE b g h2).2 o2)
    · cases h
  | .not a, an, W, c, X, e', g, h => by
    unfold chkE at h; split at h
    · refine ⟨PE.imp (pe_not (sndE a g h).1) ?_, fun ok => PT.imp (pt_not ((sndE a g h).2 ok)) ?_⟩
      · rintro σ H Q ⟨P, ρ, M, R, hE, hR, hw, k⟩
        refine ⟨P, ρ, M, _, hE, hR, hw, fun x M1 h1 v1 H1 e1 r1 p1 => ?_⟩
        cases p1 with
        | bl b => exact ⟨b, rfl, k _ _ h1 _ _ e1 r1 (.bl _)⟩
        | _ => exact h1.elim
      · rintro σ H Q ⟨P, ρ, M, R, hE, hR, hw, k⟩
        rw [wpT_not] at hw
        exact ⟨P, ρ, M, _, hE, hR, hw, fun t M1 h1 H1 e1 r1 => k _ _ h1 _ e1 r1⟩
    · cases h
  | .ife t a b, an, W, c, X, e', g, h => by
    unfold chkE at h; split at h
    · obtain ⟨h, h4⟩ := and_split h
      obtain ⟨h, h3⟩ := and_split h
      obtain ⟨h1, h2⟩ := and_split h
      refine ⟨PE.imp (pe_ifExp ((sndE t g h2).2 h1) (sndE a g h3).1 (sndE b g h4).1) ?_, fun ok => by cases ok⟩
      rintro σ H Q ⟨P, ρ, M, R, hE, hR, hw, k⟩
      have hw' : wpT G W t ρ M (fun z M1 => match z with
        | true => wpE G W a ρ M1 R
        | false => wpE G W b ρ M1 R) := by
        have : wpE G W (.ife t a b) ρ M R = wpT G W t ρ M (fun z M1 => match z with
          | true => wpE G W a ρ M1 R
          | false => wpE G W b ρ M1 R) := by
          show wpE G W t ρ M _ = wpE G W t ρ M _
          congr 1
          funext x M1
          cases x with
          | bl z => cases z <;> rfl
          | _ => rfl
        rw [this] at hw
        exact hw
      refine ⟨P, ρ, M, _, hE, hR, hw', fun z M1 h1 H1 e1 r1 => ?_⟩
      cases z with
      | true => exact ⟨P, ρ, M1, R, hE.ext e1, r1, h1, fun d M' hd v H' e r p => k d M' hd v H' (e1.trans e) r p⟩
      | false => exact ⟨P, ρ, M1, R, hE.ext e1, r1, h1, fun d M' hd v H' e r p => k d M' hd v H' (e1.trans e) r p⟩
    · cases h
  | .tup es, an, W, c, X, e', g, h => by
    unfold chkE at h; split at h
    · obtain ⟨h1, h2⟩ := and_split h
      refine mkE (PE.imp (pe_tup (sndL es g h1)) ?_) (by intro _; rfl)
      rintro σ H Q ⟨P, ρ, M, R, hE, hR, hw, k⟩
      refine ⟨P, ρ, M, _, hE, hR, hw, fun ds M1 h1' vs H1 hl e1 r1 p1 => ⟨?_, ?_⟩⟩
      · rw [← p1.length, hl, ← chkL_len h1]
        exact line1000 (of_decide_eq_true h2)
      · exact newT_ok (fun d M' hd v H' e r p => k d M' hd v H' (e1.trans e) r p) r1 h1' p1
    · cases h
  | .lst m es, an, W, c, X, e', g, h => by
    unfold chkE at h; split at h
    · obtain ⟨h1, h2⟩ := and_split h
      refine mkE (PE.imp (pe_lst (sndL es g h1)) ?_) (by intro _; rfl)
      rintro σ H Q ⟨P, ρ, M, R, hE, hR, hw, k⟩
      refine ⟨P, ρ, M, _, hE, hR, hw, fun ds M1 h1' vs H1 hl e1 r1 p1 => ⟨?_, ?_⟩⟩
      · rw [← p1.length, hl, ← chkL_len h1]
        exact line1000 (of_decide_eq_true h2)
      · exact newL_ok (fun d M' hd v H' e r p => k d M' hd v H' (e1.trans e) r p) r1 h1' p1
    · cases h
  | .ix a i, an, W, c, X, e', g, h => by
    unfold chkE at h; split at h
    · obtain ⟨h, h3⟩ := and_split h
      obtain ⟨h1, h2⟩ := and_split h
      exact mkE (PE.imp (pe_ix (ixD_ok (an := an)) (sndE a g h1).1 (sndE i g h2).1 (plainIx_of h3)) tOp_lift) (by intro _; rfl)
    · cases h
  | .sl m a lo hi, an, W, c, X, e', g, h => by
    unfold chkE at h; split at h
    · obtain ⟨h, h3⟩ := and_split h
      obtain ⟨h1, h2⟩ := and_split h
      refine mkE (PE.imp (pe_slice (slD_ok (an := an) m) (sndE a g h1).1 (sndO lo g h2) (sndO hi g h3)) ?_) (by intro _; rfl)
      rintro σ H Q ⟨P, ρ, M, R, hE, hR, hw, k⟩
      refine ⟨P, ρ, M, _, hE, hR, hw, fun x M1 h1 v1 H1 e1 r1 p1 => ?_⟩
      refine ⟨P, ρ, M1, _, hE.ext e1, r1, h1, fun l M2 h2 H2 e2 r2 => ?_⟩
      refine ⟨P, ρ, M2, _, (hE.ext e1).ext e2, r2, h2, fun u M3 h3 H3 e3 r3 => ?_⟩
      exact ⟨P, x, M3, R, (p1.ext e2).ext e3, r3, h3, fun d M' hd v H' e r p => k d M' hd v H' (((e1.trans e2).trans e3).trans e) r p⟩
    · cases h
  | .fld a f, an, W, c, X, e', g, h => by
    unfold chkE at h; split at h
    · obtain ⟨h, h3⟩ := and_split h
      obtain ⟨h1, h2⟩ := and_split h
      have e := of_decide_eq_true h2
      subst e
      refine mkE (PE.imp (pe_fld (sndE a g h1).1 (base_of h3)) ?_) (by intro _; rfl)
      rintro σ H Q ⟨P, ρ, M, R, hE, hR, hw, k⟩
      refine ⟨P, ρ, M, _, hE, hR, hw, fun x M1 h1 v1 H1 e1 r1 p1 => ?_⟩
      split at h1
      · rename_i e2
        obtain ⟨b1, b2⟩ := h1
        split at b2
        · rename_i e3
          obtain ⟨q, C, dx, vs, rfl, q1, q2, q3⟩ := flds_rep p1 r1 e2
          obtain ⟨C', z1, z2, z3⟩ := g.fl _ _ b1
          obtain rfl := Cls.of_mg q2 z1
          obtain ⟨v, q4, q5⟩ := q3.look e3
          exact ⟨q, C, dx, vs, v, rfl, q1, z2, z3, q4, k _ _ b2 _ _ e1 r1 q5⟩
        · exact b2.elim
      · exact h1.elim
    · cases h
  | .call f es, an, W, c, X, e', g, h => by
    unfold chkE at h; split at h
    · rename_i x p1 es' p2
      obtain ⟨h, h3⟩ := and_split h
      obtain ⟨h1, h2⟩ := and_split h
      have e := of_decide_eq_true h2
      obtain ⟨b1, b2⟩ := gl_of g h1
      refine mkE ?_ (by intro _; rfl)
      cases hc : nth G.fn f with
      | none =>
        refine PE.imp (t := fun _ _ _ => False) ⟨fun _ _ _ _ _ _ z => z.elim⟩ ?_
        rintro σ H Q ⟨P, ρ, M, R, hE, hR, hw, k⟩
        unfold wpE at hw
        rw [hc] at hw
        exact hw.elim
      | some nsp =>
        obtain ⟨n, sp⟩ := nsp
        obtain ⟨fa, a1, ⟨k, fd, ps, F, hr, hb⟩, kp⟩ := g.fn _ _ _ _ e hc
        have key : ∀ (σ : L2.St) (H : Hp) (Q : VK), lift X an (wpE G W (.call f es)) σ H Q → tCallS (liftSp X.K X.mg n sp) (WE (liftX X an W)) (liftAn X an (elLen es) (wpL G W es)) σ H Q := by
          rintro σ H Q ⟨P, ρ, M, R, hE, hR, hw, k⟩
          unfold wpE at hw
          rw [hc] at hw
          refine ⟨P, ρ, M, _, hE, hR, hw, fun ds M1 h1 vs H1 hl e1 r1 p1 => ?_⟩
          exact sp_lift h1.1 (hE.ext e1) r1 p1 h1.2 e1 k
        cases es' with
        | nil =>
          refine PE.imp (pe_callS0 F hr b1 a1 kp hb (fun σ => passAt g.tk σ) b2) fun σ H Q hq => ?_
          obtain ⟨P, ρ, M, R, hE, hR, hw, k⟩ := key σ H Q hq
          cases es with
          | nil => exact k _ _ hw _ _ rfl .refl hR .nil
          | cons _ _ => cases h3
        | cons e1 es1 =>
          have hs := chkL_stars h3
          unfold noStars at hs
          obtain ⟨s1, s2⟩ := and_split hs
          exact PE.imp (pe_callS F hr b1 a1 kp hb (fun σ => passAt g.tk σ) (sndL es g h3) b2 (star_of s1) (stars_none s2)) key
    · cases h
  | .meth i a es, an, W, c, X, e', g, h => by
    unfold chkE at h; split at h
    · rename_i a' f' apos es' cpos
      obtain ⟨h, h6⟩ := and_split h
      obtain ⟨h, h5⟩ := and_split h
      obtain ⟨h, h4⟩ := and_split h
      obtain ⟨h, h3⟩ := and_split h
      obtain ⟨h1, h2⟩ := and_split h
      have e := of_decide_eq_true h2
      refine mkE ?_ (by intro _; rfl)
      have hform := call_form (env := X.env) (m := f') h4 (chkL_stars h3) h5 (of_decide_eq_true h6)
      cases hc : nth G.mt i with
      | none =>
        refine PE.imp (t := fun _ _ _ => False) ⟨fun _ _ _ _ _ _ z => z.elim⟩ ?_
        rintro σ H Q ⟨P, ρ, M, R, hE, hR, hw, k⟩
        unfold wpE at hw
        rw [hc] at hw
        exact hw.elim
      | some nsp =>
        obtain ⟨kc, f, n, sp⟩ := nsp
        obtain ⟨⟨k2, f2⟩, e5, e6⟩ := Option.map_eq_some_iff.mp e
        subst e6
        obtain ⟨rfl, rfl, C, fa, a1, a2, a3, ⟨⟨k, fd, ps, F, hr, hb⟩, kp⟩, mk⟩ := g.mt _ _ _ _ _ _ _ e5 hc
        have key : ∀ (σ : L2.St) (H : Hp) (Q : VK), lift X an (wpE G W (.meth i a es)) σ H Q → tMethS C f2 (liftSp X.K X.mg n sp) (WE (liftX X an W)) (lift X an (wpE G W a)) (liftAn X an (elLen es) (wpL G W es)) σ H Q := by
          rintro σ H Q ⟨P, ρ, M, R, hE, hR, hw, k⟩
          unfold wpE at hw
          rw [hc] at hw
          refine ⟨P, ρ, M, _, hE, hR, hw, fun x M1 h1 v1 H1 e1 r1 p1 => ?_⟩
          split at h1
          · rename_i e2
            obtain ⟨rfl, l, h1⟩ := h1
            obtain ⟨q, C', dx, vs, rfl, q1, q2, q3⟩ := flds_rep p1 r1 e2
            obtain rfl := Cls.of_mg q2 a1
            refine ⟨q, dx, vs, rfl, q1, q3.lookN l, P, ρ, M1, _, hE.ext e1, r1, h1, fun ds M2 h2 us H2 hl e2 r2 p2 => ?_⟩
            exact sp_lift (ds := x :: ds) h2.1 ((hE.ext e1).ext e2) r2 (.cons (p1.ext e2) p2) h2.2 (e1.trans e2) k
          · exact h1.elim
        cases es' with
        | nil =>
          refine PE.imp (pe_methS0 (sndE a g h1).1 a2 a3 F (hr.mono (Nat.le_succ _)) hb (fun σ => passAt g.tk σ) hform) fun σ H Q hq => ?_
          obtain ⟨P, ρ, M, R, hE, hR, hw, k⟩ := key σ H Q hq
          refine ⟨P, ρ, M, R, hE, hR, hw, fun x M1 h1' v1 H1 e1 r1 p1 => ?_⟩
          obtain ⟨q, dx, vs, z1, z2, z3, P2, ρ2, M2, R2, hE2, hR2, hw2, k2⟩ := k x M1 h1' v1 H1 e1 r1 p1
          refine ⟨q, dx, vs, z1, z2, z3, ?_⟩
          cases es with
          | nil => exact k2 _ _ hw2 _ _ rfl .refl hR2 .nil
          | cons _ _ => cases h3
        | cons e1 es1 =>
          have hs := chkL_stars h3
          unfold noStars at hs
          obtain ⟨s1, s2⟩ := and_split hs
          exact PE.imp (pe_methS (sndE a g h1).1 a2 a3 F (hr.mono (Nat.le_succ _)) hb (fun σ => passAt g.tk σ) (sndL es g h3) (star_of s1) (stars_none s2) hform) key
    · cases h
  | .new z kc es, an, W, c, X, e', g, h => by
    unfold chkE at h; split at h
    · rename_i x p1 es' p2
      obtain ⟨h, h3⟩ := and_split h
      obtain ⟨h1, h2⟩ := and_split h
      have e := of_decide_eq_true h2
      obtain ⟨b1, b2⟩ := gl_of g h1
      refine mkE ?_ (by intro _; rfl)
      cases hc : nth G.mt kc with
      | none =>
        refine PE.imp (t := fun _ _ _ => False) ⟨fun _ _ _ _ _ _ z => z.elim⟩ ?_
        rintro σ H Q ⟨P, ρ, M, R, hE, hR, hw, k⟩
        unfold wpE at hw
        rw [hc] at hw
        exact hw.elim
      | some nsp =>
        obtain ⟨kk, mm, n, sp⟩ := nsp
        obtain ⟨rfl, rfl, C, fa, a1, a2, a3, ⟨⟨k, fd, ps, F, hr, hb⟩, kp⟩, mk⟩ := g.mt _ _ _ _ _ _ _ e hc
        have MK := mk rfl
        have key : ∀ (σ : L2.St) (H : Hp) (Q : VK), lift X an (wpE G W (.new z kc es)) σ H Q → tMakeS C (liftSp X.K X.mg n sp) (WE (liftX X an W)) (liftAn X an (elLen es) (wpL G W es)) σ H Q := by
          rintro σ H Q ⟨P, ρ, M, R, hE, hR, hw, k⟩
          unfold wpE at hw
          rw [hc] at hw
          refine ⟨P, ρ, M, _, hE, hR, hw, fun ds M1 h1 vs H1 hl e1 r1 p1 => ?_⟩
          intro q dx hq hdx ne
          have hq' : (upd H1 dx (HO.own q)) q = none := by rw [upd_ne (Ne.symm ne)]; exact hq
          have e2 : Ext H1 M1 (upd (upd H1 dx (.own q)) q (.ins C dx [])) (mset M1 q (.ins x [])) := (Ext.newF hdx).trans (Ext.new hq' (r1.free hq))
          have r2 : RelH (wd X an P) (upd (upd H1 dx (.own q)) q (.ins C dx [])) (mset M1 q (.ins x [])) := (r1.newF hdx).new hq' ⟨C, dx, [], upd_same, a1, .nil⟩
          refine sp_lift (H0 := H) (M0 := M) (ds := .ref q :: ds) h1.1 ((hE.ext e1).ext e2) r2 (.cons (.ref q) (p1.ext e2)) (h1.2 q (r1.free hq)) (e1.trans e2) ?_
          intro d M' hd v H' e r p
          obtain ⟨hn, hi⟩ := hd
          have := isN_eq hn
          subst this
          cases p
          refine ⟨rfl, ?_⟩
          unfold newI at hi
          split at hi
          · exact k _ _ hi _ _ e r (.ref q)
          · split at hi
            · rename_i em
              obtain ⟨C', dx', us, z1, z2, z3⟩ := r.ob _ _ em
              refine k _ _ hi _ _ (e.trans Ext.give) r.give (.ins z1 mdel_same (fun pp => ?_) z2 (z3.ext Ext.give))
              have := (r.pv q pp).1
              rw [em] at this; cases this
            · exact hi.elim
        cases es' with
        | nil =>
          refine PE.imp (pe_makeS0 MK F hr b1 a1 hb (fun σ => passAt g.tk σ) b2) fun σ H Q hq => ?_
          obtain ⟨P, ρ, M, R, hE, hR, hw, k⟩ := key σ H Q hq
          cases es with
          | nil => exact k _ _ hw _ _ rfl .refl hR .nil
          | cons _ _ => cases h3
        | cons e1 es1 =>
          have hs := chkL_stars h3
          unfold noStars at hs
          obtain ⟨s1, s2⟩ := and_split hs
          exact PE.imp (pe_makeS MK F hr b1 a1 hb (fun σ => passAt g.tk σ) (sndL es g h3) b2 (star_of s1) (stars_none s2)) key
    · cases h
  | .blt m f es, an, W, c, X, e', g, h => by
    unfold chkE at h; split at h
    · rename_i x p1 e1 es' p2
      obtain ⟨h, h3⟩ := and_split h
      obtain ⟨h1, h2⟩ := and_split h
      have e := of_decide_eq_true h2
      subst e
      obtain ⟨b1, b2⟩ := gl_of g h1
      have hs := chkL_stars h3
      unfold noStars at hs
      obtain ⟨s1, s2⟩ := and_split hs
      refine mkE (PE.imp (pe_callB (bltD_ok (an := an) g.calm m f) b1 (g.blt _ (mem_bf f).1) (boot_bf f) (sndL es g h3) (mem_bf f).2 b2 (star_of s1) (stars_none s2)) ?_) (by intro _; rfl)
      exact fun σ H Q hq => by
        obtain ⟨P, ρ, M, R, hE, hR, hw, k⟩ := hq
        exact ⟨P, ρ, M, _, hE, hR, hw, fun ds M1 h1 vs H1 hl e1 r1 p1 => ⟨P, ds, M1, R, p1, r1, h1, fun d M' hd v H' e r p => k d M' hd v H' (e1.trans e) r p⟩⟩
    · cases h
  | .bty m f es, an, W, c, X, e', g, h => by
    unfold chkE at h; split at h
    · rename_i x p1 e1 es' p2
      obtain ⟨h, h3⟩ := and_split h
      obtain ⟨h1, h2⟩ := and_split h
      have e := of_decide_eq_true h2
      subst e
      obtain ⟨b1, b2⟩ := gl_of g h1
      have hs := chkL_stars h3
      unfold noStars at hs
      obtain ⟨s1, s2⟩ := and_split hs
      refine mkE (PE.imp (pe_callTy (btyD_ok (an := an) m f) b1 (g.blt _ (mem_bt f).1) (boot_bt f) (sndL es g h3) (mem_bt f).2 b2 (star_of s1) (stars_none s2)) ?_) (by intro _; rfl)
      exact fun σ H Q hq => by
        obtain ⟨P, ρ, M, R, hE, hR, hw, k⟩ := hq
        exact ⟨P, ρ, M, _, hE, hR, hw, fun ds M1 h1 vs H1 hl e1 r1 p1 => ⟨P, ds, M1, R, p1, r1, h1, fun d M' hd v H' e r p => k d M' hd v H' (e1.trans e) r p⟩⟩
    · cases h
  | .bm f o es, an, W, c, X, e', g, h => by
    unfold chkE at h; split at h
    · rename_i o' x apos es' cpos
      obtain ⟨h, h6⟩ := and_split h
      obtain ⟨h, h5⟩ := and_split h
      obtain ⟨h, h4⟩ := and_split h
      obtain ⟨h, h3⟩ := and_split h
      obtain ⟨h1, h2⟩ := and_split h
      have e := of_decide_eq_true h2
      subst e
      obtain ⟨t1, t2, t3⟩ := slot_bm f
      refine mkE ?_ (by intro _; rfl)
      have key : ∀ (σ : L2.St) (H : Hp) (Q : VK), lift X an (wpE G W (.bm f o es)) σ H Q → tBM X.K "list" (liftM X an (bmD f)) (lift X an (wpE G W o)) (liftAn X an (elLen es) (wpL G W es)) σ H Q := by
        rintro σ H Q ⟨P, ρ, M, R, hE, hR, hw, k⟩
        refine ⟨P, ρ, M, _, hE, hR, hw, fun x M1 h1 v1 H1 e1 r1 p1 => ⟨?_, ?_⟩⟩
        · exact ls_ty p1 r1 (by
            have := h1.1
            unfold bmTy at this
            cases f <;> exact this)
        · exact ⟨P, ρ, M1, _, hE.ext e1, r1, h1.2, fun ds M2 h2 vs H2 hl e2 r2 p2 => ⟨P, x, ds, M2, R, p1.ext e2, p2, r2, h2, fun d M' hd v H' e r p => k d M' hd v H' ((e1.trans e2).trans e) r p⟩⟩
      cases es' with
      | nil =>
        refine PE.imp (pe_bm0 t1 t2 t3 (bmD_ok (an := an) f) (sndE o g h1).1 (base_of h4) h5) fun σ H Q hq => ?_
        obtain ⟨P, ρ, M, R, hE, hR, hw, k⟩ := key σ H Q hq
        refine ⟨P, ρ, M, R, hE, hR, hw, fun x M1 h1' v1 H1 e1 r1 p1 => ?_⟩
        obtain ⟨z1, P2, ρ2, M2, R2, hE2, hR2, hw2, k2⟩ := k x M1 h1' v1 H1 e1 r1 p1
        refine ⟨z1, ?_⟩
        cases es with
        | nil => exact k2 _ _ hw2 _ _ rfl .refl hR2 .nil
        | cons _ _ => cases h3
      | cons e1 es1 =>
        have hs := chkL_stars h3
        have hfew := form_of (env := X.env) (pos := cpos) hs (of_decide_eq_true h6)
        unfold noStars at hs
        obtain ⟨s1, s2⟩ := and_split hs
        exact PE.imp (pe_bm t1 t2 t3 (bmD_ok (an := an) f) (sndE o g h1).1 (sndL es g h3) (base_of h4) hfew h5 (star_of s1) (stars_none s2)) key
    · cases h
  | .isi a T, an, W, c, X, e', g, h => by
    unfold chkE at h; split at h
    · rename_i x p1 a' y p2 p3
      obtain ⟨h, h6⟩ := and_split h
      obtain ⟨h, h5⟩ := and_split h
      obtain ⟨h, h4⟩ := and_split h
      obtain ⟨h, h3⟩ := and_split h
      obtain ⟨h1, h2⟩ := and_split h
      have e := of_decide_eq_true h2
      subst e
      have e := of_decide_eq_true h6
      subst e
      obtain ⟨b1, b2⟩ := gl_of g h1
      obtain ⟨b3, b4⟩ := gl_of g h5
      have pT : PE X (.Name T.id p2) (tC (.ty T.id)) := pe_bltn b3 (g.blt _ (mem_ic T).1) (boot_ic T) rfl (mem_ic T).2 b4
      refine mkE (PE.imp (pe_callB call_isi b1 (g.blt _ (by decide +kernel)) boot_isi (pa_cons (sndE a g h3).1 (pa_cons pT pa_nil rfl) (star_of h4)) (by decide +kernel) b2 (star_of h4) rfl) ?_) (by intro _; rfl)
      rintro σ H Q ⟨P, ρ, M, R, hE, hR, hw, k⟩
      refine ⟨P, ρ, M, _, hE, hR, hw, fun x M1 h1 v1 H1 e1 r1 p1 => ?_⟩
      split at h1
      · rename_i b eb
        obtain ⟨t, q1, q2⟩ := isi_ty T p1 r1 eb
        exact ⟨v1, .ty T.id, .type t, .type T.id, b, rfl, .ty _, q1, kit_ty q2, k _ _ h1 _ _ e1 r1 (.bl _)⟩
      · exact h1.elim
    · cases h
  | .lc m own elt tg it cond, an, W, c, X, e', g, h => by
    unfold chkE at h; split at h
    · rename_i elt' tg' it' ifs scope pos
      obtain ⟨h, h7⟩ := and_split h
      obtain ⟨h, h6⟩ := and_split h
      obtain ⟨h, h5⟩ := and_split h
      obtain ⟨h, h4⟩ := and_split h
      obtain ⟨h, h3⟩ := and_split h
      obtain ⟨h1, h2⟩ := and_split h
      have hb : BlkOk X.N X.env.scope scope own := blkOk_by (by rw [g.N, g.sc]; exact h1)
      refine mkE (PE.imp (pe_lc (g := gW X .top (own.map (·.2)) (bindT G (fun _ _ _ => False) tg)) (tt := liftT X .top (wpC G (fun _ _ _ => False) cond)) (te := lift X .top (wpE G (fun _ _ _ => False) elt)) g.calm g.nd (sndI it g h4) hb (fun s H C cl fp => sndTW tg (g.blk (s := s) (H := H) (C := C) (cl := cl) (fp := fp)) h3 h2) (fun s H C cl fp => sndC cond (g.blk (s := s) (H := H) (C := C) (cl := cl) (fp := fp)) h5) (fun s H C cl fp => (sndE elt (g.blk (s := s) (H := H) (C := C) (cl := cl) (fp := fp)) h6).1) (fun _ => folded_of h7)) ?_) (by intro _; rfl)
      rintro σ H Q ⟨P, ρ, M, R, hE, hR, hw, k⟩
      refine ⟨P, ρ, M, _, hE, hR, hw, fun xs gd M1 h1 J H1 e1 r1 hz hJ => ?_⟩
      intro D0 hD
      refine lc_fold (gW X .top (own.map (·.2)) (bindT G (fun _ _ _ => False) tg)) ?_ (hE.ext e1) r1 hJ hD hz h1 ?_
      · intro P v H M d ρ1 RD Q' pd hE hR b kk
        exact ⟨P, d, ρ1, M, RD, pd, hE, hR, b, fun ρ' M' hd σ' H' hw e r E' => kk ρ' M' hd σ' H' (hw.trans wipe_idem) e r E'⟩
      · intro ds M' hd us H' q1 q2 e r pp
        unfold newL at hd
        split at hd
        · exact k _ _ (hd D0 q2) _ _ (e1.trans (e.take hD)) (r.own (r1.nop hD) (an.cl _ _ _ _ _ (e.take hD) r1.ah) ⟨us, q1, pp.own⟩) (.ref D0)
        · exact k _ _ hd _ _ (e1.trans e) (r.show' (fun _ p => .inl p) (an.cl _ _ _ _ _ e r1.ah)) (.lst (.inl q1) q2 (r1.nop hD) (pp.show' fun _ p => .inl p))
    · cases h
  | .lc2 m own vs1 elt tg it c0 tg1 it1 c1, an, W, c, X, e', g, h => by cases h
theorem sndL : ∀ (es : EL) {an : An} {W : XW} {c : CT} {X : Cx} {fs : List Expr}, Good G an W c X → chkL c es fs = true → PA X fs (liftAn X an (elLen es) (wpL G W es))
  | .nil, an, W, c, X, fs, g, h => by
    cases fs with
    | nil =>
      refine PA.imp pa_nil ?_
      rintro σ H Q ⟨P, ρ, M, R, hE, hR, hw, k⟩
      exact k _ _ hw _ _ rfl .refl hR .nil
    | cons _ _ => cases h
  | .cons e es, an, W, c, X, fs, g, h => by
    cases fs with
    | nil => cases h
    | cons f fs =>
      unfold chkL at h
      obtain ⟨h, h3⟩ := and_split h
      obtain ⟨h1, h2⟩ := and_split h
      refine PA.imp (pa_cons (sndE e g h1).1 (sndL es g h3) (star_of h2)) ?_
      rintro σ H Q ⟨P, ρ, M, R, hE, hR, hw, k⟩
      refine ⟨P, ρ, M, _, hE, hR, hw, fun x M1 h1 v1 H1 e1 r1 p1 => ?_⟩
      refine ⟨P, ρ, M1, _, hE.ext e1, r1, h1, fun ds M2 h2 vs H2 hl e2 r2 p2 => ?_⟩
      exact k _ _ h2 _ _ (congrArg (· + 1) hl) (e1.trans e2) r2 (.cons (p1.ext e2) p2)
theorem sndO : ∀ (e : EO) {an : An} {W : XW} {c : CT} {X : Cx} {f : Option Expr}, Good G an W c X → chkO c e f = true → PO X f (liftO X an (wpO G W e))
  | .none, an, W, c, X, f, g, h => by
    cases f with
    | none =>
      refine ⟨fun pins s σ H Q I hq => ?_⟩
      obtain ⟨P, ρ, M, R, hE, hR, hw, k⟩ := hq
      exact po_none.run pins s σ H Q I (k _ _ hw _ .refl hR)
    | some _ => cases h
  | .some e, an, W, c, X, f, g, h => by
    cases f with
    | none => cases h
    | some e' =>
      refine ⟨fun pins s σ H Q I hq => ?_⟩
      obtain ⟨P, ρ, M, R, hE, hR, hw, k⟩ := hq
      refine (po_some (sndE e g h).1).run pins s σ H Q I ⟨P, ρ, M, _, hE, hR, hw, fun x M1 h1 v1 H1 e1 r1 p1 => ?_⟩
      cases p1 with
      | int i => exact ⟨i, rfl, k _ _ h1 _ e1 r1⟩
      | _ => exact h1.elim
theorem sndC : ∀ (e : EO) {an : An} {W : XW} {c : CT} {X : Cx} {fs : List Expr}, Good G an W c X → chkC c e fs = true → PTs X fs (liftT X an (wpC G W e))
  | .none, an, W, c, X, fs, g, h => by
    cases fs with
    | nil =>
      refine ⟨fun pins s σ H Q I hq => ?_⟩
      obtain ⟨P, ρ, M, R, hE, hR, hw, k⟩ := hq
      exact pts_nil.run pins s σ H Q I (k _ _ hw _ .refl hR)
    | cons _ _ => cases h
  | .some e, an, W, c, X, fs, g, h => by
    unfold chkC at h
    split at h
    · obtain ⟨h1, h2⟩ := and_split h
      exact pts_one ((sndE e g h2).2 h1)
    · cases h
theorem sndI : ∀ (it : IT) {an : An} {W : XW} {c : CT} {X : Cx} {tg e' : Expr}, Good G an W c X → chkI c it tg e' = true → PI X tg e' (liftI X an (wpI G W it))
  | .seq e, an, W, c, X, tg, e', g, h => by
    refine PI.imp (pi_seqB (PE.len (sndE e g h).1)) ?_
    rintro σ H RR ⟨P, ρ, M, R, hE, hR, hw, k⟩
    refine ⟨P, ρ, M, _, hE, hR, hw, fun x M1 h1 v1 H1 e1 r1 p1 ln => ?_⟩
    split at h1
    · rename_i ds eq
      rcases sq_cases eq with e2 | e2
      · subst e2
        cases p1 with
        | tup q1 q2 =>
          have hz : ds.length ≤ sizeLine := by rw [q2.length]; exact ln _ _ (.inr q1)
          exact .inr ⟨_, _, rfl, q1, k _ _ _ (h1 hz) _ _ e1 r1 hz (it_tup (.tup q1 q2))⟩
      · obtain ⟨a, vs, rfl, q1, q2⟩ := lsRep p1 r1 e2
        have hz : ds.length ≤ sizeLine := by rw [q2.length]; exact ln _ _ (.inl q1)
        exact .inl ⟨_, _, rfl, q1, k _ _ _ (h1 hz) _ _ e1 r1 hz (it_list e2 p1)⟩
    · exact h1.elim
  | .rng1 a, an, W, c, X, tg, e', g, h => by
    unfold chkI at h; split at h
    · obtain ⟨h, h4⟩ := and_split h
      obtain ⟨h, h3⟩ := and_split h
      obtain ⟨h1, h2⟩ := and_split h
      have e := of_decide_eq_true h2
      subst e
      obtain ⟨b1, b2⟩ := gl_of g h1
      refine PI.imp (pi_range1 b1 (g.blt _ (by decide +kernel)) (pa_cons (sndE a g h3).1 pa_nil (star_of h4)) (star_of h4)) ?_
      rintro σ H RR ⟨P, ρ, M, R, hE, hR, hw, k⟩
      refine ⟨P, ρ, M, _, hE, hR, hw, fun x M1 h1 v1 H1 e1 r1 p1 => ?_⟩
      cases p1 with
      | int i =>
        obtain ⟨q, h1⟩ := h1
        refine ⟨i, rfl, q.1, by omega, k _ _ _ h1 _ _ e1 r1 ?_ it_rng⟩
        rw [rgD_len]
        show i.toNat ≤ 16777216
        omega
      | _ => exact h1.elim
    · cases h
  | .rng2 a b, an, W, c, X, tg, e', g, h => by
    unfold chkI at h; split at h
    · obtain ⟨h, h6⟩ := and_split h
      obtain ⟨h, h5⟩ := and_split h
      obtain ⟨h, h4⟩ := and_split h
      obtain ⟨h, h3⟩ := and_split h
      obtain ⟨h1, h2⟩ := and_split h
      have e := of_decide_eq_true h2
      subst e
      obtain ⟨b1, b2⟩ := gl_of g h1
      refine PI.imp (pi_range2 b1 (g.blt _ (by decide +kernel)) (pa_cons (sndE a g h3).1 (pa_cons (sndE b g h5).1 pa_nil (star_of h6)) (star_of h4)) (by rw [star_of h4, star_of h6]; rfl) (by rw [star_of h6]; rfl)) ?_
      rintro σ H RR ⟨P, ρ, M, R, hE, hR, hw, k⟩
      refine ⟨P, ρ, M, _, hE, hR, hw, fun x M1 h1 v1 H1 e1 r1 p1 => ?_⟩
      refine ⟨P, ρ, M1, _, hE.ext e1, r1, h1, fun y M2 h2 v2 H2 e2 r2 p2 => ?_⟩
      cases p1 with
      | int i =>
        cases p2 with
        | int j =>
          obtain ⟨q, h2⟩ := h2
          refine ⟨i, j, rfl, ⟨q.1, q.2.1, q.2.2.1, q.2.2.2.1⟩, k _ _ _ h2 _ _ (e1.trans e2) r2 ?_ it_rng⟩
          rw [rgD_len]
          show (j - i).toNat ≤ 16777216
          omega
        | _ => exact h2.elim
      | _ => cases p2 <;> exact h2.elim
    · cases h
  | .rng3 a b d, an, W, c, X, tg, e', g, h => by
    unfold chkI at h; split at h
    · obtain ⟨h, h8⟩ := and_split h
      obtain ⟨h, h7⟩ := and_split h
      obtain ⟨h, h6⟩ := and_split h
      obtain ⟨h, h5⟩ := and_split h
      obtain ⟨h, h4⟩ := and_split h
      obtain ⟨h, h3⟩ := and_split h
      obtain ⟨h1, h2⟩ := and_split h
      have e := of_decide_eq_true h2
      subst e
      obtain ⟨b1, b2⟩ := gl_of g h1
      refine PI.imp (pi_range3 b1 (g.blt _ (by decide +kernel)) (pa_cons (sndE a g h3).1 (pa_cons (sndE b g h5).1 (pa_cons (sndE d g h7).1 pa_nil (star_of h8)) (star_of h6)) (star_of h4)) (star_of h4) (stars_none (by unfold noStars; unfold noStars; rw [h6, h8]; rfl))) ?_
      rintro σ H RR ⟨P, ρ, M, R, hE, hR, hw, k⟩
      refine ⟨P, ρ, M, _, hE, hR, hw, fun x M1 h1 v1 H1 e1 r1 p1 => ?_⟩
      refine ⟨P, ρ, M1, _, hE.ext e1, r1, h1, fun y M2 h2 v2 H2 e2 r2 p2 => ?_⟩
      refine ⟨P, ρ, M2, _, (hE.ext e1).ext e2, r2, h2, fun z M3 h3 v3 H3 e3 r3 p3 => ?_⟩
      have e13 := (e1.trans e2).trans e3
      split at h3
      · rename_i i j cc
        cases p1; cases p2; cases p3
        obtain ⟨q1, q2, h3⟩ := h3
        have nn : 0 ≤ Builtin.Range.rangeSize i j cc := range_nn _ _ _
        refine ⟨_, _, _, _, rfl, ⟨q1.1, q1.2.1, q1.2.2, (Int.toNat_of_nonneg nn).symm⟩, k _ _ _ h3 _ _ e13 r3 ?_ it_rngC⟩
        rw [rgD_len]
        show (Builtin.Range.rangeSize i j cc).toNat ≤ 16777216
        omega
      · exact h3.elim
    · cases h
  | .zip a b, an, W, c, X, tg, e', g, h => by
    unfold chkI at h; split at h
    · obtain ⟨h, h7⟩ := and_split h
      obtain ⟨h, h6⟩ := and_split h
      obtain ⟨h, h5⟩ := and_split h
      obtain ⟨h, h4⟩ := and_split h
      obtain ⟨h, h3⟩ := and_split h
      obtain ⟨h1, h2⟩ := and_split h
      have e := of_decide_eq_true h2
      subst e
      obtain ⟨b1, b2⟩ := gl_of g h1
      cases tg with
      | Tuple elts kk tpos =>
        refine PI.imp (RZ.pi_zipA b1 (g.blt _ (by decide +kernel)) (PA.len (pa_cons (sndE a g h3).1 (pa_cons (sndE b g h5).1 pa_nil (star_of h6)) (star_of h4))) (star_of h4) (stars_none (by unfold noStars; rw [h6]; rfl))) ?_
        rintro σ H RR ⟨P, ρ, M, R, hE, hR, hw, k⟩
        refine ⟨P, ρ, M, _, hE, hR, hw, fun x M1 h1 v1 H1 e1 r1 p1 => ?_⟩
        refine ⟨P, ρ, M1, _, hE.ext e1, r1, h1, fun y M2 h2 v2 H2 e2 r2 p2 => ?_⟩
        intro ln
        have p1' := p1.ext e2
        have e12 := e1.trans e2
        split at h2
        · rename_i xs ys eq
          unfold zpOf at eq
          split at eq
          · cases eq
            cases p1' with
            | tup a1 a2 =>
              cases p2 with
              | tup a3 a4 =>
                have z1 : xs.length ≤ sizeLine := by rw [a2.length]; exact ln _ _ (.inr a1)
                have z2 : ys.length ≤ sizeLine := by rw [a4.length]; exact ln _ _ (.inr a3)
                refine ⟨_, _, _, _, rfl, .inr ⟨a1, a3, k _ _ _ (h2 z1 z2) _ _ e12 r2 ?_ (it_zipT (.tup a1 a2) (.tup a3 a4))⟩⟩
                rw [zipD_len]; omega
          · split at eq
            · rename_i q1 q2
              cases eq
              obtain ⟨a, vs, rfl, a1, a2⟩ := lsRep p1' r2 q1
              obtain ⟨b, us, rfl, a3, a4⟩ := lsRep p2 r2 q2
              have z1 : xs.length ≤ sizeLine := by rw [a2.length]; exact ln _ _ (.inl a1)
              have z2 : ys.length ≤ sizeLine := by rw [a4.length]; exact ln _ _ (.inl a3)
              refine ⟨_, _, _, _, rfl, .inl ⟨a1, a3, k _ _ _ (h2 z1 z2) _ _ e12 r2 ?_ (it_zip q1 q2 p1' p2)⟩⟩
              rw [zipD_len]; omega
            · cases eq
        · exact h2.elim
      | _ => cases h7
    · cases h
  | .enum a, an, W, c, X, tg, e', g, h => by
    unfold chkI at h; split at h
    · obtain ⟨h, h5⟩ := and_split h
      obtain ⟨h, h4⟩ := and_split h
      obtain ⟨h, h3⟩ := and_split h
      obtain ⟨h1, h2⟩ := and_split h
      have e := of_decide_eq_true h2
      subst e
      obtain ⟨b1, b2⟩ := gl_of g h1
      cases tg with
      | Tuple elts kk tpos =>
        refine PI.imp (pi_enum b1 (g.blt _ (by decide +kernel)) (PA.len (pa_cons (sndE a g h3).1 pa_nil (star_of h4))) (star_of h4)) ?_
        rintro σ H RR ⟨P, ρ, M, R, hE, hR, hw, k⟩
        refine ⟨P, ρ, M, _, hE, hR, hw, fun x M1 h1 v1 H1 e1 r1 p1 => ?_⟩
        intro ln
        split at h1
        · rename_i xs eq
          obtain ⟨a, vs, rfl, a1, a2⟩ := lsRep p1 r1 eq
          have z1 : xs.length ≤ sizeLine := by rw [a2.length]; exact ln _ _ (.inl a1)
          refine ⟨_, _, rfl, a1, k _ _ _ (h1 z1) _ _ e1 r1 ?_ (it_enum eq p1)⟩
          rw [enumD_len]; exact z1
        · exact h1.elim
      | _ => cases h5
    · cases h
theorem sndT : ∀ (t : TG1) {an : An} {W : XW} {c : CT} {X : Cx} {e : Expr}, Good G an W c X → chkT c t e = true → PG X e (liftG X an (bindT G W t))
  | .v i, an, W, c, X, e, g, h => by
    unfold chkT at h
    split at h
    · obtain ⟨h1, h2, h3⟩ := wr_of g h
      refine ⟨fun pins s σ H v u Q I r hq => ?_⟩
      obtain ⟨P, d, ρ, M, RD, pd, hE, hR, b, k⟩ := hq
      exact (pg_name g.nd h1 h2 h3).run pins s σ H v u Q I r (k _ _ b _ _ .refl hR (hE.set pd))
    · cases h
  | .tup ts, an, W, c, X, e, g, h => by
    unfold chkT at h
    split at h
    · have hs := chkTL_stars h
      obtain ⟨a1, a2, _⟩ := assignEach_len (env := X.env) hs
      refine ⟨fun pins s σ H v u Q I r hq => ?_⟩
      obtain ⟨P, d, ρ, M, RD, pd, hE, hR, b, k⟩ := hq
      unfold bindT at b
      split at b
      · cases pd with
        | tup p1 p2 =>
          exact (pg_tup g.calm (sndTL ts g h) a1 a2).run pins s σ H _ u Q I r ⟨_, _, rfl, p1, by rw [← p2.length, chkTL_len h]; exact b.1, P, _, ρ, M, _, p2, hE, hR, b.2, k⟩
      · exact b.elim
    · cases h
  | .sub a i, an, W, c, X, e, g, h => by
    unfold chkT at h
    split at h
    · obtain ⟨h, h3⟩ := and_split h
      obtain ⟨h1, h2⟩ := and_split h
      refine ⟨fun pins s σ H v u Q I r hq => ?_⟩
      obtain ⟨P, d, ρ, M, RD, pd, hE, hR, b, k⟩ := hq
      refine (pg_sub (sndE a g h1).1 (sndE i g h2).1 set_list (assign_sub h3)).run pins s σ H v u Q I r ⟨P, ρ, M, _, hE, hR, b, fun x M1 b1 v1 H1 e1 r1 p1 => ?_⟩
      refine ⟨P, ρ, M1, _, hE.ext e1, r1, b1, fun y M2 b2 v2 H2 e2 r2 p2 => ?_⟩
      split at b2
      · cases p1; cases p2
        split at b2
        · rename_i ds em
          split at b2
          · rename_i j ej
            obtain ⟨vs, q1, q2⟩ := r2.ob _ _ em
            rw [q2.length] at ej
            have nt := (r2.ob _ _ em).notup
            have e3 := Ext.wr (H := H2) (o' := .lst (ds.set j d)) (u := .lst (vs.set j v)) em nt
            refine ⟨_, vs, _, j, rfl, rfl, q1, ej, k _ _ b2 _ _ ((e1.trans e2).trans e3) (r2.wr em ⟨_, upd_same, (q2.set ((pd.ext e1).ext e2) j).ext e3⟩) (((hE.ext e1).ext e2).ext e3)⟩
          · exact b2.elim
        · exact b2.elim
      · exact b2.elim
    · cases h
  | .att a f, an, W, c, X, e, g, h => by
    unfold chkT at h
    split at h
    · obtain ⟨h1, h2⟩ := and_split h
      have e := of_decide_eq_true h2
      subst e
      refine ⟨fun pins s σ H v u Q I r hq => ?_⟩
      obtain ⟨P, d, ρ, M, RD, pd, hE, hR, b, k⟩ := hq
      refine (pg_att (sndE a g h1).1).run pins s σ H v u Q I r ⟨P, ρ, M, _, hE, hR, b, fun x M1 b1 v1 H1 e1 r1 p1 => ?_⟩
      split at b1
      · cases p1
        split at b1
        · rename_i kc fs em
          obtain ⟨c1, c2, b1⟩ := b1
          obtain ⟨C, dx, vs, q1, q2, q3⟩ := r1.ob _ _ em
          obtain ⟨C', z1, z2, z3⟩ := g.fl _ _ c1
          obtain rfl := Cls.of_mg q2 z1
          have nt := (r1.ob _ _ em).notup
          have e3 := Ext.wr (H := H1) (o' := .ins kc (putD f d fs)) (u := .ins C dx (putF f v vs)) em nt
          exact ⟨_, C, dx, vs, rfl, q1, z2, z3, by rw [← q3.length]; exact c2, k _ _ b1 _ _ (e1.trans e3) (r1.wr em ⟨C, dx, _, upd_same, q2, (q3.put (pd.ext e1)).ext e3⟩) ((hE.ext e1).ext e3)⟩
        · exact b1.elim
      · exact b1.elim
    · cases h
theorem sndTL : ∀ (ts : TGL) {an : An} {W : XW} {c : CT} {X : Cx} {es : List Expr}, Good G an W c X → chkTL c ts es = true → PGs X es (liftGs X an (bindL G W ts))
  | .nil, an, W, c, X, es, g, h => by
    cases es with
    | nil =>
      refine ⟨fun pins s σ H us uu Q I r hq => ?_⟩
      obtain ⟨P, ds, ρ, M, RD, pd, hE, hR, b, k⟩ := hq
      obtain ⟨rfl, b⟩ := b
      cases pd
      exact pgs_nil.run pins s σ H _ uu Q I r ⟨rfl, k _ _ b _ _ .refl hR hE⟩
    | cons _ _ => cases h
  | .cons t ts, an, W, c, X, es, g, h => by
    cases es with
    | nil => cases h
    | cons e es =>
      unfold chkTL at h
      obtain ⟨h, h3⟩ := and_split h
      obtain ⟨h1, h2⟩ := and_split h
      refine ⟨fun pins s σ H us uu Q I r hq => ?_⟩
      obtain ⟨P, ds, ρ, M, RD, pd, hE, hR, b, k⟩ := hq
      cases ds with
      | nil => exact b.elim
      | cons d ds =>
        cases pd with
        | cons p1 p2 =>
          refine (pgs_cons (sndT t g h1) (sndTL ts g h3) (assignEach_cons h2)).run pins s σ H _ uu Q I r ⟨_, _, rfl, P, d, ρ, M, _, p1, hE, hR, b, fun ρ1 M1 b1 σ1 H1 e1 r1 E1 => ?_⟩
          exact ⟨P, ds, ρ1, M1, _, p2.ext e1, E1, r1, b1, fun ρ2 M2 b2 σ2 H2 e2 r2 E2 => k _ _ b2 _ _ (e1.trans e2) r2 E2⟩
end
end
end DS

/-! DS12: statements keep their word -/
namespace DS
open PySem PySem.Spec PyProof.Rows L2
section
variable {G : Gam} {an : An} {W : XW} {c : CT} {X : Cx}
theorem swaps_no {e : Expr} {t : Option Expr} {l : Nat} {env : Env} (h : isComp e = false) : swapsWith e t l env = pure false := by
  cases e <;> first | rfl | (exact (Bool.false_ne_true h.symm).elim)
theorem swaps_tgt {e t : Expr} {l : Nat} {env : Env} (h : (isNameE t && isComp e) = false) : swapsWith e (some t) l env = pure false := by
  cases hc : isComp e with
  | false => exact swaps_no hc
  | true =>
    rw [hc, Bool.and_true] at h
    cases t <;> first | (exact (Bool.false_ne_true h.symm).elim) | skip
    all_goals (cases e <;> first | (exact (Bool.false_ne_true hc).elim) | rfl)
theorem swapped_no {t e : Expr} {env : Env} (h : (isSeqT t && isTupE e) = false) : swappedStores [t] e env = pure none := by
  cases t <;> first | rfl | (cases e <;> first | rfl | (exact (Bool.false_ne_true h.symm).elim))
theorem not_of_not {b : Bool} (h : (!b) = true) : b = false := by cases b <;> first | rfl | cases h
theorem asg_one {t : Expr} {env : Env} (h : (!isStar t) = true) : (assignEach [t] env).map (·.2) = [assign t env] := assignEach_cons h
theorem nsw_ok (g : Good G an W c X) {t v : Expr} {l : Nat} (h : nsw c t v = true) : swapsWithSole [t] v l X.env = pure false := by
  unfold nsw at h
  split at h
  · rename_i x p elt gens scope pos
    have h := not_of_not h
    show (pure (X.env.blockKind == .function && X.env.kindOf x == some .local && p.line == pos.line && !(scope.names.any fun (n, k) => n == x && (k == .local || k == .cell))) : Sem Bool) = pure false
    congr 1
    have hk : (X.env.kindOf x == some .local) = decide (c.sc.names.lookup x = some .local) := by
      show (X.env.scope.names.lookup x == some .local) = _
      rw [g.sc]
      exact Bool.beq_eq_decide_eq _ _
    rw [hk]
    rw [Bool.and_assoc, Bool.and_assoc, ← Bool.and_assoc (decide _), h, Bool.and_false]
  · cases h
theorem sw_of (g : Good G an W c X) {y : Str} {py vpos : Pos} {elt : Expr} {gs : List Comprehension} {scope : Scope} {l : Nat} (w0 : c.sc.kind = .function) (w2 : c.sc.names.lookup y = some .local) (w3 : (py.line == vpos.line) = true) (w4 : (!(scope.names.any fun (n, k) => n == y && (k == .local || k == .cell))) = true) :
    swapsWith (.ListComp elt gs scope vpos) (some (.Name y py)) l X.env = pure true :=
  sw_true (by rw [g.sc]; exact w0) (by rw [g.sc]; exact w2) w3 (not_of_not w4)
theorem set_same {σ : L2.St} {i : Nat} {v : V} (h : σ[i]? = some (some v)) : σ.set i (some v) = σ := by
  apply List.ext_getElem?
  intro j
  by_cases e : i = j
  · subst e
    rw [List.getElem?_set_self (List.getElem?_eq_some_iff.mp h).1, h]
  · rw [List.getElem?_set_ne e]
theorem lc_key {m : Bool} {own : List (Str × Nat)} {elt : E} {tg : TG1} {it : IT} {cond : EO} : ∀ (σ : L2.St) (H : Hp) (Q : VK), lift X an (wpE G W (.lc m own elt tg it cond)) σ H Q →
    tLc (liftI X an (wpI G W it)) (gW X .top (own.map (·.2)) (bindT G (fun _ _ _ => False) tg)) (liftT X .top (wpC G (fun _ _ _ => False) cond)) (lift X .top (wpE G (fun _ _ _ => False) elt)) (own.map (·.2)) σ H Q := by
  rintro σ H Q ⟨P, ρ, M, R, hE, hR, hw, k⟩
  refine ⟨P, ρ, M, _, hE, hR, hw, fun xs gd M1 h1 J H1 e1 r1 hz hJ => ?_⟩
  intro D0 hD
  refine lc_fold (gW X .top (own.map (·.2)) (bindT G (fun _ _ _ => False) tg)) ?_ (hE.ext e1) r1 hJ hD hz h1 ?_
  · intro P v H M d ρ1 RD Q' pd hE hR b kk
    exact ⟨P, d, ρ1, M, RD, pd, hE, hR, b, fun ρ' M' hd σ' H' hw e r E' => kk ρ' M' hd σ' H' (hw.trans wipe_idem) e r E'⟩
  · intro ds M' hd us H' q1 q2 e r pp
    unfold newL at hd
    split at hd
    · exact k _ _ (hd D0 q2) _ _ (e1.trans (e.take hD)) (r.own (r1.nop hD) (an.cl _ _ _ _ _ (e.take hD) r1.ah) ⟨us, q1, pp.own⟩) (.ref D0)
    · exact k _ _ hd _ _ (e1.trans e) (r.show' (fun _ p => .inl p) (an.cl _ _ _ _ _ e r1.ah)) (.lst (.inl q1) q2 (r1.nop hD) (pp.show' fun _ p => .inl p))
/-- what follows a statement -/
def KS (X : Cx) (an : An) (P : Addr → Prop) (H : Hp) (M : Mp) (R : EndsD) (Dn : Ends) : Prop :=
  (∀ ρ' M', R.nx ρ' M' → ∀ σ' H', Ext H M H' M' → RelH (wd X an P) H' M' → RepE (wd X an P) H' M' ρ' σ' → Dn.nx σ' H') ∧
  (∀ d M', R.rt d M' → ∀ v H', Ext H M H' M' → RelH (wd X an P) H' M' → Rep (wd X an P) H' M' d v → Dn.rt v H') ∧
  (∀ ρ' M', R.bk ρ' M' → ∀ σ' H', Ext H M H' M' → RelH (wd X an P) H' M' → RepE (wd X an P) H' M' ρ' σ' → Dn.bk σ' H') ∧
  (∀ ρ' M', R.ct ρ' M' → ∀ σ' H', Ext H M H' M' → RelH (wd X an P) H' M' → RepE (wd X an P) H' M' ρ' σ' → Dn.ct σ' H')
theorem KS.later {P : Addr → Prop} {H H1 : Hp} {M M1 : Mp} {R : EndsD} {Dn : Ends} (k : KS X an P H M R Dn) (e : Ext H M H1 M1) : KS X an P H1 M1 R Dn :=
  ⟨fun ρ' M' h σ' H' e1 => k.1 ρ' M' h σ' H' (e.trans e1), fun d M' h v H' e1 => k.2.1 d M' h v H' (e.trans e1), fun ρ' M' h σ' H' e1 => k.2.2.1 ρ' M' h σ' H' (e.trans e1), fun ρ' M' h σ' H' e1 => k.2.2.2 ρ' M' h σ' H' (e.trans e1)⟩
theorem asg_lift {te : TD} {b : TGD} : ∀ (Dn : Ends) (σ : L2.St) (H : Hp), liftS X an (fun R ρ M => te ρ M fun d M1 => b d ρ M1 R.nx) Dn σ H → tAsg (lift X an te) (liftG X an b) Dn σ H := by
  rintro Dn σ H ⟨P, ρ, M, R, hE, hR, hw, k⟩
  refine ⟨P, ρ, M, _, hE, hR, hw, fun d M1 h1 v1 H1 e1 r1 p1 => ?_⟩
  exact ⟨P, d, ρ, M1, _, p1, hE.ext e1, r1, h1, fun ρ' M' h2 σ' H' e2 r2 E2 => k.1 _ _ h2 _ _ (e1.trans e2) r2 E2⟩
/-- no argument: X() of an own exception class -/
theorem pmk_own0 {C : Addr} {bmB : List Value} {B newId initId : String} {x : Str} {p pos : Pos} (F : ExcBaseFacts B newId initId bmB) (q : PySem.W.excIn X.K C bmB newId = true) (gC : X.mg x = some (.ref C))
    (kC : PySem.W.keepIn X.K (.ref C) = true) (r : Raises X (.ref C)) (hg : Gl X x) (hdb : (x == ("__debug__" : Str)) = false) :
    PMk X (.Call (.Name x p) [] [] pos) (fun σ H Q => Q (.ref C) none H) := by
  intro pins s σ H Q I h
  refine wpAny_Call_Name_kw (ld_glob I hg gC ?_ hdb)
  refine PySem.W.callWith_K0 I.kIn kC ?_
  show wpAny _ _ (call (.ref C) []) _ _ _
  obtain ⟨bm, N, nm, qn, bs, hdct, sn, sub, ab, col, dd, k0, k1, k2, k3, k5, mN, hC, hN, hni, T⟩ := exc_obj I.kIn q
  refine wpAny_call_exc_subT F T hC hN hni (fun h' e hm => ?_) (Nat.zero_le _)
  exact mk_of I hm r h (I.hok.gone hm.new)
theorem raise_mk {k : Str} {fs : List Str} {es : EL} {es' : List Expr} {p pos : Pos} (q : ExcF X k fs) (h : chkL c es es' = true) (hg : Gl X k) (hdb : (k == ("__debug__" : Str)) = false) (ha : PA X es' (liftAn X an (elLen es) (wpL G W es))) :
    PMk X (.Call (.Name k p) es' [] pos) (fun σ H Q => ∃ P ρ M R, RepE (wd X an P) H M ρ σ ∧ RelH (wd X an P) H M ∧ wpL G W es ρ M R ∧ ∀ ds M', R ds M' → ds.length = fs.length ∧ ∀ cls dd H', Ext H M H' M' → RelH (wd X an P) H' M' → RepX (wd X an P) H' M' (k, fs.zip ds) cls dd → Q cls dd H') := by
  obtain ⟨rfl, C, x⟩ := q
  have r := raises_own (X := X) x.sb x.ty
  cases es' with
  | nil =>
    have pm := pmk_own0 (p := p) (pos := pos) PySem.F.excBase_ValueError x.x x.g x.kp r hg hdb
    intro pins s σ H Q I hq
    refine pm pins s σ H Q I ?_
    obtain ⟨P, ρ, M, R, hE, hR, hw, kk⟩ := hq
    cases es with
    | nil => exact (kk _ _ hw).2 _ _ _ .refl hR ⟨C, rfl, x.g, .inl ⟨rfl, rfl⟩⟩
    | cons _ _ => cases h
  | cons e1 es1 =>
    intro pins s σ H Q I hq
    have hs := chkL_stars h
    unfold noStars at hs
    obtain ⟨s1, s2⟩ := and_split hs
    refine pmk_ownA (p := p) PySem.F.excBase_ValueError x.x x.g x.kp r hg ha hdb (star_of s1) (stars_none s2) pins s σ H Q I ?_
    obtain ⟨P, ρ, M, R, hE, hR, hw, kk⟩ := hq
    refine ⟨P, ρ, M, R, hE, hR, hw, fun ds M1 h1 vs H1 hl e1 r1 p1 => ⟨?_, ?_⟩⟩
    · rw [← p1.length, (kk _ _ h1).1]
      exact Nat.zero_le _
    · exact (kk _ _ h1).2 _ _ _ e1 r1 ⟨C, rfl, x.g, .inl ⟨rfl, rfl⟩⟩
end
section
variable {G : Gam}
mutual
theorem sndS : ∀ (t : S) {an : An} {W : XW} {c : CT} {X : Cx} {st : Stmt}, Good G an W c X → PassesOwn (model X.prog X.w) X.A X.env X.xe → chkS c t st = true → PS X st (liftS X an (wpS G W t))
  | .asg tg e, an, W, c, X, st, g, hp, h => by
    unfold chkS at h; split at h
    · rename_i t v pos
      obtain ⟨h, h5⟩ := and_split h
      obtain ⟨h, h4⟩ := and_split h
      obtain ⟨h, h3⟩ := and_split h
      obtain ⟨h1, h2⟩ := and_split h
      have hs : swapsWithSole [t] v pos.line X.env = pure false := by
        rcases Bool.or_eq_true_iff.mp h5 with q | q
        · exact swaps_tgt (not_of_not q)
        · exact nsw_ok g q
      exact PS.imp (ps_asg (sndE e g h2).1 (sndT tg g h1) hs (swapped_no (not_of_not h4)) (asg_one h3)) asg_lift
    · cases h
  | .asgc i e, an, W, c, X, st, g, hp, h => by
    unfold chkS at h; split at h
    · rename_i y py v pos
      split at h
      · rename_i m own elt tg it cond elt' tg' it' ifs scope vpos
        obtain ⟨h, h7⟩ := and_split h
        obtain ⟨h, h6⟩ := and_split h
        obtain ⟨h, h5⟩ := and_split h
        obtain ⟨h, h4⟩ := and_split h
        obtain ⟨h, h3⟩ := and_split h
        obtain ⟨h, h2⟩ := and_split h
        obtain ⟨h, h1⟩ := and_split h
        obtain ⟨h, w4⟩ := and_split h
        obtain ⟨h, w3⟩ := and_split h
        obtain ⟨h, w2⟩ := and_split h
        obtain ⟨w1, w0⟩ := and_split h
        have w1 := of_decide_eq_true w1
        have w0 := of_decide_eq_true w0
        have w2 := of_decide_eq_true w2
        have hb : BlkOk X.N X.env.scope scope own := blkOk_by (by rw [g.N, g.sc]; exact h1)
        have hl : X.env.scope.names.lookup y = some .local := by rw [g.sc]; exact w2
        refine PS.imp (ps_setLc (i := i) (g := gW X .top (own.map (·.2)) (bindT G (fun _ _ _ => False) tg)) (tt := liftT X .top (wpC G (fun _ _ _ => False) cond)) (te := lift X .top (wpE G (fun _ _ _ => False) elt)) g.calm g.nd (by rw [g.N]; exact w1) hl (sw_of g w0 w2 w3 w4) (sndI it g h4) hb (fun s H C cl fp => sndTW tg (g.blk (s := s) (H := H) (C := C) (cl := cl) (fp := fp)) h3 h2) (fun s H C cl fp => sndC cond (g.blk (s := s) (H := H) (C := C) (cl := cl) (fp := fp)) h5) (fun s H C cl fp => (sndE elt (g.blk (s := s) (H := H) (C := C) (cl := cl) (fp := fp)) h6).1) (fun _ => folded_of h7)) ?_
        rintro Dn σ H ⟨P, ρ, M, R, hE, hR, hw, k⟩
        refine lc_key σ H _ ⟨P, ρ, M, _, hE, hR, hw, fun d M1 h1 v1 H1 e1 r1 p1 => ?_⟩
        exact k.1 _ _ h1 _ _ e1 r1 ((hE.ext e1).set p1)
      · cases h
    · cases h
  | .par i j a b, an, W, c, X, st, g, hp, h => by
    unfold chkS at h; split at h
    · obtain ⟨h, h2⟩ := and_split h
      cases h2
    · cases h
  | .aug i op e, an, W, c, X, st, g, hp, h => by
    unfold chkS at h; split at h
    · obtain ⟨h, h3⟩ := and_split h
      obtain ⟨h1, h2⟩ := and_split h
      have e := of_decide_eq_true h2
      subst e
      obtain ⟨a1, a2, a3⟩ := wr_of g h1
      refine PS.imp (ps_aug g.nd a1 a2 (sndE e g h3).1 (augD_ok (an := an) op) a3) ?_
      rintro Dn σ H ⟨P, ρ, M, R, hE, hR, hw, k⟩
      unfold wpS at hw
      split at hw
      · rename_i x es
        obtain ⟨v, q1, q2⟩ := hE.2 i _ (slot_get es)
        refine ⟨v, q1, P, ρ, M, _, hE, hR, hw, fun y M1 h1 v1 H1 e1 r1 p1 => ?_⟩
        refine ⟨P, x, y, M1, _, q2.ext e1, p1, r1, h1, fun z M2 h2 v2 H2 e2 r2 p2 => ?_⟩
        exact k.1 _ _ h2 _ _ (e1.trans e2) r2 (((hE.ext e1).ext e2).set p2)
      · exact hw.elim
    · cases h
  | .ex e, an, W, c, X, st, g, hp, h => by
    unfold chkS at h; split at h
    · obtain ⟨h1, h2⟩ := and_split h
      refine PS.imp (ps_expr (sndE e g h1).1 (swaps_no (not_of_not h2))) ?_
      rintro Dn σ H ⟨P, ρ, M, R, hE, hR, hw, k⟩
      exact ⟨P, ρ, M, _, hE, hR, hw, fun d M1 h1 v1 H1 e1 r1 p1 => k.1 _ _ h1 _ _ e1 r1 (hE.ext e1)⟩
    · cases h
  | .ret e, an, W, c, X, st, g, hp, h => by
    unfold chkS at h; split at h
    · refine PS.imp (ps_ret (sndE e g h).1) ?_
      rintro Dn σ H ⟨P, ρ, M, R, hE, hR, hw, k⟩
      exact ⟨P, ρ, M, _, hE, hR, hw, fun d M1 h1 v1 H1 e1 r1 p1 => k.2.1 _ _ h1 _ _ e1 r1 p1⟩
    · cases h
  | .retN, an, W, c, X, st, g, hp, h => by
    unfold chkS at h; split at h
    · refine PS.imp ps_retN ?_
      rintro Dn σ H ⟨P, ρ, M, R, hE, hR, hw, k⟩
      exact k.2.1 _ _ hw _ _ .refl hR .non
    · cases h
  | .ifs t a b, an, W, c, X, st, g, hp, h => by
    unfold chkS at h; split at h
    · obtain ⟨h, h4⟩ := and_split h
      obtain ⟨h, h3⟩ := and_split h
      obtain ⟨h1, h2⟩ := and_split h
      refine PS.imp (ps_if ((sndE t g h2).2 h1) (sndSs a g hp h3) (sndSs b g hp h4)) ?_
      rintro Dn σ H ⟨P, ρ, M, R, hE, hR, hw, k⟩
      refine ⟨P, ρ, M, _, hE, hR, hw, fun z M1 h1 H1 e1 r1 => ?_⟩
      have k1 := KS.later (X := X) (an := an) k e1
      cases z with
      | true => exact ⟨P, ρ, M1, R, hE.ext e1, r1, h1, k1⟩
      | false => exact ⟨P, ρ, M1, R, hE.ext e1, r1, h1, k1⟩
    · cases h
  | .for tg it b, an, W, c, X, st, g, hp, h => by
    unfold chkS at h; split at h
    · obtain ⟨h, h4⟩ := and_split h
      obtain ⟨h, h3⟩ := and_split h
      obtain ⟨h1, h2⟩ := and_split h
      refine PS.imp (ps_for hp g.calm (sndI it g h2) (sndT tg g h1) (sndSs b g hp h3) (fun _ => folded_of h4)) ?_
      rintro Dn σ H ⟨P, ρ, M, R, hE, hR, hw, k⟩
      refine ⟨P, ρ, M, _, hE, hR, hw, fun xs gd M1 h1 J H1 e1 r1 hz hJ => ?_⟩
      have k1 := KS.later (X := X) (an := an) k e1
      exact for_fold (hE.ext e1) r1 hJ h1 k1.1 k1.2.1
    · cases h
  | .while t b, an, W, c, X, st, g, hp, h => by
    unfold chkS at h; split at h
    · obtain ⟨h, h3⟩ := and_split h
      obtain ⟨h1, h2⟩ := and_split h
      refine PS.imp (ps_while hp ((sndE t g h2).2 h1) (sndSs b g hp h3)) ?_
      rintro Dn σ H ⟨P, ρ, M, R, hE, hR, hw, k⟩
      obtain ⟨I, ⟨m0, i0⟩, turn⟩ := hw
      refine ⟨fun m σ1 H1 => ∃ ρ1 M1, RepE (wd X an P) H1 M1 ρ1 σ1 ∧ RelH (wd X an P) H1 M1 ∧ Ext H M H1 M1 ∧ I m ρ1 M1, ⟨m0, ρ, M, hE, hR, .refl, i0⟩, ?_⟩
      rintro m σ1 H1 ⟨ρ1, M1, hE1, hR1, e1, i1⟩
      refine ⟨P, ρ1, M1, _, hE1, hR1, turn m ρ1 M1 i1, fun z M2 h2 H2 e2 r2 => ?_⟩
      have e12 := e1.trans e2
      cases z with
      | true =>
        show ∃ _, _
        refine ⟨fun σ' H' => ∃ m', m' < m ∧ ∃ ρ' M', RepE (wd X an P) H' M' ρ' σ' ∧ RelH (wd X an P) H' M' ∧ Ext H M H' M' ∧ I m' ρ' M', fun σ' H' q => q, P, ρ1, M2, _, hE1.ext e2, r2, h2, ?_, ?_, ?_, ?_⟩
        · rintro ρ' M' ⟨m', hm, i'⟩ σ' H' e r E
          exact ⟨m', hm, ρ', M', E, r, e12.trans e, i'⟩
        · exact fun d M' hd v H' e r p => k.2.1 _ _ hd _ _ (e12.trans e) r p
        · exact fun ρ' M' hd σ' H' e r E => k.1 _ _ hd _ _ (e12.trans e) r E
        · rintro ρ' M' ⟨m', hm, i'⟩ σ' H' e r E
          exact ⟨m', hm, ρ', M', E, r, e12.trans e, i'⟩
      | false => exact k.1 _ _ h2 _ _ e12 r2 (hE1.ext e2)
    · cases h
  | .pass, an, W, c, X, st, g, hp, h => by
    unfold chkS at h; split at h
    · refine PS.imp ps_pass ?_
      rintro Dn σ H ⟨P, ρ, M, R, hE, hR, hw, k⟩
      exact k.1 _ _ hw _ _ .refl hR hE
    · cases h
  | .brk, an, W, c, X, st, g, hp, h => by
    unfold chkS at h; split at h
    · refine PS.imp ps_break ?_
      rintro Dn σ H ⟨P, ρ, M, R, hE, hR, hw, k⟩
      exact k.2.2.1 _ _ hw _ _ .refl hR hE
    · cases h
  | .cont, an, W, c, X, st, g, hp, h => by
    unfold chkS at h; split at h
    · refine PS.imp ps_continue ?_
      rintro Dn σ H ⟨P, ρ, M, R, hE, hR, hw, k⟩
      exact k.2.2.2 _ _ hw _ _ .refl hR hE
    · cases h
  | .raise k0 es, an, W, c, X, st, g, hp, h => by
    unfold chkS at h; split at h
    · rename_i x p es' p2 p3
      obtain ⟨h, h3⟩ := and_split h
      obtain ⟨h1, h2⟩ := and_split h
      have e := of_decide_eq_true h2
      obtain ⟨b1, b2⟩ := gl_of g h1
      cases hc : nth G.exc k0 with
      | none =>
        refine PS.imp (t := fun _ _ _ => False) ⟨fun _ _ _ _ _ _ z => z.elim⟩ ?_
        rintro Dn σ H ⟨P, ρ, M, R, hE, hR, hw, k⟩
        unfold wpS at hw
        rw [hc] at hw
        exact hw.elim
      | some kfs =>
        obtain ⟨kk, fs⟩ := kfs
        obtain ⟨rfl, ex⟩ := g.exc _ _ _ _ e hc
        refine PS.imp (ps_raise g.calm g.tk (raise_mk ex h3 b1 b2 (sndL es g h3))) ?_
        rintro Dn σ H ⟨P, ρ, M, R, hE, hR, hw, k⟩
        unfold wpS at hw
        rw [hc] at hw
        exact ⟨P, ρ, M, _, hE, hR, hw, fun ds M1 h1 => ⟨h1.1, fun cls dd H' e r q => ⟨P, _, ρ, M1, hE.ext e, r, q, h1.2⟩⟩⟩
    · cases h
  | .fz i, an, W, c, X, st, g, hp, h => by cases h
theorem sndSs : ∀ (t : SL) {an : An} {W : XW} {c : CT} {X : Cx} {ss : List Stmt}, Good G an W c X → PassesOwn (model X.prog X.w) X.A X.env X.xe → chkSs c t ss = true → PSs X ss (liftS X an (wpSs G W t))
  | .nil, an, W, c, X, ss, g, hp, h => by
    cases ss with
    | nil =>
      refine PSs.imp pss_nil ?_
      rintro Dn σ H ⟨P, ρ, M, R, hE, hR, hw, k⟩
      exact k.1 _ _ hw _ _ .refl hR hE
    | cons _ _ => cases h
  | .cons s r, an, W, c, X, ss, g, hp, h => by
    cases s with
    | fz i =>
      unfold chkSs at h
      refine PSs.imp (sndSs r g hp h) ?_
      rintro Dn σ H ⟨P, ρ, M, R, hE, hR, hw, k⟩
      unfold wpSs wpS at hw
      split at hw
      · rename_i a es
        obtain ⟨v, q1, q2⟩ := hE.2 i _ (slot_get es)
        cases q2
        have k1 := KS.later (X := X) (an := an) k (Ext.give (a := a))
        have np : ∀ o, M a = some o → ¬ P a := fun o em pp => by
          have := (hR.pv a pp).1
          rw [em] at this; cases this
        split at hw
        · rename_i ds em
          obtain ⟨vs, z1, z2⟩ := hR.ob _ _ em
          refine ⟨P, _, _, R, ?_, hR.give, hw, k1⟩
          have := (hE.ext (Ext.give (a := a))).set (i := i) (.lst (.inl z1) mdel_same (np _ em) (z2.ext Ext.give))
          rw [set_same q1] at this
          exact this
        · rename_i ds em
          obtain ⟨vs, z1, z2⟩ := hR.ob _ _ em
          refine ⟨P, _, _, R, ?_, hR.give, hw, k1⟩
          have := (hE.ext (Ext.give (a := a))).set (i := i) (.dic (.inl z1) mdel_same (np _ em) (z2.ext Ext.give))
          rw [set_same q1] at this
          exact this
        · rename_i kc ds em
          obtain ⟨C, dx, vs, z1, z3, z2⟩ := hR.ob _ _ em
          refine ⟨P, _, _, R, ?_, hR.give, hw, k1⟩
          have := (hE.ext (Ext.give (a := a))).set (i := i) (.ins z1 mdel_same (np _ em) z3 (z2.ext Ext.give))
          rw [set_same q1] at this
          exact this
        · exact hw.elim
      · exact hw.elim
    | _ =>
      cases ss with
      | nil => cases h
      | cons s' r' =>
        unfold chkSs at h
        obtain ⟨h1, h2⟩ := and_split h
        refine PSs.imp (pss_cons (sndS _ g hp h1) (sndSs r g hp h2)) ?_
        rintro Dn σ H ⟨P, ρ, M, R, hE, hR, hw, k⟩
        refine ⟨P, ρ, M, _, hE, hR, hw, ?_, k.2.1, k.2.2.1, k.2.2.2⟩
        exact fun ρ' M' h' σ' H' e r E => ⟨P, ρ', M', R, E, r, h', KS.later (X := X) (an := an) k e⟩
end
end
end DS

/-! DS13: a def keeps its promise -/
namespace DS
open PySem PySem.Spec PyProof.Rows L2
/-- a def's promise, at a level below lvl -/
structure FnS (P : Program) (w : World) (K : PySem.W.Frag) (mg : Str → Option Value) (base : Heap) (lvl n : Nat) (sp : SpD) (f : Addr) : Prop where
  ok : ∃ k fd ps, k ≤ lvl ∧ FnOk P w K mg base (L2.CX P w) k f fd ps (liftSp K mg n sp) ∧ Binds K fd ps []
  kp : PySem.W.keepIn K (.ref f) = true
structure ExcS (K : PySem.W.Frag) (mg : Str → Option Value) (k : Str) (C : Addr) : Prop where
  g : mg k = some (.ref C)
  x : PySem.W.excIn K C [.type "ValueError", .type "Exception", .type "BaseException", .type "object"] "ValueError.__new__" = true
  kp : PySem.W.keepIn K (.ref C) = true
  sb : PySem.W.subIn K (.ref C) (.type "BaseException") = some true
  ty : PySem.W.typeIn K (.ref C) = some (.type "type")
/-- what stands outside a def, below the level lvl -/
structure Tab (P : Program) (w : World) (K : PySem.W.Frag) (mg : Str → Option Value) (base : Heap) (lvl : Nat) (G : Gam) (fnN : List Str) (mtN : List (Str × Str)) (cstN excN : List Str) : Prop where
  blt : ∀ x ∈ bnames, mg x = none
  cst : ∀ i x d, nth cstN i = some x → nth G.cst i = some d → ∃ v u, mg x = some u ∧ RelV v u ∧ ∀ an Pp H M, Rep ⟨K, mg, Pp, an⟩ H M d v
  fn : ∀ i x n sp, nth fnN i = some x → nth G.fn i = some (n, sp) → ∃ f, mg x = some (.ref f) ∧ FnS P w K mg base lvl n sp f
  mt : ∀ i k m k' m' n sp, nth mtN i = some (k', m') → nth G.mt i = some (k, m, n, sp) → k' = k ∧ m' = m ∧ ∃ C f, mg k = some (.ref C) ∧ Cls K C ∧ Meth K C m f ∧ FnS P w K mg base lvl n sp f ∧ (m = "__init__" → Mk K C f)
  fl : ∀ k f, (k, f) ∈ G.fl → ∃ C, mg k = some (.ref C) ∧ Cls K C ∧ NoAttr K C f
  exc : ∀ i k k' fs, nth excN i = some k' → nth G.exc i = some (k, fs) → k' = k ∧ (fs = [] ∧ ∃ C, ExcS K mg k C)
def startD (N : List Str) (ds : List D) : Env1 := ds.map some ++ List.replicate (N.length - ds.length) none
section
variable {K : PySem.W.Frag} {mg : Str → Option Value} {P P' : Addr → Prop} {an an' : An} {H : Hp} {M : Mp}
theorem Rep.anc : ∀ {d : D} {v : V}, Rep ⟨K, mg, P, an⟩ H M d v → Rep ⟨K, mg, P, an'⟩ H M d v := Rep.show' fun _ p => p
theorem Reps.anc : ∀ {d : List D} {v : List V}, Reps ⟨K, mg, P, an⟩ H M d v → Reps ⟨K, mg, P, an'⟩ H M d v := Reps.show' fun _ p => p
theorem start_rep {N : List Str} {ds : List D} {vs : List V} (p : Reps ⟨K, mg, P, an⟩ H M ds vs) : RepE ⟨K, mg, P, an⟩ H M (startD N ds) (L2.start N vs) := by
  unfold startD L2.start
  refine ⟨by simp [p.length], fun i d h => ?_⟩
  by_cases hi : i < ds.length
  · rw [List.getElem?_append_left (by simpa using hi), List.getElem?_map] at h
    cases e : ds[i]? with
    | none => rw [e] at h; cases h
    | some d' =>
      rw [e] at h
      cases h
      obtain ⟨v, h1, h2⟩ := p.get e
      exact ⟨v, by rw [List.getElem?_append_left (by rw [List.length_map, ← p.length]; exact hi), List.getElem?_map, h1]; rfl, h2⟩
  · rw [List.getElem?_append_right (by simpa using hi), List.getElem?_replicate] at h
    split at h <;> cases h
/-- since the entry at H, M with the places P -/
def since (P : Addr → Prop) (H : Hp) (M : Mp) : An where
  ph := fun P' H' M' => P' = P ∧ Ext H M H' M'
  cl := fun _ _ _ _ _ e h => ⟨h.1, h.2.trans e⟩
end
section
variable {P : Program} {w : World} {K : PySem.W.Frag} {mg : Str → Option Value} {base : Heap}
theorem fn_ok {x qual : Str} {st : Stmt} {f : Addr} {fd : FuncData} {N ps : List Str} {n lvl : Nat} {sp : SpD} {G : Gam} {body : SL} {fnN : List Str} {mtN : List (Str × Str)} {cstN excN : List Str}
    (F : Fun K x qual st f fd) (S : FnScope N ps (defScope st)) (hn : ps.length = n) (T : Tab P w K mg base lvl G fnN mtN cstN excN) (ck : chkSs ⟨N, defScope st, defScope st, fnN, mtN, cstN, excN⟩ body (defBody st) = true)
    (hsp : ∀ ds M R RX, ds.length = n → sp ds M R RX → wpSs G (fun x _ M => RX x M) body ⟨fun _ M => R .non M, R, fun _ _ => False, fun _ _ => False⟩ (startD N ds) M) :
    FnOk P w K mg base (L2.CX P w) (lvl + 2) f fd ps (liftSp K mg n sp) := by
  refine F.okX S (fun vs H Q E h => ?_) (fun cdv A outer s H vs Q E hr h => ?_)
  · obtain ⟨_, _, ds, _, _, _, hl, pd, _⟩ := h
    rw [← pd.length, hl, hn]
  · obtain ⟨Pp, an, ds, M, R, RX, hl, pd, rh, hs, k1, k2⟩ := h
    let an' := since Pp H M
    have rh' : RelH ⟨K, mg, Pp, an'⟩ H M := rh.show' (fun _ p => p) ⟨rfl, .refl⟩
    have back : ∀ {H' : Hp} {M' : Mp} {P' : Addr → Prop}, RelH ⟨K, mg, P', an'⟩ H' M' → P' = Pp ∧ Ext H M H' M' ∧ RelH ⟨K, mg, P', an⟩ H' M' := fun {H' M' P'} r => by
      obtain ⟨e1, e2⟩ := r.ah
      have z : an.ph Pp H' M' := an.cl _ _ _ _ _ e2 rh.ah
      have z' : an.ph P' H' M' := by rw [show P' = Pp from e1]; exact z
      exact ⟨e1, e2, r.show' (fun _ p => p) z'⟩
    let X := cxOf (L2.CX P w) P w K mg base N qual (defScope st) f cdv A outer s H E
    have fnD : ∀ {n : Nat} {sp : SpD} {f : Addr} {j : Nat}, j ≤ 1 → FnS P w K mg base lvl n sp f → FnD X n sp j f := fun {n sp f j} hj h => by
      obtain ⟨⟨k, fd, ps, hk, F, hb⟩, kp⟩ := h
      exact ⟨⟨k, fd, ps, F, hr.mono (by omega), hb⟩, kp⟩
    have good : Good G an' (fun x _ M => RX x M) ⟨N, defScope st, defScope st, fnN, mtN, cstN, excN⟩ X := by
      refine ⟨rfl, rfl, fun y hy => ⟨hy, .inl rfl⟩, S.nd, rfl, ⟨_, hr⟩, T.blt, T.cst, fun i y n sp e1 e2 => ?_, fun i k m k' m' n sp e1 e2 => ?_, T.fl, fun i k k' fs e1 e2 => ?_, ?_⟩
      · obtain ⟨f, h1, h2⟩ := T.fn i y n sp e1 e2
        exact ⟨f, h1, fnD (by omega) h2⟩
      · obtain ⟨z1, z2, C, f, h1, h2, h3, h4, h5⟩ := T.mt i k m k' m' n sp e1 e2
        exact ⟨z1, z2, C, f, h1, h2, h3, fnD (by omega) h4, h5⟩
      · obtain ⟨z1, z2, C, h1⟩ := T.exc i k k' fs e1 e2
        exact ⟨z1, z2, C, ⟨h1.g, h1.x, h1.kp, h1.sb, h1.ty⟩⟩
      · refine (takes_of rfl rfl rfl rfl).imp fun cls dd σ H' h => ?_
        obtain ⟨P', x, ρ, M', hE, r, q, hw⟩ := h
        obtain ⟨e1, e2, r2⟩ := back r
        rw [e1] at r2 q
        obtain ⟨C, c1, c2, c3⟩ := q
        refine k2 x M' hw cls dd H' e2 r2 ⟨C, c1, c2, ?_⟩
        rcases c3 with c3 | ⟨d, vs, d1, d2, d3⟩
        · exact .inl c3
        · exact .inr ⟨d, vs, d1, d2, fun f e he => let ⟨v, v1, v2⟩ := d3 f e he; ⟨v, v1, v2.anc⟩⟩
    refine ⟨liftS X an' (wpSs G (fun x _ M => RX x M) body), sndSs body good (passes_of rfl) ck, ?_⟩
    refine ⟨Pp, startD N ds, M, _, start_rep pd.anc, rh', hsp ds M R RX hl hs, fun ρ' M' h σ' H' e r E' => ?_, fun d M' h v H' e r p => ?_, fun ρ' M' h => h.elim, fun ρ' M' h => h.elim⟩
    · obtain ⟨_, e2, r2⟩ := back r
      exact k1 _ _ h _ _ e r2 .non
    · obtain ⟨_, e2, r2⟩ := back r
      exact k1 _ _ h _ _ e r2 p.anc
theorem FnS.mk' {x qual : Str} {st : Stmt} {f : Addr} {fd : FuncData} {ps : List Str} {lvl k n : Nat} {sp : SpD} (F : Fun K x qual st f fd) (h : FnOk P w K mg base (L2.CX P w) k f fd ps (liftSp K mg n sp)) (hk : k ≤ lvl) (hb : Binds K fd ps []) : FnS P w K mg base lvl n sp f :=
  ⟨⟨k, fd, ps, hk, h, hb⟩, F.kp⟩
end
end DS

/-! DS14: tables of what stands outside, the law's end -/
namespace DS
open PySem PySem.Spec PyProof.Rows L2
section
variable {P : Program} {w : World} {K : PySem.W.Frag} {mg : Str → Option Value} {base : Heap}
theorem FnS.mono {l l' n : Nat} {sp : SpD} {f : Addr} (h : FnS P w K mg base l n sp f) (hl : l ≤ l') : FnS P w K mg base l' n sp f := by
  obtain ⟨⟨k, fd, ps, hk, F, hb⟩, kp⟩ := h
  exact ⟨⟨k, fd, ps, Nat.le_trans hk hl, F, hb⟩, kp⟩
variable {lvl : Nat} {fn : List (Nat × SpD)} {mt : List (Str × Str × Nat × SpD)} {cst : List D} {exc : List (Str × List Str)} {fl : List (Str × Str)} {fnN : List Str} {mtN : List (Str × Str)} {cstN excN : List Str}
theorem Tab.nil (h : ∀ x ∈ bnames, mg x = none) : Tab P w K mg base lvl ⟨[], [], [], [], []⟩ [] [] [] [] :=
  ⟨h, (fun i x d e => by cases e), (fun i x n sp e => by cases e), (fun i k m k' m' n sp e => by cases e), (fun k f e => by cases e), (fun i k k' fs e => by cases e)⟩
theorem Tab.fnc {x : Str} {n l : Nat} {sp : SpD} {f : Addr} (T : Tab P w K mg base lvl ⟨fn, mt, cst, exc, fl⟩ fnN mtN cstN excN) (g : mg x = some (.ref f)) (h : FnS P w K mg base l n sp f) (hl : l ≤ lvl) :
    Tab P w K mg base lvl ⟨(n, sp) :: fn, mt, cst, exc, fl⟩ (x :: fnN) mtN cstN excN := by
  refine ⟨T.blt, T.cst, fun i y m s e1 e2 => ?_, T.mt, T.fl, T.exc⟩
  cases i with
  | zero => cases e1; cases e2; exact ⟨f, g, h.mono hl⟩
  | succ i => exact T.fn i y m s e1 e2
theorem Tab.cstc {x : Str} {d : D} {v : V} {u : Value} (T : Tab P w K mg base lvl ⟨fn, mt, cst, exc, fl⟩ fnN mtN cstN excN) (g : mg x = some u) (r : RelV v u) (h : ∀ an Pp H M, Rep ⟨K, mg, Pp, an⟩ H M d v) :
    Tab P w K mg base lvl ⟨fn, mt, d :: cst, exc, fl⟩ fnN mtN (x :: cstN) excN := by
  refine ⟨T.blt, fun i y e e1 e2 => ?_, T.fn, T.mt, T.fl, T.exc⟩
  cases i with
  | zero => cases e1; cases e2; exact ⟨v, u, g, r, h⟩
  | succ i => exact T.cst i y e e1 e2
theorem Tab.mtc {k m : Str} {n l : Nat} {sp : SpD} {C f : Addr} (T : Tab P w K mg base lvl ⟨fn, mt, cst, exc, fl⟩ fnN mtN cstN excN) (g : mg k = some (.ref C)) (c : Cls K C) (hm : Meth K C m f) (h : FnS P w K mg base l n sp f) (hl : l ≤ lvl) (hk : m = "__init__" → Mk K C f) :
    Tab P w K mg base lvl ⟨fn, (k, m, n, sp) :: mt, cst, exc, fl⟩ fnN ((k, m) :: mtN) cstN excN := by
  refine ⟨T.blt, T.cst, T.fn, fun i k1 m1 k2 m2 n1 s e1 e2 => ?_, T.fl, T.exc⟩
  cases i with
  | zero => cases e1; cases e2; exact ⟨rfl, rfl, C, f, g, c, hm, h.mono hl, hk⟩
  | succ i => exact T.mt i k1 m1 k2 m2 n1 s e1 e2
theorem Tab.flc {k f : Str} {C : Addr} (T : Tab P w K mg base lvl ⟨fn, mt, cst, exc, fl⟩ fnN mtN cstN excN) (g : mg k = some (.ref C)) (c : Cls K C) (h : NoAttr K C f) :
    Tab P w K mg base lvl ⟨fn, mt, cst, exc, (k, f) :: fl⟩ fnN mtN cstN excN := by
  refine ⟨T.blt, T.cst, T.fn, T.mt, fun k1 f1 e => ?_, T.exc⟩
  rcases List.mem_cons.mp e with e | e
  · cases e; exact ⟨C, g, c, h⟩
  · exact T.fl k1 f1 e
theorem Tab.excc {k : Str} {C : Addr} (T : Tab P w K mg base lvl ⟨fn, mt, cst, exc, fl⟩ fnN mtN cstN excN) (h : ExcS K mg k C) :
    Tab P w K mg base lvl ⟨fn, mt, cst, (k, []) :: exc, fl⟩ fnN mtN cstN (k :: excN) := by
  refine ⟨T.blt, T.cst, T.fn, T.mt, T.fl, fun i k1 k2 fs e1 e2 => ?_⟩
  cases i with
  | zero => cases e1; cases e2; exact ⟨rfl, rfl, C, h⟩
  | succ i => exact T.exc i k1 k2 fs e1 e2
theorem fun_of {x qual : Str} {st : Stmt} {f : Addr} {fd : FuncData} {kws : List (Str × V)} (F : FunD K x qual (defArgs st) (defBody st) (defScope st) [] kws f fd) : Fun K x qual st f fd := by
  obtain ⟨oc, od, dV, kV, doc, pm, an, cdv, ct, osl, e, l, c, hd, _⟩ := F.ex
  rcases hd with ⟨_, e2⟩ | ⟨e2, _⟩
  · subst e2
    exact ⟨⟨oc, od, kV, doc, pm, an, cdv, ct, osl, e, l, c⟩, F.kp⟩
  · exact absurd rfl e2
/-- a def of the text, without defaults -/
abbrev dS (at_ : Str × Option Str) (x qual : Str) (st : Stmt) : He.DefD := ⟨at_, x, qual, defArgs st, defBody st, defScope st, [], []⟩
abbrev FnP (K : PySem.W.Frag) (at_ : Str × Option Str) (x qual : Str) (st : Stmt) : Prop := ∃ fd, FunD K x qual (defArgs st) (defBody st) (defScope st) [] [] (He.fAd K at_) fd
abbrev BindOk (x qual : Str) (st : Stmt) (ps : List Str) : Prop := ∀ (kV doc pm : Value) (an : Option Addr) (cdv ct : Value) (us : List Value), us.length = ps.length → bindArgs (PySem.W.fnOf x qual (defArgs st) (defBody st) (defScope st) .none kV doc pm an cdv ct) ⟨us, []⟩ = pure (ps.zip us)
theorem fnS_ok {at_ : Str × Option Str} {x qual : Str} {st : Stmt} {N ps : List Str} {n : Nat} {sp : SpD} {G : Gam} {body : SL}
    (F : FnP K at_ x qual st) (hb : BindOk x qual st ps) (S : FnScope N ps (defScope st)) (hn : ps.length = n) (T : Tab P w K mg base lvl G fnN mtN cstN excN) (ck : chkSs ⟨N, defScope st, defScope st, fnN, mtN, cstN, excN⟩ body (defBody st) = true)
    (hsp : ∀ ds M R RX, ds.length = n → sp ds M R RX → wpSs G (fun x _ M => RX x M) body ⟨fun _ M => R .non M, R, fun _ _ => False, fun _ _ => False⟩ (startD N ds) M) : FnS P w K mg base (lvl + 2) n sp (He.fAd K at_) := by
  obtain ⟨fd, F⟩ := F
  exact FnS.mk' (fun_of F) (fn_ok (fun_of F) S hn T ck hsp) (Nat.le_refl _) ((fun_of F).binds hb)
theorem FnS.void {at_ : Str × Option Str} {x qual : Str} {st : Stmt} {ps : List Str} {n l : Nat} {sp : SpD} (F : FnP K at_ x qual st) (hb : BindOk x qual st ps) (h : ∀ ds M R RX, ¬ sp ds M R RX) : FnS P w K mg base l n sp (He.fAd K at_) := by
  obtain ⟨fd, F⟩ := F
  refine FnS.mk' (k := 0) (ps := ps) (fun_of F) ⟨fun vs H Q E z => ?_, fun A outer s H args us vs Q E _ _ _ _ z => ?_⟩ (Nat.zero_le _) ((fun_of F).binds hb)
  · obtain ⟨_, _, ds, M, R, RX, _, _, _, z, _⟩ := z; exact (h _ _ _ _ z).elim
  · obtain ⟨_, _, ds, M, R, RX, _, _, _, z, _⟩ := z; exact (h _ _ _ _ z).elim
/-- a def that calls itself -/
theorem FnS.rec' {sp : Nat → SpD} {n l : Nat} {f : Addr} (h0 : FnS P w K mg base l n (sp 0) f) (step : ∀ d, FnS P w K mg base (l + 2 * d) n (sp d) f → FnS P w K mg base (l + 2 * d + 2) n (sp (d + 1)) f) : ∀ d, FnS P w K mg base (l + 2 * d) n (sp d) f
  | 0 => h0
  | d + 1 => step d (FnS.rec' h0 step d)
theorem says_mem {fa : List He.Fa} {fn : List He.DefD} (c : He.SaysD fa fn K) {f : He.Fa} (h : f ∈ fa) : f.ok K = true := by
  have c1 := (He.ba (show ((fa.all fun f => f.ok K) && fn.all fun d => d.ok K) = true from congrArg (fun z : He.AlD => z.1) c)).1
  exact List.all_eq_true.mp c1 f h
theorem blt_of {fa : List He.Fa} {fn : List He.DefD} {h : Heap} (X : K.In h) (G : h.Ns mainGlobals mg) (c : He.SaysD (bnames.map He.Fa.free ++ fa) fn K) : ∀ x ∈ bnames, mg x = none :=
  fun _ hx => He.free_ok X G (says_mem c (List.mem_append_left _ (List.mem_map.mpr ⟨_, hx, rfl⟩)))
/-- the law's promise -/
def spLaw (n : Nat) : SpD := fun ds M R RX => ∃ ns : List Int, ds = [.lst (ns.map D.int)] ∧ ns.length ≤ n ∧ M = (fun _ => none) ∧ ∀ M', R (.bl true) M'
theorem reps_ints {F : Wd} {H : Hp} {M : Mp} : ∀ ns : List Int, Reps F H M (ns.map D.int) (ns.map V.int)
  | [] => .nil
  | n :: r => .cons (.int n) (reps_ints r)
theorem law_sp {n : Nat} {H : Hp} {a : Addr} {ns : List Int} (hl : ns.length ≤ n) (hS : SqL K H a (ns.map V.int)) : liftSp K mg 1 (spLaw n) [.ref a] H (fun v _ => v = .bl true) fun _ _ _ => False := by
  refine ⟨fun _ => False, .top, [.lst (ns.map D.int)], fun _ => none, fun d _ => d = .bl true, fun _ _ => False, rfl, .cons ?_ .nil, ⟨(fun a o e => by cases e), (fun a (h : False) => h.elim), trivial⟩, ⟨ns, rfl, hl, rfl, fun _ => rfl⟩, fun d M' e v H' _ _ p => ?_, fun x M' e => e.elim⟩
  · rcases hS with h | h
    · exact .lst h rfl (fun e => e) (reps_ints ns)
    · exact .lstK h (reps_ints ns)
  · subst e; cases p; rfl
theorem walk_w {l : PySem.W.OpenLaw} {n k : Nat} {q : Program} {loose : List Str} {XP : (Str → Option Value) → Heap → Prop} {YP : World → Heap → Prop} {d : DefRec} {CX : World → CXT} {x : Str}
    (hn : l.most = some n) (hn2 : n ≤ sizeLine) (hdf : d.params.defaults = []) (hr : Room k callerA)
    (F : ∀ (w : World) (mg : Str → Option Value) (fa : Addr) (h : Heap), YP w h → h.Ns mainGlobals mg → mg d.name = some (.ref fa) →
      ∃ (K : PySem.W.Frag) (fd : FuncData) (sp : Sp), K.In h ∧ (∀ (s : Shared) (u : Value), BindsTo s fd ⟨[u], []⟩ [(x, u)]) ∧
        (∀ (H : Hp) (a : Addr) (ns : List Int), ns.length ≤ n → Only H → SqL K H a (ns.map V.int) → sp [.ref a] H (fun v _ => v = .bl true) fun _ _ _ => False) ∧
        ∀ base : Heap, K.In base → base.Ns mainGlobals mg → FnOk l.prog w K mg base (CX w) k fa fd [x] sp)
    (hCX : ∀ (w : World) (H : Hp) (s : Shared) (e : Value) (s' : Shared), CX w [] H s (fun _ _ _ => False) e s' → False) :
    PySem.W.WalkO q loose XP YP l.row.toRowW d [] (fun f vs => PySem.call f vs) := by
  refine Att.attach_call hn hdf fun w s₀ s₁ mg mb fa o pm cd doc a vs ns G Y ho hd hcd hmg hobj hints hlen hg => ?_
  obtain ⟨K, fd, sp, KX, hb, hsp, hF⟩ := F w mg fa _ Y G.T.g hmg
  exact law_call KX G.T.g G.T.b G.T.builtins G.T.nolimit hg hobj hints (Nat.le_trans hlen hn2) hr hF hb (fun H hO hS => hsp H a ns hlen hO hS) fun H e s' => hCX w H s₁ e s'
theorem law_end {l : PySem.W.OpenLaw} {n : Nat} {q : Program} {loose : List Str} {XP : (Str → Option Value) → Heap → Prop} {fa : List He.Fa} {fn : List He.DefD} {hn : Nat} {d : DefRec} {x : Str} {st : Stmt} {k : Nat}
    (h1 : l.most = some n) (h2 : n ≤ sizeLine) (hdf : d.params.defaults = []) (hr : Room k callerA) (hd : d.name = ("law" : Str)) (hb : BindOk "law" "law" st [x])
    (F : ∀ (w : World) (K : PySem.W.Frag) (h : Heap) (mg : Str → Option Value), K.In h → h.Ns mainGlobals mg → He.SaysD fa fn K → mg ("law" : Str) = some (.ref (He.ga K "law")) ∧ ∃ fd, Fun K "law" "law" st (He.ga K "law") fd ∧ ∀ base : Heap, FnOk l.prog w K mg base (L2.CX l.prog w) k (He.ga K "law") fd [x] (liftSp K mg 1 (spLaw n))) :
    PySem.W.WalkO q loose XP (He.hookD hn fa fn).says l.row.toRowW d [] (fun f vs => PySem.call f vs) := by
  refine walk_w (x := x) (CX := fun w => L2.CX l.prog w) h1 h2 hdf hr (fun w mg fa' h Y G hmg => ?_) (fun w H s e s' z => ?_)
  · obtain ⟨K, KX, c⟩ := Y
    rw [hd] at hmg
    obtain ⟨e0, fd, F1, F2⟩ := F w K h mg KX G c
    have e := hmg.symm.trans e0
    cases e
    refine ⟨K, fd, _, KX, fun s v => ?_, fun H a ns hl _ hS => law_sp hl hS, fun base _ _ => F2 base⟩
    obtain ⟨oc, od, kV, doc, pm, an, cdv, ct, osl, rfl, lk, hcd⟩ := F1.ex
    exact .of_eq (hb kV doc pm an cdv ct [v] rfl)
  · obtain ⟨a, B, H', cls, d, _, _, _, _, _, _, _, hE⟩ := z
    exact hE
end
end DS

/-! DS15: words for the plain proofs -/
namespace DS
open PySem PySem.Spec PyProof.Rows L2
/-- a comprehension that changes nothing -/
theorem foldC_fm {bind : D → Env1 → Mp → (Env1 → Mp → Prop) → Prop} {cond : Env1 → Mp → (Bool → Mp → Prop) → Prop} {elt : Env1 → Mp → QE → Prop} {ρ : Env1} {g : Mp → Prop} {M : Mp} (f : D → Option D) (hg : g M) {Q : List D → Mp → Prop} :
    ∀ {xs acc : List D} (h : ∀ x ∈ xs, ∀ (K1 : D → Mp → Prop) (K2 : Mp → Prop), (match f x with | some d => K1 d M | none => K2 M) → bind x ρ M fun ρ1 M1 => cond ρ1 M1 fun b M2 => match b with | true => elt ρ1 M2 K1 | false => K2 M2),
      Q (acc ++ xs.filterMap f) M → foldC bind cond elt ρ g xs acc M Q
  | [], acc, h, q => ⟨hg, by simpa using q⟩
  | x :: xs, acc, h, q => by
    refine ⟨hg, h x (List.mem_cons_self ..) (fun d M3 => foldC bind cond elt ρ g xs (acc ++ [d]) M3 Q) (fun M2 => foldC bind cond elt ρ g xs acc M2 Q) ?_⟩
    rw [List.filterMap_cons] at q
    cases e : f x with
    | none => rw [e] at q; exact foldC_fm f hg (fun y hy => h y (List.mem_cons_of_mem _ hy)) q
    | some d => rw [e] at q; exact foldC_fm f hg (fun y hy => h y (List.mem_cons_of_mem _ hy)) (by simpa using q)
/-- .. each item gives one -/
theorem foldC_map {bind : D → Env1 → Mp → (Env1 → Mp → Prop) → Prop} {cond : Env1 → Mp → (Bool → Mp → Prop) → Prop} {elt : Env1 → Mp → QE → Prop} {ρ : Env1} {g : Mp → Prop} {M : Mp} (f : D → D) (hg : g M) {Q : List D → Mp → Prop} {xs acc : List D}
    (h : ∀ x ∈ xs, ∀ (K1 : D → Mp → Prop) (K2 : Mp → Prop), K1 (f x) M → bind x ρ M fun ρ1 M1 => cond ρ1 M1 fun b M2 => match b with | true => elt ρ1 M2 K1 | false => K2 M2)
    (q : Q (acc ++ xs.map f) M) : foldC bind cond elt ρ g xs acc M Q :=
  foldC_fm (fun x => some (f x)) hg (fun x hx K1 K2 k => h x hx K1 K2 k) (by rw [show (fun x => some (f x)) = some ∘ f from rfl, List.filterMap_eq_map]; exact q)
theorem foldC_inv {bind : D → Env1 → Mp → (Env1 → Mp → Prop) → Prop} {cond : Env1 → Mp → (Bool → Mp → Prop) → Prop} {elt : Env1 → Mp → QE → Prop} {ρ : Env1} {g : Mp → Prop} {Q : List D → Mp → Prop} :
    ∀ {xs acc : List D} {M : Mp} (I : Nat → List D → Mp → Prop), I 0 acc M → (∀ i acc M, I i acc M → g M) →
      (∀ i x acc M, xs[i]? = some x → I i acc M → ∀ (K1 : D → Mp → Prop) (K2 : Mp → Prop), (∀ d M3, I (i + 1) (acc ++ [d]) M3 → K1 d M3) → (∀ M2, I (i + 1) acc M2 → K2 M2) →
        bind x ρ M fun ρ1 M1 => cond ρ1 M1 fun b M2 => match b with | true => elt ρ1 M2 K1 | false => K2 M2) →
      (∀ acc M, I xs.length acc M → Q acc M) → foldC bind cond elt ρ g xs acc M Q
  | [], acc, M, I, h0, hg, _, q => ⟨hg _ _ _ h0, q _ _ h0⟩
  | x :: xs, acc, M, I, h0, hg, st, q =>
    have go : ∀ acc' M', I 1 acc' M' → foldC bind cond elt ρ g xs acc' M' Q := fun acc' M' h1 =>
      foldC_inv (fun i => I (i + 1)) h1 (fun i => hg (i + 1)) (fun i y a M e => st (i + 1) y a M (by simpa using e)) q
    ⟨hg _ _ _ h0, st 0 x acc M rfl h0 _ _ (fun d M3 h => go _ _ h) fun M2 h => go _ _ h⟩
theorem foldS_inv {bind : D → Env1 → Mp → (Env1 → Mp → Prop) → Prop} {body : EndsD → Env1 → Mp → Prop} {g : Mp → Prop} {R : EndsD} :
    ∀ {xs : List D} {ρ : Env1} {M : Mp} (I : Nat → Env1 → Mp → Prop), I 0 ρ M → (∀ i ρ M, I i ρ M → g M) →
      (∀ i x ρ M, xs[i]? = some x → I i ρ M → ∀ K : Env1 → Mp → Prop, (∀ ρ' M', I (i + 1) ρ' M' → K ρ' M') → bind x ρ M fun ρ1 M1 => body { R with nx := K, ct := K, bk := R.nx } ρ1 M1) →
      (∀ ρ M, I xs.length ρ M → R.nx ρ M) → foldS bind body g xs R ρ M
  | [], ρ, M, I, h0, hg, _, q => ⟨hg _ _ _ h0, q _ _ h0⟩
  | x :: xs, ρ, M, I, h0, hg, st, q =>
    ⟨hg _ _ _ h0, st 0 x ρ M rfl h0 (foldS bind body g xs R) fun ρ' M' h1 =>
      foldS_inv (fun i => I (i + 1)) h1 (fun i => hg (i + 1)) (fun i y a M e => st (i + 1) y a M (by simpa using e)) q⟩
section
variable {α : Type} {bind : D → Env1 → Mp → (Env1 → Mp → Prop) → Prop} {cond : Env1 → Mp → (Bool → Mp → Prop) → Prop} {elt : Env1 → Mp → QE → Prop} {ρ : Env1} {g : Mp → Prop} {M : Mp}
/-- items of one kind, a test and a value -/
theorem foldC_if (l : List α) (e f : α → D) (p : α → Bool) (hg : g M) {Q : List D → Mp → Prop} {acc : List D}
    (h : ∀ x ∈ l, ∀ (K1 : D → Mp → Prop) (K2 : Mp → Prop), (p x = true → K1 (f x) M) → (p x = false → K2 M) → bind (e x) ρ M fun ρ1 M1 => cond ρ1 M1 fun b M2 => match b with | true => elt ρ1 M2 K1 | false => K2 M2)
    (q : Q (acc ++ (l.filter p).map f) M) : foldC bind cond elt ρ g (l.map e) acc M Q := by
  induction l generalizing acc with
  | nil => exact ⟨hg, by simpa using q⟩
  | cons x l ih =>
    refine ⟨hg, h x (List.mem_cons_self ..) (fun d M3 => foldC bind cond elt ρ g (l.map e) (acc ++ [d]) M3 Q) (fun M2 => foldC bind cond elt ρ g (l.map e) acc M2 Q) (fun hp => ?_) fun hp => ?_⟩
    · refine ih (fun y hy => h y (List.mem_cons_of_mem _ hy)) ?_
      rw [List.filter_cons_of_pos hp] at q; simpa using q
    · refine ih (fun y hy => h y (List.mem_cons_of_mem _ hy)) ?_
      rw [List.filter_cons_of_neg (by rw [hp]; simp)] at q; exact q
theorem foldC_all (l : List α) (e f : α → D) (hg : g M) {Q : List D → Mp → Prop} {acc : List D}
    (h : ∀ x ∈ l, ∀ (K1 : D → Mp → Prop) (K2 : Mp → Prop), K1 (f x) M → bind (e x) ρ M fun ρ1 M1 => cond ρ1 M1 fun b M2 => match b with | true => elt ρ1 M2 K1 | false => K2 M2)
    (q : Q (acc ++ l.map f) M) : foldC bind cond elt ρ g (l.map e) acc M Q :=
  foldC_if l e f (fun _ => true) hg (fun x hx K1 K2 k _ => h x hx K1 K2 (k rfl)) (by rw [List.filter_eq_self.mpr (fun _ _ => rfl)]; exact q)
end
theorem rgD01 (n : Nat) : rgD 0 1 n = (List.range n).map fun (i : Nat) => D.int (i : Int) := by
  unfold rgD
  exact List.map_congr_left fun i _ => by rw [Int.zero_add, Int.mul_one]
theorem rgDc (c : Int) (n : Nat) : rgD c 1 n = (List.range n).map fun (i : Nat) => D.int (c + (i : Int)) := by
  unfold rgD
  exact List.map_congr_left fun i _ => by rw [Int.mul_one]
theorem getElem?_map_some {α : Type} {l : List α} {e : α → D} {i : Nat} {x : D} (h : (l.map e)[i]? = some x) : ∃ y, l[i]? = some y ∧ x = e y := by
  rw [List.getElem?_map] at h
  cases q : l[i]? with
  | none => rw [q] at h; cases h
  | some y => rw [q] at h; cases h; exact ⟨y, rfl, rfl⟩
theorem intsOf_map : ∀ ns : List Int, intsOf (ns.map D.int) = some ns
  | [] => rfl
  | n :: r => by rw [List.map_cons, intsOf, intsOf_map r]; rfl
theorem blsOf_map : ∀ ns : List Bool, blsOf (ns.map D.bl) = some ns
  | [] => rfl
  | n :: r => by rw [List.map_cons, blsOf, blsOf_map r]; rfl
theorem zipD_map {α β : Type} (f : α → D) (g : β → D) : ∀ (xs : List α) (ys : List β), zipD (xs.map f) (ys.map g) = (xs.zip ys).map fun p => .tup [f p.1, g p.2]
  | [], _ => by simp [zipD]
  | _ :: _, [] => by simp [zipD]
  | x :: xs, y :: ys => by simp [zipD, zipD_map f g xs ys]

/-! ### values of a Lean type -/
class En (α : Type) where
  d : α → D
  py : α → PyData
  f : ∀ a, pyF (d a) = some (py a)
  lay : ∀ a, (py a).canLay0 = true
  eq : ∀ a b, PyData.eqv (py a) (py b) = true ↔ a = b
  dep : Nat
  dep_le : ∀ a, (py a).depth ≤ dep
/-- .. none of which is None -/
class EnN (α : Type) [En α] where
  nn : ∀ a : α, PyData.eqv (En.py a) .none = false ∧ PyData.eqv .none (En.py a) = false
instance : En Int := ⟨.int, .int, fun _ => by rw [pyF], fun _ => by rw [PyData.canLay0], fun a b => by simp only [PyData.eqv, beq_iff_eq], 0, fun _ => by rw [PyData.depth]; exact Nat.le_refl _⟩
instance : EnN Int := ⟨fun a => ⟨by show PyData.eqv (.int _) _ = _; simp only [PyData.eqv], by show PyData.eqv _ (.int _) = _; simp only [PyData.eqv]⟩⟩
instance : En Bool := ⟨.bl, .bool, fun _ => by rw [pyF], fun _ => by rw [PyData.canLay0], fun a b => by simp only [PyData.eqv, beq_iff_eq], 0, fun _ => by rw [PyData.depth]; exact Nat.le_refl _⟩
instance : EnN Bool := ⟨fun a => ⟨by show PyData.eqv (.bool _) _ = _; simp only [PyData.eqv], by show PyData.eqv _ (.bool _) = _; simp only [PyData.eqv]⟩⟩
/-- a text that == reads -/
abbrev St := {x : Str // PyData.strOk x = true}
instance : En St := ⟨fun x => .str x.1, fun x => .str x.1, fun _ => by rw [pyF], fun x => by rw [PyData.canLay0]; exact x.2, fun a b => by simp only [PyData.eqv, beq_iff_eq]; exact Subtype.ext_iff.symm, 0, fun _ => by rw [PyData.depth]; exact Nat.le_refl _⟩
instance : EnN St := ⟨fun a => ⟨by show PyData.eqv (.str _) _ = _; simp only [PyData.eqv], by show PyData.eqv _ (.str _) = _; simp only [PyData.eqv]⟩⟩
section
variable {α β : Type} [En α] [En β]
def optD : Option α → D
  | none => .non
  | some a => En.d a
def optPy : Option α → PyData
  | none => .none
  | some a => En.py a
instance [EnN α] : En (Option α) := ⟨optD, optPy, fun a => by cases a with | none => rw [optD, pyF, optPy] | some a => exact En.f a,
  fun a => by cases a with | none => rw [optPy, PyData.canLay0] | some a => exact En.lay a,
  fun a b => by
    cases a with
    | none => cases b with
      | none => simp only [optPy, PyData.eqv]
      | some b => simp only [optPy, (EnN.nn b).2]; simp
    | some a => cases b with
      | none => simp only [optPy, (EnN.nn a).1]; simp
      | some b => simp only [optPy, En.eq, Option.some.injEq], En.dep α, fun a => by cases a with | none => rw [optPy, PyData.depth]; exact Nat.zero_le _ | some a => exact En.dep_le a⟩
theorem pyFs_map : ∀ l : List α, pyFs (l.map En.d) = some (l.map En.py)
  | [] => by rw [List.map_nil, pyFs]; rfl
  | x :: l => by rw [List.map_cons, pyFs, En.f x, pyFs_map l]; rfl
theorem lay_map : ∀ l : List α, PyData.canLayAll0 (l.map En.py) = true
  | [] => by rw [List.map_nil, PyData.canLayAll0]
  | x :: l => by rw [List.map_cons, PyData.canLayAll0, En.lay x, lay_map l]; rfl
theorem eq_map : ∀ l m : List α, PyData.eqvAll (l.map En.py) (m.map En.py) = true ↔ l = m
  | [], [] => by simp [PyData.eqvAll]
  | [], _ :: _ => by simp [PyData.eqvAll]
  | _ :: _, [] => by simp [PyData.eqvAll]
  | x :: l, y :: m => by
    rw [List.map_cons, List.map_cons, PyData.eqvAll, Bool.and_eq_true_iff, En.eq, eq_map l m, List.cons.injEq]
theorem dep_map : ∀ l : List α, PyData.depthAll (l.map En.py) ≤ En.dep α
  | [] => by rw [List.map_nil, PyData.depthAll]; exact Nat.zero_le _
  | x :: l => by rw [List.map_cons, PyData.depthAll]; exact Nat.max_le.mpr ⟨En.dep_le x, dep_map l⟩
/-- a tuple of any length -/
instance : En (List α) := ⟨fun l => .tup (l.map En.d), fun l => .tuple (l.map En.py), fun l => by rw [pyF, pyFs_map l]; rfl, fun l => by rw [PyData.canLay0]; exact lay_map l,
  fun l m => by rw [PyData.eqv]; exact eq_map l m, En.dep α + 1, fun l => by rw [PyData.depth]; exact Nat.succ_le_succ (dep_map l)⟩
instance : EnN (List α) := ⟨fun a => ⟨by show PyData.eqv (.tuple _) _ = _; simp only [PyData.eqv], by show PyData.eqv _ (.tuple _) = _; simp only [PyData.eqv]⟩⟩
/-- a list -/
structure Ls (α : Type) where
  l : List α
  deriving DecidableEq
instance : En (Ls α) := ⟨fun l => .lst (l.l.map En.d), fun l => .list (l.l.map En.py), fun l => by rw [pyF, pyFs_map l.l]; rfl, fun l => by rw [PyData.canLay0]; exact lay_map l.l,
  fun l m => by rw [PyData.eqv]; cases l; cases m; rw [eq_map]; simp, En.dep α + 1, fun l => by rw [PyData.depth]; exact Nat.succ_le_succ (dep_map l.l)⟩
instance : EnN (Ls α) := ⟨fun a => ⟨by show PyData.eqv (.list _) _ = _; simp only [PyData.eqv], by show PyData.eqv _ (.list _) = _; simp only [PyData.eqv]⟩⟩
instance : En (α × β) := ⟨fun p => .tup [En.d p.1, En.d p.2], fun p => .tuple [En.py p.1, En.py p.2], fun p => by rw [pyF, pyFs, pyFs, pyFs, En.f, En.f]; rfl,
  fun p => by rw [PyData.canLay0, PyData.canLayAll0, PyData.canLayAll0, PyData.canLayAll0, En.lay, En.lay]; rfl,
  fun p q => by rw [PyData.eqv, PyData.eqvAll, PyData.eqvAll, PyData.eqvAll, Bool.and_true, Bool.and_eq_true_iff, En.eq, En.eq, Prod.ext_iff], max (En.dep α) (En.dep β) + 1,
  fun p => by
    rw [PyData.depth, PyData.depthAll, PyData.depthAll, PyData.depthAll]
    exact Nat.succ_le_succ (Nat.max_le.mpr ⟨Nat.le_trans (En.dep_le p.1) (Nat.le_max_left _ _), Nat.max_le.mpr ⟨Nat.le_trans (En.dep_le p.2) (Nat.le_max_right _ _), Nat.zero_le _⟩⟩)⟩
instance : EnN (α × β) := ⟨fun a => ⟨by show PyData.eqv (.tuple _) _ = _; simp only [PyData.eqv], by show PyData.eqv _ (.tuple _) = _; simp only [PyData.eqv]⟩⟩
theorem shaped_en (h : En.dep α ≤ 64) (a : α) : SeqAt.shaped (En.py a) = true := by
  unfold SeqAt.shaped
  rw [En.lay a, decide_eq_true (Nat.le_trans (En.dep_le a) h)]; rfl
theorem pyOf_of {M : Mp} {d : D} {p : PyData} (h : pyF d = some p) : pyOf M d = some p := by
  unfold pyOf
  split
  · rw [pyF] at h; cases h; all_goals (intros; simp_all)
  · exact h
variable [DecidableEq α] {M : Mp} {Q : QE}
theorem eqv_en (a b : α) : PyData.eqv (En.py a) (En.py b) = decide (a = b) := by
  rw [Bool.eq_iff_iff, En.eq, decide_eq_true_eq]
theorem cmp_eq {a b : α} (h : Q (.bl (decide (a = b))) M) (hd : En.dep α ≤ 64 := by decide) : cmpD .Eq (En.d a) (En.d b) M Q := by
  unfold cmpD
  rw [pyOf_of (En.f a), pyOf_of (En.f b)]
  exact ⟨shaped_en hd a, shaped_en hd b, by rw [eqv_en]; exact h⟩
theorem cmp_ne {a b : α} (h : Q (.bl (!decide (a = b))) M) (hd : En.dep α ≤ 64 := by decide) : cmpD .NotEq (En.d a) (En.d b) M Q := by
  unfold cmpD
  rw [pyOf_of (En.f a), pyOf_of (En.f b)]
  exact ⟨shaped_en hd a, shaped_en hd b, by rw [eqv_en]; exact h⟩
end
section
variable {M : Mp} {Q : QE} {i j : Int} {b c : Bool} {x y : Str} {d : D}
theorem shaped_int : SeqAt.shaped (.int i) = true := shaped_en (α := Int) (by decide) i
theorem cmp_lt : cmpD .Lt (.int i) (.int j) M Q = Q (.bl (decide (i < j))) M := rfl
theorem cmp_le : cmpD .LtE (.int i) (.int j) M Q = Q (.bl (decide (i ≤ j))) M := rfl
theorem cmp_gt : cmpD .Gt (.int i) (.int j) M Q = Q (.bl (decide (j < i))) M := rfl
theorem cmp_ge : cmpD .GtE (.int i) (.int j) M Q = Q (.bl (decide (j ≤ i))) M := rfl
theorem cmp_is : cmpD .Is d .non M Q = Q (.bl (isN d)) M := by unfold cmpD; simp [isN]
theorem cmp_isnot : cmpD .IsNot d .non M Q = Q (.bl (!isN d)) M := by unfold cmpD; simp [isN]
theorem cmp_ii : cmpD .Eq (.int i) (.int j) M Q = Q (.bl (decide (i = j))) M := propext ⟨fun h => by
  unfold cmpD at h; simp only [pyOf, pyF] at h; rw [show PyData.eqv (.int i) (.int j) = decide (i = j) from eqv_en (α := Int) i j] at h; exact h.2.2, fun h => cmp_eq (α := Int) h⟩
theorem cmp_iin : cmpD .NotEq (.int i) (.int j) M Q = Q (.bl (!decide (i = j))) M := propext ⟨fun h => by
  unfold cmpD at h; simp only [pyOf, pyF] at h; rw [show PyData.eqv (.int i) (.int j) = decide (i = j) from eqv_en (α := Int) i j] at h; exact h.2.2, fun h => cmp_ne (α := Int) h⟩
end
theorem en_int (i : Int) : En.d i = .int i := rfl
theorem en_bool (i : Bool) : En.d i = .bl i := rfl
theorem en_none {α : Type} [En α] [EnN α] : En.d (none : Option α) = .non := rfl
theorem en_some {α : Type} [En α] [EnN α] (a : α) : En.d (some a) = En.d a := rfl
theorem en_list {α : Type} [En α] (l : List α) : En.d l = .tup (l.map En.d) := rfl
theorem en_pair {α β : Type} [En α] [En β] (a : α) (b : β) : En.d (a, b) = .tup [En.d a, En.d b] := rfl
theorem isN_opt (a : Option Int) : isN (En.d a) = a.isNone := by cases a <;> rfl
theorem isN_non : isN .non = true := rfl
theorem isN_int (i : Int) : isN (.int i) = false := rfl
theorem isN_bl (i : Bool) : isN (.bl i) = false := rfl
theorem isN_str (i : Str) : isN (.str i) = false := rfl
theorem isN_tup (i : List D) : isN (.tup i) = false := rfl
theorem isN_lst (i : List D) : isN (.lst i) = false := rfl
theorem isN_ins (c : Str) (i : List (Str × D)) : isN (.ins c i) = false := rfl
theorem isN_ref (a : Addr) : isN (.ref a) = false := rfl
theorem isN_list {α : Type} [En α] (l : List α) : isN (En.d l) = false := rfl
theorem isN_enI (i : Int) : isN (En.d i) = false := rfl
theorem blsOf_mapf {α : Type} (f : α → Bool) : ∀ l : List α, blsOf (l.map fun a => D.bl (f a)) = some (l.map f)
  | [] => rfl
  | n :: r => by rw [List.map_cons, blsOf, blsOf_mapf f r]; rfl
theorem intsOf_mapf {α : Type} (f : α → Int) : ∀ l : List α, intsOf (l.map fun a => D.int (f a)) = some (l.map f)
  | [] => rfl
  | n :: r => by rw [List.map_cons, intsOf, intsOf_mapf f r]; rfl
theorem ix_at {x d : D} {ds : List D} {i : Nat} {M : Mp} {Q : QE} (h : sqOf M x = some ds) (e : ds[i]? = some d) (q : Q d M) : ixD x (.int (i : Int)) M Q := by
  unfold ixD
  simp only [h, L2.atI_nat e]
  exact q
theorem ix_map {α : Type} {x : D} {l : List α} {f : α → D} {i : Nat} {a : α} {M : Mp} {Q : QE} (h : sqOf M x = some (l.map f)) (e : l[i]? = some a) (q : Q (f a) M) : ixD x (.int (i : Int)) M Q :=
  ix_at h (by rw [List.getElem?_map, e]; rfl) q
theorem sq_ref {M : Mp} {a : Addr} {ds : List D} : sqOf (mset M a (.lst ds)) (.ref a) = some ds := by unfold sqOf lsOf; simp only [mset_same]
theorem ls_ref {M : Mp} {a : Addr} {ds : List D} : lsOf (mset M a (.lst ds)) (.ref a) = some ds := by unfold lsOf; simp only [mset_same]
/-- the list is empty? -/
theorem eq_nil {α : Type} [En α] {l : List α} {M : Mp} {Q : QE} (q : Q (.bl l.isEmpty) M) (hd : En.dep α ≤ 63 := by decide) : cmpD .Eq (.lst (l.map En.d)) (.lst []) M Q := by
  have h1 : pyOf M (.lst (l.map En.d)) = some (En.py (Ls.mk l)) := pyOf_of (En.f (Ls.mk l))
  unfold cmpD
  rw [h1, show pyOf M (.lst []) = some (.list []) from rfl]
  refine ⟨shaped_en (α := Ls α) (Nat.succ_le_succ hd) ⟨l⟩, by decide, ?_⟩
  cases l with
  | nil => exact q
  | cons x l => exact q
theorem eq_nilf {α β : Type} [En α] {l : List β} {f : β → α} {M : Mp} {Q : QE} (q : Q (.bl l.isEmpty) M) (hd : En.dep α ≤ 63 := by decide) : cmpD .Eq (.lst (l.map fun x => En.d (f x))) (.lst []) M Q := by
  have h := eq_nil (α := α) (l := l.map f) (M := M) (Q := Q) (by rw [List.isEmpty_map]; exact q) hd
  rw [List.map_map] at h
  exact h
theorem ixN_nat {n j : Nat} (hj : j < n) : L2.ixN n (j : Int) = some j := by
  unfold L2.ixN
  rw [if_pos (by omega), if_pos (by omega)]
  simp
section
variable {m : Bool} {M : Mp} {Q : QE} {i j : Int} {b : Bool}
theorem bin_add : binD m .Add (.int i) (.int j) M Q = Q (.int (i + j)) M := rfl
theorem bin_sub : binD m .Sub (.int i) (.int j) M Q = Q (.int (i - j)) M := rfl
theorem bin_mul : binD m .Mult (.int i) (.int j) M Q = (MulOk i j ∧ Q (.int (i * j)) M) := rfl
theorem bin_fdiv : binD m .FloorDiv (.int i) (.int j) M Q = (DivOk i j ∧ Q (.int (i.fdiv j)) M) := rfl
theorem bin_mod : binD m .Mod (.int i) (.int j) M Q = (j ≠ 0 ∧ Q (.int (i.fmod j)) M) := rfl
theorem bin_pow : binD m .Pow (.int i) (.int j) M Q = (L2.CPow i j ∧ Q (.int (i ^ j.toNat)) M) := rfl
theorem bin_shl : binD m .LShift (.int i) (.int j) M Q = (L2.CPow i j ∧ Q (.int (i * 2 ^ j.toNat)) M) := rfl
theorem bin_shr : binD m .RShift (.int i) (.int j) M Q = (0 ≤ j ∧ Q (.int (i / 2 ^ j.toNat)) M) := rfl
theorem bin_and : binD m .BitAnd (.int i) (.int j) M Q = Q (.int (Builtin.bitAnd i j)) M := rfl
theorem bin_or : binD m .BitOr (.int i) (.int j) M Q = Q (.int (Builtin.bitOr i j)) M := rfl
theorem bin_xor : binD m .BitXor (.int i) (.int j) M Q = Q (.int (Builtin.bitXor i j)) M := rfl
theorem bty_int : btyD m .int [.int i] M Q = Q (.int i) M := rfl
theorem bty_intb : btyD m .int [.bl b] M Q = Q (.int (if b then 1 else 0)) M := rfl
end
theorem sq_of {M : Mp} {a : Addr} {ds : List D} (h : M a = some (.lst ds)) : sqOf M (.ref a) = some ds := by unfold sqOf lsOf; simp only [h]
theorem fmod_pos {i j : Int} (h : 0 < j) : 0 ≤ i.fmod j ∧ i.fmod j < j := ⟨Int.fmod_nonneg_of_pos i h, Int.fmod_lt_of_pos i h⟩
theorem zip_all {α β : Type} (f : α → β → Bool) (a : α) (b : β) : ∀ (p : List α) (q : List β), p.length = q.length → (p.zip q).all (fun z => f z.1 z.2) = (List.range p.length).all fun i => f (p.getD i a) (q.getD i b)
  | [], [], _ => rfl
  | [], _ :: _, h => by simp at h
  | _ :: _, [], h => by simp at h
  | x :: p, y :: q, h => by
    rw [List.zip_cons_cons, List.all_cons, zip_all f a b p q (by simpa using h), List.length_cons, List.range_succ_eq_map, List.all_cons, List.all_map]
    rfl
theorem filter_pos {α : Type} (f : α → Bool) (l : List α) : decide ((0 : Int) < ((l.filter f).length : Int)) = !(l.all fun x => !f x) := by
  induction l with
  | nil => rfl
  | cons x l ih =>
    cases h : f x with
    | true =>
      rw [List.filter_cons_of_pos h, List.all_cons, h, List.length_cons, decide_eq_true (by omega)]; rfl
    | false => rw [List.filter_cons_of_neg (by rw [h]; simp), List.all_cons, h, ih]; rfl
theorem filter_zero {α : Type} (f : α → Bool) (l : List α) : decide (((l.filter f).length : Int) = 0) = l.all fun x => !f x := by
  have h := filter_pos f l
  cases e : l.all fun x => !f x with
  | true => rw [e] at h; have := of_decide_eq_false h; exact decide_eq_true (by omega)
  | false => rw [e] at h; have := of_decide_eq_true h; exact decide_eq_false (by omega)
theorem zip_map {α β γ : Type} (f : α → β → γ) (a : α) (b : β) : ∀ (p : List α) (q : List β), p.length = q.length → (p.zip q).map (fun z => f z.1 z.2) = (List.range p.length).map fun i => f (p.getD i a) (q.getD i b)
  | [], [], _ => rfl
  | [], _ :: _, h => by simp at h
  | _ :: _, [], h => by simp at h
  | x :: p, y :: q, h => by
    rw [List.zip_cons_cons, List.map_cons, zip_map f a b p q (by simpa using h), List.length_cons, List.range_succ_eq_map, List.map_cons, List.map_map]
    rfl
end DS

namespace DS
open PySem
abbrev N__law_draws : List Str := ["script"]
def b__law_draws : SL := (.cons (.ret (.lst true (.cons (.bty false .list (.cons (.var 0) .nil)) (.cons (.int 0) (.cons (.int 0) (.cons (.int 1) .nil)))))) .nil)
def b__law_draw_1 : SL := (.cons (.asg (.sub (.var 0) (.int 3)) (.bin false .Mod (.bty false .int (.cons (.bin false .Add (.bin false .Add (.bin false .Mult (.ix (.var 0) (.int 3)) (.int 48271)) (.var 2)) (.int 13)) .nil)) (.int 2147483647))) .nil)
def b__law_draw_2 : SL := (.cons (.asg (.sub (.var 0) (.int 3)) (.bin false .Mod (.bty false .int (.cons (.bin false .Add (.bin false .Mult (.ix (.var 0) (.int 3)) (.int 69621)) (.int 7)) .nil)) (.int 2147483629))) (.cons (.ret (.bin false .Mod (.bty false .int (.cons (.bin false .FloorDiv (.ix (.var 0) (.int 3)) (.int 11)) .nil)) (.var 1))) .nil))
def b__law_draw_3 : SL := (.cons (.ifs (.cmp .Gt (.ix (.var 0) (.int 2)) (.int 0)) (.cons (.asg (.v 3) (.bin false .Mod (.bty false .int (.cons (.ix (.var 0) (.int 2)) .nil)) (.var 1))) (.cons (.asg (.sub (.var 0) (.int 2)) (.bin false .FloorDiv (.ix (.var 0) (.int 2)) (.var 1))) (.cons (.ret (.var 3)) .nil))) .nil) b__law_draw_2)
abbrev N__law_draw : List Str := ["draws", "limit", "cell", "value"]
def b__law_draw : SL := (.cons (.ifs (.and (.cmp .Eq (.ix (.var 0) (.int 2)) (.int 0)) (.cmp .Lt (.ix (.var 0) (.int 1)) (.blt false .len (.cons (.ix (.var 0) (.int 0)) .nil)))) (.cons (.asg (.v 2) (.ix (.ix (.var 0) (.int 0)) (.ix (.var 0) (.int 1)))) (.cons (.asg (.sub (.var 0) (.int 1)) (.bin false .Add (.ix (.var 0) (.int 1)) (.int 1))) (.cons (.ifs (.cmp .GtE (.var 2) (.bin false .Pow (.int 10) (.int 18))) (.cons (.asg (.sub (.var 0) (.int 2)) (.var 2)) .nil) .nil) b__law_draw_1))) .nil) b__law_draw_3)
/-- where a script is read -/
structure Dr where
  cells : List Int
  p : Nat
  big : Int
  seed : Int
  hb : 0 ≤ big
  hs : 0 ≤ seed
  ht : seed < 2147483648
def Dr.l (s : Dr) : List D := [.lst (s.cells.map D.int), .int s.p, .int s.big, .int s.seed]
abbrev Dr.o (s : Dr) : MO := .lst s.l
def sp__law_draws : SpD := fun ds M R _ => ∃ ns : List Int, ds = [.lst (ns.map D.int)] ∧ ∀ (a : Addr) (st : Dr), M a = none → R (.ref a) (mset M a st.o)
theorem wp__law_draws : ∀ ds M R RX, ds.length = 1 → sp__law_draws ds M R RX → wpSs ⟨[], [], [], [], []⟩ (fun x _ M => RX x M) b__law_draws ⟨fun _ M => R .non M, R, fun _ _ => False, fun _ _ => False⟩ (startD N__law_draws ds) M := by
  rintro ds M R RX - ⟨ns, rfl, hq⟩
  simp only [newL, wpSs, wpS, wpE, wpL, wpO, wpI, wpC, wpT, bindT, bindL, slot, startD, nth, tgLen, wipeD, cmp_lt, cmp_le, cmp_gt, cmp_ge, cmp_is, cmp_isnot, cmp_ii, cmp_iin, isN_non, isN_int, isN_bl, isN_str, isN_tup, isN_lst, isN_ins, isN_ref, isN_list, isN_enI, isN_opt, bin_add, bin_sub, bin_mul, bin_fdiv, bin_mod, bin_pow, bin_shl, bin_shr, bin_and, bin_or, bin_xor, bty_int, bty_intb, Bool.not_true, Bool.not_false, List.map_cons, List.map_nil, List.length_cons, List.length_nil, List.length_map, List.cons_append, List.nil_append, List.replicate, List.set, Nat.reduceAdd, Nat.reduceSub, Nat.zero_add, Nat.add_zero, Nat.sub_self, true_and, and_true, b__law_draws, btyD, sqOf, lsOf, newL]
  intro a ha
  exact hq a ⟨ns, 0, 0, 1, by decide, by decide, by decide⟩ ha
def sp__law_draw : SpD := fun ds M R _ => ∃ (a : Addr) (st : Dr) (lim : Int), ds = [.ref a, .int lim] ∧ M a = some st.o ∧ 0 < lim ∧ lim < 1073741824 ∧ ∀ v (st' : Dr), 0 ≤ v → v < lim → R (.int v) (mset M a st'.o)
theorem half_ok {M1 : Mp} {a : Addr} {R : QE} {RX : QX} {lim : Int} {c v : Option D} {st : Dr} (ha : M1 a = some st.o) (l0 : 0 < lim) (l1 : lim < 1073741824) (hq : ∀ v (st' : Dr), 0 ≤ v → v < lim → R (.int v) (mset M1 a st'.o)) :
    wpSs ⟨[], [], [], [], []⟩ (fun x _ M => RX x M) b__law_draw_3 ⟨fun _ M => R .non M, R, fun _ _ => False, fun _ _ => False⟩ [some (.ref a), some (.int lim), c, v] M1 := by
  simp only [newL, wpSs, wpS, wpE, wpL, wpO, wpI, wpC, wpT, bindT, bindL, slot, startD, nth, tgLen, wipeD, cmp_lt, cmp_le, cmp_gt, cmp_ge, cmp_is, cmp_isnot, cmp_ii, cmp_iin, isN_non, isN_int, isN_bl, isN_str, isN_tup, isN_lst, isN_ins, isN_ref, isN_list, isN_enI, isN_opt, bin_add, bin_sub, bin_mul, bin_fdiv, bin_mod, bin_pow, bin_shl, bin_shr, bin_and, bin_or, bin_xor, bty_int, bty_intb, Bool.not_true, Bool.not_false, List.map_cons, List.map_nil, List.length_cons, List.length_nil, List.length_map, List.cons_append, List.nil_append, List.replicate, List.set, Nat.reduceAdd, Nat.reduceSub, Nat.zero_add, Nat.add_zero, Nat.sub_self, true_and, and_true, b__law_draw_3, b__law_draw_2]
  refine ix_at (i := 2) (sq_of ha) rfl ?_
  simp only [newL, wpSs, wpS, wpE, wpL, wpO, wpI, wpC, wpT, bindT, bindL, slot, startD, nth, tgLen, wipeD, cmp_lt, cmp_le, cmp_gt, cmp_ge, cmp_is, cmp_isnot, cmp_ii, cmp_iin, isN_non, isN_int, isN_bl, isN_str, isN_tup, isN_lst, isN_ins, isN_ref, isN_list, isN_enI, isN_opt, bin_add, bin_sub, bin_mul, bin_fdiv, bin_mod, bin_pow, bin_shl, bin_shr, bin_and, bin_or, bin_xor, bty_int, bty_intb, Bool.not_true, Bool.not_false, List.map_cons, List.map_nil, List.length_cons, List.length_nil, List.length_map, List.cons_append, List.nil_append, List.replicate, List.set, Nat.reduceAdd, Nat.reduceSub, Nat.zero_add, Nat.add_zero, Nat.sub_self, true_and, and_true]
  by_cases h : 0 < st.big
  · simp only [decide_eq_true h]
    refine ix_at (i := 2) (sq_of ha) rfl ?_
    simp only [newL, wpSs, wpS, wpE, wpL, wpO, wpI, wpC, wpT, bindT, bindL, slot, startD, nth, tgLen, wipeD, cmp_lt, cmp_le, cmp_gt, cmp_ge, cmp_is, cmp_isnot, cmp_ii, cmp_iin, isN_non, isN_int, isN_bl, isN_str, isN_tup, isN_lst, isN_ins, isN_ref, isN_list, isN_enI, isN_opt, bin_add, bin_sub, bin_mul, bin_fdiv, bin_mod, bin_pow, bin_shl, bin_shr, bin_and, bin_or, bin_xor, bty_int, bty_intb, Bool.not_true, Bool.not_false, List.map_cons, List.map_nil, List.length_cons, List.length_nil, List.length_map, List.cons_append, List.nil_append, List.replicate, List.set, Nat.reduceAdd, Nat.reduceSub, Nat.zero_add, Nat.add_zero, Nat.sub_self, true_and, and_true]
    refine ⟨by omega, ix_at (i := 2) (sq_of ha) rfl ?_⟩
    simp only [newL, wpSs, wpS, wpE, wpL, wpO, wpI, wpC, wpT, bindT, bindL, slot, startD, nth, tgLen, wipeD, cmp_lt, cmp_le, cmp_gt, cmp_ge, cmp_is, cmp_isnot, cmp_ii, cmp_iin, isN_non, isN_int, isN_bl, isN_str, isN_tup, isN_lst, isN_ins, isN_ref, isN_list, isN_enI, isN_opt, bin_add, bin_sub, bin_mul, bin_fdiv, bin_mod, bin_pow, bin_shl, bin_shr, bin_and, bin_or, bin_xor, bty_int, bty_intb, Bool.not_true, Bool.not_false, List.map_cons, List.map_nil, List.length_cons, List.length_nil, List.length_map, List.cons_append, List.nil_append, List.replicate, List.set, Nat.reduceAdd, Nat.reduceSub, Nat.zero_add, Nat.add_zero, Nat.sub_self, true_and, and_true, ha]
    refine ⟨⟨by omega, by omega⟩, ?_⟩
    exact hq _ ⟨st.cells, st.p, st.big.fdiv lim, st.seed, Int.fdiv_nonneg (by omega) (by omega), st.hs, st.ht⟩ (fmod_pos l0).1 (fmod_pos l0).2
  · simp only [decide_eq_false h]
    refine ix_at (i := 3) (sq_of ha) rfl ?_
    simp only [newL, wpSs, wpS, wpE, wpL, wpO, wpI, wpC, wpT, bindT, bindL, slot, startD, nth, tgLen, wipeD, cmp_lt, cmp_le, cmp_gt, cmp_ge, cmp_is, cmp_isnot, cmp_ii, cmp_iin, isN_non, isN_int, isN_bl, isN_str, isN_tup, isN_lst, isN_ins, isN_ref, isN_list, isN_enI, isN_opt, bin_add, bin_sub, bin_mul, bin_fdiv, bin_mod, bin_pow, bin_shl, bin_shr, bin_and, bin_or, bin_xor, bty_int, bty_intb, Bool.not_true, Bool.not_false, List.map_cons, List.map_nil, List.length_cons, List.length_nil, List.length_map, List.cons_append, List.nil_append, List.replicate, List.set, Nat.reduceAdd, Nat.reduceSub, Nat.zero_add, Nat.add_zero, Nat.sub_self, true_and, and_true, ha]
    refine ⟨.inr (by decide), by decide, ?_⟩
    refine ix_at (i := 3) sq_ref rfl ?_
    simp only [newL, wpSs, wpS, wpE, wpL, wpO, wpI, wpC, wpT, bindT, bindL, slot, startD, nth, tgLen, wipeD, cmp_lt, cmp_le, cmp_gt, cmp_ge, cmp_is, cmp_isnot, cmp_ii, cmp_iin, isN_non, isN_int, isN_bl, isN_str, isN_tup, isN_lst, isN_ins, isN_ref, isN_list, isN_enI, isN_opt, bin_add, bin_sub, bin_mul, bin_fdiv, bin_mod, bin_pow, bin_shl, bin_shr, bin_and, bin_or, bin_xor, bty_int, bty_intb, Bool.not_true, Bool.not_false, List.map_cons, List.map_nil, List.length_cons, List.length_nil, List.length_map, List.cons_append, List.nil_append, List.replicate, List.set, Nat.reduceAdd, Nat.reduceSub, Nat.zero_add, Nat.add_zero, Nat.sub_self, true_and, and_true]
    refine ⟨⟨by decide, by decide⟩, by omega, ?_⟩
    have hf := fmod_pos (i := st.seed * 69621 + 7) (j := 2147483629) (by decide)
    exact hq _ ⟨st.cells, st.p, st.big, (st.seed * 69621 + 7).fmod 2147483629, st.hb, hf.1, by omega⟩ (fmod_pos l0).1 (fmod_pos l0).2
theorem wp__law_draw : ∀ ds M R RX, ds.length = 2 → sp__law_draw ds M R RX → wpSs ⟨[], [], [], [], []⟩ (fun x _ M => RX x M) b__law_draw ⟨fun _ M => R .non M, R, fun _ _ => False, fun _ _ => False⟩ (startD N__law_draw ds) M := by
  rintro ds M R RX - ⟨a, st, lim, rfl, ha, l0, l1, hq⟩
  have k0 : ∀ (c : Option D), wpSs ⟨[], [], [], [], []⟩ (fun x _ M => RX x M) b__law_draw_3 ⟨fun _ M => R .non M, R, fun _ _ => False, fun _ _ => False⟩ [some (.ref a), some (.int lim), c, none] M := fun c => half_ok ha l0 l1 hq
  have k1 : ∀ (c : Option D) (st' : Dr), wpSs ⟨[], [], [], [], []⟩ (fun x _ M => RX x M) b__law_draw_3 ⟨fun _ M => R .non M, R, fun _ _ => False, fun _ _ => False⟩ [some (.ref a), some (.int lim), c, none] (mset M a st'.o) := fun c st' =>
    half_ok mset_same l0 l1 fun v st'' h1 h2 => by rw [mset_mset]; exact hq v st'' h1 h2
  simp only [newL, wpSs, wpS, wpE, wpL, wpO, wpI, wpC, wpT, bindT, bindL, slot, startD, nth, tgLen, wipeD, cmp_lt, cmp_le, cmp_gt, cmp_ge, cmp_is, cmp_isnot, cmp_ii, cmp_iin, isN_non, isN_int, isN_bl, isN_str, isN_tup, isN_lst, isN_ins, isN_ref, isN_list, isN_enI, isN_opt, bin_add, bin_sub, bin_mul, bin_fdiv, bin_mod, bin_pow, bin_shl, bin_shr, bin_and, bin_or, bin_xor, bty_int, bty_intb, Bool.not_true, Bool.not_false, List.map_cons, List.map_nil, List.length_cons, List.length_nil, List.length_map, List.cons_append, List.nil_append, List.replicate, List.set, Nat.reduceAdd, Nat.reduceSub, Nat.zero_add, Nat.add_zero, Nat.sub_self, true_and, and_true, b__law_draw]
  refine ix_at (i := 2) (sq_of ha) rfl ?_
  simp only [newL, wpSs, wpS, wpE, wpL, wpO, wpI, wpC, wpT, bindT, bindL, slot, startD, nth, tgLen, wipeD, cmp_lt, cmp_le, cmp_gt, cmp_ge, cmp_is, cmp_isnot, cmp_ii, cmp_iin, isN_non, isN_int, isN_bl, isN_str, isN_tup, isN_lst, isN_ins, isN_ref, isN_list, isN_enI, isN_opt, bin_add, bin_sub, bin_mul, bin_fdiv, bin_mod, bin_pow, bin_shl, bin_shr, bin_and, bin_or, bin_xor, bty_int, bty_intb, Bool.not_true, Bool.not_false, List.map_cons, List.map_nil, List.length_cons, List.length_nil, List.length_map, List.cons_append, List.nil_append, List.replicate, List.set, Nat.reduceAdd, Nat.reduceSub, Nat.zero_add, Nat.add_zero, Nat.sub_self, true_and, and_true]
  by_cases h : st.big = 0
  · simp only [decide_eq_true h]
    refine ix_at (i := 1) (sq_of ha) rfl ?_
    refine ix_at (i := 0) (sq_of ha) rfl ?_
    simp only [newL, wpSs, wpS, wpE, wpL, wpO, wpI, wpC, wpT, bindT, bindL, slot, startD, nth, tgLen, wipeD, cmp_lt, cmp_le, cmp_gt, cmp_ge, cmp_is, cmp_isnot, cmp_ii, cmp_iin, isN_non, isN_int, isN_bl, isN_str, isN_tup, isN_lst, isN_ins, isN_ref, isN_list, isN_enI, isN_opt, bin_add, bin_sub, bin_mul, bin_fdiv, bin_mod, bin_pow, bin_shl, bin_shr, bin_and, bin_or, bin_xor, bty_int, bty_intb, Bool.not_true, Bool.not_false, List.map_cons, List.map_nil, List.length_cons, List.length_nil, List.length_map, List.cons_append, List.nil_append, List.replicate, List.set, Nat.reduceAdd, Nat.reduceSub, Nat.zero_add, Nat.add_zero, Nat.sub_self, true_and, and_true, bltD, sqOf, lsOf]
    intro _
    by_cases h2 : (st.p : Int) < st.cells.length
    · simp only [decide_eq_true h2]
      refine ix_at (i := 0) (sq_of ha) rfl ?_
      refine ix_at (i := 1) (sq_of ha) rfl ?_
      have h3 : st.p < st.cells.length := by omega
      refine ix_map rfl (List.getElem?_eq_getElem h3) ?_
      generalize st.cells[st.p] = c
      simp only [newL, wpSs, wpS, wpE, wpL, wpO, wpI, wpC, wpT, bindT, bindL, slot, startD, nth, tgLen, wipeD, cmp_lt, cmp_le, cmp_gt, cmp_ge, cmp_is, cmp_isnot, cmp_ii, cmp_iin, isN_non, isN_int, isN_bl, isN_str, isN_tup, isN_lst, isN_ins, isN_ref, isN_list, isN_enI, isN_opt, bin_add, bin_sub, bin_mul, bin_fdiv, bin_mod, bin_pow, bin_shl, bin_shr, bin_and, bin_or, bin_xor, bty_int, bty_intb, Bool.not_true, Bool.not_false, List.map_cons, List.map_nil, List.length_cons, List.length_nil, List.length_map, List.cons_append, List.nil_append, List.replicate, List.set, Nat.reduceAdd, Nat.reduceSub, Nat.zero_add, Nat.add_zero, Nat.sub_self, true_and, and_true]
      refine ix_at (i := 1) (sq_of ha) rfl ?_
      simp only [newL, wpSs, wpS, wpE, wpL, wpO, wpI, wpC, wpT, bindT, bindL, slot, startD, nth, tgLen, wipeD, cmp_lt, cmp_le, cmp_gt, cmp_ge, cmp_is, cmp_isnot, cmp_ii, cmp_iin, isN_non, isN_int, isN_bl, isN_str, isN_tup, isN_lst, isN_ins, isN_ref, isN_list, isN_enI, isN_opt, bin_add, bin_sub, bin_mul, bin_fdiv, bin_mod, bin_pow, bin_shl, bin_shr, bin_and, bin_or, bin_xor, bty_int, bty_intb, Bool.not_true, Bool.not_false, List.map_cons, List.map_nil, List.length_cons, List.length_nil, List.length_map, List.cons_append, List.nil_append, List.replicate, List.set, Nat.reduceAdd, Nat.reduceSub, Nat.zero_add, Nat.add_zero, Nat.sub_self, true_and, and_true, ha, b__law_draw_1]
      rw [show L2.ixN st.l.length 1 = some 1 from rfl]
      refine ⟨⟨by decide, by decide, by decide⟩, ?_⟩
      have hf := fmod_pos (i := st.seed * 48271 + c + 13) (j := 2147483647) (by decide)
      by_cases h4 : (10 : Int) ^ Int.toNat 18 ≤ c
      · simp only [decide_eq_true h4, mset_same]
        rw [show L2.ixN (st.l.set 1 (D.int (st.p + 1))).length 2 = some 2 from rfl]
        simp only [mset_mset]
        refine ix_at (i := 3) sq_ref rfl ?_
        simp only [newL, wpSs, wpS, wpE, wpL, wpO, wpI, wpC, wpT, bindT, bindL, slot, startD, nth, tgLen, wipeD, cmp_lt, cmp_le, cmp_gt, cmp_ge, cmp_is, cmp_isnot, cmp_ii, cmp_iin, isN_non, isN_int, isN_bl, isN_str, isN_tup, isN_lst, isN_ins, isN_ref, isN_list, isN_enI, isN_opt, bin_add, bin_sub, bin_mul, bin_fdiv, bin_mod, bin_pow, bin_shl, bin_shr, bin_and, bin_or, bin_xor, bty_int, bty_intb, Bool.not_true, Bool.not_false, List.map_cons, List.map_nil, List.length_cons, List.length_nil, List.length_map, List.cons_append, List.nil_append, List.replicate, List.set, Nat.reduceAdd, Nat.reduceSub, Nat.zero_add, Nat.add_zero, Nat.sub_self, true_and, and_true, mset_same, mset_mset]
        refine ⟨.inr (by decide), by decide, ?_⟩
        have h5 : (0 : Int) ≤ c := Int.le_trans (by decide) h4
        exact k1 _ ⟨st.cells, st.p + 1, c, _, h5, hf.1, by omega⟩
      · simp only [decide_eq_false h4]
        refine ix_at (i := 3) sq_ref rfl ?_
        simp only [newL, wpSs, wpS, wpE, wpL, wpO, wpI, wpC, wpT, bindT, bindL, slot, startD, nth, tgLen, wipeD, cmp_lt, cmp_le, cmp_gt, cmp_ge, cmp_is, cmp_isnot, cmp_ii, cmp_iin, isN_non, isN_int, isN_bl, isN_str, isN_tup, isN_lst, isN_ins, isN_ref, isN_list, isN_enI, isN_opt, bin_add, bin_sub, bin_mul, bin_fdiv, bin_mod, bin_pow, bin_shl, bin_shr, bin_and, bin_or, bin_xor, bty_int, bty_intb, Bool.not_true, Bool.not_false, List.map_cons, List.map_nil, List.length_cons, List.length_nil, List.length_map, List.cons_append, List.nil_append, List.replicate, List.set, Nat.reduceAdd, Nat.reduceSub, Nat.zero_add, Nat.add_zero, Nat.sub_self, true_and, and_true, mset_same, mset_mset]
        refine ⟨.inr (by decide), by decide, ?_⟩
        exact k1 _ ⟨st.cells, st.p + 1, st.big, _, st.hb, hf.1, by omega⟩
    · simp only [decide_eq_false h2]
      exact k0 _
  · simp only [decide_eq_false h]
    exact k0 _
end DS

namespace DS
open PySem
def b__law_same_1 : SL := (.cons (.ifs (.not (.call 0 (.cons (.ix (.var 0) (.var 2)) (.cons (.ix (.var 1) (.var 2)) .nil)))) (.cons (.ret (.bl false)) .nil) .nil) .nil)
def b__law_same_2 : SL := (.cons (.ret (.bl true)) .nil)
def b__law_same_3 : SL := (.cons (.for (.v 2) (.rng1 (.blt false .len (.cons (.var 1) .nil))) b__law_same_1) b__law_same_2)
def b__law_same_4 : SL := (.cons (.ret (.and (.isi (.var 0) .int) (.cmp .Eq (.var 0) (.var 1)))) .nil)
def b__law_same_5 : SL := (.cons (.ifs (.or (.isi (.var 1) .bool) (.isi (.var 0) .bool)) (.cons (.ret (.and (.isi (.var 1) .bool) (.and (.isi (.var 0) .bool) (.cmp .Eq (.var 0) (.var 1))))) .nil) .nil) b__law_same_4)
def b__law_same_6 : SL := (.cons (.ifs (.cmp .Is (.var 1) .non) (.cons (.ret (.cmp .Is (.var 0) .non)) .nil) .nil) b__law_same_5)
def b__law_same_7 : SL := (.cons (.ifs (.isi (.var 1) .str) (.cons (.ret (.and (.isi (.var 0) .str) (.cmp .Eq (.var 0) (.var 1)))) .nil) .nil) b__law_same_6)
def b__law_same_8 : SL := (.cons (.ifs (.isi (.var 1) .list) (.cons (.ret (.and (.isi (.var 0) .list) (.call 0 (.cons (.bty false .tuple (.cons (.var 0) .nil)) (.cons (.bty false .tuple (.cons (.var 1) .nil)) .nil))))) .nil) .nil) b__law_same_7)
abbrev N__law_same : List Str := ["actual", "expected", "k"]
def b__law_same : SL := (.cons (.ifs (.isi (.var 1) .tuple) (.cons (.ifs (.or (.not (.isi (.var 0) .tuple)) (.cmp .NotEq (.blt false .len (.cons (.var 0) .nil)) (.blt false .len (.cons (.var 1) .nil)))) (.cons (.ret (.bl false)) .nil) .nil) b__law_same_3) .nil) b__law_same_8)
mutual
def okD : D → Bool
  | .non => true
  | .bl _ => true
  | .int _ => true
  | .str x => PyData.strOk x
  | .tup ds => okDs ds
  | .lst ds => okDs ds
  | _ => false
def okDs : List D → Bool
  | [] => true
  | d :: ds => okD d && okDs ds
end
mutual
def dpD : D → Nat
  | .tup ds => dpDs ds + 1
  | .lst ds => dpDs ds + 2
  | _ => 0
def dpDs : List D → Nat
  | [] => 0
  | d :: ds => max (dpD d) (dpDs ds)
end
mutual
def sameD : D → D → Bool
  | .non, .non => true
  | .bl a, .bl b => decide (a = b)
  | .int a, .int b => decide (a = b)
  | .str a, .str b => decide (a = b)
  | .tup xs, .tup ys => sameDs xs ys
  | .lst xs, .lst ys => sameDs xs ys
  | _, _ => false
def sameDs : List D → List D → Bool
  | [], [] => true
  | x :: xs, y :: ys => sameD x y && sameDs xs ys
  | _, _ => false
end
theorem okDs_get : ∀ {ds : List D} {i : Nat} {d : D}, okDs ds = true → ds[i]? = some d → okD d = true
  | [], _, _, _, h => by simp at h
  | x :: ds, 0, d, h, e => by rw [okDs, Bool.and_eq_true_iff] at h; simp at e; subst e; exact h.1
  | x :: ds, i + 1, d, h, e => by rw [okDs, Bool.and_eq_true_iff] at h; exact okDs_get h.2 (by simpa using e)
theorem dpDs_get : ∀ {ds : List D} {i : Nat} {d : D}, ds[i]? = some d → dpD d ≤ dpDs ds
  | [], _, _, h => by simp at h
  | x :: ds, 0, d, e => by simp at e; subst e; rw [dpDs]; exact Nat.le_max_left _ _
  | x :: ds, i + 1, d, e => by rw [dpDs]; exact Nat.le_trans (dpDs_get (by simpa using e)) (Nat.le_max_right _ _)
theorem sameDs_len : ∀ {xs ys : List D}, sameDs xs ys = true → xs.length = ys.length
  | [], [], _ => rfl
  | [], _ :: _, h => by simp [sameDs] at h
  | _ :: _, [], h => by simp [sameDs] at h
  | x :: xs, y :: ys, h => by rw [sameDs, Bool.and_eq_true_iff] at h; simp [sameDs_len h.2]
theorem sameDs_no : ∀ {xs ys : List D} {i : Nat} {x y : D}, xs[i]? = some x → ys[i]? = some y → sameD x y = false → sameDs xs ys = false
  | [], _, _, _, _, h, _, _ => by simp at h
  | _ :: _, [], _, _, _, _, h, _ => by simp at h
  | x :: xs, y :: ys, 0, _, _, h1, h2, h3 => by simp at h1 h2; subst h1 h2; rw [sameDs, h3]; rfl
  | x :: xs, y :: ys, i + 1, _, _, h1, h2, h3 => by rw [sameDs, sameDs_no (i := i) (by simpa using h1) (by simpa using h2) h3, Bool.and_false]
theorem sameDs_yes : ∀ {xs ys : List D}, xs.length = ys.length → (∀ (i : Nat) (x y : D), xs[i]? = some x → ys[i]? = some y → sameD x y = true) → sameDs xs ys = true
  | [], [], _, _ => rfl
  | [], _ :: _, h, _ => by simp at h
  | _ :: _, [], h, _ => by simp at h
  | x :: xs, y :: ys, h, k => by rw [sameDs, k 0 x y rfl rfl, sameDs_yes (by simpa using h) fun i a b e1 e2 => k (i + 1) a b (by simpa using e1) (by simpa using e2)]; rfl
mutual
theorem okD_py : ∀ {d : D} {p : PyData}, pyF d = some p → p.canLay0 = true → okD d = true ∧ dpD d ≤ 2 * p.depth
  | .non, _, _, _ => ⟨rfl, Nat.zero_le _⟩
  | .bl _, _, _, _ => ⟨rfl, Nat.zero_le _⟩
  | .int _, _, _, _ => ⟨rfl, Nat.zero_le _⟩
  | .str x, _, h, k => by rw [pyF] at h; cases h; rw [PyData.canLay0] at k; exact ⟨by rw [okD]; exact k, Nat.zero_le _⟩
  | .tup ds, _, h, k => by
    rw [pyF] at h
    cases e : pyFs ds with
    | none => rw [e] at h; cases h
    | some ps =>
      rw [e] at h; cases h
      rw [PyData.canLay0] at k
      obtain ⟨h1, h2⟩ := okDs_py e k
      exact ⟨by rw [okD]; exact h1, by rw [dpD, PyData.depth]; omega⟩
  | .lst ds, _, h, k => by
    rw [pyF] at h
    cases e : pyFs ds with
    | none => rw [e] at h; cases h
    | some ps =>
      rw [e] at h; cases h
      rw [PyData.canLay0] at k
      obtain ⟨h1, h2⟩ := okDs_py e k
      exact ⟨by rw [okD]; exact h1, by rw [dpD, PyData.depth]; omega⟩
  | .dic _, _, h, _ => by simp [pyF] at h
  | .ins _ _, _, h, _ => by simp [pyF] at h
  | .ref _, _, h, _ => by simp [pyF] at h
  | .glo _, _, h, _ => by simp [pyF] at h
theorem okDs_py : ∀ {ds : List D} {ps : List PyData}, pyFs ds = some ps → PyData.canLayAll0 ps = true → okDs ds = true ∧ dpDs ds ≤ 2 * PyData.depthAll ps
  | [], _, h, _ => by rw [pyFs] at h; cases h; exact ⟨rfl, Nat.zero_le _⟩
  | d :: ds, _, h, k => by
    rw [pyFs] at h
    cases e1 : pyF d with
    | none => rw [e1] at h; cases h
    | some p => cases e2 : pyFs ds with
      | none => rw [e1, e2] at h; cases h
      | some ps =>
        rw [e1, e2] at h; cases h
        rw [PyData.canLayAll0, Bool.and_eq_true_iff] at k
        obtain ⟨h1, h2⟩ := okD_py e1 k.1
        obtain ⟨h3, h4⟩ := okDs_py e2 k.2
        refine ⟨by rw [okDs, h1, h3]; rfl, ?_⟩
        rw [dpDs, PyData.depthAll]
        omega
end
theorem okD_en {α : Type} [En α] (a : α) : okD (En.d a) = true := (okD_py (En.f a) (En.lay a)).1
theorem dpD_en {α : Type} [En α] (a : α) {k : Nat} (h : 2 * En.dep α < k := by decide) : dpD (En.d a) < k := by
  have := (okD_py (En.f a) (En.lay a)).2
  have := En.dep_le a
  omega
mutual
theorem sameD_refl : ∀ {d : D}, okD d = true → sameD d d = true
  | .non, _ => rfl
  | .bl _, _ => by rw [sameD]; exact decide_eq_true rfl
  | .int _, _ => by rw [sameD]; exact decide_eq_true rfl
  | .str x, _ => by rw [sameD]; exact decide_eq_true rfl
  | .tup ds, h => by rw [okD] at h; rw [sameD]; exact sameDs_refl h
  | .lst ds, h => by rw [okD] at h; rw [sameD]; exact sameDs_refl h
  | .dic _, h => by simp [okD] at h
  | .ins _ _, h => by simp [okD] at h
  | .ref _, h => by simp [okD] at h
  | .glo _, h => by simp [okD] at h
theorem sameDs_refl : ∀ {ds : List D}, okDs ds = true → sameDs ds ds = true
  | [], _ => rfl
  | d :: ds, h => by rw [okDs, Bool.and_eq_true_iff] at h; rw [sameDs, sameD_refl h.1, sameDs_refl h.2]; rfl
end
def sp__law_same (k : Nat) : SpD := fun ds M R _ => ∃ x y : D, ds = [x, y] ∧ okD x = true ∧ okD y = true ∧ dpD y < k ∧ R (.bl (sameD x y)) M
theorem same_en {α : Type} [En α] {k : Nat} (a : α) {M : Mp} {R : QE} {RX : QX} (q : R (.bl true) M) (h : 2 * En.dep α < k := by decide) : sp__law_same k [En.d a, En.d a] M R RX :=
  ⟨_, _, rfl, okD_en a, okD_en a, dpD_en a h, by rw [sameD_refl (okD_en a)]; exact q⟩
theorem wp__law_same (k : Nat) : ∀ ds M R RX, ds.length = 2 → sp__law_same (k + 1) ds M R RX → wpSs ⟨[(2, sp__law_same k)], [], [], [], []⟩ (fun x _ M => RX x M) b__law_same ⟨fun _ M => R .non M, R, fun _ _ => False, fun _ _ => False⟩ (startD N__law_same ds) M := by
  rintro ds M R RX - ⟨x, y, rfl, ox, oy, hd, hq⟩
  cases y with
  | tup ys =>
    simp only [newL, wpSs, wpS, wpE, wpL, wpO, wpI, wpC, wpT, bindT, bindL, slot, startD, nth, tgLen, wipeD, cmp_lt, cmp_le, cmp_gt, cmp_ge, cmp_is, cmp_isnot, cmp_ii, cmp_iin, isN_non, isN_int, isN_bl, isN_str, isN_tup, isN_lst, isN_ins, isN_ref, isN_list, isN_enI, isN_opt, bin_add, bin_sub, bin_mul, bin_fdiv, bin_mod, bin_pow, bin_shl, bin_shr, bin_and, bin_or, bin_xor, bty_int, bty_intb, Bool.not_true, Bool.not_false, List.map_cons, List.map_nil, List.length_cons, List.length_nil, List.length_map, List.cons_append, List.nil_append, List.replicate, List.set, Nat.reduceAdd, Nat.reduceSub, Nat.zero_add, Nat.add_zero, Nat.sub_self, true_and, and_true, b__law_same, b__law_same_1, b__law_same_2, b__law_same_3, b__law_same_4, b__law_same_5, b__law_same_6, b__law_same_7, b__law_same_8, isiD, reduceCtorEq, decide_true, decide_false, or_self]
    cases x with
    | tup xs =>
      simp only [newL, wpSs, wpS, wpE, wpL, wpO, wpI, wpC, wpT, bindT, bindL, slot, startD, nth, tgLen, wipeD, cmp_lt, cmp_le, cmp_gt, cmp_ge, cmp_is, cmp_isnot, cmp_ii, cmp_iin, isN_non, isN_int, isN_bl, isN_str, isN_tup, isN_lst, isN_ins, isN_ref, isN_list, isN_enI, isN_opt, bin_add, bin_sub, bin_mul, bin_fdiv, bin_mod, bin_pow, bin_shl, bin_shr, bin_and, bin_or, bin_xor, bty_int, bty_intb, Bool.not_true, Bool.not_false, List.map_cons, List.map_nil, List.length_cons, List.length_nil, List.length_map, List.cons_append, List.nil_append, List.replicate, List.set, Nat.reduceAdd, Nat.reduceSub, Nat.zero_add, Nat.add_zero, Nat.sub_self, true_and, and_true, b__law_same, b__law_same_1, b__law_same_2, b__law_same_3, b__law_same_4, b__law_same_5, b__law_same_6, b__law_same_7, b__law_same_8, isiD, bltD, sqOf, lsOf, reduceCtorEq, decide_true, decide_false, or_self]
      intro l1 l2
      by_cases hl : xs.length = ys.length
      · have e : (!decide ((xs.length : Int) = ys.length)) = false := by rw [decide_eq_true (by omega)]; rfl
        rw [e]
        simp only [newL, wpSs, wpS, wpE, wpL, wpO, wpI, wpC, wpT, bindT, bindL, slot, startD, nth, tgLen, wipeD, cmp_lt, cmp_le, cmp_gt, cmp_ge, cmp_is, cmp_isnot, cmp_ii, cmp_iin, isN_non, isN_int, isN_bl, isN_str, isN_tup, isN_lst, isN_ins, isN_ref, isN_list, isN_enI, isN_opt, bin_add, bin_sub, bin_mul, bin_fdiv, bin_mod, bin_pow, bin_shl, bin_shr, bin_and, bin_or, bin_xor, bty_int, bty_intb, Bool.not_true, Bool.not_false, List.map_cons, List.map_nil, List.length_cons, List.length_nil, List.length_map, List.cons_append, List.nil_append, List.replicate, List.set, Nat.reduceAdd, Nat.reduceSub, Nat.zero_add, Nat.add_zero, Nat.sub_self, true_and, and_true]
        intro l3
        have l4 : ys.length ≤ 16777216 := l3
        refine ⟨by omega, ?_⟩
        rw [Int.toNat_natCast, rgD01]
        refine foldS_inv (fun i ρ M' => M' = M ∧ (∃ v, ρ = [some (.tup xs), some (.tup ys), v]) ∧ ∀ j x y, j < i → xs[j]? = some x → ys[j]? = some y → sameD x y = true) ⟨rfl, ⟨_, rfl⟩, fun j _ _ h => absurd h (Nat.not_lt_zero _)⟩ (fun _ _ _ _ => trivial) ?_ ?_
        · rintro i z ρ M' hz ⟨rfl, ⟨v, rfl⟩, hI⟩ K hK
          obtain ⟨j, hj, rfl⟩ := getElem?_map_some hz
          obtain ⟨hj1, hj2⟩ := List.getElem?_eq_some_iff.mp hj
          rw [List.getElem_range] at hj2
          subst hj2
          rw [List.length_range] at hj1
          have ex := List.getElem?_eq_getElem (l := xs) (i := i) (by omega)
          have ey := List.getElem?_eq_getElem (l := ys) (i := i) (by omega)
          generalize xs[i]'(by omega) = a at ex
          generalize ys[i] = b at ey
          simp only [newL, wpSs, wpS, wpE, wpL, wpO, wpI, wpC, wpT, bindT, bindL, slot, startD, nth, tgLen, wipeD, cmp_lt, cmp_le, cmp_gt, cmp_ge, cmp_is, cmp_isnot, cmp_ii, cmp_iin, isN_non, isN_int, isN_bl, isN_str, isN_tup, isN_lst, isN_ins, isN_ref, isN_list, isN_enI, isN_opt, bin_add, bin_sub, bin_mul, bin_fdiv, bin_mod, bin_pow, bin_shl, bin_shr, bin_and, bin_or, bin_xor, bty_int, bty_intb, Bool.not_true, Bool.not_false, List.map_cons, List.map_nil, List.length_cons, List.length_nil, List.length_map, List.cons_append, List.nil_append, List.replicate, List.set, Nat.reduceAdd, Nat.reduceSub, Nat.zero_add, Nat.add_zero, Nat.sub_self, true_and, and_true]
          refine ix_at rfl ex (ix_at rfl ey ⟨_, _, rfl, okDs_get (by rwa [okD] at ox) ex, okDs_get (by rwa [okD] at oy) ey, ?_, ?_⟩)
          · have := dpDs_get ey
            rw [dpD] at hd; omega
          · cases es : sameD a b with
            | true =>
              refine hK _ _ ⟨rfl, ⟨_, rfl⟩, fun j x y hj e1 e2 => ?_⟩
              rcases Nat.lt_succ_iff_lt_or_eq.mp hj with h | h
              · exact hI j x y h e1 e2
              · subst h; rw [ex] at e1; rw [ey] at e2; cases e1; cases e2; exact es
            | false =>
              simp only [newL, wpSs, wpS, wpE, wpL, wpO, wpI, wpC, wpT, bindT, bindL, slot, startD, nth, tgLen, wipeD, cmp_lt, cmp_le, cmp_gt, cmp_ge, cmp_is, cmp_isnot, cmp_ii, cmp_iin, isN_non, isN_int, isN_bl, isN_str, isN_tup, isN_lst, isN_ins, isN_ref, isN_list, isN_enI, isN_opt, bin_add, bin_sub, bin_mul, bin_fdiv, bin_mod, bin_pow, bin_shl, bin_shr, bin_and, bin_or, bin_xor, bty_int, bty_intb, Bool.not_true, Bool.not_false, List.map_cons, List.map_nil, List.length_cons, List.length_nil, List.length_map, List.cons_append, List.nil_append, List.replicate, List.set, Nat.reduceAdd, Nat.reduceSub, Nat.zero_add, Nat.add_zero, Nat.sub_self, true_and, and_true]
              rw [sameD, sameDs_no ex ey es] at hq
              exact hq
        · rintro ρ M' ⟨rfl, ⟨v, rfl⟩, hI⟩
          rw [List.length_map, List.length_range] at hI
          rw [sameD, sameDs_yes hl fun i x y e1 e2 => hI i x y (List.getElem?_eq_some_iff.mp e2).1 e1 e2] at hq
          exact hq
      · have e : (!decide ((xs.length : Int) = ys.length)) = true := by rw [decide_eq_false (by omega)]; rfl
        rw [e]
        simp only [newL, wpSs, wpS, wpE, wpL, wpO, wpI, wpC, wpT, bindT, bindL, slot, startD, nth, tgLen, wipeD, cmp_lt, cmp_le, cmp_gt, cmp_ge, cmp_is, cmp_isnot, cmp_ii, cmp_iin, isN_non, isN_int, isN_bl, isN_str, isN_tup, isN_lst, isN_ins, isN_ref, isN_list, isN_enI, isN_opt, bin_add, bin_sub, bin_mul, bin_fdiv, bin_mod, bin_pow, bin_shl, bin_shr, bin_and, bin_or, bin_xor, bty_int, bty_intb, Bool.not_true, Bool.not_false, List.map_cons, List.map_nil, List.length_cons, List.length_nil, List.length_map, List.cons_append, List.nil_append, List.replicate, List.set, Nat.reduceAdd, Nat.reduceSub, Nat.zero_add, Nat.add_zero, Nat.sub_self, true_and, and_true]
        rw [sameD, show sameDs xs ys = false from by
          cases h : sameDs xs ys with
          | false => rfl
          | true => exact absurd (sameDs_len h) hl] at hq
        exact hq
    | _ => first | (simp [okD] at ox; done) | (simp only [newL, wpSs, wpS, wpE, wpL, wpO, wpI, wpC, wpT, bindT, bindL, slot, startD, nth, tgLen, wipeD, cmp_lt, cmp_le, cmp_gt, cmp_ge, cmp_is, cmp_isnot, cmp_ii, cmp_iin, isN_non, isN_int, isN_bl, isN_str, isN_tup, isN_lst, isN_ins, isN_ref, isN_list, isN_enI, isN_opt, bin_add, bin_sub, bin_mul, bin_fdiv, bin_mod, bin_pow, bin_shl, bin_shr, bin_and, bin_or, bin_xor, bty_int, bty_intb, Bool.not_true, Bool.not_false, List.map_cons, List.map_nil, List.length_cons, List.length_nil, List.length_map, List.cons_append, List.nil_append, List.replicate, List.set, Nat.reduceAdd, Nat.reduceSub, Nat.zero_add, Nat.add_zero, Nat.sub_self, true_and, and_true, isiD, reduceCtorEq, decide_true, decide_false, or_self]; exact hq)
  | lst ys =>
    cases x with
    | lst xs =>
      simp only [newL, wpSs, wpS, wpE, wpL, wpO, wpI, wpC, wpT, bindT, bindL, slot, startD, nth, tgLen, wipeD, cmp_lt, cmp_le, cmp_gt, cmp_ge, cmp_is, cmp_isnot, cmp_ii, cmp_iin, isN_non, isN_int, isN_bl, isN_str, isN_tup, isN_lst, isN_ins, isN_ref, isN_list, isN_enI, isN_opt, bin_add, bin_sub, bin_mul, bin_fdiv, bin_mod, bin_pow, bin_shl, bin_shr, bin_and, bin_or, bin_xor, bty_int, bty_intb, Bool.not_true, Bool.not_false, List.map_cons, List.map_nil, List.length_cons, List.length_nil, List.length_map, List.cons_append, List.nil_append, List.replicate, List.set, Nat.reduceAdd, Nat.reduceSub, Nat.zero_add, Nat.add_zero, Nat.sub_self, true_and, and_true, b__law_same, b__law_same_1, b__law_same_2, b__law_same_3, b__law_same_4, b__law_same_5, b__law_same_6, b__law_same_7, b__law_same_8, isiD, bltD, btyD, sqOf, lsOf, reduceCtorEq, decide_true, decide_false, or_self]
      rw [okD] at ox oy
      rw [dpD] at hd
      rw [sameD] at hq
      exact ⟨_, _, rfl, by rw [okD]; exact ox, by rw [okD]; exact oy, by rw [dpD]; omega, by rw [sameD]; exact hq⟩
    | _ => first | (simp [okD] at ox; done) | (simp only [newL, wpSs, wpS, wpE, wpL, wpO, wpI, wpC, wpT, bindT, bindL, slot, startD, nth, tgLen, wipeD, cmp_lt, cmp_le, cmp_gt, cmp_ge, cmp_is, cmp_isnot, cmp_ii, cmp_iin, isN_non, isN_int, isN_bl, isN_str, isN_tup, isN_lst, isN_ins, isN_ref, isN_list, isN_enI, isN_opt, bin_add, bin_sub, bin_mul, bin_fdiv, bin_mod, bin_pow, bin_shl, bin_shr, bin_and, bin_or, bin_xor, bty_int, bty_intb, Bool.not_true, Bool.not_false, List.map_cons, List.map_nil, List.length_cons, List.length_nil, List.length_map, List.cons_append, List.nil_append, List.replicate, List.set, Nat.reduceAdd, Nat.reduceSub, Nat.zero_add, Nat.add_zero, Nat.sub_self, true_and, and_true, b__law_same, b__law_same_1, b__law_same_2, b__law_same_3, b__law_same_4, b__law_same_5, b__law_same_6, b__law_same_7, b__law_same_8, isiD, reduceCtorEq, decide_true, decide_false, or_self]; exact hq)
  | str y =>
    cases x with
    | str x =>
      simp only [newL, wpSs, wpS, wpE, wpL, wpO, wpI, wpC, wpT, bindT, bindL, slot, startD, nth, tgLen, wipeD, cmp_lt, cmp_le, cmp_gt, cmp_ge, cmp_is, cmp_isnot, cmp_ii, cmp_iin, isN_non, isN_int, isN_bl, isN_str, isN_tup, isN_lst, isN_ins, isN_ref, isN_list, isN_enI, isN_opt, bin_add, bin_sub, bin_mul, bin_fdiv, bin_mod, bin_pow, bin_shl, bin_shr, bin_and, bin_or, bin_xor, bty_int, bty_intb, Bool.not_true, Bool.not_false, List.map_cons, List.map_nil, List.length_cons, List.length_nil, List.length_map, List.cons_append, List.nil_append, List.replicate, List.set, Nat.reduceAdd, Nat.reduceSub, Nat.zero_add, Nat.add_zero, Nat.sub_self, true_and, and_true, b__law_same, b__law_same_1, b__law_same_2, b__law_same_3, b__law_same_4, b__law_same_5, b__law_same_6, b__law_same_7, b__law_same_8, isiD, bltD, btyD, sqOf, lsOf, reduceCtorEq, decide_true, decide_false, or_self]
      rw [okD] at ox oy
      rw [sameD] at hq
      refine cmp_eq (α := St) (a := ⟨x, ox⟩) (b := ⟨y, oy⟩) ?_
      simp only [Subtype.mk.injEq]
      exact hq
    | _ => first | (simp [okD] at ox; done) | (simp only [newL, wpSs, wpS, wpE, wpL, wpO, wpI, wpC, wpT, bindT, bindL, slot, startD, nth, tgLen, wipeD, cmp_lt, cmp_le, cmp_gt, cmp_ge, cmp_is, cmp_isnot, cmp_ii, cmp_iin, isN_non, isN_int, isN_bl, isN_str, isN_tup, isN_lst, isN_ins, isN_ref, isN_list, isN_enI, isN_opt, bin_add, bin_sub, bin_mul, bin_fdiv, bin_mod, bin_pow, bin_shl, bin_shr, bin_and, bin_or, bin_xor, bty_int, bty_intb, Bool.not_true, Bool.not_false, List.map_cons, List.map_nil, List.length_cons, List.length_nil, List.length_map, List.cons_append, List.nil_append, List.replicate, List.set, Nat.reduceAdd, Nat.reduceSub, Nat.zero_add, Nat.add_zero, Nat.sub_self, true_and, and_true, b__law_same, b__law_same_1, b__law_same_2, b__law_same_3, b__law_same_4, b__law_same_5, b__law_same_6, b__law_same_7, b__law_same_8, isiD, reduceCtorEq, decide_true, decide_false, or_self]; exact hq)
  | non =>
    cases x with
    | _ => first | (simp [okD] at ox; done) | (simp only [newL, wpSs, wpS, wpE, wpL, wpO, wpI, wpC, wpT, bindT, bindL, slot, startD, nth, tgLen, wipeD, cmp_lt, cmp_le, cmp_gt, cmp_ge, cmp_is, cmp_isnot, cmp_ii, cmp_iin, isN_non, isN_int, isN_bl, isN_str, isN_tup, isN_lst, isN_ins, isN_ref, isN_list, isN_enI, isN_opt, bin_add, bin_sub, bin_mul, bin_fdiv, bin_mod, bin_pow, bin_shl, bin_shr, bin_and, bin_or, bin_xor, bty_int, bty_intb, Bool.not_true, Bool.not_false, List.map_cons, List.map_nil, List.length_cons, List.length_nil, List.length_map, List.cons_append, List.nil_append, List.replicate, List.set, Nat.reduceAdd, Nat.reduceSub, Nat.zero_add, Nat.add_zero, Nat.sub_self, true_and, and_true, b__law_same, b__law_same_1, b__law_same_2, b__law_same_3, b__law_same_4, b__law_same_5, b__law_same_6, b__law_same_7, b__law_same_8, isiD, reduceCtorEq, decide_true, decide_false, or_self]; exact hq)
  | bl y =>
    cases x with
    | bl x =>
      simp only [newL, wpSs, wpS, wpE, wpL, wpO, wpI, wpC, wpT, bindT, bindL, slot, startD, nth, tgLen, wipeD, cmp_lt, cmp_le, cmp_gt, cmp_ge, cmp_is, cmp_isnot, cmp_ii, cmp_iin, isN_non, isN_int, isN_bl, isN_str, isN_tup, isN_lst, isN_ins, isN_ref, isN_list, isN_enI, isN_opt, bin_add, bin_sub, bin_mul, bin_fdiv, bin_mod, bin_pow, bin_shl, bin_shr, bin_and, bin_or, bin_xor, bty_int, bty_intb, Bool.not_true, Bool.not_false, List.map_cons, List.map_nil, List.length_cons, List.length_nil, List.length_map, List.cons_append, List.nil_append, List.replicate, List.set, Nat.reduceAdd, Nat.reduceSub, Nat.zero_add, Nat.add_zero, Nat.sub_self, true_and, and_true, b__law_same, b__law_same_1, b__law_same_2, b__law_same_3, b__law_same_4, b__law_same_5, b__law_same_6, b__law_same_7, b__law_same_8, isiD, bltD, btyD, sqOf, lsOf, reduceCtorEq, decide_true, decide_false, or_self, or_true]
      rw [sameD] at hq
      exact cmp_eq (α := Bool) hq
    | _ => first | (simp [okD] at ox; done) | (simp only [newL, wpSs, wpS, wpE, wpL, wpO, wpI, wpC, wpT, bindT, bindL, slot, startD, nth, tgLen, wipeD, cmp_lt, cmp_le, cmp_gt, cmp_ge, cmp_is, cmp_isnot, cmp_ii, cmp_iin, isN_non, isN_int, isN_bl, isN_str, isN_tup, isN_lst, isN_ins, isN_ref, isN_list, isN_enI, isN_opt, bin_add, bin_sub, bin_mul, bin_fdiv, bin_mod, bin_pow, bin_shl, bin_shr, bin_and, bin_or, bin_xor, bty_int, bty_intb, Bool.not_true, Bool.not_false, List.map_cons, List.map_nil, List.length_cons, List.length_nil, List.length_map, List.cons_append, List.nil_append, List.replicate, List.set, Nat.reduceAdd, Nat.reduceSub, Nat.zero_add, Nat.add_zero, Nat.sub_self, true_and, and_true, b__law_same, b__law_same_1, b__law_same_2, b__law_same_3, b__law_same_4, b__law_same_5, b__law_same_6, b__law_same_7, b__law_same_8, isiD, reduceCtorEq, decide_true, decide_false, or_self, or_true]; exact hq)
  | int y =>
    cases x with
    | int x =>
      simp only [newL, wpSs, wpS, wpE, wpL, wpO, wpI, wpC, wpT, bindT, bindL, slot, startD, nth, tgLen, wipeD, cmp_lt, cmp_le, cmp_gt, cmp_ge, cmp_is, cmp_isnot, cmp_ii, cmp_iin, isN_non, isN_int, isN_bl, isN_str, isN_tup, isN_lst, isN_ins, isN_ref, isN_list, isN_enI, isN_opt, bin_add, bin_sub, bin_mul, bin_fdiv, bin_mod, bin_pow, bin_shl, bin_shr, bin_and, bin_or, bin_xor, bty_int, bty_intb, Bool.not_true, Bool.not_false, List.map_cons, List.map_nil, List.length_cons, List.length_nil, List.length_map, List.cons_append, List.nil_append, List.replicate, List.set, Nat.reduceAdd, Nat.reduceSub, Nat.zero_add, Nat.add_zero, Nat.sub_self, true_and, and_true, b__law_same, b__law_same_1, b__law_same_2, b__law_same_3, b__law_same_4, b__law_same_5, b__law_same_6, b__law_same_7, b__law_same_8, isiD, bltD, btyD, sqOf, lsOf, reduceCtorEq, decide_true, decide_false, or_self]
      rw [sameD] at hq
      exact hq
    | _ => first | (simp [okD] at ox; done) | (simp only [newL, wpSs, wpS, wpE, wpL, wpO, wpI, wpC, wpT, bindT, bindL, slot, startD, nth, tgLen, wipeD, cmp_lt, cmp_le, cmp_gt, cmp_ge, cmp_is, cmp_isnot, cmp_ii, cmp_iin, isN_non, isN_int, isN_bl, isN_str, isN_tup, isN_lst, isN_ins, isN_ref, isN_list, isN_enI, isN_opt, bin_add, bin_sub, bin_mul, bin_fdiv, bin_mod, bin_pow, bin_shl, bin_shr, bin_and, bin_or, bin_xor, bty_int, bty_intb, Bool.not_true, Bool.not_false, List.map_cons, List.map_nil, List.length_cons, List.length_nil, List.length_map, List.cons_append, List.nil_append, List.replicate, List.set, Nat.reduceAdd, Nat.reduceSub, Nat.zero_add, Nat.add_zero, Nat.sub_self, true_and, and_true, b__law_same, b__law_same_1, b__law_same_2, b__law_same_3, b__law_same_4, b__law_same_5, b__law_same_6, b__law_same_7, b__law_same_8, isiD, reduceCtorEq, decide_true, decide_false, or_self, or_true]; exact hq)
  | _ => simp [okD] at oy
end DS

namespace DS
open PySem
abbrev N_agree : List Str := ["one", "other", "a", "b"]
def b_agree : SL := (.cons (.ret (.blt false .all (.cons (.lc false [("a", 2), ("b", 3)] (.or (.cmp .Is (.var 2) .non) (.or (.cmp .Is (.var 3) .non) (.cmp .Eq (.var 2) (.var 3)))) (.tup (.cons (.v 2) (.cons (.v 3) .nil))) (.zip (.var 0) (.var 1)) .none) .nil))) .nil)
abbrev N_together : List Str := ["one", "other", "a", "b"]
def b_together : SL := (.cons (.ret (.bty false .tuple (.cons (.lc false [("a", 2), ("b", 3)] (.ife (.cmp .Is (.var 2) .non) (.var 3) (.var 2)) (.tup (.cons (.v 2) (.cons (.v 3) .nil))) (.zip (.var 0) (.var 1)) .none) .nil))) .nil)
def b_merge_1 : SL := (.cons (.asgc 3 (.lc false [("index", 4)] (.var 4) (.v 4) (.rng1 (.blt false .len (.cons (.var 1) .nil))) (.some (.call 0 (.cons (.ix (.var 1) (.var 4)) (.cons (.var 2) .nil)))))) (.cons (.ifs (.cmp .Eq (.var 3) (.lst false .nil)) (.cons (.ex (.bm .append (.var 1) (.cons (.var 2) .nil))) .nil) (.cons (.asg (.sub (.var 1) (.ix (.var 3) (.int 0))) (.call 1 (.cons (.ix (.var 1) (.ix (.var 3) (.int 0))) (.cons (.var 2) .nil)))) .nil)) .nil))
def b_merge_2 : SL := (.cons (.fz 1) (.cons (.ret (.var 1)) .nil))
abbrev N_merge : List Str := ["partials", "merged", "partial", "places", "index"]
def b_merge : SL := (.cons (.asg (.v 1) (.lst true .nil)) (.cons (.for (.v 2) (.seq (.var 0)) b_merge_1) b_merge_2))
def agreeP (p q : List (Option Int)) : Bool := (p.zip q).all fun z => z.1.isNone || (z.2.isNone || decide (z.1 = z.2))
def sp_agree : SpD := fun ds M R _ => ∃ p q : List (Option Int), ds = [En.d p, En.d q] ∧ R (.bl (agreeP p q)) M
theorem wp_agree : ∀ ds M R RX, ds.length = 2 → sp_agree ds M R RX → wpSs ⟨[], [], [], [], []⟩ (fun x _ M => RX x M) b_agree ⟨fun _ M => R .non M, R, fun _ _ => False, fun _ _ => False⟩ (startD N_agree ds) M := by
  rintro ds M R RX - ⟨p, q, rfl, hq⟩
  simp only [newL, wpSs, wpS, wpE, wpL, wpO, wpI, wpC, wpT, bindT, bindL, slot, startD, nth, tgLen, wipeD, cmp_lt, cmp_le, cmp_gt, cmp_ge, cmp_is, cmp_isnot, cmp_ii, cmp_iin, isN_non, isN_int, isN_bl, isN_str, isN_tup, isN_lst, isN_ins, isN_ref, isN_list, isN_enI, isN_opt, bin_add, bin_sub, bin_mul, bin_fdiv, bin_mod, bin_pow, bin_shl, bin_shr, bin_and, bin_or, bin_xor, bty_int, bty_intb, Bool.not_true, Bool.not_false, List.map_cons, List.map_nil, List.length_cons, List.length_nil, List.length_map, List.cons_append, List.nil_append, List.replicate, List.set, Nat.reduceAdd, Nat.reduceSub, Nat.zero_add, Nat.add_zero, Nat.sub_self, true_and, and_true, b_agree, zpOf, en_list]
  intro _ _
  rw [zipD_map]
  refine foldC_all _ _ (fun z => .bl (z.1.isNone || (z.2.isNone || decide (z.1 = z.2)))) ⟨trivial, trivial⟩ (fun z hx K1 K2 k => ?_) ?_
  · obtain ⟨a, b⟩ := z
    simp only [newL, wpSs, wpS, wpE, wpL, wpO, wpI, wpC, wpT, bindT, bindL, slot, startD, nth, tgLen, wipeD, cmp_lt, cmp_le, cmp_gt, cmp_ge, cmp_is, cmp_isnot, cmp_ii, cmp_iin, isN_non, isN_int, isN_bl, isN_str, isN_tup, isN_lst, isN_ins, isN_ref, isN_list, isN_enI, isN_opt, bin_add, bin_sub, bin_mul, bin_fdiv, bin_mod, bin_pow, bin_shl, bin_shr, bin_and, bin_or, bin_xor, bty_int, bty_intb, Bool.not_true, Bool.not_false, List.map_cons, List.map_nil, List.length_cons, List.length_nil, List.length_map, List.cons_append, List.nil_append, List.replicate, List.set, Nat.reduceAdd, Nat.reduceSub, Nat.zero_add, Nat.add_zero, Nat.sub_self, true_and, and_true]
    cases a with
    | none => exact k
    | some a => cases b with
      | none => exact k
      | some b => exact cmp_eq k
  · simp only [newL, wpSs, wpS, wpE, wpL, wpO, wpI, wpC, wpT, bindT, bindL, slot, startD, nth, tgLen, wipeD, cmp_lt, cmp_le, cmp_gt, cmp_ge, cmp_is, cmp_isnot, cmp_ii, cmp_iin, isN_non, isN_int, isN_bl, isN_str, isN_tup, isN_lst, isN_ins, isN_ref, isN_list, isN_enI, isN_opt, bin_add, bin_sub, bin_mul, bin_fdiv, bin_mod, bin_pow, bin_shl, bin_shr, bin_and, bin_or, bin_xor, bty_int, bty_intb, Bool.not_true, Bool.not_false, List.map_cons, List.map_nil, List.length_cons, List.length_nil, List.length_map, List.cons_append, List.nil_append, List.replicate, List.set, Nat.reduceAdd, Nat.reduceSub, Nat.zero_add, Nat.add_zero, Nat.sub_self, true_and, and_true, newL, bltD, lsOf]
    rw [blsOf_mapf]
    simp only [List.all_map]
    exact hq
def togetherP (p q : List (Option Int)) : List (Option Int) := (p.zip q).map fun z => if z.1.isNone then z.2 else z.1
def sp_together : SpD := fun ds M R _ => ∃ p q : List (Option Int), ds = [En.d p, En.d q] ∧ R (En.d (togetherP p q)) M
theorem wp_together : ∀ ds M R RX, ds.length = 2 → sp_together ds M R RX → wpSs ⟨[], [], [], [], []⟩ (fun x _ M => RX x M) b_together ⟨fun _ M => R .non M, R, fun _ _ => False, fun _ _ => False⟩ (startD N_together ds) M := by
  rintro ds M R RX - ⟨p, q, rfl, hq⟩
  simp only [newL, wpSs, wpS, wpE, wpL, wpO, wpI, wpC, wpT, bindT, bindL, slot, startD, nth, tgLen, wipeD, cmp_lt, cmp_le, cmp_gt, cmp_ge, cmp_is, cmp_isnot, cmp_ii, cmp_iin, isN_non, isN_int, isN_bl, isN_str, isN_tup, isN_lst, isN_ins, isN_ref, isN_list, isN_enI, isN_opt, bin_add, bin_sub, bin_mul, bin_fdiv, bin_mod, bin_pow, bin_shl, bin_shr, bin_and, bin_or, bin_xor, bty_int, bty_intb, Bool.not_true, Bool.not_false, List.map_cons, List.map_nil, List.length_cons, List.length_nil, List.length_map, List.cons_append, List.nil_append, List.replicate, List.set, Nat.reduceAdd, Nat.reduceSub, Nat.zero_add, Nat.add_zero, Nat.sub_self, true_and, and_true, b_together, zpOf, en_list]
  intro _ _
  rw [zipD_map]
  refine foldC_all _ _ (fun z => En.d (if z.1.isNone then z.2 else z.1)) ⟨trivial, trivial⟩ (fun z hx K1 K2 k => ?_) ?_
  · obtain ⟨a, b⟩ := z
    simp only [newL, wpSs, wpS, wpE, wpL, wpO, wpI, wpC, wpT, bindT, bindL, slot, startD, nth, tgLen, wipeD, cmp_lt, cmp_le, cmp_gt, cmp_ge, cmp_is, cmp_isnot, cmp_ii, cmp_iin, isN_non, isN_int, isN_bl, isN_str, isN_tup, isN_lst, isN_ins, isN_ref, isN_list, isN_enI, isN_opt, bin_add, bin_sub, bin_mul, bin_fdiv, bin_mod, bin_pow, bin_shl, bin_shr, bin_and, bin_or, bin_xor, bty_int, bty_intb, Bool.not_true, Bool.not_false, List.map_cons, List.map_nil, List.length_cons, List.length_nil, List.length_map, List.cons_append, List.nil_append, List.replicate, List.set, Nat.reduceAdd, Nat.reduceSub, Nat.zero_add, Nat.add_zero, Nat.sub_self, true_and, and_true]
    cases a <;> exact k
  · simp only [newL, wpSs, wpS, wpE, wpL, wpO, wpI, wpC, wpT, bindT, bindL, slot, startD, nth, tgLen, wipeD, cmp_lt, cmp_le, cmp_gt, cmp_ge, cmp_is, cmp_isnot, cmp_ii, cmp_iin, isN_non, isN_int, isN_bl, isN_str, isN_tup, isN_lst, isN_ins, isN_ref, isN_list, isN_enI, isN_opt, bin_add, bin_sub, bin_mul, bin_fdiv, bin_mod, bin_pow, bin_shl, bin_shr, bin_and, bin_or, bin_xor, bty_int, bty_intb, Bool.not_true, Bool.not_false, List.map_cons, List.map_nil, List.length_cons, List.length_nil, List.length_map, List.cons_append, List.nil_append, List.replicate, List.set, Nat.reduceAdd, Nat.reduceSub, Nat.zero_add, Nat.add_zero, Nat.sub_self, true_and, and_true, newL, btyD, sqOf, lsOf]
    unfold togetherP at hq
    rw [en_list, List.map_map] at hq
    exact hq

def mergeStep (m : List (List (Option Int))) (p : List (Option Int)) : List (List (Option Int)) :=
  match (List.range m.length).filter fun i => agreeP (m.getD i []) p with
  | [] => m ++ [p]
  | i :: _ => m.set i (togetherP (m.getD i []) p)
def mergeP (ps : List (List (Option Int))) : List (List (Option Int)) := ps.foldl mergeStep []
def sp_merge : SpD := fun ds M R _ => ∃ ps : List (List (Option Int)), ds = [.lst (ps.map En.d)] ∧ R (.lst ((mergeP ps).map En.d)) M
theorem mergeStep_len (m : List (List (Option Int))) (p : List (Option Int)) : (mergeStep m p).length ≤ m.length + 1 := by
  unfold mergeStep; split <;> simp
theorem foldl_len : ∀ (ps m : List (List (Option Int))), (ps.foldl mergeStep m).length ≤ m.length + ps.length
  | [], m => Nat.le_refl _
  | p :: ps, m => Nat.le_trans (foldl_len ps _) (by have := mergeStep_len m p; rw [List.length_cons]; omega)
theorem mergeP_len (ps : List (List (Option Int))) : (mergeP ps).length ≤ ps.length := by simpa [mergeP] using foldl_len ps []
theorem wp_merge : ∀ ds M R RX, ds.length = 1 → sp_merge ds M R RX → wpSs ⟨[(2, sp_agree), (2, sp_together)], [], [], [], []⟩ (fun x _ M => RX x M) b_merge ⟨fun _ M => R .non M, R, fun _ _ => False, fun _ _ => False⟩ (startD N_merge ds) M := by
  rintro ds M R RX - ⟨ps, rfl, hq⟩
  simp only [newL, wpSs, wpS, wpE, wpL, wpO, wpI, wpC, wpT, bindT, bindL, slot, startD, nth, tgLen, wipeD, cmp_lt, cmp_le, cmp_gt, cmp_ge, cmp_is, cmp_isnot, cmp_ii, cmp_iin, isN_non, isN_int, isN_bl, isN_str, isN_tup, isN_lst, isN_ins, isN_ref, isN_list, isN_enI, isN_opt, bin_add, bin_sub, bin_mul, bin_fdiv, bin_mod, bin_pow, bin_shl, bin_shr, bin_and, bin_or, bin_xor, bty_int, bty_intb, Bool.not_true, Bool.not_false, List.map_cons, List.map_nil, List.length_cons, List.length_nil, List.length_map, List.cons_append, List.nil_append, List.replicate, List.set, Nat.reduceAdd, Nat.reduceSub, Nat.zero_add, Nat.add_zero, Nat.sub_self, true_and, and_true, b_merge, newL, sqOf, lsOf]
  intro a ha hz
  refine foldS_inv (fun i ρ M' => ∃ v2 v3 v4, ρ = [some (.lst (ps.map En.d)), some (.ref a), v2, v3, v4] ∧ M' = mset M a (.lst ((mergeP (ps.take i)).map En.d))) ⟨_, _, _, rfl, rfl⟩ (fun _ _ _ _ => trivial) ?_ ?_
  · rintro i x ρ M' hx ⟨v2, v3, v4, rfl, rfl⟩ K hK
    obtain ⟨p, hp, rfl⟩ := getElem?_map_some hx
    simp only [newL, wpSs, wpS, wpE, wpL, wpO, wpI, wpC, wpT, bindT, bindL, slot, startD, nth, tgLen, wipeD, cmp_lt, cmp_le, cmp_gt, cmp_ge, cmp_is, cmp_isnot, cmp_ii, cmp_iin, isN_non, isN_int, isN_bl, isN_str, isN_tup, isN_lst, isN_ins, isN_ref, isN_list, isN_enI, isN_opt, bin_add, bin_sub, bin_mul, bin_fdiv, bin_mod, bin_pow, bin_shl, bin_shr, bin_and, bin_or, bin_xor, bty_int, bty_intb, Bool.not_true, Bool.not_false, List.map_cons, List.map_nil, List.length_cons, List.length_nil, List.length_map, List.cons_append, List.nil_append, List.replicate, List.set, Nat.reduceAdd, Nat.reduceSub, Nat.zero_add, Nat.add_zero, Nat.sub_self, true_and, and_true, b_merge_1, bltD, sqOf, lsOf, mset_same]
    have h1 := mergeP_len (ps.take i)
    have hi : i < ps.length := (List.getElem?_eq_some_iff.mp hp).1
    rw [List.length_take, Nat.min_eq_left (Nat.le_of_lt hi)] at h1
    have hz' : ps.length ≤ 16777216 := hz
    have hm : mergeP (ps.take (i + 1)) = mergeStep (mergeP (ps.take i)) p := by
      unfold mergeP
      rw [List.take_add_one, hp, List.foldl_append]; rfl
    generalize mergeP (ps.take i) = m at *
    intro _
    refine ⟨by omega, ?_⟩
    rw [Int.toNat_natCast, rgD01]
    refine foldC_if _ _ (fun i : Nat => En.d (i : Int)) (fun i => agreeP (m.getD i []) p) trivial (fun j hj K1 K2 k1 k2 => ?_) ?_
    · have hj' : j < m.length := List.mem_range.mp hj
      have ej : m[j]? = some (m.getD j []) := by rw [List.getD_eq_getElem?_getD, List.getElem?_eq_getElem hj']; rfl
      simp only [newL, wpSs, wpS, wpE, wpL, wpO, wpI, wpC, wpT, bindT, bindL, slot, startD, nth, tgLen, wipeD, cmp_lt, cmp_le, cmp_gt, cmp_ge, cmp_is, cmp_isnot, cmp_ii, cmp_iin, isN_non, isN_int, isN_bl, isN_str, isN_tup, isN_lst, isN_ins, isN_ref, isN_list, isN_enI, isN_opt, bin_add, bin_sub, bin_mul, bin_fdiv, bin_mod, bin_pow, bin_shl, bin_shr, bin_and, bin_or, bin_xor, bty_int, bty_intb, Bool.not_true, Bool.not_false, List.map_cons, List.map_nil, List.length_cons, List.length_nil, List.length_map, List.cons_append, List.nil_append, List.replicate, List.set, Nat.reduceAdd, Nat.reduceSub, Nat.zero_add, Nat.add_zero, Nat.sub_self, true_and, and_true]
      refine ix_map sq_ref ej ⟨_, _, rfl, ?_⟩
      simp only [newL, wpSs, wpS, wpE, wpL, wpO, wpI, wpC, wpT, bindT, bindL, slot, startD, nth, tgLen, wipeD, cmp_lt, cmp_le, cmp_gt, cmp_ge, cmp_is, cmp_isnot, cmp_ii, cmp_iin, isN_non, isN_int, isN_bl, isN_str, isN_tup, isN_lst, isN_ins, isN_ref, isN_list, isN_enI, isN_opt, bin_add, bin_sub, bin_mul, bin_fdiv, bin_mod, bin_pow, bin_shl, bin_shr, bin_and, bin_or, bin_xor, bty_int, bty_intb, Bool.not_true, Bool.not_false, List.map_cons, List.map_nil, List.length_cons, List.length_nil, List.length_map, List.cons_append, List.nil_append, List.replicate, List.set, Nat.reduceAdd, Nat.reduceSub, Nat.zero_add, Nat.add_zero, Nat.sub_self, true_and, and_true]
      cases e : agreeP (m.getD j []) p with
      | true => exact k1 e
      | false => exact k2 e
    · rw [List.nil_append]
      refine eq_nilf (f := fun i : Nat => (i : Int)) ?_
      cases e : (List.range m.length).filter (fun i => agreeP (m.getD i []) p) with
      | nil =>
        simp only [newL, wpSs, wpS, wpE, wpL, wpO, wpI, wpC, wpT, bindT, bindL, slot, startD, nth, tgLen, wipeD, cmp_lt, cmp_le, cmp_gt, cmp_ge, cmp_is, cmp_isnot, cmp_ii, cmp_iin, isN_non, isN_int, isN_bl, isN_str, isN_tup, isN_lst, isN_ins, isN_ref, isN_list, isN_enI, isN_opt, bin_add, bin_sub, bin_mul, bin_fdiv, bin_mod, bin_pow, bin_shl, bin_shr, bin_and, bin_or, bin_xor, bty_int, bty_intb, Bool.not_true, Bool.not_false, List.map_cons, List.map_nil, List.length_cons, List.length_nil, List.length_map, List.cons_append, List.nil_append, List.replicate, List.set, Nat.reduceAdd, Nat.reduceSub, Nat.zero_add, Nat.add_zero, Nat.sub_self, true_and, and_true, bmTy, ls_ref, bmD, mset_same, Option.isSome]
        refine ⟨by show m.length < 16777216; omega, hK _ _ ⟨_, _, _, rfl, ?_⟩⟩
        rw [hm, mset_mset]
        unfold mergeStep
        rw [e, List.map_append]; rfl
      | cons j r =>
        have hj' : j < m.length := List.mem_range.mp (List.mem_filter.mp (e ▸ List.mem_cons_self ..)).1
        have ej : m[j]? = some (m.getD j []) := by rw [List.getD_eq_getElem?_getD, List.getElem?_eq_getElem hj']; rfl
        simp only [newL, wpSs, wpS, wpE, wpL, wpO, wpI, wpC, wpT, bindT, bindL, slot, startD, nth, tgLen, wipeD, cmp_lt, cmp_le, cmp_gt, cmp_ge, cmp_is, cmp_isnot, cmp_ii, cmp_iin, isN_non, isN_int, isN_bl, isN_str, isN_tup, isN_lst, isN_ins, isN_ref, isN_list, isN_enI, isN_opt, bin_add, bin_sub, bin_mul, bin_fdiv, bin_mod, bin_pow, bin_shl, bin_shr, bin_and, bin_or, bin_xor, bty_int, bty_intb, Bool.not_true, Bool.not_false, List.map_cons, List.map_nil, List.length_cons, List.length_nil, List.length_map, List.cons_append, List.nil_append, List.replicate, List.set, Nat.reduceAdd, Nat.reduceSub, Nat.zero_add, Nat.add_zero, Nat.sub_self, true_and, and_true, List.isEmpty_cons, en_int]
        refine ix_at (i := 0) rfl rfl ?_
        refine ix_map sq_ref ej ⟨_, _, rfl, ?_⟩
        refine ix_at (i := 0) rfl rfl ?_
        simp only [newL, wpSs, wpS, wpE, wpL, wpO, wpI, wpC, wpT, bindT, bindL, slot, startD, nth, tgLen, wipeD, cmp_lt, cmp_le, cmp_gt, cmp_ge, cmp_is, cmp_isnot, cmp_ii, cmp_iin, isN_non, isN_int, isN_bl, isN_str, isN_tup, isN_lst, isN_ins, isN_ref, isN_list, isN_enI, isN_opt, bin_add, bin_sub, bin_mul, bin_fdiv, bin_mod, bin_pow, bin_shl, bin_shr, bin_and, bin_or, bin_xor, bty_int, bty_intb, Bool.not_true, Bool.not_false, List.map_cons, List.map_nil, List.length_cons, List.length_nil, List.length_map, List.cons_append, List.nil_append, List.replicate, List.set, Nat.reduceAdd, Nat.reduceSub, Nat.zero_add, Nat.add_zero, Nat.sub_self, true_and, and_true, mset_same, ixN_nat hj']
        refine hK _ _ ⟨_, _, _, rfl, ?_⟩
        rw [hm, mset_mset]
        unfold mergeStep
        rw [e, List.map_set]
  · rintro ρ M' ⟨v2, v3, v4, rfl, rfl⟩
    simp only [newL, wpSs, wpS, wpE, wpL, wpO, wpI, wpC, wpT, bindT, bindL, slot, startD, nth, tgLen, wipeD, cmp_lt, cmp_le, cmp_gt, cmp_ge, cmp_is, cmp_isnot, cmp_ii, cmp_iin, isN_non, isN_int, isN_bl, isN_str, isN_tup, isN_lst, isN_ins, isN_ref, isN_list, isN_enI, isN_opt, bin_add, bin_sub, bin_mul, bin_fdiv, bin_mod, bin_pow, bin_shl, bin_shr, bin_and, bin_or, bin_xor, bty_int, bty_intb, Bool.not_true, Bool.not_false, List.map_cons, List.map_nil, List.length_cons, List.length_nil, List.length_map, List.cons_append, List.nil_append, List.replicate, List.set, Nat.reduceAdd, Nat.reduceSub, Nat.zero_add, Nat.add_zero, Nat.sub_self, true_and, and_true, b_merge_2, mset_same, mdel_mset ha]
    rw [List.take_length]
    exact hq
end DS

namespace DS
open PySem
abbrev N__law_clash : List Str := ["one", "other", "k"]
def b__law_clash : SL := (.cons (.ret (.cmp .Gt (.blt false .len (.cons (.lc false [("k", 2)] (.var 2) (.v 2) (.rng1 (.blt false .len (.cons (.var 0) .nil))) (.some (.and (.cmp .IsNot (.ix (.var 0) (.var 2)) .non) (.and (.cmp .IsNot (.ix (.var 1) (.var 2)) .non) (.cmp .NotEq (.ix (.var 0) (.var 2)) (.ix (.var 1) (.var 2))))))) .nil)) (.int 0))) .nil)
def b_law_1 : SL := (.cons (.ex (.bm .append (.var 4) (.cons (.bty false .tuple (.cons (.lc false [("j", 13)] (.ix (.lst false (.cons (.int 0) (.cons (.int 1) (.cons .non (.cons .non (.cons .non (.cons .non .nil))))))) (.call 1 (.cons (.var 1) (.cons (.var 3) .nil)))) (.v 13) (.rng1 (.var 2)) .none) .nil)) .nil))) (.cons (.ifs (.cmp .Eq (.call 1 (.cons (.var 1) (.cons (.int 8) .nil))) (.int 0)) (.cons (.ex (.bm .append (.var 4) (.cons (.ix (.var 4) (.call 1 (.cons (.var 1) (.cons (.blt false .len (.cons (.var 4) .nil)) .nil)))) .nil))) .nil) .nil) .nil))
def b_law_2 : SL := (.cons (.asgc 8 (.lc false [("k", 5)] (.var 5) (.v 5) (.rng1 (.blt false .len (.cons (.var 6) .nil))) (.some (.not (.call 2 (.cons (.ix (.var 6) (.var 5)) (.cons (.var 7) .nil))))))) (.cons (.ifs (.cmp .Eq (.blt false .len (.cons (.var 8) .nil)) (.int 0)) (.cons (.ex (.bm .append (.var 6) (.cons (.var 7) .nil))) .nil) (.cons (.asg (.v 9) (.ix (.var 6) (.ix (.var 8) (.int 0)))) (.cons (.asg (.sub (.var 6) (.ix (.var 8) (.int 0))) (.bty false .tuple (.cons (.lc false [("k", 5)] (.ife (.cmp .Is (.ix (.var 9) (.var 5)) .non) (.ix (.var 7) (.var 5)) (.ix (.var 9) (.var 5))) (.v 5) (.rng1 (.var 2)) .none) .nil))) .nil))) .nil))
def b_law_3 : SL := (.cons (.asgc 12 (.lc false [("row", 9)] (.var 9) (.v 9) (.seq (.var 11)) (.some (.cmp .Eq (.blt false .len (.cons (.lc false [("k", 5)] (.var 5) (.v 5) (.rng1 (.var 2)) (.some (.and (.cmp .IsNot (.ix (.var 7) (.var 5)) .non) (.cmp .NotEq (.ix (.var 9) (.var 5)) (.ix (.var 7) (.var 5)))))) .nil)) (.int 0))))) (.cons (.ifs (.cmp .Eq (.blt false .len (.cons (.var 12) .nil)) (.int 0)) (.cons (.ret (.bl false)) .nil) .nil) .nil))
def b_law_4 : SL := (.cons (.ret (.bl true)) .nil)
def b_law_5 : SL := (.cons (.for (.v 7) (.seq (.var 4)) b_law_3) b_law_4)
def b_law_6 : SL := (.cons (.fz 6) (.cons (.fz 4) (.cons (.asg (.v 10) (.bty false .list (.cons (.var 4) .nil))) (.cons (.asg (.v 11) (.call 3 (.cons (.var 10) .nil))) (.cons (.ifs (.or (.not (.call 4 (.cons (.var 11) (.cons (.var 6) .nil)))) (.cmp .NotEq (.var 10) (.var 4))) (.cons (.ret (.bl false)) .nil) .nil) b_law_5)))))
def b_law_7 : SL := (.cons (.asg (.v 6) (.lst true .nil)) (.cons (.for (.v 7) (.seq (.var 4)) b_law_2) b_law_6))
abbrev N_law : List Str := ["script", "draws", "size", "many", "partials", "k", "due", "partial", "places", "row", "handed", "found", "holders", "j"]
def b_law : SL := (.cons (.asg (.v 1) (.call 0 (.cons (.var 0) .nil))) (.cons (.asg (.v 2) (.call 1 (.cons (.var 1) (.cons (.int 13) .nil)))) (.cons (.asg (.v 3) (.bin false .Add (.int 2) (.call 1 (.cons (.var 1) (.cons (.int 4) .nil))))) (.cons (.asg (.v 4) (.lst true .nil)) (.cons (.for (.v 5) (.rng1 (.call 1 (.cons (.var 1) (.cons (.int 21) .nil)))) b_law_1) b_law_7)))))
def sp__law_clash : SpD := fun ds M R _ => ∃ p q : List (Option Int), ds = [En.d p, En.d q] ∧ p.length = q.length ∧ R (.bl (!agreeP p q)) M
theorem wp__law_clash : ∀ ds M R RX, ds.length = 2 → sp__law_clash ds M R RX → wpSs ⟨[], [], [], [], []⟩ (fun x _ M => RX x M) b__law_clash ⟨fun _ M => R .non M, R, fun _ _ => False, fun _ _ => False⟩ (startD N__law_clash ds) M := by
  rintro ds M R RX - ⟨p, q, rfl, hl, hq⟩
  simp only [newL, wpSs, wpS, wpE, wpL, wpO, wpI, wpC, wpT, bindT, bindL, slot, startD, nth, tgLen, wipeD, cmp_lt, cmp_le, cmp_gt, cmp_ge, cmp_is, cmp_isnot, cmp_ii, cmp_iin, isN_non, isN_int, isN_bl, isN_str, isN_tup, isN_lst, isN_ins, isN_ref, isN_list, isN_enI, isN_opt, bin_add, bin_sub, bin_mul, bin_fdiv, bin_mod, bin_pow, bin_shl, bin_shr, bin_and, bin_or, bin_xor, bty_int, bty_intb, Bool.not_true, Bool.not_false, List.map_cons, List.map_nil, List.length_cons, List.length_nil, List.length_map, List.cons_append, List.nil_append, List.replicate, List.set, Nat.reduceAdd, Nat.reduceSub, Nat.zero_add, Nat.add_zero, Nat.sub_self, true_and, and_true, b__law_clash, bltD, sqOf, lsOf, en_list]
  intro l1
  have l2 : p.length ≤ 16777216 := l1
  refine ⟨by omega, ?_⟩
  rw [Int.toNat_natCast, rgD01]
  refine foldC_if _ _ (fun i : Nat => D.int i) (fun i => (p.getD i none).isSome && ((q.getD i none).isSome && !decide (p.getD i none = q.getD i none))) trivial (fun j hj K1 K2 k1 k2 => ?_) ?_
  · have hj' : j < p.length := List.mem_range.mp hj
    have ep : p[j]? = some (p.getD j none) := by rw [List.getD_eq_getElem?_getD, List.getElem?_eq_getElem hj']; rfl
    have eq : q[j]? = some (q.getD j none) := by rw [List.getD_eq_getElem?_getD, List.getElem?_eq_getElem (hl ▸ hj')]; rfl
    generalize p.getD j none = a at *
    generalize q.getD j none = b at *
    simp only [newL, wpSs, wpS, wpE, wpL, wpO, wpI, wpC, wpT, bindT, bindL, slot, startD, nth, tgLen, wipeD, cmp_lt, cmp_le, cmp_gt, cmp_ge, cmp_is, cmp_isnot, cmp_ii, cmp_iin, isN_non, isN_int, isN_bl, isN_str, isN_tup, isN_lst, isN_ins, isN_ref, isN_list, isN_enI, isN_opt, bin_add, bin_sub, bin_mul, bin_fdiv, bin_mod, bin_pow, bin_shl, bin_shr, bin_and, bin_or, bin_xor, bty_int, bty_intb, Bool.not_true, Bool.not_false, List.map_cons, List.map_nil, List.length_cons, List.length_nil, List.length_map, List.cons_append, List.nil_append, List.replicate, List.set, Nat.reduceAdd, Nat.reduceSub, Nat.zero_add, Nat.add_zero, Nat.sub_self, true_and, and_true]
    refine ix_map rfl ep ?_
    simp only [newL, wpSs, wpS, wpE, wpL, wpO, wpI, wpC, wpT, bindT, bindL, slot, startD, nth, tgLen, wipeD, cmp_lt, cmp_le, cmp_gt, cmp_ge, cmp_is, cmp_isnot, cmp_ii, cmp_iin, isN_non, isN_int, isN_bl, isN_str, isN_tup, isN_lst, isN_ins, isN_ref, isN_list, isN_enI, isN_opt, bin_add, bin_sub, bin_mul, bin_fdiv, bin_mod, bin_pow, bin_shl, bin_shr, bin_and, bin_or, bin_xor, bty_int, bty_intb, Bool.not_true, Bool.not_false, List.map_cons, List.map_nil, List.length_cons, List.length_nil, List.length_map, List.cons_append, List.nil_append, List.replicate, List.set, Nat.reduceAdd, Nat.reduceSub, Nat.zero_add, Nat.add_zero, Nat.sub_self, true_and, and_true]
    cases a with
    | none => exact k2 rfl
    | some a =>
      refine ix_map rfl eq ?_
      simp only [newL, wpSs, wpS, wpE, wpL, wpO, wpI, wpC, wpT, bindT, bindL, slot, startD, nth, tgLen, wipeD, cmp_lt, cmp_le, cmp_gt, cmp_ge, cmp_is, cmp_isnot, cmp_ii, cmp_iin, isN_non, isN_int, isN_bl, isN_str, isN_tup, isN_lst, isN_ins, isN_ref, isN_list, isN_enI, isN_opt, bin_add, bin_sub, bin_mul, bin_fdiv, bin_mod, bin_pow, bin_shl, bin_shr, bin_and, bin_or, bin_xor, bty_int, bty_intb, Bool.not_true, Bool.not_false, List.map_cons, List.map_nil, List.length_cons, List.length_nil, List.length_map, List.cons_append, List.nil_append, List.replicate, List.set, Nat.reduceAdd, Nat.reduceSub, Nat.zero_add, Nat.add_zero, Nat.sub_self, true_and, and_true]
      cases b with
      | none => exact k2 rfl
      | some b =>
        refine ix_map rfl ep (ix_map rfl eq ?_)
        refine cmp_ne (α := Option Int) ?_
        simp only [newL, wpSs, wpS, wpE, wpL, wpO, wpI, wpC, wpT, bindT, bindL, slot, startD, nth, tgLen, wipeD, cmp_lt, cmp_le, cmp_gt, cmp_ge, cmp_is, cmp_isnot, cmp_ii, cmp_iin, isN_non, isN_int, isN_bl, isN_str, isN_tup, isN_lst, isN_ins, isN_ref, isN_list, isN_enI, isN_opt, bin_add, bin_sub, bin_mul, bin_fdiv, bin_mod, bin_pow, bin_shl, bin_shr, bin_and, bin_or, bin_xor, bty_int, bty_intb, Bool.not_true, Bool.not_false, List.map_cons, List.map_nil, List.length_cons, List.length_nil, List.length_map, List.cons_append, List.nil_append, List.replicate, List.set, Nat.reduceAdd, Nat.reduceSub, Nat.zero_add, Nat.add_zero, Nat.sub_self, true_and, and_true]
        cases h : decide (some a = some b) with
        | true => exact k2 (by rw [h]; rfl)
        | false => exact k1 (by rw [h]; rfl)
  · simp only [newL, wpSs, wpS, wpE, wpL, wpO, wpI, wpC, wpT, bindT, bindL, slot, startD, nth, tgLen, wipeD, cmp_lt, cmp_le, cmp_gt, cmp_ge, cmp_is, cmp_isnot, cmp_ii, cmp_iin, isN_non, isN_int, isN_bl, isN_str, isN_tup, isN_lst, isN_ins, isN_ref, isN_list, isN_enI, isN_opt, bin_add, bin_sub, bin_mul, bin_fdiv, bin_mod, bin_pow, bin_shl, bin_shr, bin_and, bin_or, bin_xor, bty_int, bty_intb, Bool.not_true, Bool.not_false, List.map_cons, List.map_nil, List.length_cons, List.length_nil, List.length_map, List.cons_append, List.nil_append, List.replicate, List.set, Nat.reduceAdd, Nat.reduceSub, Nat.zero_add, Nat.add_zero, Nat.sub_self, true_and, and_true, newL]
    intro _
    rw [filter_pos]
    refine cast (congrArg (fun b => R (.bl (!b)) M) ?_) hq
    unfold agreeP
    rw [zip_all (fun a b => a.isNone || (b.isNone || decide (a = b))) none none p q hl]
    congr 1
    funext i
    cases p.getD i none <;> cases q.getD i none <;> simp
/-- what a row keeps of a partial pattern -/
def covP (r p : List (Option Int)) : Bool := (r.zip p).all fun z => z.2.isNone || decide (z.1 = z.2)
theorem tog_len {r p : List (Option Int)} (h : r.length = p.length) : (togetherP r p).length = r.length := by
  unfold togetherP; rw [List.length_map, List.length_zip]; omega
theorem cov_refl : ∀ p : List (Option Int), covP p p = true
  | [] => rfl
  | a :: p => by have := cov_refl p; unfold covP at this ⊢; rw [List.zip_cons_cons, List.all_cons, this]; simp
theorem cov_new : ∀ {r p : List (Option Int)}, r.length = p.length → agreeP r p = true → covP (togetherP r p) p = true
  | [], [], _, _ => rfl
  | [], _ :: _, h, _ => by simp at h
  | _ :: _, [], h, _ => by simp at h
  | a :: r, b :: p, h, k => by
    unfold agreeP at k
    rw [List.zip_cons_cons, List.all_cons, Bool.and_eq_true_iff] at k
    have ih := cov_new (r := r) (p := p) (by simpa using h) k.2
    unfold covP togetherP at ih ⊢
    rw [List.zip_cons_cons, List.map_cons, List.zip_cons_cons, List.all_cons, ih, Bool.and_true]
    have k1 := k.1
    cases a <;> cases b <;> simp at k1 ⊢
    exact k1
theorem cov_old : ∀ {r p c : List (Option Int)}, r.length = p.length → r.length = c.length → covP r c = true → covP (togetherP r p) c = true
  | [], [], _, _, _, _ => by simp [togetherP, covP]
  | [], _ :: _, _, h, _, _ => by simp at h
  | _ :: _, [], _, h, _, _ => by simp at h
  | _ :: _, _ :: _, [], _, h, _ => by simp at h
  | a :: r, b :: p, c :: q, h, h2, k => by
    unfold covP at k
    rw [List.zip_cons_cons, List.all_cons, Bool.and_eq_true_iff] at k
    have ih := cov_old (r := r) (p := p) (c := q) (by simpa using h) (by simpa using h2) k.2
    unfold covP togetherP at ih ⊢
    rw [List.zip_cons_cons, List.map_cons, List.zip_cons_cons, List.all_cons, ih, Bool.and_true]
    have k1 := k.1
    cases a <;> cases b <;> cases c <;> simp at k1 ⊢
    all_goals exact k1
structure Mg (n : Nat) (ps m : List (List (Option Int))) : Prop where
  l : ∀ r ∈ m, r.length = n
  c : ∀ p ∈ ps, ∃ r ∈ m, covP r p = true
theorem Mg.step {n : Nat} {ps m : List (List (Option Int))} {p : List (Option Int)} (h : Mg n ps m) (hp : p.length = n) (hps : ∀ q ∈ ps, q.length = n) : Mg n (ps ++ [p]) (mergeStep m p) := by
  unfold mergeStep
  split
  · refine ⟨fun r hr => ?_, fun q hq => ?_⟩
    · rcases List.mem_append.mp hr with h1 | h1
      · exact h.l r h1
      · rw [List.mem_singleton.mp h1]; exact hp
    · rcases List.mem_append.mp hq with h1 | h1
      · obtain ⟨r, h2, h3⟩ := h.c q h1
        exact ⟨r, List.mem_append_left _ h2, h3⟩
      · rw [List.mem_singleton.mp h1]; exact ⟨p, List.mem_append_right _ (List.mem_singleton.mpr rfl), cov_refl p⟩
  · rename_i i t e
    have hi := List.mem_filter.mp (e ▸ List.mem_cons_self .. : i ∈ (List.range m.length).filter fun i => agreeP (m.getD i []) p)
    have hi1 := List.mem_range.mp hi.1
    have ei : m.getD i [] = m[i] := by rw [List.getD_eq_getElem?_getD, List.getElem?_eq_getElem hi1]; rfl
    rw [ei] at hi ⊢
    have hl := h.l _ (List.getElem_mem hi1)
    refine ⟨fun r hr => ?_, fun q hq => ?_⟩
    · rcases List.mem_or_eq_of_mem_set hr with h1 | h1
      · exact h.l r h1
      · rw [h1, tog_len (by omega)]; exact hl
    · have hin : togetherP m[i] p ∈ m.set i (togetherP m[i] p) := List.mem_set hi1 _
      rcases List.mem_append.mp hq with h1 | h1
      · obtain ⟨r, h2, h3⟩ := h.c q h1
        obtain ⟨j, hj, ej⟩ := List.getElem_of_mem h2
        by_cases hij : i = j
        · subst hij
          rw [ej] at hl hin ⊢
          exact ⟨_, hin, cov_old (by omega) (by have := hps q h1; omega) h3⟩
        · refine ⟨r, ?_, h3⟩
          have : (m.set i (togetherP m[i] p))[j]'(by rw [List.length_set]; exact hj) = r := by rw [List.getElem_set_ne hij]; exact ej
          rw [← this]; exact List.getElem_mem _
      · rw [List.mem_singleton.mp h1]; exact ⟨_, hin, cov_new (by omega) hi.2⟩
theorem mg_all {n : Nat} {ps : List (List (Option Int))} (h : ∀ q ∈ ps, q.length = n) : ∀ i, i ≤ ps.length → Mg n (ps.take i) (mergeP (ps.take i))
  | 0, _ => ⟨fun r hr => by simp [mergeP] at hr, fun p hp => by simp at hp⟩
  | i + 1, hi => by
    have ih := mg_all h i (by omega)
    have e : ps.take (i + 1) = ps.take i ++ [ps[i]'(by omega)] := by rw [List.take_add_one, List.getElem?_eq_getElem (by omega)]; rfl
    have em : mergeP (ps.take i ++ [ps[i]'(by omega)]) = mergeStep (mergeP (ps.take i)) (ps[i]'(by omega)) := by unfold mergeP; rw [List.foldl_append]; rfl
    rw [e, em]
    exact ih.step (h _ (List.getElem_mem _)) fun q hq => h q (List.mem_of_mem_take hq)
abbrev Gl : Gam := ⟨[(1, sp__law_draws), (2, sp__law_draw), (2, sp__law_clash), (1, sp_merge), (2, sp__law_same 10)], [], [], [], []⟩
abbrev spL : SpD := spLaw 63
abbrev Rn (R : QE) : EndsD := ⟨fun _ M => R .non M, R, fun _ _ => False, fun _ _ => False⟩
theorem law7 {M : Mp} {R : QE} {RX : QX} (hq : ∀ M', R (.bl true) M') {x0 x1 x3 : D} {v5 : Option D} {b : Addr} {n : Nat} {ps : List (List (Option Int))} (hb : M b = some (.lst (ps.map En.d))) (hn : ∀ q ∈ ps, q.length = n) (hl : ps.length ≤ 42) (hs : n < 13) :
    wpSs Gl (fun x _ M => RX x M) b_law_7 (Rn R) [some x0, some x1, some (.int n), some x3, some (.ref b), v5, none, none, none, none, none, none, none, none] M := by
  simp only [newL, wpSs, wpS, wpE, wpL, wpO, wpI, wpC, wpT, bindT, bindL, slot, startD, nth, tgLen, wipeD, cmp_lt, cmp_le, cmp_gt, cmp_ge, cmp_is, cmp_isnot, cmp_ii, cmp_iin, isN_non, isN_int, isN_bl, isN_str, isN_tup, isN_lst, isN_ins, isN_ref, isN_list, isN_enI, isN_opt, bin_add, bin_sub, bin_mul, bin_fdiv, bin_mod, bin_pow, bin_shl, bin_shr, bin_and, bin_or, bin_xor, bty_int, bty_intb, Bool.not_true, Bool.not_false, List.map_cons, List.map_nil, List.length_cons, List.length_nil, List.length_map, List.cons_append, List.nil_append, List.replicate, List.set, Nat.reduceAdd, Nat.reduceSub, Nat.zero_add, Nat.add_zero, Nat.sub_self, true_and, and_true, b_law_7]
  intro c hc
  have hcb : b ≠ c := fun e => by rw [← e, hb] at hc; cases hc
  simp only [newL, wpSs, wpS, wpE, wpL, wpO, wpI, wpC, wpT, bindT, bindL, slot, startD, nth, tgLen, wipeD, cmp_lt, cmp_le, cmp_gt, cmp_ge, cmp_is, cmp_isnot, cmp_ii, cmp_iin, isN_non, isN_int, isN_bl, isN_str, isN_tup, isN_lst, isN_ins, isN_ref, isN_list, isN_enI, isN_opt, bin_add, bin_sub, bin_mul, bin_fdiv, bin_mod, bin_pow, bin_shl, bin_shr, bin_and, bin_or, bin_xor, bty_int, bty_intb, Bool.not_true, Bool.not_false, List.map_cons, List.map_nil, List.length_cons, List.length_nil, List.length_map, List.cons_append, List.nil_append, List.replicate, List.set, Nat.reduceAdd, Nat.reduceSub, Nat.zero_add, Nat.add_zero, Nat.sub_self, true_and, and_true, sqOf, lsOf, mset_ne hcb, hb]
  intro _
  refine foldS_inv (fun i ρ M' => (∃ v5 v7 v8 v9, ρ = [some x0, some x1, some (.int n), some x3, some (.ref b), v5, some (.ref c), v7, v8, v9, none, none, none, none]) ∧ M' b = some (.lst (ps.map En.d)) ∧ M' c = some (.lst ((mergeP (ps.take i)).map En.d))) ⟨⟨_, _, _, _, rfl⟩, by rw [mset_ne hcb]; exact hb, mset_same⟩ (fun _ _ M' h => by simp only [stay]; rw [h.2.1, mset_ne hcb, hb]) ?_ ?_
  · rintro i x ρ M' hx ⟨⟨v5, v7, v8, v9, rfl⟩, kb, kc⟩ K hK
    obtain ⟨p, hp, rfl⟩ := getElem?_map_some hx
    have hi : i < ps.length := (List.getElem?_eq_some_iff.mp hp).1
    have hpn : p.length = n := hn p (List.mem_of_getElem? hp)
    have hm : mergeP (ps.take (i + 1)) = mergeStep (mergeP (ps.take i)) p := by
      unfold mergeP
      rw [List.take_add_one, hp, List.foldl_append]; rfl
    have hml := mergeP_len (ps.take i)
    have hg := mg_all hn i (by omega)
    rw [List.length_take] at hml
    generalize mergeP (ps.take i) = m at *
    simp only [newL, wpSs, wpS, wpE, wpL, wpO, wpI, wpC, wpT, bindT, bindL, slot, startD, nth, tgLen, wipeD, cmp_lt, cmp_le, cmp_gt, cmp_ge, cmp_is, cmp_isnot, cmp_ii, cmp_iin, isN_non, isN_int, isN_bl, isN_str, isN_tup, isN_lst, isN_ins, isN_ref, isN_list, isN_enI, isN_opt, bin_add, bin_sub, bin_mul, bin_fdiv, bin_mod, bin_pow, bin_shl, bin_shr, bin_and, bin_or, bin_xor, bty_int, bty_intb, Bool.not_true, Bool.not_false, List.map_cons, List.map_nil, List.length_cons, List.length_nil, List.length_map, List.cons_append, List.nil_append, List.replicate, List.set, Nat.reduceAdd, Nat.reduceSub, Nat.zero_add, Nat.add_zero, Nat.sub_self, true_and, and_true, b_law_2, bltD, sqOf, lsOf, kc]
    intro _
    refine ⟨by omega, ?_⟩
    rw [Int.toNat_natCast, rgD01]
    refine foldC_if _ _ (fun i : Nat => D.int i) (fun i => agreeP (m.getD i []) p) trivial (fun j hj K1 K2 k1 k2 => ?_) ?_
    · have hj' : j < m.length := List.mem_range.mp hj
      have ej : m[j]? = some (m.getD j []) := by rw [List.getD_eq_getElem?_getD, List.getElem?_eq_getElem hj']; rfl
      simp only [newL, wpSs, wpS, wpE, wpL, wpO, wpI, wpC, wpT, bindT, bindL, slot, startD, nth, tgLen, wipeD, cmp_lt, cmp_le, cmp_gt, cmp_ge, cmp_is, cmp_isnot, cmp_ii, cmp_iin, isN_non, isN_int, isN_bl, isN_str, isN_tup, isN_lst, isN_ins, isN_ref, isN_list, isN_enI, isN_opt, bin_add, bin_sub, bin_mul, bin_fdiv, bin_mod, bin_pow, bin_shl, bin_shr, bin_and, bin_or, bin_xor, bty_int, bty_intb, Bool.not_true, Bool.not_false, List.map_cons, List.map_nil, List.length_cons, List.length_nil, List.length_map, List.cons_append, List.nil_append, List.replicate, List.set, Nat.reduceAdd, Nat.reduceSub, Nat.zero_add, Nat.add_zero, Nat.sub_self, true_and, and_true]
      refine ix_map (sq_of kc) ej ⟨_, _, rfl, ?_, ?_⟩
      · rw [hpn]; exact hg.l _ (List.mem_of_getElem? ej)
      simp only [newL, wpSs, wpS, wpE, wpL, wpO, wpI, wpC, wpT, bindT, bindL, slot, startD, nth, tgLen, wipeD, cmp_lt, cmp_le, cmp_gt, cmp_ge, cmp_is, cmp_isnot, cmp_ii, cmp_iin, isN_non, isN_int, isN_bl, isN_str, isN_tup, isN_lst, isN_ins, isN_ref, isN_list, isN_enI, isN_opt, bin_add, bin_sub, bin_mul, bin_fdiv, bin_mod, bin_pow, bin_shl, bin_shr, bin_and, bin_or, bin_xor, bty_int, bty_intb, Bool.not_true, Bool.not_false, List.map_cons, List.map_nil, List.length_cons, List.length_nil, List.length_map, List.cons_append, List.nil_append, List.replicate, List.set, Nat.reduceAdd, Nat.reduceSub, Nat.zero_add, Nat.add_zero, Nat.sub_self, true_and, and_true, Bool.not_not]
      cases e : agreeP (m.getD j []) p with
      | true => exact k1 e
      | false => exact k2 e
    · simp only [newL, wpSs, wpS, wpE, wpL, wpO, wpI, wpC, wpT, bindT, bindL, slot, startD, nth, tgLen, wipeD, cmp_lt, cmp_le, cmp_gt, cmp_ge, cmp_is, cmp_isnot, cmp_ii, cmp_iin, isN_non, isN_int, isN_bl, isN_str, isN_tup, isN_lst, isN_ins, isN_ref, isN_list, isN_enI, isN_opt, bin_add, bin_sub, bin_mul, bin_fdiv, bin_mod, bin_pow, bin_shl, bin_shr, bin_and, bin_or, bin_xor, bty_int, bty_intb, Bool.not_true, Bool.not_false, List.map_cons, List.map_nil, List.length_cons, List.length_nil, List.length_map, List.cons_append, List.nil_append, List.replicate, List.set, Nat.reduceAdd, Nat.reduceSub, Nat.zero_add, Nat.add_zero, Nat.sub_self, true_and, and_true, bltD, sqOf, lsOf]
      intro _
      cases e : (List.range m.length).filter (fun i => agreeP (m.getD i []) p) with
      | nil =>
        simp only [newL, wpSs, wpS, wpE, wpL, wpO, wpI, wpC, wpT, bindT, bindL, slot, startD, nth, tgLen, wipeD, cmp_lt, cmp_le, cmp_gt, cmp_ge, cmp_is, cmp_isnot, cmp_ii, cmp_iin, isN_non, isN_int, isN_bl, isN_str, isN_tup, isN_lst, isN_ins, isN_ref, isN_list, isN_enI, isN_opt, bin_add, bin_sub, bin_mul, bin_fdiv, bin_mod, bin_pow, bin_shl, bin_shr, bin_and, bin_or, bin_xor, bty_int, bty_intb, Bool.not_true, Bool.not_false, List.map_cons, List.map_nil, List.length_cons, List.length_nil, List.length_map, List.cons_append, List.nil_append, List.replicate, List.set, Nat.reduceAdd, Nat.reduceSub, Nat.zero_add, Nat.add_zero, Nat.sub_self, true_and, and_true, bmTy, bmD, lsOf, kc, Option.isSome]
        refine ⟨Nat.lt_of_le_of_lt (by omega : m.length ≤ 42) (by decide), hK _ _ ⟨⟨_, _, _, _, rfl⟩, by rw [mset_ne hcb]; exact kb, ?_⟩⟩
        rw [hm, mset_same]
        unfold mergeStep
        rw [e, List.map_append]; rfl
      | cons j r =>
        have hj' : j < m.length := List.mem_range.mp (List.mem_filter.mp (e ▸ List.mem_cons_self ..)).1
        have ej : m[j]? = some (m.getD j []) := by rw [List.getD_eq_getElem?_getD, List.getElem?_eq_getElem hj']; rfl
        have hjl : (m.getD j []).length = n := hg.l _ (List.mem_of_getElem? ej)
        rw [decide_eq_false (by rw [List.length_cons]; omega)]
        refine ix_at (i := 0) rfl rfl ?_
        refine ix_map (sq_of kc) ej ?_
        simp only [newL, wpSs, wpS, wpE, wpL, wpO, wpI, wpC, wpT, bindT, bindL, slot, startD, nth, tgLen, wipeD, cmp_lt, cmp_le, cmp_gt, cmp_ge, cmp_is, cmp_isnot, cmp_ii, cmp_iin, isN_non, isN_int, isN_bl, isN_str, isN_tup, isN_lst, isN_ins, isN_ref, isN_list, isN_enI, isN_opt, bin_add, bin_sub, bin_mul, bin_fdiv, bin_mod, bin_pow, bin_shl, bin_shr, bin_and, bin_or, bin_xor, bty_int, bty_intb, Bool.not_true, Bool.not_false, List.map_cons, List.map_nil, List.length_cons, List.length_nil, List.length_map, List.cons_append, List.nil_append, List.replicate, List.set, Nat.reduceAdd, Nat.reduceSub, Nat.zero_add, Nat.add_zero, Nat.sub_self, true_and, and_true]
        refine ⟨by omega, ?_⟩
        rw [Int.toNat_natCast, rgD01]
        refine foldC_all _ _ (fun k : Nat => En.d (if ((m.getD j []).getD k none).isNone then p.getD k none else (m.getD j []).getD k none)) trivial (fun k hk K1 K2 k1 => ?_) ?_
        · have hk' : k < n := List.mem_range.mp hk
          have ea : (m.getD j [])[k]? = some ((m.getD j []).getD k none) := by rw [List.getD_eq_getElem?_getD (l := m.getD j []), List.getElem?_eq_getElem (by omega)]; rfl
          have eb : p[k]? = some (p.getD k none) := by rw [List.getD_eq_getElem?_getD, List.getElem?_eq_getElem (by omega)]; rfl
          generalize (m.getD j []).getD k none = u at *
          generalize p.getD k none = w at *
          simp only [newL, wpSs, wpS, wpE, wpL, wpO, wpI, wpC, wpT, bindT, bindL, slot, startD, nth, tgLen, wipeD, cmp_lt, cmp_le, cmp_gt, cmp_ge, cmp_is, cmp_isnot, cmp_ii, cmp_iin, isN_non, isN_int, isN_bl, isN_str, isN_tup, isN_lst, isN_ins, isN_ref, isN_list, isN_enI, isN_opt, bin_add, bin_sub, bin_mul, bin_fdiv, bin_mod, bin_pow, bin_shl, bin_shr, bin_and, bin_or, bin_xor, bty_int, bty_intb, Bool.not_true, Bool.not_false, List.map_cons, List.map_nil, List.length_cons, List.length_nil, List.length_map, List.cons_append, List.nil_append, List.replicate, List.set, Nat.reduceAdd, Nat.reduceSub, Nat.zero_add, Nat.add_zero, Nat.sub_self, true_and, and_true]
          refine ix_map rfl ea ?_
          simp only [newL, wpSs, wpS, wpE, wpL, wpO, wpI, wpC, wpT, bindT, bindL, slot, startD, nth, tgLen, wipeD, cmp_lt, cmp_le, cmp_gt, cmp_ge, cmp_is, cmp_isnot, cmp_ii, cmp_iin, isN_non, isN_int, isN_bl, isN_str, isN_tup, isN_lst, isN_ins, isN_ref, isN_list, isN_enI, isN_opt, bin_add, bin_sub, bin_mul, bin_fdiv, bin_mod, bin_pow, bin_shl, bin_shr, bin_and, bin_or, bin_xor, bty_int, bty_intb, Bool.not_true, Bool.not_false, List.map_cons, List.map_nil, List.length_cons, List.length_nil, List.length_map, List.cons_append, List.nil_append, List.replicate, List.set, Nat.reduceAdd, Nat.reduceSub, Nat.zero_add, Nat.add_zero, Nat.sub_self, true_and, and_true]
          cases u with
          | none => exact ix_map rfl eb k1
          | some u => exact ix_map rfl ea k1
        · simp only [newL, wpSs, wpS, wpE, wpL, wpO, wpI, wpC, wpT, bindT, bindL, slot, startD, nth, tgLen, wipeD, cmp_lt, cmp_le, cmp_gt, cmp_ge, cmp_is, cmp_isnot, cmp_ii, cmp_iin, isN_non, isN_int, isN_bl, isN_str, isN_tup, isN_lst, isN_ins, isN_ref, isN_list, isN_enI, isN_opt, bin_add, bin_sub, bin_mul, bin_fdiv, bin_mod, bin_pow, bin_shl, bin_shr, bin_and, bin_or, bin_xor, bty_int, bty_intb, Bool.not_true, Bool.not_false, List.map_cons, List.map_nil, List.length_cons, List.length_nil, List.length_map, List.cons_append, List.nil_append, List.replicate, List.set, Nat.reduceAdd, Nat.reduceSub, Nat.zero_add, Nat.add_zero, Nat.sub_self, true_and, and_true, btyD, sqOf, lsOf]
          refine ix_at (i := 0) rfl rfl ?_
          simp only [newL, wpSs, wpS, wpE, wpL, wpO, wpI, wpC, wpT, bindT, bindL, slot, startD, nth, tgLen, wipeD, cmp_lt, cmp_le, cmp_gt, cmp_ge, cmp_is, cmp_isnot, cmp_ii, cmp_iin, isN_non, isN_int, isN_bl, isN_str, isN_tup, isN_lst, isN_ins, isN_ref, isN_list, isN_enI, isN_opt, bin_add, bin_sub, bin_mul, bin_fdiv, bin_mod, bin_pow, bin_shl, bin_shr, bin_and, bin_or, bin_xor, bty_int, bty_intb, Bool.not_true, Bool.not_false, List.map_cons, List.map_nil, List.length_cons, List.length_nil, List.length_map, List.cons_append, List.nil_append, List.replicate, List.set, Nat.reduceAdd, Nat.reduceSub, Nat.zero_add, Nat.add_zero, Nat.sub_self, true_and, and_true, kc, ixN_nat hj']
          refine hK _ _ ⟨⟨_, _, _, _, rfl⟩, by rw [mset_ne hcb]; exact kb, ?_⟩
          rw [hm, mset_same]
          unfold mergeStep
          rw [e, List.map_set]
          congr 3
          rw [en_list]
          unfold togetherP
          rw [zip_map (fun a b => if a.isNone then b else a) none none _ _ (by omega : (m.getD j []).length = p.length), List.map_map, hjl]
          rfl
  · rintro ρ M' ⟨⟨v5, v7, v8, v9, rfl⟩, kb, kc⟩
    rw [List.length_map, List.take_length] at kc
    have hg := mg_all hn ps.length (Nat.le_refl _)
    rw [List.take_length] at hg
    simp only [newL, wpSs, wpS, wpE, wpL, wpO, wpI, wpC, wpT, bindT, bindL, slot, startD, nth, tgLen, wipeD, cmp_lt, cmp_le, cmp_gt, cmp_ge, cmp_is, cmp_isnot, cmp_ii, cmp_iin, isN_non, isN_int, isN_bl, isN_str, isN_tup, isN_lst, isN_ins, isN_ref, isN_list, isN_enI, isN_opt, bin_add, bin_sub, bin_mul, bin_fdiv, bin_mod, bin_pow, bin_shl, bin_shr, bin_and, bin_or, bin_xor, bty_int, bty_intb, Bool.not_true, Bool.not_false, List.map_cons, List.map_nil, List.length_cons, List.length_nil, List.length_map, List.cons_append, List.nil_append, List.replicate, List.set, Nat.reduceAdd, Nat.reduceSub, Nat.zero_add, Nat.add_zero, Nat.sub_self, true_and, and_true, b_law_6]
    simp only [kc, mdel_ne hcb, kb]
    simp only [newL, wpSs, wpS, wpE, wpL, wpO, wpI, wpC, wpT, bindT, bindL, slot, startD, nth, tgLen, wipeD, cmp_lt, cmp_le, cmp_gt, cmp_ge, cmp_is, cmp_isnot, cmp_ii, cmp_iin, isN_non, isN_int, isN_bl, isN_str, isN_tup, isN_lst, isN_ins, isN_ref, isN_list, isN_enI, isN_opt, bin_add, bin_sub, bin_mul, bin_fdiv, bin_mod, bin_pow, bin_shl, bin_shr, bin_and, bin_or, bin_xor, bty_int, bty_intb, Bool.not_true, Bool.not_false, List.map_cons, List.map_nil, List.length_cons, List.length_nil, List.length_map, List.cons_append, List.nil_append, List.replicate, List.set, Nat.reduceAdd, Nat.reduceSub, Nat.zero_add, Nat.add_zero, Nat.sub_self, true_and, and_true, mdel_ne hcb, kb, btyD, sqOf, lsOf]
    refine ⟨ps, rfl, same_en (Ls.mk (mergeP ps)) ?_⟩
    simp only [newL, wpSs, wpS, wpE, wpL, wpO, wpI, wpC, wpT, bindT, bindL, slot, startD, nth, tgLen, wipeD, cmp_lt, cmp_le, cmp_gt, cmp_ge, cmp_is, cmp_isnot, cmp_ii, cmp_iin, isN_non, isN_int, isN_bl, isN_str, isN_tup, isN_lst, isN_ins, isN_ref, isN_list, isN_enI, isN_opt, bin_add, bin_sub, bin_mul, bin_fdiv, bin_mod, bin_pow, bin_shl, bin_shr, bin_and, bin_or, bin_xor, bty_int, bty_intb, Bool.not_true, Bool.not_false, List.map_cons, List.map_nil, List.length_cons, List.length_nil, List.length_map, List.cons_append, List.nil_append, List.replicate, List.set, Nat.reduceAdd, Nat.reduceSub, Nat.zero_add, Nat.add_zero, Nat.sub_self, true_and, and_true]
    refine cmp_ne (a := Ls.mk ps) (b := Ls.mk ps) ?_
    rw [decide_eq_true rfl]
    simp only [newL, wpSs, wpS, wpE, wpL, wpO, wpI, wpC, wpT, bindT, bindL, slot, startD, nth, tgLen, wipeD, cmp_lt, cmp_le, cmp_gt, cmp_ge, cmp_is, cmp_isnot, cmp_ii, cmp_iin, isN_non, isN_int, isN_bl, isN_str, isN_tup, isN_lst, isN_ins, isN_ref, isN_list, isN_enI, isN_opt, bin_add, bin_sub, bin_mul, bin_fdiv, bin_mod, bin_pow, bin_shl, bin_shr, bin_and, bin_or, bin_xor, bty_int, bty_intb, Bool.not_true, Bool.not_false, List.map_cons, List.map_nil, List.length_cons, List.length_nil, List.length_map, List.cons_append, List.nil_append, List.replicate, List.set, Nat.reduceAdd, Nat.reduceSub, Nat.zero_add, Nat.add_zero, Nat.sub_self, true_and, and_true, b_law_5, sqOf, lsOf]
    intro _
    refine foldS_inv (fun i ρ M' => ∃ v5 v7 v8 v9 v12, ρ = [some x0, some x1, some (.int n), some x3, some (.lst (ps.map En.d)), v5, some (.lst ((mergeP ps).map En.d)), v7, v8, v9, some (.lst (ps.map En.d)), some (.lst ((mergeP ps).map En.d)), v12, none]) ⟨_, _, _, _, _, rfl⟩ (fun _ _ _ _ => trivial) ?_ ?_
    · rintro i x ρ M' hx ⟨v5, v7, v8, v9, v12, rfl⟩ K hK
      obtain ⟨p, hp, rfl⟩ := getElem?_map_some hx
      have hpi := List.mem_of_getElem? hp
      have hpn := hn p hpi
      simp only [newL, wpSs, wpS, wpE, wpL, wpO, wpI, wpC, wpT, bindT, bindL, slot, startD, nth, tgLen, wipeD, cmp_lt, cmp_le, cmp_gt, cmp_ge, cmp_is, cmp_isnot, cmp_ii, cmp_iin, isN_non, isN_int, isN_bl, isN_str, isN_tup, isN_lst, isN_ins, isN_ref, isN_list, isN_enI, isN_opt, bin_add, bin_sub, bin_mul, bin_fdiv, bin_mod, bin_pow, bin_shl, bin_shr, bin_and, bin_or, bin_xor, bty_int, bty_intb, Bool.not_true, Bool.not_false, List.map_cons, List.map_nil, List.length_cons, List.length_nil, List.length_map, List.cons_append, List.nil_append, List.replicate, List.set, Nat.reduceAdd, Nat.reduceSub, Nat.zero_add, Nat.add_zero, Nat.sub_self, true_and, and_true, b_law_3, sqOf, lsOf]
      intro _
      refine foldC_if _ _ En.d (fun row => covP row p) trivial (fun row hr K1 K2 k1 k2 => ?_) ?_
      · have hrn := hg.l row hr
        simp only [newL, wpSs, wpS, wpE, wpL, wpO, wpI, wpC, wpT, bindT, bindL, slot, startD, nth, tgLen, wipeD, cmp_lt, cmp_le, cmp_gt, cmp_ge, cmp_is, cmp_isnot, cmp_ii, cmp_iin, isN_non, isN_int, isN_bl, isN_str, isN_tup, isN_lst, isN_ins, isN_ref, isN_list, isN_enI, isN_opt, bin_add, bin_sub, bin_mul, bin_fdiv, bin_mod, bin_pow, bin_shl, bin_shr, bin_and, bin_or, bin_xor, bty_int, bty_intb, Bool.not_true, Bool.not_false, List.map_cons, List.map_nil, List.length_cons, List.length_nil, List.length_map, List.cons_append, List.nil_append, List.replicate, List.set, Nat.reduceAdd, Nat.reduceSub, Nat.zero_add, Nat.add_zero, Nat.sub_self, true_and, and_true]
        refine ⟨by omega, ?_⟩
        rw [Int.toNat_natCast, rgD01]
        refine foldC_if _ _ (fun i : Nat => D.int i) (fun i => (p.getD i none).isSome && !decide (row.getD i none = p.getD i none)) trivial (fun j hj K1 K2 k1 k2 => ?_) ?_
        · have hj' : j < n := List.mem_range.mp hj
          have ea : row[j]? = some (row.getD j none) := by rw [List.getD_eq_getElem?_getD, List.getElem?_eq_getElem (by omega)]; rfl
          have eb : p[j]? = some (p.getD j none) := by rw [List.getD_eq_getElem?_getD, List.getElem?_eq_getElem (by omega)]; rfl
          generalize row.getD j none = u at *
          generalize p.getD j none = w at *
          simp only [newL, wpSs, wpS, wpE, wpL, wpO, wpI, wpC, wpT, bindT, bindL, slot, startD, nth, tgLen, wipeD, cmp_lt, cmp_le, cmp_gt, cmp_ge, cmp_is, cmp_isnot, cmp_ii, cmp_iin, isN_non, isN_int, isN_bl, isN_str, isN_tup, isN_lst, isN_ins, isN_ref, isN_list, isN_enI, isN_opt, bin_add, bin_sub, bin_mul, bin_fdiv, bin_mod, bin_pow, bin_shl, bin_shr, bin_and, bin_or, bin_xor, bty_int, bty_intb, Bool.not_true, Bool.not_false, List.map_cons, List.map_nil, List.length_cons, List.length_nil, List.length_map, List.cons_append, List.nil_append, List.replicate, List.set, Nat.reduceAdd, Nat.reduceSub, Nat.zero_add, Nat.add_zero, Nat.sub_self, true_and, and_true]
          refine ix_map rfl eb ?_
          simp only [newL, wpSs, wpS, wpE, wpL, wpO, wpI, wpC, wpT, bindT, bindL, slot, startD, nth, tgLen, wipeD, cmp_lt, cmp_le, cmp_gt, cmp_ge, cmp_is, cmp_isnot, cmp_ii, cmp_iin, isN_non, isN_int, isN_bl, isN_str, isN_tup, isN_lst, isN_ins, isN_ref, isN_list, isN_enI, isN_opt, bin_add, bin_sub, bin_mul, bin_fdiv, bin_mod, bin_pow, bin_shl, bin_shr, bin_and, bin_or, bin_xor, bty_int, bty_intb, Bool.not_true, Bool.not_false, List.map_cons, List.map_nil, List.length_cons, List.length_nil, List.length_map, List.cons_append, List.nil_append, List.replicate, List.set, Nat.reduceAdd, Nat.reduceSub, Nat.zero_add, Nat.add_zero, Nat.sub_self, true_and, and_true]
          cases w with
          | none => exact k2 rfl
          | some w =>
            refine ix_map rfl ea (ix_map rfl eb ?_)
            refine cmp_ne (α := Option Int) ?_
            cases h : decide (u = some w) with
            | true => exact k2 (by rw [h]; rfl)
            | false => exact k1 (by rw [h]; rfl)
        · simp only [newL, wpSs, wpS, wpE, wpL, wpO, wpI, wpC, wpT, bindT, bindL, slot, startD, nth, tgLen, wipeD, cmp_lt, cmp_le, cmp_gt, cmp_ge, cmp_is, cmp_isnot, cmp_ii, cmp_iin, isN_non, isN_int, isN_bl, isN_str, isN_tup, isN_lst, isN_ins, isN_ref, isN_list, isN_enI, isN_opt, bin_add, bin_sub, bin_mul, bin_fdiv, bin_mod, bin_pow, bin_shl, bin_shr, bin_and, bin_or, bin_xor, bty_int, bty_intb, Bool.not_true, Bool.not_false, List.map_cons, List.map_nil, List.length_cons, List.length_nil, List.length_map, List.cons_append, List.nil_append, List.replicate, List.set, Nat.reduceAdd, Nat.reduceSub, Nat.zero_add, Nat.add_zero, Nat.sub_self, true_and, and_true, bltD, sqOf, lsOf]
          intro _
          rw [filter_zero]
          have e : ((List.range n).all fun x => !((p.getD x none).isSome && !decide (row.getD x none = p.getD x none))) = covP row p := by
            unfold covP
            rw [zip_all (fun a b => b.isNone || decide (a = b)) none none row p (by omega), hrn]
            congr 1
            funext i
            cases p.getD i none <;> simp
          rw [e]
          cases h : covP row p with
          | true => exact k1 h
          | false => exact k2 h
      · simp only [newL, wpSs, wpS, wpE, wpL, wpO, wpI, wpC, wpT, bindT, bindL, slot, startD, nth, tgLen, wipeD, cmp_lt, cmp_le, cmp_gt, cmp_ge, cmp_is, cmp_isnot, cmp_ii, cmp_iin, isN_non, isN_int, isN_bl, isN_str, isN_tup, isN_lst, isN_ins, isN_ref, isN_list, isN_enI, isN_opt, bin_add, bin_sub, bin_mul, bin_fdiv, bin_mod, bin_pow, bin_shl, bin_shr, bin_and, bin_or, bin_xor, bty_int, bty_intb, Bool.not_true, Bool.not_false, List.map_cons, List.map_nil, List.length_cons, List.length_nil, List.length_map, List.cons_append, List.nil_append, List.replicate, List.set, Nat.reduceAdd, Nat.reduceSub, Nat.zero_add, Nat.add_zero, Nat.sub_self, true_and, and_true, bltD, sqOf, lsOf]
        intro _
        obtain ⟨r, hr1, hr2⟩ := hg.c p hpi
        have : r ∈ (mergeP ps).filter (fun row => covP row p) := List.mem_filter.mpr ⟨hr1, hr2⟩
        rw [decide_eq_false (by have := List.length_pos_of_mem this; omega)]
        exact hK _ _ ⟨_, _, _, _, _, rfl⟩
    · rintro ρ M' ⟨v5, v7, v8, v9, v12, rfl⟩
      simp only [newL, wpSs, wpS, wpE, wpL, wpO, wpI, wpC, wpT, bindT, bindL, slot, startD, nth, tgLen, wipeD, cmp_lt, cmp_le, cmp_gt, cmp_ge, cmp_is, cmp_isnot, cmp_ii, cmp_iin, isN_non, isN_int, isN_bl, isN_str, isN_tup, isN_lst, isN_ins, isN_ref, isN_list, isN_enI, isN_opt, bin_add, bin_sub, bin_mul, bin_fdiv, bin_mod, bin_pow, bin_shl, bin_shr, bin_and, bin_or, bin_xor, bty_int, bty_intb, Bool.not_true, Bool.not_false, List.map_cons, List.map_nil, List.length_cons, List.length_nil, List.length_map, List.cons_append, List.nil_append, List.replicate, List.set, Nat.reduceAdd, Nat.reduceSub, Nat.zero_add, Nat.add_zero, Nat.sub_self, true_and, and_true, b_law_4]
      exact hq _
theorem wp_law : ∀ ds M R RX, ds.length = 1 → spL ds M R RX → wpSs Gl (fun x _ M => RX x M) b_law ⟨fun _ M => R .non M, R, fun _ _ => False, fun _ _ => False⟩ (startD N_law ds) M := by
  rintro ds M R RX - ⟨ns, rfl, hl, rfl, hq⟩
  simp only [newL, wpSs, wpS, wpE, wpL, wpO, wpI, wpC, wpT, bindT, bindL, slot, startD, nth, tgLen, wipeD, cmp_lt, cmp_le, cmp_gt, cmp_ge, cmp_is, cmp_isnot, cmp_ii, cmp_iin, isN_non, isN_int, isN_bl, isN_str, isN_tup, isN_lst, isN_ins, isN_ref, isN_list, isN_enI, isN_opt, bin_add, bin_sub, bin_mul, bin_fdiv, bin_mod, bin_pow, bin_shl, bin_shr, bin_and, bin_or, bin_xor, bty_int, bty_intb, Bool.not_true, Bool.not_false, List.map_cons, List.map_nil, List.length_cons, List.length_nil, List.length_map, List.cons_append, List.nil_append, List.replicate, List.set, Nat.reduceAdd, Nat.reduceSub, Nat.zero_add, Nat.add_zero, Nat.sub_self, true_and, and_true, b_law]
  refine ⟨ns, rfl, fun a st _ => ⟨a, st, 13, rfl, mset_same, by decide, by decide, fun size st' s0 s1 => ⟨a, st', 4, rfl, mset_same, by decide, by decide, fun v st' v0 v1 => ?_⟩⟩⟩
  simp only [newL, wpSs, wpS, wpE, wpL, wpO, wpI, wpC, wpT, bindT, bindL, slot, startD, nth, tgLen, wipeD, cmp_lt, cmp_le, cmp_gt, cmp_ge, cmp_is, cmp_isnot, cmp_ii, cmp_iin, isN_non, isN_int, isN_bl, isN_str, isN_tup, isN_lst, isN_ins, isN_ref, isN_list, isN_enI, isN_opt, bin_add, bin_sub, bin_mul, bin_fdiv, bin_mod, bin_pow, bin_shl, bin_shr, bin_and, bin_or, bin_xor, bty_int, bty_intb, Bool.not_true, Bool.not_false, List.map_cons, List.map_nil, List.length_cons, List.length_nil, List.length_map, List.cons_append, List.nil_append, List.replicate, List.set, Nat.reduceAdd, Nat.reduceSub, Nat.zero_add, Nat.add_zero, Nat.sub_self, true_and, and_true, mset_mset]
  intro b hb
  have hab : a ≠ b := fun e => by rw [← e, mset_same] at hb; cases hb
  refine ⟨a, st', 21, rfl, by rw [mset_ne hab]; exact mset_same, by decide, by decide, fun turns st' t0 t1 => ?_⟩
  simp only [newL, wpSs, wpS, wpE, wpL, wpO, wpI, wpC, wpT, bindT, bindL, slot, startD, nth, tgLen, wipeD, cmp_lt, cmp_le, cmp_gt, cmp_ge, cmp_is, cmp_isnot, cmp_ii, cmp_iin, isN_non, isN_int, isN_bl, isN_str, isN_tup, isN_lst, isN_ins, isN_ref, isN_list, isN_enI, isN_opt, bin_add, bin_sub, bin_mul, bin_fdiv, bin_mod, bin_pow, bin_shl, bin_shr, bin_and, bin_or, bin_xor, bty_int, bty_intb, Bool.not_true, Bool.not_false, List.map_cons, List.map_nil, List.length_cons, List.length_nil, List.length_map, List.cons_append, List.nil_append, List.replicate, List.set, Nat.reduceAdd, Nat.reduceSub, Nat.zero_add, Nat.add_zero, Nat.sub_self, true_and, and_true]
  refine ⟨by omega, ?_⟩
  rw [rgD01]
  obtain ⟨n, rfl⟩ := Int.eq_ofNat_of_zero_le s0
  obtain ⟨t, rfl⟩ := Int.eq_ofNat_of_zero_le t0
  refine foldS_inv (fun i ρ M' => ∃ (v5 : Option D) (ps : List (List (Option Int))) (st : Dr), ρ = [some (.lst (ns.map D.int)), some (.ref a), some (.int n), some (.int (2 + v)), some (.ref b), v5, none, none, none, none, none, none, none, none] ∧ M' a = some st.o ∧ M' b = some (.lst (ps.map En.d)) ∧ (∀ q ∈ ps, q.length = n) ∧ ps.length ≤ 2 * i) ⟨none, [], st', rfl, mset_same, by rw [mset_ne hab.symm]; exact mset_same, (fun q hq => by cases hq), Nat.le_refl _⟩ (fun _ _ _ _ => trivial) ?_ ?_
  · rintro i x ρ M' hx ⟨v5, ps, st, rfl, ka, kb, hn, hp⟩ K hK
    simp only [newL, wpSs, wpS, wpE, wpL, wpO, wpI, wpC, wpT, bindT, bindL, slot, startD, nth, tgLen, wipeD, cmp_lt, cmp_le, cmp_gt, cmp_ge, cmp_is, cmp_isnot, cmp_ii, cmp_iin, isN_non, isN_int, isN_bl, isN_str, isN_tup, isN_lst, isN_ins, isN_ref, isN_list, isN_enI, isN_opt, bin_add, bin_sub, bin_mul, bin_fdiv, bin_mod, bin_pow, bin_shl, bin_shr, bin_and, bin_or, bin_xor, bty_int, bty_intb, Bool.not_true, Bool.not_false, List.map_cons, List.map_nil, List.length_cons, List.length_nil, List.length_map, List.cons_append, List.nil_append, List.replicate, List.set, Nat.reduceAdd, Nat.reduceSub, Nat.zero_add, Nat.add_zero, Nat.sub_self, true_and, and_true, b_law_1, bmTy, lsOf, kb, Option.isSome]
    refine ⟨by omega, ?_⟩
    rw [Int.toNat_natCast, rgD01]
    refine foldC_inv (fun j acc M' => ∃ (row : List (Option Int)) (st : Dr), acc = row.map En.d ∧ row.length = j ∧ M' a = some st.o ∧ M' b = some (.lst (ps.map En.d))) ⟨[], st, rfl, rfl, ka, kb⟩ (fun _ _ _ _ => trivial) ?_ ?_
    · rintro j x acc M' hx ⟨row, st, rfl, rl, ka, kb⟩ K1 K2 k1 k2
      simp only [newL, wpSs, wpS, wpE, wpL, wpO, wpI, wpC, wpT, bindT, bindL, slot, startD, nth, tgLen, wipeD, cmp_lt, cmp_le, cmp_gt, cmp_ge, cmp_is, cmp_isnot, cmp_ii, cmp_iin, isN_non, isN_int, isN_bl, isN_str, isN_tup, isN_lst, isN_ins, isN_ref, isN_list, isN_enI, isN_opt, bin_add, bin_sub, bin_mul, bin_fdiv, bin_mod, bin_pow, bin_shl, bin_shr, bin_and, bin_or, bin_xor, bty_int, bty_intb, Bool.not_true, Bool.not_false, List.map_cons, List.map_nil, List.length_cons, List.length_nil, List.length_map, List.cons_append, List.nil_append, List.replicate, List.set, Nat.reduceAdd, Nat.reduceSub, Nat.zero_add, Nat.add_zero, Nat.sub_self, true_and, and_true]
      refine ⟨a, st, 2 + v, rfl, ka, by omega, by omega, fun v' st' v0 v1 => ?_⟩
      obtain ⟨w, rfl⟩ := Int.eq_ofNat_of_zero_le v0
      have e : ([some 0, some 1, none, none, none, none] : List (Option Int))[w]? = some (([some 0, some 1, none, none, none, none] : List (Option Int)).getD w none) := by
        rw [List.getD_eq_getElem?_getD, List.getElem?_eq_getElem (by simp; omega)]; rfl
      refine ix_map (l := [some 0, some 1, none, none, none, none]) (f := En.d) rfl e ?_
      refine k1 _ _ ⟨row ++ [_], st', by rw [List.map_append]; rfl, by rw [List.length_append, rl]; rfl, mset_same, by rw [mset_ne hab.symm]; exact kb⟩
    · rintro acc M' ⟨row, st, rfl, rl, ka, kb⟩
      rw [List.length_map, List.length_range] at rl
      simp only [newL, wpSs, wpS, wpE, wpL, wpO, wpI, wpC, wpT, bindT, bindL, slot, startD, nth, tgLen, wipeD, cmp_lt, cmp_le, cmp_gt, cmp_ge, cmp_is, cmp_isnot, cmp_ii, cmp_iin, isN_non, isN_int, isN_bl, isN_str, isN_tup, isN_lst, isN_ins, isN_ref, isN_list, isN_enI, isN_opt, bin_add, bin_sub, bin_mul, bin_fdiv, bin_mod, bin_pow, bin_shl, bin_shr, bin_and, bin_or, bin_xor, bty_int, bty_intb, Bool.not_true, Bool.not_false, List.map_cons, List.map_nil, List.length_cons, List.length_nil, List.length_map, List.cons_append, List.nil_append, List.replicate, List.set, Nat.reduceAdd, Nat.reduceSub, Nat.zero_add, Nat.add_zero, Nat.sub_self, true_and, and_true, btyD, sqOf, lsOf, bmD, kb]
      have hi : i < t := by
        have := (List.getElem?_eq_some_iff.mp hx).1
        rw [List.length_map, List.length_range] at this; omega
      have e1 : List.map En.d ps ++ [D.tup (List.map En.d row)] = (ps ++ [row]).map En.d := by rw [List.map_append]; rfl
      rw [e1]
      have hn1 : ∀ q ∈ ps ++ [row], q.length = n := fun q hq => by
        rcases List.mem_append.mp hq with h | h
        · exact hn q h
        · rw [List.mem_singleton.mp h]; exact rl
      have hl1 : (ps ++ [row]).length ≤ 2 * i + 1 := by rw [List.length_append]; exact Nat.succ_le_succ hp
      have hl0 : 0 < (ps ++ [row]).length := by simp
      refine ⟨Nat.lt_of_le_of_lt (by omega : ps.length ≤ 100) (by decide), ?_⟩
      generalize ps ++ [row] = ps1 at *
      refine ⟨a, st, 8, rfl, by rw [mset_ne hab]; exact ka, by decide, by decide, fun v' st' v0 v1 => ?_⟩
      have kb1 : ∀ o, mset (mset M' b (.lst (ps1.map En.d))) a o b = some (.lst (ps1.map En.d)) := fun o => by rw [mset_ne hab.symm]; exact mset_same
      simp only [newL, wpSs, wpS, wpE, wpL, wpO, wpI, wpC, wpT, bindT, bindL, slot, startD, nth, tgLen, wipeD, cmp_lt, cmp_le, cmp_gt, cmp_ge, cmp_is, cmp_isnot, cmp_ii, cmp_iin, isN_non, isN_int, isN_bl, isN_str, isN_tup, isN_lst, isN_ins, isN_ref, isN_list, isN_enI, isN_opt, bin_add, bin_sub, bin_mul, bin_fdiv, bin_mod, bin_pow, bin_shl, bin_shr, bin_and, bin_or, bin_xor, bty_int, bty_intb, Bool.not_true, Bool.not_false, List.map_cons, List.map_nil, List.length_cons, List.length_nil, List.length_map, List.cons_append, List.nil_append, List.replicate, List.set, Nat.reduceAdd, Nat.reduceSub, Nat.zero_add, Nat.add_zero, Nat.sub_self, true_and, and_true]
      cases decide (v' = 0) with
      | false => exact hK _ _ ⟨_, ps1, st', rfl, mset_same, kb1 _, hn1, by omega⟩
      | true =>
        simp only [newL, wpSs, wpS, wpE, wpL, wpO, wpI, wpC, wpT, bindT, bindL, slot, startD, nth, tgLen, wipeD, cmp_lt, cmp_le, cmp_gt, cmp_ge, cmp_is, cmp_isnot, cmp_ii, cmp_iin, isN_non, isN_int, isN_bl, isN_str, isN_tup, isN_lst, isN_ins, isN_ref, isN_list, isN_enI, isN_opt, bin_add, bin_sub, bin_mul, bin_fdiv, bin_mod, bin_pow, bin_shl, bin_shr, bin_and, bin_or, bin_xor, bty_int, bty_intb, Bool.not_true, Bool.not_false, List.map_cons, List.map_nil, List.length_cons, List.length_nil, List.length_map, List.cons_append, List.nil_append, List.replicate, List.set, Nat.reduceAdd, Nat.reduceSub, Nat.zero_add, Nat.add_zero, Nat.sub_self, true_and, and_true, kb1, bltD, sqOf, lsOf]
        intro _
        refine ⟨a, st', ps1.length, rfl, mset_same, by omega, by omega, fun v' st'' v0 v1 => ?_⟩
        obtain ⟨w, rfl⟩ := Int.eq_ofNat_of_zero_le v0
        have hw : w < ps1.length := by omega
        rw [mset_mset]
        refine ix_map (sq_of (kb1 _)) (List.getElem?_eq_getElem hw) ?_
        simp only [newL, wpSs, wpS, wpE, wpL, wpO, wpI, wpC, wpT, bindT, bindL, slot, startD, nth, tgLen, wipeD, cmp_lt, cmp_le, cmp_gt, cmp_ge, cmp_is, cmp_isnot, cmp_ii, cmp_iin, isN_non, isN_int, isN_bl, isN_str, isN_tup, isN_lst, isN_ins, isN_ref, isN_list, isN_enI, isN_opt, bin_add, bin_sub, bin_mul, bin_fdiv, bin_mod, bin_pow, bin_shl, bin_shr, bin_and, bin_or, bin_xor, bty_int, bty_intb, Bool.not_true, Bool.not_false, List.map_cons, List.map_nil, List.length_cons, List.length_nil, List.length_map, List.cons_append, List.nil_append, List.replicate, List.set, Nat.reduceAdd, Nat.reduceSub, Nat.zero_add, Nat.add_zero, Nat.sub_self, true_and, and_true, kb1]
        refine ⟨Nat.lt_of_le_of_lt (by omega : ps1.length ≤ 100) (by decide), hK _ _ ⟨_, ps1 ++ [ps1[w]], st'', rfl, by rw [mset_ne hab]; exact mset_same, by rw [mset_same, List.map_append]; rfl, fun q hq => ?_, ?_⟩⟩
        · rcases List.mem_append.mp hq with h | h
          · exact hn1 q h
          · rw [List.mem_singleton.mp h]; exact hn1 _ (List.getElem_mem _)
        · rw [List.length_append]; show ps1.length + 1 ≤ _; omega
  · rintro ρ M' ⟨v5, ps, st, rfl, ka, kb, hn, hp⟩
    rw [List.length_map, List.length_range] at hp
    exact law7 hq kb hn (by omega) (by omega)
end DS

namespace DS
open PySem PySem.Spec PyProof.Rows L2
def topS (i : Nat) : Stmt := PySem.Challenge.pw_probefoundry_k43_merged_partial_patterns.main.body.getD i (.Pass ⟨0, 0, 0, 0⟩)
abbrev Pg : Program := PySem.Challenge.rw_probefoundry_k43_merged_partial_patterns.prog
abbrev s_agree : Stmt := topS 1
theorem sc_agree : FnScope N_agree ["one", "other"] (defScope s_agree) := ⟨rfl, rfl, rfl, by decide +kernel, rfl, by decide +kernel, by decide +kernel⟩
theorem ck_agree : chkSs ⟨N_agree, defScope s_agree, defScope s_agree, [], [], [], []⟩ b_agree (defBody s_agree) = true := by decide +kernel
abbrev s_together : Stmt := topS 2
theorem sc_together : FnScope N_together ["one", "other"] (defScope s_together) := ⟨rfl, rfl, rfl, by decide +kernel, rfl, by decide +kernel, by decide +kernel⟩
theorem ck_together : chkSs ⟨N_together, defScope s_together, defScope s_together, [], [], [], []⟩ b_together (defBody s_together) = true := by decide +kernel
abbrev s_merge : Stmt := topS 4
theorem sc_merge : FnScope N_merge ["partials"] (defScope s_merge) := ⟨rfl, rfl, rfl, by decide +kernel, rfl, by decide +kernel, by decide +kernel⟩
theorem ck_merge : chkSs ⟨N_merge, defScope s_merge, defScope s_merge, ["agree", "together"], [], [], []⟩ b_merge (defBody s_merge) = true := by decide +kernel
abbrev s__law_draws : Stmt := topS 6
theorem sc__law_draws : FnScope N__law_draws ["script"] (defScope s__law_draws) := ⟨rfl, rfl, rfl, by decide +kernel, rfl, by decide +kernel, by decide +kernel⟩
theorem ck__law_draws : chkSs ⟨N__law_draws, defScope s__law_draws, defScope s__law_draws, [], [], [], []⟩ b__law_draws (defBody s__law_draws) = true := by decide +kernel
abbrev s__law_draw : Stmt := topS 7
theorem sc__law_draw : FnScope N__law_draw ["draws", "limit"] (defScope s__law_draw) := ⟨rfl, rfl, rfl, by decide +kernel, rfl, by decide +kernel, by decide +kernel⟩
theorem ck__law_draw : chkSs ⟨N__law_draw, defScope s__law_draw, defScope s__law_draw, [], [], [], []⟩ b__law_draw (defBody s__law_draw) = true := by decide +kernel
abbrev s__law_same : Stmt := topS 8
theorem sc__law_same : FnScope N__law_same ["actual", "expected"] (defScope s__law_same) := ⟨rfl, rfl, rfl, by decide +kernel, rfl, by decide +kernel, by decide +kernel⟩
theorem ck__law_same : chkSs ⟨N__law_same, defScope s__law_same, defScope s__law_same, ["_law_same"], [], [], []⟩ b__law_same (defBody s__law_same) = true := by decide +kernel
abbrev s__law_clash : Stmt := topS 9
theorem sc__law_clash : FnScope N__law_clash ["one", "other"] (defScope s__law_clash) := ⟨rfl, rfl, rfl, by decide +kernel, rfl, by decide +kernel, by decide +kernel⟩
theorem ck__law_clash : chkSs ⟨N__law_clash, defScope s__law_clash, defScope s__law_clash, [], [], [], []⟩ b__law_clash (defBody s__law_clash) = true := by decide +kernel
abbrev s_law : Stmt := topS 10
theorem sc_law : FnScope N_law ["script"] (defScope s_law) := ⟨rfl, rfl, rfl, by decide +kernel, rfl, by decide +kernel, by decide +kernel⟩
theorem ck_law : chkSs ⟨N_law, defScope s_law, defScope s_law, ["_law_draws", "_law_draw", "_law_clash", "merge", "_law_same"], [], [], []⟩ b_law (defBody s_law) = true := by decide +kernel
theorem bd_agree : BindOk "agree" "agree" s_agree ["one", "other"] := fun _ _ _ _ _ _ us hl => match us, hl with | [_, _], _ => rfl
theorem bd_together : BindOk "together" "together" s_together ["one", "other"] := fun _ _ _ _ _ _ us hl => match us, hl with | [_, _], _ => rfl
theorem bd_merge : BindOk "merge" "merge" s_merge ["partials"] := fun _ _ _ _ _ _ us hl => match us, hl with | [_], _ => rfl
theorem bd__law_draws : BindOk "_law_draws" "_law_draws" s__law_draws ["script"] := fun _ _ _ _ _ _ us hl => match us, hl with | [_], _ => rfl
theorem bd__law_draw : BindOk "_law_draw" "_law_draw" s__law_draw ["draws", "limit"] := fun _ _ _ _ _ _ us hl => match us, hl with | [_, _], _ => rfl
theorem bd__law_same : BindOk "_law_same" "_law_same" s__law_same ["actual", "expected"] := fun _ _ _ _ _ _ us hl => match us, hl with | [_, _], _ => rfl
theorem bd__law_clash : BindOk "_law_clash" "_law_clash" s__law_clash ["one", "other"] := fun _ _ _ _ _ _ us hl => match us, hl with | [_, _], _ => rfl
theorem bd_law : BindOk "law" "law" s_law ["script"] := fun _ _ _ _ _ _ us hl => match us, hl with | [_], _ => rfl
def fnL : List He.DefD := [dS ("agree", none) "agree" "agree" s_agree, dS ("together", none) "together" "together" s_together, dS ("merge", none) "merge" "merge" s_merge, dS ("_law_draws", none) "_law_draws" "_law_draws" s__law_draws, dS ("_law_draw", none) "_law_draw" "_law_draw" s__law_draw, dS ("_law_same", none) "_law_same" "_law_same" s__law_same, dS ("_law_clash", none) "_law_clash" "_law_clash" s__law_clash, dS ("law", none) "law" "law" s_law]
def faL : List He.Fa := bnames.map He.Fa.free ++ [.glo "agree", .glo "together", .glo "merge", .glo "_law_draws", .glo "_law_draw", .glo "_law_same", .glo "_law_clash", .glo "law"]
section
variable {w : World} {K : PySem.W.Frag} {h : Heap} {mg : Str → Option Value} {base : Heap}
theorem g_agree (X : K.In h) (G : h.Ns mainGlobals mg) (c : He.SaysD faL fnL K) : mg "agree" = some (.ref (He.ga K "agree")) := He.glo_ok X G (c.fact 18 (f := .glo "agree") rfl)
theorem g_together (X : K.In h) (G : h.Ns mainGlobals mg) (c : He.SaysD faL fnL K) : mg "together" = some (.ref (He.ga K "together")) := He.glo_ok X G (c.fact 19 (f := .glo "together") rfl)
theorem g_merge (X : K.In h) (G : h.Ns mainGlobals mg) (c : He.SaysD faL fnL K) : mg "merge" = some (.ref (He.ga K "merge")) := He.glo_ok X G (c.fact 20 (f := .glo "merge") rfl)
theorem g__law_draws (X : K.In h) (G : h.Ns mainGlobals mg) (c : He.SaysD faL fnL K) : mg "_law_draws" = some (.ref (He.ga K "_law_draws")) := He.glo_ok X G (c.fact 21 (f := .glo "_law_draws") rfl)
theorem g__law_draw (X : K.In h) (G : h.Ns mainGlobals mg) (c : He.SaysD faL fnL K) : mg "_law_draw" = some (.ref (He.ga K "_law_draw")) := He.glo_ok X G (c.fact 22 (f := .glo "_law_draw") rfl)
theorem g__law_same (X : K.In h) (G : h.Ns mainGlobals mg) (c : He.SaysD faL fnL K) : mg "_law_same" = some (.ref (He.ga K "_law_same")) := He.glo_ok X G (c.fact 23 (f := .glo "_law_same") rfl)
theorem g__law_clash (X : K.In h) (G : h.Ns mainGlobals mg) (c : He.SaysD faL fnL K) : mg "_law_clash" = some (.ref (He.ga K "_law_clash")) := He.glo_ok X G (c.fact 24 (f := .glo "_law_clash") rfl)
theorem g_law (X : K.In h) (G : h.Ns mainGlobals mg) (c : He.SaysD faL fnL K) : mg "law" = some (.ref (He.ga K "law")) := He.glo_ok X G (c.fact 25 (f := .glo "law") rfl)
theorem S_agree (X : K.In h) (G : h.Ns mainGlobals mg) (c : He.SaysD faL fnL K) : FnS Pg w K mg base 2 2 sp_agree (He.ga K "agree") := fnS_ok (lvl := 0) (c.def_ 0 (d := dS ("agree", none) "agree" "agree" s_agree) rfl) bd_agree sc_agree rfl (Tab.nil (blt_of X G c)) ck_agree wp_agree
theorem S_together (X : K.In h) (G : h.Ns mainGlobals mg) (c : He.SaysD faL fnL K) : FnS Pg w K mg base 2 2 sp_together (He.ga K "together") := fnS_ok (lvl := 0) (c.def_ 1 (d := dS ("together", none) "together" "together" s_together) rfl) bd_together sc_together rfl (Tab.nil (blt_of X G c)) ck_together wp_together
theorem S_merge (X : K.In h) (G : h.Ns mainGlobals mg) (c : He.SaysD faL fnL K) : FnS Pg w K mg base 4 1 sp_merge (He.ga K "merge") := fnS_ok (lvl := 2) (c.def_ 2 (d := dS ("merge", none) "merge" "merge" s_merge) rfl) bd_merge sc_merge rfl (((Tab.nil (blt_of X G c)).fnc (g_together X G c) (S_together X G c) (by decide)).fnc (g_agree X G c) (S_agree X G c) (by decide)) ck_merge wp_merge
theorem S__law_draws (X : K.In h) (G : h.Ns mainGlobals mg) (c : He.SaysD faL fnL K) : FnS Pg w K mg base 2 1 sp__law_draws (He.ga K "_law_draws") := fnS_ok (lvl := 0) (c.def_ 3 (d := dS ("_law_draws", none) "_law_draws" "_law_draws" s__law_draws) rfl) bd__law_draws sc__law_draws rfl (Tab.nil (blt_of X G c)) ck__law_draws wp__law_draws
theorem S__law_draw (X : K.In h) (G : h.Ns mainGlobals mg) (c : He.SaysD faL fnL K) : FnS Pg w K mg base 2 2 sp__law_draw (He.ga K "_law_draw") := fnS_ok (lvl := 0) (c.def_ 4 (d := dS ("_law_draw", none) "_law_draw" "_law_draw" s__law_draw) rfl) bd__law_draw sc__law_draw rfl (Tab.nil (blt_of X G c)) ck__law_draw wp__law_draw
theorem R__law_same (X : K.In h) (G : h.Ns mainGlobals mg) (c : He.SaysD faL fnL K) : ∀ k, FnS Pg w K mg base (0 + 2 * k) 2 (sp__law_same k) (He.ga K "_law_same") := by
  refine FnS.rec' (FnS.void (c.def_ 5 (d := dS ("_law_same", none) "_law_same" "_law_same" s__law_same) rfl) bd__law_same (fun ds M R RX ⟨_, _, _, _, _, h, _⟩ => absurd h (Nat.not_lt_zero _))) fun k S => ?_
  exact fnS_ok (lvl := 0 + 2 * k) (c.def_ 5 (d := dS ("_law_same", none) "_law_same" "_law_same" s__law_same) rfl) bd__law_same sc__law_same rfl ((Tab.nil (blt_of X G c)).fnc (g__law_same X G c) S (Nat.le_refl _)) ck__law_same (wp__law_same k)
theorem S__law_same (X : K.In h) (G : h.Ns mainGlobals mg) (c : He.SaysD faL fnL K) : FnS Pg w K mg base 20 2 (sp__law_same 10) (He.ga K "_law_same") := R__law_same X G c 10
theorem S__law_clash (X : K.In h) (G : h.Ns mainGlobals mg) (c : He.SaysD faL fnL K) : FnS Pg w K mg base 2 2 sp__law_clash (He.ga K "_law_clash") := fnS_ok (lvl := 0) (c.def_ 6 (d := dS ("_law_clash", none) "_law_clash" "_law_clash" s__law_clash) rfl) bd__law_clash sc__law_clash rfl (Tab.nil (blt_of X G c)) ck__law_clash wp__law_clash
theorem law_facts (w : World) (K : PySem.W.Frag) (h : Heap) (mg : Str → Option Value) (X : K.In h) (G : h.Ns mainGlobals mg) (c : He.SaysD faL fnL K) : mg ("law" : Str) = some (.ref (He.ga K "law")) ∧ ∃ fd, Fun K "law" "law" s_law (He.ga K "law") fd ∧ ∀ base : Heap, FnOk Pg w K mg base (L2.CX Pg w) 22 (He.ga K "law") fd ["script"] (liftSp K mg 1 (spLaw 63)) := by
  obtain ⟨fd, F⟩ := (c.def_ 7 (d := dS ("law", none) "law" "law" s_law) rfl)
  exact ⟨g_law X G c, fd, fun_of F, fun base => fn_ok (lvl := 20) (fun_of F) sc_law rfl ((((((Tab.nil (blt_of X G c)).fnc (g__law_same X G c) (S__law_same X G c) (by decide)).fnc (g_merge X G c) (S_merge X G c) (by decide)).fnc (g__law_clash X G c) (S__law_clash X G c) (by decide)).fnc (g__law_draw X G c) (S__law_draw X G c) (by decide)).fnc (g__law_draws X G c) (S__law_draws X G c) (by decide)) ck_law wp_law⟩
end
abbrev Rw : PySem.W.OpenRow := PySem.W.OpenLaw.row PySem.Challenge.rw_probefoundry_k43_merged_partial_patterns
abbrev hk : PySem.W.Hook := He.hookD 4 faL fnL
def ob (s : PySem.W.SharedT) : He.AlD := He.obsDG 4 faL fnL (HandSHeadRun.getT s)
theorem ob_eq (s : PySem.W.SharedT) : ob s = hk.obs s.abs := He.obsDG_eq (HandSHeadRun.getT_eq s)
def looseL : List PySem.Str := ["agree", "together", "merge", "_law_draws", "_law_draw", "_law_same", "_law_clash"]
set_option maxHeartbeats 0 in
theorem run (w : World) : HandSHeadRun.RunEq Rw (PySem.W.view Rw.prog [10]) hk ob 400 looseL w := by
  intro os
  kernel_rfl
end DS
open PySem PySem.W PySem.Calls PyProof.Rows
set_option maxHeartbeats 0 in
theorem PySem.Challenge.cw_probefoundry_k43_merged_partial_patterns_holds : PySem.Challenge.rw_probefoundry_k43_merged_partial_patterns.Holds := by
  w_on; o_law
  refine HandSHeadRun.head_any (r := PySem.W.OpenLaw.row PySem.Challenge.rw_probefoundry_k43_merged_partial_patterns) (q := view (PySem.W.OpenLaw.row PySem.Challenge.rw_probefoundry_k43_merged_partial_patterns).prog [10]) (H := DS.hk) (ob := DS.ob) (M := 400) (loose := DS.looseL) (d := HandSHeadRun.topDef (PySem.W.OpenLaw.row PySem.Challenge.rw_probefoundry_k43_merged_partial_patterns).prog 10) (kwd := []) DS.ob_eq
    (by kernel_rfl) (fun s => by kernel_rfl) DS.run (by kernel_rfl) (by kernel_rfl) (by kernel_rfl) (by rfl) (by first | assumption | decide +kernel) (by decide +kernel) ⟨rfl, rfl, rfl, rfl, rfl, by decide +kernel⟩ ?hw ?hc
  case hw => w_witness2
  case hc => exact DS.law_end (l := PySem.Challenge.rw_probefoundry_k43_merged_partial_patterns) rfl (by decide) (by kernel_rfl) ⟨rfl, by decide, by decide⟩ (by kernel_rfl) DS.bd_law DS.law_facts
