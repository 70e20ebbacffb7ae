import PyProof.Rows.All
import Wide.All
import OpenK.AllK
import Wide.FinOn
import PySem.Challenge.RW_paidsteps_k21_whole_rows_of_trees
import HandS.ForMost
import HandS.Exc
import HandS.TryOnly
import HandS.WordsExc
import HandS.Lambda
import HandS.Flow
import HandS.Style
import HandS.ExcOwn
import HandS.Walk
import HandS.Zip
import HandS.Rev
import HandS.TupAny
import HandS.IsInst
import HandS.Defaults
import HandS.HeadHook4
import HandS.TupMul
import HandS.TupLe
import HandS.Wide
import HandS.SortInts
import HandS.Deep
import HandS.WideBits
import HandS.More
import HandS.SetFor
import HandS.SortKw
import KE.SortData
import KE.DataMinMax
import PyProof.Transfer
import PyProof.Rows.TupReads
import HandS.Ends
import HandS.EndBits
import HandS.HeadEnd
import HandS.Iter
import PyProof.EnumMake
import KE.GoesEnum
import KE.GoesMore
import PyProof.Draws
import HandS.RevTup
import PyProof.CollectWalk
import HandS.Conv
import PyProof.AutoSeq1
import HandS.Dict
import HandS.Small
import HandS.ExcInit
import HandS.ExcSuper
import KE.KExcSuper
import KE.KSuper
import HandS.ExcField
import HandS.EndTab
import HandS.HeadWalk
import KE.KNestM
import HandS.Head0
import HandS.Head1
import HandS.Head2
import HandS.HeadHook1
import HandS.HeadHook2
import HandS.HeadHook3
import KE.KStateDown
set_option Elab.async false
set_option linter.all false
set_option maxRecDepth 100000
namespace DL
open PySem PySem.Spec PyProof.Rows L2

/-! ## data: values without addresses for tuples -/
inductive D where
  | non | bl (b : Bool) | int (i : Int) | str (x : Str) | tup (l : List D) | ref (a : Addr)
  | scr (ns : List Int)

abbrev Fr := PySem.W.Frag

mutual
inductive Rep (K : Fr) (H : Hp) : V → D → Prop
  | non : Rep K H .non .non
  | bl (b : Bool) : Rep K H (.bl b) (.bl b)
  | int (i : Int) : Rep K H (.int i) (.int i)
  | str (x : Str) : Rep K H (.str x) (.str x)
  | ref (a : Addr) : Rep K H (.ref a) (.ref a)
  | scr {a : Addr} {ns : List Int} : ((∃ o, H a = some (.frz o (.lst (ns.map V.int)))) ∨ ∀ H', SqL K H' a (ns.map V.int)) → Rep K H (.ref a) (.scr ns)
  | tup {a : Addr} {vs : List V} {ds : List D} : SqT K H a vs → Reps K H vs ds → Rep K H (.ref a) (.tup ds)
inductive Reps (K : Fr) (H : Hp) : List V → List D → Prop
  | nil : Reps K H [] []
  | cons {v : V} {vs : List V} {d : D} {ds : List D} : Rep K H v d → Reps K H vs ds → Reps K H (v :: vs) (d :: ds)
end

/-- what never changes of the abstract heap -/
structure Keep (H H' : Hp) : Prop where
  tup : ∀ a xs, H a = some (.tup xs) → H' a = some (.tup xs)
  frz : ∀ a o u, H a = some (.frz o u) → H' a = some (.frz o u)
theorem Keep.refl (H : Hp) : Keep H H := ⟨fun _ _ h => h, fun _ _ _ h => h⟩
theorem Keep.trans {H H1 H2 : Hp} (a : Keep H H1) (b : Keep H1 H2) : Keep H H2 := ⟨fun x xs h => b.tup x xs (a.tup x xs h), fun x o u h => b.frz x o u (a.frz x o u h)⟩
theorem Keep.new {H : Hp} {p : Addr} {o : HO} (h : H p = none) : Keep H (upd H p o) :=
  ⟨fun a xs e => by rw [upd_ne (ne_of_none e h)]; exact e, fun a ob u e => by rw [upd_ne (ne_of_none e h)]; exact e⟩
theorem Keep.write {H : Hp} {p : Addr} {o u : HO} (h : H p = some u) (n1 : ∀ xs, u ≠ .tup xs) (n2 : ∀ x y, u ≠ .frz x y) : Keep H (upd H p o) :=
  ⟨fun a xs e => by rw [upd_ne (ne_of e h (n1 xs).symm)]; exact e, fun a ob x e => by rw [upd_ne (ne_of e h (n2 ob x).symm)]; exact e⟩
theorem Keep.sqT {K : Fr} {H H' : Hp} (k : Keep H H') {a : Addr} {xs : List V} (h : SqT K H a xs) : SqT K H' a xs := by
  rcases h with (h | ⟨o, h⟩) | h
  · exact .inl (.inl (k.tup _ _ h))
  · exact .inl (.inr ⟨o, k.frz _ _ _ h⟩)
  · exact .inr h
mutual
theorem Rep.keep {K : Fr} {H H' : Hp} (k : Keep H H') : ∀ {v : V} {d : D}, Rep K H v d → Rep K H' v d
  | _, _, .non => .non
  | _, _, .bl b => .bl b
  | _, _, .int i => .int i
  | _, _, .str x => .str x
  | _, _, .ref a => .ref a
  | _, _, .scr h => .scr (h.elim (fun ⟨o, e⟩ => .inl ⟨o, k.frz _ _ _ e⟩) .inr)
  | _, _, .tup h r => .tup (k.sqT h) (Reps.keep k r)
theorem Reps.keep {K : Fr} {H H' : Hp} (k : Keep H H') : ∀ {vs : List V} {ds : List D}, Reps K H vs ds → Reps K H' vs ds
  | _, _, .nil => .nil
  | _, _, .cons h r => .cons (Rep.keep k h) (Reps.keep k r)
end
section
variable {K : Fr} {H : Hp}
theorem Reps.length : ∀ {vs : List V} {ds : List D}, Reps K H vs ds → vs.length = ds.length
  | _, _, .nil => rfl
  | _, _, .cons _ r => by rw [List.length_cons, List.length_cons, Reps.length r]
theorem Reps.get : ∀ {vs : List V} {ds : List D} {i : Nat} {d : D}, Reps K H vs ds → ds[i]? = some d → ∃ v, vs[i]? = some v ∧ Rep K H v d
  | _, _, _, _, .nil, e => by simp at e
  | _, _, 0, _, .cons r _, e => by simp at e; subst e; exact ⟨_, rfl, r⟩
  | _, _, i + 1, d, .cons _ t, e => by
    obtain ⟨u, h1, h2⟩ := Reps.get (i := i) (d := d) t (by simpa using e)
    exact ⟨u, by simpa using h1, h2⟩
theorem Reps.get' : ∀ {vs : List V} {ds : List D} {i : Nat} {v : V}, Reps K H vs ds → vs[i]? = some v → ∃ d, ds[i]? = some d ∧ Rep K H v d
  | _, _, _, _, .nil, e => by simp at e
  | _, _, 0, _, .cons r _, e => by simp at e; subst e; exact ⟨_, rfl, r⟩
  | _, _, i + 1, v, .cons _ t, e => by
    obtain ⟨u, h1, h2⟩ := Reps.get' (i := i) (v := v) t (by simpa using e)
    exact ⟨u, by simpa using h1, h2⟩
theorem Reps.append : ∀ {vs ws : List V} {ds es : List D}, Reps K H vs ds → Reps K H ws es → Reps K H (vs ++ ws) (ds ++ es)
  | _, _, _, _, .nil, s => s
  | _, _, _, _, .cons r t, s => .cons r (Reps.append t s)
theorem Reps.take : ∀ {vs : List V} {ds : List D} (n : Nat), Reps K H vs ds → Reps K H (vs.take n) (ds.take n)
  | _, _, 0, _ => .nil
  | _, _, _ + 1, .nil => .nil
  | _, _, n + 1, .cons r t => .cons r (Reps.take n t)
theorem Reps.drop : ∀ {vs : List V} {ds : List D} (n : Nat), Reps K H vs ds → Reps K H (vs.drop n) (ds.drop n)
  | _, _, 0, r => r
  | _, _, _ + 1, .nil => .nil
  | _, _, n + 1, .cons _ t => Reps.drop n t
theorem Reps.set {v : V} {d : D} (r : Rep K H v d) : ∀ {vs : List V} {ds : List D} (i : Nat), Reps K H vs ds → Reps K H (vs.set i v) (ds.set i d)
  | _, _, _, .nil => .nil
  | _, _, 0, .cons _ t => .cons r t
  | _, _, i + 1, .cons q t => .cons q (Reps.set r i t)
theorem Reps.reverse : ∀ {vs : List V} {ds : List D}, Reps K H vs ds → Reps K H vs.reverse ds.reverse
  | _, _, .nil => .nil
  | _, _, .cons r t => by rw [List.reverse_cons, List.reverse_cons]; exact (Reps.reverse t).append (.cons r .nil)
theorem Reps.dropLast {vs : List V} {ds : List D} (r : Reps K H vs ds) : Reps K H vs.dropLast ds.dropLast := by
  rw [List.dropLast_eq_take, List.dropLast_eq_take, r.length]; exact r.take _
theorem Reps.eraseIdx : ∀ {vs : List V} {ds : List D} (i : Nat), Reps K H vs ds → Reps K H (vs.eraseIdx i) (ds.eraseIdx i)
  | _, _, _, .nil => .nil
  | _, _, 0, .cons _ t => t
  | _, _, i + 1, .cons q t => .cons q (Reps.eraseIdx i t)
theorem Reps.ints : ∀ {vs : List V} {ns : List Int}, Reps K H vs (ns.map D.int) → vs = ns.map V.int
  | _, [], .nil => rfl
  | _, n :: ns, .cons h r => by cases h; rw [Reps.ints r]; rfl
theorem Reps.of_ints : ∀ (ns : List Int), Reps K H (ns.map V.int) (ns.map D.int)
  | [] => .nil
  | n :: ns => .cons (.int n) (Reps.of_ints ns)
end

/-! ## the mutable heap -/
inductive MO where
  | lst (xs : List D)
  | dK (kvs : List (Key × D))
  | dT (kvs : List (List Key × D))
  | ins (C : Addr) (fs : List (Str × D))
  | drw
  | dL (kvs : List (Key × D))
abbrev Mp := Addr → Option MO
def mup (M : Mp) (a : Addr) (o : MO) : Mp := fun b => if b = a then some o else M b
@[simp] theorem mup_same {M : Mp} {a : Addr} {o : MO} : mup M a o a = some o := if_pos rfl
theorem mup_ne {M : Mp} {a b : Addr} {o : MO} (h : b ≠ a) : mup M a o b = M b := if_neg h
@[simp] theorem mup_mup {M : Mp} {a : Addr} {o u : MO} : mup (mup M a o) a u = mup M a u := by
  funext b; unfold mup; split <;> rfl
theorem mup_none {M : Mp} {a b : Addr} {o : MO} : mup M a o b = none ↔ b ≠ a ∧ M b = none := by
  unfold mup; split <;> simp [*]

def RepKV {κ : Type} (K : Fr) (H : Hp) : List (κ × V) → List (κ × D) → Prop := Paired fun (p : κ × V) (q : κ × D) => p.1 = q.1 ∧ Rep K H p.2 q.2
theorem RepKV.keep {κ : Type} {K : Fr} {H H' : Hp} (k : Keep H H') {l : List (κ × V)} {m : List (κ × D)} (r : RepKV K H l m) : RepKV K H' l m :=
  Paired.mapP r fun _ _ h => ⟨h.1, h.2.keep k⟩
/-- an object of the abstract heap is told -/
def RepO (K : Fr) (H : Hp) : HO → MO → Prop
  | .lst vs, .lst ds => Reps K H vs ds
  | .lst vs, .drw => ∃ ns : List Int, vs = ns.map V.int ∧ (∀ n ∈ ns, 0 ≤ n) ∧ ns.length ≤ 16777216
  | .dK kvs, .dK ms => RepKV K H kvs ms
  | .dT kvs, .dT ms => RepKV K H kvs ms
  | .ins C _ fs, .ins C' gs => C = C' ∧ RepKV K H fs gs
  | .frz _ v, .dL ms => ∃ kvs, v = .dK kvs ∧ RepKV K H kvs ms
  | _, _ => False
theorem RepO.keep {K : Fr} {H H' : Hp} (k : Keep H H') {u : HO} {o : MO} (r : RepO K H u o) : RepO K H' u o := by
  cases u <;> cases o <;> first | exact Reps.keep k r | exact RepKV.keep k r | exact ⟨r.1, RepKV.keep k r.2⟩ | exact r.imp fun _ q => ⟨q.1, RepKV.keep k q.2⟩ | exact r
theorem RepO.mutT {K : Fr} {H : Hp} {u : HO} {o : MO} (r : RepO K H u o) : ∀ ps, u ≠ .tbl ps := by
  cases u <;> first | (intro _ h; cases h; done) | (cases o <;> exact r.elim)
theorem RepO.mut {K : Fr} {H : Hp} {u : HO} {o : MO} (r : RepO K H u o) (hd : ∀ ms, o ≠ .dL ms) : (∀ xs, u ≠ .tup xs) ∧ (∀ x y, u ≠ .frz x y) ∧ ∀ ps, u ≠ .tbl ps := by
  cases u <;> first | (refine ⟨fun _ h => ?_, fun _ _ h => ?_, fun _ h => ?_⟩ <;> cases h; done) | (cases o <;> first | exact r.elim | exact (hd _ rfl).elim)
abbrev Tb := List (Addr × Str)
structure RepH (K : Fr) (T : Tb) (H : Hp) (M : Mp) : Prop where
  obj : ∀ a o, M a = some o → ∃ u, H a = some u ∧ RepO K H u o
  tab : LamX.Tabs T H
theorem RepH.fresh {K : Fr} {T : Tb} {H : Hp} {M : Mp} (r : RepH K T H M) {p : Addr} (h : H p = none) : M p = none := by
  cases e : M p with
  | none => rfl
  | some o => obtain ⟨u, hu, _⟩ := r.obj p o e; rw [h] at hu; cases hu
theorem RepH.new {K : Fr} {T : Tb} {H : Hp} {M : Mp} (r : RepH K T H M) {p : Addr} {u : HO} {o : MO} (h : H p = none) (q : RepO K (upd H p u) u o) : RepH K T (upd H p u) (mup M p o) := by
  refine ⟨fun a o' e => ?_, r.tab.ext fun b o' e => by rw [upd_ne (ne_of_none e h)]; exact e⟩
  by_cases ha : a = p
  · subst ha; rw [mup_same] at e; cases e; exact ⟨u, upd_same, q⟩
  · rw [mup_ne ha] at e
    obtain ⟨v, hv, rv⟩ := r.obj a o' e
    exact ⟨v, by rw [upd_ne ha]; exact hv, rv.keep (.new h)⟩
/-- a new object that is not told of (a tuple) -/
theorem RepH.more {K : Fr} {T : Tb} {H : Hp} {M : Mp} (r : RepH K T H M) {p : Addr} {u : HO} (h : H p = none) : RepH K T (upd H p u) M := by
  refine ⟨fun a o' e => ?_, r.tab.ext fun b o' e => by rw [upd_ne (ne_of_none e h)]; exact e⟩
  obtain ⟨v, hv, rv⟩ := r.obj a o' e
  exact ⟨v, by rw [upd_ne (ne_of_none hv h)]; exact hv, rv.keep (.new h)⟩
theorem tabs_write {T : Tb} {H : Hp} (t : LamX.Tabs T H) {p : Addr} {u u' : HO} (h : H p = some u) (n : ∀ ps, u ≠ .tbl ps) (n2 : ∀ φ, u ≠ .ext φ) : LamX.Tabs T (upd H p u') := fun q hq => by
  obtain ⟨ps, h1, h2, h3⟩ := t q hq
  refine ⟨ps, by rw [upd_ne (ne_of h1 h (n ps).symm)]; exact h1, h2, fun pos cv hc => ?_⟩
  obtain ⟨c, e1, e2⟩ := h3 pos cv hc
  exact ⟨c, e1, by rw [upd_ne (ne_of e2 h (n2 _).symm)]; exact e2⟩
theorem RepO.noext {K : Fr} {H : Hp} {u : HO} {o : MO} (r : RepO K H u o) : ∀ φ, u ≠ .ext φ := by
  cases u <;> first | (intro _ h; cases h; done) | (cases o <;> exact r.elim)
theorem RepH.write {K : Fr} {T : Tb} {H : Hp} {M : Mp} (r : RepH K T H M) {p : Addr} {u' : HO} {o o' : MO} (h : M p = some o) (q : RepO K (upd H p u') u' o') (hd : ∀ ms, o ≠ .dL ms := by intro _ z; cases z) : RepH K T (upd H p u') (mup M p o') ∧ Keep H (upd H p u') := by
  obtain ⟨u, hu, ru⟩ := r.obj p o h
  have k : Keep H (upd H p u') := .write hu (ru.mut hd).1 (ru.mut hd).2.1
  refine ⟨⟨fun a x e => ?_, tabs_write r.tab hu ru.mutT ru.noext⟩, k⟩
  by_cases ha : a = p
  · subst ha; rw [mup_same] at e; cases e; exact ⟨u', upd_same, q⟩
  · rw [mup_ne ha] at e
    obtain ⟨v, hv, rv⟩ := r.obj a x e
    exact ⟨v, by rw [upd_ne ha]; exact hv, rv.keep k⟩
/-- less is told -/
theorem RepH.less {K : Fr} {T : Tb} {H : Hp} {M M' : Mp} (r : RepH K T H M) (h : ∀ a o, M' a = some o → M a = some o) : RepH K T H M' := ⟨fun a o e => r.obj a o (h a o e), r.tab⟩
theorem RepH.lst {K : Fr} {T : Tb} {H : Hp} {M : Mp} (r : RepH K T H M) {a : Addr} {xs : List D} (h : M a = some (.lst xs)) : ∃ vs, H a = some (.lst vs) ∧ Reps K H vs xs := by
  obtain ⟨u, hu, ru⟩ := r.obj a _ h
  cases u <;> first | exact ⟨_, hu, ru⟩ | exact ru.elim
theorem RepH.dk {K : Fr} {T : Tb} {H : Hp} {M : Mp} (r : RepH K T H M) {a : Addr} {ms : List (Key × D)} (h : M a = some (.dK ms)) : ∃ kvs, H a = some (.dK kvs) ∧ RepKV K H kvs ms := by
  obtain ⟨u, hu, ru⟩ := r.obj a _ h
  cases u <;> first | exact ⟨_, hu, ru⟩ | exact False.elim ru
theorem RepH.dl {K : Fr} {T : Tb} {H : Hp} {M : Mp} (r : RepH K T H M) {a : Addr} {ms : List (Key × D)} (h : M a = some (.dL ms)) : ∃ o kvs, H a = some (.frz o (.dK kvs)) ∧ RepKV K H kvs ms := by
  obtain ⟨u, hu, ru⟩ := r.obj a _ h
  cases u <;> first | (obtain ⟨kvs, rfl, q⟩ := ru; exact ⟨_, kvs, hu, q⟩) | exact False.elim ru
theorem RepH.dt {K : Fr} {T : Tb} {H : Hp} {M : Mp} (r : RepH K T H M) {a : Addr} {ms : List (List Key × D)} (h : M a = some (.dT ms)) : ∃ kvs, H a = some (.dT kvs) ∧ RepKV K H kvs ms := by
  obtain ⟨u, hu, ru⟩ := r.obj a _ h
  cases u <;> first | exact ⟨_, hu, ru⟩ | exact False.elim ru
theorem RepH.ins {K : Fr} {T : Tb} {H : Hp} {M : Mp} (r : RepH K T H M) {a C : Addr} {ms : List (Str × D)} (h : M a = some (.ins C ms)) : ∃ dx fs, H a = some (.ins C dx fs) ∧ RepKV K H fs ms := by
  obtain ⟨u, hu, ru⟩ := r.obj a _ h
  cases u <;> first | (obtain ⟨rfl, q⟩ := ru; exact ⟨_, _, hu, q⟩) | exact False.elim ru
theorem RepH.drw {K : Fr} {T : Tb} {H : Hp} {M : Mp} (r : RepH K T H M) {a : Addr} (h : M a = some .drw) : ∃ ns : List Int, H a = some (.lst (ns.map V.int)) ∧ (∀ n ∈ ns, 0 ≤ n) ∧ ns.length ≤ 16777216 := by
  obtain ⟨u, hu, ru⟩ := r.obj a _ h
  cases u <;> first | (obtain ⟨ns, rfl, q⟩ := ru; exact ⟨_, hu, q⟩) | exact False.elim ru
/-- a new list -/
theorem RepH.newL {K : Fr} {T : Tb} {H : Hp} {M : Mp} (r : RepH K T H M) {p : Addr} {vs : List V} {ds : List D} (h : H p = none) (q : Reps K H vs ds) : RepH K T (upd H p (.lst vs)) (mup M p (.lst ds)) :=
  r.new (u := .lst vs) (o := .lst ds) h (Reps.keep (.new h) q)
theorem RepH.setL {K : Fr} {T : Tb} {H : Hp} {M : Mp} (r : RepH K T H M) {p : Addr} {vs : List V} {ds : List D} {o : MO} (h : M p = some o) (q : Reps K H vs ds) (hd : ∀ ms, o ≠ .dL ms := by intro _ z; cases z) : RepH K T (upd H p (.lst vs)) (mup M p (.lst ds)) ∧ Keep H (upd H p (.lst vs)) := by
  obtain ⟨u, hu, ru⟩ := r.obj p o h
  have k : Keep H (upd H p (.lst vs)) := .write hu (ru.mut hd).1 (ru.mut hd).2.1
  exact r.write (u' := .lst vs) (o' := .lst ds) h (Reps.keep k q) hd
end DL

set_option Elab.async false
set_option linter.all false
set_option maxRecDepth 100000
set_option maxHeartbeats 2000000
namespace DL
open PySem PySem.Spec PyProof.Rows L2

/-! ## readings over data -/
abbrev DSt := List (Option D)
abbrev DQ := D → Mp → Prop
/-- an exception: its class, its one field's name and value -/
abbrev DX := Str → Str → D → Mp → Prop
abbrev TDE := DSt → Mp → DQ → DX → Prop
abbrev TDT := DSt → Mp → (Bool → Mp → Prop) → DX → Prop
abbrev TDA := DSt → Mp → (List D → Mp → Prop) → DX → Prop
structure DEn where
  nx : DSt → Mp → Prop
  rt : DQ
  bk : DSt → Mp → Prop
  ct : DSt → Mp → Prop
  ex : Str → Str → D → DSt → Mp → Prop
abbrev TDS := DEn → DSt → Mp → Prop

def RepS (K : Fr) (H : Hp) (σ : L2.St) (τ : DSt) : Prop := σ.length = τ.length ∧ ∀ (i : Nat) (d : D), τ[i]? = some (some d) → ∃ v, σ[i]? = some (some v) ∧ Rep K H v d
theorem RepS.keep {K : Fr} {H H' : Hp} (k : Keep H H') {σ : L2.St} {τ : DSt} (r : RepS K H σ τ) : RepS K H' σ τ :=
  ⟨r.1, fun i d e => let ⟨v, h1, h2⟩ := r.2 i d e; ⟨v, h1, h2.keep k⟩⟩
theorem RepS.set {K : Fr} {H : Hp} {σ : L2.St} {τ : DSt} (r : RepS K H σ τ) {v : V} {d : D} (h : Rep K H v d) (i : Nat) : RepS K H (σ.set i (some v)) (τ.set i (some d)) := by
  refine ⟨by rw [List.length_set, List.length_set]; exact r.1, fun j e hj => ?_⟩
  by_cases hij : i = j
  · subst hij
    by_cases hl : i < τ.length
    · rw [List.getElem?_set_self hl] at hj
      cases hj
      exact ⟨v, by rw [List.getElem?_set_self (by rw [r.1]; exact hl)], h⟩
    · rw [List.getElem?_eq_none (by simpa using hl)] at hj; cases hj
  · rw [List.getElem?_set_ne hij] at hj ⊢
    exact r.2 j e hj
theorem RepS.clear {K : Fr} {H : Hp} {σ : L2.St} {τ : DSt} (r : RepS K H σ τ) (i : Nat) : RepS K H (σ.set i none) (τ.set i none) := by
  refine ⟨by rw [List.length_set, List.length_set]; exact r.1, fun j e hj => ?_⟩
  by_cases hij : i = j
  · subst hij
    by_cases hl : i < τ.length
    · rw [List.getElem?_set_self hl] at hj; cases hj
    · rw [List.getElem?_eq_none (by simpa using hl)] at hj; cases hj
  · rw [List.getElem?_set_ne hij] at hj ⊢
    exact r.2 j e hj
@[simp] def dwipe (τ : DSt) : List Nat → DSt
  | [] => τ
  | v :: vs => (dwipe τ vs).set v none
theorem RepS.wipe {K : Fr} {H : Hp} {σ : L2.St} {τ : DSt} (r : RepS K H σ τ) : ∀ vs : List Nat, RepS K H (wipe σ vs) (dwipe τ vs)
  | [] => r
  | v :: vs => (RepS.wipe r vs).clear v
theorem RepS.start {K : Fr} {H : Hp} {vs : List V} {ds : List D} (r : Reps K H vs ds) (N : List Str) : RepS K H (L2.start N vs) (ds.map some ++ List.replicate (N.length - ds.length) none) := by
  unfold L2.start
  have hl := r.length
  refine ⟨by simp [hl], fun i d e => ?_⟩
  by_cases hi : i < ds.length
  · rw [List.getElem?_append_left (by simpa using hi), List.getElem?_map] at e
    cases q : ds[i]? with
    | none => rw [q] at e; cases e
    | some d' =>
      rw [q] at e; cases e
      obtain ⟨v, h1, h2⟩ := r.get q
      exact ⟨v, by rw [List.getElem?_append_left (by simpa [hl] using hi), List.getElem?_map, h1]; rfl, h2⟩
  · rw [List.getElem?_append_right (by simpa using hi), List.getElem?_replicate] at e
    split at e <;> cases e
@[simp] def dstart (n : Nat) (ds : List D) : DSt := ds.map some ++ List.replicate (n - ds.length) none

/-- the module's name x is that of the class at C -/
def ClsAt (K : Fr) (x : Str) (C : Addr) : Prop := PySem.W.nsIn K mainGlobals x = some (some (.ref C))
/-- an exception is told: by its class' name -/
def RepX (K : Fr) (H : Hp) (cls : Value) (dx : Option Addr) (x : Str) (f : Str) (d : D) : Prop :=
  (∃ C, ClsAt K x C ∧ cls = .ref C) ∧ ∃ a v, dx = some a ∧ H a = some (.xd [(f, v)]) ∧ Rep K H v d
section
variable (K : Fr) (T : Tb) (W : WX)
def XW (σ : L2.St) (H : Hp) (E : DX) : Prop := ∀ C f d cls dx H' M', Keep H H' → RepX K H' cls dx C f d → RepH K T H' M' → E C f d M' → W cls dx σ H'
def QW (H : Hp) (Qd : DQ) (Q : VK) : Prop := ∀ v d H' M', Keep H H' → Rep K H' v d → RepH K T H' M' → Qd d M' → Q v H'
def liftE (t : TDE) : TE := fun σ H Q => ∃ τ M Qd E, RepS K H σ τ ∧ RepH K T H M ∧ t τ M Qd E ∧ QW K T H Qd Q ∧ XW K T W σ H E
def liftT (t : TDT) : TT := fun σ H Q => ∃ τ M Qd E, RepS K H σ τ ∧ RepH K T H M ∧ t τ M Qd E ∧ (∀ b H' M', Keep H H' → RepH K T H' M' → Qd b M' → Q b H') ∧ XW K T W σ H E
def liftA (t : TDA) : TA := fun σ H Q => ∃ τ M Qd E, RepS K H σ τ ∧ RepH K T H M ∧ t τ M Qd E ∧ (∀ vs ds H' M', Keep H H' → Reps K H' vs ds → RepH K T H' M' → Qd ds M' → Q vs H') ∧ XW K T W σ H E
structure EnW (H : Hp) (D : Ends) (E : DEn) : Prop where
  nx : ∀ σ τ H' M', Keep H H' → RepS K H' σ τ → RepH K T H' M' → E.nx τ M' → D.nx σ H'
  rt : QW K T H E.rt D.rt
  bk : ∀ σ τ H' M', Keep H H' → RepS K H' σ τ → RepH K T H' M' → E.bk τ M' → D.bk σ H'
  ct : ∀ σ τ H' M', Keep H H' → RepS K H' σ τ → RepH K T H' M' → E.ct τ M' → D.ct σ H'
  ex : ∀ C f d cls dx σ τ H' M', Keep H H' → RepS K H' σ τ → RepX K H' cls dx C f d → RepH K T H' M' → E.ex C f d τ M' → W cls dx σ H'
def liftS (t : TDS) : TS := fun D σ H => ∃ τ M E, RepS K H σ τ ∧ RepH K T H M ∧ t E τ M ∧ EnW K T W H D E
end
section
variable {K : Fr} {T : Tb} {W : WX} {H H' : Hp}
theorem XW.keep {σ : L2.St} {E : DX} (x : XW K T W σ H E) (k : Keep H H') : XW K T W σ H' E := fun C f d cls dx H2 M2 k2 => x C f d cls dx H2 M2 (k.trans k2)
theorem QW.keep {Qd : DQ} {Q : VK} (x : QW K T H Qd Q) (k : Keep H H') : QW K T H' Qd Q := fun v d H2 M2 k2 => x v d H2 M2 (k.trans k2)
theorem EnW.keep {D : Ends} {E : DEn} (x : EnW K T W H D E) (k : Keep H H') : EnW K T W H' D E :=
  ⟨fun σ τ H2 M2 k2 => x.nx σ τ H2 M2 (k.trans k2), x.rt.keep k, fun σ τ H2 M2 k2 => x.bk σ τ H2 M2 (k.trans k2), fun σ τ H2 M2 k2 => x.ct σ τ H2 M2 (k.trans k2), fun C f d cls dx σ τ H2 M2 k2 => x.ex C f d cls dx σ τ H2 M2 (k.trans k2)⟩
/-- an expression's exceptions within a statement -/
theorem EnW.xw {D : Ends} {E : DEn} (x : EnW K T W H D E) {σ : L2.St} {τ : DSt} (rs : RepS K H σ τ) : XW K T W σ H (fun C f d M' => E.ex C f d τ M') :=
  fun C f d cls dx H' M' k rx rh h => x.ex C f d cls dx σ τ H' M' k (rs.keep k) rx rh h
end

/-! ## judgements -/
def DE (X : Cx) (T : Tb) (W : WX) (e : Expr) (t : TDE) : Prop := PE X e (liftE X.K T W t)
def DT (X : Cx) (T : Tb) (W : WX) (e : Expr) (t : TDT) : Prop := PT X e (liftT X.K T W t)
def DW (X : Cx) (T : Tb) (W : WX) (e : Expr) (t : TDT) : Prop := PW X e (liftT X.K T W t)
def DA (X : Cx) (T : Tb) (W : WX) (es : List Expr) (t : TDA) : Prop := PA X es (liftA X.K T W t)
def DS (X : Cx) (T : Tb) (W : WX) (st : Stmt) (t : TDS) : Prop := PS X st (liftS X.K T W t)
def DSs (X : Cx) (T : Tb) (W : WX) (st : List Stmt) (t : TDS) : Prop := PSs X st (liftS X.K T W t)
theorem PE_imp {X : Cx} {e : Expr} {t t' : TE} (h : PE X e t) (i : ∀ σ H Q, t' σ H Q → t σ H Q) : PE X e t' := ⟨fun pins s σ H Q I hq => h.run pins s σ H Q I (i σ H Q hq)⟩
theorem PT_imp {X : Cx} {e : Expr} {t t' : TT} (h : PT X e t) (i : ∀ σ H Q, t' σ H Q → t σ H Q) : PT X e t' := ⟨fun pins s σ H Q I hq => h.run pins s σ H Q I (i σ H Q hq)⟩
theorem PW_imp {X : Cx} {e : Expr} {t t' : TT} (h : PW X e t) (i : ∀ σ H Q, t' σ H Q → t σ H Q) : PW X e t' := ⟨fun wh pins s σ H Q I hq => h.run wh pins s σ H Q I (i σ H Q hq)⟩
theorem PA_imp {X : Cx} {es : List Expr} {t t' : TA} (h : PA X es t) (i : ∀ σ H Q, t' σ H Q → t σ H Q) : PA X es t' := ⟨fun pos pins s σ H Q I hq => h.run pos pins s σ H Q I (i σ H Q hq)⟩
theorem PS_imp {X : Cx} {st : Stmt} {t t' : TS} (h : PS X st t) (i : ∀ D σ H, t' D σ H → t D σ H) : PS X st t' := ⟨fun pins s σ H D I hq => h.run pins s σ H D I (i D σ H hq)⟩
theorem PSs_imp {X : Cx} {st : List Stmt} {t t' : TS} (h : PSs X st t) (i : ∀ D σ H, t' D σ H → t D σ H) : PSs X st t' := ⟨fun pins s σ H D I hq => h.run pins s σ H D I (i D σ H hq)⟩

section
variable {X : Cx} {T : Tb} {W : WX} {a b c e : Expr} {es : List Expr} {ta tb tc : TDE} {tt tu : TDT} {t tr : TDA} {pos : Pos}

/-! ## names, constants -/
@[simp] def dVar (i : Nat) : TDE := fun τ M Q _ => match τ[i]? with | some (some d) => Q d M | _ => False
@[simp] def dC (d : D) : TDE := fun _ M Q _ => Q d M
theorem de_var (i : Nat) {x : Str} {pos : Pos} (hN : X.N[i]? = some x := by rfl) (hv : Vis X.env.scope x := by first | exact Or.inl rfl | exact Or.inr (Or.inl rfl) | exact Or.inr (Or.inr rfl)) (hd : (x == ("__debug__" : Str)) = false := by decide)
    (hcd : (x == ("__classdict__" : Str)) = false := by decide) : DE X T W (.Name x pos) (dVar i) := PE_imp (pe_var (i := i) hN hv hd hcd) fun σ H Q ⟨τ, M, Qd, E, hs, hm, ht, hq, _⟩ => by
  unfold dVar at ht
  split at ht
  · rename_i d e
    obtain ⟨v, h1, h2⟩ := hs.2 i d e
    exact ⟨v, h1, hq v d H M (.refl H) h2 hm ht⟩
  · exact ht.elim
theorem de_c {v : V} {d : D} (h : PE X e (tC v)) (r : ∀ H, Rep X.K H v d) : DE X T W e (dC d) := PE_imp h fun σ H Q ⟨τ, M, Qd, E, hs, hm, ht, hq, _⟩ => hq v d H M (.refl H) (r H) hm ht
theorem de_int {i j pos} : DE X T W (.Constant (.int i) j pos) (dC (.int i)) := de_c pe_int fun _ => .int i
theorem de_bl {b j pos} : DE X T W (.Constant (.bool b) j pos) (dC (.bl b)) := de_c pe_bl fun _ => .bl b
theorem de_non {j pos} : DE X T W (.Constant .none j pos) (dC .non) := de_c pe_non fun _ => .non
theorem de_str {x j pos} : DE X T W (.Constant (.str x) j pos) (dC (.str x)) := de_c pe_str fun _ => .str x
/-- a module's int, text -/
theorem de_gint {x : Str} {i : Int} {pos : Pos} (hg : Gl X x) (hm : ∃ t, X.mg x = some (.int i t)) (hd : (x == ("__debug__" : Str)) = false := by decide) : DE X T W (.Name x pos) (dC (.int i)) :=
  let ⟨t, h⟩ := hm; de_c (pe_glob (v := .int i) hg h ⟨t, rfl⟩ hd) fun _ => .int i

/-! ## operators by values -/
abbrev DR2 := D → D → Mp → DQ → Prop
def Lift2 (K : Fr) (T : Tb) (r : R2) (rd : DR2) : Prop := ∀ x y dx dy H M Q Qd, Rep K H x dx → Rep K H y dy → RepH K T H M → rd dx dy M Qd → QW K T H Qd Q → r x y H Q
@[simp] def dBin (rd : DR2) (ta tb : TDE) : TDE := fun τ M Q E => ta τ M (fun x M1 => tb τ M1 (fun y M2 => rd x y M2 Q) E) E
theorem bin_lift {r : R2} {rd : DR2} (hr : Lift2 X.K T r rd) (σ : L2.St) (H : Hp) (Q : VK) (h : liftE X.K T W (dBin rd ta tb) σ H Q) : tOp r (liftE X.K T W ta) (liftE X.K T W tb) σ H Q := by
  obtain ⟨τ, M, Qd, E, hs, hm, ht, hq, hx⟩ := h
  refine ⟨τ, M, _, E, hs, hm, ht, fun x dx H1 M1 k1 r1 m1 h1 => ?_, hx⟩
  refine ⟨τ, M1, _, E, hs.keep k1, m1, h1, fun y dy H2 M2 k2 r2 m2 h2 => ?_, hx.keep k1⟩
  exact hr x y dx dy H2 M2 Q Qd (r1.keep k2) r2 m2 h2 (hq.keep (k1.trans k2))
theorem de_op {op : Operator} {r : R2} {rd : DR2} (ho : OpR X (binaryOp op) r) (hr : Lift2 X.K T r rd) (ha : DE X T W a ta) (hb : DE X T W b tb) : DE X T W (.BinOp a op b pos) (dBin rd ta tb) :=
  PE_imp (pe_op ho ha hb) (bin_lift hr)
theorem de_cmp {op : CmpOp} {r : R2} {rd : DR2} (ho : OpR X (compareOp op) r) (hr : Lift2 X.K T r rd) (ha : DE X T W a ta) (hb : DE X T W b tb) (hm : behindInMarks op b = false) : DE X T W (.Compare a [op] [b] pos) (dBin rd ta tb) :=
  PE_imp (pe_cmpR ho ha hb hm) (bin_lift hr)
/-- a value that is a bool, as a test -/
@[simp] def dB (t : TDE) : TDT := fun τ M Q E => t τ M (fun d M1 => match d with | .bl b => Q b M1 | _ => False) E
theorem Rep.bl_inv {K : Fr} {H : Hp} {v : V} {b : Bool} (r : Rep K H v (.bl b)) : v = .bl b := by cases r; rfl
theorem Rep.int_inv {K : Fr} {H : Hp} {v : V} {b : Int} (r : Rep K H v (.int b)) : v = .int b := by cases r; rfl
theorem Rep.str_inv {K : Fr} {H : Hp} {v : V} {b : Str} (r : Rep K H v (.str b)) : v = .str b := by cases r; rfl
theorem Rep.ref_inv {K : Fr} {H : Hp} {v : V} {b : Addr} (r : Rep K H v (.ref b)) : v = .ref b := by cases r; rfl
theorem Rep.non_inv {K : Fr} {H : Hp} {v : V} (r : Rep K H v .non) : v = .non := by cases r; rfl
theorem Rep.tup_inv {K : Fr} {H : Hp} {v : V} {ds : List D} (r : Rep K H v (.tup ds)) : ∃ a vs, v = .ref a ∧ SqT K H a vs ∧ Reps K H vs ds := by cases r; exact ⟨_, _, rfl, by assumption, by assumption⟩
theorem dB_lift (σ : L2.St) (H : Hp) (Q : Bool → Hp → Prop) (h : liftT X.K T W (dB ta) σ H Q) : liftE X.K T W ta σ H (fun x H1 => ∃ k, x = .bl k ∧ Q k H1) := by
  obtain ⟨τ, M, Qd, E, hs, hm, ht, hq, hx⟩ := h
  refine ⟨τ, M, _, E, hs, hm, ht, fun x dx H1 M1 k1 r1 m1 h1 => ?_, hx⟩
  try dsimp only at h1
  split at h1
  · exact ⟨_, r1.bl_inv, hq _ _ _ k1 m1 h1⟩
  · exact h1.elim
theorem dt_cmp {op : CmpOp} {r : R2} {rd : DR2} (ho : OpR X (compareOp op) r) (hr : Lift2 X.K T r rd) (ha : DE X T W a ta) (hb : DE X T W b tb) (hm : behindInMarks op b = false) : DT X T W (.Compare a [op] [b] pos) (dB (dBin rd ta tb)) :=
  PT_imp (pt_cmpR ho ha hb hm) fun σ H Q h => bin_lift hr σ H _ (dB_lift σ H Q h)
/-- a op1 b op2 c -/
@[simp] def dChain (r r' : DR2) (ta tb tc : TDE) : TDE := fun τ M Q E => ta τ M (fun x M1 => tb τ M1 (fun y M2 => r x y M2 (fun z M3 => match z with
  | .bl true => tc τ M3 (fun w M4 => r' y w M4 Q) E
  | .bl false => Q (.bl false) M3
  | _ => False)) E) E
theorem chain_lift {r r' : R2} {rd rd' : DR2} (hr : Lift2 X.K T r rd) (hr' : Lift2 X.K T r' rd') (σ : L2.St) (H : Hp) (Q : VK) (h : liftE X.K T W (dChain rd rd' ta tb tc) σ H Q) : tChain r r' (liftE X.K T W ta) (liftE X.K T W tb) (liftE X.K T W tc) σ H Q := by
  obtain ⟨τ, M, Qd, E, hs, hm, ht, hq, hx⟩ := h
  refine ⟨τ, M, _, E, hs, hm, ht, fun x dx H1 M1 k1 r1 m1 h1 => ?_, hx⟩
  refine ⟨τ, M1, _, E, hs.keep k1, m1, h1, fun y dy H2 M2 k2 r2 m2 h2 => ?_, hx.keep k1⟩
  refine hr x y dx dy H2 M2 _ _ (r1.keep k2) r2 m2 h2 fun z dz H3 M3 k3 r3 m3 h3 => ?_
  have k13 : Keep H H3 := (k1.trans k2).trans k3
  split at h3
  · refine ⟨true, r3.bl_inv, ?_⟩
    rw [if_pos rfl]
    refine ⟨τ, M3, _, E, hs.keep k13, m3, h3, fun w dw H4 M4 k4 r4 m4 h4 => ?_, hx.keep k13⟩
    exact hr' y w dy dw H4 M4 Q Qd (r2.keep (k3.trans k4)) r4 m4 h4 (hq.keep (k13.trans k4))
  · refine ⟨false, r3.bl_inv, ?_⟩
    rw [if_neg (by decide)]
    exact hq _ _ _ _ k13 (.bl false) m3 h3
  · exact h3.elim
theorem de_chain {op op' : CmpOp} {r r' : R2} {rd rd' : DR2} (ho : OpR X (compareOp op) r) (ho' : OpR X (compareOp op') r') (hr : Lift2 X.K T r rd) (hr' : Lift2 X.K T r' rd') (ha : DE X T W a ta) (hb : DE X T W b tb) (hc : DE X T W c tc)
    (hm : lastMarks [op, op'] [b, c] = false := by with_unfolding_all rfl) : DE X T W (.Compare a [op, op'] [b, c] pos) (dChain rd rd' ta tb tc) := PE_imp (pe_chain ho ho' ha hb hc hm) (chain_lift hr hr')
theorem dt_chain {op op' : CmpOp} {r r' : R2} {rd rd' : DR2} (ho : OpR X (compareOp op) r) (ho' : OpR X (compareOp op') r') (hr : Lift2 X.K T r rd) (hr' : Lift2 X.K T r' rd') (ha : DE X T W a ta) (hb : DE X T W b tb) (hc : DE X T W c tc)
    (hm : lastMarks [op, op'] [b, c] = false := by with_unfolding_all rfl) : DT X T W (.Compare a [op, op'] [b, c] pos) (dB (dChain rd rd' ta tb tc)) := PT_imp (pt_chain ho ho' ha hb hc hm) fun σ H Q h => chain_lift hr hr' σ H _ (dB_lift σ H Q h)

/-! ## one-place operators -/
abbrev DR1 := D → Mp → DQ → Prop
def Lift1 (K : Fr) (T : Tb) (r : V → Hp → VK → Prop) (rd : DR1) : Prop := ∀ x dx H M Q Qd, Rep K H x dx → RepH K T H M → rd dx M Qd → QW K T H Qd Q → r x H Q
@[simp] def dUn (rd : DR1) (ta : TDE) : TDE := fun τ M Q E => ta τ M (fun x M1 => rd x M1 Q) E
theorem un_lift {r : V → Hp → VK → Prop} {rd : DR1} (hr : Lift1 X.K T r rd) (σ : L2.St) (H : Hp) (Q : VK) (h : liftE X.K T W (dUn rd ta) σ H Q) : tUn r (liftE X.K T W ta) σ H Q := by
  obtain ⟨τ, M, Qd, E, hs, hm, ht, hq, hx⟩ := h
  exact ⟨τ, M, _, E, hs, hm, ht, fun x dx H1 M1 k1 r1 m1 h1 => hr x dx H1 M1 Q Qd r1 m1 h1 (hq.keep k1), hx⟩
theorem de_un {op : UnaryOp} {r : V → Hp → VK → Prop} {rd : DR1} (ho : UnR X (unaryOp op) r) (hr : Lift1 X.K T r rd) (ha : DE X T W a ta) : DE X T W (.UnaryOp op a pos) (dUn rd ta) := PE_imp (pe_un ho ha) (un_lift hr)

/-! ## truth -/
/-- a value's truth -/
def dtru (d : D) (M : Mp) : Option Bool := match d with
  | .non => some false
  | .bl b => some b
  | .int i => some (i != 0)
  | .tup ds => some (!ds.isEmpty)
  | .str x => if x.length ≤ sizeLine then some ((x.length : Int) != 0) else none
  | .ref a => (match M a with
    | some (.lst xs) => some (!xs.isEmpty)
    | some (.dK kvs) => some (!kvs.isEmpty)
    | _ => none)
  | .scr _ => none
theorem isEmpty_reps {K : Fr} {H : Hp} {vs : List V} {ds : List D} (r : Reps K H vs ds) : vs.isEmpty = ds.isEmpty := by cases r <;> rfl
theorem isEmpty_repkv {κ : Type} {K : Fr} {H : Hp} {vs : List (κ × V)} {ds : List (κ × D)} (r : RepKV K H vs ds) : vs.isEmpty = ds.isEmpty := by
  unfold RepKV at r; cases r <;> rfl
theorem tru_lift {K : Fr} {T : Tb} {H : Hp} {M : Mp} {x : V} {d : D} {k : Bool} (r : Rep K H x d) (m : RepH K T H M) (h : dtru d M = some k) : TruV K x H k := by
  unfold dtru at h
  split at h
  · rw [r.non_inv]; exact (Option.some.inj h).symm
  · rw [r.bl_inv]; exact (Option.some.inj h).symm
  · rw [r.int_inv]; exact (Option.some.inj h).symm
  · obtain ⟨a, vs, rfl, h1, h2⟩ := r.tup_inv
    exact .inr (.inl ⟨vs, h1, by rw [isEmpty_reps h2]; exact (Option.some.inj h).symm⟩)
  · rw [r.str_inv]
    split at h
    · rename_i q
      exact ⟨q, (Option.some.inj h).symm⟩
    · cases h
  · rw [r.ref_inv]
    split at h
    · rename_i xs e
      obtain ⟨vs, h1, h2⟩ := m.lst e
      exact .inl ⟨vs, SqL.of h1, by rw [isEmpty_reps h2]; exact (Option.some.inj h).symm⟩
    · rename_i kvs e
      obtain ⟨vs, hu, ru⟩ := m.dk e
      exact .inr (.inr ⟨vs, hu, by rw [isEmpty_repkv ru]; exact (Option.some.inj h).symm⟩)
    · cases h
  · cases h
@[simp] def dTru (t : TDE) : TDT := fun τ M Q E => t τ M (fun d M1 => match dtru d M1 with | some k => Q k M1 | none => False) E
theorem dt_tru (ha : DE X T W a ta) (he : ∀ whole, isTrue a X.env whole = (do let v ← whole; standAt a.pos; holding [v] (truthy v)) := by intro _; rfl) : DT X T W a (dTru ta) :=
  PT_imp (pt_truth ha he) fun σ H Q ⟨τ, M, Qd, E, hs, hm, ht, hq, hx⟩ => by
    refine ⟨τ, M, _, E, hs, hm, ht, fun x dx H1 M1 k1 r1 m1 h1 => ?_, hx⟩
    try dsimp only at h1
    split at h1
    · rename_i k e
      exact ⟨k, tru_lift r1 m1 e, hq _ _ _ k1 m1 h1⟩
    · exact h1.elim
@[simp] def dNot (t : TDT) : TDT := fun τ M Q E => t τ M (fun b M1 => Q (!b) M1) E
@[simp] def dAnd (t u : TDT) : TDT := fun τ M Q E => t τ M (fun b M1 => if b = true then u τ M1 Q E else Q false M1) E
@[simp] def dOr (t u : TDT) : TDT := fun τ M Q E => t τ M (fun b M1 => if b = true then Q true M1 else u τ M1 Q E) E
theorem DW.dt (h : DW X T W e tt) : DT X T W e tt := PW.pt h
theorem dt_not (h : DT X T W a tt) : DT X T W (.UnaryOp .Not a pos) (dNot tt) := PT_imp (pt_not h) fun σ H Q ⟨τ, M, Qd, E, hs, hm, ht, hq, hx⟩ =>
  ⟨τ, M, _, E, hs, hm, ht, fun b H1 M1 k1 m1 h1 => hq _ _ _ k1 m1 h1, hx⟩
theorem dw_and1 (h : DT X T W a tt) : DW X T W (.BoolOp .And [a] pos) tt := pw_and1 h
theorem dw_or1 (h : DT X T W a tt) : DW X T W (.BoolOp .Or [a] pos) tt := pw_or1 h
theorem dw_and {rest : List Expr} (h : DT X T W a tt) (hb : DW X T W (.BoolOp .And (b :: rest) pos) tu) : DW X T W (.BoolOp .And (a :: b :: rest) pos) (dAnd tt tu) :=
  PW_imp (pw_and h hb) fun σ H Q ⟨τ, M, Qd, E, hs, hm, ht, hq, hx⟩ => ⟨τ, M, _, E, hs, hm, ht, fun b H1 M1 k1 m1 h1 => by
    try dsimp only at h1
    cases b with
    | true => rw [if_pos rfl] at h1 ⊢; exact ⟨τ, M1, Qd, E, hs.keep k1, m1, h1, fun b H2 M2 k2 => hq b H2 M2 (k1.trans k2), hx.keep k1⟩
    | false => rw [if_neg (by decide)] at h1 ⊢; exact hq _ _ _ k1 m1 h1, hx⟩
theorem dw_or {rest : List Expr} (h : DT X T W a tt) (hb : DW X T W (.BoolOp .Or (b :: rest) pos) tu) : DW X T W (.BoolOp .Or (a :: b :: rest) pos) (dOr tt tu) :=
  PW_imp (pw_or h hb) fun σ H Q ⟨τ, M, Qd, E, hs, hm, ht, hq, hx⟩ => ⟨τ, M, _, E, hs, hm, ht, fun b H1 M1 k1 m1 h1 => by
    try dsimp only at h1
    cases b with
    | true => rw [if_pos rfl] at h1 ⊢; exact hq _ _ _ k1 m1 h1
    | false => rw [if_neg (by decide)] at h1 ⊢; exact ⟨τ, M1, Qd, E, hs.keep k1, m1, h1, fun b H2 M2 k2 => hq b H2 M2 (k1.trans k2), hx.keep k1⟩, hx⟩
/-- and, or, not as values -/
@[simp] def dAndV (t u : TDE) : TDE := fun τ M Q E => t τ M (fun d M1 => match dtru d M1 with | some true => u τ M1 Q E | some false => Q d M1 | none => False) E
@[simp] def dOrV (t u : TDE) : TDE := fun τ M Q E => t τ M (fun d M1 => match dtru d M1 with | some true => Q d M1 | some false => u τ M1 Q E | none => False) E
@[simp] def dNotV (t : TDE) : TDE := fun τ M Q E => t τ M (fun d M1 => match dtru d M1 with | some k => Q (.bl (!k)) M1 | none => False) E
theorem de_one {op} (h : DE X T W a ta) : DE X T W (.BoolOp op [a] pos) ta := pe_one h
theorem de_and {rest : List Expr} (ha : DE X T W a ta) (hb : DE X T W (.BoolOp .And (b :: rest) pos) tb) : DE X T W (.BoolOp .And (a :: b :: rest) pos) (dAndV ta tb) :=
  PE_imp (pe_andT ha hb) fun σ H Q ⟨τ, M, Qd, E, hs, hm, ht, hq, hx⟩ => ⟨τ, M, _, E, hs, hm, ht, fun x dx H1 M1 k1 r1 m1 h1 => by
    try dsimp only at h1
    split at h1
    · rename_i e
      exact ⟨true, tru_lift r1 m1 e, by rw [if_pos rfl]; exact ⟨τ, M1, Qd, E, hs.keep k1, m1, h1, hq.keep k1, hx.keep k1⟩⟩
    · rename_i e
      exact ⟨false, tru_lift r1 m1 e, by rw [if_neg (by decide)]; exact hq _ _ _ _ k1 r1 m1 h1⟩
    · exact h1.elim, hx⟩
theorem de_or {rest : List Expr} (ha : DE X T W a ta) (hb : DE X T W (.BoolOp .Or (b :: rest) pos) tb) : DE X T W (.BoolOp .Or (a :: b :: rest) pos) (dOrV ta tb) :=
  PE_imp (pe_orT ha hb) fun σ H Q ⟨τ, M, Qd, E, hs, hm, ht, hq, hx⟩ => ⟨τ, M, _, E, hs, hm, ht, fun x dx H1 M1 k1 r1 m1 h1 => by
    try dsimp only at h1
    split at h1
    · rename_i e
      exact ⟨true, tru_lift r1 m1 e, by rw [if_pos rfl]; exact hq _ _ _ _ k1 r1 m1 h1⟩
    · rename_i e
      exact ⟨false, tru_lift r1 m1 e, by rw [if_neg (by decide)]; exact ⟨τ, M1, Qd, E, hs.keep k1, m1, h1, hq.keep k1, hx.keep k1⟩⟩
    · exact h1.elim, hx⟩
theorem de_not (ha : DE X T W a ta) : DE X T W (.UnaryOp .Not a pos) (dNotV ta) :=
  PE_imp (pe_notT ha) fun σ H Q ⟨τ, M, Qd, E, hs, hm, ht, hq, hx⟩ => ⟨τ, M, _, E, hs, hm, ht, fun x dx H1 M1 k1 r1 m1 h1 => by
    try dsimp only at h1
    split at h1
    · rename_i k e
      exact ⟨k, tru_lift r1 m1 e, hq _ _ _ _ k1 (.bl _) m1 h1⟩
    · exact h1.elim, hx⟩
@[simp] def dIf (t : TDT) (ta tb : TDE) : TDE := fun τ M Q E => t τ M (fun c M1 => if c = true then ta τ M1 Q E else tb τ M1 Q E) E
theorem de_if (hc : DT X T W c tt) (ha : DE X T W a ta) (hb : DE X T W b tb) : DE X T W (.IfExp c a b pos) (dIf tt ta tb) :=
  PE_imp (pe_ifExp hc ha hb) fun σ H Q ⟨τ, M, Qd, E, hs, hm, ht, hq, hx⟩ => ⟨τ, M, _, E, hs, hm, ht, fun b H1 M1 k1 m1 h1 => by
    try dsimp only at h1
    cases b with
    | true => rw [if_pos rfl] at h1 ⊢; exact ⟨τ, M1, Qd, E, hs.keep k1, m1, h1, hq.keep k1, hx.keep k1⟩
    | false => rw [if_neg (by decide)] at h1 ⊢; exact ⟨τ, M1, Qd, E, hs.keep k1, m1, h1, hq.keep k1, hx.keep k1⟩, hx⟩

/-! ## arguments, displays -/
@[simp] def dNil : TDA := fun _ M Q _ => Q [] M
@[simp] def dCons (ta : TDE) (tr : TDA) : TDA := fun τ M Q E => ta τ M (fun x M1 => tr τ M1 (fun xs M2 => Q (x :: xs) M2) E) E
theorem da_nil : DA X T W [] dNil := PA_imp pa_nil fun σ H Q ⟨τ, M, Qd, E, hs, hm, ht, hq, _⟩ => hq [] [] H M (.refl H) .nil hm ht
theorem da_cons (ha : DE X T W e ta) (hr : DA X T W es tr) (hs : starEach (e :: es) X.env = (false, eval e X.env) :: starEach es X.env := by rfl) : DA X T W (e :: es) (dCons ta tr) :=
  PA_imp (pa_cons ha hr hs) fun σ H Q ⟨τ, M, Qd, E, hs, hm, ht, hq, hx⟩ => ⟨τ, M, _, E, hs, hm, ht, fun x dx H1 M1 k1 r1 m1 h1 =>
    ⟨τ, M1, _, E, hs.keep k1, m1, h1, fun xs ds H2 M2 k2 r2 m2 h2 => hq _ _ _ _ (k1.trans k2) (.cons (r1.keep k2) r2) m2 h2, hx.keep k1⟩, hx⟩
abbrev SzOk (n : Nat) : Prop := n ≤ 16777216
theorem szOk {n : Nat} (h : SzOk n) : n ≤ sizeLine := by rw [sizeLine_eq]; exact h
@[simp] def dTup (t : TDA) : TDE := fun τ M Q E => t τ M (fun xs M1 => SzOk xs.length ∧ Q (.tup xs) M1) E
@[simp] def dLst (t : TDA) : TDE := fun τ M Q E => t τ M (fun xs M1 => SzOk xs.length ∧ ∀ p, M1 p = none → Q (.ref p) (mup M1 p (.lst xs))) E
theorem de_tup {x1} (h : DA X T W es t) : DE X T W (.Tuple es x1 pos) (dTup t) := PE_imp (pe_tup h) fun σ H Q ⟨τ, M, Qd, E, hs, hm, ht, hq, hx⟩ =>
  ⟨τ, M, _, E, hs, hm, ht, fun vs ds H1 M1 k1 r1 m1 ⟨h1, h2⟩ => ⟨by rw [r1.length]; exact szOk h1, fun p hp =>
    hq _ _ _ _ (k1.trans (.new hp)) (.tup (SqT.of upd_same) (r1.keep (.new hp))) (m1.more hp) h2⟩, hx⟩
theorem de_lst (h : DA X T W es t) : DE X T W (.List es pos) (dLst t) := PE_imp (pe_lst h) fun σ H Q ⟨τ, M, Qd, E, hs, hm, ht, hq, hx⟩ =>
  ⟨τ, M, _, E, hs, hm, ht, fun vs ds H1 M1 k1 r1 m1 ⟨h1, h2⟩ => ⟨by rw [r1.length]; exact szOk h1, fun p hp =>
    hq _ _ _ _ (k1.trans (.new hp)) (.ref p) (m1.newL hp r1) (h2 p (m1.fresh hp))⟩, hx⟩
end
end DL

set_option Elab.async false
set_option linter.all false
set_option maxRecDepth 100000
set_option maxHeartbeats 2000000
namespace DL
open PySem PySem.Spec PyProof.Rows L2

/-! ## targets -/
abbrev DXS := Str → Str → D → DSt → Mp → Prop
abbrev TDG := D → DSt → Mp → (DSt → Mp → Prop) → DXS → Prop
abbrev TDGs := List D → DSt → Mp → (DSt → Mp → Prop) → DXS → Prop
section
variable (K : Fr) (T : Tb) (W : WX)
def XWS (H : Hp) (E : DXS) : Prop := ∀ C f d cls dx σ τ H' M', Keep H H' → RepS K H' σ τ → RepX K H' cls dx C f d → RepH K T H' M' → E C f d τ M' → W cls dx σ H'
def NW (H : Hp) (Qd : DSt → Mp → Prop) (Q : L2.St → Hp → Prop) : Prop := ∀ σ τ H' M', Keep H H' → RepS K H' σ τ → RepH K T H' M' → Qd τ M' → Q σ H'
def liftG (t : TDG) : TG := fun v σ H Q => ∃ d τ M Qd E, Rep K H v d ∧ RepS K H σ τ ∧ RepH K T H M ∧ t d τ M Qd E ∧ NW K T H Qd Q ∧ XWS K T W H E
def liftGs (t : TDGs) : TGs := fun vs σ H Q => ∃ ds τ M Qd E, Reps K H vs ds ∧ RepS K H σ τ ∧ RepH K T H M ∧ t ds τ M Qd E ∧ NW K T H Qd Q ∧ XWS K T W H E
end
section
variable {K : Fr} {T : Tb} {W : WX} {H H' : Hp}
theorem XWS.keep {E : DXS} (x : XWS K T W H E) (k : Keep H H') : XWS K T W H' E := fun C f d cls dx σ τ H2 M2 k2 => x C f d cls dx σ τ H2 M2 (k.trans k2)
theorem NW.keep {Qd : DSt → Mp → Prop} {Q : L2.St → Hp → Prop} (x : NW K T H Qd Q) (k : Keep H H') : NW K T H' Qd Q := fun σ τ H2 M2 k2 => x σ τ H2 M2 (k.trans k2)
theorem XWS.xw {E : DXS} (x : XWS K T W H E) {σ : L2.St} {τ : DSt} (rs : RepS K H σ τ) : XW K T W σ H (fun C f d M' => E C f d τ M') :=
  fun C f d cls dx H' M' k rx rh h => x C f d cls dx σ τ H' M' k (rs.keep k) rx rh h
theorem EnW.xws {D : Ends} {E : DEn} (x : EnW K T W H D E) : XWS K T W H E.ex := x.ex
theorem EnW.nw {D : Ends} {E : DEn} (x : EnW K T W H D E) : NW K T H E.nx D.nx := x.nx
end
def DG (X : Cx) (T : Tb) (W : WX) (e : Expr) (t : TDG) : Prop := PG X e (liftG X.K T W t)
def DGs (X : Cx) (T : Tb) (W : WX) (es : List Expr) (t : TDGs) : Prop := PGs X es (liftGs X.K T W t)
theorem PG_imp {X : Cx} {e : Expr} {t t' : TG} (h : PG X e t) (i : ∀ v σ H Q, t' v σ H Q → t v σ H Q) : PG X e t' := ⟨fun pins s σ H v u Q I r hq => h.run pins s σ H v u Q I r (i v σ H Q hq)⟩
theorem PGs_imp {X : Cx} {e : List Expr} {t t' : TGs} (h : PGs X e t) (i : ∀ v σ H Q, t' v σ H Q → t v σ H Q) : PGs X e t' := ⟨fun pins s σ H v u Q I r hq => h.run pins s σ H v u Q I r (i v σ H Q hq)⟩
section
variable {X : Cx} {T : Tb} {W : WX} {a b c e : Expr} {es : List Expr} {ta tb tc te : TDE} {tt tu : TDT} {t tr : TDA} {pos : Pos} {g : TDG} {gs : TDGs}
@[simp] def dgName (i : Nat) : TDG := fun d τ M Q _ => Q (τ.set i (some d)) M
theorem dg_name (i : Nat) {x : Str} {pos : Pos} (hN : X.N.Nodup) (hi : X.N[i]? = some x := by rfl) (hx : Loc X.env.scope x := by first | exact Or.inl rfl | exact Or.inr rfl) (hf : X.fn x = true ∨ X.env.scope.names.lookup x = some .local := by first | exact .inl rfl | exact .inr rfl) : DG X T W (.Name x pos) (dgName i) :=
  PG_imp (pg_name (i := i) hN hi hx hf) fun v σ H Q ⟨d, τ, M, Qd, E, hr, hs, hm, ht, hq, hx⟩ => hq _ _ H M (.refl H) (hs.set hr i) hm ht
@[simp] def dgNil : TDGs := fun ds τ M Q _ => match ds with | [] => Q τ M | _ => False
@[simp] def dgCons (g : TDG) (gs : TDGs) : TDGs := fun ds τ M Q E => match ds with | d :: r => g d τ M (fun τ2 M2 => gs r τ2 M2 Q E) E | [] => False
theorem dgs_nil : DGs X T W [] dgNil := PGs_imp pgs_nil fun vs σ H Q ⟨ds, τ, M, Qd, E, hr, hs, hm, ht, hq, hx⟩ => by
  cases hr with
  | nil => exact ⟨rfl, hq _ _ H M (.refl H) hs hm ht⟩
  | cons => exact ht.elim
theorem dgs_cons (h : DG X T W e g) (hr : DGs X T W es gs) (hs : (assignEach (e :: es) X.env).map (·.2) = assign e X.env :: (assignEach es X.env).map (·.2) := by rfl) : DGs X T W (e :: es) (dgCons g gs) :=
  PGs_imp (pgs_cons h hr hs) fun vs σ H Q ⟨ds, τ, M, Qd, E, hr, hs, hm, ht, hq, hx⟩ => by
    cases hr with
    | nil => exact ht.elim
    | cons r rs => exact ⟨_, _, rfl, _, τ, M, _, E, r, hs, hm, ht, fun σ' τ' H' M' k s' m' h' => ⟨_, τ', M', Qd, E, rs.keep k, s', m', h', hq.keep k, hx.keep k⟩, hx⟩
@[simp] def dgTup (n : Nat) (gs : TDGs) : TDG := fun d τ M Q E => match d with | .tup ds => ds.length = n ∧ gs ds τ M Q E | _ => False
theorem dg_tup {k : Nat} {n : Nat} (hc : X.calm = true) (h : DGs X T W es gs) (hn : (assignEach es X.env).length = n := by rfl) (hst : (assignEach es X.env).findIdx? (·.1) = none := by rfl) : DG X T W (.Tuple es k pos) (dgTup n gs) :=
  PG_imp (pg_tup hc h hn hst) fun v σ H Q ⟨d, τ, M, Qd, E, hr, hs, hm, ht, hq, hx⟩ => by
    unfold dgTup at ht
    split at ht
    · obtain ⟨a, vs, rfl, h1, h2⟩ := hr.tup_inv
      exact ⟨a, vs, rfl, h1, by rw [h2.length]; exact ht.1, _, τ, M, Qd, E, h2, hs, hm, ht.2, hq, hx⟩
    · exact ht.elim

/-! ## statements -/
variable {st : Stmt} {sts : List Stmt} {s s' : TDS}
@[simp] def dNext : TDS := fun D τ M => D.nx τ M
@[simp] def dSeq (s s' : TDS) : TDS := fun D τ M => s { D with nx := s' D } τ M
theorem dss_nil : DSs X T W [] dNext := PSs_imp pss_nil fun D σ H ⟨τ, M, E, hs, hm, ht, he⟩ => he.nx σ τ H M (.refl H) hs hm ht
theorem dss_cons (h : DS X T W st s) (hr : DSs X T W sts s') : DSs X T W (st :: sts) (dSeq s s') := PSs_imp (pss_cons h hr) fun D σ H ⟨τ, M, E, hs, hm, ht, he⟩ =>
  ⟨τ, M, _, hs, hm, ht, ⟨fun σ' τ' H' M' k s' m' h' => ⟨τ', M', E, s', m', h', he.keep k⟩, he.rt, he.bk, he.ct, he.ex⟩⟩
theorem dss_one (h : DS X T W st s) : DSs X T W [st] s := pss_one h
theorem ds_pass : DS X T W (.Pass pos) dNext := PS_imp ps_pass fun D σ H ⟨τ, M, E, hs, hm, ht, he⟩ => he.nx σ τ H M (.refl H) hs hm ht
@[simp] def dBreak : TDS := fun D τ M => D.bk τ M
@[simp] def dCont : TDS := fun D τ M => D.ct τ M
theorem ds_break : DS X T W (.Break pos) dBreak := PS_imp ps_break fun D σ H ⟨τ, M, E, hs, hm, ht, he⟩ => he.bk σ τ H M (.refl H) hs hm ht
theorem ds_continue : DS X T W (.Continue pos) dCont := PS_imp ps_continue fun D σ H ⟨τ, M, E, hs, hm, ht, he⟩ => he.ct σ τ H M (.refl H) hs hm ht
@[simp] def dDrop (te : TDE) : TDS := fun D τ M => te τ M (fun _ M1 => D.nx τ M1) (fun C f d M1 => D.ex C f d τ M1)
theorem ds_expr (he : DE X T W e te) (hs : swapsWith e none pos.line X.env = pure false := by rfl) : DS X T W (.Expr e pos) (dDrop te) := PS_imp (ps_expr he hs) fun D σ H ⟨τ, M, E, hs, hm, ht, he⟩ =>
  ⟨τ, M, _, _, hs, hm, ht, fun v d H' M' k r m h => he.nx σ τ H' M' k (hs.keep k) m h, he.xw hs⟩
@[simp] def dRet (te : TDE) : TDS := fun D τ M => te τ M D.rt (fun C f d M1 => D.ex C f d τ M1)
theorem ds_ret (he : DE X T W e te) : DS X T W (.Return (some e) pos) (dRet te) := PS_imp (ps_ret he) fun D σ H ⟨τ, M, E, hs, hm, ht, he⟩ => ⟨τ, M, _, _, hs, hm, ht, he.rt, he.xw hs⟩
@[simp] def dRetN : TDS := fun D τ M => D.rt .non M
theorem ds_retN : DS X T W (.Return none pos) dRetN := PS_imp ps_retN fun D σ H ⟨τ, M, E, hs, hm, ht, he⟩ => he.rt .non .non H M (.refl H) .non hm ht
@[simp] def dIfS (t : TDT) (s s' : TDS) : TDS := fun D τ M => t τ M (fun b M1 => if b = true then s D τ M1 else s' D τ M1) (fun C f d M1 => D.ex C f d τ M1)
theorem ds_if {c : Expr} {x y : List Stmt} (hc : DT X T W c tt) (ha : DSs X T W x s) (hb : DSs X T W y s') : DS X T W (.If c x y pos) (dIfS tt s s') := PS_imp (ps_if hc ha hb) fun D σ H ⟨τ, M, E, hs, hm, ht, he⟩ =>
  ⟨τ, M, _, _, hs, hm, ht, fun b H' M' k m h => by
    try dsimp only at h
    cases b with
    | true => rw [if_pos rfl] at h ⊢; exact ⟨τ, M', E, hs.keep k, m, h, he.keep k⟩
    | false => rw [if_neg (by decide)] at h ⊢; exact ⟨τ, M', E, hs.keep k, m, h, he.keep k⟩, he.xw hs⟩
/-- code that is never reached -/
@[simp] def dNever : TDS := fun _ _ _ => False
theorem ds_never : DS X T W st dNever := PS_imp ps_never fun D σ H ⟨τ, M, E, hs, hm, ht, he⟩ => ht
@[simp] def dAsg (te : TDE) (g : TDG) : TDS := fun D τ M => te τ M (fun d M1 => g d τ M1 D.nx D.ex) (fun C f d M1 => D.ex C f d τ M1)
theorem asg_lift (D : Ends) (σ : L2.St) (H : Hp) (h : liftS X.K T W (dAsg te g) D σ H) : tAsg (liftE X.K T W te) (liftG X.K T W g) D σ H := by
  obtain ⟨τ, M, E, hs, hm, ht, he⟩ := h
  exact ⟨τ, M, _, _, hs, hm, ht, fun v d H' M' k r m h => ⟨d, τ, M', _, _, r, hs.keep k, m, h, he.nw.keep k, he.xws.keep k⟩, he.xw hs⟩
theorem ds_asg {tg : Expr} (he : DE X T W e te) (hg : DG X T W tg g) (hs : swapsWithSole [tg] e pos.line X.env = pure false := by rfl) (hw : swappedStores [tg] e X.env = pure none := by rfl)
    (h1 : (assignEach [tg] X.env).map (·.2) = [assign tg X.env] := by rfl) : DS X T W (.Assign [tg] e pos) (dAsg te g) := PS_imp (ps_asg he hg hs hw h1) asg_lift
theorem ds_set (i : Nat) {x : Str} {pos' : Pos} (hN : X.N.Nodup) (he : DE X T W e te) (hi : X.N[i]? = some x := by rfl) (hx : Loc X.env.scope x := by first | exact Or.inl rfl | exact Or.inr rfl) (hs : swapsWith e (some (.Name x pos')) pos.line X.env = pure false := by rfl)
    (hf : X.fn x = true ∨ X.env.scope.names.lookup x = some .local := by first | exact .inl rfl | exact .inr rfl) : DS X T W (.Assign [.Name x pos'] e pos) (dAsg te (dgName i)) :=
  PS_imp (ps_set (i := i) hN hi hx he hs hf) fun D σ H ⟨τ, M, E, hs, hm, ht, he⟩ => ⟨τ, M, _, _, hs, hm, ht, fun v d H' M' k r m h => he.nx _ _ H' M' k ((hs.keep k).set r i) m h, he.xw hs⟩
@[simp] def dPar (i j : Nat) (ta : TDA) : TDS := fun D τ M => ta τ M (fun ds M1 => match ds with | [v, w] => D.nx ((τ.set i (some v)).set j (some w)) M1 | _ => False) (fun C f d M1 => D.ex C f d τ M1)
theorem ds_par (i j : Nat) {x y : Str} {px py pt : Pos} {kt k2 pt2} (hc : X.calm = true) (hN : X.N.Nodup) (ha : DA X T W [a, b] t) (hij : i ≠ j := by decide) (hi : X.N[i]? = some x := by rfl) (hj : X.N[j]? = some y := by rfl)
    (hx : X.env.scope.names.lookup x = some .local := by rfl) (hy : X.env.scope.names.lookup y = some .local := by rfl)
    (hw : swappedStores [.Tuple [.Name x px, .Name y py] kt pt] (.Tuple [a, b] k2 pt2) X.env = pure (some [x, y]) := by rfl)
    (hs : swapsWithSole [.Tuple [.Name x px, .Name y py] kt pt] (.Tuple [a, b] k2 pt2) pos.line X.env = pure false := by rfl) :
    DS X T W (.Assign [.Tuple [.Name x px, .Name y py] kt pt] (.Tuple [a, b] k2 pt2) pos) (dPar i j t) :=
  PS_imp (L2.ps_par (i := i) (j := j) hc hN hi hj hij hx hy ha hw hs) fun D σ H ⟨τ, M, E, hs, hm, ht, he⟩ => ⟨τ, M, _, _, hs, hm, ht, fun vs ds H' M' k r m h => by
    try dsimp only at h
    split at h
    · cases r with
      | cons r1 r =>
        cases r with
        | cons r2 r =>
          cases r
          exact ⟨_, _, rfl, he.nx _ _ H' M' k (((hs.keep k).set r1 i).set r2 j) m h⟩
    · exact h.elim, he.xw hs⟩
@[simp] def dPar3 (i j l : Nat) (ta : TDA) : TDS := fun D τ M => ta τ M (fun ds M1 => match ds with | [v, w, z] => D.nx (((τ.set i (some v)).set j (some w)).set l (some z)) M1 | _ => False) (fun C f d M1 => D.ex C f d τ M1)
theorem ds_par3 (i j l : Nat) {x y z : Str} {px py pz pt : Pos} {kt k2 pt2} (hc : X.calm = true) (hN : X.N.Nodup) (ha : DA X T W [a, b, c] t) (hij : i ≠ j := by decide) (hil : i ≠ l := by decide) (hjl : j ≠ l := by decide) (hi : X.N[i]? = some x := by rfl) (hj : X.N[j]? = some y := by rfl) (hl : X.N[l]? = some z := by rfl)
    (hx : X.env.scope.names.lookup x = some .local := by rfl) (hy : X.env.scope.names.lookup y = some .local := by rfl) (hz : X.env.scope.names.lookup z = some .local := by rfl)
    (hw : swappedStores [.Tuple [.Name x px, .Name y py, .Name z pz] kt pt] (.Tuple [a, b, c] k2 pt2) X.env = pure (some [x, y, z]) := by rfl)
    (hs : swapsWithSole [.Tuple [.Name x px, .Name y py, .Name z pz] kt pt] (.Tuple [a, b, c] k2 pt2) pos.line X.env = pure false := by rfl) :
    DS X T W (.Assign [.Tuple [.Name x px, .Name y py, .Name z pz] kt pt] (.Tuple [a, b, c] k2 pt2) pos) (dPar3 i j l t) :=
  PS_imp (ps_par3 (i := i) (j := j) (l := l) hc hN hi hj hl hij hil hjl hx hy hz ha hw hs) fun D σ H ⟨τ, M, E, hs, hm, ht, he⟩ => ⟨τ, M, _, _, hs, hm, ht, fun vs ds H' M' k r m h => by
    try dsimp only at h
    split at h
    · cases r with
      | cons r1 r =>
        cases r with
        | cons r2 r =>
          cases r with
          | cons r3 r =>
            cases r
            exact ⟨_, _, _, rfl, he.nx _ _ H' M' k ((((hs.keep k).set r1 i).set r2 j).set r3 l) m h⟩
    · exact h.elim, he.xw hs⟩
/-- name op= e -/
@[simp] def dAug (i : Nat) (te : TDE) (rd : DR2) : TDS := fun D τ M => match τ[i]? with
  | some (some x) => te τ M (fun y M1 => rd x y M1 (fun z M2 => D.nx (τ.set i (some z)) M2)) (fun C f d M1 => D.ex C f d τ M1)
  | _ => False
theorem ds_aug (i : Nat) {x : Str} {op : Operator} {pos' : Pos} {r : R2} {rd : DR2} (hN : X.N.Nodup) (ho : OpR X (inplaceOp op) r) (hr : Lift2 X.K T r rd) (he : DE X T W e te) (hi : X.N[i]? = some x := by rfl) (hx : Loc X.env.scope x := by first | exact Or.inl rfl | exact Or.inr rfl)
    (hf : X.fn x = true ∨ X.env.scope.names.lookup x = some .local := by first | exact .inl rfl | exact .inr rfl) : DS X T W (.AugAssign (.Name x pos') op e pos) (dAug i te rd) :=
  PS_imp (L2.ps_aug (i := i) hN hi hx he ho hf) fun D σ H ⟨τ, M, E, hs, hm, ht, he⟩ => by
    unfold dAug at ht
    split at ht
    · rename_i x0 e0
      obtain ⟨v, h1, h2⟩ := hs.2 i x0 e0
      refine ⟨v, h1, τ, M, _, _, hs, hm, ht, fun w d H1 M1 k1 r1 m1 h => ?_, he.xw hs⟩
      exact hr v w _ d H1 M1 _ _ (h2.keep k1) r1 m1 h fun z dz H2 M2 k2 r2 m2 h' => he.nx _ _ H2 M2 (k1.trans k2) ((hs.keep (k1.trans k2)).set r2 i) m2 h'
    · exact ht.elim

/-! ## while -/
def wWhile (c : TDT) (s : TDS) (D : DEn) : Nat → DSt → Mp → Prop
  | 0, _, _ => False
  | n + 1, τ, M => c τ M (fun b M1 => if b = true then s { D with nx := wWhile c s D n, ct := wWhile c s D n, bk := D.nx } τ M1 else D.nx τ M1) (fun C f d M1 => D.ex C f d τ M1)
def dWhile (c : TDT) (s : TDS) : TDS := fun D τ M => ∃ n, wWhile c s D n τ M
theorem ds_while {c : Expr} {body : List Stmt} (hp : PassesOwn (model X.prog X.w) X.A X.env X.xe) (hc : DT X T W c tt) (hb : DSs X T W body s) : DS X T W (.While c body [] pos) (dWhile tt s) :=
  PS_imp (ps_while hp hc hb) fun D σ H ⟨τ, M, E, hs, hm, ⟨n, ht⟩, he⟩ => by
    refine ⟨fun m σ' H' => ∃ τ' M', Keep H H' ∧ RepS X.K H' σ' τ' ∧ RepH X.K T H' M' ∧ wWhile tt s E m τ' M', ⟨n, τ, M, .refl H, hs, hm, ht⟩, ?_⟩
    rintro m σ' H' ⟨τ', M', k, hs', hm', hw⟩
    cases m with
    | zero => exact hw.elim
    | succ m =>
      refine ⟨τ', M', _, _, hs', hm', hw, fun b H1 M1 k1 m1 h => ?_, (he.keep k).xw hs'⟩
      try dsimp only at h
      cases b with
      | false => rw [if_neg (by decide)] at h ⊢; exact he.nx _ _ H1 M1 (k.trans k1) (hs'.keep k1) m1 h
      | true =>
        rw [if_pos rfl] at h ⊢
        refine ⟨fun σ2 H2 => ∃ τ2 M2, Keep H H2 ∧ RepS X.K H2 σ2 τ2 ∧ RepH X.K T H2 M2 ∧ wWhile tt s E m τ2 M2, fun σ2 H2 q => ⟨m, Nat.lt_succ_self m, q⟩, ?_⟩
        have k01 := k.trans k1
        exact ⟨τ', M1, _, hs'.keep k1, m1, h, ⟨fun σ2 τ2 H2 M2 k2 s2 m2 h2 => ⟨τ2, M2, k01.trans k2, s2, m2, h2⟩, he.rt.keep k01, fun σ2 τ2 H2 M2 k2 => he.nx σ2 τ2 H2 M2 (k01.trans k2),
          fun σ2 τ2 H2 M2 k2 s2 m2 h2 => ⟨τ2, M2, k01.trans k2, s2, m2, h2⟩, he.xws.keep k01⟩⟩

/-! ## what a loop walks -/
structure WalkD (K : Fr) (T : Tb) (H0 : Hp) (J : It) (items : List D) (guard : Mp → Prop) : Prop where
  goes : ∀ i H M, i < items.length → Keep H0 H → RepH K T H M → guard M → J.go i H
  stops : ∀ H M, Keep H0 H → RepH K T H M → guard M → J.stop items.length H
  yields : ∀ i H M x H' d, items[i]? = some d → Keep H0 H → RepH K T H M → guard M → J.yld i H x H' → Keep H H' ∧ Rep K H' x d ∧ RepH K T H' M
abbrev TDI := DSt → Mp → (List D → (Mp → Prop) → Mp → Prop) → DX → Prop
def liftI (K : Fr) (T : Tb) (W : WX) (t : TDI) : TI := fun σ H R => ∃ τ M Rd E, RepS K H σ τ ∧ RepH K T H M ∧ t τ M Rd E ∧ XW K T W σ H E ∧
  ∀ items guard J H' M', Keep H H' → RepH K T H' M' → WalkD K T H' J items guard → Rd items guard M' → R J H'
def DI (X : Cx) (T : Tb) (W : WX) (tg e : Expr) (t : TDI) : Prop := PI X tg e (liftI X.K T W t)
theorem PI_imp {X : Cx} {tg e : Expr} {t t' : TI} (h : PI X tg e t) (i : ∀ σ H R, t' σ H R → t σ H R) : PI X tg e t' := ⟨fun pins s σ H R I hq => h.run pins s σ H R I (i σ H R hq)⟩
def wFor (guard : Mp → Prop) (g : TDG) (s : TDS) (N : DEn) : List D → DSt → Mp → Prop
  | [], τ, M => guard M ∧ N.nx τ M
  | d :: ds, τ, M => guard M ∧ g d τ M (fun τ2 M2 => s { N with nx := wFor guard g s N ds, ct := wFor guard g s N ds, bk := N.nx } τ2 M2) N.ex
def dFor (wi : TDI) (g : TDG) (s : TDS) : TDS := fun D τ M => wi τ M (fun items guard M1 => wFor guard g s D items τ M1) (fun C f d M1 => D.ex C f d τ M1)
theorem ds_for {tg iter : Expr} {body : List Stmt} {wi : TDI} (hp : PassesOwn (model X.prog X.w) X.A X.env X.xe) (hc : X.calm = true) (hi : DI X T W tg iter wi) (hg : DG X T W tg g) (hb : DSs X T W body s)
    (hs : ∀ x, foldedSetIterable iter X.env x = pure x := by intro _; rfl) : DS X T W (.For tg iter body [] pos) (dFor wi g s) :=
  PS_imp (ps_for hp hc hi hg hb hs) fun D σ H ⟨τ, M, E, hs, hm, ht, he⟩ => by
    refine ⟨τ, M, _, _, hs, hm, ht, he.xw hs, fun items guard J H1 M1 k1 m1 wd h => ?_⟩
    refine ⟨fun i m σ' H' => ∃ τ' M', i ≤ items.length ∧ m = items.length - i ∧ Keep H1 H' ∧ RepS X.K H' σ' τ' ∧ RepH X.K T H' M' ∧ wFor guard g s E (items.drop i) τ' M', ⟨_, τ, M1, Nat.zero_le _, rfl, .refl H1, hs.keep k1, m1, h⟩, ?_⟩
    rintro i m σ' H' ⟨τ', M', hi, rfl, k', hs', hm', hw⟩
    by_cases hlt : i < items.length
    · have e : items.drop i = items[i] :: items.drop (i + 1) := List.drop_eq_getElem_cons hlt
      rw [e] at hw
      obtain ⟨hg0, hw⟩ := hw
      refine .inr ⟨wd.goes i H' M' hlt k' hm' hg0, fun σ2 H2 => ∃ τ2 M2, i + 1 ≤ items.length ∧ Keep H1 H2 ∧ RepS X.K H2 σ2 τ2 ∧ RepH X.K T H2 M2 ∧ wFor guard g s E (items.drop (i + 1)) τ2 M2, fun σ2 H2 ⟨τ2, M2, q0, q1, q2, q3, q4⟩ => ⟨_, Nat.sub_lt_sub_left hlt (Nat.lt_succ_self i), τ2, M2, q0, rfl, q1, q2, q3, q4⟩, fun x H2 y => ?_⟩
      obtain ⟨k2, r2, m2⟩ := wd.yields i H' M' x H2 items[i] (List.getElem?_eq_getElem hlt) k' hm' hg0 y
      have k02 := (k1.trans k').trans k2
      refine ⟨_, τ', M', _, _, r2, hs'.keep k2, m2, hw, fun σ3 τ3 H3 M3 k3 s3 m3 h3 => ?_, he.xws.keep k02⟩
      have k03 := k02.trans k3
      have k13 := (k'.trans k2).trans k3
      exact ⟨τ3, M3, _, s3, m3, h3, ⟨fun σ4 τ4 H4 M4 k4 s4 m4 h4 => ⟨τ4, M4, hlt, k13.trans k4, s4, m4, h4⟩, he.rt.keep k03, fun σ4 τ4 H4 M4 k4 => he.nx σ4 τ4 H4 M4 (k03.trans k4), fun σ4 τ4 H4 M4 k4 s4 m4 h4 => ⟨τ4, M4, hlt, k13.trans k4, s4, m4, h4⟩, he.xws.keep k03⟩⟩
    · have e : i = items.length := by omega
      subst e
      rw [List.drop_length] at hw
      exact .inl ⟨wd.stops H' M' k' hm' hw.1, he.nx _ _ H' M' (k1.trans k') hs' hm' hw.2⟩
end
end DL

set_option Elab.async false
set_option linter.all false
set_option maxRecDepth 100000
set_option maxHeartbeats 2000000
namespace DL
open PySem PySem.Spec PyProof.Rows L2

/-! ## data for == -/
mutual
def pyD : D → PyData
  | .non => .none
  | .bl b => .bool b
  | .int i => .int i
  | .str x => .str x
  | .tup ds => .tuple (pyDs ds)
  | .ref _ => .dict []
  | .scr _ => .dict []
def pyDs : List D → List PyData
  | [] => []
  | d :: ds => pyD d :: pyDs ds
end
theorem pyDs_map : ∀ ds : List D, pyDs ds = ds.map pyD
  | [] => rfl
  | d :: ds => by rw [pyDs, pyDs_map ds]; rfl
mutual
theorem Rep.dp {K : Fr} {H : Hp} : ∀ {v : V} {d : D}, Rep K H v d → PyData.canLay0 (pyD d) = true → Dp K H v (pyD d)
  | _, _, .non, _ => .non
  | _, _, .bl b, _ => .bl b
  | _, _, .int i, _ => .int i
  | _, _, .str x, _ => .str x
  | _, _, .ref a, h => by simp [pyD, PyData.canLay0] at h
  | _, _, .scr _, h => by simp [pyD, PyData.canLay0] at h
  | _, _, .tup h r, q => .tup h (Reps.dp r (by simpa [pyD, PyData.canLay0] using q))
theorem Reps.dp {K : Fr} {H : Hp} : ∀ {vs : List V} {ds : List D}, Reps K H vs ds → PyData.canLayAll0 (pyDs ds) = true → DpAll K H vs (pyDs ds)
  | _, _, .nil, _ => .nil
  | _, _, .cons r rs, q => by
    have q' : (PyData.canLay0 (pyD _) && PyData.canLayAll0 (pyDs _)) = true := q
    rw [Bool.and_eq_true] at q'
    exact .cons (Rep.dp r q'.1) (Reps.dp rs q'.2)
end
/-- with lists read off the heap -/
def pyM (M : Mp) (d : D) : PyData := match d with
  | .ref a => (match M a with
    | some (.lst xs) => .list (pyDs xs)
    | _ => .dict [])
  | d => pyD d
theorem pyM_dp {K : Fr} {T : Tb} {H : Hp} {M : Mp} {v : V} {d : D} (m : RepH K T H M) (r : Rep K H v d) (h : SeqAt.shaped (pyM M d) = true) : Dp K H v (pyM M d) := by
  have hc : PyData.canLay0 (pyM M d) = true := SeqAt.canLay_of_shaped h
  unfold pyM at hc ⊢
  split at hc
  · rw [r.ref_inv]
    split at hc
    · rename_i xs e
      obtain ⟨vs, h1, h2⟩ := m.lst e
      exact .lst (SqL.of h1) (h2.dp (by simpa [PyData.canLay0] using hc))
    · simp [PyData.canLay0] at hc
  · exact r.dp hc
def eqD (neg : Bool) : DR2 := fun x y M Q => SeqAt.shaped (pyM M x) = true ∧ SeqAt.shaped (pyM M y) = true ∧ Q (.bl (if neg then !PyData.eqv (pyM M x) (pyM M y) else PyData.eqv (pyM M x) (pyM M y))) M
section
variable {X : Cx} {T : Tb} {W : WX} {K : Fr}
theorem l_eq : Lift2 K T (rEqD K) (eqD false) := fun x y dx dy H M Q Qd rx ry m h q =>
  ⟨_, _, pyM_dp m rx h.1, pyM_dp m ry h.2.1, h.1, h.2.1, q _ _ H M (.refl H) (.bl _) m h.2.2⟩
theorem l_ne : Lift2 K T (rNeD K) (eqD true) := fun x y dx dy H M Q Qd rx ry m h q =>
  ⟨_, _, pyM_dp m rx h.1, pyM_dp m ry h.2.1, h.1, h.2.1, q _ _ H M (.refl H) (.bl _) m h.2.2⟩

/-! ## ints -/
def dI (C : Int → Int → Prop) (g : Int → Int → D) : DR2 := fun x y M Q => match x, y with
  | .int i, .int j => C i j ∧ Q (g i j) M
  | _, _ => False
theorem l_int {C : Int → Int → Prop} {g : Int → Int → Int} : Lift2 K T (rI C fun i j => .int (g i j)) (dI C fun i j => .int (g i j)) := fun x y dx dy H M Q Qd rx ry m h q => by
  unfold dI at h
  split at h
  · exact ⟨_, _, rx.int_inv, ry.int_inv, h.1, q _ _ H M (.refl H) (.int _) m h.2⟩
  · exact h.elim
def dI0 (g : Int → Int → D) : DR2 := fun x y M Q => match x, y with
  | .int i, .int j => Q (g i j) M
  | _, _ => False
theorem l_int0 {g : Int → Int → Int} : Lift2 K T (rI0 fun i j => .int (g i j)) (dI0 fun i j => .int (g i j)) := fun x y dx dy H M Q Qd rx ry m h q => by
  unfold dI0 at h
  split at h
  · exact ⟨_, _, rx.int_inv, ry.int_inv, q _ _ H M (.refl H) (.int _) m h⟩
  · exact h.elim
theorem l_bool0 {g : Int → Int → Bool} : Lift2 K T (rI0 fun i j => .bl (g i j)) (dI0 fun i j => .bl (g i j)) := fun x y dx dy H M Q Qd rx ry m h q => by
  unfold dI0 at h
  split at h
  · exact ⟨_, _, rx.int_inv, ry.int_inv, q _ _ H M (.refl H) (.bl _) m h⟩
  · exact h.elim
abbrev subD : DR2 := dI0 fun i j => .int (i - j)
abbrev ltD : DR2 := dI0 fun i j => .bl (decide (i < j))
abbrev leD : DR2 := dI0 fun i j => .bl (decide (i ≤ j))
abbrev gtD : DR2 := dI0 fun i j => .bl (decide (j < i))
abbrev geD : DR2 := dI0 fun i j => .bl (decide (j ≤ i))
abbrev fdivD : DR2 := dI CDiv fun i j => .int (i / j)
abbrev modD : DR2 := dI (fun _ j => 0 < j) fun i j => .int (i % j)
abbrev powD : DR2 := dI CPow fun i j => .int (i ^ j.toNat)
abbrev shlD : DR2 := dI CPow fun i j => .int (i * 2 ^ j.toNat)
abbrev shrD : DR2 := dI (fun _ j => 0 ≤ j) fun i j => .int (i / 2 ^ j.toNat)
abbrev andD : DR2 := dI0 fun i j => .int (Builtin.bitAnd i j)
abbrev orD : DR2 := dI0 fun i j => .int (Builtin.bitOr i j)
abbrev xorD : DR2 := dI0 fun i j => .int (Builtin.bitXor i j)
/-- +: ints, texts, tuples, lists -/
def addD : DR2 := fun x y M Q => match x, y with
  | .int i, .int j => Q (.int (i + j)) M
  | .str a, .str b => SzOk (a.length + b.length) ∧ Q (.str (a ++ b)) M
  | .tup xs, .tup ys => SzOk (xs.length + ys.length) ∧ Q (.tup (xs ++ ys)) M
  | .ref a, .ref b => (match M a, M b with
    | some (.lst xs), some (.lst ys) => SzOk (xs.length + ys.length) ∧ ∀ p, M p = none → Q (.ref p) (mup M p (.lst (xs ++ ys)))
    | _, _ => False)
  | _, _ => False
def rAddA (K : Fr) : R2 := fun x y H Q => rI0 (fun i j => .int (i + j)) x y H Q ∨ (∃ i j, x = .str i ∧ y = .str j ∧ i.length + j.length ≤ sizeLine ∧ Q (.str (i ++ j)) H) ∨ rCatA K x y H Q ∨ rCat x y H Q
theorem op_addA : OpR X (binaryOp .Add) (rAddA X.K) := op_add.or (op_add_str.or (op_catA.or op_cat))
theorem l_add : Lift2 K T (rAddA K) addD := fun x y dx dy H M Q Qd rx ry m h q => by
  unfold addD at h
  split at h
  · exact .inl ⟨_, _, rx.int_inv, ry.int_inv, q _ _ H M (.refl H) (.int _) m h⟩
  · exact .inr (.inl ⟨_, _, rx.str_inv, ry.str_inv, szOk h.1, q _ _ H M (.refl H) (.str _) m h.2⟩)
  · obtain ⟨a, vs, rfl, h1, h2⟩ := rx.tup_inv
    obtain ⟨b, ws, rfl, h3, h4⟩ := ry.tup_inv
    refine .inr (.inr (.inl ⟨a, b, vs, ws, rfl, rfl, h1, h3, by rw [h2.length, h4.length]; exact szOk h.1, fun e => ?_, fun _ e => ?_, fun _ _ p hp => ?_⟩))
    · subst e
      cases h2
      exact q _ _ H M (.refl H) (.tup h3 h4) m h.2
    · subst e
      cases h4
      exact q _ _ H M (.refl H) (.tup h1 (by rw [List.append_nil]; exact h2)) m h.2
    · exact q _ _ _ M (.new hp) (.tup (SqT.of upd_same) ((h2.append h4).keep (.new hp))) (m.more hp) h.2
  · rw [rx.ref_inv, ry.ref_inv]
    split at h
    · rename_i xs ys e1 e2
      obtain ⟨vs, h1, h2⟩ := m.lst e1
      obtain ⟨ws, h3, h4⟩ := m.lst e2
      refine .inr (.inr (.inr ⟨_, _, vs, ws, rfl, rfl, h1, h3, by rw [h2.length, h4.length]; exact szOk h.1, fun p hp => ?_⟩))
      exact q _ _ _ _ (.new hp) (.ref p) (m.newL hp (h2.append h4)) (h.2 p (m.fresh hp))
    · exact h.elim
  · exact h.elim
/-- *: ints (one of them below 2^64), a list some times, a tuple some times -/
def mulD : DR2 := fun x y M Q => match x, y with
  | .int i, .int j => CMul i j ∧ Q (.int (i * j)) M
  | .ref a, .int k => (match M a with
    | some (.lst xs) => -(2 ^ 63) ≤ k ∧ k < 2 ^ 63 ∧ SzOk (xs.length * k.toNat) ∧ ∀ p, M p = none → Q (.ref p) (mup M p (.lst (List.replicate k.toNat xs).flatten))
    | _ => False)
  | _, _ => False
def rMulA : R2 := fun x y H Q => rI CMul (fun i j => .int (i * j)) x y H Q ∨ rRep x y H Q
theorem op_mulA : OpR X (binaryOp .Mult) rMulA := op_mul.or op_rep
theorem Reps.rep {K : Fr} {H : Hp} {vs : List V} {ds : List D} (h : Reps K H vs ds) : ∀ k : Nat, Reps K H (List.replicate k vs).flatten (List.replicate k ds).flatten
  | 0 => .nil
  | k + 1 => by rw [List.replicate_succ, List.replicate_succ, List.flatten_cons, List.flatten_cons]; exact h.append (Reps.rep h k)
theorem l_mul : Lift2 K T rMulA mulD := fun x y dx dy H M Q Qd rx ry m h q => by
  unfold mulD at h
  split at h
  · exact .inl ⟨_, _, rx.int_inv, ry.int_inv, h.1, q _ _ H M (.refl H) (.int _) m h.2⟩
  · rw [rx.ref_inv]
    split at h
    · rename_i xs e
      obtain ⟨vs, h1, h2⟩ := m.lst e
      obtain ⟨h3, h4, h5, h6⟩ := h
      refine .inr ⟨_, _, vs, rfl, ry.int_inv, h1, h3, h4, by rw [h2.length]; exact szOk h5, fun p hp => ?_⟩
      exact q _ _ _ _ (.new hp) (.ref p) (m.newL hp (h2.rep _)) (h6 p (m.fresh hp))
    · exact h.elim
  · exact h.elim

/-! ## is, is not -/
def isNon : D → Bool
  | .non => true
  | _ => false
def isD (neg : Bool) : DR2 := fun x y M Q => match x, y with
  | .bl a, .bl b => Q (.bl (if neg then !decide (a = b) else decide (a = b))) M
  | x, .non => Q (.bl (if neg then !isNon x else isNon x)) M
  | _, _ => False
theorem Rep.isNon {K : Fr} {H : Hp} {v : V} {d : D} (r : Rep K H v d) : decide (v = .non) = DL.isNon d := by cases r <;> rfl
theorem l_is : Lift2 K T (fun x y H Q => (y = .non ∧ Q (.bl (decide (x = .non))) H) ∨ (∃ a b, x = .bl a ∧ y = .bl b ∧ Q (.bl (decide (a = b))) H)) (isD false) := fun x y dx dy H M Q Qd rx ry m h q => by
  unfold isD at h
  split at h
  · exact .inr ⟨_, _, rx.bl_inv, ry.bl_inv, q _ _ H M (.refl H) (.bl _) m h⟩
  · exact .inl ⟨ry.non_inv, q _ _ H M (.refl H) (.bl _) m (by rw [rx.isNon]; exact h)⟩
  · exact h.elim
theorem l_isnot : Lift2 K T (fun x y H Q => (y = .non ∧ Q (.bl (!decide (x = .non))) H) ∨ (∃ a b, x = .bl a ∧ y = .bl b ∧ Q (.bl (!decide (a = b))) H)) (isD true) := fun x y dx dy H M Q Qd rx ry m h q => by
  unfold isD at h
  split at h
  · exact .inr ⟨_, _, rx.bl_inv, ry.bl_inv, q _ _ H M (.refl H) (.bl _) m h⟩
  · exact .inl ⟨ry.non_inv, q _ _ H M (.refl H) (.bl _) m (by rw [rx.isNon]; exact h)⟩
  · exact h.elim

/-! ## the operators, by their names -/
variable {a b c e : Expr} {ta tb tc te : TDE} {pos : Pos}
theorem de_add (ha : DE X T W a ta) (hb : DE X T W b tb) : DE X T W (.BinOp a .Add b pos) (dBin addD ta tb) := de_op op_addA l_add ha hb
theorem de_sub (ha : DE X T W a ta) (hb : DE X T W b tb) : DE X T W (.BinOp a .Sub b pos) (dBin subD ta tb) := de_op op_sub l_int0 ha hb
theorem de_mul (ha : DE X T W a ta) (hb : DE X T W b tb) : DE X T W (.BinOp a .Mult b pos) (dBin mulD ta tb) := de_op op_mulA l_mul ha hb
theorem de_fdiv (ha : DE X T W a ta) (hb : DE X T W b tb) : DE X T W (.BinOp a .FloorDiv b pos) (dBin fdivD ta tb) := de_op op_fdiv l_int ha hb
theorem de_mod (ha : DE X T W a ta) (hb : DE X T W b tb) : DE X T W (.BinOp a .Mod b pos) (dBin modD ta tb) := de_op op_mod l_int ha hb
theorem de_pow (ha : DE X T W a ta) (hb : DE X T W b tb) : DE X T W (.BinOp a .Pow b pos) (dBin powD ta tb) := de_op op_pow l_int ha hb
theorem de_shl (ha : DE X T W a ta) (hb : DE X T W b tb) : DE X T W (.BinOp a .LShift b pos) (dBin shlD ta tb) := de_op op_shl l_int ha hb
theorem de_shr (ha : DE X T W a ta) (hb : DE X T W b tb) : DE X T W (.BinOp a .RShift b pos) (dBin shrD ta tb) := de_op op_shr l_int ha hb
theorem de_band (ha : DE X T W a ta) (hb : DE X T W b tb) : DE X T W (.BinOp a .BitAnd b pos) (dBin andD ta tb) := de_op op_and l_int0 ha hb
theorem de_bor (ha : DE X T W a ta) (hb : DE X T W b tb) : DE X T W (.BinOp a .BitOr b pos) (dBin orD ta tb) := de_op op_or l_int0 ha hb
theorem de_bxor (ha : DE X T W a ta) (hb : DE X T W b tb) : DE X T W (.BinOp a .BitXor b pos) (dBin xorD ta tb) := de_op op_xor l_int0 ha hb
def dU (g : Int → Int) : DR1 := fun x M Q => match x with | .int i => Q (.int (g i)) M | _ => False
theorem l_u {g : Int → Int} : Lift1 K T (rU fun i => .int (g i)) (dU g) := fun x dx H M Q Qd rx m h q => by
  unfold dU at h
  split at h
  · exact ⟨_, rx.int_inv, q _ _ H M (.refl H) (.int _) m h⟩
  · exact h.elim
theorem de_neg (ha : DE X T W a ta) : DE X T W (.UnaryOp .USub a pos) (dUn (dU fun i => -i) ta) := de_un un_neg l_u ha
theorem de_inv (ha : DE X T W a ta) : DE X T W (.UnaryOp .Invert a pos) (dUn (dU fun i => Builtin.bitNot i) ta) := de_un un_inv l_u ha

/-- comparison rules: the operator, its reading -/
structure CmpR (X : Cx) (T : Tb) (op : CmpOp) (rd : DR2) : Prop where
  ex : ∃ r, OpR X (compareOp op) r ∧ Lift2 X.K T r rd
theorem c_lt : CmpR X T .Lt ltD := ⟨_, op_lt, l_bool0⟩
theorem c_le : CmpR X T .LtE leD := ⟨_, op_le, l_bool0⟩
theorem c_gt : CmpR X T .Gt gtD := ⟨_, op_gt, l_bool0⟩
theorem c_ge : CmpR X T .GtE geD := ⟨_, op_ge, l_bool0⟩
theorem c_eq {k : Nat} (hr : Room k X.A) : CmpR X T .Eq (eqD false) := ⟨_, op_eqD hr.units, l_eq⟩
theorem c_ne {k : Nat} (hr : Room k X.A) : CmpR X T .NotEq (eqD true) := ⟨_, op_neD hr.units, l_ne⟩
theorem c_is : CmpR X T .Is (isD false) := ⟨_, op_isN.or op_is_bl, l_is⟩
theorem c_isnot : CmpR X T .IsNot (isD true) := ⟨_, op_notN.or op_isnot_bl, l_isnot⟩
theorem dv_cmp {op : CmpOp} {rd : DR2} (h : CmpR X T op rd) (ha : DE X T W a ta) (hb : DE X T W b tb) (hm : behindInMarks op b = false := by first | exact nomark _ | with_unfolding_all rfl) : DE X T W (.Compare a [op] [b] pos) (dBin rd ta tb) := let ⟨_, h1, h2⟩ := h.ex; de_cmp h1 h2 ha hb hm
theorem tt_cmp {op : CmpOp} {rd : DR2} (h : CmpR X T op rd) (ha : DE X T W a ta) (hb : DE X T W b tb) (hm : behindInMarks op b = false := by first | exact nomark _ | with_unfolding_all rfl) : DT X T W (.Compare a [op] [b] pos) (dB (dBin rd ta tb)) := let ⟨_, h1, h2⟩ := h.ex; dt_cmp h1 h2 ha hb hm
theorem dv_chain {op op' : CmpOp} {rd rd' : DR2} (h : CmpR X T op rd) (h' : CmpR X T op' rd') (ha : DE X T W a ta) (hb : DE X T W b tb) (hc : DE X T W c tc) (hm : lastMarks [op, op'] [b, c] = false := by with_unfolding_all rfl) :
    DE X T W (.Compare a [op, op'] [b, c] pos) (dChain rd rd' ta tb tc) := let ⟨_, h1, h2⟩ := h.ex; let ⟨_, h3, h4⟩ := h'.ex; de_chain h1 h3 h2 h4 ha hb hc hm
theorem tt_chain {op op' : CmpOp} {rd rd' : DR2} (h : CmpR X T op rd) (h' : CmpR X T op' rd') (ha : DE X T W a ta) (hb : DE X T W b tb) (hc : DE X T W c tc) (hm : lastMarks [op, op'] [b, c] = false := by with_unfolding_all rfl) :
    DT X T W (.Compare a [op, op'] [b, c] pos) (dB (dChain rd rd' ta tb tc)) := let ⟨_, h1, h2⟩ := h.ex; let ⟨_, h3, h4⟩ := h'.ex; dt_chain h1 h3 h2 h4 ha hb hc hm

/-! ## name op= e -/
structure AugR (X : Cx) (T : Tb) (op : Operator) (rd : DR2) : Prop where
  ex : ∃ r, OpR X (inplaceOp op) r ∧ Lift2 X.K T r rd
theorem a_sub : AugR X T .Sub subD := ⟨_, iop_sub, l_int0⟩
theorem a_fdiv : AugR X T .FloorDiv fdivD := ⟨_, iop_fdiv, l_int⟩
theorem a_mod : AugR X T .Mod modD := ⟨_, iop_mod, l_int⟩
theorem a_shl : AugR X T .LShift shlD := ⟨_, iop_shl, l_int⟩
theorem a_shr : AugR X T .RShift shrD := ⟨_, iop_shr, l_int⟩
theorem a_and : AugR X T .BitAnd andD := ⟨_, iop_and, l_int0⟩
theorem a_or : AugR X T .BitOr orD := ⟨_, iop_or, l_int0⟩
theorem a_xor : AugR X T .BitXor xorD := ⟨_, iop_xor, l_int0⟩
/-- += of ints, texts -/
def addI : DR2 := fun x y M Q => match x, y with
  | .int i, .int j => Q (.int (i + j)) M
  | .str a, .str b => SzOk (a.length + b.length) ∧ Q (.str (a ++ b)) M
  | _, _ => False
theorem l_addI : Lift2 K T (fun x y H Q => rI0 (fun i j => .int (i + j)) x y H Q ∨ (∃ i j, x = .str i ∧ y = .str j ∧ i.length + j.length ≤ sizeLine ∧ Q (.str (i ++ j)) H)) addI := fun x y dx dy H M Q Qd rx ry m h q => by
  unfold addI at h
  split at h
  · exact .inl ⟨_, _, rx.int_inv, ry.int_inv, q _ _ H M (.refl H) (.int _) m h⟩
  · exact .inr ⟨_, _, rx.str_inv, ry.str_inv, szOk h.1, q _ _ H M (.refl H) (.str _) m h.2⟩
  · exact h.elim
theorem a_add : AugR X T .Add addI := ⟨_, iop_add.or iop_add_str, l_addI⟩
@[simp] def mulI : DR2 := dI CMul fun i j => .int (i * j)
theorem a_mul : AugR X T .Mult mulI := ⟨_, iop_mul, l_int⟩
theorem dsr_aug (i : Nat) {x : Str} {op : Operator} {pos' : Pos} {rd : DR2} (hN : X.N.Nodup) (h : AugR X T op rd) (he : DE X T W e te) (hi : X.N[i]? = some x := by rfl) (hx : Loc X.env.scope x := by first | exact Or.inl rfl | exact Or.inr rfl)
    (hf : X.fn x = true ∨ X.env.scope.names.lookup x = some .local := by first | exact .inl rfl | exact .inr rfl) : DS X T W (.AugAssign (.Name x pos') op e pos) (dAug i te rd) := let ⟨_, h1, h2⟩ := h.ex; ds_aug i hN h1 h2 he hi hx hf
end
end DL

set_option Elab.async false
set_option linter.all false
set_option maxRecDepth 100000
set_option maxHeartbeats 2000000
namespace DL
open PySem PySem.Spec PyProof.Rows L2

/-! ## calls of own defs -/
abbrev DSp := List D → Mp → DQ → DX → Prop
def liftSp (K : Fr) (T : Tb) (n : Nat) (sp : DSp) : Sp := fun vs H Q E => vs.length = n ∧ ∃ ds M Qd Ed, Reps K H vs ds ∧ RepH K T H M ∧ sp ds M Qd Ed ∧ QW K T H Qd Q ∧
  ∀ C f d cls dx H' M', Keep H H' → RepX K H' cls dx C f d → RepH K T H' M' → Ed C f d M' → E cls dx H'
/-- the def that the module's name x stands for keeps the promise sp, by at most level k -/
def FnD (P : Program) (w : World) (K : Fr) (mg : Str → Option Value) (base : Heap) (T : Tb) (x : Str) (k n : Nat) (sp : DSp) : Prop :=
  ∃ f fd ps, ps.length = n ∧ FnOk P w K mg base (L2.CX P w) k f fd ps (liftSp K T n sp) ∧ mg x = some (.ref f) ∧ PySem.W.keepIn K (.ref f) = true ∧ Binds K fd ps []
section
variable {P : Program} {w : World} {K : Fr} {mg : Str → Option Value} {base : Heap} {T : Tb} {x : Str} {k n : Nat} {sp : DSp}
theorem FnD.mono {j : Nat} (F : FnD P w K mg base T x k n sp) (h : k ≤ j) : FnD P w K mg base T x j n sp := by
  obtain ⟨f, fd, ps, h1, h2, h3, h4, h5⟩ := F
  exact ⟨f, fd, ps, h1, h2.mono h, h3, h4, h5⟩
theorem FnD.imp {sp' : DSp} (F : FnD P w K mg base T x k n sp) (h : ∀ ds M Q E, sp' ds M Q E → sp ds M Q E) : FnD P w K mg base T x k n sp' := by
  obtain ⟨f, fd, ps, h1, h2, h3, h4, h5⟩ := F
  exact ⟨f, fd, ps, h1, h2.imp fun vs H Q E ⟨q0, ds, M, Qd, Ed, q1, q2, q3, q4⟩ => ⟨q0, ds, M, Qd, Ed, q1, q2, h _ _ _ _ q3, q4⟩, h3, h4, h5⟩
end
def noX : DX := fun _ _ _ _ => False
def noXS : DXS := fun _ _ _ _ _ => False
section
variable {X : Cx} {T : Tb} {W : WX} {a b c e : Expr} {es : List Expr} {ta tb tc te : TDE} {tt tu : TDT} {t tr : TDA} {pos p : Pos} {x : Str} {k n : Nat} {sp : DSp}
@[simp] def dCall (sp : DSp) (t : TDA) : TDE := fun τ M Q E => t τ M (fun ds M1 => sp ds M1 Q E) E
theorem call_lift (σ : L2.St) (H : Hp) (Q : VK) (h : liftE X.K T W (dCall sp t) σ H Q) (hn : ∀ ds M Q E, sp ds M Q E → ds.length = n) : liftA X.K T W t σ H (fun vs H1 => liftSp X.K T n sp vs H1 Q (WE W σ)) := by
  obtain ⟨τ, M, Qd, E, hs, hm, ht, hq, hx⟩ := h
  refine ⟨τ, M, _, E, hs, hm, ht, fun vs ds H1 M1 k1 r1 m1 h1 => ?_, hx⟩
  exact ⟨by rw [r1.length]; exact hn _ _ _ _ h1, ds, M1, Qd, E, r1, m1, h1, hq.keep k1, fun C f d cls dx H' M' k2 => hx C f d cls dx H' M' (k1.trans k2)⟩
/-- the number of arguments is told by the promise itself -/
def Arity (n : Nat) (sp : DSp) : Prop := ∀ ds M Q E, sp ds M Q E → ds.length = n
theorem de_call (G : FnD X.prog X.w X.K X.mg X.base T x k n sp) (ar : Arity n sp) (hr : Room k X.A) (tk : Takes X W) (hg : Gl X x) (ha : DA X T W (e :: es) t) (hdb : (x == ("__debug__" : Str)) = false := by decide)
    (he : starEach (e :: es) X.env = (false, eval e X.env) :: starEach es X.env := by rfl) (hpl : (backTo pos (starEach es X.env)).any (·.1) = false := by rfl) : DE X T W (.Call (.Name x p) (e :: es) [] pos) (dCall sp t) := by
  obtain ⟨f, fd, ps, rfl, h2, h3, h4, h5⟩ := G
  exact PE_imp (pe_callS h2 hr hg h3 h4 h5 (passAt tk) ha hdb he hpl) fun σ H Q h => call_lift σ H Q h ar

/-! ## builtins, by values -/
abbrev DRC := List D → Mp → DQ → Prop
def LiftC (K : Fr) (T : Tb) (r : List V → Hp → VK → Prop) (rd : DRC) : Prop := ∀ vs ds H M Q Qd, Reps K H vs ds → RepH K T H M → rd ds M Qd → QW K T H Qd Q → r vs H Q
@[simp] def dCB (rd : DRC) (t : TDA) : TDE := fun τ M Q E => t τ M (fun ds M1 => rd ds M1 Q) E
theorem cb_lift {r : List V → Hp → VK → Prop} {rd : DRC} (hr : LiftC X.K T r rd) (σ : L2.St) (H : Hp) (Q : VK) (h : liftE X.K T W (dCB rd t) σ H Q) : tCB r (liftA X.K T W t) σ H Q := by
  obtain ⟨τ, M, Qd, E, hs, hm, ht, hq, hx⟩ := h
  exact ⟨τ, M, _, E, hs, hm, ht, fun vs ds H1 M1 k1 r1 m1 h1 => hr vs ds H1 M1 Q Qd r1 m1 h1 (hq.keep k1), hx⟩
/-- a builtin function of the name id, its reading -/
structure BltR (X : Cx) (T : Tb) (id : String) (rd : DRC) : Prop where
  ex : ∃ r, CallR X (.builtin id) r ∧ LiftC X.K T r rd
structure TyR (X : Cx) (T : Tb) (id : String) (rd : DRC) : Prop where
  ex : ∃ r, CallR X (.type id) r ∧ LiftC X.K T r rd
theorem de_blt {id : String} {rd : DRC} (h : BltR X T id rd) (hg : Gl X x) (hm : X.mg x = none) (ha : DA X T W (e :: es) t) (hv : bootBuiltins x = some (.builtin id) := by decide +kernel) (hn : x ≠ "__name__" := by decide) (hdb : (x == ("__debug__" : Str)) = false := by decide)
    (he : starEach (e :: es) X.env = (false, eval e X.env) :: starEach es X.env := by rfl) (hpl : (backTo pos (starEach es X.env)).any (·.1) = false := by rfl) : DE X T W (.Call (.Name x p) (e :: es) [] pos) (dCB rd t) :=
  let ⟨_, h1, h2⟩ := h.ex; PE_imp (pe_callB h1 hg hm hv ha hn hdb he hpl) (cb_lift h2)
theorem de_ty {id : String} {rd : DRC} (h : TyR X T id rd) (hg : Gl X x) (hm : X.mg x = none) (ha : DA X T W (e :: es) t) (hv : bootBuiltins x = some (.type id) := by decide +kernel) (hn : x ≠ "__name__" := by decide) (hdb : (x == ("__debug__" : Str)) = false := by decide)
    (he : starEach (e :: es) X.env = (false, eval e X.env) :: starEach es X.env := by rfl) (hpl : (backTo pos (starEach es X.env)).any (·.1) = false := by rfl) : DE X T W (.Call (.Name x p) (e :: es) [] pos) (dCB rd t) :=
  let ⟨_, h1, h2⟩ := h.ex; PE_imp (pe_callTy h1 hg hm hv ha hn hdb he hpl) (cb_lift h2)
theorem Reps.one_inv {K : Fr} {H : Hp} {vs : List V} {d : D} (r : Reps K H vs [d]) : ∃ v, vs = [v] ∧ Rep K H v d := by
  cases r with
  | cons r rs => cases rs; exact ⟨_, rfl, r⟩
theorem Reps.two_inv {K : Fr} {H : Hp} {vs : List V} {d d' : D} (r : Reps K H vs [d, d']) : ∃ v v', vs = [v, v'] ∧ Rep K H v d ∧ Rep K H v' d' := by
  cases r with
  | cons r rs =>
    cases rs with
    | cons r' rs => cases rs; exact ⟨_, _, rfl, r, r'⟩
variable {K : Fr}
/-- a list, a tuple: its items -/
def seqD (d : D) (M : Mp) : Option (List D) := match d with
  | .tup xs => some xs
  | .ref a => (match M a with
    | some (.lst xs) => some xs
    | _ => none)
  | _ => none
theorem seq_lift {H : Hp} {M : Mp} {v : V} {d : D} {xs : List D} (r : Rep K H v d) (m : RepH K T H M) (h : seqD d M = some xs) : ∃ a vs, v = .ref a ∧ Reps K H vs xs ∧ (SqL K H a vs ∨ SqT K H a vs) := by
  unfold seqD at h
  split at h
  · cases h
    obtain ⟨a, vs, rfl, h1, h2⟩ := r.tup_inv
    exact ⟨a, vs, rfl, h2, .inr h1⟩
  · split at h
    · cases h
      rename_i e
      obtain ⟨vs, h1, h2⟩ := m.lst e
      exact ⟨_, vs, r.ref_inv, h2, .inl (SqL.of h1)⟩
    · cases h
  · cases h
def lenD : DRC := fun ds M Q => match ds with
  | [.str x] => SzOk x.length ∧ Q (.int x.length) M
  | [.ref a] => (match M a with
    | some (.lst xs) => Q (.int xs.length) M
    | some (.dK kvs) => Q (.int kvs.length) M
    | _ => False)
  | [.tup xs] => Q (.int xs.length) M
  | _ => False
theorem call_lenK : CallR X (.builtin "len") (fun xs H Q => ∃ a kvs, xs = [.ref a] ∧ H a = some (.dK kvs) ∧ Q (.int kvs.length) H) := by
  intro pins s σ H xs us Q I r h
  obtain ⟨a, kvs, rfl, e, q⟩ := h
  obtain ⟨u, rfl, r1⟩ := Vals.one r
  obtain rfl : u = Value.ref a := r1
  exact d_len I (.inl e) fun t s' I' => ⟨.int kvs.length, H, I', ⟨_, rfl⟩, q⟩
theorem b_len : BltR X T "len" lenD := ⟨_, call_len_str.or (call_len_seq.or call_lenK), fun vs ds H M Q Qd r0 m h q => by
  unfold lenD at h
  split at h
  · obtain ⟨v, rfl, r⟩ := r0.one_inv
    exact .inl ⟨_, by rw [r.str_inv], szOk h.1, q _ _ H M (.refl H) (.int _) m h.2⟩
  · obtain ⟨v, rfl, r⟩ := r0.one_inv
    rw [r.ref_inv]
    split at h
    · rename_i xs e
      obtain ⟨vs, h1, h2⟩ := m.lst e
      exact .inr (.inl ⟨_, vs, rfl, .inl (SqL.of h1), q _ _ H M (.refl H) (.int _) m (by rw [h2.length]; exact h)⟩)
    · rename_i kvs e
      obtain ⟨ws, h1, h2⟩ := m.dk e
      exact .inr (.inr ⟨_, ws, rfl, h1, q _ _ H M (.refl H) (.int _) m (by rw [Paired.length h2]; exact h)⟩)
    · exact h.elim
  · obtain ⟨v, rfl, r⟩ := r0.one_inv
    obtain ⟨a, vs, rfl, h1, h2⟩ := r.tup_inv
    exact .inr (.inl ⟨_, vs, rfl, .inr h1, q _ _ H M (.refl H) (.int _) m (by rw [h2.length]; exact h)⟩)
  · exact h.elim⟩
def tupleD : DRC := fun ds M Q => match ds with
  | [d] => (match seqD d M with
    | some xs => Q (.tup xs) M
    | none => False)
  | _ => False
theorem t_tuple : TyR X T "tuple" tupleD := ⟨_, call_tuple_of, fun vs ds H M Q Qd r0 m h q => by
  unfold tupleD at h
  split at h
  · obtain ⟨v, rfl, r⟩ := r0.one_inv
    split at h
    · rename_i xs e
      obtain ⟨a, ws, rfl, h1, h2⟩ := seq_lift r m e
      rcases h2 with h2 | h2
      · exact ⟨a, ws, rfl, .inl ⟨h2, fun l hl => q _ _ _ M (.new hl) (.tup (SqT.of upd_same) (h1.keep (.new hl))) (m.more hl) h⟩⟩
      · exact ⟨a, ws, rfl, .inr ⟨h2, q _ _ H M (.refl H) (.tup h2 h1) m h⟩⟩
    · exact h.elim
  · exact h.elim⟩
def listD : DRC := fun ds M Q => match ds with
  | [.scr ns] => ∀ p, M p = none → Q (.ref p) (mup M p (.lst (ns.map D.int)))
  | [d] => (match seqD d M with
    | some xs => ∀ p, M p = none → Q (.ref p) (mup M p (.lst xs))
    | none => False)
  | _ => False
theorem Rep.scr_inv {H : Hp} {v : V} {ns : List Int} (r : Rep K H v (.scr ns)) : ∃ a, v = .ref a ∧ SqL K H a (ns.map V.int) := by
  cases r with
  | scr h => exact ⟨_, rfl, h.elim (fun ⟨o, e⟩ => .inl (.inr ⟨o, e⟩)) fun h => h H⟩
theorem t_list : TyR X T "list" listD := ⟨_, call_list_of, fun vs ds H M Q Qd r0 m h q => by
  unfold listD at h
  split at h
  · obtain ⟨v, rfl, r⟩ := r0.one_inv
    obtain ⟨a, rfl, h1⟩ := r.scr_inv
    exact ⟨a, _, rfl, .inl h1, fun l hl => q _ _ _ _ (.new hl) (.ref l) (m.newL hl (Reps.of_ints _)) (h l (m.fresh hl))⟩
  · obtain ⟨v, rfl, r⟩ := r0.one_inv
    split at h
    · rename_i xs e
      obtain ⟨a, ws, rfl, h1, h2⟩ := seq_lift r m e
      exact ⟨a, ws, rfl, h2, fun l hl => q _ _ _ _ (.new hl) (.ref l) (m.newL hl h1) (h l (m.fresh hl))⟩
    · exact h.elim
  · exact h.elim⟩
def intD : DRC := fun ds M Q => match ds with
  | [.int i] => Q (.int i) M
  | [.bl b] => Q (.int (if b then 1 else 0)) M
  | _ => False
theorem t_int : TyR X T "int" intD := ⟨_, call_int1, fun vs ds H M Q Qd r0 m h q => by
  unfold intD at h
  split at h
  · obtain ⟨v, rfl, r⟩ := r0.one_inv
    exact .inl ⟨_, by rw [r.int_inv], q _ _ H M (.refl H) (.int _) m h⟩
  · obtain ⟨v, rfl, r⟩ := r0.one_inv
    exact .inr ⟨_, by rw [r.bl_inv], q _ _ H M (.refl H) (.int _) m h⟩
  · exact h.elim⟩
def absD : DRC := fun ds M Q => match ds with
  | [.int i] => Q (.int (if i < 0 then -i else i)) M
  | _ => False
theorem b_abs : BltR X T "abs" absD := ⟨_, call_abs, fun vs ds H M Q Qd r0 m h q => by
  unfold absD at h
  split at h
  · obtain ⟨v, rfl, r⟩ := r0.one_inv
    exact ⟨_, by rw [r.int_inv], q _ _ H M (.refl H) (.int _) m h⟩
  · exact h.elim⟩
/-- ints out of data -/
def intsD : List D → Option (List Int)
  | [] => some []
  | .int i :: ds => (intsD ds).map (i :: ·)
  | _ => none
theorem intsD_map : ∀ ns : List Int, intsD (ns.map D.int) = some ns
  | [] => rfl
  | n :: ns => by rw [List.map_cons, intsD, intsD_map ns]; rfl
theorem intsD_some : ∀ {ds : List D} {ns : List Int}, intsD ds = some ns → ds = ns.map D.int
  | [], ns, h => by cases h; rfl
  | .int i :: ds, ns, h => by
    unfold intsD at h
    cases e : intsD ds with
    | none => rw [e] at h; cases h
    | some ms => rw [e] at h; cases h; rw [intsD_some e]; rfl
  | .non :: _, _, h => by cases h
  | .bl _ :: _, _, h => by cases h
  | .str _ :: _, _, h => by cases h
  | .tup _ :: _, _, h => by cases h
  | .ref _ :: _, _, h => by cases h
  | .scr _ :: _, _, h => by cases h
def listI (a : Addr) (M : Mp) : Option (List Int) := match M a with
  | some (.lst xs) => intsD xs
  | _ => none
theorem listI_lift {H : Hp} {M : Mp} {a : Addr} {ns : List Int} (m : RepH K T H M) (h : listI a M = some ns) : SqL K H a (ns.map V.int) := by
  unfold listI at h
  split at h
  · rename_i xs e
    obtain ⟨vs, h1, h2⟩ := m.lst e
    rw [intsD_some h] at h2
    rw [h2.ints] at h1
    exact SqL.of h1
  · cases h
def maxD : DRC := fun ds M Q => match ds with
  | [.int i, .int j] => Q (.int (if j > i then j else i)) M
  | [.ref a] => (match listI a M with
    | some ns => 0 < ns.length ∧ ∀ m, m ∈ ns → (∀ y, y ∈ ns → y ≤ m) → Q (.int m) M
    | none => False)
  | _ => False
def minD : DRC := fun ds M Q => match ds with
  | [.int i, .int j] => Q (.int (if j < i then j else i)) M
  | [.ref a] => (match listI a M with
    | some ns => 0 < ns.length ∧ ∀ m, m ∈ ns → (∀ y, y ∈ ns → m ≤ y) → Q (.int m) M
    | none => False)
  | _ => False
theorem b_max (hc : X.calm = true) : BltR X T "max" maxD := ⟨_, (call_max2 hc).or (cr_max hc), fun vs ds H M Q Qd r0 m h q => by
  unfold maxD at h
  split at h
  · obtain ⟨v, v', rfl, r, r'⟩ := r0.two_inv
    exact .inl ⟨_, _, by rw [r.int_inv, r'.int_inv], q _ _ H M (.refl H) (.int _) m h⟩
  · obtain ⟨v, rfl, r⟩ := r0.one_inv
    split at h
    · rename_i ns e
      exact .inr ⟨_, ns, by rw [r.ref_inv], listI_lift m e, h.1, fun z hz hl => q _ _ H M (.refl H) (.int _) m (h.2 z hz hl)⟩
    · exact h.elim
  · exact h.elim⟩
theorem b_min (hc : X.calm = true) : BltR X T "min" minD := ⟨_, (call_min2 hc).or (cr_min hc), fun vs ds H M Q Qd r0 m h q => by
  unfold minD at h
  split at h
  · obtain ⟨v, v', rfl, r, r'⟩ := r0.two_inv
    exact .inl ⟨_, _, by rw [r.int_inv, r'.int_inv], q _ _ H M (.refl H) (.int _) m h⟩
  · obtain ⟨v, rfl, r⟩ := r0.one_inv
    split at h
    · rename_i ns e
      exact .inr ⟨_, ns, by rw [r.ref_inv], listI_lift m e, h.1, fun z hz hl => q _ _ H M (.refl H) (.int _) m (h.2 z hz hl)⟩
    · exact h.elim
  · exact h.elim⟩
def sumD : DRC := fun ds M Q => match ds with
  | [.ref a] => (match listI a M with
    | some ns => Q (.int ns.sum) M
    | none => False)
  | _ => False
theorem b_sum (hc : X.calm = true) : BltR X T "sum" sumD := ⟨_, cr_sum hc, fun vs ds H M Q Qd r0 m h q => by
  unfold sumD at h
  split at h
  · obtain ⟨v, rfl, r⟩ := r0.one_inv
    split at h
    · rename_i ns e
      exact ⟨_, ns, by rw [r.ref_inv], listI_lift m e, q _ _ H M (.refl H) (.int _) m h⟩
    · exact h.elim
  · exact h.elim⟩
/-- truth values out of data -/
def blsD : List D → Option (List Bool)
  | [] => some []
  | .bl b :: ds => (blsD ds).map (b :: ·)
  | _ => none
theorem blsD_map : ∀ bs : List Bool, blsD (bs.map D.bl) = some bs
  | [] => rfl
  | n :: ns => by rw [List.map_cons, blsD, blsD_map ns]; rfl
theorem blsD_some : ∀ {ds : List D} {ns : List Bool}, blsD ds = some ns → ds = ns.map D.bl
  | [], ns, h => by cases h; rfl
  | .bl i :: ds, ns, h => by
    unfold blsD at h
    cases e : blsD ds with
    | none => rw [e] at h; cases h
    | some ms => rw [e] at h; cases h; rw [blsD_some e]; rfl
  | .non :: _, _, h => by cases h
  | .int _ :: _, _, h => by cases h
  | .str _ :: _, _, h => by cases h
  | .tup _ :: _, _, h => by cases h
  | .ref _ :: _, _, h => by cases h
  | .scr _ :: _, _, h => by cases h
theorem Reps.bls {H : Hp} : ∀ {vs : List V} {ns : List Bool}, Reps K H vs (ns.map D.bl) → vs = ns.map V.bl
  | _, [], .nil => rfl
  | _, n :: ns, .cons h r => by cases h; rw [Reps.bls r]; rfl
def listB (a : Addr) (M : Mp) : Option (List Bool) := match M a with
  | some (.lst xs) => blsD xs
  | _ => none
theorem listB_lift {H : Hp} {M : Mp} {a : Addr} {ns : List Bool} (m : RepH K T H M) (h : listB a M = some ns) : SqL K H a (ns.map V.bl) := by
  unfold listB at h
  split at h
  · rename_i xs e
    obtain ⟨vs, h1, h2⟩ := m.lst e
    rw [blsD_some h] at h2
    rw [h2.bls] at h1
    exact SqL.of h1
  · cases h
def allD : DRC := fun ds M Q => match ds with
  | [.ref a] => (match listB a M with
    | some bs => Q (.bl (bs.all id)) M
    | none => False)
  | _ => False
def anyD : DRC := fun ds M Q => match ds with
  | [.ref a] => (match listB a M with
    | some bs => Q (.bl (bs.any id)) M
    | none => False)
  | _ => False
theorem b_all (hc : X.calm = true) : BltR X T "all" allD := ⟨_, cr_all hc, fun vs ds H M Q Qd r0 m h q => by
  unfold allD at h
  split at h
  · obtain ⟨v, rfl, r⟩ := r0.one_inv
    split at h
    · rename_i ns e
      exact ⟨_, ns, by rw [r.ref_inv], listB_lift m e, q _ _ H M (.refl H) (.bl _) m h⟩
    · exact h.elim
  · exact h.elim⟩
theorem b_any (hc : X.calm = true) : BltR X T "any" anyD := ⟨_, cr_any hc, fun vs ds H M Q Qd r0 m h q => by
  unfold anyD at h
  split at h
  · obtain ⟨v, rfl, r⟩ := r0.one_inv
    split at h
    · rename_i ns e
      exact ⟨_, ns, by rw [r.ref_inv], listB_lift m e, q _ _ H M (.refl H) (.bl _) m h⟩
    · exact h.elim
  · exact h.elim⟩
/-- sorted of a list of ints -/
def sortedD : DRC := fun ds M Q => match ds with
  | [.ref a] => (match listI a M with
    | some ns => ∀ (ns' : List Int) (p : Addr), ns'.Perm ns → ns'.Pairwise (· ≤ ·) → M p = none → Q (.ref p) (mup M p (.lst (ns'.map D.int)))
    | none => False)
  | _ => False
theorem b_sorted : BltR X T "sorted" sortedD := ⟨_, cr_sortedI, fun vs ds H M Q Qd r0 m h q => by
  unfold sortedD at h
  split at h
  · obtain ⟨v, rfl, r⟩ := r0.one_inv
    split at h
    · rename_i ns e
      exact ⟨_, ns, by rw [r.ref_inv], listI_lift m e, fun ns' p h1 h2 hp => q _ _ _ _ (.new hp) (.ref p) (m.newL hp (Reps.of_ints _)) (h ns' p h1 h2 (m.fresh hp))⟩
    · exact h.elim
  · exact h.elim⟩

/-! ## subscripts, slices -/
def ixD : DR2 := fun x y M Q => match x, y with
  | .tup xs, .int i => (match atI xs i with
    | some d => Q d M
    | none => False)
  | .ref a, .int i => (match M a with
    | some (.lst xs) => (match atI xs i with
      | some d => Q d M
      | none => False)
    | _ => False)
  | .str z, .int i => SzOk z.length ∧ (match atI z.cps.toList i with
    | some c => Q (.str ⟨#[c]⟩) M
    | none => False)
  | _, _ => False
theorem Reps.at {H : Hp} {vs : List V} {ds : List D} {i : Int} {d : D} (r : Reps K H vs ds) (h : atI ds i = some d) : ∃ v, atI vs i = some v ∧ Rep K H v d := by
  unfold atI at h ⊢
  rw [r.length]
  cases e : ixN ds.length i with
  | none => rw [e] at h; cases h
  | some j =>
    rw [e] at h
    exact r.get h
theorem l_ix : Lift2 K T (rIx K) ixD := fun x y dx dy H M Q Qd rx ry m h q => by
  unfold ixD at h
  split at h
  · split at h
    · rename_i d e
      obtain ⟨a, vs, rfl, h1, h2⟩ := rx.tup_inv
      obtain ⟨v, h3, h4⟩ := h2.at e
      exact .inr (.inl ⟨a, vs, _, v, rfl, ry.int_inv, h1, h3, q _ _ H M (.refl H) h4 m h⟩)
    · exact h.elim
  · split at h
    · rename_i xs e
      split at h
      · rename_i d e2
        obtain ⟨vs, h1, h2⟩ := m.lst e
        obtain ⟨v, h3, h4⟩ := h2.at e2
        exact .inl ⟨_, vs, _, v, rx.ref_inv, ry.int_inv, SqL.of h1, h3, q _ _ H M (.refl H) h4 m h⟩
      · exact h.elim
    · exact h.elim
  · obtain ⟨hz, h⟩ := h
    split at h
    · rename_i c e
      exact .inr (.inr ⟨_, _, c, rx.str_inv, ry.int_inv, szOk hz, e, q _ _ H M (.refl H) (.str _) m h⟩)
    · exact h.elim
  · exact h.elim
theorem de_ix (ha : DE X T W a ta) (hb : DE X T W b tb) (hs : PlainIx b := by exact fun _ _ => rfl) : DE X T W (.Subscript a b pos) (dBin ixD ta tb) := PE_imp (pe_ix ix_seq ha hb hs) (bin_lift l_ix)
/-- parts of a slice -/
abbrev TDO := DSt → Mp → (Option Int → Mp → Prop) → DX → Prop
def liftO (K : Fr) (T : Tb) (W : WX) (t : TDO) : TO := fun σ H Q => ∃ τ M Qd E, RepS K H σ τ ∧ RepH K T H M ∧ t τ M Qd E ∧ (∀ b H' M', Keep H H' → RepH K T H' M' → Qd b M' → Q b H') ∧ XW K T W σ H E
def DO (X : Cx) (T : Tb) (W : WX) (e : Option Expr) (t : TDO) : Prop := PO X e (liftO X.K T W t)
theorem PO_imp {e : Option Expr} {t t' : TO} (h : PO X e t) (i : ∀ σ H Q, t' σ H Q → t σ H Q) : PO X e t' := ⟨fun pins s σ H Q I hq => h.run pins s σ H Q I (i σ H Q hq)⟩
@[simp] def dNoPart : TDO := fun _ M Q _ => Q none M
@[simp] def dPart (t : TDE) : TDO := fun τ M Q E => t τ M (fun d M1 => match d with | .int i => Q (some i) M1 | _ => False) E
theorem do_none : DO X T W none dNoPart := PO_imp po_none fun σ H Q ⟨τ, M, Qd, E, hs, hm, ht, hq, hx⟩ => hq _ _ _ (.refl H) hm ht
theorem do_some (h : DE X T W e te) : DO X T W (some e) (dPart te) := PO_imp (po_some h) fun σ H Q ⟨τ, M, Qd, E, hs, hm, ht, hq, hx⟩ => ⟨τ, M, _, E, hs, hm, ht, fun v d H1 M1 k1 r1 m1 h1 => by
  try dsimp only at h1
  split at h1
  · exact ⟨_, r1.int_inv, hq _ _ _ k1 m1 h1⟩
  · exact h1.elim, hx⟩
def gcut {α : Type} (xs : List α) (lo hi : Option Int) : List α := (xs.drop (HT.sIx xs.length 0 lo)).take (HT.sIx xs.length xs.length hi - HT.sIx xs.length 0 lo)
theorem gcut_V (xs : List V) (lo hi : Option Int) : cutV xs lo hi = gcut xs lo hi := rfl
theorem Reps.cut {H : Hp} {vs : List V} {ds : List D} (r : Reps K H vs ds) (lo hi : Option Int) : Reps K H (gcut vs lo hi) (gcut ds lo hi) := by
  unfold gcut
  rw [r.length]
  exact (r.drop _).take _
def sliceD (d : D) (lo hi : Option Int) (M : Mp) (Q : DQ) : Prop := match d with
  | .tup xs => Q (.tup (gcut xs lo hi)) M
  | .ref a => (match M a with
    | some (.lst xs) => ∀ p, M p = none → Q (.ref p) (mup M p (.lst (gcut xs lo hi)))
    | _ => False)
  | _ => False
@[simp] def dSlice (te : TDE) (tl th : TDO) : TDE := fun τ M Q E => te τ M (fun d M1 => tl τ M1 (fun l M2 => th τ M2 (fun u M3 => sliceD d l u M3 Q) E) E) E
theorem cut_whole {α : Type} {xs : List α} {lo hi : Option Int} (h : HT.sIx xs.length 0 lo = 0 ∧ HT.sIx xs.length xs.length hi = xs.length) : gcut xs lo hi = xs := by
  unfold gcut; rw [h.1, h.2]; simp
theorem de_slice {lo hi : Option Expr} {tl th : TDO} {p2 : Pos} (he : DE X T W e te) (hl : DO X T W lo tl) (hu : DO X T W hi th) : DE X T W (.Subscript e (.Slice lo hi none p2) pos) (dSlice te tl th) :=
  PE_imp (pe_slice (sl_tupA.or sl_list) he hl hu) fun σ H Q ⟨τ, M, Qd, E, hs, hm, ht, hq, hx⟩ => by
    refine ⟨τ, M, _, E, hs, hm, ht, fun v d H1 M1 k1 r1 m1 h1 => ⟨τ, M1, _, E, hs.keep k1, m1, h1, fun l H2 M2 k2 m2 h2 => ⟨τ, M2, _, E, (hs.keep k1).keep k2, m2, h2, fun u H3 M3 k3 m3 h3 => ?_, (hx.keep k1).keep k2⟩, hx.keep k1⟩, hx⟩
    have k03 := (k1.trans k2).trans k3
    have r3 := r1.keep (k2.trans k3)
    unfold sliceD at h3
    split at h3
    · rename_i xs
      obtain ⟨a, vs, rfl, q1, q2⟩ := r3.tup_inv
      refine .inl ⟨a, vs, rfl, q1, fun hw => ?_, fun _ p hp => ?_⟩
      · rw [q2.length] at hw
        rw [cut_whole hw] at h3
        exact hq _ _ _ M3 k03 (.tup q1 q2) m3 h3
      · exact hq _ _ _ M3 (k03.trans (.new hp)) (.tup (SqT.of upd_same) ((q2.cut _ _).keep (.new hp))) (m3.more hp) h3
    · rw [r3.ref_inv]
      split at h3
      · rename_i xs e
        obtain ⟨vs, q1, q2⟩ := m3.lst e
        exact .inr ⟨_, vs, rfl, SqL.of q1, fun p hp => hq _ _ _ _ (k03.trans (.new hp)) (.ref p) (m3.newL hp (q2.cut _ _)) (h3 p (m3.fresh hp))⟩
      · exact h3.elim
    · exact h3.elim
end
end DL

set_option Elab.async false
set_option linter.all false
set_option maxRecDepth 100000
set_option maxHeartbeats 2000000
namespace DL
open PySem PySem.Spec PyProof.Rows L2

/-! ## dicts whose keys are ints and texts -/
def dkey : D → Option Key
  | .int i => some (.inl i)
  | .str x => some (.inr x)
  | _ => none
theorem dkey_lift {K : Fr} {H : Hp} {v : V} {d : D} {k : Key} (r : Rep K H v d) (h : dkey d = some k) : v = kV k := by
  cases r <;> first | (cases h; rfl) | (cases h)
section
variable {κ β γ : Type} [DecidableEq κ]
def kget (kvs : List (κ × β)) (k : κ) : Option β := (kvs.find? fun kv => decide (kv.1 = k)).map (·.2)
def kput (kvs : List (κ × β)) (k : κ) (v : β) : List (κ × β) :=
  if (kvs.any fun kv => decide (kv.1 = k)) = true then kvs.map (fun kv => if kv.1 = k then (kv.1, v) else kv) else kvs ++ [(k, v)]
def kdrop (kvs : List (κ × β)) (k : κ) : List (κ × β) := kvs.filter fun kv => decide (kv.1 ≠ k)
end
section
variable {κ : Type} [DecidableEq κ] {K : Fr} {H : Hp}
theorem RepKV.get : ∀ {kvs : List (κ × V)} {ms : List (κ × D)} (r : RepKV K H kvs ms) (k : κ), (∃ v d, valV kvs k = some v ∧ kget ms k = some d ∧ Rep K H v d) ∨ (valV kvs k = none ∧ kget ms k = none)
  | _, _, .nil, _ => .inr ⟨rfl, rfl⟩
  | _, _, .cons (a := p) (b := q) r rs, k => by
    by_cases e : p.1 = k
    · exact .inl ⟨p.2, q.2, by simp [valV, List.find?_cons, e], by simp [kget, List.find?_cons, ← r.1, e], r.2⟩
    · have := RepKV.get (kvs := _) (ms := _) rs k
      simpa [valV, kget, List.find?_cons, e, ← r.1] using this
theorem RepKV.anyK : ∀ {kvs : List (κ × V)} {ms : List (κ × D)} (r : RepKV K H kvs ms) (k : κ), (kvs.any fun kv => decide (kv.1 = k)) = (ms.any fun kv => decide (kv.1 = k))
  | _, _, .nil, _ => rfl
  | _, _, .cons r rs, k => by
    rw [List.any_cons, List.any_cons, RepKV.anyK rs k, r.1]
theorem RepKV.mapK {v : V} {d : D} (rv : Rep K H v d) (k : κ) : ∀ {kvs : List (κ × V)} {ms : List (κ × D)} (r : RepKV K H kvs ms), RepKV K H (kvs.map fun kv => if kv.1 = k then (kv.1, v) else kv) (ms.map fun kv => if kv.1 = k then (kv.1, d) else kv)
  | _, _, .nil => .nil
  | _, _, .cons (a := p) (b := q) r rs => by
    rw [List.map_cons, List.map_cons]
    refine .cons ?_ (RepKV.mapK rv k rs)
    rw [← r.1]
    split
    · exact ⟨by simp, rv⟩
    · exact r
theorem RepKV.app : ∀ {kvs kvs' : List (κ × V)} {ms ms' : List (κ × D)}, RepKV K H kvs ms → RepKV K H kvs' ms' → RepKV K H (kvs ++ kvs') (ms ++ ms')
  | _, _, _, _, .nil, s => s
  | _, _, _, _, .cons r rs, s => .cons r (RepKV.app rs s)
theorem RepKV.put {kvs : List (κ × V)} {ms : List (κ × D)} (r : RepKV K H kvs ms) {v : V} {d : D} (rv : Rep K H v d) (k : κ) : RepKV K H (putK kvs k v) (kput ms k d) := by
  unfold putK kput
  rw [r.anyK k]
  split
  · exact r.mapK rv k
  · exact r.app (.cons ⟨rfl, rv⟩ .nil)
theorem RepKV.drop (k : κ) : ∀ {kvs : List (κ × V)} {ms : List (κ × D)} (r : RepKV K H kvs ms), RepKV K H (dropK kvs k) (kdrop ms k)
  | _, _, .nil => .nil
  | _, _, .cons (a := p) (b := q) r rs => by
    have ih := RepKV.drop k rs
    unfold dropK kdrop at ih ⊢
    rw [List.filter_cons, List.filter_cons, r.1]
    split
    · exact .cons r ih
    · exact ih
theorem RepKV.len {kvs : List (κ × V)} {ms : List (κ × D)} (r : RepKV K H kvs ms) : kvs.length = ms.length := Paired.length r
end
section
variable {X : Cx} {T : Tb} {W : WX} {a b c e f o : Expr} {es : List Expr} {ta tb tc te to : TDE} {tt tu : TDT} {t tr : TDA} {pos p apos cpos : Pos} {x : Str} {k n : Nat} {K : Fr}

theorem RepH.setK {H : Hp} {M : Mp} (r : RepH K T H M) {p : Addr} {vs : List (Key × V)} {ds : List (Key × D)} {o : MO} (h : M p = some o) (q : RepKV K H vs ds) (hd : ∀ ms, o ≠ .dL ms := by intro _ z; cases z) : RepH K T (upd H p (.dK vs)) (mup M p (.dK ds)) ∧ Keep H (upd H p (.dK vs)) := by
  obtain ⟨u, hu, ru⟩ := r.obj p o h
  have k : Keep H (upd H p (.dK vs)) := .write hu (ru.mut hd).1 (ru.mut hd).2.1
  exact r.write (u' := .dK vs) (o' := .dK ds) h (RepKV.keep k q) hd
/-- {} -/
@[simp] def dDictNew : TDE := fun _ M Q _ => ∀ p, M p = none → Q (.ref p) (mup M p (.dK []))
theorem de_dict0 : DE X T W (.Dict [] [] pos) dDictNew := PE_imp pe_dnewK fun σ H Q ⟨τ, M, Qd, E, hs, hm, ht, hq, hx⟩ p hp =>
  hq _ _ _ _ (.new hp) (.ref p) (hm.new (u := .dK []) (o := .dK []) hp .nil) (ht p (hm.fresh hp))
/-- a[b] of a dict -/
def ixK : DR2 := fun x y M Q => match x with
  | .ref a => (match M a, dkey y with
    | some (.dK ms), some k => (match kget ms k with
      | some d => Q d M
      | none => False)
    | some (.dL ms), some k => (match kget ms k with
      | some d => Q d M
      | none => False)
    | _, _ => False)
  | _ => False
theorem ix_dictR (hu : X.A.units + 1 < cLine) : IxR X (fun x y H Q => ∃ a v, x = .ref a ∧ DGet H a y (some v) ∧ Q v H) := by
  intro value slice pins s σ H x y v u Q I rx ry h hs
  obtain ⟨a, z, rfl, g, q⟩ := h
  obtain rfl : v = Value.ref a := rx
  exact tail_any (dict_typeIs I g) PySem.F.slot_dict_getitem.lookup (d_getItem hu I g ry fun w' s' I' rw' => ⟨z, H, I', rw', q⟩) hs
theorem l_ixK : Lift2 K T (fun x y H Q => ∃ a v, x = .ref a ∧ DGet H a y (some v) ∧ Q v H) ixK := fun x y dx dy H M Q Qd rx ry m h q => by
  unfold ixK at h
  split at h
  · split at h
    · rename_i ms k e1 e2
      split at h
      · rename_i d e3
        obtain ⟨kvs, h1, h2⟩ := m.dk e1
        rcases h2.get k with ⟨v, d', q1, q2, q3⟩ | ⟨_, q2⟩
        · rw [e3] at q2; cases q2
          refine ⟨_, v, rx.ref_inv, ?_, q _ _ H M (.refl H) q3 m h⟩
          rw [dkey_lift ry e2, ← q1]
          exact DGet.k h1
        · rw [e3] at q2; cases q2
      · exact h.elim
    · rename_i ms k e1 e2
      split at h
      · rename_i d e3
        obtain ⟨o, kvs, h1, h2⟩ := m.dl e1
        rcases h2.get k with ⟨v, d', q1, q2, q3⟩ | ⟨_, q2⟩
        · rw [e3] at q2; cases q2
          refine ⟨_, v, rx.ref_inv, ?_, q _ _ H M (.refl H) q3 m h⟩
          rw [dkey_lift ry e2, ← q1]
          exact .inl ⟨kvs, k, .inr ⟨o, h1⟩, rfl, rfl⟩
        · rw [e3] at q2; cases q2
      · exact h.elim
    · exact h.elim
  · exact h.elim
/-- a[b] of whatever it is -/
def ixA : DR2 := fun x y M Q => match x with
  | .ref a => (match M a with
    | some (.dK _) => ixK x y M Q
    | some (.dL _) => ixK x y M Q
    | _ => ixD x y M Q)
  | _ => ixD x y M Q
theorem l_ixA : Lift2 K T (fun x y H Q => rIx K x y H Q ∨ ∃ a v, x = .ref a ∧ DGet H a y (some v) ∧ Q v H) ixA := fun x y dx dy H M Q Qd rx ry m h q => by
  unfold ixA at h
  split at h
  · split at h
    · exact .inr (l_ixK (T := T) x y _ dy H M Q Qd rx ry m h q)
    · exact .inr (l_ixK (T := T) x y _ dy H M Q Qd rx ry m h q)
    · exact .inl (l_ix x y _ dy H M Q Qd rx ry m h q)
  · exact .inl (l_ix x y _ dy H M Q Qd rx ry m h q)
theorem de_ixA (hr : Room k X.A) (ha : DE X T W a ta) (hb : DE X T W b tb) (hs : PlainIx b := by exact fun _ _ => rfl) : DE X T W (.Subscript a b pos) (dBin ixA ta tb) :=
  PE_imp (pe_ix (ix_seq.or (ix_dictR (hu_of hr))) ha hb hs) (bin_lift l_ixA)
/-- in, not in -/
def flatD : D → Bool
  | .non => true
  | .bl _ => true
  | .int _ => true
  | .str _ => true
  | _ => false
/-- d in l -/
def inD (neg : Bool) : DR2 := fun x y M Q => match y with
  | .tup ys => flatD x = true ∧ ys.all flatD = true ∧ Q (.bl (if neg then !(ys.any fun z => PyData.eqv (pyD z) (pyD x)) else ys.any fun z => PyData.eqv (pyD z) (pyD x))) M
  | .ref a => (match M a with
    | some (.lst ys) => SeqAt.shaped (pyD x) = true ∧ SeqAt.shaped (.list (pyDs ys)) = true ∧ Q (.bl (if neg then !(ys.any fun z => PyData.eqv (pyD z) (pyD x)) else ys.any fun z => PyData.eqv (pyD z) (pyD x))) M
    | some (.dK ms) => (match dkey x with
      | some k => Q (.bl (if neg then !(kget ms k).isSome else (kget ms k).isSome)) M
      | none => False)
    | _ => False)
  | _ => False
theorem flat_lift {H : Hp} {v : V} {d : D} (r : Rep K H v d) (h : flatD d = true) : flatV v = true := by
  cases r <;> first | rfl | cases h
theorem flats_lift {H : Hp} : ∀ {vs : List V} {ds : List D}, Reps K H vs ds → ds.all flatD = true → vs.all flatV = true
  | _, _, .nil, _ => rfl
  | _, _, .cons r rs, h => by
    rw [List.all_cons, Bool.and_eq_true] at h ⊢
    exact ⟨flat_lift r h.1, flats_lift rs h.2⟩
theorem eqV_lift {H : Hp} {v u : V} {d e : D} (r : Rep K H v d) (r' : Rep K H u e) (h : flatD d = true) (h' : flatD e = true) : eqV v u = PyData.eqv (pyD d) (pyD e) := by
  cases r <;> first | (cases h; done) | (cases r' <;> first | (cases h'; done) | (simp [eqV, pyD, PyData.eqv]; try rfl; try (rw [eq_comm]))) <;> (first | rfl | skip)
end
end DL

set_option Elab.async false
set_option linter.all false
set_option maxRecDepth 100000
set_option maxHeartbeats 2000000
namespace DL
open PySem PySem.Spec PyProof.Rows L2
section
variable {X : Cx} {T : Tb} {W : WX} {a b c e f o : Expr} {es : List Expr} {ta tb tc te to : TDE} {tt tu : TDT} {t tr : TDA} {pos p apos cpos : Pos} {x : Str} {k n : Nat} {K : Fr} {g : TDG} {gs : TDGs} {s : TDS}

/-! ## in -/
theorem anyV_lift {H : Hp} {v : V} {d : D} (r : Rep K H v d) (fd : flatD d = true) : ∀ {vs : List V} {ds : List D}, Reps K H vs ds → ds.all flatD = true → inV v vs = ds.any fun z => PyData.eqv (pyD z) (pyD d)
  | _, _, .nil, _ => rfl
  | _, _, .cons q qs, h => by
    rw [List.all_cons, Bool.and_eq_true] at h
    have ih := anyV_lift r fd qs h.2
    unfold inV at ih ⊢
    rw [List.any_cons, List.any_cons, ih, eqV_lift q r h.1 fd]
theorem any_pyDs (q : PyData → Bool) : ∀ ds : List D, (pyDs ds).any q = ds.any fun z => q (pyD z)
  | [] => rfl
  | d :: ds => by rw [pyDs, List.any_cons, List.any_cons, any_pyDs q ds]
def rInA (K : Fr) (neg : Bool) : R2 := fun x y H Q => rIn K neg x y H Q ∨ (if neg then rNotInD K x y H Q else rInD K x y H Q) ∨ (∃ a o, y = .ref a ∧ DGet H a x o ∧ Q (.bl (if neg then !o.isSome else o.isSome)) H)
theorem l_in (neg : Bool) : Lift2 K T (rInA K neg) (inD neg) := fun x y dx dy H M Q Qd rx ry m h q => by
  unfold inD at h
  split at h
  · obtain ⟨h1, h2, h3⟩ := h
    obtain ⟨a, vs, rfl, q1, q2⟩ := ry.tup_inv
    refine .inl ⟨a, vs, rfl, .inr q1, flat_lift rx h1, flats_lift q2 h2, q _ _ H M (.refl H) (.bl _) m ?_⟩
    rw [anyV_lift rx h1 q2 h2]; exact h3
  · split at h
    · rename_i ys e
      obtain ⟨h1, h2, h3⟩ := h
      obtain ⟨vs, q1, q2⟩ := m.lst e
      have hl : Dp K H y (.list (pyDs ys)) := by
        rw [ry.ref_inv]
        exact .lst (SqL.of q1) (q2.dp (by simpa [PyData.canLay0] using SeqAt.canLay_of_shaped h2))
      have hx : Dp K H x (pyD dx) := rx.dp (SeqAt.canLay_of_shaped h1)
      refine .inr (.inl ?_)
      cases neg with
      | true => exact ⟨_, _, hx, hl, h1, h2, q _ _ H M (.refl H) (.bl _) m (by rw [any_pyDs]; exact h3)⟩
      | false => exact ⟨_, _, hx, hl, h1, h2, q _ _ H M (.refl H) (.bl _) m (by rw [any_pyDs]; exact h3)⟩
    · rename_i ms e
      split at h
      · rename_i k e2
        obtain ⟨kvs, h1, h2⟩ := m.dk e
        refine .inr (.inr ⟨_, valV kvs k, ry.ref_inv, by rw [dkey_lift rx e2]; exact DGet.k h1, q _ _ H M (.refl H) (.bl _) m ?_⟩)
        have hs : (valV kvs k).isSome = (kget ms k).isSome := by
          rcases h2.get k with ⟨v, d, g1, g2, _⟩ | ⟨g1, g2⟩
          · rw [g1, g2]; rfl
          · rw [g1, g2]; rfl
        rw [hs]; exact h
      · exact h.elim
    · exact h.elim
  · exact h.elim
theorem op_inDict (hu : X.A.units + 1 < cLine) : OpR X (compareOp .In) (fun x y H Q => ∃ a o, y = .ref a ∧ DGet H a x o ∧ Q (.bl o.isSome) H) := by
  intro pins s σ H x y v u Q I rx ry h
  obtain ⟨a, o, rfl, g, q⟩ := h
  obtain rfl : u = Value.ref a := ry
  exact d_in hu I g rx fun s' I' => ⟨.bl _, H, I', rfl, q⟩
theorem op_notInDict (hu : X.A.units + 1 < cLine) : OpR X (compareOp .NotIn) (fun x y H Q => ∃ a o, y = .ref a ∧ DGet H a x o ∧ Q (.bl (!o.isSome)) H) := by
  intro pins s σ H x y v u Q I rx ry h
  obtain ⟨a, o, rfl, g, q⟩ := h
  obtain rfl : u = Value.ref a := ry
  exact d_notIn hu I g rx fun s' I' => ⟨.bl _, H, I', rfl, q⟩
theorem c_in (hr : Room k X.A) : CmpR X T .In (inD false) := ⟨_, op_in_seq.or ((op_inD (by have := hr.un; omega)).or (op_inDict (hu_of hr))), l_in false⟩
theorem c_notin (hr : Room k X.A) : CmpR X T .NotIn (inD true) := ⟨_, op_notIn_seq.or ((op_notInD (by have := hr.un; omega)).or (op_notInDict (hu_of hr))), l_in true⟩

/-! ## methods of lists -/
abbrev DRM := D → List D → Mp → DQ → Prop
def LiftM (K : Fr) (T : Tb) (r : V → List V → Hp → VK → Prop) (rd : DRM) : Prop := ∀ x dx vs ds H M Q Qd, Rep K H x dx → Reps K H vs ds → RepH K T H M → rd dx ds M Qd → QW K T H Qd Q → r x vs H Q
/-- it is a list now -/
def isLst (d : D) (M : Mp) : Prop := match d with
  | .ref a => (match M a with
    | some (.lst _) => True
    | _ => False)
  | _ => False
@[simp] def dML (rd : DRM) (to : TDE) (t : TDA) : TDE := fun τ M Q E => to τ M (fun d M1 => isLst d M1 ∧ t τ M1 (fun ds M2 => rd d ds M2 Q) E) E
@[simp] def dML0 (rd : DRM) (to : TDE) : TDE := fun τ M Q E => to τ M (fun d M1 => isLst d M1 ∧ rd d [] M1 Q) E
theorem isLst_lift {H : Hp} {M : Mp} {v : V} {d : D} (r : Rep K H v d) (m : RepH K T H M) (h : isLst d M) : tyV K "list" v H := by
  unfold isLst at h
  split at h
  · split at h
    · rename_i xs e
      obtain ⟨vs, h1, h2⟩ := m.lst e
      rw [r.ref_inv]
      exact .inl ⟨rfl, vs, SqL.of h1⟩
    · exact h.elim
  · exact h.elim
theorem ml_lift {r : V → List V → Hp → VK → Prop} {rd : DRM} (hl : LiftM X.K T r rd) (σ : L2.St) (H : Hp) (Q : VK) (h : liftE X.K T W (dML rd to t) σ H Q) : tBM X.K "list" r (liftE X.K T W to) (liftA X.K T W t) σ H Q := by
  obtain ⟨τ, M, Qd, E, hs, hm, ht, hq, hx⟩ := h
  refine ⟨τ, M, _, E, hs, hm, ht, fun v d H1 M1 k1 r1 m1 h1 => ⟨isLst_lift r1 m1 h1.1, τ, M1, _, E, hs.keep k1, m1, h1.2, fun vs ds H2 M2 k2 r2 m2 h2 => ?_, hx.keep k1⟩, hx⟩
  exact hl v d vs ds H2 M2 Q Qd (r1.keep k2) r2 m2 h2 (hq.keep (k1.trans k2))
theorem ml0_lift {r : V → List V → Hp → VK → Prop} {rd : DRM} (hl : LiftM X.K T r rd) (σ : L2.St) (H : Hp) (Q : VK) (h : liftE X.K T W (dML0 rd to) σ H Q) : tBM0 X.K "list" r (liftE X.K T W to) σ H Q := by
  obtain ⟨τ, M, Qd, E, hs, hm, ht, hq, hx⟩ := h
  exact ⟨τ, M, _, E, hs, hm, ht, fun v d H1 M1 k1 r1 m1 h1 => ⟨isLst_lift r1 m1 h1.1, hl v d [] [] H1 M1 Q Qd r1 .nil m1 h1.2 (hq.keep k1)⟩, hx⟩
/-- what changes the list itself -/
@[simp] def chL (fn : List D → List D → Option (D × List D)) : DRM := fun x ds M Q => match x with
  | .ref a => (match M a with
    | some (.lst xs) => (match fn xs ds with
      | some (d, ys) => SzOk ys.length ∧ Q d (mup M a (.lst ys))
      | none => False)
    | _ => False)
  | _ => False
@[simp] def fAppend : List D → List D → Option (D × List D) := fun xs ds => match ds with | [d] => some (.non, xs ++ [d]) | _ => none
@[simp] def fPop : List D → List D → Option (D × List D) := fun xs ds => match ds with | [] => (match xs.getLast? with | some d => some (d, xs.dropLast) | none => none) | _ => none
@[simp] def fPopAt : List D → List D → Option (D × List D) := fun xs ds => match ds with
  | [.int i] => (match ixN xs.length i with
    | some j => (match xs[j]? with | some d => some (d, xs.eraseIdx j) | none => none)
    | none => none)
  | _ => none
@[simp] def fInsert : List D → List D → Option (D × List D) := fun xs ds => match ds with | [.int i, d] => if 0 ≤ i ∧ i < 2 ^ 63 then some (.non, xs.take i.toNat ++ [d] ++ xs.drop i.toNat) else none | _ => none
@[simp] def fReverse : List D → List D → Option (D × List D) := fun xs ds => match ds with | [] => some (.non, xs.reverse) | _ => none
theorem l_append : LiftM K T rAppend (chL fAppend) := fun x dx vs ds H M Q Qd rx rs m h q => by
  unfold chL at h
  split at h
  · rename_i a
    split at h
    · rename_i xs e
      split at h
      · rename_i d ys e2
        unfold fAppend at e2
        split at e2
        · cases e2
          obtain ⟨us, h1, h2⟩ := m.lst e
          obtain ⟨v, rfl, r1⟩ := rs.one_inv
          obtain ⟨m', k'⟩ := m.setL e (h2.append (.cons r1 .nil))
          refine ⟨a, us, v, rx.ref_inv, rfl, h1, ?_, q _ _ _ _ k' .non m' h.2⟩
          have hz := szOk h.1
          rw [List.length_append, List.length_singleton, ← h2.length] at hz
          exact hz
        · cases e2
      · exact h.elim
    · exact h.elim
  · exact h.elim
theorem l_pop : LiftM K T rPop (chL fPop) := fun x dx vs ds H M Q Qd rx rs m h q => by
  unfold chL at h
  split at h
  · rename_i a
    split at h
    · rename_i xs e
      split at h
      · rename_i d ys e2
        unfold fPop at e2
        split at e2
        · split at e2
          · rename_i d' e3
            cases e2
            obtain ⟨us, h1, h2⟩ := m.lst e
            cases rs
            rw [List.getLast?_eq_getElem?] at e3
            obtain ⟨v, g1, g2⟩ := h2.get e3
            obtain ⟨m', k'⟩ := m.setL e h2.dropLast
            exact ⟨a, us, v, rx.ref_inv, rfl, h1, by rw [h2.length]; exact g1, q _ _ _ _ k' (g2.keep k') m' h.2⟩
          · cases e2
        · cases e2
      · exact h.elim
    · exact h.elim
  · exact h.elim
theorem l_popAt : LiftM K T rPopAt (chL fPopAt) := fun x dx vs ds H M Q Qd rx rs m h q => by
  unfold chL at h
  split at h
  · rename_i a
    split at h
    · rename_i xs e
      split at h
      · rename_i d ys e2
        unfold fPopAt at e2
        split at e2
        · split at e2
          · rename_i j ej
            split at e2
            · rename_i d' e3
              cases e2
              obtain ⟨us, h1, h2⟩ := m.lst e
              obtain ⟨v, rfl, r1⟩ := rs.one_inv
              obtain ⟨w', g1, g2⟩ := h2.get e3
              obtain ⟨m', k'⟩ := m.setL e (h2.eraseIdx j)
              obtain ⟨s1, s2, s3, s4⟩ := ixN_seq ej
              have hz : xs.length ≤ 16777216 + 1 := by
                have := h.1
                rw [List.length_eraseIdx] at this
                unfold SzOk at this
                split at this <;> omega
              exact ⟨a, us, _, j, w', rx.ref_inv, by rw [r1.int_inv], h1, by omega, by omega, by rw [h2.length]; exact s1, g1, q _ _ _ _ k' (g2.keep k') m' h.2⟩
            · cases e2
          · cases e2
        · cases e2
      · exact h.elim
    · exact h.elim
  · exact h.elim
theorem l_insert : LiftM K T (fun x vs H Q => ∃ (l : Addr) (xs : List V) (i : Int) (y : V), x = .ref l ∧ vs = [.int i, y] ∧ H l = some (.lst xs) ∧ xs.length < sizeLine ∧ 0 ≤ i ∧ i < 2 ^ 63 ∧
    Q .non (upd H l (.lst (xs.take i.toNat ++ [y] ++ xs.drop i.toNat)))) (chL fInsert) := fun x dx vs ds H M Q Qd rx rs m h q => by
  unfold chL at h
  split at h
  · rename_i a
    split at h
    · rename_i xs e
      split at h
      · rename_i d ys e2
        unfold fInsert at e2
        split at e2
        · split at e2
          · rename_i hi
            cases e2
            obtain ⟨us, h1, h2⟩ := m.lst e
            obtain ⟨v, v', rfl, r1, r2⟩ := rs.two_inv
            obtain ⟨m', k'⟩ := m.setL e (((h2.take _).append (.cons r2 .nil)).append (h2.drop _))
            refine ⟨a, us, _, v', rx.ref_inv, by rw [r1.int_inv], h1, ?_, hi.1, hi.2, q _ _ _ _ k' .non m' h.2⟩
            have hz := szOk h.1
            rw [List.length_append, List.length_append, List.length_take, List.length_drop, List.length_singleton, ← h2.length] at hz
            omega
          · cases e2
        · cases e2
      · exact h.elim
    · exact h.elim
  · exact h.elim
theorem l_reverse : LiftM K T rReverse (chL fReverse) := fun x dx vs ds H M Q Qd rx rs m h q => by
  unfold chL at h
  split at h
  · rename_i a
    split at h
    · rename_i xs e
      split at h
      · rename_i d ys e2
        unfold fReverse at e2
        split at e2
        · cases e2
          obtain ⟨us, h1, h2⟩ := m.lst e
          cases rs
          obtain ⟨m', k'⟩ := m.setL e h2.reverse
          exact ⟨a, us, rx.ref_inv, rfl, h1, q _ _ _ _ k' .non m' h.2⟩
        · cases e2
      · exact h.elim
    · exact h.elim
  · exact h.elim
/-- xs.extend(ys), both lists -/
@[simp] def extD : DRM := fun x ds M Q => match x, ds with
  | .ref a, [.ref b] => (match M a, M b with
    | some (.lst xs), some (.lst ys) => SzOk (xs.length + ys.length) ∧ Q .non (mup M a (.lst (xs ++ ys)))
    | _, _ => False)
  | _, _ => False
theorem l_extend : LiftM K T rExtend extD := fun x dx vs ds H M Q Qd rx rs m h q => by
  unfold extD at h
  split at h
  · split at h
    · rename_i xs ys e1 e2
      obtain ⟨us, h1, h2⟩ := m.lst e1
      obtain ⟨ws, h3, h4⟩ := m.lst e2
      obtain ⟨v, rfl, r1⟩ := rs.one_inv
      obtain ⟨m', k'⟩ := m.setL e1 (h2.append h4)
      exact ⟨_, _, us, ws, rx.ref_inv, by rw [r1.ref_inv], h1, h3, by rw [h2.length, h4.length]; exact szOk h.1, q _ _ _ _ k' .non m' h.2⟩
    · exact h.elim
  · exact h.elim
theorem de_append (ho : DE X T W o to) (ha : DE X T W e te) (hbase : attributeBase o "append" X.env (eval o X.env) = eval o X.env := by rfl)
    (hline : (apos.endLine == cpos.line) = true := by rfl) (hs : starEach [e] X.env = [(false, eval e X.env)] := by rfl) : DE X T W (.Call (.Attribute o "append" apos) [e] [] cpos) (dML (chL fAppend) to (dCons te dNil)) :=
  PE_imp (pe_bm PySem.F.plainAttrs_list PySem.F.slot_list_append PySem.F.type_list_append mt_append ho (da_cons ha da_nil hs) hbase (by rw [hs] <;> rfl) hline hs (by rfl)) (ml_lift l_append)
theorem de_pop (ho : DE X T W o to) (hbase : attributeBase o "pop" X.env (eval o X.env) = eval o X.env := by rfl) (hline : (apos.endLine == cpos.line) = true := by rfl) : DE X T W (.Call (.Attribute o "pop" apos) [] [] cpos) (dML0 (chL fPop) to) :=
  PE_imp (pe_bm0 PySem.F.plainAttrs_list PySem.F.slot_list_pop PySem.F.type_list_pop mt_pop ho hbase hline) (ml0_lift l_pop)
theorem de_popAt (ho : DE X T W o to) (ha : DE X T W e te) (hbase : attributeBase o "pop" X.env (eval o X.env) = eval o X.env := by rfl)
    (hline : (apos.endLine == cpos.line) = true := by rfl) (hs : starEach [e] X.env = [(false, eval e X.env)] := by rfl) : DE X T W (.Call (.Attribute o "pop" apos) [e] [] cpos) (dML (chL fPopAt) to (dCons te dNil)) :=
  PE_imp (pe_bm PySem.F.plainAttrs_list PySem.F.slot_list_pop PySem.F.type_list_pop mt_popAt ho (da_cons ha da_nil hs) hbase (by rw [hs] <;> rfl) hline hs (by rfl)) (ml_lift l_popAt)
theorem de_reverse (ho : DE X T W o to) (hbase : attributeBase o "reverse" X.env (eval o X.env) = eval o X.env := by rfl) (hline : (apos.endLine == cpos.line) = true := by rfl) : DE X T W (.Call (.Attribute o "reverse" apos) [] [] cpos) (dML0 (chL fReverse) to) :=
  PE_imp (pe_bm0 PySem.F.plainAttrs_list PySem.F.slot_list_reverse PySem.F.type_list_reverse mt_reverse ho hbase hline) (ml0_lift l_reverse)
theorem de_extend (ho : DE X T W o to) (ha : DE X T W e te) (hbase : attributeBase o "extend" X.env (eval o X.env) = eval o X.env := by rfl)
    (hline : (apos.endLine == cpos.line) = true := by rfl) (hs : starEach [e] X.env = [(false, eval e X.env)] := by rfl) : DE X T W (.Call (.Attribute o "extend" apos) [e] [] cpos) (dML extD to (dCons te dNil)) :=
  PE_imp (pe_bm PySem.F.plainAttrs_list PySem.F.slot_list_extend PySem.F.type_list_extend mt_extend ho (da_cons ha da_nil hs) hbase (by rw [hs] <;> rfl) hline hs (by rfl)) (ml_lift l_extend)
theorem de_insert (ho : DE X T W o to) (ha : DE X T W e te) (hf : DE X T W f tc) (hbase : attributeBase o "insert" X.env (eval o X.env) = eval o X.env := by rfl)
    (hline : (apos.endLine == cpos.line) = true := by rfl) (hs : starEach [e, f] X.env = [(false, eval e X.env), (false, eval f X.env)] := by rfl) (hs2 : starEach [f] X.env = [(false, eval f X.env)] := by rfl) : DE X T W (.Call (.Attribute o "insert" apos) [e, f] [] cpos) (dML (chL fInsert) to (dCons te (dCons tc dNil))) :=
  PE_imp (pe_bm PySem.F.plainAttrs_list PySem.F.slot_list_insert PySem.F.type_list_insert mt_insert ho (da_cons ha (da_cons hf da_nil hs2) (by rw [hs, hs2])) hbase (by rw [hs] <;> rfl) hline (by rw [hs, hs2]) (by rw [hs2] <;> rfl)) (ml_lift l_insert)
@[simp] def dBits (to : TDE) : TDE := fun τ M Q E => to τ M (fun d M1 => match d with | .int i => Q (.int (Builtin.Int.intBits i : Nat)) M1 | _ => False) E
theorem de_bits (ho : DE X T W o to) (hbase : attributeBase o "bit_length" X.env (eval o X.env) = eval o X.env := by rfl) (hline : (apos.endLine == cpos.line) = true := by rfl) : DE X T W (.Call (.Attribute o "bit_length" apos) [] [] cpos) (dBits to) :=
  PE_imp (pe_bits ho hbase hline) fun σ H Q ⟨τ, M, Qd, E, hs, hm, ht, hq, hx⟩ => ⟨τ, M, _, E, hs, hm, ht, fun v d H1 M1 k1 r1 m1 h1 => by
    try dsimp only at h1
    split at h1
    · exact ⟨_, r1.int_inv, hq _ _ _ _ k1 (.int _) m1 h1⟩
    · exact h1.elim, hx⟩
/-- d.pop(k, x) of a dict -/
def isDct (d : D) (M : Mp) : Prop := match d with
  | .ref a => (match M a with
    | some (.dK _) => True
    | _ => False)
  | _ => False
def popKD (x y z : D) (M : Mp) (Q : DQ) : Prop := match x with
  | .ref a => (match M a, dkey y with
    | some (.dK ms), some k => (match kget ms k with
      | some d => Q d (mup M a (.dK (kdrop ms k)))
      | none => Q z M)
    | _, _ => False)
  | _ => False
@[simp] def dPopK (to te tf : TDE) : TDE := fun τ M Q E => to τ M (fun d M1 => isDct d M1 ∧ te τ M1 (fun y M2 => tf τ M2 (fun z M3 => popKD d y z M3 Q) E) E) E
theorem isDct_lift {H : Hp} {M : Mp} {v : V} {d : D} (r : Rep K H v d) (m : RepH K T H M) (h : isDct d M) : ∃ a, v = .ref a ∧ IsD H a := by
  unfold isDct at h
  split at h
  · split at h
    · rename_i xs e
      obtain ⟨vs, h1, h2⟩ := m.dk e
      exact ⟨_, r.ref_inv, .inl ⟨vs, .inl h1⟩⟩
    · exact h.elim
  · exact h.elim
theorem de_popK {ty tx : TDE} (ho : DE X T W o to) (he : DE X T W e ty) (hf : DE X T W f tx) (m : M2 X o "pop" apos e f cpos := by exact ⟨rfl, rfl, rfl, rfl⟩) : DE X T W (.Call (.Attribute o "pop" apos) [e, f] [] cpos) (dPopK to ty tx) :=
  PE_imp (pe_dpop2 ho he hf m) fun σ H Q ⟨τ, M, Qd, E, hs, hm, ht, hq, hx⟩ => ⟨τ, M, _, E, hs, hm, ht, fun v d H1 M1 k1 r1 m1 h1 => by
    obtain ⟨a, ha, hd⟩ := isDct_lift r1 m1 h1.1
    refine ⟨a, ha, hd, τ, M1, _, E, hs.keep k1, m1, h1.2, fun y dy H2 M2 k2 r2 m2 h2 => ⟨τ, M2, _, E, (hs.keep k1).keep k2, m2, h2, fun z dz H3 M3 k3 r3 m3 h3 => ?_, (hx.keep k1).keep k2⟩, hx.keep k1⟩
    have k03 := (k1.trans k2).trans k3
    unfold popKD at h3
    split at h3
    · have ra := r1.ref_inv
      rw [ha] at ra
      cases ra
      split at h3
      · rename_i ms k e1 e2
        obtain ⟨kvs, g1, g2⟩ := m3.dk e1
        refine ⟨kvs, k, g1, dkey_lift (r2.keep k3) e2, fun v' hv => ?_, fun hv => ?_⟩
        · rcases g2.get k with ⟨v2, d2, q1, q2, q3⟩ | ⟨q1, _⟩
          · rw [hv] at q1; cases q1
            rw [q2] at h3
            obtain ⟨m', k'⟩ := m3.setK e1 (g2.drop k)
            exact hq _ _ _ _ (k03.trans k') (q3.keep k') m' h3
          · rw [hv] at q1; cases q1
        · rcases g2.get k with ⟨v2, d2, q1, q2, q3⟩ | ⟨_, q2⟩
          · rw [hv] at q1; cases q1
          · rw [q2] at h3
            exact hq _ _ _ _ k03 r3 m3 h3
      · exact h3.elim
    · exact h3.elim, hx⟩

/-! ## o[i] = e as a target -/
abbrev DRS := D → D → D → Mp → (Mp → Prop) → Prop
def LiftSet (K : Fr) (T : Tb) (r : TSet) (rd : DRS) : Prop := ∀ o i v od id vd H M (Q : Hp → Prop) (Qd : Mp → Prop), Rep K H o od → Rep K H i id → Rep K H v vd → RepH K T H M → rd od id vd M Qd → (∀ H' M', Keep H H' → RepH K T H' M' → Qd M' → Q H') → r o i v H Q
def setD : DRS := fun o i v M Q => match o with
  | .ref a => (match M a, i with
    | some (.lst xs), .int k => (match ixN xs.length k with
      | some j => Q (mup M a (.lst (xs.set j v)))
      | none => False)
    | some (.dK ms), i => (match dkey i with
      | some k => SzOk (ms.length + 1) ∧ Q (mup M a (.dK (kput ms k v)))
      | none => False)
    | _, _ => False)
  | _ => False
theorem PSet.or' {r r' : TSet} (h : PSet X r) (h' : PSet X r') : PSet X (fun o i v H Q => r o i v H Q ∨ r' o i v H Q) := by
  intro pins s σ H o i v ov iv u Q I r1 r2 r3 q
  rcases q with q | q
  · exact h pins s σ H o i v ov iv u Q I r1 r2 r3 q
  · exact h' pins s σ H o i v ov iv u Q I r1 r2 r3 q
theorem set_dict (hu : X.A.units + 1 < cLine) : PSet X (fun o i v H Q => ∃ a H4, o = .ref a ∧ DPut H a i v H4 ∧ Q H4) := by
  intro pins s σ H o i v ov iv u Q I r1 r2 r3 h
  obtain ⟨a, H4, rfl, g, q⟩ := h
  obtain rfl : ov = Value.ref a := r1
  exact d_setItem hu I g r2 r3 fun s' I' => ⟨H4, I', q⟩
theorem l_set : LiftSet K T (fun o i v H Q => rSetL o i v H Q ∨ ∃ a H4, o = .ref a ∧ DPut H a i v H4 ∧ Q H4) setD := fun o i v od id vd H M Q Qd r1 r2 r3 m h q => by
  unfold setD at h
  split at h
  · split at h
    · rename_i xs k e
      split at h
      · rename_i j e2
        obtain ⟨us, h1, h2⟩ := m.lst e
        obtain ⟨m', k'⟩ := m.setL e (h2.set r3 j)
        exact .inl ⟨_, us, _, j, r1.ref_inv, r2.int_inv, h1, by rw [h2.length]; exact e2, q _ _ k' m' h⟩
      · exact h.elim
    · rename_i ms i' e
      split at h
      · rename_i k e2
        obtain ⟨kvs, h1, h2⟩ := m.dk e
        obtain ⟨m', k'⟩ := m.setK e (h2.put r3 k)
        refine .inr ⟨_, _, r1.ref_inv, ?_, q _ _ k' m' h.2⟩
        rw [dkey_lift r2 e2]
        exact DPut.k h1 (by rw [h2.len]; exact Nat.lt_of_succ_le (szOk h.1))
      · exact h.elim
    · exact h.elim
  · exact h.elim
@[simp] def dgSub (to ti : TDE) : TDG := fun d τ M Q E => to τ M (fun o M1 => ti τ M1 (fun i M2 => setD o i d M2 (fun M3 => Q τ M3)) (fun C f x M' => E C f x τ M')) (fun C f x M' => E C f x τ M')
theorem dg_sub {ti : TDE} {i : Expr} (hr : Room k X.A) (ho : DE X T W o to) (hi : DE X T W i ti)
    (ha : ∀ v, assign (.Subscript o i pos) X.env v = (do
      let ov ← holding [v] (eval o X.env)
      let iv ← holding [v, ov] (eval i X.env)
      standAt pos
      holding [v, ov, iv] (setItem ov iv v)
      release [v, ov, iv] []) := by intro _; rfl) : DG X T W (.Subscript o i pos) (dgSub to ti) :=
  PG_imp (pg_sub ho hi (DL.PSet.or' set_list (set_dict (hu_of hr))) ha) fun v σ H Q ⟨d, τ, M, Qd, E, r0, hs, hm, ht, hq, hx⟩ =>
    ⟨τ, M, _, _, hs, hm, ht, fun ov od H1 M1 k1 r1 m1 h1 => ⟨τ, M1, _, _, hs.keep k1, m1, h1, fun iv id H2 M2 k2 r2 m2 h2 =>
      l_set (T := T) ov iv v od id d H2 M2 _ _ (r1.keep k2) r2 (r0.keep (k1.trans k2)) m2 h2 fun H3 M3 k3 m3 h3 => hq _ _ H3 M3 ((k1.trans k2).trans k3) (hs.keep ((k1.trans k2).trans k3)) m3 h3, (hx.xw hs).keep k1⟩, hx.xw hs⟩
end
end DL

set_option Elab.async false
set_option linter.all false
set_option maxRecDepth 100000
set_option maxHeartbeats 2000000
namespace DL
open PySem PySem.Spec PyProof.Rows L2
section
variable {X : Cx} {T : Tb} {W : WX} {a b c e f o tg : Expr} {es : List Expr} {ta tb tc te to : TDE} {tt tu : TDT} {t tr : TDA} {pos p apos cpos : Pos} {x : Str} {k n : Nat} {K : Fr} {g : TDG} {gs : TDGs} {s : TDS}

/-! ## what is walked -/
/-- a list or a tuple, by its value -/
def iSeq (K : Fr) (tl : TE) : TI := fun σ H R => tl σ H fun v H1 => (∃ a vs, v = .ref a ∧ ((SqL K H1 a vs ∧ R (Itl K a) H1) ∨ (SqT K H1 a vs ∧ R (Itt K a) H1))) ∨ ∃ d o kvs, v = .ref d ∧ H1 d = some (.frz o (.dK kvs)) ∧ R (Itk d o kvs) H1
theorem pi_seq {tl : TE} (hl : PE X e tl) : PI X tg e (iSeq X.K tl) := by
  refine ⟨fun pins s σ H R I h => thn (hl.run pins s σ H _ I h) ?_⟩
  rintro v s1 ⟨y, H1, I1, r1, ⟨a, vs, rfl, q⟩ | ⟨d, o, kvs, rfl, hd, q⟩⟩
  · obtain rfl : v = Value.ref a := r1
    rcases q with ⟨hq, q⟩ | ⟨hq, q⟩
    · obtain ⟨its, rv, p, _⟩ := I1.list hq
      exact wpAny_pyIter_list p.isList (pi_one (tk := s1.toks) I1 _ (turn_list a _) ⟨_, Heap.get?_push_size _ rfl, rfl, rfl⟩ q)
    · obtain ⟨its, rv, p, _⟩ := I1.tuple hq
      exact wpAny_pyIter_tuple p (pi_one (tk := s1.toks) I1 _ (turn_tuple a _) ⟨_, Heap.get?_push_size _ rfl, rfl, rfl⟩ q)
  · obtain rfl : v = Value.ref d := r1
    obtain ⟨hs, hgd, hx, es, ep, vs, hdt, hsz, kv, hm⟩ := I1.frzK hd
    refine iter_keys hs hgd hx hdt (pi_one (tk := s1.toks) I1 _ (turn_keys _ hdt) ⟨_, Heap.get?_push_size _ rfl, rfl, ?_⟩ q)
    rw [hsz] <;> rfl
def isAt (a : Addr) (xs : List D) (M : Mp) : Prop := M a = some (.lst xs)
@[simp] def anyM (_ : Mp) : Prop := True
theorem wd_list {H0 : Hp} {a : Addr} {xs : List D} : WalkD K T H0 (Itl K a) xs (isAt a xs) where
  goes := fun i H M hi _ m g => by
    obtain ⟨vs, h1, h2⟩ := m.lst g
    exact ⟨vs, vs[i]'(by rw [h2.length]; exact hi), SqL.of h1, List.getElem?_eq_getElem _⟩
  stops := fun H M _ m g => by
    obtain ⟨vs, h1, h2⟩ := m.lst g
    exact ⟨vs, SqL.of h1, by rw [h2.length]; exact Nat.le_refl _⟩
  yields := fun i H M x H' d hd _ m g ⟨e, y⟩ => by
    obtain ⟨vs, h1, h2⟩ := m.lst g
    subst e
    obtain ⟨v, q1, q2⟩ := h2.get hd
    have := y vs (SqL.of h1)
    rw [q1] at this; cases this
    exact ⟨.refl _, q2, m⟩
theorem wd_tup {H0 : Hp} {a : Addr} {vs : List V} {xs : List D} (h : SqT K H0 a vs) (r : Reps K H0 vs xs) : WalkD K T H0 (Itt K a) xs anyM where
  goes := fun i H M hi k m g => ⟨vs, vs[i]'(by rw [r.length]; exact hi), k.sqT h, List.getElem?_eq_getElem _⟩
  stops := fun H M k m g => ⟨vs, k.sqT h, by rw [r.length]; exact Nat.le_refl _⟩
  yields := fun i H M x H' d hd k m g ⟨e, y⟩ => by
    subst e
    obtain ⟨v, q1, q2⟩ := (r.keep k).get hd
    have := y vs (k.sqT h)
    rw [q1] at this; cases this
    exact ⟨.refl _, q2, m⟩
def kD : Key → D
  | .inl i => .int i
  | .inr x => .str x
theorem Rep.kD {H : Hp} (k : Key) : Rep K H (kV k) (kD k) := by
  cases k <;> constructor
theorem kv_at {H : Hp} : ∀ {kvs : List (Key × V)} {ms : List (Key × D)} {i : Nat} {d : D}, RepKV K H kvs ms → (ms.map fun kv => kD kv.1)[i]? = some d → ∃ k v, kvs[i]? = some (k, v) ∧ d = kD k
  | _, _, i, d, .nil, e => by simp at e
  | (k, v) :: _, (k', d') :: _, 0, d, .cons r _, e => by
    obtain rfl : k = k' := r.1
    simp at e
    exact ⟨k, v, rfl, e.symm⟩
  | _ :: _, _ :: _, i + 1, d, .cons _ rs, e => by
    obtain ⟨k, v, h1, h2⟩ := kv_at (i := i) (d := d) rs (by simpa using e)
    exact ⟨k, v, by simpa using h1, h2⟩
theorem wd_keys {H0 : Hp} {a : Addr} {o : Obj} {kvs : List (Key × V)} {ms : List (Key × D)} (h : H0 a = some (.frz o (.dK kvs))) (r : RepKV K H0 kvs ms) : WalkD K T H0 (Itk a o kvs) (ms.map fun kv => kD kv.1) anyM where
  goes := fun i H M hi k m g => ⟨k.frz _ _ _ h, by rw [r.len]; simpa using hi⟩
  stops := fun H M k m g => ⟨k.frz _ _ _ h, by rw [r.len]; simp⟩
  yields := fun i H M x H' d hd k m g ⟨e, key, v, y, ex⟩ => by
    subst e ex
    obtain ⟨k', v', e1, e2⟩ := kv_at r hd
    rw [y] at e1; cases e1
    exact ⟨.refl _, e2 ▸ Rep.kD key, m⟩
def seqI (d : D) (M : Mp) (R : List D → (Mp → Prop) → Mp → Prop) : Prop := match d with
  | .tup xs => R xs anyM M
  | .ref a => (match M a with
    | some (.lst xs) => R xs (isAt a xs) M
    | some (.dL ms) => R (ms.map fun kv => kD kv.1) anyM M
    | _ => False)
  | _ => False
@[simp] def iSeqD (te : TDE) : TDI := fun τ M R E => te τ M (fun d M1 => seqI d M1 R) E
theorem di_seq (he : DE X T W e te) : DI X T W tg e (iSeqD te) := PI_imp (pi_seq he) fun σ H R ⟨τ, M, Rd, E, hs, hm, ht, hx, hr⟩ => ⟨τ, M, _, E, hs, hm, ht, fun v d H1 M1 k1 r1 m1 h1 => by
  unfold seqI at h1
  try dsimp only at h1
  split at h1
  · obtain ⟨a, vs, rfl, q1, q2⟩ := r1.tup_inv
    exact .inl ⟨a, vs, rfl, .inr ⟨q1, hr _ _ _ H1 M1 k1 m1 (wd_tup q1 q2) h1⟩⟩
  · rw [r1.ref_inv]
    split at h1
    · rename_i xs e0
      obtain ⟨vs, q1, q2⟩ := m1.lst e0
      exact .inl ⟨_, vs, rfl, .inl ⟨SqL.of q1, hr _ _ _ H1 M1 k1 m1 wd_list h1⟩⟩
    · rename_i ms e0
      obtain ⟨o, kvs, q1, q2⟩ := m1.dl e0
      exact .inr ⟨_, o, kvs, rfl, q1, hr _ _ _ H1 M1 k1 m1 (wd_keys q1 q2) h1⟩
    · exact h1.elim
  · exact h1.elim, hx⟩
/-- lo, lo + 1, .. n of them -/
def rangeL (lo : Int) (n : Nat) : List D := (List.range n).map fun i => D.int (lo + (i : Nat))
theorem rangeL_len (lo : Int) (n : Nat) : (rangeL lo n).length = n := by simp [rangeL]
theorem wd_range {H0 : Hp} {lo : Int} {n : Nat} : WalkD K T H0 (Itr lo n) (rangeL lo n) anyM where
  goes := fun i H M hi _ m g => by rw [rangeL_len] at hi; exact hi
  stops := fun H M _ m g => by rw [rangeL_len]; exact Nat.le_refl _
  yields := fun i H M x H' d hd _ m g ⟨e, y⟩ => by
    subst e
    have hi : i < n := by
      have := (List.getElem?_eq_some_iff.mp hd).1
      rw [rangeL_len] at this; exact this
    rw [rangeL, List.getElem?_map, List.getElem?_range hi] at hd
    cases hd
    subst y
    exact ⟨.refl _, .int _, m⟩
abbrev In62 (i : Int) : Prop := -4611686018427387904 ≤ i ∧ i < 4611686018427387904
def rng1D (ds : List D) (M : Mp) (R : List D → (Mp → Prop) → Mp → Prop) : Prop := match ds with
  | [.int j] => In62 j ∧ R (rangeL 0 j.toNat) anyM M
  | _ => False
def rng2D (ds : List D) (M : Mp) (R : List D → (Mp → Prop) → Mp → Prop) : Prop := match ds with
  | [.int i, .int j] => In62 i ∧ In62 j ∧ R (rangeL i (j - i).toNat) anyM M
  | _ => False
@[simp] def iArgs (rd : List D → Mp → (List D → (Mp → Prop) → Mp → Prop) → Prop) (t : TDA) : TDI := fun τ M R E => t τ M (fun ds M1 => rd ds M1 R) E
theorem di_range1 (hg : Gl X "range") (hm : X.mg "range" = none) (ha : DA X T W [a] t) (hs : starEach [a] X.env = [(false, eval a X.env)] := by rfl) : DI X T W tg (.Call (.Name "range" p) [a] [] pos) (iArgs rng1D t) :=
  PI_imp (pi_range1 hg hm ha hs) fun σ H R ⟨τ, M, Rd, E, hs, hm, ht, hx, hr⟩ => ⟨τ, M, _, E, hs, hm, ht, fun vs ds H1 M1 k1 r1 m1 h1 => by
    unfold rng1D at h1
    try dsimp only at h1
    split at h1
    · obtain ⟨v, rfl, r⟩ := r1.one_inv
      obtain ⟨⟨h2, h3⟩, h4⟩ := h1
      exact ⟨_, by rw [r.int_inv], by omega, by omega, hr _ _ _ H1 M1 k1 m1 wd_range h4⟩
    · exact h1.elim, hx⟩
theorem di_range2 (hg : Gl X "range") (hm : X.mg "range" = none) (ha : DA X T W [a, b] t) (hs : starEach [a, b] X.env = [(false, eval a X.env), (false, eval b X.env)] := by rfl) (hs2 : starEach [b] X.env = [(false, eval b X.env)] := by rfl) : DI X T W tg (.Call (.Name "range" p) [a, b] [] pos) (iArgs rng2D t) :=
  PI_imp (pi_range2 hg hm ha hs hs2) fun σ H R ⟨τ, M, Rd, E, hs, hm, ht, hx, hr⟩ => ⟨τ, M, _, E, hs, hm, ht, fun vs ds H1 M1 k1 r1 m1 h1 => by
    unfold rng2D at h1
    try dsimp only at h1
    split at h1
    · obtain ⟨v, v', rfl, r, r'⟩ := r1.two_inv
      obtain ⟨⟨h2, h3⟩, ⟨h4, h5⟩, h6⟩ := h1
      exact ⟨_, _, by rw [r.int_inv, r'.int_inv], ⟨by omega, by omega, by omega, by omega⟩, hr _ _ _ H1 M1 k1 m1 wd_range h6⟩
    · exact h1.elim, hx⟩
/-- pairs of two rows, as long as the shorter -/
def zipL : List D → List D → List D
  | x :: xs, y :: ys => .tup [x, y] :: zipL xs ys
  | _, _ => []
theorem zipL_len : ∀ xs ys : List D, (zipL xs ys).length = min xs.length ys.length
  | [], _ => by simp [zipL]
  | _ :: _, [] => by simp [zipL]
  | x :: xs, y :: ys => by simp [zipL, zipL_len xs ys]
theorem zipL_get : ∀ {xs ys : List D} {i : Nat} {d : D}, (zipL xs ys)[i]? = some d → ∃ x y, xs[i]? = some x ∧ ys[i]? = some y ∧ d = .tup [x, y]
  | [], _, _, _, h => by simp [zipL] at h
  | _ :: _, [], _, _, h => by simp [zipL] at h
  | x :: xs, y :: ys, 0, d, h => by simp [zipL] at h; exact ⟨x, y, rfl, rfl, h.symm⟩
  | x :: xs, y :: ys, i + 1, d, h => by
    obtain ⟨x', y', h1, h2, h3⟩ := zipL_get (xs := xs) (ys := ys) (i := i) (by simpa [zipL] using h)
    exact ⟨x', y', by simpa using h1, by simpa using h2, h3⟩
def zipD (ds : List D) (M : Mp) (R : List D → (Mp → Prop) → Mp → Prop) : Prop := match ds with
  | [.tup xs, .tup ys] => R (zipL xs ys) anyM M
  | [.ref a, .ref b] => (match M a, M b with
    | some (.lst xs), some (.lst ys) => R (zipL xs ys) (fun M' => isAt a xs M' ∧ isAt b ys M') M
    | _, _ => False)
  | _ => False
theorem Rep.pair {H : Hp} {v v' : V} {d d' : D} {q : Addr} (r : Rep K H v d) (r' : Rep K H v' d') (h : H q = none) : Rep K (upd H q (.tup [v, v'])) (.ref q) (.tup [d, d']) :=
  .tup (SqT.of upd_same) (.cons (r.keep (.new h)) (.cons (r'.keep (.new h)) .nil))
theorem wd_zipL {H0 : Hp} {a b : Addr} {xs ys : List D} : WalkD K T H0 (Itz K a b) (zipL xs ys) (fun M' => isAt a xs M' ∧ isAt b ys M') where
  goes := fun i H M hi _ m g => by
    obtain ⟨vs, h1, h2⟩ := m.lst g.1
    obtain ⟨ws, h3, h4⟩ := m.lst g.2
    rw [zipL_len] at hi
    exact ⟨vs, ws, vs[i]'(by rw [h2.length]; omega), ws[i]'(by rw [h4.length]; omega), SqL.of h1, SqL.of h3, List.getElem?_eq_getElem _, List.getElem?_eq_getElem _⟩
  stops := fun H M _ m g => by
    obtain ⟨vs, h1, h2⟩ := m.lst g.1
    obtain ⟨ws, h3, h4⟩ := m.lst g.2
    exact ⟨vs, ws, SqL.of h1, SqL.of h3, by rw [zipL_len, h2.length, h4.length]; omega⟩
  yields := fun i H M x H' d hd _ m g ⟨q, v, v', e1, e2, e3, e4, e5⟩ => by
    obtain ⟨vs, h1, h2⟩ := m.lst g.1
    obtain ⟨ws, h3, h4⟩ := m.lst g.2
    obtain ⟨x', y', g1, g2, rfl⟩ := zipL_get hd
    obtain ⟨u, q1, q2⟩ := h2.get g1
    obtain ⟨u', q3, q4⟩ := h4.get g2
    have e4' := e4 vs (SqL.of h1)
    rw [q1] at e4'; cases e4'
    have e5' := e5 ws (SqL.of h3)
    rw [q3] at e5'; cases e5'
    subst e1; subst e3
    exact ⟨.new e2, q2.pair q4 e2, m.more e2⟩
theorem wd_zipT {H0 : Hp} {a b : Addr} {vs ws : List V} {xs ys : List D} (h1 : SqT K H0 a vs) (h2 : Reps K H0 vs xs) (h3 : SqT K H0 b ws) (h4 : Reps K H0 ws ys) : WalkD K T H0 (RZ.ItzT K a b) (zipL xs ys) anyM where
  goes := fun i H M hi k m g => by
    rw [zipL_len] at hi
    exact ⟨vs, ws, vs[i]'(by rw [h2.length]; omega), ws[i]'(by rw [h4.length]; omega), k.sqT h1, k.sqT h3, List.getElem?_eq_getElem _, List.getElem?_eq_getElem _⟩
  stops := fun H M k m g => ⟨vs, ws, k.sqT h1, k.sqT h3, by rw [zipL_len, h2.length, h4.length]; omega⟩
  yields := fun i H M x H' d hd k m g ⟨q, v, v', e1, e2, e3, e4, e5⟩ => by
    obtain ⟨x', y', g1, g2, rfl⟩ := zipL_get hd
    obtain ⟨u, q1, q2⟩ := (h2.keep k).get g1
    obtain ⟨u', q3, q4⟩ := (h4.keep k).get g2
    have e4' := e4 vs (k.sqT h1)
    rw [q1] at e4'; cases e4'
    have e5' := e5 ws (k.sqT h3)
    rw [q3] at e5'; cases e5'
    subst e1; subst e3
    exact ⟨.new e2, q2.pair q4 e2, m.more e2⟩
theorem di_zip {tpos : Pos} {elts : List Expr} {kk : Nat} (hg : Gl X "zip") (hm : X.mg "zip" = none) (ha : DA X T W [a, b] t) (hs : starEach [a, b] X.env = (false, eval a X.env) :: starEach [b] X.env := by rfl)
    (hpl : (backTo pos (starEach [b] X.env)).any (·.1) = false := by rfl) : DI X T W (.Tuple elts kk tpos) (.Call (.Name "zip" p) [a, b] [] pos) (iArgs zipD t) :=
  PI_imp (RZ.pi_zipA hg hm ha hs hpl) fun σ H R ⟨τ, M, Rd, E, hs, hm, ht, hx, hr⟩ => ⟨τ, M, _, E, hs, hm, ht, fun vs ds H1 M1 k1 r1 m1 h1 => by
    unfold zipD at h1
    try dsimp only at h1
    split at h1
    · obtain ⟨v, v', rfl, r, r'⟩ := r1.two_inv
      obtain ⟨a, us, rfl, q1, q2⟩ := r.tup_inv
      obtain ⟨b, ws, rfl, q3, q4⟩ := r'.tup_inv
      exact ⟨a, b, us, ws, rfl, .inr ⟨q1, q3, hr _ _ _ H1 M1 k1 m1 (wd_zipT q1 q2 q3 q4) h1⟩⟩
    · obtain ⟨v, v', rfl, r, r'⟩ := r1.two_inv
      rw [r.ref_inv, r'.ref_inv]
      split at h1
      · rename_i xs ys e1 e2
        obtain ⟨us, q1, q2⟩ := m1.lst e1
        obtain ⟨ws, q3, q4⟩ := m1.lst e2
        exact ⟨_, _, us, ws, rfl, .inl ⟨SqL.of q1, SqL.of q3, hr _ _ _ H1 M1 k1 m1 wd_zipL h1⟩⟩
      · exact h1.elim
    · exact h1.elim, hx⟩
def revD (d : D) (M : Mp) (R : List D → (Mp → Prop) → Mp → Prop) : Prop := match d with
  | .tup xs => R xs.reverse anyM M
  | .ref a => (match M a with
    | some (.lst xs) => R xs.reverse (isAt a xs) M
    | _ => False)
  | _ => False
theorem rev_at {α : Type} {xs : List α} {i : Nat} (h : i < xs.length) : xs.reverse[i]? = xs[xs.length - 1 - i]? := by
  rw [List.getElem?_reverse h]
theorem wd_revL {H0 : Hp} {a : Addr} {xs : List D} : WalkD K T H0 (Itv K a xs.length) xs.reverse (isAt a xs) where
  goes := fun i H M hi _ m g => by
    obtain ⟨vs, h1, h2⟩ := m.lst g
    rw [List.length_reverse] at hi
    have hl : xs.length - 1 - i < vs.length := by rw [h2.length]; omega
    exact ⟨hi, vs, vs[xs.length - 1 - i], SqL.of h1, List.getElem?_eq_getElem hl⟩
  stops := fun H M _ m g => by rw [List.length_reverse]; exact Nat.le_refl _
  yields := fun i H M x H' d hd _ m g y => by
    obtain ⟨vs, h1, h2⟩ := m.lst g
    have hi : i < xs.length := by
      have := (List.getElem?_eq_some_iff.mp hd).1
      rwa [List.length_reverse] at this
    rw [rev_at hi] at hd
    obtain ⟨v, q1, q2⟩ := h2.get hd
    obtain ⟨rfl, y2⟩ := y
    have := y2 vs (SqL.of h1)
    rw [q1] at this; cases this
    exact ⟨.refl _, q2, m⟩
theorem wd_revT {H0 : Hp} {a : Addr} {vs : List V} {xs : List D} (h : SqT K H0 a vs) (r : Reps K H0 vs xs) : WalkD K T H0 (RT.ItvT K a vs.length) xs.reverse anyM where
  goes := fun i H M hi k m g => by
    rw [List.length_reverse, ← r.length] at hi
    have hl : vs.length - 1 - i < vs.length := by omega
    exact ⟨hi, vs, vs[vs.length - 1 - i], k.sqT h, List.getElem?_eq_getElem hl⟩
  stops := fun H M _ m g => by rw [List.length_reverse, r.length]; exact Nat.le_refl _
  yields := fun i H M x H' d hd k m g y => by
    have hi : i < xs.length := by
      have := (List.getElem?_eq_some_iff.mp hd).1
      rwa [List.length_reverse] at this
    rw [rev_at hi] at hd
    obtain ⟨v, q1, q2⟩ := (r.keep k).get hd
    obtain ⟨rfl, y2⟩ := y
    have := y2 vs (k.sqT h)
    rw [r.length, q1] at this; cases this
    exact ⟨.refl _, q2, m⟩
@[simp] def iRevD (te : TDE) : TDI := fun τ M R E => te τ M (fun d M1 => revD d M1 R) E
theorem di_rev (hg : Gl X "reversed") (hm : X.mg "reversed" = none) (he : DE X T W e te) (hs : starEach [e] X.env = (false, eval e X.env) :: starEach [] X.env := by rfl) : DI X T W tg (.Call (.Name "reversed" p) [e] [] pos) (iRevD te) :=
  PI_imp (RT.pi_revA hg hm he hs) fun σ H R ⟨τ, M, Rd, E, hs, hm, ht, hx, hr⟩ => ⟨τ, M, _, E, hs, hm, ht, fun v d H1 M1 k1 r1 m1 h1 => by
    unfold revD at h1
    try dsimp only at h1
    split at h1
    · obtain ⟨a, vs, rfl, q1, q2⟩ := r1.tup_inv
      exact ⟨a, vs, rfl, .inr ⟨q1, hr _ _ _ H1 M1 k1 m1 (wd_revT q1 q2) h1⟩⟩
    · rw [r1.ref_inv]
      split at h1
      · rename_i xs e0
        obtain ⟨vs, q1, q2⟩ := m1.lst e0
        exact ⟨_, vs, rfl, .inl ⟨SqL.of q1, hr _ _ _ H1 M1 k1 m1 (by rw [q2.length]; exact wd_revL) h1⟩⟩
      · exact h1.elim
    · exact h1.elim, hx⟩

/-! ## comprehensions -/
/-- a target within a comprehension: its own slots alone are stored -/
def TgC (K : Fr) (T : Tb) (vs : List Nat) (g : TG) (gd : TDG) : Prop := ∀ v d H M σ τ σ0 Qd (Q : L2.St → Hp → Prop), wipe σ vs = wipe σ0 vs → Rep K H v d → RepS K H σ τ → RepH K T H M → gd d τ M Qd noXS →
  (∀ σ2 τ2 H2 M2, wipe σ2 vs = wipe σ0 vs → Keep H H2 → RepS K H2 σ2 τ2 → RepH K T H2 M2 → Qd τ2 M2 → Q σ2 H2) → g v σ H Q
def TgCs (K : Fr) (T : Tb) (vs : List Nat) (g : TGs) (gd : TDGs) : Prop := ∀ us ds H M σ τ σ0 Qd (Q : L2.St → Hp → Prop), wipe σ vs = wipe σ0 vs → Reps K H us ds → RepS K H σ τ → RepH K T H M → gd ds τ M Qd noXS →
  (∀ σ2 τ2 H2 M2, wipe σ2 vs = wipe σ0 vs → Keep H H2 → RepS K H2 σ2 τ2 → RepH K T H2 M2 → Qd τ2 M2 → Q σ2 H2) → g us σ H Q
theorem wipe_set {σ : L2.St} {i : Nat} {v : Option V} : ∀ {vs : List Nat}, i ∈ vs → wipe (σ.set i v) vs = wipe σ vs
  | [], h => by cases h
  | j :: vs, h => by
    unfold wipe
    by_cases e : i ∈ vs
    · rw [wipe_set e]
    · have : i = j := by
        rcases List.mem_cons.mp h with h | h
        · exact h
        · exact absurd h e
      subst this
      have hc : ∀ (ws : List Nat) (σ : L2.St), i ∉ ws → wipe (σ.set i v) ws = (wipe σ ws).set i v := by
        intro ws
        induction ws with
        | nil => intro σ _; rfl
        | cons w ws ih =>
          intro σ hn
          have h1 : i ≠ w := fun e => hn (by simp [e])
          have h2 : i ∉ ws := fun e => hn (by simp [e])
          show (wipe (σ.set i v) ws).set w none = ((wipe σ ws).set w none).set i v
          rw [ih σ h2, List.set_comm _ _ h1]
      rw [hc vs σ e, List.set_set]
theorem wipe_wipe (σ : L2.St) (vs : List Nat) : wipe (wipe σ vs) vs = wipe σ vs := by
  have h : ∀ (ws : List Nat) (σ : L2.St), (∀ i ∈ ws, i ∈ vs) → wipe (wipe σ ws) vs = wipe σ vs := by
    intro ws
    induction ws with
    | nil => intro σ _; rfl
    | cons w ws ih =>
      intro σ hw
      show wipe ((wipe σ ws).set w none) vs = wipe σ vs
      rw [wipe_set (hw w (by simp)), ih σ fun i hi => hw i (by simp [hi])]
  exact h vs σ fun _ h => h
theorem tgc_name {i : Nat} {vs : List Nat} (h : i ∈ vs := by decide) : TgC K T vs (gName i) (dgName i) := fun v d H M σ τ σ0 Qd Q hw r hs hm hq q =>
  q _ _ H M (by rw [wipe_set h]; exact hw) (.refl H) (hs.set r i) hm hq
theorem tgcs_nil {vs : List Nat} : TgCs K T vs gNil dgNil := fun us ds H M σ τ σ0 Qd Q hw r hs hm hq q => by
  cases r with
  | nil => exact ⟨rfl, q _ _ H M hw (.refl H) hs hm hq⟩
  | cons => exact hq.elim
theorem tgcs_cons {vs : List Nat} {g : TG} {gd : TDG} {g' : TGs} {gd' : TDGs} (h : TgC K T vs g gd) (h' : TgCs K T vs g' gd') : TgCs K T vs (gCons g g') (dgCons gd gd') := fun us ds H M σ τ σ0 Qd Q hw r hs hm hq q => by
  cases r with
  | nil => exact hq.elim
  | cons r rs =>
    exact ⟨_, _, rfl, h _ _ H M σ τ σ0 _ _ hw r hs hm hq fun σ2 τ2 H2 M2 w2 k2 s2 m2 h2 => h' _ _ H2 M2 σ2 τ2 σ0 Qd Q w2 (rs.keep k2) s2 m2 h2 fun σ3 τ3 H3 M3 w3 k3 => q σ3 τ3 H3 M3 w3 (k2.trans k3)⟩
theorem tgc_tup {vs : List Nat} {n : Nat} {g : TGs} {gd : TDGs} (h : TgCs K T vs g gd) : TgC K T vs (gTup K n g) (dgTup n gd) := fun v d H M σ τ σ0 Qd Q hw r hs hm hq q => by
  unfold dgTup at hq
  split at hq
  · obtain ⟨a, us, rfl, h1, h2⟩ := r.tup_inv
    exact ⟨a, us, rfl, h1, by rw [h2.length]; exact hq.1, h _ _ H M σ τ σ0 Qd Q hw h2 hs hm hq.2 q⟩
  · exact hq.elim
def wLc (guard : Mp → Prop) (gd : TDG) (tt : TDT) (te : TDE) (τ : DSt) (p : Addr) (Q : DQ) : List D → Mp → Prop
  | [], M => guard M ∧ Q (.ref p) M
  | d :: ds, M => guard M ∧ gd d τ M (fun τ2 M2 => tt τ2 M2 (fun b M3 => if b = true then te τ2 M3 (fun y M4 => match M4 p with
      | some (.lst acc) => SzOk (acc.length + 1) ∧ wLc guard gd tt te τ p Q ds (mup M4 p (.lst (acc ++ [y])))
      | _ => False) noX else wLc guard gd tt te τ p Q ds M3) noX) noXS
def dLc (wi : TDI) (gd : TDG) (tt : TDT) (te : TDE) (vs : List Nat) : TDE := fun τ M Q E => wi τ M (fun items guard M1 => ∀ p, M1 p = none → wLc guard gd tt te (dwipe τ vs) p Q items (mup M1 p (.lst []))) E
def W0 : WX := fun _ _ _ _ => False
theorem lc_lift {wi : TDI} {gV : TG} {vs : List Nat} (hgc : TgC X.K T vs gV g) (σ : L2.St) (H : Hp) (Q : VK) (h : liftE X.K T W (dLc wi g tt te vs) σ H Q) :
    tLc (liftI X.K T W wi) gV (liftT X.K T W0 tt) (liftE X.K T W0 te) vs σ H Q := by
  obtain ⟨τ, M, Qd, E, hs, hm, ht, hq, hx⟩ := h
  refine ⟨τ, M, _, E, hs, hm, ht, hx, fun items guard J H1 M1 k1 m1 wd h1 p hp => ?_⟩
  have kp : Keep H1 (upd H1 p (.lst [])) := .new hp
  refine ⟨fun i m H' => ∃ M', i ≤ items.length ∧ m = items.length - i ∧ Keep H1 H' ∧ RepH X.K T H' M' ∧ wLc guard g tt te (dwipe τ vs) p Qd (items.drop i) M', ⟨_, _, Nat.zero_le _, rfl, kp, m1.newL hp .nil, h1 p (m1.fresh hp)⟩, ?_⟩
  rintro i m H' ⟨M', hi, rfl, k', m', hw⟩
  have k0' := k1.trans k'
  by_cases hlt : i < items.length
  · have e : items.drop i = items[i] :: items.drop (i + 1) := List.drop_eq_getElem_cons hlt
    rw [e] at hw
    obtain ⟨hg0, hw⟩ := hw
    refine .inr ⟨wd.goes i H' M' hlt k' m' hg0, fun H2 => ∃ M2, i + 1 ≤ items.length ∧ Keep H1 H2 ∧ RepH X.K T H2 M2 ∧ wLc guard g tt te (dwipe τ vs) p Qd (items.drop (i + 1)) M2, fun H2 ⟨M2, q0, q1, q2, q3⟩ => ⟨_, Nat.sub_lt_sub_left hlt (Nat.lt_succ_self i), M2, q0, rfl, q1, q2, q3⟩, fun x H2 y => ?_⟩
    obtain ⟨k2, r2, m2⟩ := wd.yields i H' M' x H2 items[i] (List.getElem?_eq_getElem hlt) k' m' hg0 y
    have k02 := k0'.trans k2
    have k12 := k'.trans k2
    refine hgc x _ H2 M' (wipe σ vs) (dwipe τ vs) σ _ _ (wipe_wipe σ vs) r2 ((hs.keep k02).wipe vs) m2 hw fun σ3 τ3 H3 M3 w3 k3 s3 m3 h3 => ⟨w3, ?_⟩
    have k13 := k12.trans k3
    refine ⟨τ3, M3, _, _, s3, m3, h3, fun bb H4 M4 k4 m4 h4 => ?_, fun _ _ _ _ _ _ _ _ _ _ z => z.elim⟩
    try dsimp only at h4
    cases bb with
    | true =>
      rw [if_pos rfl] at h4 ⊢
      refine ⟨τ3, M4, _, _, s3.keep k4, m4, h4, fun y dy H5 M5 k5 r5 m5 h5 => ?_, fun _ _ _ _ _ _ _ _ _ _ z => z.elim⟩
      try dsimp only at h5
      split at h5
      · rename_i acc ea
        obtain ⟨us, u1, u2⟩ := m5.lst ea
        obtain ⟨m6, k6⟩ := m5.setL ea (u2.append (.cons r5 .nil))
        exact ⟨us, u1, by rw [u2.length]; exact Nat.lt_of_succ_le (szOk h5.1), _, hlt, ((k13.trans k4).trans k5).trans k6, m6, h5.2⟩
      · exact h5.elim
    | false =>
      rw [if_neg (by decide)] at h4 ⊢
      exact ⟨M4, hlt, k13.trans k4, m4, h4⟩
  · have e : i = items.length := by omega
    subst e
    rw [List.drop_length] at hw
    exact .inl ⟨wd.stops H' M' k' m' hw.1, hq _ _ H' M' k0' (.ref p) m' hw.2⟩
def DTs (X : Cx) (T : Tb) (W : WX) (ifs : List Expr) (t : TDT) : Prop := PTs X ifs (liftT X.K T W t)
@[simp] def dYes : TDT := fun _ M Q _ => Q true M
theorem dts_nil : DTs X T W [] dYes := ⟨fun pins s σ H Q I ⟨τ, M, Qd, E, hs, hm, ht, hq, hx⟩ => pts_nil.run pins s σ H Q I (hq _ _ _ (.refl H) hm ht)⟩
theorem dts_one (h : DT X T W c tt) : DTs X T W [c] tt := pts_one h
theorem de_lc {elt iter : Expr} {ifs : List Expr} {scope : Scope} {own : List (Str × Nat)} {wi : TDI} {gV : TG} (hc : X.calm = true) (hN : X.N.Nodup) (hi : DI X T W tg iter wi) (ok : BlkOk X.N X.env.scope scope own)
    (hg : ∀ (s : Shared) (H : Hp) (C : Addr) (cl : List (Str × Addr)) (fp : List Addr), PG (X.blk s H scope (compEnvC scope cl C X.env) fp) tg gV) (hgc : TgC X.K T (own.map (·.2)) gV g)
    (ht : ∀ (s : Shared) (H : Hp) (C : Addr) (cl : List (Str × Addr)) (fp : List Addr), DTs (X.blk s H scope (compEnvC scope cl C X.env) fp) T W0 ifs tt)
    (he : ∀ (s : Shared) (H : Hp) (C : Addr) (cl : List (Str × Addr)) (fp : List Addr), DE (X.blk s H scope (compEnvC scope cl C X.env) fp) T W0 elt te) (hs : ∀ x, foldedSetIterable iter X.env x = pure x := by intro _; rfl) :
    DE X T W (.ListComp elt [⟨tg, iter, ifs, 0⟩] scope pos) (dLc wi g tt te (own.map (·.2))) :=
  PE_imp (pe_lc (tt := liftT X.K T W0 tt) (te := liftE X.K T W0 te) hc hN hi ok hg ht he hs) (lc_lift hgc)
theorem ds_setLc (i : Nat) {elt iter : Expr} {ifs : List Expr} {scope : Scope} {own : List (Str × Nat)} {wi : TDI} {gV : TG} {y : Str} {py spos : Pos} (hc : X.calm = true) (hN : X.N.Nodup) (hi : DI X T W tg iter wi) (ok : BlkOk X.N X.env.scope scope own)
    (hg : ∀ (s : Shared) (H : Hp) (C : Addr) (cl : List (Str × Addr)) (fp : List Addr), PG (X.blk s H scope (compEnvC scope cl C X.env) fp) tg gV) (hgc : TgC X.K T (own.map (·.2)) gV g)
    (ht : ∀ (s : Shared) (H : Hp) (C : Addr) (cl : List (Str × Addr)) (fp : List Addr), DTs (X.blk s H scope (compEnvC scope cl C X.env) fp) T W0 ifs tt)
    (he : ∀ (s : Shared) (H : Hp) (C : Addr) (cl : List (Str × Addr)) (fp : List Addr), DE (X.blk s H scope (compEnvC scope cl C X.env) fp) T W0 elt te)
    (hsw : swapsWith (.ListComp elt [⟨tg, iter, ifs, 0⟩] scope pos) (some (.Name y py)) spos.line X.env = pure true := by exact sw_true rfl rfl rfl (by decide +kernel))
    (hy : X.N[i]? = some y := by rfl) (hyl : X.env.scope.names.lookup y = some .local := by rfl) (hs : ∀ x, foldedSetIterable iter X.env x = pure x := by intro _; rfl) :
    DS X T W (.Assign [.Name y py] (.ListComp elt [⟨tg, iter, ifs, 0⟩] scope pos) spos) (dAsg (dLc wi g tt te (own.map (·.2))) (dgName i)) :=
  PS_imp (L2.ps_setLc (i := i) (tt := liftT X.K T W0 tt) (te := liftE X.K T W0 te) hc hN hy hyl hsw hi ok hg ht he hs) fun D σ H ⟨τ, M, E, hs, hm, ht, he⟩ =>
    lc_lift hgc σ H _ ⟨τ, M, _, _, hs, hm, ht, fun v d H' M' k r m h => he.nx _ _ H' M' k ((hs.keep k).set r i) m h, he.xw hs⟩
end

/-! ## a def by its body -/
section
variable {P : Program} {w : World} {K : Fr} {mg : Str → Option Value} {base : Heap} {T : Tb} {x qual : Str} {params : Arguments} {body : List Stmt} {scope : Scope} {f : Addr} {fd : FuncData} {N ps : List Str} {k : Nat} {sp : DSp} {t : TDS}
/-- what is wanted behind a def's body -/
abbrev dEnds (Q : DQ) (E : DX) : DEn := ⟨fun _ M => Q .non M, Q, fun _ _ => False, fun _ _ => False, fun C f d _ M => E C f d M⟩
/-- the exceptions' wish within a def's body -/
abbrev WD (E : XK) : WX := fun cls d _ H => E cls d H
theorem def_ok (F : FunD K x qual params body scope [] [] f fd) (S : FnScope N ps scope)
    (hbody : ∀ (cdv : Value) (A : Around) (outer : List Env) (s : Shared) (H : Hp) (E : XK), Room k (A.deeper (envOfC qual scope s.heap.objs.size f cdv)) → DSs (cxOf (L2.CX P w) P w K mg base N qual scope f cdv A outer s H E) T (WD E) body t)
    (hsem : ∀ ds M Q E, ds.length = ps.length → sp ds M Q E → t (dEnds Q E) (dstart N.length ds) M) : FnOk P w K mg base (L2.CX P w) (k + 1) f fd ps (liftSp K T ps.length sp) := by
  refine F.ok S (fun vs H Q E h => h.1) fun cdv A outer s H vs Q E hr ⟨hl, ds, M, Qd, Ed, h1, h2, h3, h4, h5⟩ => ?_
  refine ⟨_, hbody cdv A outer s H E hr, ?_⟩
  have hd : ds.length = ps.length := by rw [← h1.length]; exact hl
  exact ⟨dstart N.length ds, M, dEnds Qd Ed, RepS.start h1 N, h2, hsem ds M Qd Ed hd h3, ⟨fun σ τ H' M' k _ m h => h4 _ _ H' M' k .non m h, h4, fun _ _ _ _ _ _ _ z => z.elim, fun _ _ _ _ _ _ _ z => z.elim, fun C f d cls dx σ τ H' M' k _ x m h => h5 C f d cls dx H' M' k x m h⟩⟩
theorem fnD_of (G : FnOk P w K mg base (L2.CX P w) k f fd ps (liftSp K T ps.length sp)) (hm : mg x = some (.ref f)) (hk : PySem.W.keepIn K (.ref f) = true) (hb : Binds K fd ps []) : FnD P w K mg base T x k ps.length sp :=
  ⟨f, fd, ps, rfl, G, hm, hk, hb⟩
end
end DL

set_option Elab.async false
set_option linter.all false
set_option maxRecDepth 100000
set_option maxHeartbeats 2000000
namespace DL
open PySem PySem.Spec PyProof.Rows L2

/-! ## forgetting -/
def MLe (M M' : Mp) : Prop := ∀ a o, M a = some o → M' a = some o
theorem MLe.refl (M : Mp) : MLe M M := fun _ _ h => h
theorem MLe.trans {M M1 M2 : Mp} (a : MLe M M1) (b : MLe M1 M2) : MLe M M2 := fun x o h => b x o (a x o h)
theorem MLe.new {M M1 : Mp} {p : Addr} {o : MO} (k : MLe M M1) (h : M1 p = none) : MLe M (mup M1 p o) := fun a u e => by
  rw [mup_ne]; exact k a u e
  rintro rfl
  rw [k a u e] at h; cases h
theorem MLe.none {M M' : Mp} (k : MLe M M') {p : Addr} (h : M' p = none) : M p = none := by
  cases e : M p with
  | none => rfl
  | some o => rw [k p o e] at h; cases h
/-- less is told, a list of ints that are none below 0 may be told as a row of draws -/
def MSub (M M' : Mp) : Prop := ∀ a o, M a = some o → M' a = some o ∨ (o = .drw ∧ ∃ ns : List Int, M' a = some (.lst (ns.map D.int)) ∧ (∀ n ∈ ns, 0 ≤ n) ∧ ns.length ≤ 16777216)
theorem MLe.sub {M M' : Mp} (k : MLe M M') : MSub M M' := fun a o h => .inl (k a o h)
theorem RepH.sub {K : Fr} {T : Tb} {H : Hp} {M M' : Mp} (r : RepH K T H M') (h : MSub M M') : RepH K T H M := by
  refine ⟨fun a o e => ?_, r.tab⟩
  rcases h a o e with q | ⟨rfl, ns, q, hn⟩
  · exact r.obj a o q
  · obtain ⟨vs, h1, h2⟩ := r.lst q
    rw [h2.ints] at h1
    exact ⟨_, h1, ns, rfl, hn⟩
/-- a wish that may look at less -/
def gcQ (Q : DQ) : DQ := fun d M' => ∃ M1, MSub M1 M' ∧ Q d M1
theorem gcQ.of {Q : DQ} {d : D} {M M1 : Mp} (k : MLe M1 M) (h : Q d M1) : gcQ Q d M := ⟨M1, k.sub, h⟩
theorem gcQ.same {Q : DQ} {d : D} {M : Mp} (h : Q d M) : gcQ Q d M := .of (.refl M) h
theorem gcQ.new {Q : DQ} {d : D} {M : Mp} {p : Addr} {o : MO} (hp : M p = none) (h : Q d M) : gcQ Q d (mup M p o) := .of (.new (.refl M) hp) h
theorem gcQ.sub {Q : DQ} {d : D} {M M1 : Mp} (k : MSub M1 M) (h : Q d M1) : gcQ Q d M := ⟨M1, k, h⟩
abbrev dEndsG (Q : DQ) (E : DX) : DEn := ⟨fun _ M => gcQ Q .non M, gcQ Q, fun _ _ => False, fun _ _ => False, fun C f d _ M => ∃ M1, MSub M1 M ∧ E C f d M1⟩
section
variable {P : Program} {w : World} {K : Fr} {mg : Str → Option Value} {base : Heap} {T : Tb} {x qual : Str} {params : Arguments} {body : List Stmt} {scope : Scope} {f : Addr} {fd : FuncData} {N ps : List Str} {k n : Nat} {sp : DSp} {t : TDS}
theorem def_okG (F : FunD K x qual params body scope [] [] f fd) (S : FnScope N ps scope)
    (hbody : ∀ (cdv : Value) (A : Around) (outer : List Env) (s : Shared) (H : Hp) (E : XK), Room k (A.deeper (envOfC qual scope s.heap.objs.size f cdv)) → DSs (cxOf (L2.CX P w) P w K mg base N qual scope f cdv A outer s H E) T (WD E) body t)
    (hsem : ∀ ds M Q E, ds.length = ps.length → sp ds M Q E → t (dEndsG Q E) (dstart N.length ds) M) : FnOk P w K mg base (L2.CX P w) (k + 1) f fd ps (liftSp K T ps.length sp) := by
  refine F.ok S (fun vs H Q E h => h.1) fun cdv A outer s H vs Q E hr ⟨hl, ds, M, Qd, Ed, h1, h2, h3, h4, h5⟩ => ?_
  refine ⟨_, hbody cdv A outer s H E hr, ?_⟩
  have hd : ds.length = ps.length := by rw [← h1.length]; exact hl
  exact ⟨dstart N.length ds, M, dEndsG Qd Ed, RepS.start h1 N, h2, hsem ds M Qd Ed hd h3,
    ⟨fun σ τ H' M' k _ m ⟨M1, h, q⟩ => h4 _ _ H' M1 k .non (m.sub h) q, fun v d H' M' k r m ⟨M1, h, q⟩ => h4 _ _ H' M1 k r (m.sub h) q, fun _ _ _ _ _ _ _ z => z.elim, fun _ _ _ _ _ _ _ z => z.elim, fun C f d cls dx σ τ H' M' k _ x m ⟨M1, h, q⟩ => h5 C f d cls dx H' M1 k x (m.sub h) q⟩⟩
/-- a promise that tells its number of arguments -/
@[simp] def arS (n : Nat) (sp : DSp) : DSp := fun ds M Q E => ds.length = n ∧ sp ds M Q E
theorem ok_of {nm : Str} (F : FunD K nm qual params body scope [] [] f fd) (hm : mg x = some (.ref f)) (b : Binds K fd ps []) (S : FnScope N ps scope)
    (hbody : ∀ (cdv : Value) (A : Around) (outer : List Env) (s : Shared) (H : Hp) (E : XK), Room k (A.deeper (envOfC qual scope s.heap.objs.size f cdv)) → DSs (cxOf (L2.CX P w) P w K mg base N qual scope f cdv A outer s H E) T (WD E) body t)
    (hsem : ∀ ds M Q E, ds.length = ps.length → sp ds M Q E → t (dEndsG Q E) (dstart N.length ds) M) : FnD P w K mg base T x (k + 1) ps.length sp :=
  fnD_of (def_okG F S hbody hsem) hm F.kp b
end
section
variable {X : Cx} {T : Tb} {W : WX} {a b c e : Expr} {es : List Expr} {ta tb tc te : TDE} {tt tu : TDT} {t tr : TDA} {pos p p2 : Pos} {x : Str} {k n : Nat} {sp : DSp} {K : Fr}
theorem de_callA (G : FnD X.prog X.w X.K X.mg X.base T x k n sp) (hr : Room k X.A) (tk : Takes X W) (hg : Gl X x) (ha : DA X T W (e :: es) t) (hdb : (x == ("__debug__" : Str)) = false := by decide)
    (he : starEach (e :: es) X.env = (false, eval e X.env) :: starEach es X.env := by rfl) (hpl : (backTo pos (starEach es X.env)).any (·.1) = false := by rfl) : DE X T W (.Call (.Name x p) (e :: es) [] pos) (dCall (arS n sp) t) :=
  de_call (G.imp fun _ _ _ _ h => h.2) (fun _ _ _ _ h => h.1) hr tk hg ha hdb he hpl
theorem de_callL {k j : Nat} (h : k ≤ j) (G : FnD X.prog X.w X.K X.mg X.base T x k n sp) (hr : Room j X.A) (tk : Takes X W) (hg : Gl X x) (ha : DA X T W (e :: es) t) (hdb : (x == ("__debug__" : Str)) = false := by decide)
    (he : starEach (e :: es) X.env = (false, eval e X.env) :: starEach es X.env := by rfl) (hpl : (backTo pos (starEach es X.env)).any (·.1) = false := by rfl) : DE X T W (.Call (.Name x p) (e :: es) [] pos) (dCall (arS n sp) t) :=
  de_callA (G.mono h) hr tk hg ha hdb he hpl

/-! ## isinstance of a built-in type -/
def tyD (d : D) (M : Mp) : Option String := match d with
  | .non => some "NoneType"
  | .bl _ => some "bool"
  | .int _ => some "int"
  | .str _ => some "str"
  | .tup _ => some "tuple"
  | .ref a => (match M a with
    | some (.lst _) => some "list"
    | some (.dK _) => some "dict"
    | some (.dT _) => some "dict"
    | _ => none)
  | .scr _ => none
@[simp] def isiB (t c : String) : Bool := t == c || (t == "bool" && c == "int")
def isiC (c : String) : Bool := c ∈ ["int", "bool", "str", "tuple", "list", "dict"]
def isiT (t : String) : Bool := t ∈ ["NoneType", "int", "bool", "str", "tuple", "list", "dict"]
theorem kit_all : ["NoneType", "int", "bool", "str", "tuple", "list", "dict"].all (fun t => ["int", "bool", "str", "tuple", "list", "dict"].all fun c => decide (kitB t c = some (isiB t c))) = true := by decide +kernel
theorem kit_isi {t c : String} (ht : isiT t = true) (hc : isiC c = true) : kitB t c = some (isiB t c) :=
  of_decide_eq_true (List.all_eq_true.mp (List.all_eq_true.mp kit_all t (of_decide_eq_true ht)) c (of_decide_eq_true hc))
theorem tyD_lift {H : Hp} {M : Mp} {v : V} {d : D} {t : String} (r : Rep K H v d) (m : RepH K T H M) (h : tyD d M = some t) : TyX K H v (.type t) ∧ isiT t = true := by
  unfold tyD at h
  split at h <;> first | (cases h; done) | skip
  · cases h; rw [r.non_inv]; exact ⟨.base .non, by decide⟩
  · cases h; rw [r.bl_inv]; exact ⟨.base (.bl _), by decide⟩
  · cases h; rw [r.int_inv]; exact ⟨.base (.int _), by decide⟩
  · cases h; rw [r.str_inv]; exact ⟨.base (.str _), by decide⟩
  · cases h
    obtain ⟨a, vs, rfl, q, _⟩ := r.tup_inv
    refine ⟨?_, by decide⟩
    rcases q with (q | ⟨o, q⟩) | ⟨o, its, n, q1, q2, _⟩
    · exact .base (.tup q)
    · exact .fTuple q
    · exact .kTuple q1 q2
  · rw [r.ref_inv]
    split at h <;> first | (cases h; done) | skip
    · rename_i e; cases h
      obtain ⟨vs, h1, _⟩ := m.lst e
      exact ⟨.base (.lst h1), by decide⟩
    · rename_i e; cases h
      obtain ⟨vs, h1, _⟩ := m.dk e
      exact ⟨.base (.dK h1), by decide⟩
    · rename_i e; cases h
      obtain ⟨vs, h1, _⟩ := m.dt e
      exact ⟨.base (.dT h1), by decide⟩
def isiD (c : String) : DR1 := fun x M Q => match tyD x M with
  | some t => Q (.bl (isiB t c)) M
  | none => False
theorem de_isi {y : Str} (c : String) (hg : Gl X "isinstance") (hm : X.mg "isinstance" = none) (hg' : Gl X y) (hm' : X.mg y = none) (ha : DE X T W a ta) (hc : isiC c = true := by decide) (hv : bootBuiltins y = some (.type c) := by decide +kernel)
    (hn : y ≠ "__name__" := by decide) (hd : (y == ("__debug__" : Str)) = false := by decide)
    (he : starEach [a, .Name y p2] X.env = (false, eval a X.env) :: starEach [.Name y p2] X.env := by rfl) (hs2 : starEach [.Name y p2] X.env = (false, eval (.Name y p2) X.env) :: starEach [] X.env := by rfl) (hpl : (backTo pos (starEach [.Name y p2] X.env)).any (·.1) = false := by rfl) :
    DE X T W (.Call (.Name "isinstance" p) [a, .Name y p2] [] pos) (dUn (isiD c) ta) :=
  PE_imp (pe_callB call_isi hg hm (by decide +kernel) (pa_cons ha (pa_cons (pe_bltn (v := .ty c) hg' hm' hv rfl hn hd) pa_nil hs2) he) (by decide) (by decide) he hpl) fun σ H Q ⟨τ, M, Qd, E, hs, hm, ht, hq, hx⟩ =>
    ⟨τ, M, _, E, hs, hm, ht, fun v d H1 M1 k1 r1 m1 h1 => by
      unfold isiD at h1
      try dsimp only at h1
      split at h1
      · rename_i t e
        obtain ⟨h2, h3⟩ := tyD_lift r1 m1 e
        exact ⟨v, .ty c, _, _, _, rfl, .ty c, h2, kit_ty (kit_isi h3 hc), hq _ _ _ _ k1 (.bl _) m1 h1⟩
      · exact h1.elim, hx⟩

/-! ## sorted of data -/
def sortXs (xs : List D) : List D := xs.mergeSort (PySem.W.dataLe false pyD)
structure OkSort (xs : List D) : Prop where
  al : PySem.W.AllAlike (xs.map pyD)
  so : PySem.W.Sortable (xs.map pyD)
  sz : SzOk xs.length
  cl : ∀ d ∈ xs, PyData.canLay0 (pyD d) = true ∧ (pyD d).depth ≤ 100
/-- what is sorted: a list, a tuple, a dict's keys -/
def itemsD (d : D) (M : Mp) : Option (List D) := match d with
  | .tup xs => some xs
  | .ref a => (match M a with
    | some (.lst xs) => some xs
    | some (.dK kvs) => some (kvs.map fun kv => kD kv.1)
    | _ => none)
  | _ => none
theorem each_zip {H : Hp} : ∀ {vs : List V} {us : List Value} {ds : List D}, Vals vs us → Reps K H vs ds → PySem.W.EachIs (fun u (b : V × D) => RelV b.1 u ∧ Rep K H b.1 b.2) us (vs.zip ds)
  | _, _, _, .nil, .nil => .nil
  | _, _, _, .cons r rs, .cons q qs => .cons ⟨r, q⟩ (each_zip rs qs)
theorem zip_snd {H : Hp} : ∀ {vs : List V} {ds : List D}, Reps K H vs ds → (vs.zip ds).map (·.2) = ds
  | _, _, .nil => rfl
  | _, _, .cons q qs => by rw [List.zip_cons_cons, List.map_cons, zip_snd qs]
theorem each_out {H : Hp} : ∀ {us : List Value} {bs : List (V × D)}, PySem.W.EachIs (fun u (b : V × D) => RelV b.1 u ∧ Rep K H b.1 b.2) us bs → Vals (bs.map (·.1)) us ∧ Reps K H (bs.map (·.1)) (bs.map (·.2))
  | _, _, .nil => ⟨.nil, .nil⟩
  | _, _, .cons ⟨h1, h2⟩ t => ⟨.cons h1 (each_out t).1, .cons h2 (each_out t).2⟩
theorem sort_snd (bs : List (V × D)) : (bs.mergeSort (PySem.W.dataLe false fun b : V × D => pyD b.2)).map (·.2) = sortXs (bs.map (·.2)) :=
  List.map_mergeSort (f := fun b : V × D => b.2) (fun a _ b _ => rfl)
theorem run_sort {pins : List (Addr × Obj)} {σ : L2.St} {H : Hp} {s : Shared} {h' : Heap} {tk : Nat} {us : List Value} {vs : List V} {ds : List D} {Q : VK} {k : Nat} (hr : Room k X.A) (I : Inv X pins σ H { s with heap := h', toks := tk }) (rv : Vals vs us) (rd : Reps X.K H vs ds) (ok : OkSort ds)
    (q : ∀ (vs' : List V) (p : Addr), Reps X.K H vs' (sortXs ds) → H p = none → Q (.ref p) (upd H p (.lst vs'))) :
    wpAny (model X.prog X.w) X.A.in1 (call (.builtin "list.sort") [.ref h'.objs.size]) (fun _ s' => EP X pins σ Q (.ref h'.objs.size) s') X.xe { s with heap := h'.push (seqObj "list" us.toArray 0), toks := tk } := by
  have hl : us.length = ds.length := by rw [← rv.length, rd.length]
  have hoL : (h'.push (seqObj "list" us.toArray 0)).get? h'.objs.size = some (seqObj "list" us.toArray 0) := Heap.get?_push_size _ rfl
  have e0 := each_zip rv rd
  have er : PySem.W.EachIs (fun u (b : V × D) => ∃ as, Reads (h'.push (seqObj "list" us.toArray 0)) u (pyD b.2) as ∧ h'.objs.size ∉ as) us (vs.zip ds) := by
    refine (PySem.W.each_mem e0).mono fun u b ⟨⟨h1, h2⟩, hb⟩ => ?_
    have hm : b.2 ∈ ds := by rw [← zip_snd rd]; exact List.mem_map.mpr ⟨b, hb, rfl⟩
    obtain ⟨as, ra⟩ := Dp.reads I _ _ _ (h2.dp (ok.cl _ hm).1) h1
    refine ⟨as, PyProof.Rows.Reads.keeps (fun b o e => Heap.get?_push_of_some _ e) ra, fun hin => ?_⟩
    obtain ⟨o, ho⟩ := PyProof.On.reads_mem_get ra _ hin
    exact absurd (Heap.lt_size ho) (Nat.lt_irrefl _)
  have hbs : (vs.zip ds).length = ds.length := by rw [← zip_snd rd, List.length_map, zip_snd rd]
  have hmap : (vs.zip ds).map (fun b : V × D => pyD b.2) = ds.map pyD := by
    rw [show (fun b : V × D => pyD b.2) = pyD ∘ (fun b : V × D => b.2) from rfl, ← List.map_map, zip_snd rd]
  refine PySem.W.list_sort_data (s := { s with heap := h'.push (seqObj "list" us.toArray 0), toks := tk }) (enc := fun b : V × D => pyD b.2) hoL e0 er (by rw [hmap]; exact ok.al) (by rw [hmap]; exact ok.so) (by rw [hbs]; exact szOk ok.sz)
    (fun b hb => ?_) fun out hlo eo => ?_
  · have hm : b.2 ∈ ds := by rw [← zip_snd rd]; exact List.mem_map.mpr ⟨b, hb, rfl⟩
    have h1 := (ok.cl _ hm).2
    have h2 := hr.un
    show X.A.units + 1 + 1 + (pyD b.2).depth < cLine
    omega
  · obtain ⟨e', he'⟩ := PyProof.Rows.sortedHeap_at (vs := us) (out := out.toArray) hoL
    obtain ⟨o1, o2⟩ := each_out eo
    rw [sort_snd, zip_snd rd] at o2
    have hlen : ((List.mergeSort (vs.zip ds) (PySem.W.dataLe false fun b : V × D => pyD b.2)).map (·.1)).length ≤ sizeLine := by
      rw [List.length_map, List.length_mergeSort, hbs]; exact szOk ok.sz
    refine ⟨.ref h'.objs.size, upd H h'.objs.size (.lst _), I.laid (t' := tk) (fun b u e => ?_) (Nat.le_refl _) (show ObjOk X.prog X.w _ _ _ (.lst _) from ⟨hlen, out, e', o1, he'⟩), rfl, q _ _ o2 (I.hok.fresh (Nat.le_refl _))⟩
    have hb : b < h'.objs.size := Heap.lt_size e
    rw [PyProof.Rows.sortedHeap_old (Nat.ne_of_lt hb) (by rw [size_push']; exact Nat.lt_succ_of_lt hb)]
    exact Heap.get?_push_of_some _ e

@[simp] def sortD : DRC := fun ds M Q => match ds with
  | [d] => (match itemsD d M with
    | some xs => OkSort xs ∧ ∀ p, M p = none → Q (.ref p) (mup M p (.lst (sortXs xs)))
    | none => False)
  | _ => False
def rSortD (K : Fr) (T : Tb) : List V → Hp → VK → Prop := fun vs H Q => ∃ v d M xs, vs = [v] ∧ Rep K H v d ∧ RepH K T H M ∧ itemsD d M = some xs ∧ OkSort xs ∧
  ∀ vs' p, Reps K H vs' (sortXs xs) → H p = none → Q (.ref p) (upd H p (.lst vs'))
theorem keys_each {H : Hp} : ∀ {ks : List Key} {us : List PySem.Value}, us.length = ks.length → (∀ (j : Nat) (u : PySem.Value), us[j]? = some u → ∃ k, ks[j]? = some k ∧ keyIs k u = true) → Vals (ks.map kV) us ∧ Reps K H (ks.map kV) (ks.map kD)
  | [], [], _, _ => ⟨.nil, .nil⟩
  | k :: ks, u :: us, hl, h => by
    obtain ⟨k', e1, e2⟩ := h 0 u rfl
    cases (show some k = some k' from e1)
    obtain ⟨q1, q2⟩ := keys_each (H := H) (ks := ks) (us := us) (by simpa using hl) fun j v e => by
      obtain ⟨x, a, b⟩ := h (j + 1) v (by simpa using e)
      exact ⟨x, by simpa using a, b⟩
    refine ⟨.cons ?_ q1, .cons (Rep.kD k) q2⟩
    rcases keyIs_shape (show keyIs k u = true from e2) with ⟨i, t, ek, ev⟩ | ⟨z, t, ek, ev⟩
    · subst ek ev; exact ⟨t, rfl⟩
    · subst ek ev; exact ⟨t, rfl⟩
  | [], _ :: _, hl, _ => by simp at hl
  | _ :: _, [], hl, _ => by simp at hl
theorem keys_eq {κ : Type} {H : Hp} : ∀ {kvs : List (κ × V)} {ms : List (κ × D)}, RepKV K H kvs ms → kvs.map (·.1) = ms.map (·.1)
  | _, _, .nil => rfl
  | _, _, .cons r rs => by rw [List.map_cons, List.map_cons, r.1, keys_eq rs]
theorem cr_sortD {k : Nat} (hc : X.calm = true) (hr : Room k X.A) : CallR X (.builtin "sorted") (rSortD X.K T) := by
  intro pins s σ H xs us Q I r h
  obtain ⟨v, d, M, ds, rfl, rd, m, hi, ok, q⟩ := h
  obtain ⟨u, rfl, rx⟩ := vals1 r
  have seq : ∀ {a : Addr} {vs : List V} {T' : String} {o : Obj} {items : Array Value} {n : Nat} (hT : T' = "list" ∨ T' = "tuple") (ho : s.heap.get? a = some o) (hc' : o.cls = .type T') (hd : o.data = .seq items n), Vals vs items.toList → Reps X.K H vs ds →
      wpAny (model X.prog X.w) X.A (call (.builtin "sorted") [.ref a]) (EP X pins σ Q) X.xe s := by
    intro a vs T' o items n hT ho hc' hd rv rds
    refine Calls.call_function_entry PyProof.Rows.kind_sorted PyProof.Rows.plain_sorted PyProof.Rows.entry_sorted (PyProof.Rows.args_sorted1 _) ?_
    unfold Builtin.«sorted»
    refine wpAny_bind (m := checkCount "sorted" 1 1 _) (wpAny_pure ?_)
    refine wpAny_bind (wpAny_collect_seq a hT ho hc' hd (fun h' hk => ?_) (by rw [← Array.length_toList, ← rv.length, rds.length]; exact szOk ok.sz))
    refine wpAny_bind (wpAny_newList ?_ (by rw [← rv.length, rds.length]; exact szOk ok.sz))
    show wpAny _ _ _ _ _ { s with heap := h'.push (seqObj "list" items.toList.toArray 0), toks := s.toks }
    exact wpAny_bind (wpAny_holding (wpAny_mono (run_sort hr (I.kept (t' := s.toks) hk) rv rds ok q) (fun _ s' x => wpAny_pure ⟨_, rfl, x⟩) fun _ _ e => e))
  unfold itemsD at hi
  split at hi
  · cases hi
    obtain ⟨a, vs, rfl, h1, h2⟩ := rd.tup_inv
    cases rx
    obtain ⟨its, rv, p, _⟩ := I.tuple h1
    obtain ⟨o, ho, h3, n, h4⟩ := p
    exact seq (.inr rfl) ho h3 h4 rv h2
  · split at hi
    · rename_i e
      cases hi
      obtain ⟨vs, h1, h2⟩ := m.lst e
      rw [rd.ref_inv] at rx
      cases rx
      obtain ⟨its, rv, ⟨o, n, e, h3, h4, h5⟩, _⟩ := I.list (SqL.of h1)
      exact seq (.inl rfl) e h3 h5 rv h2
    · rename_i kvs e
      cases hi
      obtain ⟨kvs', h1, h2⟩ := m.dk e
      rw [rd.ref_inv] at rx
      cases rx
      obtain ⟨z, lo, vs, rel, dd⟩ := dk_rd I.hok (.inl h1)
      obtain ⟨ep, hat⟩ := dd.dictAt
      have hkeys : vs.map (·.1) = kvs.map (·.1) := rel.keys.symm.trans (keys_eq h2)
      have hl : vs.length = kvs.length := by
        have e := congrArg List.length hkeys
        rw [List.length_map, List.length_map] at e
        exact e
      have hz : SzOk kvs.length := by have := ok.sz; rw [List.length_map] at this; exact this
      refine Calls.call_function_entry PyProof.Rows.kind_sorted PyProof.Rows.plain_sorted PyProof.Rows.entry_sorted (PyProof.Rows.args_sorted1 _) ?_
      unfold Builtin.«sorted»
      refine wpAny_bind (m := checkCount "sorted" 1 1 _) (wpAny_pure ?_)
      refine wpAny_bind (PySem.W.kdu_collect (A := X.A.in1) (PySem.W.kdl_dict (knd := mixKind X.prog X.w) (kvs := vs) (ep := ep) lo) (I.ok.hd hc) hat (by rw [hl]; exact szOk hz) fun h' tk acc hk hacc => ?_)
      have hal : acc.toList.length = (kvs.map (·.1)).length := by rw [Array.length_toList, hacc.1, hl, List.length_map]
      obtain ⟨rv, rds⟩ := keys_each (H := H) (K := X.K) hal fun j v e => by
        obtain ⟨k, x, e1, e2⟩ := hacc.2 j v (by rw [← Array.getElem?_toList]; exact e)
        refine ⟨k, ?_, e2⟩
        rw [← hkeys, List.getElem?_map, e1]; rfl
      have ee : (kvs.map (·.1)).map kD = kvs.map fun kv => kD kv.1 := by rw [List.map_map]; rfl
      rw [ee] at rds
      refine wpAny_bind (wpAny_newList ?_ (by rw [hal, List.length_map]; exact szOk hz))
      show wpAny _ _ _ _ _ { s with heap := h'.push (seqObj "list" acc.toList.toArray 0), toks := tk }
      exact wpAny_bind (wpAny_holding (wpAny_mono (run_sort hr (I.kept (t' := tk) hk) rv rds ok q) (fun _ s' x => wpAny_pure ⟨_, rfl, x⟩) fun _ _ e => e))
    · cases hi
  · cases hi
theorem b_sort {k : Nat} (hc : X.calm = true) (hr : Room k X.A) : BltR X T "sorted" sortD := ⟨_, cr_sortD (T := T) hc hr, fun vs ds H M Q Qd r0 m h q => by
  unfold sortD at h
  split at h
  · obtain ⟨v, rfl, r⟩ := r0.one_inv
    split at h
    · rename_i xs e
      exact ⟨v, _, M, xs, rfl, r, m, e, h.1, fun vs' p rv hp => q _ _ _ _ (.new hp) (.ref p) (m.newL hp rv) (h.2 p (m.fresh hp))⟩
    · exact h.elim
  · exact h.elim⟩
theorem sortXs_map {β : Type} (f : β → D) (le : β → β → Bool) (bs : List β) (h : PySem.W.dataLe false (fun b => pyD (f b)) = le) : sortXs (bs.map f) = (bs.mergeSort le).map f := by
  unfold sortXs
  rw [← h]
  exact (List.map_mergeSort (f := f) fun a _ b _ => rfl).symm
theorem sortXs_int (ns : List Int) : sortXs (ns.map D.int) = (ns.mergeSort fun a b => decide (a ≤ b)).map D.int :=
  sortXs_map D.int _ ns (PySem.W.dataLe_int fun b : Int => b)
theorem sortXs_ii {β : Type} (x y : β → Int) (bs : List β) : sortXs (bs.map fun b => D.tup [.int (x b), .int (y b)]) = (bs.mergeSort fun p q => decide (x p < x q ∨ (x p = x q ∧ y p ≤ y q))).map fun b => D.tup [.int (x b), .int (y b)] :=
  sortXs_map _ _ bs (PySem.W.dataLe_ii x y)
theorem okSort_int {ns : List Int} (h : SzOk ns.length) : OkSort (ns.map D.int) := by
  refine ⟨?_, .inr ?_, by rw [List.length_map]; exact h, ?_⟩
  · intro d hd d' hd'
    rw [List.map_map] at hd hd'
    obtain ⟨a, _, rfl⟩ := List.mem_map.mp hd
    obtain ⟨b, _, rfl⟩ := List.mem_map.mp hd'
    rfl
  · intro d hd
    rw [List.map_map] at hd
    obtain ⟨a, _, rfl⟩ := List.mem_map.mp hd
    exact ⟨fun h => (nomatch h), fun _ h => (nomatch h)⟩
  · intro d hd
    obtain ⟨a, _, rfl⟩ := List.mem_map.mp hd
    exact ⟨rfl, by show (PyData.int a).depth ≤ 100; simp [PyData.depth]⟩
theorem okSort_ii {β : Type} {x y : β → Int} {bs : List β} (h : SzOk bs.length) : OkSort (bs.map fun b => D.tup [.int (x b), .int (y b)]) := by
  refine ⟨?_, .inl ?_, by rw [List.length_map]; exact h, ?_⟩
  · intro d hd d' hd'
    rw [List.map_map] at hd hd'
    obtain ⟨a, _, rfl⟩ := List.mem_map.mp hd
    obtain ⟨b, _, rfl⟩ := List.mem_map.mp hd'
    rfl
  · intro d hd
    rw [List.map_map] at hd
    obtain ⟨a, _, rfl⟩ := List.mem_map.mp hd
    exact ⟨_, _, rfl⟩
  · intro d hd
    obtain ⟨a, _, rfl⟩ := List.mem_map.mp hd
    exact ⟨rfl, by show (PyData.tuple [.int (x a), .int (y a)]).depth ≤ 100; simp [PyData.depth, PyData.depthAll]⟩

/-! ## max, min with a default -/
@[simp] def mxD (mx : Bool) (ds es : List D) (M : Mp) (Q : DQ) : Prop := match ds, es with
  | [.ref a], [d] => (match listI a M with
    | some [] => Q d M
    | some (n :: ns) => SzOk (ns.length + 1) ∧ Q (.int (if mx then ns.foldl max n else ns.foldl min n)) M
    | none => False)
  | _, _ => False
def rMxD (K : Fr) (mx : Bool) : List V → List V → Hp → VK → Prop := fun vs zs H Q => ∃ (a : Addr) (ns : List Int) (d : V), vs = [.ref a] ∧ zs = [d] ∧ SqL K H a (ns.map V.int) ∧ SzOk ns.length ∧ match ns with
  | [] => Q d H
  | n :: ns => Q (.int (if mx then ns.foldl max n else ns.foldl min n)) H
theorem alikeAll_ints (ns : List Int) : PySem.W.AlikeAll (ns.map PyData.int) := by
  refine ⟨fun x hx y hy => ?_, fun x hx => ?_⟩
  · obtain ⟨a, _, rfl⟩ := List.mem_map.mp hx
    obtain ⟨b, _, rfl⟩ := List.mem_map.mp hy
    rfl
  · obtain ⟨a, _, rfl⟩ := List.mem_map.mp hx
    exact fun h => nomatch h
theorem depth_ints : ∀ ns : List Int, PyData.depthAll (ns.map PyData.int) = 0
  | [] => by simp [PyData.depthAll]
  | n :: ns => by rw [List.map_cons, PyData.depthAll, depth_ints ns]; simp [PyData.depth]
theorem cr_mxD {mx : Bool} {k : Nat} (hc : X.calm = true) (hr : Room k X.A) : CallRK X (.builtin (if mx then "max" else "min")) [Str.ofString "default"] (rMxD X.K mx) := by
  intro pins s σ H xs zs us ws Q I r rz h
  obtain ⟨a, ns, d, rfl, rfl, hs, hz, q⟩ := h
  obtain ⟨its, rv, hl, _⟩ := I.list hs
  obtain rfl := Vals.ref1 r
  obtain ⟨w1, rfl, e1⟩ := vals1 rz
  have hra := PyProof.Rows.IntsAre.reads s.heap rv.ints
  have hu : X.A.units + 1 + PyData.depthAll (ns.map PyData.int) < cLine := by
    rw [depth_ints]; have := hr.un; omega
  have e0 : ns.map PyData.int = [] → ns = [] := fun h => by cases ns with | nil => rfl | cons => cases h
  have fin : ∀ (mx' : Bool) (y : PyData) (ys : List PyData) (i : Nat) (v : Value) (h' : Heap) (tk : Nat) (bs : List Addr), ns.map PyData.int = y :: ys → its.toArray[i]? = some v → Reads h' v (if mx' then PySem.W.maxD y ys else PySem.W.minD y ys) bs → mx' = mx → (∀ b o, s.heap.get? b = some o → h'.get? b = some o) → EP X pins σ Q v { s with heap := h', toks := tk } := by
    intro mx' y ys i v h' tk bs e hv hR hmx hk
    subst hmx
    cases ns with
    | nil => cases e
    | cons n ns =>
      rw [List.map_cons] at e
      injection e with e2 e3
      subst e2; subst e3
      have e4 : (if mx' then PySem.W.maxD (.int n) (ns.map .int) else PySem.W.minD (.int n) (ns.map .int)) = PyData.int (if mx' then ns.foldl max n else ns.foldl min n) := by
        cases mx' with
        | true => exact PySem.W.maxD_ints n ns
        | false => exact PySem.W.minD_ints n ns
      rw [e4] at hR
      obtain ⟨t, rfl⟩ : ∃ t, v = Value.int (if mx' then ns.foldl max n else ns.foldl min n) t := by
        cases hR; exact ⟨_, rfl⟩
      exact ⟨.int _, H, I.kept (t' := tk) hk, ⟨t, rfl⟩, q⟩
  have nil : ns = [] → ∀ h' tk, (∀ b o, s.heap.get? b = some o → h'.get? b = some o) → EP X pins σ Q w1 { s with heap := h', toks := tk } := by
    intro e h' tk hk
    subst e
    exact ⟨d, H, I.kept (t' := tk) hk, e1, q⟩
  cases mx with
  | true => exact PySem.W.max_list_default (I.ok.hd hc) hl.isList (as := []) hra (alikeAll_ints ns) hu (fun e => nil (e0 e)) fun y ys i v h' tk bs e hv hR hk => fin true y ys i v h' tk bs e hv hR rfl hk
  | false => exact PySem.W.min_list_default (I.ok.hd hc) hl.isList (as := []) hra (alikeAll_ints ns) hu (fun e => nil (e0 e)) fun y ys i v h' tk bs e hv hR hk => fin false y ys i v h' tk bs e hv hR rfl hk
@[simp] def dMx (mx : Bool) (t tk : TDA) : TDE := fun τ M Q E => t τ M (fun ds M1 => tk τ M1 (fun es M2 => mxD mx ds es M2 Q) E) E
def DK (X : Cx) (T : Tb) (W : WX) (kws : List Keyword) (t : TDA) : Prop := PK X kws (liftA X.K T W t)
theorem PK_imp {kws : List Keyword} {t t' : TA} (h : PK X kws t) (i : ∀ σ H Q, t' σ H Q → t σ H Q) : PK X kws t' := ⟨fun pos pins s σ H Q I hq => h.run pos pins s σ H Q I (i σ H Q hq)⟩
theorem dk_nil : DK X T W [] dNil := PK_imp pk_nil fun σ H Q ⟨τ, M, Qd, E, hs, hm, ht, hq, _⟩ => hq [] [] H M (.refl H) .nil hm ht
theorem dk_cons {nm kpos} {kws : List Keyword} (ha : DE X T W e ta) (hr : DK X T W kws tr) : DK X T W (⟨nm, e, kpos⟩ :: kws) (dCons ta tr) :=
  PK_imp (pk_cons ha hr) fun σ H Q ⟨τ, M, Qd, E, hs, hm, ht, hq, hx⟩ => ⟨τ, M, _, E, hs, hm, ht, fun x dx H1 M1 k1 r1 m1 h1 =>
    ⟨τ, M1, _, E, hs.keep k1, m1, h1, fun xs ds H2 M2 k2 r2 m2 h2 => hq _ _ _ _ (k1.trans k2) (.cons (r1.keep k2) r2) m2 h2, hx.keep k1⟩, hx⟩
theorem de_mx {mx : Bool} {kws : List Keyword} {tk : TDA} (hc : X.calm = true) (hr : Room k X.A) (hg : Gl X x) (hm : X.mg x = none) (hv : bootBuiltins x = some (.builtin (if mx then "max" else "min"))) (ha : DA X T W [e] t) (hk : DK X T W kws tk) (hn : x ≠ "__name__" := by decide) (hdb : (x == ("__debug__" : Str)) = false := by decide)
    (he : backTo pos (starEach [e] X.env) = (false, eval e X.env) :: backTo pos (starEach [] X.env) := by rfl) (hpl : (backTo pos (starEach [e] X.env)).any (·.1) = false := by rfl)
    (hall : (backToKw pos (keywordEach kws X.env)).all (·.1.isSome) = true := by rfl) (hnone : (backToKw pos (keywordEach kws X.env)).any (·.1.isNone) = false := by rfl) (hks : (backToKw pos (keywordEach kws X.env)).filterMap (·.1) = [Str.ofString "default"] := by rfl) :
    DE X T W (.Call (.Name x p) [e] kws pos) (dMx mx t tk) :=
  PE_imp (pe_callBK (cr_mxD (mx := mx) hc hr) hg hm hv ha hk hn hdb he hpl hall hnone hks) fun σ H Q ⟨τ, M, Qd, E, hs, hm, ht, hq, hx⟩ =>
    ⟨τ, M, _, E, hs, hm, ht, fun vs ds H1 M1 k1 r1 m1 h1 => ⟨τ, M1, _, E, hs.keep k1, m1, h1, fun zs es H2 M2 k2 r2 m2 h2 => by
      have r3 := (r1.keep k2).append r2
      unfold mxD at h2
      split at h2
      · rename_i a d
        obtain ⟨v, rfl, rv⟩ := (r1.keep k2).one_inv
        obtain ⟨w, rfl, rw'⟩ := r2.one_inv
        rw [rv.ref_inv]
        split at h2
        · rename_i e1
          exact ⟨a, [], w, rfl, rfl, listI_lift m2 e1, Nat.zero_le _, hq _ _ _ _ (k1.trans k2) rw' m2 h2⟩
        · rename_i n ns e1
          exact ⟨a, n :: ns, w, rfl, rfl, listI_lift m2 e1, h2.1, hq _ _ _ _ (k1.trans k2) (.int _) m2 h2.2⟩
        · exact h2.elim
      · exact h2.elim, hx.keep k1⟩, hx⟩
end
end DL

set_option Elab.async false
set_option linter.all false
set_option maxRecDepth 100000
set_option maxHeartbeats 2000000
namespace DL
open PySem PySem.Spec PyProof.Rows L2

/-! ## recursion -/
section
variable {P : Program} {w : World} {K : Fr} {mg : Str → Option Value} {base : Heap} {T : Tb} {x qual : Str} {params : Arguments} {body : List Stmt} {scope : Scope} {f : Addr} {fd : FuncData} {ps : List Str} {k n : Nat}
theorem fnD_bot {nm : Str} (F : FunD K nm qual params body scope [] [] f fd) (hm : mg x = some (.ref f)) (b : Binds K fd ps []) : FnD P w K mg base T x k ps.length (fun _ _ _ _ => False) :=
  ⟨f, fd, ps, rfl, ⟨fun vs H Q E ⟨h, _⟩ => h, fun A outer s H args us vs Q E hr he hb hv ⟨_, _, _, _, _, _, _, z, _⟩ => z.elim⟩, hm, F.kp, b⟩
theorem fnD_rec {nm : Str} {sp : Nat → DSp} (F : FunD K nm qual params body scope [] [] f fd) (hm : mg x = some (.ref f)) (b : Binds K fd ps []) (h0 : ∀ ds M Q E, ¬ sp 0 ds M Q E)
    (step : ∀ j, FnD P w K mg base T x (k + j) ps.length (sp j) → FnD P w K mg base T x (k + j + 1) ps.length (sp (j + 1))) : ∀ j, FnD P w K mg base T x (k + j) ps.length (sp j)
  | 0 => (fnD_bot F hm b).imp fun _ _ _ _ h => h0 _ _ _ _ h
  | j + 1 => step j (fnD_rec F hm b h0 step j)
theorem FnD.drw {sp sp' : DSp} (F : FnD P w K mg base T x k n sp)
    (h : ∀ ds M Q E, sp' ds M Q E → ∀ H : Hp, RepH K T H M → ∃ M2, RepH K T H M2 ∧ sp ds M2 (gcQ Q) (fun C f d M => ∃ M1, MSub M1 M ∧ E C f d M1)) : FnD P w K mg base T x k n sp' := by
  obtain ⟨f, fd, ps, h1, h2, h3, h4, h5⟩ := F
  refine ⟨f, fd, ps, h1, h2.imp fun vs H Q E ⟨q0, ds, M, Qd, Ed, q1, q2, q3, q4, q5⟩ => ?_, h3, h4, h5⟩
  obtain ⟨M2, r2, s2⟩ := h ds M Qd Ed q3 H q2
  exact ⟨q0, ds, M2, _, _, q1, r2, s2, fun v d H' M' k r m ⟨M1, a, b⟩ => q4 v d H' M1 k r (m.sub a) b, fun C f d cls dx H' M' k x m ⟨M1, a, b⟩ => q5 C f d cls dx H' M1 k x (m.sub a) b⟩
end

/-! ## reading off: simp -/
variable {M : Mp} {Q : DQ}
@[simp] theorem mup_in {a b : Addr} {x y z : MO} : mup (mup (mup M a x) b y) a z = mup (mup M b y) a z := by
  funext c; unfold mup; by_cases h : c = a <;> simp [h]
@[simp] theorem mup_in2 {a b c : Addr} {x y z u : MO} : mup (mup (mup (mup M a x) b y) c z) a u = mup (mup (mup M b y) c z) a u := by
  funext e; unfold mup; by_cases h : e = a <;> simp [h]
theorem MLe.mup {M' : Mp} (k : MLe M M') {p : Addr} {o : MO} : MLe (DL.mup M p o) (DL.mup M' p o) := fun a u e => by
  by_cases h : a = p
  · subst h; rw [mup_same] at e ⊢; exact e
  · rw [mup_ne h] at e ⊢; exact k a u e
@[simp] theorem isNon_non : DL.isNon .non = true := rfl
@[simp] theorem isNon_tup {l : List D} : DL.isNon (.tup l) = false := rfl
@[simp] theorem isNon_int {i : Int} : DL.isNon (.int i) = false := rfl
@[simp] theorem isNon_str {i : Str} : DL.isNon (.str i) = false := rfl
@[simp] theorem isNon_bl {i : Bool} : DL.isNon (.bl i) = false := rfl
@[simp] theorem isNon_ref {i : Addr} : DL.isNon (.ref i) = false := rfl
theorem ixN_nat {n i : Nat} (h : i < n) : ixN n (i : Int) = some i := by
  unfold ixN
  rw [if_pos (by omega), if_pos (by omega)]; rfl
theorem atI_nat {α : Type} {l : List α} {i : Nat} (h : i < l.length) : atI l (i : Int) = some l[i] := by
  unfold atI
  rw [ixN_nat h]
  exact List.getElem?_eq_getElem h
@[simp] theorem atI_0 {α : Type} {a : α} {l : List α} : atI (a :: l) 0 = some a := atI_nat (i := 0) (by simp)
@[simp] theorem atI_1 {α : Type} {a b : α} {l : List α} : atI (a :: b :: l) 1 = some b := atI_nat (i := 1) (by simp)
@[simp] theorem atI_2 {α : Type} {a b c : α} {l : List α} : atI (a :: b :: c :: l) 2 = some c := atI_nat (i := 2) (by simp)
@[simp] theorem atI_3 {α : Type} {a b c d : α} {l : List α} : atI (a :: b :: c :: d :: l) 3 = some d := atI_nat (i := 3) (by simp)
@[simp] theorem atI_4 {α : Type} {a b c d e : α} {l : List α} : atI (a :: b :: c :: d :: e :: l) 4 = some e := atI_nat (i := 4) (by simp)
theorem atI_get {α : Type} {l : List α} {i : Int} {a : α} (h0 : 0 ≤ i) (h : l[i.toNat]? = some a) : atI l i = some a := by
  have hl : i.toNat < l.length := (List.getElem?_eq_some_iff.mp h).1
  have e : ((i.toNat : Nat) : Int) = i := by omega
  rw [← e, atI_nat hl, ← h, List.getElem?_eq_getElem hl]
theorem atI_last {α : Type} {l : List α} {a : α} : atI (l ++ [a]) (-1) = some a := by
  unfold atI ixN
  rw [if_neg (by decide), if_pos (by simp; omega)]
  simp only [Option.bind_some, List.length_append, List.length_singleton]
  rw [show (-1 + ((l.length + 1 : Nat) : Int)).toNat = l.length from by omega]; simp
/-! ### by constructors -/
section
variable {i j : Int} {xs ys : List D} {a b : Addr} {x y d : D} {u v : Str} {p q : Bool} {neg : Bool} {c : String} {C : Int → Int → Prop} {g : Int → Int → D} {g1 : Int → Int} {R : List D → (Mp → Prop) → Mp → Prop} {P : Mp → Prop}
@[simp] theorem dI_ii : dI C g (.int i) (.int j) M Q = (C i j ∧ Q (g i j) M) := rfl
@[simp] theorem dI0_ii : dI0 g (.int i) (.int j) M Q = Q (g i j) M := rfl
@[simp] theorem dU_i : dU g1 (.int i) M Q = Q (.int (g1 i)) M := rfl
@[simp] theorem addD_ii : addD (.int i) (.int j) M Q = Q (.int (i + j)) M := rfl
@[simp] theorem addD_ss : addD (.str u) (.str v) M Q = (u.length + v.length ≤ 16777216 ∧ Q (.str (u ++ v)) M) := rfl
@[simp] theorem addD_tt : addD (.tup xs) (.tup ys) M Q = (xs.length + ys.length ≤ 16777216 ∧ Q (.tup (xs ++ ys)) M) := rfl
theorem addD_ll (h : M a = some (.lst xs)) (h' : M b = some (.lst ys)) : addD (.ref a) (.ref b) M Q = (xs.length + ys.length ≤ 16777216 ∧ ∀ p, M p = none → Q (.ref p) (mup M p (.lst (xs ++ ys)))) := by
  simp [addD, h, h']
@[simp] theorem mulD_ii : mulD (.int i) (.int j) M Q = (CMul i j ∧ Q (.int (i * j)) M) := rfl
theorem mulD_li (h : M a = some (.lst xs)) : mulD (.ref a) (.int j) M Q = (-(2 ^ 63) ≤ j ∧ j < 2 ^ 63 ∧ xs.length * j.toNat ≤ 16777216 ∧ ∀ p, M p = none → Q (.ref p) (mup M p (.lst (List.replicate j.toNat xs).flatten))) := by
  simp [mulD, h]
@[simp] theorem addI_ii : addI (.int i) (.int j) M Q = Q (.int (i + j)) M := rfl
@[simp] theorem addI_ss : addI (.str u) (.str v) M Q = (u.length + v.length ≤ 16777216 ∧ Q (.str (u ++ v)) M) := rfl
@[simp] theorem isD_non : isD neg x .non M Q = Q (.bl (if neg then !DL.isNon x else DL.isNon x)) M := by cases x <;> rfl
@[simp] theorem isD_bb : isD neg (.bl p) (.bl q) M Q = Q (.bl (if neg then !decide (p = q) else decide (p = q))) M := rfl
@[simp] theorem tyD_non : tyD .non M = some "NoneType" := rfl
@[simp] theorem tyD_bl : tyD (.bl p) M = some "bool" := rfl
@[simp] theorem tyD_int : tyD (.int i) M = some "int" := rfl
@[simp] theorem tyD_str : tyD (.str u) M = some "str" := rfl
@[simp] theorem tyD_tup : tyD (.tup xs) M = some "tuple" := rfl
@[simp] theorem isiD_non : isiD c .non M Q = Q (.bl (isiB "NoneType" c)) M := rfl
@[simp] theorem isiD_bl : isiD c (.bl p) M Q = Q (.bl (isiB "bool" c)) M := rfl
@[simp] theorem isiD_int : isiD c (.int i) M Q = Q (.bl (isiB "int" c)) M := rfl
@[simp] theorem isiD_str : isiD c (.str u) M Q = Q (.bl (isiB "str" c)) M := rfl
@[simp] theorem isiD_tup : isiD c (.tup xs) M Q = Q (.bl (isiB "tuple" c)) M := rfl
theorem isiD_lst (h : M a = some (.lst xs)) : isiD c (.ref a) M Q = Q (.bl (isiB "list" c)) M := by
  simp [isiD, tyD, h]
theorem isiD_dct {kvs : List (Key × D)} (h : M a = some (.dK kvs)) : isiD c (.ref a) M Q = Q (.bl (isiB "dict" c)) M := by
  simp [isiD, tyD, h]
@[simp] theorem ixA_tup : ixA (.tup xs) (.int i) M Q = (match atI xs i with | some d => Q d M | none => False) := rfl
@[simp] theorem ixA_str : ixA (.str u) (.int i) M Q = (u.length ≤ 16777216 ∧ (match atI u.cps.toList i with | some c => Q (.str ⟨#[c]⟩) M | none => False)) := rfl
@[simp] theorem ixA_ref : ixA (.ref a) y M Q = (match M a with | some (.dK _) => ixK (.ref a) y M Q | some (.dL _) => ixK (.ref a) y M Q | _ => ixD (.ref a) y M Q) := rfl
@[simp] theorem ixD_ref : ixD (.ref a) (.int i) M Q = (match M a with | some (.lst xs) => (match atI xs i with | some d => Q d M | none => False) | _ => False) := rfl
@[simp] theorem ixK_ref : ixK (.ref a) y M Q = (match M a, dkey y with | some (.dK ms), some k => (match kget ms k with | some d => Q d M | none => False) | some (.dL ms), some k => (match kget ms k with | some d => Q d M | none => False) | _, _ => False) := rfl
@[simp] theorem dkey_int : dkey (.int i) = some (.inl i) := rfl
@[simp] theorem dkey_str : dkey (.str u) = some (.inr u) := rfl
@[simp] theorem lenD_str : lenD [.str u] M Q = (u.length ≤ 16777216 ∧ Q (.int u.length) M) := rfl
@[simp] theorem lenD_tup : lenD [.tup xs] M Q = Q (.int xs.length) M := rfl
@[simp] theorem lenD_ref : lenD [.ref a] M Q = (match M a with | some (.lst xs) => Q (.int xs.length) M | some (.dK kvs) => Q (.int kvs.length) M | _ => False) := rfl
@[simp] theorem seqD_tup : seqD (.tup xs) M = some xs := rfl
@[simp] theorem seqD_ref : seqD (.ref a) M = (match M a with | some (.lst xs) => some xs | _ => none) := rfl
@[simp] theorem itemsD_tup : itemsD (.tup xs) M = some xs := rfl
@[simp] theorem itemsD_ref : itemsD (.ref a) M = (match M a with | some (.lst xs) => some xs | some (.dK kvs) => some (kvs.map fun kv => kD kv.1) | _ => none) := rfl
@[simp] theorem tupleD_one : tupleD [d] M Q = (match seqD d M with | some xs => Q (.tup xs) M | none => False) := rfl
@[simp] theorem listD_scr {ns : List Int} : listD [.scr ns] M Q = (∀ p, M p = none → Q (.ref p) (mup M p (.lst (ns.map D.int)))) := rfl
@[simp] theorem listD_tup : listD [.tup xs] M Q = (∀ p, M p = none → Q (.ref p) (mup M p (.lst xs))) := rfl
@[simp] theorem listD_ref : listD [.ref a] M Q = (match seqD (.ref a) M with | some xs => ∀ p, M p = none → Q (.ref p) (mup M p (.lst xs)) | none => False) := rfl
@[simp] theorem intD_int : intD [.int i] M Q = Q (.int i) M := rfl
@[simp] theorem intD_bl : intD [.bl p] M Q = Q (.int (if p then 1 else 0)) M := rfl
@[simp] theorem absD_int : absD [.int i] M Q = Q (.int (if i < 0 then -i else i)) M := rfl
@[simp] theorem maxD_ii : maxD [.int i, .int j] M Q = Q (.int (if j > i then j else i)) M := rfl
@[simp] theorem minD_ii : minD [.int i, .int j] M Q = Q (.int (if j < i then j else i)) M := rfl
@[simp] theorem maxD_ref : maxD [.ref a] M Q = (match listI a M with | some ns => 0 < ns.length ∧ ∀ m, m ∈ ns → (∀ y, y ∈ ns → y ≤ m) → Q (.int m) M | none => False) := rfl
@[simp] theorem minD_ref : minD [.ref a] M Q = (match listI a M with | some ns => 0 < ns.length ∧ ∀ m, m ∈ ns → (∀ y, y ∈ ns → m ≤ y) → Q (.int m) M | none => False) := rfl
@[simp] theorem sumD_ref : sumD [.ref a] M Q = (match listI a M with | some ns => Q (.int ns.sum) M | none => False) := rfl
@[simp] theorem allD_ref : allD [.ref a] M Q = (match listB a M with | some bs => Q (.bl (bs.all id)) M | none => False) := rfl
@[simp] theorem anyD_ref : anyD [.ref a] M Q = (match listB a M with | some bs => Q (.bl (bs.any id)) M | none => False) := rfl
@[simp] theorem dtru_non : dtru .non M = some false := rfl
@[simp] theorem dtru_bl : dtru (.bl p) M = some p := rfl
@[simp] theorem dtru_int : dtru (.int i) M = some (i != 0) := rfl
@[simp] theorem dtru_tup : dtru (.tup xs) M = some (!xs.isEmpty) := rfl
@[simp] theorem dtru_ref : dtru (.ref a) M = (match M a with | some (.lst xs) => some (!xs.isEmpty) | some (.dK kvs) => some (!kvs.isEmpty) | _ => none) := rfl
theorem dtru_str (h : u.length ≤ 16777216) : dtru (.str u) M = some ((u.length : Int) != 0) := by
  unfold dtru
  have e : u.length ≤ sizeLine := szOk h
  simp [e]
@[simp] theorem isLst_ref : isLst (.ref a) M = (match M a with | some (.lst _) => True | _ => False) := rfl
@[simp] theorem isDct_ref : isDct (.ref a) M = (match M a with | some (.dK _) => True | _ => False) := rfl
@[simp] theorem sliceD_tup {l h : Option Int} : sliceD (.tup xs) l h M Q = Q (.tup (gcut xs l h)) M := rfl
@[simp] theorem sliceD_ref {l h : Option Int} : sliceD (.ref a) l h M Q = (match M a with | some (.lst xs) => ∀ p, M p = none → Q (.ref p) (mup M p (.lst (gcut xs l h))) | _ => False) := rfl
@[simp] theorem seqI_tup : seqI (.tup xs) M R = R xs anyM M := rfl
@[simp] theorem seqI_ref : seqI (.ref a) M R = (match M a with | some (.lst xs) => R xs (isAt a xs) M | some (.dL ms) => R (ms.map fun kv => kD kv.1) anyM M | _ => False) := rfl
@[simp] theorem zipD_tt : zipD [.tup xs, .tup ys] M R = R (zipL xs ys) anyM M := rfl
@[simp] theorem zipD_ll : zipD [.ref a, .ref b] M R = (match M a, M b with | some (.lst xs), some (.lst ys) => R (zipL xs ys) (fun M' => isAt a xs M' ∧ isAt b ys M') M | _, _ => False) := rfl
@[simp] theorem revD_tup : revD (.tup xs) M R = R xs.reverse anyM M := rfl
@[simp] theorem revD_ref : revD (.ref a) M R = (match M a with | some (.lst xs) => R xs.reverse (isAt a xs) M | _ => False) := rfl
@[simp] theorem rng1D_i : rng1D [.int i] M R = (In62 i ∧ R (rangeL 0 i.toNat) anyM M) := rfl
@[simp] theorem rng2D_i : rng2D [.int i, .int j] M R = (In62 i ∧ In62 j ∧ R (rangeL i (j - i).toNat) anyM M) := rfl
theorem setD_lst (h : M a = some (.lst xs)) : setD (.ref a) (.int i) d M P = (match ixN xs.length i with | some j => P (mup M a (.lst (xs.set j d))) | none => False) := by
  simp only [setD, h] <;> cases ixN xs.length i <;> rfl
theorem setD_dct {kvs : List (Key × D)} (h : M a = some (.dK kvs)) : setD (.ref a) x d M P = (match dkey x with | some k => kvs.length + 1 ≤ 16777216 ∧ P (mup M a (.dK (kput kvs k d))) | none => False) := by
  simp only [setD, h] <;> cases dkey x <;> rfl
@[simp] theorem setD_ref : setD (.ref a) x d M P = (match M a, x with
    | some (.lst xs), .int k => (match ixN xs.length k with | some j => P (mup M a (.lst (xs.set j d))) | none => False)
    | some (.dK ms), i => (match dkey i with | some k => SzOk (ms.length + 1) ∧ P (mup M a (.dK (kput ms k d))) | none => False)
    | _, _ => False) := rfl
@[simp] theorem popKD_ref {z : D} : popKD (.ref a) y z M Q = (match M a, dkey y with | some (.dK ms), some k => (match kget ms k with | some d => Q d (mup M a (.dK (kdrop ms k))) | none => Q z M) | _, _ => False) := rfl
@[simp] theorem inD_dct : inD neg x (.ref a) M Q = (match M a with
    | some (.lst ys) => SeqAt.shaped (pyD x) = true ∧ SeqAt.shaped (.list (pyDs ys)) = true ∧ Q (.bl (if neg then !(ys.any fun z => PyData.eqv (pyD z) (pyD x)) else ys.any fun z => PyData.eqv (pyD z) (pyD x))) M
    | some (.dK ms) => (match dkey x with | some k => Q (.bl (if neg then !(kget ms k).isSome else (kget ms k).isSome)) M | none => False)
    | _ => False) := rfl
@[simp] theorem inD_tup : inD neg x (.tup ys) M Q = (flatD x = true ∧ ys.all flatD = true ∧ Q (.bl (if neg then !(ys.any fun z => PyData.eqv (pyD z) (pyD x)) else ys.any fun z => PyData.eqv (pyD z) (pyD x))) M) := rfl
end
/-! ### == -/
@[simp] theorem pyM_int {i : Int} : pyM M (.int i) = .int i := rfl
@[simp] theorem pyM_non : pyM M .non = .none := rfl
@[simp] theorem pyM_bl {b : Bool} : pyM M (.bl b) = .bool b := rfl
@[simp] theorem pyM_str {b : Str} : pyM M (.str b) = .str b := rfl
@[simp] theorem pyM_tup {l : List D} : pyM M (.tup l) = .tuple (pyDs l) := rfl
theorem pyM_lst {a : Addr} {l : List D} (h : M a = some (.lst l)) : pyM M (.ref a) = .list (pyDs l) := by
  show (match M a with | some (.lst xs) => PyData.list (pyDs xs) | _ => .dict []) = _
  rw [h]
mutual
/-- no truth values, no objects -/
def NB : D → Bool
  | .non => true
  | .int _ => true
  | .str x => PyData.strOk x
  | .tup l => NBs l
  | _ => false
def NBs : List D → Bool
  | [] => true
  | d :: ds => NB d && NBs ds
end
theorem NBs_all : ∀ l : List D, NBs l = l.all NB
  | [] => rfl
  | d :: ds => by rw [NBs, NBs_all ds]; rfl
mutual
theorem NB.lay : ∀ {d : D}, NB d = true → PyData.canLay0 (pyD d) = true
  | .non, _ => by simp [pyD, PyData.canLay0]
  | .int _, _ => by simp [pyD, PyData.canLay0]
  | .str _, h => by simpa [pyD, PyData.canLay0, NB] using h
  | .tup l, h => by simpa [pyD, PyData.canLay0] using NBs.lay (by simpa [NB] using h)
  | .bl _, h => by simp [NB] at h
  | .ref _, h => by simp [NB] at h
  | .scr _, h => by simp [NB] at h
theorem NBs.lay : ∀ {ds : List D}, NBs ds = true → PyData.canLayAll0 (pyDs ds) = true
  | [], _ => by simp [pyDs, PyData.canLayAll0]
  | d :: ds, h => by
    rw [NBs, Bool.and_eq_true] at h
    simp [pyDs, PyData.canLayAll0, NB.lay h.1, NBs.lay h.2]
end
mutual
theorem NB.eqv : ∀ {x y : D}, NB x = true → NB y = true → PyData.eqv (pyD x) (pyD y) = true → x = y
  | .non, y, _, hy, h => by cases y <;> first | rfl | (simp [NB] at hy; done) | (simp [pyD, PyData.eqv] at h)
  | .int i, y, _, hy, h => by cases y <;> first | (simp [NB] at hy; done) | (simp [pyD, PyData.eqv] at h; done) | (simp [pyD, PyData.eqv] at h; rw [h])
  | .str i, y, _, hy, h => by cases y <;> first | (simp [NB] at hy; done) | (simp [pyD, PyData.eqv] at h; done) | (simp [pyD, PyData.eqv] at h; rw [h])
  | .tup l, y, hx, hy, h => by
    cases y <;> first | (simp [NB] at hy; done) | (simp [pyD, PyData.eqv] at h; done) | skip
    rename_i l'
    have e : l = l' := NBs.eqv (by simpa [NB] using hx) (by simpa [NB] using hy) (by simpa [pyD, PyData.eqv] using h)
    rw [e]
  | .bl _, _, h, _, _ => by simp [NB] at h
  | .ref _, _, h, _, _ => by simp [NB] at h
  | .scr _, _, h, _, _ => by simp [NB] at h
theorem NBs.eqv : ∀ {x y : List D}, NBs x = true → NBs y = true → PyData.eqvAll (pyDs x) (pyDs y) = true → x = y
  | [], [], _, _, _ => rfl
  | [], _ :: _, _, _, h => by simp [pyDs, PyData.eqvAll] at h
  | _ :: _, [], _, _, h => by simp [pyDs, PyData.eqvAll] at h
  | a :: l, b :: m, hx, hy, h => by
    rw [NBs, Bool.and_eq_true] at hx hy
    rw [pyDs, pyDs, PyData.eqvAll, Bool.and_eq_true] at h
    rw [NB.eqv hx.1 hy.1 h.1, NBs.eqv hx.2 hy.2 h.2]
end
mutual
theorem NB.refl : ∀ {x : D}, NB x = true → PyData.eqv (pyD x) (pyD x) = true
  | .non, _ => by simp [pyD, PyData.eqv]
  | .int _, _ => by simp [pyD, PyData.eqv]
  | .str _, _ => by simp [pyD, PyData.eqv]
  | .tup l, h => by simpa [pyD, PyData.eqv] using NBs.refl (by simpa [NB] using h)
  | .bl _, h => by simp [NB] at h
  | .ref _, h => by simp [NB] at h
  | .scr _, h => by simp [NB] at h
theorem NBs.refl : ∀ {x : List D}, NBs x = true → PyData.eqvAll (pyDs x) (pyDs x) = true
  | [], _ => by simp [pyDs, PyData.eqvAll]
  | d :: ds, h => by
    rw [NBs, Bool.and_eq_true] at h
    simp [pyDs, PyData.eqvAll, NB.refl h.1, NBs.refl h.2]
end
/-- how deep -/
def dpD (d : D) : Nat := (pyD d).depth
def dpDs (d : List D) : Nat := PyData.depthAll (pyDs d)
@[simp] theorem dpD_int {i : Int} : dpD (.int i) = 0 := by simp [dpD, pyD, PyData.depth]
@[simp] theorem dpD_non : dpD .non = 0 := by simp [dpD, pyD, PyData.depth]
@[simp] theorem dpD_str {i : Str} : dpD (.str i) = 0 := by simp [dpD, pyD, PyData.depth]
@[simp] theorem dpD_bl {i : Bool} : dpD (.bl i) = 0 := by simp [dpD, pyD, PyData.depth]
@[simp] theorem dpD_tup {l : List D} : dpD (.tup l) = dpDs l + 1 := by simp [dpD, dpDs, pyD, PyData.depth]
@[simp] theorem dpDs_nil : dpDs [] = 0 := by simp [dpDs, pyDs, PyData.depthAll]
@[simp] theorem dpDs_cons {d : D} {l : List D} : dpDs (d :: l) = max (dpD d) (dpDs l) := by simp [dpDs, dpD, pyDs, PyData.depthAll]
theorem dpDs_le {n : Nat} : ∀ {l : List D}, (∀ d ∈ l, dpD d ≤ n) → dpDs l ≤ n
  | [], _ => by simp
  | d :: l, h => by
    rw [dpDs_cons]
    have h1 := h d (by simp)
    have h2 := dpDs_le (l := l) fun x hx => h x (by simp [hx])
    omega
theorem eqv_iff {x y : D} (hx : NB x = true) (hy : NB y = true) : PyData.eqv (pyD x) (pyD y) = true ↔ x = y :=
  ⟨NB.eqv hx hy, fun e => by subst e; exact NB.refl hx⟩
theorem eqv_val {x y : D} (hx : NB x = true) (hy : NB y = true) {b : Bool} (hb : (b = true) ↔ x = y) : PyData.eqv (pyD x) (pyD y) = b :=
  Bool.eq_iff_iff.mpr ((eqv_iff hx hy).trans hb.symm)
theorem shaped_D {x : D} (hx : NB x = true) (d : dpD x ≤ 64) : SeqAt.shaped (pyD x) = true := by
  unfold SeqAt.shaped
  rw [NB.lay hx, Bool.true_and]
  exact decide_eq_true d
theorem pyM_NB {x : D} (hx : NB x = true) : pyM M x = pyD x := by
  cases x <;> first | rfl | (simp [NB] at hx)
/-- two values without truth values -/
theorem eqD_val {neg : Bool} {x y : D} (hx : NB x = true) (hy : NB y = true) (dx : dpD x ≤ 64) (dy : dpD y ≤ 64) (b : Bool) (hb : (b = true) ↔ x = y) (h : Q (.bl (if neg then !b else b)) M) : eqD neg x y M Q := by
  refine ⟨by rw [pyM_NB hx]; exact shaped_D hx dx, by rw [pyM_NB hy]; exact shaped_D hy dy, ?_⟩
  rw [pyM_NB hx, pyM_NB hy]
  have e := eqv_val hx hy hb
  rw [e]; exact h
theorem eqD_same {neg : Bool} {x : D} (hx : NB x = true) (dx : dpD x ≤ 64) (h : Q (.bl (!neg)) M) : eqD neg x x M Q :=
  eqD_val hx hx dx dx true (by simp) (by cases neg <;> exact h)
/-- two lists -/
theorem eqD_lst {neg : Bool} {a c : Addr} {xs ys : List D} (ha : M a = some (.lst xs)) (hc : M c = some (.lst ys)) (hx : NBs xs = true) (hy : NBs ys = true) (dx : dpDs xs ≤ 63) (dy : dpDs ys ≤ 63) (b : Bool) (hb : (b = true) ↔ xs = ys) (h : Q (.bl (if neg then !b else b)) M) : eqD neg (.ref a) (.ref c) M Q := by
  have e : PyData.eqvAll (pyDs xs) (pyDs ys) = b := by
    have := eqv_val (x := .tup xs) (y := .tup ys) hx hy (b := b) (hb.trans ⟨fun e => by rw [e], fun e => D.tup.inj e⟩)
    simpa only [pyD, PyData.eqv] using this
  refine ⟨?_, ?_, ?_⟩
  · rw [pyM_lst ha]; unfold SeqAt.shaped; simp [PyData.canLay0, NBs.lay hx, PyData.depth]; exact dx
  · rw [pyM_lst hc]; unfold SeqAt.shaped; simp [PyData.canLay0, NBs.lay hy, PyData.depth]; exact dy
  · rw [pyM_lst ha, pyM_lst hc]
    simp only [PyData.eqv, e]; exact h
@[simp] theorem NB_int {i : Int} : NB (.int i) = true := rfl
@[simp] theorem NB_non : NB .non = true := rfl
@[simp] theorem NB_str {i : Str} : NB (.str i) = PyData.strOk i := rfl
@[simp] theorem NB_tup {l : List D} : NB (.tup l) = NBs l := rfl
@[simp] theorem NBs_nil : NBs [] = true := rfl
@[simp] theorem NBs_cons {d : D} {l : List D} : NBs (d :: l) = (NB d && NBs l) := rfl
theorem shaped_int {i : Int} : SeqAt.shaped (.int i) = true := shaped_D (x := .int i) rfl (by simp)
theorem shaped_non : SeqAt.shaped .none = true := shaped_D (x := .non) rfl (by simp)
theorem shaped_str {i : Str} (h : PyData.strOk i = true) : SeqAt.shaped (.str i) = true := shaped_D (x := .str i) h (by simp)
theorem shaped_bl {i : Bool} : SeqAt.shaped (.bool i) = true := by simp [SeqAt.shaped, PyData.canLay0, PyData.depth]
@[simp] theorem eqD_ii {neg : Bool} {i j : Int} : eqD neg (.int i) (.int j) M Q = Q (.bl (if neg then !decide (i = j) else decide (i = j))) M := by
  have e : (i == j) = decide (i = j) := rfl
  simp [eqD, shaped_int, PyData.eqv, e]
theorem eqD_ss {neg : Bool} {i j : Str} (h1 : PyData.strOk i = true) (h2 : PyData.strOk j = true) : eqD neg (.str i) (.str j) M Q = Q (.bl (if neg then !(i == j) else i == j)) M := by
  simp [eqD, shaped_str h1, shaped_str h2, PyData.eqv]
@[simp] theorem eqD_bb {neg : Bool} {i j : Bool} : eqD neg (.bl i) (.bl j) M Q = Q (.bl (if neg then !(i == j) else i == j)) M := by
  simp [eqD, shaped_bl, PyData.eqv]
@[simp] theorem eqD_ni {neg : Bool} {j : Int} : eqD neg .non (.int j) M Q = Q (.bl neg) M := by
  cases neg <;> simp [eqD, shaped_int, shaped_non, PyData.eqv]
@[simp] theorem eqD_in {neg : Bool} {j : Int} : eqD neg (.int j) .non M Q = Q (.bl neg) M := by
  cases neg <;> simp [eqD, shaped_int, shaped_non, PyData.eqv]
@[simp] theorem eqD_nn {neg : Bool} : eqD neg .non .non M Q = Q (.bl (!neg)) M := by
  cases neg <;> simp [eqD, shaped_non, PyData.eqv]
/-! ### ints in a row -/
theorem NBs_ints : ∀ ns : List Int, NBs (ns.map D.int) = true
  | [] => rfl
  | n :: ns => by simp [NBs_ints ns]
theorem dpDs_ints (ns : List Int) : dpDs (ns.map D.int) = 0 := by
  induction ns with
  | nil => simp
  | cons n ns ih => rw [List.map_cons, dpDs_cons, ih]; simp
theorem ints_inj {ns ms : List Int} (h : ns.map D.int = ms.map D.int) : ns = ms := List.map_inj_right (fun _ _ e => D.int.inj e) |>.mp h
@[simp] theorem eqD_tints {neg : Bool} {ns ms : List Int} : eqD neg (.tup (ns.map D.int)) (.tup (ms.map D.int)) M Q = Q (.bl (if neg then !decide (ns = ms) else decide (ns = ms))) M := by
  have e : PyData.eqvAll (pyDs (ns.map D.int)) (pyDs (ms.map D.int)) = decide (ns = ms) := by
    have h := eqv_val (x := .tup (ns.map D.int)) (y := .tup (ms.map D.int)) (NBs_ints ns) (NBs_ints ms) (b := decide (ns = ms)) (by simp; exact ⟨fun e => by rw [e], fun e => ints_inj e⟩)
    simpa only [pyD, PyData.eqv] using h
  have s : ∀ l : List Int, SeqAt.shaped (.tuple (pyDs (l.map D.int))) = true := fun l => shaped_D (x := .tup (l.map D.int)) (NBs_ints l) (by simp [dpDs_ints])
  simp [eqD, PyData.eqv, e, s]
theorem eqD_lints {neg : Bool} {a c : Addr} {ns ms : List Int} (ha : M a = some (.lst (ns.map D.int))) (hc : M c = some (.lst (ms.map D.int))) (h : Q (.bl (if neg then !decide (ns = ms) else decide (ns = ms))) M) : eqD neg (.ref a) (.ref c) M Q :=
  eqD_lst ha hc (NBs_ints ns) (NBs_ints ms) (by simp [dpDs_ints]) (by simp [dpDs_ints]) (decide (ns = ms)) (by simp; exact ⟨fun e => by rw [e], ints_inj⟩) h
end DL

set_option Elab.async false
set_option linter.all false
set_option maxRecDepth 100000
set_option maxHeartbeats 4000000
namespace DL
open PySem PySem.Spec PyProof.Rows L2

/-! ## comprehensions whose parts leave the heap -/
theorem wLc_fm {guard : Mp → Prop} {gd : TDG} {tt : TDT} {te : TDE} {τ : DSt} {p : Addr} {Q : DQ} {M : Mp} (c : D → Bool) (f : D → D) : ∀ (items : List D) (acc : List D)
    (hel : ∀ d ∈ items, ∀ (acc' : List D) (R : DQ) (R0 : Mp → Prop), (c d = true → R (f d) (mup M p (.lst acc'))) → (c d = false → R0 (mup M p (.lst acc'))) →
      gd d τ (mup M p (.lst acc')) (fun τ2 M2 => tt τ2 M2 (fun b M3 => if b = true then te τ2 M3 R noX else R0 M3) noX) noXS)
    (hsz : acc.length + items.length ≤ 16777216) (hg : ∀ acc', guard (mup M p (.lst acc'))) (hQ : Q (.ref p) (mup M p (.lst (acc ++ (items.filter c).map f)))),
    wLc guard gd tt te τ p Q items (mup M p (.lst acc))
  | [], acc, hel, hsz, hg, hQ => ⟨hg acc, by simpa using hQ⟩
  | d :: ds, acc, hel, hsz, hg, hQ => by
    refine ⟨hg acc, hel d (by simp) acc _ _ (fun hc => ?_) fun hc => ?_⟩
    · simp only [mup_same, mup_mup]
      refine ⟨?_, wLc_fm c f ds (acc ++ [f d]) (fun x hx => hel x (by simp [hx])) ?_ hg ?_⟩
      · simp only [List.length_cons] at hsz; show _ ≤ _; omega
      · simp only [List.length_cons, List.length_append, List.length_nil] at hsz ⊢; omega
      · simpa [hc, List.filter_cons] using hQ
    · refine wLc_fm c f ds acc (fun x hx => hel x (by simp [hx])) ?_ hg ?_
      · simp only [List.length_cons] at hsz; omega
      · simpa [hc, List.filter_cons] using hQ
/-- no test -/
theorem wLc_map {guard : Mp → Prop} {gd : TDG} {te : TDE} {τ : DSt} {p : Addr} {Q : DQ} {M : Mp} (f : D → D) (items : List D)
    (hel : ∀ d ∈ items, ∀ (acc' : List D) (R : DQ), R (f d) (mup M p (.lst acc')) → gd d τ (mup M p (.lst acc')) (fun τ2 M2 => te τ2 M2 R noX) noXS)
    (hsz : items.length ≤ 16777216) (hg : ∀ acc', guard (mup M p (.lst acc'))) (hQ : Q (.ref p) (mup M p (.lst (items.map f)))) :
    wLc guard gd dYes te τ p Q items (mup M p (.lst [])) := by
  refine wLc_fm (fun _ => true) f items [] (fun d hd acc' R R0 h1 _ => ?_) (by simpa using hsz) hg (by simpa [List.filter_eq_self.mpr] using hQ)
  simpa using hel d hd acc' R (h1 rfl)

theorem MLe.fresh {M M1 : Mp} {p : Addr} {o : MO} (k : MLe M M1) (h : M p = Option.none) : MLe M (DL.mup M1 p o) := fun a u e => by
  rw [mup_ne]; exact k a u e
  rintro rfl; rw [h] at e; cases e
/-- over a list of one's own -/
theorem wLc_of {β : Type} {guard : Mp → Prop} {gd : TDG} {te : TDE} {τ : DSt} {p : Addr} {Q : DQ} {M : Mp} (e g : β → D) : ∀ (l : List β)
    (hel : ∀ b ∈ l, ∀ (acc' : List D) (R : DQ), R (g b) (mup M p (.lst acc')) → gd (e b) τ (mup M p (.lst acc')) (fun τ2 M2 => te τ2 M2 R noX) noXS)
    (hsz : l.length ≤ 16777216) (hg : ∀ acc', guard (mup M p (.lst acc'))) (hQ : Q (.ref p) (mup M p (.lst (l.map g)))),
    wLc guard gd dYes te τ p Q (l.map e) (mup M p (.lst [])) := by
  have h : ∀ (l : List β) (acc : List D)
      (hel : ∀ b ∈ l, ∀ (acc' : List D) (R : DQ), R (g b) (mup M p (.lst acc')) → gd (e b) τ (mup M p (.lst acc')) (fun τ2 M2 => te τ2 M2 R noX) noXS)
      (hsz : acc.length + l.length ≤ 16777216) (hg : ∀ acc', guard (mup M p (.lst acc'))) (hQ : Q (.ref p) (mup M p (.lst (acc ++ l.map g)))),
      wLc guard gd dYes te τ p Q (l.map e) (mup M p (.lst acc)) := by
    intro l
    induction l with
    | nil => intro acc hel hsz hg hQ; exact ⟨hg acc, by simpa using hQ⟩
    | cons b l ih =>
      intro acc hel hsz hg hQ
      refine ⟨hg acc, ?_⟩
      simp only [dYes, if_pos]
      refine hel b (by simp) acc _ ?_
      simp only [mup_same, mup_mup]
      simp only [List.length_cons] at hsz
      exact ⟨by show _ ≤ _; omega, ih _ (fun x hx => hel x (by simp [hx])) (by simp; omega) hg (by simpa using hQ)⟩
  intro l hel hsz hg hQ
  exact h l [] hel (by simpa using hsz) hg (by simpa using hQ)
/-- with a test -/
theorem wLc_fo {β : Type} {guard : Mp → Prop} {gd : TDG} {tt : TDT} {te : TDE} {τ : DSt} {p : Addr} {Q : DQ} {M : Mp} (e g : β → D) (c : β → Bool) : ∀ (l : List β)
    (hel : ∀ b ∈ l, ∀ (acc' : List D) (R : DQ) (R0 : Mp → Prop), (c b = true → R (g b) (mup M p (.lst acc'))) → (c b = false → R0 (mup M p (.lst acc'))) →
      gd (e b) τ (mup M p (.lst acc')) (fun τ2 M2 => tt τ2 M2 (fun b M3 => if b = true then te τ2 M3 R noX else R0 M3) noX) noXS)
    (hsz : l.length ≤ 16777216) (hg : ∀ acc', guard (mup M p (.lst acc'))) (hQ : Q (.ref p) (mup M p (.lst ((l.filter c).map g)))),
    wLc guard gd tt te τ p Q (l.map e) (mup M p (.lst [])) := by
  have h : ∀ (l : List β) (acc : List D)
      (hel : ∀ b ∈ l, ∀ (acc' : List D) (R : DQ) (R0 : Mp → Prop), (c b = true → R (g b) (mup M p (.lst acc'))) → (c b = false → R0 (mup M p (.lst acc'))) →
        gd (e b) τ (mup M p (.lst acc')) (fun τ2 M2 => tt τ2 M2 (fun b M3 => if b = true then te τ2 M3 R noX else R0 M3) noX) noXS)
      (hsz : acc.length + l.length ≤ 16777216) (hg : ∀ acc', guard (mup M p (.lst acc'))) (hQ : Q (.ref p) (mup M p (.lst (acc ++ (l.filter c).map g)))),
      wLc guard gd tt te τ p Q (l.map e) (mup M p (.lst acc)) := by
    intro l
    induction l with
    | nil => intro acc hel hsz hg hQ; exact ⟨hg acc, by simpa using hQ⟩
    | cons b l ih =>
      intro acc hel hsz hg hQ
      simp only [List.length_cons] at hsz
      refine ⟨hg acc, hel b (by simp) acc _ _ (fun hc => ?_) fun hc => ?_⟩
      · simp only [mup_same, mup_mup]
        exact ⟨by show _ ≤ _; omega, ih _ (fun x hx => hel x (by simp [hx])) (by simp; omega) hg (by simpa [hc, List.filter_cons] using hQ)⟩
      · exact ih _ (fun x hx => hel x (by simp [hx])) (by omega) hg (by simpa [hc, List.filter_cons] using hQ)
  intro l hel hsz hg hQ
  exact h l [] hel (by simpa using hsz) hg (by simpa using hQ)
theorem listB_of {M : Mp} {a : Addr} {bs : List Bool} (h : M a = some (.lst (bs.map D.bl))) : listB a M = some bs := by
  unfold listB; rw [h]; exact blsD_map bs
theorem listI_of {M : Mp} {a : Addr} {ns : List Int} (h : M a = some (.lst (ns.map D.int))) : listI a M = some ns := by
  unfold listI; rw [h]; exact intsD_map ns
@[simp] theorem listI_mup {M : Mp} {a : Addr} {ns : List Int} : listI a (mup M a (.lst (ns.map D.int))) = some ns := listI_of mup_same
@[simp] theorem listB_mup {M : Mp} {a : Addr} {ns : List Bool} : listB a (mup M a (.lst (ns.map D.bl))) = some ns := listB_of mup_same
@[simp] theorem listI_mupc {β : Type} {M : Mp} {a : Addr} {l : List β} {c : β → Int} : listI a (mup M a (.lst (l.map fun s => D.int (c s)))) = some (l.map c) := listI_of (by rw [mup_same, List.map_map]; rfl)
@[simp] theorem listB_mupc {β : Type} {M : Mp} {a : Addr} {l : List β} {c : β → Bool} : listB a (mup M a (.lst (l.map fun s => D.bl (c s)))) = some (l.map c) := listB_of (by rw [mup_same, List.map_map]; rfl)
theorem listB_ne {M : Mp} {a p : Addr} {o : MO} (h : a ≠ p) : listB a (mup M p o) = listB a M := by unfold listB; rw [mup_ne h]
theorem listI_ne {M : Mp} {a p : Addr} {o : MO} (h : a ≠ p) : listI a (mup M p o) = listI a M := by unfold listI; rw [mup_ne h]

/-! ## the drawn numbers -/
theorem mod_bounds {a b : Int} (h : 0 < b) : 0 ≤ a % b ∧ a % b < b := ⟨Int.emod_nonneg _ (by omega), Int.emod_lt_of_pos _ h⟩
def T_draws : TDS := dSeq (dAsg (dCB listD (dCons (dVar 0) (dNil))) (dgName 2)) (dSeq (dIfS (dB (dBin (eqD false) (dCB lenD (dCons (dVar 2) (dNil))) (dC (.int 0)))) (dAsg (dLst (dCons (dC (.int 7)) (dNil))) (dgName 2)) (dNext)) (dSeq (dAsg (dLst (dNil)) (dgName 3)) (dSeq (dAsg (dC (.int 12345)) (dgName 4)) (dSeq (dFor (iArgs rng1D (dCons (dVar 1) (dNil))) (dgName 5) (dSeq (dAsg (dBin modD (dVar 5) (dCB lenD (dCons (dVar 2) (dNil)))) (dgName 6)) (dSeq (dAsg (dBin ixA (dVar 2) (dVar 6)) (dgName 7)) (dSeq (dAsg (dBin modD (dCB intD (dCons (dBin addD (dBin addD (dBin addD (dBin mulD (dVar 4) (dC (.int 48271))) (dBin mulD (dBin modD (dCB intD (dCons (dVar 7) (dNil))) (dC (.int 1000003))) (dC (.int 69621)))) (dBin mulD (dVar 5) (dC (.int 7919)))) (dC (.int 11))) (dNil))) (dC (.int 2147483647))) (dgName 4)) (dSeq (dAsg (dBin modD (dCB intD (dCons (dBin addD (dBin addD (dBin mulD (dVar 4) (dVar 4)) (dBin mulD (dC (.int 31)) (dVar 4))) (dVar 5)) (dNil))) (dC (.int 1000003))) (dgName 8)) (dIfS (dB (dBin geD (dVar 7) (dBin powD (dC (.int 10)) (dC (.int 18))))) (dSeq (dDrop (dML (chL fAppend) (dVar 3) (dCons (dBin modD (dCB intD (dCons (dVar 7) (dNil))) (dC (.int 1000))) dNil))) (dAsg (dBin fdivD (dVar 7) (dC (.int 1000))) (dgSub (dVar 2) (dVar 6)))) (dDrop (dML (chL fAppend) (dVar 3) (dCons (dBin modD (dCB intD (dCons (dVar 8) (dNil))) (dC (.int 1000))) dNil))))))))) (dSeq (dDrop (dML0 (chL fReverse) (dVar 3))) (dRet (dVar 3)))))))
def T_take : TDS := dSeq (dIfS (dB (dBin (eqD false) (dCB lenD (dCons (dVar 0) (dNil))) (dC (.int 0)))) (dRet (dC (.int 0))) (dNext)) (dRet (dBin modD (dCB intD (dCons (dML0 (chL fPop) (dVar 0)) (dNil))) (dVar 1)))
def sp_draws : DSp := fun ds M Q E => ∃ (ns : List Int) (c : Int), ds = [.scr ns, .int c] ∧ ns.length ≤ 1000 ∧ 0 ≤ c ∧ c ≤ 1000000 ∧ ∀ p, M p = none → Q (.ref p) (mup M p .drw)
def sp_take0 : DSp := fun ds M Q E => ∃ (a : Addr) (ns : List Int) (l : Int), ds = [.ref a, .int l] ∧ 0 < l ∧ ns.length ≤ 16777216 ∧ M a = some (.lst (ns.map D.int)) ∧ ∀ (ns' : List Int) (r : Int), (∀ n ∈ ns', n ∈ ns) → ns'.length ≤ ns.length → 0 ≤ r → r < l → Q (.int r) (mup M a (.lst (ns'.map D.int)))
def sp_take : DSp := fun ds M Q E => ∃ (a : Addr) (l : Int), ds = [.ref a, .int l] ∧ 0 < l ∧ M a = some .drw ∧ ∀ r, 0 ≤ r → r < l → Q (.int r) M
theorem sem_take0 (ds M Q E) (hl : ds.length = 2) (h : sp_take0 ds M Q E) : T_take (dEndsG Q E) (dstart 2 ds) M := by
  obtain ⟨a, ns, l, rfl, h0, hz, hM, hQ⟩ := h
  simp [T_take, hM]
  by_cases hn : ns = []
  · rw [if_pos hn]
    have e : mup M a (.lst (ns.map D.int)) = M := by
      funext b
      unfold mup
      split
      · subst_vars; exact hM.symm
      · rfl
    have := hQ ns 0 (fun _ h => h) (Nat.le_refl _) (by omega) h0
    rw [e] at this
    exact .same this
  · rw [if_neg hn]
    have e : ns.getLast? = some (ns.getLast hn) := List.getLast?_eq_some_getLast hn
    rw [e]
    simp only [Option.map_some]
    refine ⟨by simp; omega, h0, .same ?_⟩
    have := hQ ns.dropLast (ns.getLast hn % l) (fun n h => (List.dropLast_sublist ns).subset h) (List.dropLast_sublist ns).length_le (mod_bounds h0).1 (mod_bounds h0).2
    simpa [List.map_dropLast] using this
theorem take_of {P : Program} {w : World} {K : Fr} {mg : Str → Option Value} {base : Heap} {T : Tb} {x : Str} {k n : Nat} (F : FnD P w K mg base T x k n sp_take0) : FnD P w K mg base T x k n sp_take :=
  F.drw fun ds M Q E ⟨a, l, e, h0, hM, hQ⟩ H r => by
    obtain ⟨ns, h1, h2, h3⟩ := r.drw hM
    refine ⟨mup M a (.lst (ns.map D.int)), ⟨fun b o hb => ?_, r.tab⟩, a, ns, l, e, h0, h3, mup_same, fun ns' q hs hl q0 q1 => ⟨M, fun b o hb => ?_, hQ q q0 q1⟩⟩
    · by_cases hba : b = a
      · subst hba; rw [mup_same] at hb; cases hb; exact ⟨_, h1, Reps.of_ints ns⟩
      · rw [mup_ne hba] at hb; exact r.obj b o hb
    · by_cases hba : b = a
      · subst hba
        rw [hM] at hb
        cases hb
        exact .inr ⟨rfl, ns', by rw [mup_mup, mup_same], fun n hn => h2 n (hs n hn), Nat.le_trans hl h3⟩
      · rw [mup_mup, mup_ne hba]; exact .inl hb
def B_draws : TDS := (dSeq (dAsg (dBin modD (dVar 5) (dCB lenD (dCons (dVar 2) (dNil)))) (dgName 6)) (dSeq (dAsg (dBin ixA (dVar 2) (dVar 6)) (dgName 7)) (dSeq (dAsg (dBin modD (dCB intD (dCons (dBin addD (dBin addD (dBin addD (dBin mulD (dVar 4) (dC (.int 48271))) (dBin mulD (dBin modD (dCB intD (dCons (dVar 7) (dNil))) (dC (.int 1000003))) (dC (.int 69621)))) (dBin mulD (dVar 5) (dC (.int 7919)))) (dC (.int 11))) (dNil))) (dC (.int 2147483647))) (dgName 4)) (dSeq (dAsg (dBin modD (dCB intD (dCons (dBin addD (dBin addD (dBin mulD (dVar 4) (dVar 4)) (dBin mulD (dC (.int 31)) (dVar 4))) (dVar 5)) (dNil))) (dC (.int 1000003))) (dgName 8)) (dIfS (dB (dBin geD (dVar 7) (dBin powD (dC (.int 10)) (dC (.int 18))))) (dSeq (dDrop (dML (chL fAppend) (dVar 3) (dCons (dBin modD (dCB intD (dCons (dVar 7) (dNil))) (dC (.int 1000))) dNil))) (dAsg (dBin fdivD (dVar 7) (dC (.int 1000))) (dgSub (dVar 2) (dVar 6)))) (dDrop (dML (chL fAppend) (dVar 3) (dCons (dBin modD (dCB intD (dCons (dVar 8) (dNil))) (dC (.int 1000))) dNil))))))))
theorem getD_map {cs : List Int} {i : Nat} (h : i < cs.length) : (cs.map D.int)[i]? = some (.int cs[i]) := by
  rw [List.getElem?_map, List.getElem?_eq_getElem h]; rfl
theorem draws_loop (N : DEn) (s c : D) (a p : Addr) (hap : a ≠ p) : ∀ (items : List D) (hi : ∀ d ∈ items, ∃ k : Int, d = .int k ∧ 0 ≤ k ∧ k < 4611686018427387904) (cs fs : List Int) (m : Int) (o5 o6 o7 o8 : Option D) (M : Mp) (hcs : cs ≠ []) (hz : cs.length ≤ 16777216) (ha : M a = some (.lst (cs.map D.int))) (hp : M p = some (.lst (fs.map D.int)))
    (hf : ∀ f ∈ fs, 0 ≤ f) (h0 : 0 ≤ m) (h1 : m < 2147483647) (hsz : fs.length + items.length ≤ 1000000)
    (fin : ∀ (cs fs : List Int) (m : Int) (o5 o6 o7 o8 : Option D) (M' : Mp), M' a = some (.lst (cs.map D.int)) → M' p = some (.lst (fs.map D.int)) → (∀ b, b ≠ a → b ≠ p → M' b = M b) → (∀ f ∈ fs, 0 ≤ f) → fs.length ≤ 1000000 → N.nx [some s, some c, some (.ref a), some (.ref p), some (.int m), o5, o6, o7, o8] M'),
    wFor anyM (dgName 5) B_draws N items [some s, some c, some (.ref a), some (.ref p), some (.int m), o5, o6, o7, o8] M
  | [], hi, cs, fs, m, o5, o6, o7, o8, M, hcs, hz, ha, hp, hf, h0, h1, hsz, fin => ⟨trivial, fin cs fs m o5 o6 o7 o8 M ha hp (fun _ _ _ => rfl) hf (by simpa using hsz)⟩
  | d :: items, hi, cs, fs, m, o5, o6, o7, o8, M, hcs, hz, ha, hp, hf, h0, h1, hsz, fin => by
    obtain ⟨k, rfl, k0, k1⟩ := hi _ List.mem_cons_self
    have hlen : (0 : Int) < cs.length := by have := List.length_pos_iff.mpr hcs; omega
    obtain ⟨j0, j1⟩ := mod_bounds (a := k) hlen
    obtain ⟨j, ej⟩ : ∃ j : Nat, k % (cs.length : Int) = (j : Int) := ⟨(k % (cs.length : Int)).toNat, by omega⟩
    rw [ej] at j0 j1
    have hj : j < cs.length := by omega
    have hat : atI (cs.map D.int) (j : Int) = some (.int cs[j]) := atI_get j0 (getD_map hj)
    have hix : ixN cs.length (j : Int) = some j := ixN_nat hj
    refine ⟨trivial, ?_⟩
    have ih := fun cs fs m o5 o6 o7 o8 M hcs hz ha hp hf h0 h1 hsz fin => draws_loop N s c a p hap items (fun d hd => hi d (List.mem_cons_of_mem _ hd)) cs fs m o5 o6 o7 o8 M hcs hz ha hp hf h0 h1 hsz fin
    generalize wFor anyM (dgName 5) B_draws N items = W at ih ⊢
    have q1 : (0 : Int) < 2147483647 := by decide
    have q2 := mod_bounds (a := cs[j] % 1000003 * 69621) q1
    have q3 := mod_bounds (a := m * 48271 + cs[j] % 1000003 * 69621 + k * 7919 + 11) q1
    generalize hmix : (m * 48271 + cs[j] % 1000003 * 69621 + k * 7919 + 11) % 2147483647 = mix at q3
    have c1 : CMul m 48271 := .inl (by omega)
    have c2 : CMul (cs[j] % 1000003) 69621 := .inr (by decide)
    have c3 : CMul k 7919 := .inr (by decide)
    have c4 : CMul mix mix := .inl (by omega)
    have c5 : CMul 31 mix := .inl (by decide)
    have c6 : CPow 10 18 := ⟨by decide, by decide, by decide⟩
    have c7 : CDiv cs[j] 1000 := ⟨by decide, by decide⟩
    simp only [List.length_cons] at hsz
    simp [B_draws, ha, hp, hlen, ej, hat, hmix, c1, c2, c3, c4, c5, c6, c7, hix, mup_ne hap, mup_ne hap.symm]
    split
    · refine ⟨by omega, ?_⟩
      have e : List.map D.int fs ++ [D.int (cs[j] % 1000)] = (fs ++ [cs[j] % 1000]).map D.int := by simp
      have e2 : (List.map D.int cs).set j (D.int (cs[j] / 1000)) = (cs.set j (cs[j] / 1000)).map D.int := by rw [List.map_set]
      rw [e, e2]
      refine ⟨by omega, ?_⟩
      refine ih (cs.set j (cs[j] / 1000)) (fs ++ [cs[j] % 1000]) _ _ _ _ _ _ ?_ ?_ ?_ ?_ ?_ q3.1 q3.2 ?_ ?_
      · intro h; exact hcs (List.length_eq_zero_iff.mp (by have := congrArg List.length h; simpa using this))
      · simpa using hz
      · rw [mup_same]
      · rw [mup_ne hap.symm, mup_same]
      · intro f hf'
        rcases List.mem_append.mp hf' with h | h
        · exact hf f h
        · rw [List.mem_singleton.mp h]; exact (mod_bounds (by decide)).1
      · simp; omega
      · intro cs' fs' m' p5 p6 p7 p8 M' g1 g2 g3
        exact fin cs' fs' m' p5 p6 p7 p8 M' g1 g2 fun b hb1 hb2 => by rw [g3 b hb1 hb2, mup_ne hb1, mup_ne hb2]
    · refine ⟨by omega, ?_⟩
      generalize hag : (mix * mix + 31 * mix + k) % 1000003 % 1000 = ag
      have hag0 : 0 ≤ ag := by rw [← hag]; exact (mod_bounds (by decide)).1
      have e : List.map D.int fs ++ [D.int ag] = (fs ++ [ag]).map D.int := by simp
      rw [e]
      refine ⟨by omega, ?_⟩
      refine ih cs (fs ++ [ag]) _ _ _ _ _ _ hcs hz ?_ ?_ ?_ q3.1 q3.2 ?_ ?_
      · rw [mup_ne hap]; exact ha
      · rw [mup_same]
      · intro f hf'
        rcases List.mem_append.mp hf' with h | h
        · exact hf f h
        · rw [List.mem_singleton.mp h]; exact hag0
      · simp; omega
      · intro cs' fs' m' p5 p6 p7 p8 M' g1 g2 g3
        exact fin cs' fs' m' p5 p6 p7 p8 M' g1 g2 fun b hb1 hb2 => by rw [g3 b hb1 hb2, mup_ne hb2]
theorem sem_draws (ds M Q E) (hl : ds.length = 2) (h : sp_draws ds M Q E) : T_draws (dEndsG Q E) (dstart 9 ds) M := by
  obtain ⟨ns, c, rfl, hns, c0, c1, hQ⟩ := h
  have body : ∀ (a : Addr) (cs : List Int) (M1 : Mp), cs ≠ [] → cs.length ≤ 16777216 → M1 a = some (.lst (cs.map D.int)) → (∀ b o, M b = some o → M1 b = some o) → M a = none →
    (dSeq (dAsg (dLst (dNil)) (dgName 3)) (dSeq (dAsg (dC (.int 12345)) (dgName 4)) (dSeq (dFor (iArgs rng1D (dCons (dVar 1) (dNil))) (dgName 5) B_draws) (dSeq (dDrop (dML0 (chL fReverse) (dVar 3))) (dRet (dVar 3)))))) (dEndsG Q E) [some (.scr ns), some (.int c), some (.ref a), none, none, none, none, none, none] M1 := by
    intro a cs M1 hcs hz ha hM ha0
    simp [dFor]
    intro p hp
    have hap : a ≠ p := by rintro rfl; rw [ha] at hp; cases hp
    have hMp : M p = none := by
      cases e : M p with
      | none => rfl
      | some o => rw [hM _ _ e] at hp; cases hp
    refine ⟨by omega, ?_⟩
    refine draws_loop _ _ _ a p hap _ (fun d hd => ?_) cs [] 12345 none none none none _ hcs hz ?_ ?_ (by simp) (by decide) (by decide) ?_ ?_
    · unfold rangeL at hd
      obtain ⟨i, hi, rfl⟩ := List.mem_map.mp hd
      have := List.mem_range.mp hi
      exact ⟨_, rfl, by omega, by omega⟩
    · rw [mup_ne hap]; exact ha
    · rw [mup_same]; rfl
    · simp [rangeL_len]; omega
    · intro cs' fs' m' o5 o6 o7 o8 M' g1 g2 g3 g4 g5
      simp [g2]
      refine ⟨by omega, mup M p .drw, fun b o hb => ?_, hQ p hMp⟩
      by_cases hbp : b = p
      · subst hbp
        rw [mup_same] at hb
        cases hb
        exact .inr ⟨rfl, fs'.reverse, by rw [mup_same, List.map_reverse], fun n hn => g4 n (by simpa using hn), by simp; omega⟩
      · rw [mup_ne hbp] at hb
        have hba : b ≠ a := by rintro rfl; rw [ha0] at hb; cases hb
        rw [mup_ne hbp, g3 b hba hbp, mup_ne hbp]
        exact .inl (hM b o hb)
  simp only [T_draws]
  generalize hB : (dSeq (dAsg (dLst (dNil)) (dgName 3)) _ : TDS) = B
  have body' : ∀ (a : Addr) (cs : List Int) (M1 : Mp), cs ≠ [] → cs.length ≤ 16777216 → M1 a = some (.lst (cs.map D.int)) → (∀ b o, M b = some o → M1 b = some o) → M a = none →
    B (dEndsG Q E) [some (.scr ns), some (.int c), some (.ref a), none, none, none, none, none, none] M1 := by rw [← hB]; exact body
  simp
  intro p hp
  split
  · rename_i h
    intro p2 hp2
    refine body' p2 [7] _ (by simp) (by simp) (by rw [mup_same]; rfl) (fun b o hb => ?_) ?_
    · have h1 : b ≠ p := by rintro rfl; rw [hp] at hb; cases hb
      have h2 : b ≠ p2 := by rintro rfl; have := mup_none.mp hp2; rw [this.2] at hb; cases hb
      rw [mup_ne h2, mup_ne h1]; exact hb
    · exact (mup_none.mp hp2).2
  · rename_i h
    refine body' p ns _ ?_ ?_ (by rw [mup_same]) (fun b o hb => ?_) hp
    · exact h
    · omega
    · have h1 : b ≠ p := by rintro rfl; rw [hp] at hb; cases hb
      rw [mup_ne h1]; exact hb
end DL

set_option Elab.async false
set_option linter.all false
set_option maxRecDepth 100000
set_option maxHeartbeats 2000000
namespace DL
open PySem PySem.Spec PyProof.Rows L2
theorem lift_law {K : Fr} {H : Hp} {a : Addr} {ns : List Int} {sp : DSp} (hO : Only H) (hS : SqL K H a (ns.map V.int)) (h : sp [.scr ns] (fun _ => none) (fun v _ => v = .bl true) noX) :
    liftSp K [] 1 sp [.ref a] H (fun v _ => v = .bl true) fun _ _ _ => False := by
  refine ⟨rfl, [.scr ns], fun _ => none, _, _, .cons (.scr ?_) .nil, ⟨fun _ _ e => (nomatch e), fun _ hq => (nomatch hq)⟩, h, fun v d H' M' _ r _ e => ?_, fun _ _ _ _ _ _ _ _ _ _ z => z.elim⟩
  · rcases hS with (e | ⟨o, e⟩) | e
    · rcases hO a with q | ⟨o, xs, q⟩
      · rw [q] at e; cases e
      · rw [q] at e; cases e
    · exact .inl ⟨o, e⟩
    · exact .inr fun H' => .inr e
  · subst e; exact r.bl_inv
theorem law_end {l : PySem.W.OpenLaw} {n k : Nat} {q : Program} {loose : List Str} {XP : (Str → Option Value) → Heap → Prop} {YP : World → Heap → Prop} {d : DefRec} {x : Str} {sp : DSp}
    (h1 : l.most = some n) (h2 : n ≤ sizeLine) (h3 : d.params.defaults = []) (h4 : Room k callerA)
    (h5 : ∀ ns : List Int, ns.length ≤ n → sp [.scr ns] (fun _ => none) (fun v _ => v = .bl true) noX)
    (h6 : ∀ (w : World) (mg : Str → Option Value) (g : Addr) (h : Heap), YP w h → h.Ns mainGlobals mg → mg d.name = some (.ref g) →
      ∃ (K : Fr) (fd : FuncData), K.In h ∧ (∀ (s : Shared) (u : Value), BindsTo s fd ⟨[u], []⟩ [(x, u)]) ∧
        ∀ base : Heap, K.In base → base.Ns mainGlobals mg → FnOk l.prog w K mg base (L2.CX l.prog w) k g fd [x] (liftSp K [] 1 sp)) :
    PySem.W.WalkO q loose XP YP l.row.toRowW d [] (fun f vs => PySem.call f vs) := by
  refine Att.attach_call h1 h3 ?_
  intro w st0 st mg mb g ob pm cd doc a us ns Gr Yw _ _ _ em eo ei el eg
  obtain ⟨K, fd, KX, hb, hF⟩ := h6 w mg g _ Yw Gr.T.g em
  refine law_call KX Gr.T.g Gr.T.b Gr.T.builtins Gr.T.nolimit eg eo ei (Nat.le_trans el h2) h4 hF hb (fun H hO hS => lift_law hO hS (h5 ns el)) ?_
  rintro H e s' ⟨_, _, _, _, _, _, _, _, _, _, _, _, z⟩
  exact z
end DL

set_option Elab.async false
set_option linter.all false
set_option maxRecDepth 100000
set_option maxHeartbeats 2000000
namespace DL
open PySem PySem.Spec PyProof.Rows L2

/-! ## constants of the module -/
mutual
def repB (K : Fr) (n : Nat) (u : PySem.Value) (d : D) : Bool := match d with
  | .non => (match u with | .none => true | _ => false)
  | .bl b => (match u with | .bool c => b == c | _ => false)
  | .int i => (match u with | .int j _ => decide (i = j) | _ => false)
  | .str x => (match u with | .str y _ => decide (x = y) | _ => false)
  | .tup ds => (match u with
    | .ref a => (match K.lookup a with
      | some o => (match o.cls, o.data with
        | .type t, .seq its _ => decide (t = "tuple") && decide (its.size ≤ 16777216) && repBs K n its.toList ds
        | _, _ => false)
      | none => false)
    | _ => false)
  | .ref _ => false
  | .scr _ => false
def repBs (K : Fr) (n : Nat) (us : List PySem.Value) (ds : List D) : Bool := match ds with
  | [] => us.isEmpty
  | d :: ds => (match us with
    | u :: us => repB K n u d && repBs K n us ds
    | [] => false)
end
mutual
theorem repB_ok {K : Fr} {n : Nat} : ∀ {u : PySem.Value} {d : D}, repB K n u d = true → ∃ v, RelV v u ∧ ∀ H, Rep K H v d
  | u, .non, h => by
    unfold repB at h; split at h
    · exact ⟨.non, rfl, fun _ => .non⟩
    · cases h
  | u, .bl b, h => by
    unfold repB at h; split at h
    · rw [eq_of_beq h]; exact ⟨.bl _, rfl, fun _ => .bl _⟩
    · cases h
  | u, .int i, h => by
    unfold repB at h; split at h
    · rw [of_decide_eq_true h]; exact ⟨.int _, ⟨_, rfl⟩, fun _ => .int _⟩
    · cases h
  | u, .str i, h => by
    unfold repB at h; split at h
    · rw [of_decide_eq_true h]; exact ⟨.str _, ⟨_, rfl⟩, fun _ => .str _⟩
    · cases h
  | u, .tup ds, h => by
    unfold repB at h
    split at h
    · rename_i a
      split at h
      · rename_i o e
        split at h
        · rename_i t its m ec ed
          rw [Bool.and_eq_true, Bool.and_eq_true] at h
          obtain ⟨⟨h1, h2⟩, h3⟩ := h
          obtain ⟨vs, q1, q2⟩ := repBs_ok h3
          have ht : t = "tuple" := of_decide_eq_true h1
          subst ht
          exact ⟨.ref a, rfl, fun H => .tup (.inr ⟨o, its, m, e, ec, ed, szOk (of_decide_eq_true h2), q1⟩) (q2 H)⟩
        · cases h
      · cases h
    · cases h
  | _, .ref _, h => by unfold repB at h; cases h
  | _, .scr _, h => by unfold repB at h; cases h
theorem repBs_ok {K : Fr} {n : Nat} : ∀ {us : List PySem.Value} {ds : List D}, repBs K n us ds = true → ∃ vs, Vals vs us ∧ ∀ H, Reps K H vs ds
  | us, [], h => by
    unfold repBs at h
    cases us with
    | nil => exact ⟨[], .nil, fun _ => .nil⟩
    | cons => cases h
  | us, d :: ds, h => by
    unfold repBs at h
    split at h
    · rw [Bool.and_eq_true] at h
      obtain ⟨v, a1, a2⟩ := repB_ok h.1
      obtain ⟨vs, b1, b2⟩ := repBs_ok h.2
      exact ⟨v :: vs, .cons a1 b1, fun H => .cons (a2 H) (b2 H)⟩
    · cases h
end
/-- the module's name x stands for d -/
def conB (K : Fr) (x : Str) (d : D) : Bool := match PySem.W.nsIn K mainGlobals x with
  | some (some u) => repB K 0 u d
  | _ => false
def GConst (K : Fr) (mg : Str → Option Value) (x : Str) (d : D) : Prop := ∃ u v, mg x = some u ∧ RelV v u ∧ ∀ H, Rep K H v d
theorem con_ok {K : Fr} {h : Heap} {mg : Str → Option Value} (X : K.In h) (G : h.Ns mainGlobals mg) {x : Str} {d : D} (c : conB K x d = true) : GConst K mg x d := by
  unfold conB at c
  split at c
  · rename_i u e
    obtain ⟨v, r1, r2⟩ := repB_ok c
    exact ⟨u, v, PySem.W.mg_of X G e, r1, r2⟩
  · cases c
section
variable {X : Cx} {T : Tb} {W : WX} {a b c d e : Expr} {ta tb tc td : TDE} {pos : Pos} {x : Str}
theorem de_gc {dv : D} (hg : Gl X x) (hm : GConst X.K X.mg x dv) (hd : (x == ("__debug__" : Str)) = false := by decide) : DE X T W (.Name x pos) (dC dv) :=
  let ⟨_, v, h, r1, r2⟩ := hm; de_c (pe_glob (v := v) hg h r1 hd) r2
end
end DL

set_option Elab.async false
set_option linter.all false
set_option maxRecDepth 100000
set_option maxHeartbeats 2000000
namespace DL
open PySem PySem.Spec PyProof.Rows L2
section
variable {X : Cx} {T : Tb} {W : WX} {a b c d e f o tg : Expr} {es : List Expr} {ta tb tc td te to : TDE} {t tr : TDA} {pos p p2 apos cpos : Pos} {x : Str} {k n : Nat} {K : Fr}

/-! ## range of three -/
def rangeC (lo c : Int) (n : Nat) : List D := (List.range n).map fun i => D.int (lo + (i : Nat) * c)
theorem rangeC_len (lo c : Int) (n : Nat) : (rangeC lo c n).length = n := by simp [rangeC]
theorem wd_rangeC {H0 : Hp} {lo c : Int} {n : Nat} : WalkD K T H0 (Itc lo c n) (rangeC lo c n) anyM where
  goes := fun i H M hi _ m g => by rw [rangeC_len] at hi; exact hi
  stops := fun H M _ m g => by rw [rangeC_len]; exact Nat.le_refl _
  yields := fun i H M x H' d hd _ m g ⟨e, y⟩ => by
    subst e
    have hi : i < n := by
      have := (List.getElem?_eq_some_iff.mp hd).1
      rw [rangeC_len] at this; exact this
    rw [rangeC, List.getElem?_map, List.getElem?_range hi] at hd
    cases hd
    subst y
    exact ⟨.refl _, .int _, m⟩
def rng3D (ds : List D) (M : Mp) (R : List D → (Mp → Prop) → Mp → Prop) : Prop := match ds with
  | [.int i, .int j, .int c] => ∃ n, RgC i j c n ∧ R (rangeC i c n) anyM M
  | _ => False
@[simp] theorem rng3D_i {i j c : Int} {M : Mp} {R : List D → (Mp → Prop) → Mp → Prop} : rng3D [.int i, .int j, .int c] M R = ∃ n, RgC i j c n ∧ R (rangeC i c n) anyM M := rfl
theorem Reps.three_inv {H : Hp} {vs : List V} {d d' d'' : D} (r : Reps K H vs [d, d', d'']) : ∃ v v' v'', vs = [v, v', v''] ∧ Rep K H v d ∧ Rep K H v' d' ∧ Rep K H v'' d'' := by
  cases r with
  | cons r rs =>
    obtain ⟨v', v'', rfl, h1, h2⟩ := rs.two_inv
    exact ⟨_, _, _, rfl, r, h1, h2⟩
theorem di_range3 (hg : Gl X "range") (hm : X.mg "range" = none) (ha : DA X T W [a, b, c] t) (hs : starEach [a, b, c] X.env = (false, eval a X.env) :: starEach [b, c] X.env := by rfl) (hpl : (backTo pos (starEach [b, c] X.env)).any (·.1) = false := by rfl) : DI X T W tg (.Call (.Name "range" p) [a, b, c] [] pos) (iArgs rng3D t) :=
  PI_imp (pi_range3 hg hm ha hs hpl) fun σ H R ⟨τ, M, Rd, E, hs, hm, ht, hx, hr⟩ => ⟨τ, M, _, E, hs, hm, ht, fun vs ds H1 M1 k1 r1 m1 h1 => by
    unfold rng3D at h1
    try dsimp only at h1
    split at h1
    · obtain ⟨v, v', v'', rfl, r, r', r''⟩ := r1.three_inv
      obtain ⟨n, h2, h3⟩ := h1
      exact ⟨_, _, _, n, by rw [r.int_inv, r'.int_inv, r''.int_inv], h2, hr _ _ _ H1 M1 k1 m1 wd_rangeC h3⟩
    · exact h1.elim, hx⟩

/-! ## enumerate of a list -/
def enumL (i : Nat) : List D → List D
  | [] => []
  | d :: ds => .tup [.int (i : Nat), d] :: enumL (i + 1) ds
theorem enumL_len : ∀ (i : Nat) (l : List D), (enumL i l).length = l.length
  | _, [] => rfl
  | i, _ :: l => by simp [enumL, enumL_len (i + 1) l]
theorem enumL_get : ∀ {j i : Nat} {l : List D} {d : D}, (enumL i l)[j]? = some d → ∃ x, l[j]? = some x ∧ d = .tup [.int ((i + j : Nat)), x]
  | _, _, [], _, h => by simp [enumL] at h
  | 0, i, x :: l, d, h => by simp [enumL] at h; exact ⟨x, rfl, by simp [← h]⟩
  | j + 1, i, x :: l, d, h => by
    obtain ⟨y, h1, h2⟩ := enumL_get (j := j) (i := i + 1) (l := l) (by simpa [enumL] using h)
    exact ⟨y, by simpa using h1, by rw [h2]; congr 4; omega⟩
theorem wd_enumL {H0 : Hp} {a : Addr} {xs : List D} : WalkD K T H0 (Ite K a) (enumL 0 xs) (isAt a xs) where
  goes := fun i H M hi _ m g => by
    obtain ⟨vs, h1, h2⟩ := m.lst g
    rw [enumL_len] at hi
    exact ⟨vs, vs[i]'(by rw [h2.length]; omega), SqL.of h1, List.getElem?_eq_getElem _⟩
  stops := fun H M _ m g => by
    obtain ⟨vs, h1, h2⟩ := m.lst g
    exact ⟨vs, SqL.of h1, by rw [enumL_len, h2.length]; omega⟩
  yields := fun i H M x H' d hd _ m g ⟨q, v, e1, e2, e3, e4⟩ => by
    obtain ⟨vs, h1, h2⟩ := m.lst g
    obtain ⟨y, g1, rfl⟩ := enumL_get hd
    obtain ⟨u, q1, q2⟩ := h2.get g1
    have e4' := e4 vs (SqL.of h1)
    rw [q1] at e4'; cases e4'
    subst e1; subst e3
    refine ⟨.new e2, ?_, m.more e2⟩
    have := (Rep.int (K := K) (H := H) (i : Nat)).pair q2 e2
    simpa using this
def enumD (ds : List D) (M : Mp) (R : List D → (Mp → Prop) → Mp → Prop) : Prop := match ds with
  | [.ref a] => (match M a with
    | some (.lst xs) => R (enumL 0 xs) (isAt a xs) M
    | _ => False)
  | _ => False
@[simp] theorem enumD_ref {a : Addr} {M : Mp} {R : List D → (Mp → Prop) → Mp → Prop} : enumD [.ref a] M R = (match M a with | some (.lst xs) => R (enumL 0 xs) (isAt a xs) M | _ => False) := rfl
theorem di_enum {tpos : Pos} {elts : List Expr} {kk : Nat} (hg : Gl X "enumerate") (hm : X.mg "enumerate" = none) (ha : DA X T W [e] t) (hs : starEach [e] X.env = [(false, eval e X.env)] := by rfl) : DI X T W (.Tuple elts kk tpos) (.Call (.Name "enumerate" p) [e] [] pos) (iArgs enumD t) :=
  PI_imp (pi_enum hg hm ha hs) fun σ H R ⟨τ, M, Rd, E, hs, hm, ht, hx, hr⟩ => ⟨τ, M, _, E, hs, hm, ht, fun vs ds H1 M1 k1 r1 m1 h1 => by
    unfold enumD at h1
    try dsimp only at h1
    split at h1
    · obtain ⟨v, rfl, r⟩ := r1.one_inv
      rw [r.ref_inv]
      split at h1
      · rename_i xs e0
        obtain ⟨us, q1, q2⟩ := m1.lst e0
        exact ⟨_, us, rfl, SqL.of q1, hr _ _ _ H1 M1 k1 m1 wd_enumL h1⟩
      · exact h1.elim
    · exact h1.elim, hx⟩
end
end DL

set_option Elab.async false
set_option linter.all false
set_option maxRecDepth 100000
set_option maxHeartbeats 2000000
namespace DL
open PySem PySem.Spec PyProof.Rows L2
open Sem (wp)
theorem meets_enumT (l : Addr) (items : Array PySem.Value) (o : Obj) (n : Nat) (hc : o.cls = .type "tuple") (hd : o.data = .seq items n) :
    Meets (Builtin.«enumerate.__new__» ⟨[.type "enumerate", .ref l], []⟩) (fun _ R s => s.heap.get? l = some o ∧
      R (.ok (.ret (.ref (s.heap.push { cls := .type "tuple_iterator", data := .fields #[.ref l, .int 0 0] }).objs.size)))
        { s with heap := (s.heap.push { cls := .type "tuple_iterator", data := .fields #[.ref l, .int 0 0] }).push { cls := .type "enumerate", data := .fields #[.none, .bool false, .ref s.heap.objs.size, rawInt 0, .none, .none] } }) :=
  .of_wp fun prog w A R s h => by
    obtain ⟨hp, g, d, tk, os⟩ := s
    obtain ⟨hl, h⟩ := h
    have hsub := sub_enumerate
    have hT : Heap.IsTuple (Shared.heap ⟨hp, g, d, tk, os⟩) l items := ⟨o, hl, hc, n, hd⟩
    obtain ⟨oc, od, odt, osl⟩ := o
    simp only at hc hd
    subst hc hd
    wp_walk using AutoSeq1.wpAny_loadPart' hl
    refine wpAny_stack_any fun st => wpAny_pure ?_
    split
    · rename_i c _ _ _ _ _
      cases (c == PySem.Value.type "enumerate")
      · wp_walk using AutoSeq1.wpAny_loadPart' hl, wpAny_pyIter_tuple hT
        exact ⟨_, rfl, h⟩
      · wp_walk using AutoSeq1.wpAny_loadPart' hl, wpAny_pyIter_tuple hT
        exact ⟨_, rfl, h⟩
    · wp_walk using AutoSeq1.wpAny_loadPart' hl, wpAny_pyIter_tuple hT
      exact ⟨_, rfl, h⟩
theorem call_enumT {prog : Program} {w : World} {A : Around} {E : PySem.Value → Shared → Prop} {s : Shared} {l : Addr} {items : Array PySem.Value} {Q : PySem.Value → Shared → Prop} (hL : s.heap.IsTuple l items)
    (h : ∀ h', IsEnum h' (s.heap.objs.size + 1) s.heap.objs.size 0 .none → h'.IsTupleIter s.heap.objs.size l 0 → h'.objs.size = s.heap.objs.size + 2 →
      (∀ b o, s.heap.get? b = some o → h'.get? b = some o) → Q (.ref (s.heap.objs.size + 1)) { s with heap := h' }) :
    wpAny (model prog w) A (call (.type "enumerate") [.ref l]) Q E s := by
  obtain ⟨o, hl, hc, n, hd⟩ := hL
  refine callType_new F.called_enumerate (by decide) (F.typeCall_enumerate_1 _) (F.newCall_enumerate_1 _) (fun obj => F.args_object_init_2 obj _) F.entry_enumerate_new (meets_enumT l items o n hc hd) ⟨hl, ?_⟩
  have hz : (s.heap.push { cls := .type "tuple_iterator", data := .fields #[.ref l, .int 0 0] }).objs.size = s.heap.objs.size + 1 := Heap.size_push ..
  show _ ∧ _
  rw [hz]
  have he : IsEnum ((s.heap.push { cls := .type "tuple_iterator", data := .fields #[.ref l, .int 0 0] }).push
      { cls := .type "enumerate", data := .fields #[.none, .bool false, .ref s.heap.objs.size, rawInt 0, .none, .none] }) (s.heap.objs.size + 1) s.heap.objs.size 0 .none := by
    have := Heap.get?_push_size (s.heap.push { cls := .type "tuple_iterator", data := .fields #[.ref l, .int 0 0] }) (o := { cls := .type "enumerate", data := .fields #[.none, .bool false, .ref s.heap.objs.size, rawInt 0, .none, .none] }) rfl
    rw [hz] at this; exact this
  refine ⟨⟨_, he, rfl⟩, h _ he ⟨_, Heap.get?_push_of_some _ (Heap.get?_push_size _ rfl), rfl, rfl⟩ (by rw [Heap.size_push, hz]) fun b o x => Heap.get?_push_of_some _ (Heap.get?_push_of_some _ x)⟩
def IteT (K : Fr) (a : Addr) : It :=
  ⟨fun i H => ∃ (xs : List V) (x : V), SqT K H a xs ∧ xs[i]? = some x, fun i H v H' => ∃ q x, v = .ref q ∧ H q = none ∧ H' = upd H q (.tup [.int (i : Nat), x]) ∧ ∀ xs, SqT K H a xs → xs[i]? = some x, fun i H => ∃ xs : List V, SqT K H a xs ∧ xs.length ≤ i⟩
theorem turn_enumT {P : Program} {w : World} {K : Fr} {elts : List Expr} {kk : Nat} {tpos : Pos} (a e it : Addr) :
    Turn P w K (.Tuple elts kk tpos) (IteT K a) [e, it] e (fun i h => (∃ old, IsEnum h e it ((i : Nat) : Int) old) ∧ h.IsTupleIter it a i ∧ e ≠ it) where
  mem := by simp
  obj := fun i h st b hb => by
    obtain ⟨⟨old, he⟩, ⟨o, ho, hc, hd⟩, _⟩ := st
    rcases (show b = e ∨ b = it by simpa using hb) with z | z
    · rw [z]; exact ⟨_, he, fun v q => nomatch q⟩
    · rw [z]; exact ⟨o, ho, fun v q => by rw [hd] at q; cases q⟩
  keep := fun i h h' st k => let ⟨⟨old, he⟩, hi, hne⟩ := st; ⟨⟨old, k e (by simp) _ he⟩, hi.at fun o q => k it (by simp) o q, hne⟩
  item := by
    intro X hP hw hK hc i pins s σ H E I hf st hg
    subst hP hw hK
    obtain ⟨⟨old, he⟩, hit, hne⟩ := st
    obtain ⟨xs, x, hq, hx⟩ := hg
    obtain ⟨its, rv, p, hz⟩ := I.tuple hq
    obtain ⟨u, hu, ru⟩ := rv.get hx
    have hel : e < s.heap.objs.size := Heap.lt_size he
    have hil : it < s.heap.objs.size := by obtain ⟨_, q, _⟩ := hit; exact Heap.lt_size q
    have hei : a ≠ it := by
      rintro rfl
      obtain ⟨o1, q1, q2, _⟩ := hit
      obtain ⟨o2, q3, q4, _⟩ := p
      rw [q1] at q3; cases q3; rw [q2] at q4
      injection q4 with z; exact absurd z (by decide)
    have hea : e ≠ a := by
      rintro rfl
      obtain ⟨o2, q3, q4, _⟩ := p
      have he' : s.heap.get? e = some _ := he
      rw [he'] at q3; cases q3
      injection q4 with z; exact absurd z (by decide)
    have hlt : i < its.toArray.size := by
      have := (List.getElem?_eq_some_iff.mp hu).1
      simpa using this
    refine wpAny_pyNext_enum_itemD (Draws.tuple (A := X.A.in1) (I.ok.hd hc) it a hei its.toArray) he ⟨hit, p⟩ hlt hne (by simp [hne, hea]) fun u' h' tk hp' ho hst hT hsz hk => ?_
    have eu : u' = u := by
      have h1 : its.toArray[i]? = some u := by simpa using hu
      rw [h1] at hp'; exact (Option.some.inj hp').symm
    subst eu
    refine ⟨_, rfl, wpAny_letOwnedTupleGo_enum (s := { s with heap := h', toks := tk + 1 }) ho fun h'' he' sb => ?_⟩
    have hT2 : h''.get? s.heap.objs.size = some { cls := .type "tuple", data := .seq #[.int i tk, u'] } := (sb.2 _ (Nat.ne_of_gt hel)).trans hT
    have new : ObjOk X.prog X.w (upd H s.heap.objs.size (.tup [.int (i : Nat), x])) h'' s.heap.objs.size (.tup [.int (i : Nat), x]) :=
      ⟨by show 2 ≤ sizeLine; decide, [.int i tk, u'], .cons ⟨_, rfl⟩ (.cons ru .nil), ⟨_, hT2, rfl, _, rfl⟩⟩
    have I1 : Inv X pins σ (upd H s.heap.objs.size (.tup [.int (i : Nat), x])) { s with heap := h'', toks := tk + 1 } :=
      I.turnedNew (ch := [e, it]) (fun b ob hb q => (sb.2 b (fun z => hb (by simp [z]))).trans (hk b ob (fun z => hb (by simp [z])) (fun z => hb (by simp [z])) q)) hf (Nat.le_refl _) new
    have e1 : ((i + 1 : Nat) : Int) = (i : Int) + 1 := by omega
    refine ⟨.ref s.heap.objs.size, _, I1, rfl, ⟨_, x, rfl, I.hok.fresh (Nat.le_refl _), rfl, fun ys hy => by rw [I.tuple_inj hy hq]; exact hx⟩, ⟨⟨u', by rw [e1]; exact he'⟩, hst.1.at fun o q => (sb.2 it (Ne.symm hne)).trans q, hne⟩, fun b hb => ?_⟩
    have hb' : b < s.heap.objs.size := by
      rcases (show b = e ∨ b = it by simpa using hb) with z | z
      · rw [z]; exact hel
      · rw [z]; exact hil
    rw [upd_ne (Nat.ne_of_lt hb')]
    exact (hf b hb).1
  done := by
    intro X hP hw hK hc i pins s σ H E I hf st hg
    subst hP hw hK
    obtain ⟨⟨old, he⟩, hit, hne⟩ := st
    obtain ⟨xs, hq, hx⟩ := hg
    obtain ⟨its, rv, p, hz⟩ := I.tuple hq
    obtain ⟨f0, f1, f2, f3, f4, f5⟩ := hf it (by simp)
    have hl := rv.length
    have hei : a ≠ it := by
      rintro rfl
      obtain ⟨o1, q1, q2, _⟩ := hit
      obtain ⟨o2, q3, q4, _⟩ := p
      rw [q1] at q3; cases q3; rw [q2] at q4
      injection q4 with z; exact absurd z (by decide)
    have hh : X.A.in1.handled = none := I.ok.hd hc
    have D0 := Draws.tuple (prog := X.prog) (w := X.w) (A := X.A.in1) hh it a hei its.toArray
    have D : Draws X.prog X.w X.A.in1 it [it, a] i (fun j v => its.toArray[j]? = some v) (fun j h => j = i ∧ h.IsTupleIter it a i ∧ h.IsTuple a its.toArray) :=
      ⟨fun j h st => D0.live i h st.2, fun j h h' st k => ⟨st.1, D0.frame i h h' st.2 k⟩, fun j s Q E hj st _ => absurd st.1 (Nat.ne_of_lt hj), fun s Q E st hE => wpAny_nextOf_tuple_end hh st.2.1 st.2.2 (by simp; omega) hE⟩
    exact wpAny_pyNext_enum_endD D he ⟨rfl, hit, p⟩ fun h' eb => ⟨rfl, I.turned (t' := s.toks) (fun b o hb q => eb b o hb q) f0 f1 f3 f4 f5⟩
  self := fun A i s Q E st h => let ⟨⟨_, he⟩, _⟩ := st; wpAny_pyIter_enum he h
section
variable {X : Cx} {T : Tb} {W : WX} {e : Expr} {t : TDA} {p pos : Pos} {K : Fr}
def iEnumA (K : Fr) (ta : TA) : TI := fun σ H R => ta σ H fun vs H1 => ∃ a xs, vs = [.ref a] ∧ ((SqL K H1 a xs ∧ R (Ite K a) H1) ∨ (SqT K H1 a xs ∧ R (IteT K a) H1))
theorem pi_enumA {ta : TA} {tpos : Pos} {elts : List Expr} {kk : Nat} (hg : Gl X "enumerate") (hm : X.mg "enumerate" = none) (ha : PA X [e] ta) (hs : starEach [e] X.env = [(false, eval e X.env)] := by rfl) :
    PI X (.Tuple elts kk tpos) (.Call (.Name "enumerate" p) [e] [] pos) (iEnumA X.K ta) := by
  refine ⟨fun pins s σ H R I h => ?_⟩
  refine Call_ (ld_blt I hg hm boot_enumerate (PyProof.Rows.callWith_type1 (thn (ha.run pos pins s σ H _ I h) fun us s1 ⟨vs, H1, I1, r1, q1⟩ => ?_) hs rfl))
  obtain ⟨a, xs, ex, hq⟩ := q1
  subst ex
  obtain ⟨u, rfl, r2⟩ := vals1 r1
  cases (show u = PySem.Value.ref a from r2)
  have fp : ∀ b ∈ [s1.heap.objs.size + 1, s1.heap.objs.size], FpOk X pins H1 b := fun b hb => by
    have hle : s1.heap.objs.size ≤ b := by
      rcases (show b = s1.heap.objs.size + 1 ∨ b = s1.heap.objs.size by simpa using hb) with z | z
      · rw [z]; exact Nat.le_add_right _ _
      · rw [z]; exact Nat.le_refl _
    exact I1.fpOk hle (I1.hok.fresh hle)
  rcases hq with ⟨hq, q⟩ | ⟨hq, q⟩
  · obtain ⟨its, rv, p', hz⟩ := I1.list hq
    refine call_enumerate_list p'.isList fun h' he hit hsz hk => wpAny_pyIter_enum he ?_
    exact ⟨s1.heap.objs.size + 1, [s1.heap.objs.size + 1, s1.heap.objs.size], _, _, H1, rfl, I1.kept (t' := s1.toks) hk, turn_enum a (s1.heap.objs.size + 1) s1.heap.objs.size, ⟨⟨.none, he⟩, hit, Nat.succ_ne_self _⟩, fp, q⟩
  · obtain ⟨its, rv, p', hz⟩ := I1.tuple hq
    refine call_enumT p' fun h' he hit hsz hk => wpAny_pyIter_enum he ?_
    exact ⟨s1.heap.objs.size + 1, [s1.heap.objs.size + 1, s1.heap.objs.size], _, _, H1, rfl, I1.kept (t' := s1.toks) hk, turn_enumT a (s1.heap.objs.size + 1) s1.heap.objs.size, ⟨⟨.none, he⟩, hit, Nat.succ_ne_self _⟩, fp, q⟩
theorem wd_enumT {H0 : Hp} {a : Addr} {vs : List V} {xs : List D} (h : SqT K H0 a vs) (r : Reps K H0 vs xs) : WalkD K T H0 (IteT K a) (enumL 0 xs) anyM where
  goes := fun i H M hi k m g => by
    rw [enumL_len] at hi
    exact ⟨vs, vs[i]'(by rw [r.length]; omega), k.sqT h, List.getElem?_eq_getElem _⟩
  stops := fun H M k m g => ⟨vs, k.sqT h, by rw [enumL_len, r.length]; omega⟩
  yields := fun i H M x H' d hd k m g ⟨q, v, e1, e2, e3, e4⟩ => by
    obtain ⟨y, g1, rfl⟩ := enumL_get hd
    obtain ⟨u, q1, q2⟩ := (r.keep k).get g1
    have e4' := e4 vs (k.sqT h)
    rw [q1] at e4'; cases e4'
    subst e1; subst e3
    refine ⟨.new e2, ?_, m.more e2⟩
    have := (Rep.int (K := K) (H := H) (i : Nat)).pair q2 e2
    simpa using this
def enumA (ds : List D) (M : Mp) (R : List D → (Mp → Prop) → Mp → Prop) : Prop := match ds with
  | [.tup xs] => R (enumL 0 xs) anyM M
  | [.ref a] => (match M a with
    | some (.lst xs) => R (enumL 0 xs) (isAt a xs) M
    | _ => False)
  | _ => False
@[simp] theorem enumA_ref {a : Addr} {M : Mp} {R : List D → (Mp → Prop) → Mp → Prop} : enumA [.ref a] M R = (match M a with | some (.lst xs) => R (enumL 0 xs) (isAt a xs) M | _ => False) := rfl
@[simp] theorem enumA_tup {xs : List D} {M : Mp} {R : List D → (Mp → Prop) → Mp → Prop} : enumA [.tup xs] M R = R (enumL 0 xs) anyM M := rfl
theorem di_enumA {tpos : Pos} {elts : List Expr} {kk : Nat} (hg : Gl X "enumerate") (hm : X.mg "enumerate" = none) (ha : DA X T W [e] t) (hs : starEach [e] X.env = [(false, eval e X.env)] := by rfl) : DI X T W (.Tuple elts kk tpos) (.Call (.Name "enumerate" p) [e] [] pos) (iArgs enumA t) :=
  PI_imp (pi_enumA hg hm ha hs) fun σ H R ⟨τ, M, Rd, E, hs, hm, ht, hx, hr⟩ => ⟨τ, M, _, E, hs, hm, ht, fun vs ds H1 M1 k1 r1 m1 h1 => by
    unfold enumA at h1
    try dsimp only at h1
    split at h1
    · obtain ⟨v, rfl, r⟩ := r1.one_inv
      obtain ⟨a, us, rfl, q1, q2⟩ := r.tup_inv
      exact ⟨a, us, rfl, .inr ⟨q1, hr _ _ _ H1 M1 k1 m1 (wd_enumT q1 q2) h1⟩⟩
    · obtain ⟨v, rfl, r⟩ := r1.one_inv
      rw [r.ref_inv]
      split at h1
      · rename_i xs e0
        obtain ⟨us, q1, q2⟩ := m1.lst e0
        exact ⟨_, us, rfl, .inl ⟨SqL.of q1, hr _ _ _ H1 M1 k1 m1 wd_enumL h1⟩⟩
      · exact h1.elim
    · exact h1.elim, hx⟩
end
end DL

set_option Elab.async false
set_option linter.all false
set_option maxRecDepth 100000
set_option maxHeartbeats 2000000
namespace DL
open PySem PySem.Spec PyProof.Rows L2
section
variable {X : Cx} {T : Tb} {W : WX} {a b c d e : Expr} {ta tb tc td : TDE} {pos : Pos}
/-! ## a op1 b op2 c op3 d -/
def tChain3 (r r' r'' : R2) (ta tb tc td : TE) : TE := fun σ H Q => ta σ H fun x H1 => tb σ H1 fun y H2 => r x y H2 fun z H3 => ∃ k, z = .bl k ∧
  (if k = true then tc σ H3 fun w' H4 => r' y w' H4 fun z H5 => ∃ k, z = .bl k ∧ (if k = true then td σ H5 fun v H6 => r'' w' v H6 Q else Q (.bl false) H5) else Q (.bl false) H3)
theorem pe_chain3 {op op' op'' : CmpOp} {r r' r'' : R2} {ta tb tc td : TE} (ho : OpR X (compareOp op) r) (ho' : OpR X (compareOp op') r') (ho'' : OpR X (compareOp op'') r'') (ha : PE X a ta) (hb : PE X b tb) (hc : PE X c tc) (hd : PE X d td)
    (hm : lastMarks [op, op', op''] [b, c, d] = false := by with_unfolding_all rfl) : PE X (.Compare a [op, op', op''] [b, c, d] pos) (tChain3 r r' r'' ta tb tc td) := by
  refine ⟨fun pz s σ H Q I h => ?_⟩
  refine Compare_chain (thn (ha.run pz s σ H _ I h) fun v s1 ⟨x, H1, J1, r1, q1⟩ => chain_link (thn (hb.run pz s1 σ H1 _ J1 q1) fun u s2 ⟨y, H2, J2, r2, q2⟩ =>
    thn (ho pz s2 σ H2 x y v u _ J2 r1 r2 q2) fun d s3 ⟨z, H3, J3, r3, k, e, q3⟩ => ?_)) hm
  subst e
  cases r3
  refine wpAny_truthy_bool ?_ -- a link
  cases k with
  | false => exact ite_ff ⟨.bl false, H3, J3, rfl, q3⟩
  | true =>
    refine ite_tt (chain_link (thn (hc.run pz s3 σ H3 _ J3 q3) fun w' s4 ⟨z', H4, J4, r4, q4⟩ => thn (ho' pz s4 σ H4 y z' u w' _ J4 r2 r4 q4) fun d s5 ⟨z, H5, J5, r5, k, e, q5⟩ => ?_))
    subst e
    cases r5
    refine wpAny_truthy_bool ?_ -- a link
    cases k with
    | false => exact ite_ff ⟨.bl false, H5, J5, rfl, q5⟩
    | true => exact ite_tt (chain_last (thn (hd.run pz s5 σ H5 _ J5 q5) fun v' s6 ⟨z6, H6, J6, r6, q6⟩ => ho'' pz s6 σ H6 z' z6 w' v' Q J6 r4 r6 q6))
theorem pt_chain3 {op op' op'' : CmpOp} {r r' r'' : R2} {ta tb tc td : TE} (ho : OpR X (compareOp op) r) (ho' : OpR X (compareOp op') r') (ho'' : OpR X (compareOp op'') r'') (ha : PE X a ta) (hb : PE X b tb) (hc : PE X c tc) (hd : PE X d td)
    (hm : lastMarks [op, op', op''] [b, c, d] = false := by with_unfolding_all rfl) : PT X (.Compare a [op, op', op''] [b, c, d] pos) (tTest (tChain3 r r' r'' ta tb tc td)) := by
  refine ⟨fun pz s σ H Q I h => ?_⟩
  refine isTrue_chain (thn (ha.run pz s σ H _ I h) fun v s1 ⟨x, H1, J1, r1, q1⟩ => test_link (thn (hb.run pz s1 σ H1 _ J1 q1) fun u s2 ⟨y, H2, J2, r2, q2⟩ =>
    thn (ho pz s2 σ H2 x y v u _ J2 r1 r2 q2) fun d s3 ⟨z, H3, J3, r3, k, e, q3⟩ => ?_)) hm
  subst e
  cases r3
  refine wpAny_truthy_bool ?_ -- a link
  cases k with
  | false =>
    obtain ⟨k', e', p'⟩ := q3
    cases e'
    exact ite_ff ⟨H3, J3, p'⟩
  | true =>
    refine ite_tt (test_link (thn (hc.run pz s3 σ H3 _ J3 q3) fun w' s4 ⟨z', H4, J4, r4, q4⟩ => thn (ho' pz s4 σ H4 y z' u w' _ J4 r2 r4 q4) fun d s5 ⟨z, H5, J5, r5, k, e, q5⟩ => ?_))
    subst e
    cases r5
    refine wpAny_truthy_bool ?_ -- a link
    cases k with
    | false =>
      obtain ⟨k', e', p'⟩ := q5
      cases e'
      exact ite_ff ⟨H5, J5, p'⟩
    | true =>
      refine ite_tt (test_last (thn (hd.run pz s5 σ H5 _ J5 q5) fun v' s6 ⟨z6, H6, J6, r6, q6⟩ => thn (ho'' pz s6 σ H6 z' z6 w' v' _ J6 r4 r6 q6) fun d s7 ⟨z7, H7, J7, r7, k7, e7, q7⟩ => ?_))
      subst e7
      cases r7
      exact wpAny_truthy_bool ⟨H7, J7, q7⟩
@[simp] def dChain3 (r r' r'' : DR2) (ta tb tc td : TDE) : TDE := fun τ M Q E => ta τ M (fun x M1 => tb τ M1 (fun y M2 => r x y M2 (fun z M3 => match z with
  | .bl true => tc τ M3 (fun w M4 => r' y w M4 (fun z M5 => match z with
    | .bl true => td τ M5 (fun v M6 => r'' w v M6 Q) E
    | .bl false => Q (.bl false) M5
    | _ => False)) E
  | .bl false => Q (.bl false) M3
  | _ => False)) E) E
theorem chain3_lift {r r' r'' : R2} {rd rd' rd'' : DR2} (hr : Lift2 X.K T r rd) (hr' : Lift2 X.K T r' rd') (hr'' : Lift2 X.K T r'' rd'') (σ : L2.St) (H : Hp) (Q : VK) (h : liftE X.K T W (dChain3 rd rd' rd'' ta tb tc td) σ H Q) : tChain3 r r' r'' (liftE X.K T W ta) (liftE X.K T W tb) (liftE X.K T W tc) (liftE X.K T W td) σ H Q := by
  obtain ⟨τ, M, Qd, E, hs, hm, ht, hq, hx⟩ := h
  refine ⟨τ, M, _, E, hs, hm, ht, fun x dx H1 M1 k1 r1 m1 h1 => ⟨τ, M1, _, E, hs.keep k1, m1, h1, fun y dy H2 M2 k2 r2 m2 h2 => ?_, hx.keep k1⟩, hx⟩
  refine hr x y dx dy H2 M2 _ _ (r1.keep k2) r2 m2 h2 fun z dz H3 M3 k3 r3 m3 h3 => ?_
  have k13 : Keep H H3 := (k1.trans k2).trans k3
  split at h3
  · refine ⟨true, r3.bl_inv, ?_⟩
    rw [if_pos rfl]
    refine ⟨τ, M3, _, E, hs.keep k13, m3, h3, fun w dw H4 M4 k4 r4 m4 h4 => ?_, hx.keep k13⟩
    refine hr' y w dy dw H4 M4 _ _ (r2.keep (k3.trans k4)) r4 m4 h4 fun z dz H5 M5 k5 r5 m5 h5 => ?_
    have k15 : Keep H H5 := (k13.trans k4).trans k5
    split at h5
    · refine ⟨true, r5.bl_inv, ?_⟩
      rw [if_pos rfl]
      refine ⟨τ, M5, _, E, hs.keep k15, m5, h5, fun v dv H6 M6 k6 r6 m6 h6 => ?_, hx.keep k15⟩
      exact hr'' w v dw dv H6 M6 Q Qd (r4.keep (k5.trans k6)) r6 m6 h6 (hq.keep (k15.trans k6))
    · refine ⟨false, r5.bl_inv, ?_⟩
      rw [if_neg (by decide)]
      exact hq _ _ _ _ k15 (.bl false) m5 h5
    · exact h5.elim
  · refine ⟨false, r3.bl_inv, ?_⟩
    rw [if_neg (by decide)]
    exact hq _ _ _ _ k13 (.bl false) m3 h3
  · exact h3.elim
theorem dv_chain3 {o o' o'' : CmpOp} {rd rd' rd'' : DR2} (h : CmpR X T o rd) (h' : CmpR X T o' rd') (h'' : CmpR X T o'' rd'') (ha : DE X T W a ta) (hb : DE X T W b tb) (hc : DE X T W c tc) (hd : DE X T W d td) (hm : lastMarks [o, o', o''] [b, c, d] = false := by with_unfolding_all rfl) :
    DE X T W (.Compare a [o, o', o''] [b, c, d] pos) (dChain3 rd rd' rd'' ta tb tc td) :=
  let ⟨_, h1, h2⟩ := h.ex; let ⟨_, h3, h4⟩ := h'.ex; let ⟨_, h5, h6⟩ := h''.ex; PE_imp (pe_chain3 h1 h3 h5 ha hb hc hd hm) (chain3_lift h2 h4 h6)
theorem tt_chain3 {o o' o'' : CmpOp} {rd rd' rd'' : DR2} (h : CmpR X T o rd) (h' : CmpR X T o' rd') (h'' : CmpR X T o'' rd'') (ha : DE X T W a ta) (hb : DE X T W b tb) (hc : DE X T W c tc) (hd : DE X T W d td) (hm : lastMarks [o, o', o''] [b, c, d] = false := by with_unfolding_all rfl) :
    DT X T W (.Compare a [o, o', o''] [b, c, d] pos) (dB (dChain3 rd rd' rd'' ta tb tc td)) :=
  let ⟨_, h1, h2⟩ := h.ex; let ⟨_, h3, h4⟩ := h'.ex; let ⟨_, h5, h6⟩ := h''.ex; PT_imp (pt_chain3 h1 h3 h5 ha hb hc hd hm) fun σ H Q h => chain3_lift h2 h4 h6 σ H _ (dB_lift σ H Q h)
end
end DL

set_option Elab.async false
set_option linter.all false
set_option maxRecDepth 100000
set_option maxHeartbeats 4000000
namespace DL
open PySem PySem.Spec PyProof.Rows L2
/-! ## comprehensions of two clauses -/
/-- the inner clause's walk; Nx is what comes behind it -/
def wLi (guard : Mp → Prop) (gd : TDG) (tt : TDT) (te : TDE) (τ : DSt) (p : Addr) (Nx : Mp → Prop) : List D → Mp → Prop
  | [], M => guard M ∧ Nx M
  | d :: ds, M => guard M ∧ gd d τ M (fun τ2 M2 => tt τ2 M2 (fun b M3 => if b = true then te τ2 M3 (fun y M4 => match M4 p with
      | some (.lst acc) => SzOk (acc.length + 1) ∧ wLi guard gd tt te τ p Nx ds (mup M4 p (.lst (acc ++ [y])))
      | _ => False) noX else wLi guard gd tt te τ p Nx ds M3) noX) noXS
/-- the outer clause's walk -/
def wLo (guard : Mp → Prop) (gd : TDG) (tt : TDT) (wi1 : TDI) (gd1 : TDG) (tt1 : TDT) (te : TDE) (vs1 : List Nat) (τ : DSt) (p : Addr) (Q : DQ) : List D → Mp → Prop
  | [], M => guard M ∧ Q (.ref p) M
  | d :: ds, M => guard M ∧ gd d τ M (fun τ2 M2 => tt τ2 M2 (fun b M3 => if b = true then wi1 τ2 M3 (fun items1 guard1 M4 => wLi guard1 gd1 tt1 te (dwipe τ2 vs1) p (fun M5 => wLo guard gd tt wi1 gd1 tt1 te vs1 τ p Q ds M5) items1 M4) noX
      else wLo guard gd tt wi1 gd1 tt1 te vs1 τ p Q ds M3) noX) noXS
def dLc2 (wi : TDI) (gd : TDG) (tt : TDT) (wi1 : TDI) (gd1 : TDG) (tt1 : TDT) (te : TDE) (vs vs1 : List Nat) : TDE := fun τ M Q E => wi τ M (fun items guard M1 => ∀ p, M1 p = none → wLo guard gd tt wi1 gd1 tt1 te vs1 (dwipe τ vs) p Q items (mup M1 p (.lst []))) E
section
variable {X : Cx} {T : Tb} {W : WX} {tg tg1 : Expr} {g g1 : TDG} {tt tt1 : TDT} {te : TDE} {pos : Pos}
theorem lc2_lift {wi wi1 : TDI} {gV gV1 : TG} {vs vs1 : List Nat} (hgc : TgC X.K T vs gV g) (hgc1 : TgC X.K T vs1 gV1 g1) (σ : L2.St) (H : Hp) (Q : VK) (h : liftE X.K T W (dLc2 wi g tt wi1 g1 tt1 te vs vs1) σ H Q) :
    tLc2 (liftI X.K T W wi) gV (liftT X.K T W0 tt) (liftI X.K T W0 wi1) gV1 (liftT X.K T W0 tt1) (liftE X.K T W0 te) vs vs1 σ H Q := by
  obtain ⟨τ, M, Qd, E, hs, hm, ht, hq, hx⟩ := h
  refine ⟨τ, M, _, E, hs, hm, ht, hx, fun items guard J H1 M1 k1 m1 wd h1 => ?_⟩
  intro p hp
  have kp : Keep H1 (upd H1 p (.lst [])) := .new hp
  refine ⟨fun i m H' => ∃ M', i ≤ items.length ∧ m = items.length - i ∧ Keep H1 H' ∧ RepH X.K T H' M' ∧ wLo guard g tt wi1 g1 tt1 te vs1 (dwipe τ vs) p Qd (items.drop i) M', ⟨_, _, Nat.zero_le _, rfl, kp, m1.newL hp .nil, h1 p (m1.fresh hp)⟩, ?_⟩
  rintro i m H' ⟨M', hi, rfl, k', m', hw⟩
  have k0' := k1.trans k'
  by_cases hlt : i < items.length
  case neg =>
    have e : i = items.length := by omega
    subst e
    rw [List.drop_length] at hw
    exact .inl ⟨wd.stops H' M' k' m' hw.1, hq _ _ H' M' k0' (.ref p) m' hw.2⟩
  have e : items.drop i = items[i] :: items.drop (i + 1) := List.drop_eq_getElem_cons hlt
  rw [e] at hw
  obtain ⟨hg0, hw⟩ := hw
  refine .inr ⟨wd.goes i H' M' hlt k' m' hg0, fun H2 => ∃ M2, i + 1 ≤ items.length ∧ Keep H1 H2 ∧ RepH X.K T H2 M2 ∧ wLo guard g tt wi1 g1 tt1 te vs1 (dwipe τ vs) p Qd (items.drop (i + 1)) M2, fun H2 ⟨M2, q0, q1, q2, q3⟩ => ⟨_, Nat.sub_lt_sub_left hlt (Nat.lt_succ_self i), M2, q0, rfl, q1, q2, q3⟩, fun x H2 y => ?_⟩
  obtain ⟨k2, r2, m2⟩ := wd.yields i H' M' x H2 items[i] (List.getElem?_eq_getElem hlt) k' m' hg0 y
  have k02 := k0'.trans k2
  have k12 := k'.trans k2
  refine hgc x _ H2 M' (wipe σ vs) (dwipe τ vs) σ _ _ (wipe_wipe σ vs) r2 ((hs.keep k02).wipe vs) m2 hw fun σ3 τ3 H3 M3 w3 k3 s3 m3 h3 => ⟨w3, ?_⟩
  have k13 := k12.trans k3
  refine ⟨τ3, M3, _, _, s3, m3, h3, fun bb H4 M4 k4 m4 h4 => ?_, fun _ _ _ _ _ _ _ _ _ _ z => z.elim⟩
  have k14 := k13.trans k4
  try dsimp only at h4
  try dsimp only
  cases bb with
  | false =>
    rw [if_neg (by decide)] at h4 ⊢
    exact ⟨M4, hlt, k14, m4, h4⟩
  | true =>
    rw [if_pos rfl] at h4 ⊢
    have s4 := s3.keep k4
    refine ⟨τ3, M4, _, _, s4, m4, h4, fun _ _ _ _ _ _ _ _ _ _ z => z.elim, fun items1 guard1 J1 H5 M5 k5 m5 wd1 h5 => ?_⟩
    refine ⟨fun j m H' => ∃ M', j ≤ items1.length ∧ m = items1.length - j ∧ Keep H5 H' ∧ RepH X.K T H' M' ∧ wLi guard1 g1 tt1 te (dwipe τ3 vs1) p (fun M5 => wLo guard g tt wi1 g1 tt1 te vs1 (dwipe τ vs) p Qd (items.drop (i + 1)) M5) (items1.drop j) M', ⟨_, M5, Nat.zero_le _, rfl, .refl H5, m5, h5⟩, ?_⟩
    rintro j k H6 ⟨M6, hj, rfl, k6, m6, hw6⟩
    by_cases hlt1 : j < items1.length
    case neg =>
      have e : j = items1.length := by omega
      subst e
      rw [List.drop_length] at hw6
      exact .inl ⟨wd1.stops H6 M6 k6 m6 hw6.1, M6, hlt, (k14.trans k5).trans k6, m6, hw6.2⟩
    have e1 : items1.drop j = items1[j] :: items1.drop (j + 1) := List.drop_eq_getElem_cons hlt1
    rw [e1] at hw6
    obtain ⟨hg1, hw6⟩ := hw6
    refine .inr ⟨wd1.goes j H6 M6 hlt1 k6 m6 hg1, fun H' => ∃ M', j + 1 ≤ items1.length ∧ Keep H5 H' ∧ RepH X.K T H' M' ∧ wLi guard1 g1 tt1 te (dwipe τ3 vs1) p (fun M5 => wLo guard g tt wi1 g1 tt1 te vs1 (dwipe τ vs) p Qd (items.drop (i + 1)) M5) (items1.drop (j + 1)) M', fun H' ⟨M', q0, q1, q2, q3⟩ => ⟨_, Nat.sub_lt_sub_left hlt1 (Nat.lt_succ_self j), M', q0, rfl, q1, q2, q3⟩, fun x7 H7 y7 => ?_⟩
    obtain ⟨k7, r7, m7⟩ := wd1.yields j H6 M6 x7 H7 items1[j] (List.getElem?_eq_getElem hlt1) k6 m6 hg1 y7
    have k57 := k6.trans k7
    have s7 := s4.keep (k5.trans k57)
    refine hgc1 x7 _ H7 M6 (wipe σ3 vs1) (dwipe τ3 vs1) σ3 _ _ (wipe_wipe σ3 vs1) r7 (s7.wipe vs1) m7 hw6 fun σ8 τ8 H8 M8 w8 k8 s8 m8 h8 => ⟨w8, ?_⟩
    have k58 := k57.trans k8
    refine ⟨τ8, M8, _, _, s8, m8, h8, fun bb H9 M9 k9 m9 h9 => ?_, fun _ _ _ _ _ _ _ _ _ _ z => z.elim⟩
    try dsimp only at h9
    try dsimp only
    cases bb with
    | false =>
      rw [if_neg (by decide)] at h9 ⊢
      exact ⟨M9, hlt1, k58.trans k9, m9, h9⟩
    | true =>
      rw [if_pos rfl] at h9 ⊢
      refine ⟨τ8, M9, _, _, s8.keep k9, m9, h9, fun y dy H10 M10 k10 r10 m10 h10 => ?_, fun _ _ _ _ _ _ _ _ _ _ z => z.elim⟩
      try dsimp only at h10
      split at h10
      · rename_i acc ea
        obtain ⟨us, u1, u2⟩ := m10.lst ea
        obtain ⟨m11, k11⟩ := m10.setL ea (u2.append (.cons r10 .nil))
        exact ⟨us, u1, by rw [u2.length]; exact Nat.lt_of_succ_le (szOk h10.1), _, hlt1, ((k58.trans k9).trans k10).trans k11, m11, h10.2⟩
      · exact h10.elim
theorem de_lc2 {elt iter iter1 : Expr} {ifs ifs1 : List Expr} {scope : Scope} {own : List (Str × Nat)} {vs1 : List Nat} {wi wi1 : TDI} {gV gV1 : TG} (hc : X.calm = true) (hN : X.N.Nodup) (hi : DI X T W tg iter wi) (ok : BlkOk X.N X.env.scope scope own)
    (hv : ∀ i ∈ vs1, i ∈ own.map (·.2))
    (hg : ∀ (s : Shared) (H : Hp) (C : Addr) (cl : List (Str × Addr)) (fp : List Addr), PG (X.blk s H scope (compEnvC scope cl C X.env) fp) tg gV) (hgc : TgC X.K T (own.map (·.2)) gV g)
    (ht : ∀ (s : Shared) (H : Hp) (C : Addr) (cl : List (Str × Addr)) (fp : List Addr), DTs (X.blk s H scope (compEnvC scope cl C X.env) fp) T W0 ifs tt)
    (hi1 : ∀ (s : Shared) (H : Hp) (C : Addr) (cl : List (Str × Addr)) (fp : List Addr), DI (X.blk s H scope (compEnvC scope cl C X.env) fp) T W0 tg1 iter1 wi1)
    (hg1 : ∀ (s : Shared) (H : Hp) (C : Addr) (cl : List (Str × Addr)) (fp : List Addr), PG (X.blk s H scope (compEnvC scope cl C X.env) fp) tg1 gV1) (hgc1 : TgC X.K T vs1 gV1 g1)
    (ht1 : ∀ (s : Shared) (H : Hp) (C : Addr) (cl : List (Str × Addr)) (fp : List Addr), DTs (X.blk s H scope (compEnvC scope cl C X.env) fp) T W0 ifs1 tt1)
    (he : ∀ (s : Shared) (H : Hp) (C : Addr) (cl : List (Str × Addr)) (fp : List Addr), DE (X.blk s H scope (compEnvC scope cl C X.env) fp) T W0 elt te) (hs : ∀ x, foldedSetIterable iter X.env x = pure x := by intro _; rfl) (hs1 : ∀ env x, foldedSetIterable iter1 env x = pure x := by intro _ _; rfl) :
    DE X T W (.ListComp elt [⟨tg, iter, ifs, 0⟩, ⟨tg1, iter1, ifs1, 0⟩] scope pos) (dLc2 wi g tt wi1 g1 tt1 te (own.map (·.2)) vs1) :=
  PE_imp (pe_lc2 (wi1 := liftI X.K T W0 wi1) (tt := liftT X.K T W0 tt) (tt1 := liftT X.K T W0 tt1) (te := liftE X.K T W0 te) hc hN hi ok hv hg ht hi1 hg1 ht1 he hs hs1) (lc2_lift hgc hgc1)
theorem ds_setLc2 (i : Nat) {elt iter iter1 : Expr} {ifs ifs1 : List Expr} {scope : Scope} {own : List (Str × Nat)} {vs1 : List Nat} {wi wi1 : TDI} {gV gV1 : TG} {y : Str} {py spos : Pos} (hc : X.calm = true) (hN : X.N.Nodup) (hi : DI X T W tg iter wi) (ok : BlkOk X.N X.env.scope scope own)
    (hv : ∀ i ∈ vs1, i ∈ own.map (·.2))
    (hg : ∀ (s : Shared) (H : Hp) (C : Addr) (cl : List (Str × Addr)) (fp : List Addr), PG (X.blk s H scope (compEnvC scope cl C X.env) fp) tg gV) (hgc : TgC X.K T (own.map (·.2)) gV g)
    (ht : ∀ (s : Shared) (H : Hp) (C : Addr) (cl : List (Str × Addr)) (fp : List Addr), DTs (X.blk s H scope (compEnvC scope cl C X.env) fp) T W0 ifs tt)
    (hi1 : ∀ (s : Shared) (H : Hp) (C : Addr) (cl : List (Str × Addr)) (fp : List Addr), DI (X.blk s H scope (compEnvC scope cl C X.env) fp) T W0 tg1 iter1 wi1)
    (hg1 : ∀ (s : Shared) (H : Hp) (C : Addr) (cl : List (Str × Addr)) (fp : List Addr), PG (X.blk s H scope (compEnvC scope cl C X.env) fp) tg1 gV1) (hgc1 : TgC X.K T vs1 gV1 g1)
    (ht1 : ∀ (s : Shared) (H : Hp) (C : Addr) (cl : List (Str × Addr)) (fp : List Addr), DTs (X.blk s H scope (compEnvC scope cl C X.env) fp) T W0 ifs1 tt1)
    (he : ∀ (s : Shared) (H : Hp) (C : Addr) (cl : List (Str × Addr)) (fp : List Addr), DE (X.blk s H scope (compEnvC scope cl C X.env) fp) T W0 elt te)
    (hsw : swapsWith (.ListComp elt [⟨tg, iter, ifs, 0⟩, ⟨tg1, iter1, ifs1, 0⟩] scope pos) (some (.Name y py)) spos.line X.env = pure true := by exact sw_true rfl rfl rfl (by decide +kernel))
    (hy : X.N[i]? = some y := by rfl) (hyl : X.env.scope.names.lookup y = some .local := by rfl) (hs : ∀ x, foldedSetIterable iter X.env x = pure x := by intro _; rfl) (hs1 : ∀ env x, foldedSetIterable iter1 env x = pure x := by intro _ _; rfl) :
    DS X T W (.Assign [.Name y py] (.ListComp elt [⟨tg, iter, ifs, 0⟩, ⟨tg1, iter1, ifs1, 0⟩] scope pos) spos) (dAsg (dLc2 wi g tt wi1 g1 tt1 te (own.map (·.2)) vs1) (dgName i)) :=
  PS_imp (L2.ps_setLc2 (i := i) (wi1 := liftI X.K T W0 wi1) (tt := liftT X.K T W0 tt) (tt1 := liftT X.K T W0 tt1) (te := liftE X.K T W0 te) hc hN hy hyl hsw hi ok hv hg ht hi1 hg1 ht1 he hs hs1) fun D σ H ⟨τ, M, E, hs, hm, ht, he⟩ =>
    lc2_lift hgc hgc1 σ H _ ⟨τ, M, _, _, hs, hm, ht, fun v d H' M' k r m h => he.nx _ _ H' M' k ((hs.keep k).set r i) m h, he.xw hs⟩
end
/-! ### walks that leave the heap -/
theorem wLi_of {β : Type} {guard : Mp → Prop} {gd : TDG} {te : TDE} {τ : DSt} {p : Addr} {M : Mp} (e g : β → D) (c : β → Bool) {tt : TDT} : ∀ (l : List β) (acc : List D) (Nx : Mp → Prop)
    (hel : ∀ b ∈ l, ∀ (acc' : List D) (R : DQ) (R0 : Mp → Prop), (c b = true → R (g b) (mup M p (.lst acc'))) → (c b = false → R0 (mup M p (.lst acc'))) →
        gd (e b) τ (mup M p (.lst acc')) (fun τ2 M2 => tt τ2 M2 (fun b M3 => if b = true then te τ2 M3 R noX else R0 M3) noX) noXS)
    (hsz : acc.length + l.length ≤ 16777216) (hg : ∀ acc', guard (mup M p (.lst acc'))) (hQ : Nx (mup M p (.lst (acc ++ (l.filter c).map g)))),
    wLi guard gd tt te τ p Nx (l.map e) (mup M p (.lst acc)) := by
  intro l
  induction l with
  | nil => intro acc Nx hel hsz hg hQ; exact ⟨hg acc, by simpa using hQ⟩
  | cons b l ih =>
    intro acc Nx hel hsz hg hQ
    simp only [List.length_cons] at hsz
    refine ⟨hg acc, hel b (by simp) acc _ _ (fun hc => ?_) fun hc => ?_⟩
    · simp only [mup_same, mup_mup]
      exact ⟨by show _ ≤ _; omega, ih _ _ (fun x hx => hel x (by simp [hx])) (by simp; omega) hg (by simpa [hc, List.filter_cons] using hQ)⟩
    · exact ih _ _ (fun x hx => hel x (by simp [hx])) (by omega) hg (by simpa [hc, List.filter_cons] using hQ)
/-- hel: one turn of the outer clause adds g b -/
theorem wLo_of {β : Type} {guard : Mp → Prop} {gd gd1 : TDG} {tt tt1 : TDT} {wi1 : TDI} {te : TDE} {vs1 : List Nat} {τ : DSt} {p : Addr} {Q : DQ} {M : Mp} (e : β → D) (g : β → List D) : ∀ (l : List β) (acc : List D)
    (hel : ∀ b ∈ l, ∀ (acc' : List D) (R : Mp → Prop), acc'.length ≤ acc.length + ((l.map g).flatten).length → R (mup M p (.lst (acc' ++ g b))) →
      gd (e b) τ (mup M p (.lst acc')) (fun τ2 M2 => tt τ2 M2 (fun b M3 => if b = true then wi1 τ2 M3 (fun items1 guard1 M4 => wLi guard1 gd1 tt1 te (dwipe τ2 vs1) p R items1 M4) noX else R M3) noX) noXS)
    (hg : ∀ acc', guard (mup M p (.lst acc'))) (hQ : Q (.ref p) (mup M p (.lst (acc ++ (l.map g).flatten)))),
    wLo guard gd tt wi1 gd1 tt1 te vs1 τ p Q (l.map e) (mup M p (.lst acc)) := by
  intro l
  induction l with
  | nil => intro acc hel hg hQ; exact ⟨hg acc, by simpa using hQ⟩
  | cons b l ih =>
    intro acc hel hg hQ
    refine ⟨hg acc, hel b (by simp) acc _ (by omega) ?_⟩
    refine ih (acc ++ g b) (fun x hx acc' R h1 h2 => hel x (by simp [hx]) acc' R (by simp at h1 ⊢; omega) h2) hg (by simpa using hQ)
end DL

set_option Elab.async false
set_option linter.all false
set_option maxRecDepth 100000
set_option maxHeartbeats 2000000
namespace DL
open PySem PySem.Spec PyProof.Rows L2
/-! ## a tuple, so many times -/
def mulTD : DR2 := fun x y M Q => match x, y with
  | .tup xs, .int k => xs ≠ [] ∧ 2 ≤ k ∧ k ≤ 1000 ∧ xs.length ≤ 1000 ∧ Q (.tup (List.replicate k.toNat xs).flatten) M
  | _, _ => False
@[simp] theorem mulTD_ti {xs : List D} {k : Int} {M : Mp} {Q : DQ} : mulTD (.tup xs) (.int k) M Q = (xs ≠ [] ∧ 2 ≤ k ∧ k ≤ 1000 ∧ xs.length ≤ 1000 ∧ Q (.tup (List.replicate k.toNat xs).flatten) M) := rfl
section
variable {X : Cx} {T : Tb} {W : WX} {a b : Expr} {ta tb : TDE} {pos : Pos}
theorem l_mulT : Lift2 X.K T (rRepT X.K) mulTD := fun x y dx dy H M Q Qd rx ry m h q => by
  unfold mulTD at h
  split at h
  · obtain ⟨h1, h2, h3, h4, h5⟩ := h
    obtain ⟨l, vs, e, s, r⟩ := rx.tup_inv
    refine ⟨l, _, vs, e, ry.int_inv, s, ?_, h2, h3, by rw [r.length]; exact h4, fun p hp => ?_⟩
    · intro z; subst z; cases r; exact h1 rfl
    · exact q _ _ _ _ (.new hp) (.tup (.inl (.inl upd_same)) ((r.keep (.new hp)).rep _)) (m.more hp) h5
  · exact h.elim
theorem de_mulT (ha : DE X T W a ta) (hb : DE X T W b tb) : DE X T W (.BinOp a .Mult b pos) (dBin mulTD ta tb) := de_op op_repT l_mulT ha hb
end
end DL

set_option Elab.async false
set_option linter.all false
set_option maxRecDepth 100000
set_option maxHeartbeats 2000000
namespace DL
open PySem PySem.Spec PyProof.Rows L2
section
variable {X : Cx} {T : Tb}
/-- list(d), a dict's keys, too -/
def listKD : DRC := fun ds M Q => match ds with
  | [.ref a] => (match M a with
    | some (.dK kvs) => ∀ p, M p = none → Q (.ref p) (mup M p (.lst (kvs.map fun kv => kD kv.1)))
    | _ => listD [.ref a] M Q)
  | ds => listD ds M Q
theorem t_listK (hc : X.calm = true) : TyR X T "list" listKD := by
  obtain ⟨r1, h1, g1⟩ := t_list (X := X) (T := T)
  refine ⟨_, h1.or (call_listD hc), fun vs ds H M Q Qd r0 m h q => ?_⟩
  unfold listKD at h
  split at h
  · rename_i a
    split at h
    · rename_i kvs e
      obtain ⟨v, rfl, r⟩ := r0.one_inv
      obtain ⟨kvs', h2, h3⟩ := m.dk e
      refine .inr ⟨a, kvs', by rw [r.ref_inv], .inl h2, fun p hp => ?_⟩
      have rv : Reps X.K H (kvs'.map fun kv => kV kv.1) (kvs.map fun kv => kD kv.1) := by
        have e1 := keys_eq h3
        have e2 : (kvs'.map fun kv => kV kv.1) = (kvs'.map (·.1)).map kV := by rw [List.map_map]; rfl
        have e3 : (kvs.map fun kv => kD kv.1) = (kvs.map (·.1)).map kD := by rw [List.map_map]; rfl
        rw [e2, e3, e1]
        generalize kvs.map (·.1) = ks
        induction ks with
        | nil => exact .nil
        | cons k ks ih => exact .cons (Rep.kD k) ih
      exact q _ _ _ _ (.new hp) (.ref p) (m.newL hp rv) (h p (m.fresh hp))
    · exact .inl (g1 vs _ H M Q Qd r0 m h q)
  · exact .inl (g1 vs _ H M Q Qd r0 m h q)
@[simp] theorem listKD_ref {a : Addr} {M : Mp} {Q : DQ} : listKD [.ref a] M Q = (match M a with | some (.dK kvs) => ∀ p, M p = none → Q (.ref p) (mup M p (.lst (kvs.map fun kv => kD kv.1))) | some (.lst xs) => ∀ p, M p = none → Q (.ref p) (mup M p (.lst xs)) | _ => False) := by
  unfold listKD
  cases h : M a with
  | none => simp [h]
  | some o => cases o <;> simp [h]
end
end DL

set_option Elab.async false
set_option linter.all false
set_option maxRecDepth 100000
set_option maxHeartbeats 2000000
namespace DL
open PySem PySem.Spec PyProof.Rows L2
section
variable {X : Cx} {T : Tb} {W : WX} {K : Fr} {a b c d e f o tg : Expr} {es : List Expr} {ta tb tc td te to : TDE} {t tr : TDA} {pos p p2 apos cpos : Pos} {x : Str} {k n : Nat}
/-! ## < and <= of tuples of ints -/
def ltA : DR2 := fun x y M Q => match x, y with
  | .int i, .int j => Q (.bl (decide (i < j))) M
  | .tup xs, .tup ys => (match intsD xs, intsD ys with
    | some ns, some ms => Q (.bl (HT.lexLt ns ms)) M
    | _, _ => False)
  | _, _ => False
def leLex (ns ms : List Int) : Bool := Ob.lexAt (fun j => decide (ns.getD j 0 = ms.getD j 0)) (fun j => decide (ns.getD j 0 ≤ ms.getD j 0)) (decide (ns.length ≤ ms.length)) 0 (min ns.length ms.length)
def leA : DR2 := fun x y M Q => match x, y with
  | .int i, .int j => Q (.bl (decide (i ≤ j))) M
  | .tup xs, .tup ys => (match intsD xs, intsD ys with
    | some ns, some ms => Q (.bl (leLex ns ms)) M
    | _, _ => False)
  | _, _ => False
theorem c_ltA {k : Nat} (hr : Room k X.A) : CmpR X T .Lt ltA := ⟨_, op_lt.or (op_ltT (by have := hr.units; omega)), fun x y dx dy H M Q Qd rx ry m h q => by
  unfold ltA at h
  split at h
  · exact .inl ⟨_, _, rx.int_inv, ry.int_inv, q _ _ H M (.refl H) (.bl _) m h⟩
  · rename_i xs ys
    split at h
    · rename_i ns ms e1 e2
      obtain ⟨a, vs, rfl, h1, h2⟩ := rx.tup_inv
      obtain ⟨b, us, rfl, h3, h4⟩ := ry.tup_inv
      rw [intsD_some e1] at h2
      rw [intsD_some e2] at h4
      rw [h2.ints] at h1
      rw [h4.ints] at h3
      exact .inr ⟨_, _, _, _, rfl, rfl, h1, h3, q _ _ H M (.refl H) (.bl _) m h⟩
    · exact h.elim
  · exact h.elim⟩
theorem c_leA {k : Nat} (hr : Room k X.A) : CmpR X T .LtE leA := ⟨_, op_le.or (op_leT (by have := hr.units; omega)), fun x y dx dy H M Q Qd rx ry m h q => by
  unfold leA at h
  split at h
  · exact .inl ⟨_, _, rx.int_inv, ry.int_inv, q _ _ H M (.refl H) (.bl _) m h⟩
  · rename_i xs ys
    split at h
    · rename_i ns ms e1 e2
      obtain ⟨a, vs, rfl, h1, h2⟩ := rx.tup_inv
      obtain ⟨b, us, rfl, h3, h4⟩ := ry.tup_inv
      rw [intsD_some e1] at h2
      rw [intsD_some e2] at h4
      rw [h2.ints] at h1
      rw [h4.ints] at h3
      exact .inr ⟨_, _, _, _, rfl, rfl, h1, h3, q _ _ H M (.refl H) (.bl _) m h⟩
    · exact h.elim
  · exact h.elim⟩
/-! ## l.remove(x), ints -/
def removeD : DRM := fun x ds M Q => match x, ds with
  | .ref a, [.int k] => ∃ (ns : List Int) (j : Nat), M a = some (.lst (ns.map D.int)) ∧ ns[j]? = some k ∧ (∀ m : Nat, m < j → ns[m]? ≠ some k) ∧ Q .non (mup M a (.lst ((ns.eraseIdx j).map D.int)))
  | _, _ => False
theorem l_remove : LiftM K T rRemI removeD := fun x dx vs ds H M Q Qd rx rs m h q => by
  unfold removeD at h
  split at h
  · rename_i a k
    obtain ⟨ns, j, h1, h2, h3, h4⟩ := h
    obtain ⟨v, rfl, r⟩ := rs.one_inv
    obtain ⟨us, h5, h6⟩ := m.lst h1
    rw [h6.ints] at h5
    have w := m.setL (vs := (ns.eraseIdx j).map V.int) (ds := (ns.eraseIdx j).map D.int) h1 (Reps.of_ints _)
    exact ⟨a, ns, k, j, rx.ref_inv, by rw [r.int_inv], h5, h2, h3, q _ _ _ _ w.2 .non w.1 h4⟩
  · exact h.elim
theorem de_remove (ho : DE X T W o to) (ha : DE X T W e te) (hbase : attributeBase o "remove" X.env (eval o X.env) = eval o X.env := by rfl)
    (hline : (apos.endLine == cpos.line) = true := by rfl) (hs : starEach [e] X.env = [(false, eval e X.env)] := by rfl) : DE X T W (.Call (.Attribute o "remove" apos) [e] [] cpos) (dML removeD to (dCons te dNil)) :=
  PE_imp (pe_bm PySem.F.plainAttrs_list PySem.F.slot_list_remove PySem.F.type_list_remove mt_remove ho (da_cons ha da_nil hs) hbase (by rw [hs] <;> rfl) hline hs (by rfl)) (ml_lift l_remove)
theorem removeD_ints {a : Addr} {ns : List Int} {k : Int} {M : Mp} {Q : DQ} (h : M a = some (.lst (ns.map D.int))) (hk : k ∈ ns) (hQ : Q .non (mup M a (.lst ((ns.erase k).map D.int)))) : removeD (.ref a) [.int k] M Q := by
  have hj : ns.idxOf k < ns.length := List.idxOf_lt_length_iff.mpr hk
  refine ⟨ns, ns.idxOf k, h, ?_, fun m hm => ?_, ?_⟩
  · rw [List.getElem?_eq_getElem hj, List.getElem_idxOf]
  · intro e
    obtain ⟨h1, h2⟩ := List.getElem?_eq_some_iff.mp e
    have h3 := List.not_of_lt_findIdx (p := (· == k)) (xs := ns) (show m < ns.findIdx (· == k) from hm)
    simp [h2] at h3
  · rw [← List.erase_eq_eraseIdx_of_idxOf rfl]
    exact hQ
end
/-! ## triples as ints -/
def encT (t : Int) : D := .tup [.int (t / 1000000), .int (t / 1000 % 1000), .int (t % 1000)]
def eK (tr : Bool) (t : Int) : D := if tr then encT t else .int t
@[simp] theorem eK_true {t : Int} : eK true t = encT t := rfl
@[simp] theorem eK_false {t : Int} : eK false t = .int t := rfl
theorem lex3 (s t : Int) : HT.lexLt [s / 1000000, s / 1000 % 1000, s % 1000] [t / 1000000, t / 1000 % 1000, t % 1000] = decide (s < t) := by
  simp only [HT.lexLt]
  split
  · split
    · split
      · rw [Bool.eq_iff_iff]; simp; omega
      · rw [Bool.eq_iff_iff]; simp; omega
    · rw [Bool.eq_iff_iff]; simp; omega
  · rw [Bool.eq_iff_iff]; simp; omega
theorem le3 (s t : Int) : leLex [s / 1000000, s / 1000 % 1000, s % 1000] [t / 1000000, t / 1000 % 1000, t % 1000] = decide (s ≤ t) := by
  simp [leLex, Ob.lexAt]
  split
  · split
    · rw [Bool.eq_iff_iff]; simp; omega
    · rw [Bool.eq_iff_iff]; simp; omega
  · rw [Bool.eq_iff_iff]; simp; omega
@[simp] theorem ltA_ii {i j : Int} {M : Mp} {Q : DQ} : ltA (.int i) (.int j) M Q = Q (.bl (decide (i < j))) M := rfl
@[simp] theorem leA_ii {i j : Int} {M : Mp} {Q : DQ} : leA (.int i) (.int j) M Q = Q (.bl (decide (i ≤ j))) M := rfl
@[simp] theorem ltA_eK {tr : Bool} {i j : Int} {M : Mp} {Q : DQ} : ltA (eK tr i) (eK tr j) M Q = Q (.bl (decide (i < j))) M := by
  cases tr with
  | false => rfl
  | true =>
    show Q (.bl (HT.lexLt _ _)) M = _
    rw [lex3]
@[simp] theorem leA_eK {tr : Bool} {i j : Int} {M : Mp} {Q : DQ} : leA (eK tr i) (eK tr j) M Q = Q (.bl (decide (i ≤ j))) M := by
  cases tr with
  | false => rfl
  | true =>
    show Q (.bl (leLex _ _)) M = _
    rw [le3]
end DL

set_option Elab.async false
set_option linter.all false
set_option maxRecDepth 100000
set_option maxHeartbeats 1000000
namespace DL.RV
open PySem PySem.Spec PyProof.Rows RT
theorem rt_nolen : typeLookup (.type "reversed") "__len__" = pure none := by
  rw [typeLookup_type, builtinLookup_eq_fast] <;> kernel_rfl
theorem rt_hint : Slot "reversed" "__length_hint__" "reversed.__length_hint__" := Slot.of (n := "__length_hint__") (owner := "reversed") (by rw [typeLookup_type, builtinLookup_eq_fast] <;> kernel_rfl) (by decide +kernel) (by decide +kernel) (by decide +kernel) (by first | exact .inl (by decide +kernel) | exact .inr (by decide +kernel)) (by rw [isSubtype_type] <;> kernel_rfl)
theorem rt_hint_entry : entryFor table "reversed.__length_hint__" = some Builtin.«reversed.__length_hint__» := entryFor_of_tree (by kernel_rfl)
theorem rt_hint_args (a : Value) : argsOk "reversed.__length_hint__" ⟨[a], []⟩ := by
  unfold argsOk <;> rw [signature?_of (id := "reversed.__length_hint__") (o := ['d', 'e', 's', 'r', 'e', 'v', 'e', 'r']) (n := ['_', '_', 't', 'n', 'i', 'h', '_', 'h', 't', 'g', 'n', 'e', 'l', '_', '_']) (by kernel_rfl) owner_rt] <;> kernel_rfl
section
variable {prog : Program} {w : World} {A : Around} {E : Value → Shared → Prop} {s : Shared} {it t : Addr} {items : Array Value}
theorem walks_rt (hh : A.handled = none) (ne : t ≠ it) : Walks prog w A it [it, t] [it] items.size (fun i v => items[items.size - 1 - i]? = some v) (fun i h => i ≤ items.size ∧ items.size ≤ sizeLine ∧ IsRt h it t ((items.size : Int) - 1 - (i : Int)) ∧ IsTup h t items) where
  sub := fun b hb => by rw [List.mem_singleton.mp hb]; simp
  frame := fun i h h' x k => ⟨x.1, x.2.1, x.2.2.1.at fun o e => k it (by simp) o e, let ⟨o, e, q⟩ := x.2.2.2; ⟨o, k t (by simp) o e, q⟩⟩
  item := fun i s Q E hi x hQ => by
    obtain ⟨x1, x2, x3, x4⟩ := x
    have e1 : (items.size : Int) - 1 - (i : Int) = ((items.size - 1 - i : Nat) : Int) := by omega
    rw [e1] at x3
    have e2 : items[items.size - 1 - i]? = some (items[items.size - 1 - i]'(by omega)) := Array.getElem?_eq_getElem (by omega)
    refine next_rt_item x3 x4 e2 x2 fun h' y1 y2 => ?_
    have e3 : ((items.size - 1 - i : Nat) : Int) - 1 = (items.size : Int) - 1 - ((i + 1 : Nat) : Int) := by omega
    rw [e3] at y1
    exact hQ _ h' _ e2 ⟨hi, x2, y1, let ⟨o, e, q⟩ := x4; ⟨o, (y2.2 t ne).trans e, q⟩⟩ fun b o hb eo => y2.extBut b o (fun z => hb (by simp [z])) eo
  done := fun s Q E x hQ => by
    obtain ⟨x1, x2, x3, x4⟩ := x
    have e1 : (items.size : Int) - 1 - (items.size : Int) = -1 := by omega
    rw [e1] at x3
    exact next_rt_end hh x3 fun h' y => hQ h' _ fun b o hb eo => y b o (fun z => hb (by simp [z])) eo
  self := fun i s Q E x hQ => iter_rt x.2.2.1 hQ
/-- the hint of the length -/
theorem hint_rt {Q : Bool → Shared → Prop} (hi : IsRt s.heap it t ((items.size : Int) - 1)) (ht : IsTup s.heap t items) (hn : items.size ≤ sizeLine)
    (hQ : ∀ tk, s.toks ≤ tk → Q (!items.isEmpty) { s with toks := tk }) : wpAny (model prog w) A (Builtin.List.listLengthHint (.ref it)) Q E s := by
  have hT := hi.typeIs
  have f : (items.size : Int) < 2 ^ 63 := by rw [sizeLine_eq] at hn; omega
  unfold Builtin.List.listLengthHint
  refine wpAny_bind (wpAny_specialOf hT rt_nolen ?_)
  change wpAny _ A (specialOf (Value.ref it) (Str.ofString "__length_hint__") >>= _) _ _ _
  refine wpAny_bind (wpAny_specialOf hT rt_hint.lookup ?_)
  generalize hid : ("reversed.__length_hint__" : String) = id0
  wp_delta
  rw [show splitId id0 = some ("reversed", "__length_hint__") from by subst hid <;> decide +kernel]
  subst hid
  refine wpAny_bind (wpAny_isInstance (b := true) hT (by rw [isSubtype_type] <;> kernel_rfl) ?_)
  obtain ⟨o, ho, hc, hd⟩ := id hi
  rw [if_neg (by decide)]
  dsimp only
  rw [if_neg (by decide +kernel)]
  refine wpAny_bind (wpAny_rule ?_)
  rw [rt_hint.bind]
  refine wpAny_bind (wpAny_pure ?_)
  dsimp only
  refine wpAny_bind (wpAny_attempt (wpAny_call_entry rt_hint hT rt_hint_entry ?_ (rt_hint_args _)))
  unfold Builtin.«reversed.__length_hint__»
  refine wpAny_bind (wpAny_of_eq (a := Value.ref it) rfl ?_)
  refine wpAny_bind (wpAny_field ho hd (x := .ref t) rfl ?_)
  rw [if_neg (by simp)]
  refine wpAny_bind (len_tuple ht (by omega) ?_)
  refine wpAny_bind (wpAny_of_eq (a := some (items.size : Int)) rfl ?_)
  dsimp only
  refine wpAny_bind (wpAny_field (s := { s with toks := s.toks + 1 + 1 }) ho hd (x := rawInt ((items.size : Int) - 1)) rfl ?_)
  show wpAny _ _ (if (items.size : Int) < (items.size : Int) - 1 + 1 then _ else _) _ _ _
  rw [if_neg (by omega)]
  refine wpAny_bind (wpAny_mkInt (wpAny_pure ⟨_, rfl, ?_⟩))
  dsimp only
  refine wpAny_bind (wpAny_of_eq (a := some ((items.size : Int) - 1 + 1)) rfl ?_)
  dsimp only
  have e0 : (items.size : Int) - 1 + 1 = (items.size : Int) := by omega
  have f1 : Builtin.List.listFitsIndex (items.size : Int) = true := by
    unfold Builtin.List.listFitsIndex
    rw [Bool.and_eq_true]
    exact ⟨decide_eq_true (by omega), decide_eq_true (by omega)⟩
  have f2 : Builtin.List.listTooLong ((items.size : Int)).toNat = false := by
    unfold Builtin.List.listTooLong
    exact decide_eq_false (by omega)
  have f3 : ((items.size : Int) != 0) = !items.isEmpty := by
    unfold Array.isEmpty
    rcases Nat.eq_zero_or_pos items.size with e | e
    · rw [e] <;> rfl
    · rw [bne_iff_ne.mpr (show (items.size : Int) ≠ 0 by omega), decide_eq_false (show ¬ items.size = 0 by omega)] <;> rfl
  rw [e0, f1]
  rw [if_neg (by decide), if_neg (by omega), f2, if_neg (by decide), f3]
  exact wpAny_pure (hQ _ (by omega))
/-- what an iterator gives, whatever it hints of its length -/
theorem collect_hint {I : Addr} {fp wr : List Addr} {n : Nat} {P : Nat → Value → Prop} {St : Nat → Heap → Prop} {b : Bool} {Q : List Value → Shared → Prop} (W : Walks prog w A.in1 I fp wr n P St)
    (hT : ∀ s : Shared, St 0 s.heap → s.TypeIs (.ref I) "reversed")
    (hH : ∀ (s : Shared) (Q : Bool → Shared → Prop) (E : Value → Shared → Prop), St 0 s.heap → (∀ tk, s.toks ≤ tk → Q b { s with toks := tk }) → wpAny (model prog w) A.in1 (Builtin.List.listLengthHint (.ref I)) Q E s)
    (hst : St 0 s.heap) (hfp : ∀ c ∈ fp, c < s.heap.objs.size) (hI : I ∈ fp) (hn : n ≤ sizeLine)
    (hQ : ∀ (h' : Heap) (tk : Nat) (acc : Array Value), (∀ c o, c ∉ wr → s.heap.get? c = some o → h'.get? c = some o) → ItemsOf P acc n → Q acc.toList { s with heap := h', toks := tk }) : wpAny (model prog w) A (collect (.ref I)) Q E s := by
  have n1 : s.heap.objs.size ∉ fp := fun hm => Nat.lt_irrefl _ (hfp _ hm)
  have n2 : s.heap.objs.size ≠ I := fun e => n1 (e ▸ hI)
  have n3 : s.heap.objs.size ∉ wr := fun hm => n1 (W.sub _ hm)
  unfold collect
  refine wpAny_bind (wpAny_runValue (codeAny_builtin F.entry_proto_collect ?_)) <;> rw [Around.under_plainId F.plain_proto_collect _]
  show wpAny _ A.in1 (newList [] >>= fun l0 => again (.builtin "list.__iadd__" ⟨[l0, .ref I], []⟩)) _ _ s
  refine wpAny_bind (wpAny_newObj_type (wpAny_pure ⟨plainId_quiet F.plain_list_iadd _, codeAny_builtin F.entry_list_iadd ?_⟩)) <;> rw [Around.under_plainId F.plain_list_iadd _]
  generalize hob : ({ cls := .type "list", data := .seq ([] : List Value).toArray } : Obj) = ob
  have g1 : (s.heap.push ob).get? s.heap.objs.size = some ob := Heap.get?_push_size _ (by rw [← hob] <;> rfl)
  have k1 : ∀ c o, s.heap.get? c = some o → (s.heap.push ob).get? c = some o := fun c o e => Heap.get?_push_of_some _ e
  have st1 : St 0 (s.heap.push ob) := W.frame 0 _ _ hst fun c _ o e => k1 c o e
  show wpAny _ A.in1 (Builtin.List.listExtendWith (.ref s.heap.objs.size) (.ref I) (.ref s.heap.objs.size)) _ _ { s with heap := s.heap.push ob }
  unfold Builtin.List.listExtendWith
  refine wpAny_bind (wpAny_typeOf (hT { s with heap := s.heap.push ob } st1) ?_)
  have e1 : Builtin.List.listSameRef (.ref s.heap.objs.size) (.ref I) = false := by simp [Builtin.List.listSameRef, n2]
  rw [e1, if_neg (by decide)]
  refine wpAny_bind (W.self 0 { s with heap := s.heap.push ob } _ _ st1 (wpAny_bind (wpAny_holding ?_)))
  refine hH { s with heap := s.heap.push ob } _ _ st1 fun tk htk => ?_
  have fin : ∀ (h2 : Heap) (ep : Nat), h2.get? s.heap.objs.size = some { cls := .type "list", dict := none, data := .seq #[] ep, slots := #[] } → (∀ c o, c ≠ s.heap.objs.size → (s.heap.push ob).get? c = some o → h2.get? c = some o) →
      ∀ (Q2 : Result → Shared → Prop), (∀ (h' : Heap) (tk : Nat) (acc : Array Value) (c' : Nat), (∀ c o, c ∉ wr → s.heap.get? c = some o → h'.get? c = some o) → ItemsOf P acc n → h'.get? s.heap.objs.size = some { cls := .type "list", dict := none, data := .seq acc c', slots := #[] } → Q2 (.ok (.ret (.ref s.heap.objs.size))) { s with heap := h', toks := tk }) →
      codeAny (model prog w) A (.builtin "list.extend.loop" ⟨[.ref s.heap.objs.size, .ref I, .ref s.heap.objs.size], []⟩) Q2 { s with heap := h2, toks := tk } := by
    intro h2 ep q1 q2 Q2 q3
    have st2 : St 0 h2 := W.frame 0 _ _ st1 fun c hc o e => q2 c o (fun z => n1 (z ▸ hc)) e
    refine codeAny_extend_loopS W.toS hn _ n1 _ n 0 { s with heap := h2, toks := tk } _ _ rfl (Nat.zero_le _) st2 q1 (ItemsOf.nil P) fun s' acc c' hm hS hacc => ?_
    rw [Moved.eq_with hm]
    refine q3 s'.heap s'.toks acc c' (fun c o hc e => ?_) hacc hS
    have ne : c ≠ s.heap.objs.size := Nat.ne_of_lt (Heap.lt_size e)
    exact hm.heap c o (fun z => (List.mem_cons.mp z).elim ne hc) (q2 c o ne (k1 c o e))
  have out : ∀ (h' : Heap) (tk : Nat) (acc : Array Value) (c' : Nat), (∀ c o, c ∉ wr → s.heap.get? c = some o → h'.get? c = some o) → ItemsOf P acc n → h'.get? s.heap.objs.size = some { cls := .type "list", dict := none, data := .seq acc c', slots := #[] } →
      wpAny (model prog w) A (do let o ← load s.heap.objs.size; match o.data with | .seq xs _ => pure xs.toList | _ => unsupported "internal:collect") Q E { s with heap := h', toks := tk } := fun h' tk acc c' k hacc hS =>
    wpAny_bind (wpAny_load (s := { s with heap := h', toks := tk }) hS (wpAny_pure (hQ h' tk acc k hacc)))
  cases b with
  | false =>
    dsimp only
    rw [if_neg (by decide +kernel)]
    refine wpAny_pure ⟨plainId_quiet F.plain_extend_loop _, fin _ 0 (by rw [g1, ← hob]) (fun c o _ e => e) _ out⟩
  | true =>
    dsimp only
    rw [Bool.true_or, if_pos rfl]
    refine wpAny_bind (wpAny_rule (wpAny_bind ?_))
    show wpAny _ A.in1 (updateSeq s.heap.objs.size (·.push .none) >>= fun _ => updateSeq s.heap.objs.size (·.pop)) _ _ { s with heap := s.heap.push ob, toks := tk }
    have g2 : ob.data = .seq #[] 0 := by rw [← hob]
    refine wpAny_bind (wpAny_updateSeq (s := { s with heap := s.heap.push ob, toks := tk }) g1 g2 ?_)
    have g3 := Heap.get?_update_self (Obj.mapSeq (·.push Value.none)) g1 (by rw [← hob] <;> rfl)
    refine wpAny_updateSeq (s := { s with heap := (s.heap.push ob).update s.heap.objs.size (Obj.mapSeq (·.push Value.none)), toks := tk }) g3 (by rw [← hob] <;> rfl) ?_
    have g4 := Heap.get?_update_self (Obj.mapSeq (·.pop)) g3 (by rw [← hob] <;> rfl)
    refine wpAny_pure ⟨plainId_quiet F.plain_extend_loop _, fin _ _ (by rw [g4, ← hob] <;> rfl) (fun c o ne e => ?_) _ out⟩
    exact (Heap.get?_update_other _ _ (Ne.symm ne)).trans ((Heap.get?_update_other _ _ (Ne.symm ne)).trans e)
theorem collect_rt {Q : List Value → Shared → Prop} (hh : A.handled = none) (hi : IsRt s.heap it t ((items.size : Int) - 1)) (ht : IsTup s.heap t items) (ne : t ≠ it) (hn : items.size ≤ sizeLine)
    (hQ : ∀ (h' : Heap) (tk : Nat) (acc : Array Value), (∀ c o, c ≠ it → s.heap.get? c = some o → h'.get? c = some o) → ItemsOf (fun i v => items[items.size - 1 - i]? = some v) acc items.size → Q acc.toList { s with heap := h', toks := tk }) : wpAny (model prog w) A (collect (.ref it)) Q E s := by
  have e0 : (items.size : Int) - 1 - ((0 : Nat) : Int) = (items.size : Int) - 1 := by omega
  refine collect_hint (b := !items.isEmpty) (walks_rt (prog := prog) (w := w) (A := A.in1) (it := it) (t := t) (items := items) hh ne) (fun s x => x.2.2.1.typeIs) (fun s Q E x hQ => hint_rt (by rw [← e0] <;> exact x.2.2.1) x.2.2.2 hn hQ) ⟨Nat.zero_le _, hn, by rw [e0] <;> exact hi, ht⟩ ?_ (by simp) hn fun h' tk acc k hacc => hQ h' tk acc (fun c o hc e => k c o (by simpa using hc) e) hacc
  intro c hc
  rcases List.mem_cons.mp hc with rfl | hc
  · obtain ⟨o, e, _⟩ := hi
    exact Heap.lt_size e
  · rw [List.mem_singleton.mp hc]
    obtain ⟨o, e, _⟩ := ht
    exact Heap.lt_size e
theorem code_tuple_rt {Q₁ : Value → Shared → Prop} (hh : A.handled = none) (hi : IsRt s.heap it t ((items.size : Int) - 1)) (ht : IsTup s.heap t items) (ne : t ≠ it) (hn : items.size ≤ sizeLine)
    (h : ∀ (h' : Heap) (tk : Nat) (acc : Array Value), (∀ c o, c ≠ it → s.heap.get? c = some o → h'.get? c = some o) → ItemsOf (fun i v => items[items.size - 1 - i]? = some v) acc items.size → Q₁ (.ref h'.objs.size) { s with heap := h'.push { cls := .type "tuple", data := .seq acc }, toks := tk }) :
    codeAny (model prog w) A (.call (.builtin "tuple.__new__") ⟨[.type "tuple", .ref it], []⟩) (wants Q₁ E) s := by
  refine codeAny_of_tree ?_
  change wpAny _ A.in1 (do checkBuiltinCall "tuple.__new__" ⟨[.type "tuple", .ref it], []⟩; again (.builtin "tuple.__new__" ⟨[.type "tuple", .ref it], []⟩)) _ _ s
  refine wpAny_bind (wpAny_of_eq (F.newCall_tuple_1 _) (wpAny_pure ⟨plainId_quiet F.plain_tuple_new _, codeAny_builtin F.entry_tuple_new ?_⟩)) <;> rw [Around.under_plainId F.plain_tuple_new _]
  have f1 := sub_tuple_self
  have f2 := init_tuple_lookup
  have f3 := madeHere_tuple
  have f4 : s.TypeIs (.ref it) "reversed" := hi.typeIs
  have f5 : A.in1.handled = none := hh
  wp_walk using wpAny_typeOf f4, collect_rt (A := A.in1) f5 hi ht ne hn
  intro h' tk acc k hacc
  change wpAny _ _ (Builtin.Tuple.tupleExact acc.toList.toArray >>= fun v => ret v) _ _ _
  have e : acc.toList.toArray = acc := by simp
  rw [e]
  unfold Builtin.Tuple.tupleExact
  exact wpAny_bind (wpAny_newObj_type (wpAny_pure (h h' tk acc k hacc)) (by show acc.size ≤ sizeLine; rw [hacc.1] <;> exact hn))
theorem call_tuple_rt {Q : Value → Shared → Prop} (hh : A.handled = none) (hi : IsRt s.heap it t ((items.size : Int) - 1)) (ht : IsTup s.heap t items) (ne : t ≠ it) (hn : items.size ≤ sizeLine)
    (h : ∀ (h' : Heap) (tk : Nat) (acc : Array Value), (∀ c o, c ≠ it → s.heap.get? c = some o → h'.get? c = some o) → ItemsOf (fun i v => items[items.size - 1 - i]? = some v) acc items.size → Q (.ref h'.objs.size) { s with heap := h'.push { cls := .type "tuple", data := .seq acc }, toks := tk }) :
    wpAny (model prog w) A (call (.type "tuple") [.ref it]) Q E s := by
  refine callType_codes (Q₁ := fun obj s₁ => s₁.TypeIs obj "tuple" ∧ Q obj s₁) F.called_tuple (F.typeCall_tuple_1 _) F.entry_object_init
    (code_tuple_rt (A := A.in1) hh hi ht ne hn fun h' tk acc k hacc => ⟨⟨_, Heap.get?_push_size _ rfl, rfl⟩, h h' tk acc k hacc⟩) fun obj s1 q => ⟨q.1, F.args_object_init_2 obj _, object_init_meets F.called_tuple.init.lookup F.called_tuple.made (by decide) prog w A.in1 _ s1 ⟨q.1, rfl, q.2⟩⟩
end
open L2
/-- tuple(reversed(x)), x a list or a tuple -/
def tRevA (K : PySem.W.Frag) (te : TE) : TE := fun σ H Q => te σ H fun v H1 => ∃ (a : Addr) (xs : List V), v = .ref a ∧ (SqL K H1 a xs ∨ SqT K H1 a xs) ∧ ∀ q, H1 q = none → Q (.ref q) (upd H1 q (.tup xs.reverse))
theorem pe_revA {X : Cx} {e : Expr} {te : TE} {p p2 pos pos2 : Pos} (hc : X.calm = true) (hg : Gl X "tuple") (hm : X.mg "tuple" = none) (hg2 : Gl X "reversed") (hm2 : X.mg "reversed" = none) (he : PE X e te) (hs : starEach [e] X.env = (false, eval e X.env) :: starEach [] X.env)
    (hs2 : starEach [.Call (.Name "reversed" p2) [e] [] pos2] X.env = (false, eval (.Call (.Name "reversed" p2) [e] [] pos2) X.env) :: starEach [] X.env) : PE X (.Call (.Name "tuple" p) [.Call (.Name "reversed" p2) [e] [] pos2] [] pos) (tRevA X.K te) := by
  refine ⟨fun pins s σ H Q I h => ?_⟩
  refine Call_ (ld_blt I hg hm boot_tuple (PyProof.Rows.callWith_type1 (args_cons (Call_ (ld_blt I hg2 hm2 PyProof.Rows.boot_reversed (PyProof.Rows.callWith_type1 (args_cons (thn (he.run pins s σ H _ I h) fun u s1 ⟨v, H1, I1, r1, a, xs, ev, hq, q⟩ => args_nil ?_) hs) hs rfl))) hs2) hs2 rfl))
  subst ev
  obtain rfl : u = Value.ref a := r1
  obtain ⟨f0, f1, f2, f3, f4, f5⟩ := I1.fpOk (H' := H1) (b := s1.heap.objs.size) (Nat.le_refl _) (I1.hok.fresh (Nat.le_refl _))
  have done : ∀ (tk0 : Nat) (ob : Obj) (its : List Value) (h' : Heap) (tk : Nat) (acc : Array Value), Vals xs its → xs.length ≤ sizeLine → Inv X pins σ H1 { s1 with heap := s1.heap.push ob, toks := tk0 } → (∀ c o, c ≠ s1.heap.objs.size → (s1.heap.push ob).get? c = some o → h'.get? c = some o) →
      ItemsOf (fun i v => its.toArray[its.toArray.size - 1 - i]? = some v) acc its.toArray.size → EP X pins σ Q (.ref h'.objs.size) { s1 with heap := h'.push { cls := .type "tuple", data := .seq acc }, toks := tk } := by
    intro tk0 ob its h' tk acc rv hz I2 hk hi
    have I3 : Inv X pins σ H1 { s1 with heap := h', toks := tk } := I2.turned (t' := tk) (fun b o hb e => hk b o hb e) f0 f1 f3 f4 f5
    refine ⟨.ref h'.objs.size, upd H1 h'.objs.size (.tup xs.reverse), I3.laid (t' := tk) (fun c o e => Heap.get?_push_of_some _ e) (Nat.le_refl _) (show ObjOk X.prog X.w _ _ _ (.tup xs.reverse) from ⟨by rw [List.length_reverse] <;> exact hz, acc.toList, vals_rev rv hi, ?_⟩), rfl, q _ (I3.hok.fresh (Nat.le_refl _))⟩
    rw [Array.toArray_toList] <;> exact IsTup.new _ _
  rcases hq with hq | hq
  · obtain ⟨its, rv, pl, hz⟩ := I1.list hq
    have hl := pl.isList
    obtain ⟨ol, hol, _⟩ := id hl
    have hn : its.toArray.size ≤ sizeLine := by rw [List.size_toArray, ← rv.length] <;> exact hz
    refine call_reversed_list hl (args_nil ?_)
    have I2 : Inv X pins σ H1 { s1 with heap := s1.heap.push (revObj a ((its.toArray.size : Int) - 1)) } := I1.kept (t' := s1.toks) fun b o e => Heap.get?_push_of_some _ e
    exact call_tuple_rev (s := { s1 with heap := s1.heap.push (revObj a ((its.toArray.size : Int) - 1)) }) (I1.ok.hd hc) ⟨_, Heap.get?_push_size _ rfl, rfl, rfl⟩ (hl.push _) (Nat.ne_of_lt (Heap.lt_size hol)) hn fun h' tk acc hk hi => done _ _ its h' tk acc rv hz I2 hk hi
  · obtain ⟨its, rv, pl, hz⟩ := I1.tuple hq
    obtain ⟨ol, hol, _⟩ := id pl
    have hn : its.toArray.size ≤ sizeLine := by rw [List.size_toArray, ← rv.length] <;> exact hz
    have hn2 := line63
    refine call_reversed_tup pl (fun A E Q k => len_tuple pl (by simp only [List.size_toArray] <;> have := rv.length <;> omega) k) (args_nil ?_)
    have I2 : Inv X pins σ H1 { s1 with heap := s1.heap.push (rtObj a ((its.toArray.size : Int) - 1)), toks := s1.toks + 1 + 1 } := I1.kept (t' := s1.toks + 1 + 1) fun b o e => Heap.get?_push_of_some _ e
    exact call_tuple_rt (s := { s1 with heap := s1.heap.push (rtObj a ((its.toArray.size : Int) - 1)), toks := s1.toks + 1 + 1 }) (I1.ok.hd hc) ⟨_, Heap.get?_push_size _ rfl, rfl, rfl⟩ (let ⟨o, e, q⟩ := pl; ⟨o, Heap.get?_push_of_some _ e, q⟩) (Nat.ne_of_lt (Heap.lt_size hol)) hn fun h' tk acc hk hi => done _ _ its h' tk acc rv hz I2 hk hi
end DL.RV

set_option Elab.async false
set_option linter.all false
set_option maxRecDepth 100000
set_option maxHeartbeats 2000000
namespace DL
open PySem PySem.Spec PyProof.Rows L2
section
variable {X : Cx} {T : Tb} {W : WX} {K : Fr} {a b c d e f o tg : Expr} {es : List Expr} {ta tb tc td te to ti : TDE} {t tr : TDA} {pos p p2 pos2 apos cpos : Pos} {x : Str} {k n : Nat}
/-! ## xs[i] op= e, xs a list -/
def rGetL (K : Fr) : V → V → Hp → VK → Prop := fun x y H Q => ∃ (p : Addr) (xs : List V) (j : Nat) (v : V), x = .ref p ∧ y = .int (j : Int) ∧ SqL K H p xs ∧ xs[j]? = some v ∧ Q v H
theorem get_list : PGet X (rGetL X.K) := by
  intro pins s σ H o i ov iv Q I r1 r2 h
  obtain ⟨p, xs, j, v, rfl, rfl, hq, hj, q⟩ := h
  cases r1
  obtain ⟨t, rfl⟩ := r2
  obtain ⟨its, r, pl, hz⟩ := I.list hq
  obtain ⟨w, ew, rw'⟩ := r.get hj
  have hn := line63
  have hjl := (List.getElem?_eq_some_iff.mp hj).1
  refine wpAny_getItem_list pl.isList (Int.natCast_nonneg _) (by omega) (by rw [Int.toNat_natCast]; simpa using ew) ?_
  exact ⟨v, H, I, rw', q⟩
def getD' : D → D → Mp → DQ → Prop := fun o i M Q => match o, i with
  | .ref a, .int k => (match M a with
    | some (.lst xs) => 0 ≤ k ∧ (match xs[k.toNat]? with | some d => Q d M | none => False)
    | _ => False)
  | _, _ => False
theorem l_get : Lift2 K T (rGetL K) getD' := fun x y dx dy H M Q Qd rx ry m h q => by
  unfold getD' at h
  split at h
  · rename_i a i
    split at h
    · rename_i xs e
      obtain ⟨h0, h1⟩ := h
      split at h1
      · rename_i d e2
        obtain ⟨vs, h2, h3⟩ := m.lst e
        obtain ⟨v, h4, h5⟩ := h3.get e2
        exact ⟨a, vs, i.toNat, v, rx.ref_inv, by rw [ry.int_inv, Int.toNat_of_nonneg h0], SqL.of h2, h4, q _ _ H M (.refl H) h5 m h1⟩
      · exact h1.elim
    · exact h.elim
  · exact h.elim
@[simp] def dAugS (to ti te : TDE) (rd : DR2) : TDS := fun D τ M => to τ M (fun o M1 => ti τ M1 (fun i M2 => getD' o i M2 (fun x M3 => te τ M3 (fun y M4 => rd x y M4 (fun z M5 => setD o i z M5 (fun M6 => D.nx τ M6))) (fun C f d M => D.ex C f d τ M))) (fun C f d M => D.ex C f d τ M)) (fun C f d M => D.ex C f d τ M)
theorem ds_augS {op : Operator} {rd : DR2} {k : Nat} (hr : Room k X.A) (hA : AugR X T op rd) (ho : DE X T W o to) (hi : DE X T W b ti) (he : DE X T W e te)
    (ha : ∀ ov iv new, augStore b ov iv new = (do holding [new, ov, iv] (setItem ov iv new); release [new, ov, iv] []; pure .next) := by intros; rfl) : DS X T W (.AugAssign (.Subscript o b p) op e pos) (dAugS to ti te rd) := by
  obtain ⟨r, hop, hl⟩ := hA.ex
  refine PS_imp (L2.ps_augS (tip := r) ho hi get_list he hop (DL.PSet.or' set_list (set_dict (hu_of hr))) ha) fun D σ H ⟨τ, M, E, hs, hm, ht, hE⟩ => ?_
  refine ⟨τ, M, _, _, hs, hm, ht, fun ov od H1 M1 k1 r1 m1 h1 => ⟨τ, M1, _, _, hs.keep k1, m1, h1, fun iv id H2 M2 k2 r2 m2 h2 => ?_, (hE.xw hs).keep k1⟩, hE.xw hs⟩
  refine l_get (T := T) ov iv od id H2 M2 _ _ (r1.keep k2) r2 m2 h2 fun v d H3 M3 k3 r3 m3 h3 => ?_
  have k13 := (k1.trans k2).trans k3
  refine ⟨τ, M3, _, _, hs.keep k13, m3, h3, fun w y H4 M4 k4 r4 m4 h4 => ?_, (hE.xw hs).keep k13⟩
  refine hl v w d y H4 M4 _ _ (r3.keep k4) r4 m4 h4 fun z dz H5 M5 k5 r5 m5 h5 => ?_
  have k25 := (k3.trans k4).trans k5
  exact l_set (T := T) ov iv z od id dz H5 M5 _ _ (r1.keep (k2.trans k25)) (r2.keep k25) r5 m5 h5 fun H6 M6 k6 m6 h6 => hE.nx _ _ H6 M6 ((k13.trans (k4.trans k5)).trans k6) (hs.keep ((k13.trans (k4.trans k5)).trans k6)) m6 h6
theorem getD'_ref {a : Addr} {j : Nat} {xs : List D} {d : D} {M : Mp} {Q : DQ} (h : M a = some (.lst xs)) (hj : xs[j]? = some d) (hQ : Q d M) : getD' (.ref a) (.int (j : Int)) M Q := by
  simp only [getD', h, Int.toNat_natCast, hj]
  exact ⟨Int.natCast_nonneg _, hQ⟩
/-! ## list(range(..)), tuple(range(..)), tuple(reversed(..)) -/
theorem reps_rg {H : Hp} (lo hi : Int) : Reps K H (rgV lo hi) (rangeL lo (hi - lo).toNat) := by
  unfold rgV rangeL
  generalize List.range (hi - lo).toNat = l
  induction l with
  | nil => exact .nil
  | cons i l ih => exact .cons (.int _) ih
abbrev Ml (i : Int) : Prop := -1000000 ≤ i ∧ i ≤ 1000000
theorem rgOk {i j : Int} (h : Ml i) (h' : Ml j) : RgOk i j := ⟨by omega, by omega, by omega, by omega, by omega⟩
@[simp] def dLstRg1 (ta : TDE) : TDE := fun τ M Q E => ta τ M (fun d M1 => match d with | .int n => Ml n ∧ ∀ q, M1 q = none → Q (.ref q) (mup M1 q (.lst (rangeL 0 n.toNat))) | _ => False) E
@[simp] def rg2Q (d d' : D) (M2 : Mp) (Q : DQ) : Prop := match d, d' with | .int i, .int j => Ml i ∧ Ml j ∧ ∀ q, M2 q = none → Q (.ref q) (mup M2 q (.lst (rangeL i (j - i).toNat))) | _, _ => False
@[simp] def dLstRg2 (ta tb : TDE) : TDE := fun τ M Q E => ta τ M (fun d M1 => tb τ M1 (fun d' M2 => rg2Q d d' M2 Q) E) E
@[simp] def dTupRg1 (ta : TDE) : TDE := fun τ M Q E => ta τ M (fun d M1 => match d with | .int n => Ml n ∧ Q (.tup (rangeL 0 n.toNat)) M1 | _ => False) E
@[simp] def dTupRev (ta : TDE) : TDE := fun τ M Q E => ta τ M (fun d M1 => match d with | .ref a => (match M1 a with | some (.lst xs) => Q (.tup xs.reverse) M1 | _ => False) | .tup xs => Q (.tup xs.reverse) M1 | _ => False) E
theorem de_lstRg1 (hc : X.calm = true) (hg : Gl X "list") (hm : X.mg "list" = none) (hg2 : Gl X "range") (hm2 : X.mg "range" = none) (ha : DE X T W a ta) (na : starEach [a] X.env = (false, eval a X.env) :: starEach [] X.env := by rfl)
    (ne : starEach [.Call (.Name "range" p2) [a] [] pos2] X.env = (false, eval (.Call (.Name "range" p2) [a] [] pos2) X.env) :: starEach [] X.env := by rfl) : DE X T W (.Call (.Name "list" p) [.Call (.Name "range" p2) [a] [] pos2] [] pos) (dLstRg1 ta) :=
  PE_imp (pe_listRg hc hg hm (prg_1 hg2 hm2 ha na) ne) fun σ H Q ⟨τ, M, Qd, E, hs, hm, ht, hq, hx⟩ => ⟨τ, M, _, E, hs, hm, ht, fun v d H1 M1 k1 r1 m1 h => by
    try dsimp only at h
    split at h
    · rename_i n
      obtain ⟨h1, h2⟩ := h
      refine ⟨n, r1.int_inv, rgOk ⟨by omega, by omega⟩ h1, fun q hq' => ?_⟩
      have r := reps_rg (K := X.K) (H := H1) 0 n
      rw [Int.sub_zero] at r
      exact hq _ _ _ _ (k1.trans (.new hq')) (.ref q) (m1.newL hq' r) (h2 q (m1.fresh hq'))
    · exact h.elim, hx⟩
theorem de_tupRg1 (hc : X.calm = true) (hg : Gl X "tuple") (hm : X.mg "tuple" = none) (hg2 : Gl X "range") (hm2 : X.mg "range" = none) (ha : DE X T W a ta) (na : starEach [a] X.env = (false, eval a X.env) :: starEach [] X.env := by rfl)
    (ne : starEach [.Call (.Name "range" p2) [a] [] pos2] X.env = (false, eval (.Call (.Name "range" p2) [a] [] pos2) X.env) :: starEach [] X.env := by rfl) : DE X T W (.Call (.Name "tuple" p) [.Call (.Name "range" p2) [a] [] pos2] [] pos) (dTupRg1 ta) :=
  PE_imp (pe_tupRg hc hg hm (prg_1 hg2 hm2 ha na) ne) fun σ H Q ⟨τ, M, Qd, E, hs, hm, ht, hq, hx⟩ => ⟨τ, M, _, E, hs, hm, ht, fun v d H1 M1 k1 r1 m1 h => by
    try dsimp only at h
    split at h
    · rename_i n
      obtain ⟨h1, h2⟩ := h
      refine ⟨n, r1.int_inv, rgOk ⟨by omega, by omega⟩ h1, fun q hq' => ?_⟩
      have r := reps_rg (K := X.K) (H := H1) 0 n
      rw [Int.sub_zero] at r
      exact hq _ _ _ _ (k1.trans (.new hq')) (.tup (SqT.of upd_same) (r.keep (.new hq'))) (m1.more hq') h2
    · exact h.elim, hx⟩
theorem de_lstRg2 (hc : X.calm = true) (hg : Gl X "list") (hm : X.mg "list" = none) (hg2 : Gl X "range") (hm2 : X.mg "range" = none) (ha : DE X T W a ta) (hb : DE X T W b tb) (na : starEach [a, b] X.env = (false, eval a X.env) :: starEach [b] X.env := by rfl)
    (nb : starEach [b] X.env = (false, eval b X.env) :: starEach [] X.env := by rfl) (hp : (backTo pos2 (starEach [b] X.env)).any (·.1) = false := by rfl)
    (ne : starEach [.Call (.Name "range" p2) [a, b] [] pos2] X.env = (false, eval (.Call (.Name "range" p2) [a, b] [] pos2) X.env) :: starEach [] X.env := by rfl) : DE X T W (.Call (.Name "list" p) [.Call (.Name "range" p2) [a, b] [] pos2] [] pos) (dLstRg2 ta tb) :=
  PE_imp (pe_listRg hc hg hm (prg_2 hg2 hm2 ha hb na nb hp) ne) fun σ H Q ⟨τ, M, Qd, E, hs, hm, ht, hq, hx⟩ => ⟨τ, M, _, E, hs, hm, ht, fun v d H1 M1 k1 r1 m1 h0 => ⟨τ, M1, _, E, hs.keep k1, m1, h0, fun u d' H2 M2 k2 r2 m2 h => by
    change rg2Q d d' M2 Qd at h
    clear h0
    cases d with
    | int i =>
      cases d' with
      | int j =>
        obtain ⟨h1, h2, h3⟩ := h
        refine ⟨i, j, (r1.keep k2).int_inv, r2.int_inv, rgOk h1 h2, fun q hq' => ?_⟩
        exact hq _ _ _ _ ((k1.trans k2).trans (.new hq')) (.ref q) (m2.newL hq' (reps_rg i j)) (h3 q (m2.fresh hq'))
      | _ => exact h.elim
    | _ => exact h.elim, hx.keep k1⟩, hx⟩
theorem de_tupRev (hc : X.calm = true) (hg : Gl X "tuple") (hm : X.mg "tuple" = none) (hg2 : Gl X "reversed") (hm2 : X.mg "reversed" = none) (ha : DE X T W a ta) (na : starEach [a] X.env = (false, eval a X.env) :: starEach [] X.env := by rfl)
    (ne : starEach [.Call (.Name "reversed" p2) [a] [] pos2] X.env = (false, eval (.Call (.Name "reversed" p2) [a] [] pos2) X.env) :: starEach [] X.env := by rfl) : DE X T W (.Call (.Name "tuple" p) [.Call (.Name "reversed" p2) [a] [] pos2] [] pos) (dTupRev ta) :=
  PE_imp (RV.pe_revA hc hg hm hg2 hm2 ha na ne) fun σ H Q ⟨τ, M, Qd, E, hs, hm, ht, hq, hx⟩ => ⟨τ, M, _, E, hs, hm, ht, fun v d H1 M1 k1 r1 m1 h => by
    try dsimp only at h
    split at h
    · rename_i a
      split at h
      · rename_i xs e
        obtain ⟨vs, h1, h2⟩ := m1.lst e
        exact ⟨a, vs, r1.ref_inv, .inl (SqL.of h1), fun q hq' => hq _ _ _ _ (k1.trans (.new hq')) (.tup (SqT.of upd_same) (h2.reverse.keep (.new hq'))) (m1.more hq') h⟩
      · exact h.elim
    · obtain ⟨a, vs, rfl, h1, h2⟩ := r1.tup_inv
      exact ⟨a, vs, rfl, .inr h1, fun q hq' => hq _ _ _ _ (k1.trans (.new hq')) (.tup (SqT.of upd_same) (h2.reverse.keep (.new hq'))) (m1.more hq') h⟩
    · exact h.elim, hx⟩
end
end DL

set_option Elab.async false
set_option linter.all false
set_option maxRecDepth 100000
set_option maxHeartbeats 2000000
namespace DL
open PySem PySem.Spec PyProof.Rows L2
section
variable {X : Cx} {T : Tb} {W : WX} {e : Expr} {K : Fr} {t : TDE}
/-! ## a dict that is locked while it is walked -/
/-- what stays but a locked dict -/
structure KeepN (H H' : Hp) : Prop where
  tup : ∀ a xs, H a = some (.tup xs) → H' a = some (.tup xs)
  frz : ∀ a o u, (∀ kvs, u ≠ .dK kvs) → H a = some (.frz o u) → H' a = some (.frz o u)
theorem KeepN.sqT {H H' : Hp} (k : KeepN H H') {a : Addr} {xs : List V} (h : SqT K H a xs) : SqT K H' a xs := by
  rcases h with (h | ⟨o, h⟩) | h
  · exact .inl (.inl (k.tup _ _ h))
  · exact .inl (.inr ⟨o, k.frz _ _ _ (fun _ z => by cases z) h⟩)
  · exact .inr h
mutual
theorem Rep.keepN {H H' : Hp} (k : KeepN H H') : ∀ {v : V} {d : D}, Rep K H v d → Rep K H' v d
  | _, _, .non => .non
  | _, _, .bl b => .bl b
  | _, _, .int i => .int i
  | _, _, .str x => .str x
  | _, _, .ref a => .ref a
  | _, _, .scr h => .scr (h.elim (fun ⟨o, e⟩ => .inl ⟨o, k.frz _ _ _ (fun _ z => by cases z) e⟩) .inr)
  | _, _, .tup h r => .tup (k.sqT h) (Reps.keepN k r)
theorem Reps.keepN {H H' : Hp} (k : KeepN H H') : ∀ {vs : List V} {ds : List D}, Reps K H vs ds → Reps K H' vs ds
  | _, _, .nil => .nil
  | _, _, .cons h r => .cons (Rep.keepN k h) (Reps.keepN k r)
end
theorem RepKV.keepN {κ : Type} {H H' : Hp} (k : KeepN H H') {l : List (κ × V)} {m : List (κ × D)} (r : RepKV K H l m) : RepKV K H' l m :=
  Paired.mapP r fun _ _ h => ⟨h.1, h.2.keepN k⟩
theorem RepO.keepN {H H' : Hp} (k : KeepN H H') {u : HO} {o : MO} (r : RepO K H u o) : RepO K H' u o := by
  cases u <;> cases o <;> first | exact Reps.keepN k r | exact RepKV.keepN k r | exact ⟨r.1, RepKV.keepN k r.2⟩ | exact r.imp fun _ q => ⟨q.1, RepKV.keepN k q.2⟩ | exact r
/-- the expression runs while the dict of a name is locked -/
def dLkE (nm : Nat) (t : TDE) : TDE := fun τ M Q E => match τ[nm]? with
  | some (some (.ref a)) => (match M a with
    | some (.dK ms) => t τ (mup M a (.dL ms)) (fun d M' => Q d (mup M' a (.dK ms))) noX
    | _ => t τ M Q E)
  | _ => t τ M Q E
theorem de_lk (nm : Nat) (he : DE X T W e t) : DE X T W e (dLkE nm t) := by
  refine ⟨fun pins s σ H Q I h => ?_⟩
  obtain ⟨τ, M, Qd, E, hs, hm, ht, hq, hx⟩ := h
  unfold dLkE at ht
  split at ht
  · split at ht
    · rename_i a _ _ ms ea
      obtain ⟨kvs, h1, h2⟩ := hm.dk ea
      refine (pe_lock he).run pins s σ H Q I ⟨a, .dK kvs, h1, True.intro, fun od => ?_⟩
      have k0 : Keep H (upd H a (.frz od (.dK kvs))) := .write h1 (fun _ z => by cases z) (fun _ _ z => by cases z)
      have m0 : RepH X.K T (upd H a (.frz od (.dK kvs))) (mup M a (.dL ms)) := (hm.write (u' := .frz od (.dK kvs)) (o' := .dL ms) ea ⟨kvs, rfl, h2.keep k0⟩).1
      refine ⟨τ, _, _, noX, hs.keep k0, m0, ht, fun v d H' M' k r m h => ?_, fun _ _ _ _ _ _ _ _ _ _ z => z.elim⟩
      have hf : H' a = some (.frz od (.dK kvs)) := k.frz _ _ _ upd_same
      have kn : KeepN H' (upd H' a (.dK kvs)) := ⟨fun b xs z => by
        rw [upd_ne (by rintro rfl; rw [hf] at z; cases z)]; exact z, fun b o u hu z => by
        rw [upd_ne (by rintro rfl; rw [hf] at z; cases z; exact hu _ rfl)]; exact z⟩
      have kk : Keep H (upd H' a (.dK kvs)) := ⟨fun b xs z => by
        have hb : b ≠ a := by rintro rfl; rw [h1] at z; cases z
        rw [upd_ne hb]
        exact k.tup _ _ (by rw [upd_ne hb]; exact z), fun b o u z => by
        have hb : b ≠ a := by rintro rfl; rw [h1] at z; cases z
        rw [upd_ne hb]
        exact k.frz _ _ _ (by rw [upd_ne hb]; exact z)⟩
      refine ⟨hf, hq v d _ (mup M' a (.dK ms)) kk (r.keepN kn) ⟨fun b o z => ?_, tabs_write m.tab hf (fun _ z => by cases z) fun _ z => by cases z⟩ h⟩
      by_cases hb : b = a
      · subst hb
        rw [mup_same] at z; cases z
        exact ⟨.dK kvs, upd_same, RepKV.keep kk h2⟩
      · rw [mup_ne hb] at z
        obtain ⟨u, hu, ru⟩ := m.obj b o z
        exact ⟨u, by rw [upd_ne hb]; exact hu, ru.keepN kn⟩
    · exact he.run pins s σ H Q I ⟨τ, M, Qd, E, hs, hm, ht, hq, hx⟩
  · exact he.run pins s σ H Q I ⟨τ, M, Qd, E, hs, hm, ht, hq, hx⟩
theorem dLkE_dk {nm : Nat} {τ : DSt} {M : Mp} {Q : DQ} {E : DX} {a : Addr} {ms : List (Key × D)} (h1 : τ[nm]? = some (some (.ref a))) (h2 : M a = some (.dK ms)) : dLkE nm t τ M Q E = t τ (mup M a (.dL ms)) (fun d M' => Q d (mup M' a (.dK ms))) noX := by
  unfold dLkE; simp only [h1, h2]
end
end DL

set_option Elab.async false
set_option linter.all false
set_option maxRecDepth 100000
set_option maxHeartbeats 2000000
namespace DL
open PySem PySem.Spec PyProof.Rows L2
open PySem.Calls in
theorem ext_tup (l : Addr) (xs : Array Value) (n : Nat) (b : Addr) (ys : Array Value) (n2 : Nat) (dd : Option Addr) (sl : Array (Option Value)) (h1 : ¬ (!xs.isEmpty && Builtin.List.listTooLong (xs.size + ys.size)) = true) (h2 : xs.size ≤ sizeLine) (h3 : xs.size + ys.size ≤ sizeLine + 1) :
    Meets (Builtin.«list.extend» ⟨[.ref l, .ref b], []⟩) (fun _ R s => s.heap.get? l = some { cls := .type "list", data := .seq xs n } ∧ s.heap.get? b = some ⟨.type "tuple", dd, .seq ys n2, sl⟩ ∧
      R (.ok (.ret Value.none)) { s with heap := s.heap.update l (Obj.mapSeq fun x => x ++ ys), toks := s.toks }) :=
  .of_wp fun prog w A R s h => by
    obtain ⟨hp, g, d, tk, os⟩ := s
    obtain ⟨a1, a2, a3⟩ := h
    have f1 := AutoSeq1.idx_int
    have f2 := AutoSeq1.sub_tuple_tuple
    have f3 := AutoSeq1.sub_list_list
    have f4 := AutoSeq1.sub_tuple_list
    have f5 := AutoSeq1.sub_list_tuple
    have z : (xs ++ ys).size ≤ sizeLine + 1 := by rw [Array.size_append]; exact h3
    wp_walk using (wpAny_updateSeq a1 rfl (hz := h2) (_hz' := z)), AutoSeq1.wpAny_loadPart' a1, AutoSeq1.wpAny_loadPart' a2
    exact ⟨_, rfl, a3⟩
section
variable {X : Cx} {T : Tb} {W : WX} {K : Fr} {o e : Expr} {to te : TDE} {apos cpos : Pos}
def rExtT (K : Fr) : V → List V → Hp → VK → Prop := fun x vs H Q => ∃ l b xs zs, x = .ref l ∧ vs = [.ref b] ∧ H l = some (.lst xs) ∧ SqT K H b zs ∧ xs.length + zs.length ≤ sizeLine ∧ Q .non (upd H l (.lst (xs ++ zs)))
theorem mt_extT : MtM X "list.extend" (rExtT X.K) := by
  intro pins s σ H x vs v us Q I rx rv h
  obtain ⟨l, b, xs, zs, rfl, rfl, hH, hB, hz, q⟩ := h
  cases rx
  obtain ⟨u, rfl, ru⟩ := rv.one
  cases ru
  obtain ⟨z, its, n, r, hl, e⟩ := I.lstM hH
  obtain ⟨is2, r2, ⟨⟨oc, od, odt, osl⟩, e2, c2, n2, d2⟩, _⟩ := I.tuple hB
  cases c2
  cases d2
  have hl2 := r2.length
  have sz : its.toArray.size + is2.toArray.size ≤ sizeLine := by rw [List.size_toArray, List.size_toArray]; omega
  have ok : ¬ (!its.toArray.isEmpty && Builtin.List.listTooLong (its.toArray.size + is2.toArray.size)) = true := by rw [notLongL sz, Bool.and_false]; exact Bool.false_ne_true
  refine call_meets F.slot_list_extend ⟨_, e, rfl⟩ F.entry_list_extend (F.args_list_extend_2 _ _) (ext_tup l its.toArray n b is2.toArray n2 od osl ok (by rw [List.size_toArray]; omega) (by omega)) ⟨e, e2, ?_⟩
  exact ⟨.non, _, I.lset (its' := its ++ is2) hH e (by simp) (r.append r2) (by rw [List.length_append]; omega), rfl, q⟩
/-- xs.extend(ys), ys a list or a tuple -/
@[simp] def extA : DRM := fun x ds M Q => match x, ds with
  | .ref a, [.ref b] => extD (.ref a) [.ref b] M Q
  | .ref a, [.tup ys] => (match M a with
    | some (.lst xs) => SzOk (xs.length + ys.length) ∧ Q .non (mup M a (.lst (xs ++ ys)))
    | _ => False)
  | _, _ => False
theorem l_extA : LiftM K T (fun x vs H Q => rExtend x vs H Q ∨ rExtT K x vs H Q) extA := fun x dx vs ds H M Q Qd rx rs m h q => by
  unfold extA at h
  split at h
  · exact .inl (l_extend x _ vs _ H M Q Qd rx rs m h q)
  · rename_i a ys
    split at h
    · rename_i xs e1
      obtain ⟨us, h1, h2⟩ := m.lst e1
      obtain ⟨v, rfl, r1⟩ := rs.one_inv
      obtain ⟨b, zs, rfl, h3, h4⟩ := r1.tup_inv
      obtain ⟨m', k'⟩ := m.setL e1 (h2.append h4)
      exact .inr ⟨_, b, us, zs, rx.ref_inv, rfl, h1, h3, by rw [h2.length, h4.length]; exact szOk h.1, q _ _ _ _ k' .non m' h.2⟩
    · exact h.elim
  · exact h.elim
theorem mt_extA : MtM X "list.extend" (fun x vs H Q => rExtend x vs H Q ∨ rExtT X.K x vs H Q) := by
  intro pins s σ H x vs v us Q I rx rv h
  rcases h with h | h
  · exact mt_extend pins s σ H x vs v us Q I rx rv h
  · exact mt_extT pins s σ H x vs v us Q I rx rv h
theorem de_extA (ho : DE X T W o to) (ha : DE X T W e te) (hbase : attributeBase o "extend" X.env (eval o X.env) = eval o X.env := by rfl)
    (hline : (apos.endLine == cpos.line) = true := by rfl) (hs : starEach [e] X.env = [(false, eval e X.env)] := by rfl) : DE X T W (.Call (.Attribute o "extend" apos) [e] [] cpos) (dML extA to (dCons te dNil)) :=
  PE_imp (pe_bm PySem.F.plainAttrs_list PySem.F.slot_list_extend PySem.F.type_list_extend mt_extA ho (da_cons ha da_nil hs) hbase (by rw [hs] <;> rfl) hline hs (by rfl)) (ml_lift l_extA)
end
end DL

set_option Elab.async false
set_option linter.all false
set_option maxRecDepth 100000
set_option maxHeartbeats 2000000
namespace DL
open PySem PySem.Spec PyProof.Rows L2
section
variable {X : Cx} {T : Tb} {W : WX} {K : Fr} {o e : Expr} {to te : TDE} {apos cpos : Pos}
/-! ## l.index(x), ints -/
def idxD : DRM := fun x ds M Q => match x, ds with
  | .ref a, [.int k] => ∃ (ns : List Int) (j : Nat), M a = some (.lst (ns.map D.int)) ∧ ns[j]? = some k ∧ (∀ m : Nat, m < j → ns[m]? ≠ some k) ∧ Q (.int (j : Nat)) M
  | _, _ => False
theorem l_idx : LiftM K T (rIndex K) idxD := fun x dx vs ds H M Q Qd rx rs m h q => by
  unfold idxD at h
  split at h
  · rename_i a k
    obtain ⟨ns, j, h1, h2, h3, h4⟩ := h
    obtain ⟨v, rfl, r⟩ := rs.one_inv
    obtain ⟨us, h5, h6⟩ := m.lst h1
    rw [h6.ints] at h5
    refine ⟨a, ns.map V.int, .int k, j, .int k, rx.ref_inv, by rw [r.int_inv], SqL.of h5, rfl, ?_, ?_, ?_, fun m' z' hm hz => ?_, q _ _ H M (.refl H) (.int _) m h4⟩
    · rw [List.all_eq_true]
      intro x hx
      obtain ⟨n, _, rfl⟩ := List.mem_map.mp hx
      rfl
    · rw [List.getElem?_map, h2]; rfl
    · simp [eqV]
    · rw [List.getElem?_map] at hz
      obtain ⟨n, hn, rfl⟩ := Option.map_eq_some_iff.mp hz
      have : n ≠ k := fun z => h3 m' hm (z ▸ hn)
      simp [eqV, this]
  · exact h.elim
theorem de_index (ho : DE X T W o to) (ha : DE X T W e te) (hbase : attributeBase o "index" X.env (eval o X.env) = eval o X.env := by rfl)
    (hline : (apos.endLine == cpos.line) = true := by rfl) (hs : starEach [e] X.env = [(false, eval e X.env)] := by rfl) : DE X T W (.Call (.Attribute o "index" apos) [e] [] cpos) (dML idxD to (dCons te dNil)) :=
  PE_imp (pe_bm PySem.F.plainAttrs_list PySem.F.slot_list_index PySem.F.type_list_index mt_index ho (da_cons ha da_nil hs) hbase (by rw [hs] <;> rfl) hline hs (by rfl)) (ml_lift l_idx)
theorem idxD_ints {a : Addr} {ns : List Int} {k : Int} {M : Mp} {Q : DQ} (h : M a = some (.lst (ns.map D.int))) (hk : k ∈ ns) (hQ : Q (.int (ns.idxOf k : Nat)) M) : idxD (.ref a) [.int k] M Q := by
  have hj : ns.idxOf k < ns.length := List.idxOf_lt_length_iff.mpr hk
  refine ⟨ns, ns.idxOf k, h, ?_, fun m hm => ?_, hQ⟩
  · rw [List.getElem?_eq_getElem hj, List.getElem_idxOf]
  · intro e
    obtain ⟨h1, h2⟩ := List.getElem?_eq_some_iff.mp e
    have h3 := List.not_of_lt_findIdx (p := (· == k)) (xs := ns) (show m < ns.findIdx (· == k) from hm)
    simp [h2] at h3
end
end DL

set_option Elab.async false
set_option linter.all false
set_option maxRecDepth 100000
set_option maxHeartbeats 2000000
namespace DL
open PySem PySem.Spec PyProof.Rows L2
section
variable {X : Cx} {T : Tb} {W : WX} {K : Fr}
/-! ## dict(l), l a list of pairs -/
def kmerge (ms more : List (Key × D)) : List (Key × D) := more.foldl (fun acc kv => kput acc kv.1 kv.2) ms
def prsD : List D → Option (List (Key × D))
  | [] => some []
  | .tup [x, y] :: l => (match dkey x with
    | some k => (prsD l).map ((k, y) :: ·)
    | none => none)
  | _ => none
def dictA : DRC := fun ds M Q => match ds with
  | [.ref a] => (match M a with
    | some (.lst xs) => (match prsD xs with
      | some kvs => ∀ p, M p = none → Q (.ref p) (mup M p (.dK (kmerge [] kvs)))
      | none => False)
    | _ => False)
  | _ => False
theorem prs_lift {H : Hp} : ∀ {xs : List D} {kvs : List (Key × D)} {vs : List V}, prsD xs = some kvs → Reps K H vs xs → ∃ (ps : List Addr) (ws : List (Key × V)), vs = ps.map V.ref ∧ Paired (fun p kv => SqT K H p [kV kv.1, kv.2]) ps ws ∧ RepKV K H ws kvs
  | [], kvs, vs, e, r => by
    cases e
    cases r
    exact ⟨[], [], rfl, .nil, .nil⟩
  | d :: l, kvs, vs, e, r => by
    unfold prsD at e
    split at e
    · rename_i h; cases h
    · rename_i x y l' h
      cases h
      split at e
      · rename_i k hk
        obtain ⟨m, h1, rfl⟩ := Option.map_eq_some_iff.mp e
        cases r with
        | cons r1 rs =>
          obtain ⟨a, us, rfl, q1, q2⟩ := r1.tup_inv
          cases q2 with
          | cons ra rt =>
            cases rt with
            | cons rb rn =>
              cases rn
              obtain ⟨ps, ws, e1, e2, e3⟩ := prs_lift h1 rs
              rw [dkey_lift ra hk] at q1
              exact ⟨a :: ps, (k, _) :: ws, by rw [e1]; rfl, .cons q1 e2, .cons ⟨rfl, rb⟩ e3⟩
      · cases e
    · cases e
theorem merge_lift {H : Hp} : ∀ {ws : List (Key × V)} {kvs : List (Key × D)} {as : List (Key × V)} {bs : List (Key × D)}, RepKV K H as bs → RepKV K H ws kvs → RepKV K H (mergeK as ws) (kmerge bs kvs)
  | _, _, as, bs, r, .nil => r
  | (k, v) :: ws, (k', d) :: kvs, as, bs, r, .cons h hs => by
    obtain ⟨e, rv⟩ := h
    cases e
    exact merge_lift (ws := ws) (kvs := kvs) (r.put rv k) hs
theorem t_dict (hc : X.calm = true) : TyR X T "dict" dictA := ⟨_, call_dictP hc, fun vs ds H M Q Qd r0 m h q => by
  unfold dictA at h
  split at h
  · obtain ⟨v, rfl, r⟩ := r0.one_inv
    split at h
    · rename_i xs e
      split at h
      · rename_i kvs e2
        obtain ⟨us, h1, h2⟩ := m.lst e
        obtain ⟨ps, ws, rfl, h3, h4⟩ := prs_lift e2 h2
        refine ⟨_, ps, ws, by rw [r.ref_inv], SqL.of h1, h3, fun p hp => ?_⟩
        have k : Keep H (upd H p (.dK (mergeK [] ws))) := .new hp
        exact q _ _ _ _ k (.ref p) (m.new (u := .dK _) (o := .dK _) hp ((merge_lift .nil h4).keep k)) (h p (m.fresh hp))
      · exact h.elim
    · exact h.elim
  · exact h.elim⟩
theorem dictA_ref {a : Addr} {xs : List D} {kvs : List (Key × D)} {M : Mp} {Q : DQ} (h : M a = some (.lst xs)) (hp : prsD xs = some kvs) : dictA [.ref a] M Q = ∀ p, M p = none → Q (.ref p) (mup M p (.dK (kmerge [] kvs))) := by
  unfold dictA; simp only [h, hp]
end
end DL

set_option Elab.async false
set_option linter.all false
set_option maxRecDepth 100000
set_option maxHeartbeats 2000000
namespace DL.BO
open PySem PyProof.Rows
open PySem.Sem (wp)
theorem meets_bool_tup (l : Addr) (items : Array Value) (hfit : (items.size : Int) < 2 ^ 63) :
    Meets (Builtin.«bool.__new__» ⟨[.type "bool", .ref l], []⟩) (fun _ R s => IsTup s.heap l items ∧ R (.ok (.ret (.bool (!items.isEmpty)))) { s with toks := s.toks + 1 + 1 }) :=
  Meets.of_wp fun prog w A R s hs => by
    obtain ⟨hl, hs⟩ := hs
    obtain ⟨hp, g, d, tk, os⟩ := s
    have f1 := F.conv_sub_bool
    repeat (any_goals (first | assumption | (with_reducible refine truthy_tuple hl hfit ?_) | wp_step))
    all_goals first | exact ⟨_, rfl, hs⟩ | exact hs | skip
theorem call_bool_tup {prog : Program} {w : World} {A : Around} {E : Value → Shared → Prop} {s : Shared} {l : Addr} {items : Array Value} {Q : Value → Shared → Prop} (hfit : (items.size : Int) < 2 ^ 63) (hl : IsTup s.heap l items)
    (h : Q (.bool (!items.isEmpty)) { s with toks := s.toks + 1 + 1 }) : wpAny (model prog w) A (call (.type "bool") [.ref l]) Q E s :=
  call_bool_1 (meets_bool_tup l items hfit) ⟨hl, rfl, h⟩
end DL.BO
namespace DL
open PySem PySem.Spec PyProof.Rows L2
section
variable {X : Cx} {T : Tb} {W : WX} {K : Fr}
/-! ## bool(x), str(i) -/
theorem call_boolT : CallR X (.type "bool") (fun xs H Q => ∃ (a : Addr) (zs : List V), xs = [.ref a] ∧ SqT X.K H a zs ∧ Q (.bl (!zs.isEmpty)) H) := by
  intro pins s σ H xs us Q I r h
  obtain ⟨a, zs, rfl, hq, q⟩ := h
  obtain rfl := Vals.ref1 r
  obtain ⟨its, rv, pl, hz⟩ := I.tuple hq
  have hl := line63
  have hlen := rv.length
  refine BO.call_bool_tup (by simp only [List.size_toArray]; omega) pl ?_
  exact ⟨.bl (!zs.isEmpty), H, I.tok _, by rw [isEmpty_of rv]; rfl, q⟩
def boolA : DRC := fun ds M Q => match ds with
  | [.int i] => Q (.bl (i != 0)) M
  | [.bl b] => Q (.bl b) M
  | [.tup xs] => Q (.bl (!xs.isEmpty)) M
  | _ => False
theorem t_bool : TyR X T "bool" boolA := ⟨_, call_bool1.or call_boolT, fun vs ds H M Q Qd r0 m h q => by
  unfold boolA at h
  split at h
  · obtain ⟨v, rfl, r⟩ := r0.one_inv
    exact .inl (.inl ⟨_, by rw [r.int_inv], q _ _ H M (.refl H) (.bl _) m h⟩)
  · obtain ⟨v, rfl, r⟩ := r0.one_inv
    exact .inl (.inr ⟨_, by rw [r.bl_inv], q _ _ H M (.refl H) (.bl _) m h⟩)
  · obtain ⟨v, rfl, r⟩ := r0.one_inv
    obtain ⟨a, vs, rfl, h1, h2⟩ := r.tup_inv
    refine .inr ⟨a, vs, rfl, h1, q _ _ H M (.refl H) (.bl _) m ?_⟩
    cases h2 <;> exact h
  · exact h.elim⟩
@[simp] theorem boolA_tup {xs : List D} {M : Mp} {Q : DQ} : boolA [.tup xs] M Q = Q (.bl (!xs.isEmpty)) M := rfl
@[simp] theorem boolA_int {i : Int} {M : Mp} {Q : DQ} : boolA [.int i] M Q = Q (.bl (i != 0)) M := rfl
@[simp] theorem boolA_bl {i : Bool} {M : Mp} {Q : DQ} : boolA [.bl i] M Q = Q (.bl i) M := rfl
def strA : DRC := fun ds M Q => match ds with
  | [.int i] => i.natAbs.log2 < 1920 ∧ Q (.str (toString i)) M
  | _ => False
theorem t_str : TyR X T "str" strA := ⟨_, call_str_int, fun vs ds H M Q Qd r0 m h q => by
  unfold strA at h
  split at h
  · obtain ⟨v, rfl, r⟩ := r0.one_inv
    exact ⟨_, by rw [r.int_inv], h.1, q _ _ H M (.refl H) (.str _) m h.2⟩
  · exact h.elim⟩
@[simp] theorem strA_int {i : Int} {M : Mp} {Q : DQ} : strA [.int i] M Q = (i.natAbs.log2 < 1920 ∧ Q (.str (toString i)) M) := rfl
end
end DL

set_option Elab.async false
set_option linter.all false
set_option maxRecDepth 100000
set_option maxHeartbeats 2000000
namespace DL
open PySem PySem.Spec PyProof.Rows L2
section
variable {X : Cx} {T : Tb} {W : WX} {K : Fr}
/-! ## min of a list of pairs -/
def encPr (p : Int × Int) : D := .tup [.int p.1, .int p.2]
def leP (p q : Int × Int) : Prop := p.1 < q.1 ∨ (p.1 = q.1 ∧ p.2 ≤ q.2)
def pairsD : List D → Option (List (Int × Int))
  | [] => some []
  | .tup [.int x, .int y] :: l => (pairsD l).map ((x, y) :: ·)
  | _ => none
theorem pairsD_map : ∀ ps : List (Int × Int), pairsD (ps.map encPr) = some ps
  | [] => rfl
  | p :: ps => by rw [List.map_cons, encPr, pairsD, pairsD_map ps]; rfl
theorem pairsD_some : ∀ {l : List D} {ps : List (Int × Int)}, pairsD l = some ps → l = ps.map encPr
  | [], ps, h => by cases h; rfl
  | d :: l, ps, h => by
    unfold pairsD at h
    split at h
    · rename_i e; cases e
    · rename_i x y l' e
      cases e
      obtain ⟨m, h1, rfl⟩ := Option.map_eq_some_iff.mp h
      rw [pairsD_some h1]; rfl
    · cases h
def minA : DRC := fun ds M Q => match ds with
  | [.tup xs] => (match intsD xs with
    | some (n :: ns) => ∀ m, m ∈ n :: ns → (∀ q ∈ n :: ns, m ≤ q) → Q (.int m) M
    | _ => False)
  | [.ref a] => (match M a with
    | some (.lst xs) => (match pairsD xs with
      | some (p :: ps) => SzOk (ps.length + 1) ∧ ∀ m, m ∈ p :: ps → (∀ q ∈ p :: ps, leP m q) → Q (encPr m) M
      | _ => minD [.ref a] M Q)
    | _ => minD [.ref a] M Q)
  | ds => minD ds M Q
def rMinP (K : Fr) : List V → Hp → VK → Prop := fun vs H Q => ∃ (a : Addr) (p : Int × Int) (ps : List (Int × Int)) (xs : List V), vs = [.ref a] ∧ SqL K H a xs ∧ Reps K H xs ((p :: ps).map encPr) ∧
  ∀ (i : Nat) (v : V) (m : Int × Int), xs[i]? = some v → Rep K H v (encPr m) → m ∈ p :: ps → (∀ q ∈ p :: ps, leP m q) → Q v H
theorem pyD_encPr (p : Int × Int) : pyD (encPr p) = .tuple [.int p.1, .int p.2] := rfl
theorem minP_fold : ∀ (ps : List (Int × Int)) (p : Int × Int), ∃ m, PySem.W.minD (pyD (encPr p)) (ps.map fun q => pyD (encPr q)) = pyD (encPr m) ∧ m ∈ p :: ps ∧ ∀ q ∈ p :: ps, leP m q
  | [], p => ⟨p, rfl, by simp, fun q hq => by rw [List.mem_singleton.mp hq]; exact .inr ⟨rfl, Int.le_refl _⟩⟩
  | q :: ps, p => by
    have e : PySem.W.minD (pyD (encPr p)) ((q :: ps).map fun q => pyD (encPr q)) = PySem.W.minD (if PySem.W.dataLt (pyD (encPr q)) (pyD (encPr p)) then pyD (encPr q) else pyD (encPr p)) (ps.map fun q => pyD (encPr q)) := rfl
    rw [e, pyD_encPr q, pyD_encPr p, PySem.W.dataLt_ii]
    by_cases c : q.1 < p.1 ∨ (q.1 = p.1 ∧ q.2 < p.2)
    · rw [decide_eq_true c, if_pos rfl, ← pyD_encPr q]
      obtain ⟨m, h1, h2, h3⟩ := minP_fold ps q
      refine ⟨m, h1, List.mem_cons_of_mem _ h2, fun r hr => ?_⟩
      rcases List.mem_cons.mp hr with rfl | hr
      · have := h3 q (by simp)
        unfold leP at *; omega
      · exact h3 r hr
    · rw [decide_eq_false c, if_neg (by decide), ← pyD_encPr p]
      obtain ⟨m, h1, h2, h3⟩ := minP_fold ps p
      refine ⟨m, h1, ?_, fun r hr => ?_⟩
      · rcases List.mem_cons.mp h2 with rfl | h2
        · simp
        · exact List.mem_cons_of_mem _ (List.mem_cons_of_mem _ h2)
      · rcases List.mem_cons.mp hr with rfl | hr
        · exact h3 r (by simp)
        · rcases List.mem_cons.mp hr with rfl | hr
          · have := h3 p (by simp)
            unfold leP at *; omega
          · exact h3 r (List.mem_cons_of_mem _ hr)
theorem reads_row {pins : List (Addr × Obj)} {σ : L2.St} {H : Hp} {s : Shared} (I : Inv X pins σ H s) : ∀ {ps : List (Int × Int)} {us : List Value} {vs : List V}, Vals vs us → Reps X.K H vs (ps.map encPr) → ∃ as, ReadsAll s.heap us (ps.map fun q => pyD (encPr q)) as
  | [], us, vs, rv, rd => by
    cases rd
    cases rv
    exact ⟨[], .nil⟩
  | p :: ps, us, vs, rv, rd => by
    rw [List.map_cons] at rd
    cases rd with
    | cons r rs =>
      cases rv with
      | cons q qs =>
        obtain ⟨as, h1⟩ := Dp.reads I _ _ _ (r.dp rfl) q
        obtain ⟨bs, h2⟩ := reads_row I qs rs
        exact ⟨as ++ bs, .cons h1 h2⟩
theorem depth_pairs (ps : List (Int × Int)) : PyData.depthAll (ps.map fun q => pyD (encPr q)) ≤ 1 := by
  induction ps with
  | nil => simp [PyData.depthAll]
  | cons p ps ih =>
    rw [List.map_cons, PyData.depthAll, pyD_encPr]
    simp [PyData.depth, PyData.depthAll]
    omega
theorem alike_pairs (ps : List (Int × Int)) : PySem.W.AlikeAll (ps.map fun q => pyD (encPr q)) := by
  refine ⟨fun x hx y hy => ?_, fun x hx => ?_⟩
  · obtain ⟨a, _, rfl⟩ := List.mem_map.mp hx
    obtain ⟨b, _, rfl⟩ := List.mem_map.mp hy
    rfl
  · obtain ⟨a, _, rfl⟩ := List.mem_map.mp hx
    exact fun h => nomatch h
theorem cr_minP {k : Nat} (hc : X.calm = true) (hr : Room k X.A) : CallR X (.builtin "min") (rMinP X.K) := by
  intro pins s σ H xs us Q I r h
  obtain ⟨a, p, ps, vs, rfl, hs, rd, q⟩ := h
  obtain ⟨its, rv, hl, _⟩ := I.list hs
  obtain rfl := Vals.ref1 r
  obtain ⟨as, hra⟩ := reads_row I rv rd
  have hu : X.A.units + 1 + PyData.depthAll ((p :: ps).map fun q => pyD (encPr q)) < cLine := by
    have := hr.un; have := depth_pairs (p :: ps); omega
  refine PySem.W.min_list_data (I.ok.hd hc) hl.isList (x := pyD (encPr p)) (xs := ps.map fun q => pyD (encPr q)) (as := as) (by simpa using hra) (alike_pairs (p :: ps)) hu fun i v h' tk bs hv hR hk => ?_
  obtain ⟨m, e1, e2, e3⟩ := minP_fold ps p
  rw [e1] at hR
  have hv' : its[i]? = some v := by simpa using hv
  have hil : i < vs.length := by rw [rv.length]; exact (List.getElem?_eq_some_iff.mp hv').1
  obtain ⟨w, hw⟩ : ∃ w, vs[i]? = some w := ⟨_, List.getElem?_eq_getElem hil⟩
  obtain ⟨u2, hu2, rw'⟩ := rv.get hw
  obtain rfl : u2 = v := by rw [hv'] at hu2; exact (Option.some.inj hu2).symm
  obtain ⟨d, hd, rd'⟩ := rd.get' hw
  rw [List.getElem?_map] at hd
  obtain ⟨z, hz, rfl⟩ := Option.map_eq_some_iff.mp hd
  obtain ⟨as', ra⟩ := Dp.reads I _ _ _ (rd'.dp rfl) rw'
  have e4 : pyD (encPr z) = pyD (encPr m) := PySem.W.alike_unique _ _ u2 _ _ rfl (PyProof.Rows.Reads.keeps hk ra) hR
  obtain rfl : z = m := by
    rw [pyD_encPr, pyD_encPr] at e4
    injection e4 with e5
    injection e5 with e6 e7
    injection e7 with e8
    injection e6 with e6
    injection e8 with e8
    exact Prod.ext e6 e8
  exact ⟨w, H, I.kept (t' := tk) hk, rw', q i w z hw rd' e2 e3⟩
/-! ### min of a tuple of ints -/
def rMinT (K : Fr) : List V → Hp → VK → Prop := fun vs H Q => ∃ (a : Addr) (n : Int) (ns : List Int), vs = [.ref a] ∧ SqT K H a ((n :: ns).map V.int) ∧
  ∀ m : Int, m ∈ n :: ns → (∀ q ∈ n :: ns, m ≤ q) → Q (.int m) H
theorem minT_fold : ∀ (ns : List Int) (n : Int), ∃ m : Int, PySem.W.minD (.int n) (ns.map PyData.int) = .int m ∧ m ∈ n :: ns ∧ ∀ q ∈ n :: ns, m ≤ q
  | [], n => ⟨n, rfl, by simp, fun q hq => by rw [List.mem_singleton.mp hq]; exact Int.le_refl _⟩
  | q :: ns, n => by
    have e : PySem.W.minD (.int n) ((q :: ns).map PyData.int) = PySem.W.minD (if PySem.W.dataLt (.int q) (.int n) then .int q else .int n) (ns.map PyData.int) := rfl
    rw [e, PySem.W.dataLt_int]
    by_cases c : q < n
    · rw [decide_eq_true c, if_pos rfl]
      obtain ⟨m, h1, h2, h3⟩ := minT_fold ns q
      refine ⟨m, h1, List.mem_cons_of_mem _ h2, fun r hr => ?_⟩
      rcases List.mem_cons.mp hr with rfl | hr
      · have := h3 q (by simp); omega
      · exact h3 r hr
    · rw [decide_eq_false c, if_neg (by decide)]
      obtain ⟨m, h1, h2, h3⟩ := minT_fold ns n
      refine ⟨m, h1, ?_, fun r hr => ?_⟩
      · rcases List.mem_cons.mp h2 with rfl | h2
        · simp
        · exact List.mem_cons_of_mem _ (List.mem_cons_of_mem _ h2)
      · rcases List.mem_cons.mp hr with rfl | hr
        · exact h3 r (by simp)
        · rcases List.mem_cons.mp hr with rfl | hr
          · have := h3 n (by simp); omega
          · exact h3 r (List.mem_cons_of_mem _ hr)
theorem reads_ints {pins : List (Addr × Obj)} {σ : L2.St} {H : Hp} {s : Shared} (I : Inv X pins σ H s) : ∀ {ns : List Int} {us : List Value}, Vals (ns.map V.int) us → ∃ as, ReadsAll s.heap us (ns.map PyData.int) as
  | [], us, rv => by
    cases rv
    exact ⟨[], .nil⟩
  | p :: ps, us, rv => by
    rw [List.map_cons] at rv
    cases rv with
    | cons q qs =>
      obtain ⟨as, h1⟩ := Dp.reads I _ _ _ ((Rep.int (K := X.K) (H := H) p).dp rfl) q
      obtain ⟨bs, h2⟩ := reads_ints I qs
      exact ⟨as ++ bs, .cons h1 h2⟩
theorem depth_intsT (ns : List Int) : PyData.depthAll (ns.map PyData.int) = 0 := by
  induction ns with
  | nil => simp [PyData.depthAll]
  | cons p ps ih => rw [List.map_cons, PyData.depthAll, ih]; simp [PyData.depth]
theorem alike_intsT (ns : List Int) : PySem.W.AlikeAll (ns.map PyData.int) := by
  refine ⟨fun x hx y hy => ?_, fun x hx => ?_⟩
  · obtain ⟨a, _, rfl⟩ := List.mem_map.mp hx
    obtain ⟨b, _, rfl⟩ := List.mem_map.mp hy
    rfl
  · obtain ⟨a, _, rfl⟩ := List.mem_map.mp hx
    exact fun h => nomatch h
theorem cr_minT {k : Nat} (hc : X.calm = true) (hr : Room k X.A) : CallR X (.builtin "min") (rMinT X.K) := by
  intro pins s σ H xs us Q I r h
  obtain ⟨a, n, ns, rfl, hs, q⟩ := h
  obtain ⟨its, rv, hl, _⟩ := I.tuple hs
  obtain rfl := Vals.ref1 r
  obtain ⟨as, hra⟩ := reads_ints I rv
  have hu : X.A.units + 1 + PyData.depthAll ((n :: ns).map PyData.int) < cLine := by
    have := hr.un; have := depth_intsT (n :: ns); omega
  refine PySem.W.min_tuple_data (I.ok.hd hc) hl (x := .int n) (xs := ns.map PyData.int) (as := as) (by simpa using hra) (alike_intsT (n :: ns)) hu fun i v h' tk bs hv hR hk => ?_
  obtain ⟨m, e1, e2, e3⟩ := minT_fold ns n
  rw [e1] at hR
  have hv' : its[i]? = some v := by simpa using hv
  have hil : i < ((n :: ns).map V.int).length := by rw [rv.length]; exact (List.getElem?_eq_some_iff.mp hv').1
  obtain ⟨w, hw⟩ : ∃ w, ((n :: ns).map V.int)[i]? = some w := ⟨_, List.getElem?_eq_getElem hil⟩
  obtain ⟨u2, hu2, rw'⟩ := rv.get hw
  obtain rfl : u2 = v := by rw [hv'] at hu2; exact (Option.some.inj hu2).symm
  rw [List.getElem?_map] at hw
  obtain ⟨z, hz, rfl⟩ := Option.map_eq_some_iff.mp hw
  obtain ⟨as', ra⟩ := Dp.reads I _ _ _ ((Rep.int (K := X.K) (H := H) z).dp rfl) rw'
  have e4 : (.int z : PyData) = .int m := PySem.W.alike_unique _ _ u2 _ _ rfl (PyProof.Rows.Reads.keeps hk ra) hR
  obtain rfl : z = m := by injection e4
  exact ⟨.int z, H, I.kept (t' := tk) hk, rw', q z e2 e3⟩
theorem b_minA {k : Nat} (hc : X.calm = true) (hr : Room k X.A) : BltR X T "min" minA := by
  obtain ⟨r1, h1, g1⟩ := (b_min (X := X) (T := T) hc).ex
  refine ⟨_, (h1.or (cr_minP hc hr)).or (cr_minT hc hr), fun vs ds H M Q Qd r0 m h q => ?_⟩
  unfold minA at h
  split at h
  · rename_i xs
    obtain ⟨v, rfl, r⟩ := r0.one_inv
    split at h
    · rename_i n ns e
      obtain ⟨a, us, rfl, h1, h2⟩ := r.tup_inv
      rw [intsD_some e] at h2
      refine .inr ⟨a, n, ns, rfl, ?_, fun m' hm hle => q _ _ H M (.refl H) (.int _) m (h m' hm hle)⟩
      rw [← h2.ints]
      exact h1
    · exact h.elim
  · rename_i a
    split at h
    · rename_i xs e
      split at h
      · rename_i p ps e2
        obtain ⟨v, rfl, r⟩ := r0.one_inv
        obtain ⟨us, h2, h3⟩ := m.lst e
        rw [pairsD_some e2] at h3
        exact .inl (.inr ⟨a, p, ps, us, by rw [r.ref_inv], SqL.of h2, h3, fun i v m' hv hrep hm hle => q _ _ H M (.refl H) hrep m (h.2 m' hm hle)⟩)
      · exact .inl (.inl (g1 vs _ H M Q Qd r0 m h q))
    · exact .inl (.inl (g1 vs _ H M Q Qd r0 m h q))
  · exact .inl (.inl (g1 vs _ H M Q Qd r0 m h q))
theorem minA_tup {ns : List Int} {M : Mp} {Q : DQ} (hn : ns ≠ []) (hQ : ∀ m, m ∈ ns → (∀ q ∈ ns, m ≤ q) → Q (.int m) M) : minA [.tup (ns.map D.int)] M Q := by
  obtain ⟨n, ns', rfl⟩ := List.exists_cons_of_ne_nil hn
  unfold minA
  simp only [intsD_map]
  exact hQ
theorem minA_pairs {a : Addr} {ps : List (Int × Int)} {M : Mp} {Q : DQ} (h : M a = some (.lst (ps.map encPr))) (hn : ps ≠ []) (hz : ps.length ≤ 16777216) (hQ : ∀ m, m ∈ ps → (∀ q ∈ ps, leP m q) → Q (encPr m) M) : minA [.ref a] M Q := by
  obtain ⟨p, ps', rfl⟩ := List.exists_cons_of_ne_nil hn
  unfold minA
  simp only [h, pairsD_map]
  exact ⟨by simpa using hz, hQ⟩
theorem minA_ints {a : Addr} {ns : List Int} {M : Mp} {Q : DQ} (h : M a = some (.lst (ns.map D.int))) (hn : ns ≠ []) (hQ : ∀ m, m ∈ ns → (∀ q ∈ ns, m ≤ q) → Q (.int m) M) : minA [.ref a] M Q := by
  obtain ⟨n, ns', rfl⟩ := List.exists_cons_of_ne_nil hn
  unfold minA
  simp only [h]
  have e : pairsD ((n :: ns').map D.int) = none := rfl
  rw [e]
  simp only [minD_ref, listI_of h]
  exact ⟨by simp, hQ⟩
end
end DL

set_option Elab.async false
set_option linter.all false
set_option maxRecDepth 100000
set_option maxHeartbeats 2000000
namespace DL
open PySem PySem.Spec PyProof.Rows L2
section
variable {X : Cx} {T : Tb} {W : WX} {K : Fr}
/-! ### max of a tuple of ints -/
def maxA : DRC := fun ds M Q => match ds with
  | [.tup xs] => (match intsD xs with
    | some (n :: ns) => ∀ m, m ∈ n :: ns → (∀ q ∈ n :: ns, q ≤ m) → Q (.int m) M
    | _ => False)
  | ds => maxD ds M Q
def rMaxT (K : Fr) : List V → Hp → VK → Prop := fun vs H Q => ∃ (a : Addr) (n : Int) (ns : List Int), vs = [.ref a] ∧ SqT K H a ((n :: ns).map V.int) ∧
  ∀ m : Int, m ∈ n :: ns → (∀ q ∈ n :: ns, q ≤ m) → Q (.int m) H
theorem maxT_fold : ∀ (ns : List Int) (n : Int), ∃ m : Int, PySem.W.maxD (.int n) (ns.map PyData.int) = .int m ∧ m ∈ n :: ns ∧ ∀ q ∈ n :: ns, q ≤ m
  | [], n => ⟨n, rfl, by simp, fun q hq => by rw [List.mem_singleton.mp hq]; exact Int.le_refl _⟩
  | q :: ns, n => by
    have e : PySem.W.maxD (.int n) ((q :: ns).map PyData.int) = PySem.W.maxD (if PySem.W.dataLt (.int n) (.int q) then .int q else .int n) (ns.map PyData.int) := rfl
    rw [e, PySem.W.dataLt_int]
    by_cases c : n < q
    · rw [decide_eq_true c, if_pos rfl]
      obtain ⟨m, h1, h2, h3⟩ := maxT_fold ns q
      refine ⟨m, h1, List.mem_cons_of_mem _ h2, fun r hr => ?_⟩
      rcases List.mem_cons.mp hr with rfl | hr
      · have := h3 q (by simp); omega
      · exact h3 r hr
    · rw [decide_eq_false c, if_neg (by decide)]
      obtain ⟨m, h1, h2, h3⟩ := maxT_fold ns n
      refine ⟨m, h1, ?_, fun r hr => ?_⟩
      · rcases List.mem_cons.mp h2 with rfl | h2
        · simp
        · exact List.mem_cons_of_mem _ (List.mem_cons_of_mem _ h2)
      · rcases List.mem_cons.mp hr with rfl | hr
        · exact h3 r (by simp)
        · rcases List.mem_cons.mp hr with rfl | hr
          · have := h3 n (by simp); omega
          · exact h3 r (List.mem_cons_of_mem _ hr)
theorem cr_maxT {k : Nat} (hc : X.calm = true) (hr : Room k X.A) : CallR X (.builtin "max") (rMaxT X.K) := by
  intro pins s σ H xs us Q I r h
  obtain ⟨a, n, ns, rfl, hs, q⟩ := h
  obtain ⟨its, rv, hl, _⟩ := I.tuple hs
  obtain rfl := Vals.ref1 r
  obtain ⟨as, hra⟩ := reads_ints I rv
  have hu : X.A.units + 1 + PyData.depthAll ((n :: ns).map PyData.int) < cLine := by
    have := hr.un; have := depth_intsT (n :: ns); omega
  refine PySem.W.max_tuple_data (I.ok.hd hc) hl (x := .int n) (xs := ns.map PyData.int) (as := as) (by simpa using hra) (alike_intsT (n :: ns)) hu fun i v h' tk bs hv hR hk => ?_
  obtain ⟨m, e1, e2, e3⟩ := maxT_fold ns n
  rw [e1] at hR
  have hv' : its[i]? = some v := by simpa using hv
  have hil : i < ((n :: ns).map V.int).length := by rw [rv.length]; exact (List.getElem?_eq_some_iff.mp hv').1
  obtain ⟨w, hw⟩ : ∃ w, ((n :: ns).map V.int)[i]? = some w := ⟨_, List.getElem?_eq_getElem hil⟩
  obtain ⟨u2, hu2, rw'⟩ := rv.get hw
  obtain rfl : u2 = v := by rw [hv'] at hu2; exact (Option.some.inj hu2).symm
  rw [List.getElem?_map] at hw
  obtain ⟨z, hz, rfl⟩ := Option.map_eq_some_iff.mp hw
  obtain ⟨as', ra⟩ := Dp.reads I _ _ _ ((Rep.int (K := X.K) (H := H) z).dp rfl) rw'
  have e4 : (.int z : PyData) = .int m := PySem.W.alike_unique _ _ u2 _ _ rfl (PyProof.Rows.Reads.keeps hk ra) hR
  obtain rfl : z = m := by injection e4
  exact ⟨.int z, H, I.kept (t' := tk) hk, rw', q z e2 e3⟩
theorem b_maxA {k : Nat} (hc : X.calm = true) (hr : Room k X.A) : BltR X T "max" maxA := by
  obtain ⟨r1, h1, g1⟩ := (b_max (X := X) (T := T) hc).ex
  refine ⟨_, h1.or (cr_maxT hc hr), fun vs ds H M Q Qd r0 m h q => ?_⟩
  unfold maxA at h
  split at h
  · rename_i xs
    obtain ⟨v, rfl, r⟩ := r0.one_inv
    split at h
    · rename_i n ns e
      obtain ⟨a, us, rfl, h1, h2⟩ := r.tup_inv
      rw [intsD_some e] at h2
      refine .inr ⟨a, n, ns, rfl, ?_, fun m' hm hle => q _ _ H M (.refl H) (.int _) m (h m' hm hle)⟩
      rw [← h2.ints]
      exact h1
    · exact h.elim
  · exact .inl (g1 vs _ H M Q Qd r0 m h q)
theorem maxA_tup {ns : List Int} {M : Mp} {Q : DQ} (hn : ns ≠ []) (hQ : ∀ m, m ∈ ns → (∀ q ∈ ns, q ≤ m) → Q (.int m) M) : maxA [.tup (ns.map D.int)] M Q := by
  obtain ⟨n, ns', rfl⟩ := List.exists_cons_of_ne_nil hn
  unfold maxA
  simp only [intsD_map]
  exact hQ
end
end DL

set_option Elab.async false
set_option linter.all false
set_option maxRecDepth 100000
set_option maxHeartbeats 2000000
namespace DL
open PySem PySem.Spec PyProof.Rows L2

/-! ## own error classes: def __init__(self, v): super().__init__(v); self.f = v -/
abbrev kCls : Str := "__class__"
abbrev kSup : Str := "super"
abbrev kIni : Str := "__init__"
/-- the frame of such a def -/
def icx (CX : CXT) (P : Program) (w : World) (K : Fr) (mg : Str → Option Value) (base : Heap) (N : List Str) (qual : Str) (scope : Scope) (f : Addr) (cd : Value) (cc : Addr) (A : Around) (outer : List Env) (s : Shared) (H : Hp) (E : XK) : Cx where
  prog := P
  w := w
  K := K
  mg := mg
  base := base
  A := A.deeper (PySem.W.ksEnv qual scope s.heap.objs.size f cd cc)
  N := N
  s_0 := s
  H_0 := H
  env := PySem.W.ksEnv qual scope s.heap.objs.size f cd cc
  outer := outer
  stack := PySem.W.ksEnv qual scope s.heap.objs.size f cd cc :: outer
  ex := []
  calm := true
  fn := fun _ => false
  pn := []
  xe := fun e s' => wpAny (model P w) (A.deeper (PySem.W.ksEnv qual scope s.heap.objs.size f cd cc)) (leaving (PySem.W.ksEnv qual scope s.heap.objs.size f cd cc) e) (fun _ s'' => CX outer H s E e s'') (fun e' s'' => CX outer H s E e' s'') s'
/-- such a def's scope -/
structure InitScope (a b : Str) (sc : Scope) : Prop where
  kind : sc.kind = .function
  co : sc.isCoroutine = false
  gen : sc.isGenerator = false
  ne : b ≠ a
  la : sc.names.lookup a = some NameKind.local
  lb : sc.names.lookup b = some NameKind.local
  lc : sc.names.lookup kCls = some NameKind.free
  ls : sc.names.lookup kSup = some NameKind.globalImplicit
  nc : ∀ y ∈ sc.names, y.2 ≠ NameKind.cell
  fr : ∀ y ∈ sc.names, y.2 = NameKind.free → y.1 = kCls
theorem cells_kCls {cc : Addr} {x : Str} {c : Addr} (h : ([(kCls, cc)] : List (Str × Addr)).lookup x = some c) : x = kCls ∧ c = cc := by
  simp only [List.lookup] at h
  by_cases e : x = kCls
  · subst e
    simp at h
    exact ⟨rfl, h.symm⟩
  · have : (x == kCls) = false := by simpa using e
    rw [this] at h
    cases h
theorem inv_icx {CX : CXT} {P : Program} {w : World} {K : Fr} {mg : Str → Option Value} {base : Heap} {qual a b : Str} {scope : Scope} {f cc : Addr} {cd : Value} {A : Around} {outer : List Env} {s : Shared} {H : Hp} {E : XK} {u1 u2 : Value} {v1 v2 : V} {h1 : Heap} {tk : Nat} {oc : Obj} {vc : Option Value}
    (S : InitScope a b scope) (hd : A.handled = none) (e0 : Env0 P w K mg base A outer s H) (r1 : RelV v1 u1) (r2 : RelV v2 u2) (hcc : K.lookup cc = some oc) (hcell : oc.data = .cell vc)
    (hns : h1.Ns s.heap.objs.size (fun x => ([a, b].zip [u1, u2]).reverse.lookup x)) (hk : ∀ b o, s.heap.get? b = some o → h1.get? b = some o) :
    L2.Inv (icx CX P w K mg base [a, b] qual scope f cd cc A outer s H E) [] [some v1, some v2] H { s with heap := h1, toks := tk } := by
  have noA : ∀ x : Addr, x ∉ (icx CX P w K mg base [a, b] qual scope f cd cc A outer s H E).ex := fun x z => absurd (show x ∈ ([] : List Addr) from z) (by simp)
  have ccb : base.get? cc = some oc := e0.mod.kin _ _ hcc
  have ccs := e0.bs _ _ ccb
  refine ⟨⟨e0.mod, S.kind, rfl, rfl, Nat.le_refl _, fun y z c h1 h2 => ?_, fun y hy => ?_, fun y c h _ => absurd h Bool.false_ne_true, fun _ => hd, Around.frames_deeper e0.frames, .inr ⟨rfl, rfl⟩, fun b z => absurd z (noA b), e0.bs, e0.bsz, fun b _ _ => noA b, fun b z => absurd z (noA b), e0.funs, e0.frf⟩,
    rfl, e0.bare, Un.kept hk, ⟨_, hns, fun i y v q1 q2 q3 => ?_⟩, fun y c h => ?_, e0.hok.fresh (Nat.le_refl _), fun y c h => ?_, fun p hp => absurd (show p ∈ ([] : List (Addr × Obj)) from hp) (by simp), e0.hok.kept hk, rfl⟩
  · exact (cells_kCls h1).1.trans (cells_kCls h2).1.symm
  · have hy : scope.names.lookup y = some .cell ∨ scope.names.lookup y = some .free := hy
    rcases hy with hy | hy
    · exact absurd rfl (S.nc _ (PySem.mem_of_lookup hy))
    · have := S.fr _ (PySem.mem_of_lookup hy) rfl
      obtain rfl : y = kCls := this
      exact ⟨cc, by show ([(kCls, cc)] : List (Str × Addr)).lookup kCls = some cc; simp [List.lookup]⟩
  · have e1 : ([a, b] : List Str)[i]? = some y := q1
    have e2 : ([some v1, some v2] : List (Option V))[i]? = some (some v) := q2
    match i, e1, e2 with
    | 0, e1, e2 =>
      obtain rfl : a = y := by simpa using e1
      obtain rfl : v1 = v := by simpa using e2
      refine ⟨u1, r1, .inl ⟨S.la, ?_⟩⟩
      show ([(b, u2), (a, u1)] : List (Str × Value)).lookup a = some u1
      have : (a == b) = false := by simpa using fun z => S.ne z.symm
      simp [List.lookup, this]
    | 1, e1, e2 =>
      obtain rfl : b = y := by simpa using e1
      obtain rfl : v2 = v := by simpa using e2
      refine ⟨u2, r2, .inl ⟨S.lb, ?_⟩⟩
      show ([(b, u2), (a, u1)] : List (Str × Value)).lookup b = some u2
      simp [List.lookup]
    | (n + 2), e1, e2 => simp at e1
  · obtain ⟨rfl, rfl⟩ := cells_kCls h
    exact ⟨vc, oc, hk _ _ ccs.1, hcell⟩
  · obtain ⟨rfl, rfl⟩ := cells_kCls h
    exact ccs.2
end DL

set_option Elab.async false
set_option linter.all false
set_option maxRecDepth 100000
set_option maxHeartbeats 2000000
namespace DL
open PySem PySem.Spec PyProof.Rows L2

/-- the promise of __init__ -/
def iSp (K : Fr) (C : Addr) (fld : Str) : Sp := fun vs H Q E => ∃ a y, vs = [V.ref a, y] ∧ H a = some (exo a C none) ∧ ∀ d, H d = none → d ≠ a → Q .non (upd (upd H d (exd d [(fld, y)])) a (exo a C (some d)))
/-- what the written part says of such a class and its def -/
structure InitK (P : Program) (K : Fr) (C f cc cda : Addr) (fld : Str) : Prop where
  T : OexC K C
  nof : PySem.W.findIn K (.ref C) fld = some none
  code : ∃ ccl cdd vs ccs file tf, K.lookup cda = some ⟨ccl, cdd, .fields vs, ccs⟩ ∧ vs[2]? = some (.str file tf) ∧ ((P.main.file : Str) == file) = true
  cell : ∃ cl cld csl, K.lookup cc = some ⟨cl, cld, .cell (some (.ref C)), csl⟩
  self : PySem.W.mroIn K C (.ref C) = some true
  opq : PySem.W.nsIn K cStatics "thirdparty.any" = some none
  sup : PySem.W.ks_superIn K C C kIni = some (some (.builtin "ValueError.__init__"))
  inst : PySem.W.subIn K (.ref C) (.type "ValueError") = some true
  top : (P.main.scope.names.lookup kSup).isSome = false

section
variable {CX : CXT} {P : Program} {w : World} {K : Fr} {mg : Str → Option Value} {base : Heap} {qual a b fld : Str} {scope : Scope} {f cc cda C : Addr} {A : Around} {outer : List Env} {s : Shared} {H : Hp} {E : XK}
variable {X : Cx} {pins : List (Addr × Obj)} {σ : L2.St} {u : Addr}
/-- the wrapper called -/
theorem call_mw {rest : List Value} {x : Addr} {s : Shared} {Q : Value → Shared → Prop} {E : Value → Shared → Prop} {A : Around} (T : OexC X.K C) (I : Inv X pins σ H s) (e : H x = some (exo x C none)) (hu : s.heap.get? u = some (PySem.W.kxs_mw "ValueError.__init__" x)) (hl : rest.length ≤ sizeLine)
    (h : ∀ s', Inv X pins σ H s' → Q .none s') : wpAny (model X.prog X.w) A (call (.ref u) rest) Q E s := by
  obtain ⟨nm, q, N, bs, bm, sn, sub, ab, col, dd, k0, k1, k2, k3, k5, hC, hbm⟩ := T.cls
  obtain ⟨t1, ho⟩ := exo_at I.hok e
  have hC' := I.kIn _ _ hC
  obtain ⟨hh, g, d, tk, os⟩ := s
  refine wpAny_call (codeAny_of_tree ?_)
  show wpAny _ A.in1 (callAny (.ref u) ⟨rest, []⟩) _ _ _
  simp only [callAny]
  refine wpAny_bind (wpAny_load hu ?_)
  simp only [PySem.W.kxs_mw, show (Value.type "method-wrapper" == Value.type "method" || Value.type "method-wrapper" == Value.type "builtin_function_or_method" || Value.type "method-wrapper" == Value.type "method-wrapper") = true by decide, if_true]
  refine PySem.W.KFB.if_so (by decide) ?_
  refine wpAny_bind (PySem.W.check_bound_init F.excBase_ValueError.toExcCallFacts hC' ho rfl ?_)
  refine wpAny_bind (wpAny_pure (wpAny_pure ?_))
  refine ⟨PySem.plainId_quiet F.excBase_ValueError.init.plain _, codeAny_builtin F.excBase_ValueError.initEntry ?_⟩
  refine PySem.W.exc_init_tree (cls := .ref C) (t0 := t1) (dv := none) (c2 := .none) (c3 := .none) (b4 := .bool false) ho hl fun h' k hx _ => ?_
  have J := I.write (t' := tk) (x := x) (e := x) (o := exo x C none) (by rw [e]; exact True.intro) (.inl rfl) k ⟨_, hx⟩ (exo_ok hx)
  have eu : upd H x (exo x C none) = H := by
    funext b
    by_cases hb : b = x
    · rw [hb, upd_same, e]
    · rw [upd_ne hb]
  rw [eu] at J
  exact h _ J
theorem gl_of {x : Str} {X : Cx} (h : X.env.scope.names.lookup x = some NameKind.globalImplicit) : X.env.kindOf x = some .globalImplicit := h
/-- the def keeps its promise -/
theorem init_fn {k : Nat} {name : Str} {params : Arguments} {dV kV doc pm ct oc : Value} {an od : Option Addr} {osl : Array (Option Value)} {ar : Arg} {p0 p1 p2 p3 p4 p5 p6 p7 p8 p9 : Pos}
    (lk : K.lookup f = some ⟨oc, od, .func (PySem.W.ksFn name qual params [.Expr (.Call (.Attribute (.Call (.Name kSup p0) [] [] p1) kIni p2) [.Name b p3] [] p4) p5, .Assign [.Attribute (.Name a p6) fld p7] (.Name b p8) p9] scope dV kV doc pm an (.ref cda) ct cc), osl⟩)
    (hcd : PySem.W.codeIn K (.ref cda) qual = true) (S : InitScope a b scope) (hp : (params.posonlyargs ++ params.args).head? = some ar) (har : ar.arg = a) (I : InitK P K C f cc cda fld) (hmg : mg kSup = none) (hfld : (fld == kCls) = false)
    {pl : Addr → Sem Bool} (hev : ∀ L : Addr, eval (.Call (.Attribute (.Call (.Name kSup p0) [] [] p1) kIni p2) [.Name b p3] [] p4) (PySem.W.ksEnv qual scope L f (.ref cda) cc) = (do
      let ov ← attributeBase (.Call (.Name kSup p0) [] [] p1) kIni (PySem.W.ksEnv qual scope L f (.ref cda) cc) (eval (.Call (.Name kSup p0) [] [] p1) (PySem.W.ksEnv qual scope L f (.ref cda) cc))
      standAt p2.atName
      let (f_, first) ← holding [ov] (getMethod ov kIni (pl L))
      callWith p4 f_ first (backTo p4 (starEach [.Name b p3] (PySem.W.ksEnv qual scope L f (.ref cda) cc))) []))
    (da : (a == ("__debug__" : Str)) = false) (db : (b == ("__debug__" : Str)) = false) (ea : (a == ("__classdict__" : Str)) = false) (eb : (b == ("__classdict__" : Str)) = false) :
    FnOk P w K mg base CX (k + 1) f (PySem.W.ksFn name qual params [.Expr (.Call (.Attribute (.Call (.Name kSup p0) [] [] p1) kIni p2) [.Name b p3] [] p4) p5, .Assign [.Attribute (.Name a p6) fld p7] (.Name b p8) p9] scope dV kV doc pm an (.ref cda) ct cc) [a, b] (iSp K C fld) := by
  refine ⟨fun vs H Q E ⟨x, y, e, _⟩ => by rw [e]; rfl, fun A outer s H args us vs Q E hr e0 hb r hsp => ?_⟩
  obtain ⟨x, y, rfl, ex, hq⟩ := hsp
  obtain ⟨u1, u2, rfl, r1, r2⟩ : ∃ u1 u2, us = [u1, u2] ∧ RelV (V.ref x) u1 ∧ RelV y u2 := by
    cases r with
    | cons r1 r' => cases r' with
      | cons r2 r'' => cases r''; exact ⟨_, _, rfl, r1, r2⟩
  obtain rfl : u1 = Value.ref x := r1
  have KX : K.In s.heap := e0.mod.kin.keeps fun b o e => (e0.bs b o e).1
  have lim : s.heap.NoLimit := e0.mod.nolimit.keeps fun b o e => (e0.bs b o e).1
  obtain ⟨cl, cld, csl, hcc⟩ := I.cell
  obtain ⟨ccl, cdd, cvs, ccs, file, tf, hcode, hv2, hfile⟩ := I.code
  refine PySem.ks_codeAny_call_defAt (binds := [a, b].zip [Value.ref x, u2]) hr.depth (KX _ _ lk) rfl lim (PySem.W.codeRec_of KX hcd) rfl hb S.nc (fun z hz => ?_) (fun h1 hns hk => ?_) S.co S.gen S.kind
  · have hz : z = (a, Value.ref x) ∨ z = (b, u2) := by simpa using hz
    rcases hz with rfl | rfl
    · exact S.la
    · exact S.lb
  have J := inv_icx (CX := CX) (qual := qual) (f := f) (cd := .ref cda) (E := E) (tk := s.toks + ([a, b].zip [Value.ref x, u2]).length) S hr.hd e0 (show RelV (V.ref x) (Value.ref x) from rfl) r2 hcc rfl hns hk
  have hself : ∃ m, h1.Ns s.heap.objs.size m ∧ m a = some (Value.ref x) := ⟨_, hns, by
    show ([(b, u2), (a, Value.ref x)] : List (Str × Value)).lookup a = some (Value.ref x)
    have : (a == b) = false := by simpa using fun z => S.ne z.symm
    simp [List.lookup, this]⟩
  refine PySem.ks_wpAt_execs_cons (PySem.ks_wpAt_Expr_any (hi := J.quiet) (PySem.ks_wpAt_MethodCall (he := hev _) ?_))
  obtain ⟨mB, hB1, hB2⟩ := J.mod.blt
  obtain ⟨t1, ho⟩ := exo_at J.hok ex
  have KJ := J.kIn
  have hcl : ∃ cd, PySem.W.clsIn K C = some cd := by
    obtain ⟨nm, q, N, bs, bm, sn, sub, ab, col, dd, k0, k1, k2, k3, k5, hC, hbm⟩ := I.T.cls
    refine Option.isSome_iff_exists.mp ?_
    unfold PySem.W.clsIn
    rw [hC]
    rfl
  obtain ⟨cdC, hcd'⟩ := hcl
  obtain ⟨oC, hC1, hC2⟩ : ∃ oD, h1.get? C = some oD ∧ oD.data = .cls cdC := by
    unfold PySem.W.clsIn at hcd'
    split at hcd'
    · rename_i c d cd' sl ho'
      cases hcd'
      exact ⟨_, KJ _ _ ho', rfl⟩
    · cases hcd'
  have noc : ∀ c, ({ cls := .ref C, dict := none, data := .fields #[.ref t1, .none, .none, .none, .bool false, .none] } : Obj).data ≠ .cls c := fun c z => by cases z
  have ia : PySem.W.InstAt h1 x { cls := .ref C, dict := none, data := .fields #[.ref t1, .none, .none, .none, .bool false, .none] } C none := ⟨ho, rfl, rfl, trivial⟩
  refine PySem.ks_wpAt_super_base (env := PySem.W.ksEnv qual scope s.heap.objs.size f (.ref cda) cc) S.ls S.lc rfl rfl (KJ _ _ lk) rfl hp rfl (KJ _ _ hcode) rfl hv2 hfile I.top ?_
  refine PySem.W.ks_loadName_global S.kind S.ls (PySem.Calls.loadGlobal_builtin (env := PySem.W.ksEnv qual scope s.heap.objs.size f (.ref cda) cc) (J.mod.glob.keeps J.bk) hmg (hB1.keeps J.bk) (hB2 _ (by decide)) ⟨rfl, ?_⟩)
  refine wpAny_loadName_free S.kind S.lc rfl ⟨_, KJ _ _ hcc, rfl⟩ ?_
  rw [har]
  obtain ⟨mS, hS1, hS2⟩ := hself
  refine wpAny_loadName_local S.kind S.la hS1 hS2 ?_
  refine PySem.ks_wpAny_isType_cls hC1 hC2 ⟨rfl, ?_⟩
  refine PySem.ks_wpAny_call_super hC1 hC2 ho rfl noc (PySem.W.looks_mroIn KJ I.self) (fun h2 e2 k2 => ?_)
  have J2 := J.kept (t' := s.toks + ([a, b].zip [Value.ref x, u2]).length) k2
  have K2 := J2.kIn
  obtain ⟨t2, ho2⟩ := exo_at J2.hok ex
  have ia2 : PySem.W.InstAt h2 x { cls := .ref C, dict := none, data := .fields #[.ref t2, .none, .none, .none, .bool false, .none] } C none := ⟨ho2, rfl, rfl, trivial⟩
  have hm := I.sup
  unfold PySem.W.ks_superIn at hm
  rw [hcd'] at hm
  refine PySem.W.kxs_getMethod PySem.W.kxs_ValueError e2 (PySem.W.looks_opaque K2 I.opq) (l₀ := cdC.mro) (fun A Q E s k q => wpAny_bind ((PySem.W.looks_clsIn K2 hcd') A _ E s k (wpAny_pure q))) rfl K2 hm (ia2.type.andThen (PySem.W.looks_subIn K2 I.inst)) (PySem.W.ks_ne K2 ia2 hcd') (by decide) ?_
  have k3 : ∀ b o, h2.get? b = some o → (h2.push (PySem.W.kxs_mw "ValueError.__init__" x)).get? b = some o := fun b o e => Heap.get?_push_of_some _ e
  have J3 := J2.kept (t' := s.toks + ([a, b].zip [Value.ref x, u2]).length + 1) k3
  have hu : (h2.push (PySem.W.kxs_mw "ValueError.__init__" x)).get? h2.objs.size = some (PySem.W.kxs_mw "ValueError.__init__" x) := Heap.get?_push_at rfl rfl
  have va : PE (icx CX P w K mg base [a, b] qual scope f (.ref cda) cc A outer s H E) (.Name a p6) (tVar 0) := pe_var rfl (.inl S.la) da ea
  have vb3 : PE (icx CX P w K mg base [a, b] qual scope f (.ref cda) cc A outer s H E) (.Name b p3) (tVar 1) := pe_var rfl (.inl S.lb) db eb
  have vb8 : PE (icx CX P w K mg base [a, b] qual scope f (.ref cda) cc A outer s H E) (.Name b p8) (tVar 1) := pe_var rfl (.inl S.lb) db eb
  have pa : PA (icx CX P w K mg base [a, b] qual scope f (.ref cda) cc A outer s H E) [.Name b p3] (tCons (tVar 1) tNil) := pa_cons vb3 pa_nil
  have ps : PS (icx CX P w K mg base [a, b] qual scope f (.ref cda) cc A outer s H E) (.Assign [.Attribute (.Name a p6) fld p7] (.Name b p8) p9) (tOst K fld (tVar 0) (tVar 1)) := ps_ost va vb8
  refine PySem.W.kxs_callWith (i := "ValueError.__init__") (x := x) rfl (PySem.Calls.evalArgs_plain ?_)
  have Jp : Inv (icx CX P w K mg base [a, b] qual scope f (.ref cda) cc A outer s H E) [(h2.objs.size, PySem.W.kxs_mw "ValueError.__init__" x)] [some (V.ref x), some y] H _ := J3.pins_of fun p hp => by
    obtain rfl : p = (h2.objs.size, PySem.W.kxs_mw "ValueError.__init__" x) := by simpa using hp
    exact ⟨hu, J2.hok.fresh (Nat.le_refl _), Nat.ne_of_gt J2.lt, J2.nofs (Nat.le_refl _), fun v z => by cases z⟩
  refine thn (pa.run p4 _ _ _ _ (fun vs H' => vs = [y] ∧ H' = H) Jp ⟨y, rfl, rfl, rfl⟩) fun us s4 hs4 => ?_
  obtain ⟨vs4, H4, J4, r4, rfl, rfl⟩ := hs4
  have hu4 := (J4.pin _ (List.mem_append_right _ (List.mem_cons_self ..))).1
  have hlen : us.length ≤ sizeLine := by
    rw [← Paired.length r4, sizeLine_eq]
    show 1 ≤ _
    omega
  refine ⟨hu4, ?_⟩
  refine call_mw I.T J4 ex hu4 hlen fun s5 J5 => ?_
  refine PySem.wpAt_of_wpAny ?_
  refine thn ((pss_one ps).run _ s5 _ _ { nx := fun _ H' => Q .non H', rt := Q } J5 ⟨y, rfl, V.ref x, rfl, x, C, rfl, I.T, I.nof, .inl ⟨ex, fun d hd hda => hq d hd hda⟩⟩) fun fl s' hs => ?_
  have fin : ∀ {σ' : L2.St} {H' : Hp} {v : V} {u : Value} {pl : List (Addr × Obj)}, Inv (icx CX P w K mg base [a, b] qual scope f (.ref cda) cc A outer s H4 E) pl σ' H' s' → RelV v u → Q v H' → CE outer P w H4 s Q u s' :=
    fun {σ' H' v u pl} J rv q => ⟨v, H', J.os, J.bare, J.base, J.hok, rv, q⟩
  cases fl with
  | ret u =>
    obtain ⟨v, σ', H', J, rv, q⟩ := hs
    exact fin J rv q
  | next =>
    obtain ⟨σ', H', J, q⟩ := hs
    exact fin (v := V.non) (u := Value.none) J rfl q
  | brk =>
    obtain ⟨_, _, _, q⟩ := hs
    exact False.elim q
  | cont =>
    obtain ⟨_, _, _, q⟩ := hs
    exact False.elim q
end
end DL

set_option Elab.async false
set_option linter.all false
set_option maxRecDepth 100000
set_option maxHeartbeats 1000000
namespace DL
open PySem PySem.Spec PyProof.Rows L2

/-! ## raise -/
/-- the written part of an own error class x, whose field is fld -/
structure ExcD (P : Program) (w : World) (K : Fr) (mg : Str → Option Value) (base : Heap) (x fld : Str) (k : Nat) : Prop where
  ex : ∃ C fI fd a b, ClsAt K x C ∧ mg x = some (.ref C) ∧ OexC K C ∧ PySem.W.findIn K (.ref C) "__init__" = some (some (.ref fI)) ∧ PySem.W.typeIn K (.ref fI) = some (.type "function") ∧ FnOk P w K mg base (L2.CX P w) k fI fd [a, b] (iSp K C fld) ∧ Binds K fd [a, b] []
theorem ExcD.mono {P : Program} {w : World} {K : Fr} {mg : Str → Option Value} {base : Heap} {x fld : Str} {k j : Nat} (G : ExcD P w K mg base x fld k) (h : k ≤ j) : ExcD P w K mg base x fld j := by
  obtain ⟨C, fI, fd, a, b, h1, h2, h3, h4, h5, h6, h7⟩ := G.ex
  exact ⟨C, fI, fd, a, b, h1, h2, h3, h4, h5, h6.mono h, h7⟩
@[simp] def dRaise (x fld : Str) (te : TDE) : TDS := fun D τ M => te τ M (fun d M1 => D.ex x fld d τ M1) (fun C f d M1 => D.ex C f d τ M1)
section
variable {X : Cx} {T : Tb} {W : WX} {e : Expr} {te : TDE} {pos pos' p : Pos} {x fld : Str} {k : Nat}
theorem heap_made {H1 : Hp} {a d : Addr} {C : Addr} {fs : List (Str × V)} {u : HO} (na : H1 a = none) (hda : d ≠ a) : upd (del (upd (upd (upd H1 a (exo a C none)) d u) a (exo a C (some d))) a) d (.xd fs) = upd H1 d (.xd fs) := by
  funext b
  by_cases hb : b = d
  · subst hb; rw [upd_same, upd_same]
  · rw [upd_ne hb, upd_ne hb]
    by_cases ha : b = a
    · subst ha; rw [del_same, na]
    · rw [del_ne ha, upd_ne ha, upd_ne hb, upd_ne ha]
theorem ds_raise (G : ExcD X.prog X.w X.K X.mg X.base x fld k) (hc : X.calm = true) (hr : Room (k + 1) X.A) (tk : Takes X W) (hg : Gl X x) (he : DE X T W e te) (hdb : (x == ("__debug__" : Str)) = false := by decide)
    (hst : starEach [e] X.env = (false, eval e X.env) :: starEach [] X.env := by rfl) (hpl : (backTo pos (starEach [] X.env)).any (·.1) = false := by rfl) : DS X T W (.Raise (some (.Call (.Name x p) [e] [] pos)) none pos') (dRaise x fld te) := by
  obtain ⟨C, fI, fd, a, b, hcl, hm, hT, iC, tI, F1, hb⟩ := G.ex
  have ha : DA X T W [e] (dCons te dNil) := da_cons he da_nil hst
  have pm := pmk_oex (pos := pos) (p := p) hT iC tI F1 hr hb (.nil : Vals [] []) (passes_call (E := fun _ _ _ => False) LamX.takes0 fun _ _ _ _ h => h) hg hm ha hdb hst hpl
  refine PS_imp (ps_raise hc tk pm) fun D σ H ⟨τ, M, E, hs, hm, ht, he⟩ => ?_
  refine ⟨τ, M, fun ds M1 => (match ds with | [d] => E.ex x fld d τ M1 | _ => False), _, hs, hm, ht, fun vs ds H1 M1 k1 r m1 h => ?_, he.xw hs⟩
  try dsimp only at h
  split at h
  · obtain ⟨v, rfl, rv⟩ := r.one_inv
    refine ⟨by simp, fun a na => ⟨a, v, rfl, upd_same, fun d hd hda => ⟨rfl, d, [(fld, v)], upd_same, ?_, ?_, ?_⟩⟩⟩
    · rw [upd_ne hda, upd_same]
    · rw [upd_ne hda] at hd; exact hd
    · rw [upd_ne hda] at hd
      rw [heap_made na hda]
      exact he.xw hs x fld _ (.ref C) (some d) (upd H1 d (.xd [(fld, v)])) M1 (k1.trans (.new hd)) ⟨⟨C, hcl, rfl⟩, d, v, rfl, upd_same, rv.keep (.new hd)⟩ (m1.more hd) h
  · exact h.elim
end

/-! ## try: body / except x: suite -/
/-- which classes of the names in l the clause x takes -/
def exmL (l : List Str) (x : Str) : Str → Option Bool := fun C => if C = x then some true else if C ∈ l then some false else none
structure ExmD (K : Fr) (mg : Str → Option Value) (x : Str) (mt : Str → Option Bool) : Prop where
  ex : ∃ c, mg x = some (.ref c) ∧ ∀ C b Ca, mt C = some b → ClsAt K C Ca → PySem.W.exmOne K (.ref Ca) (.ref c) = some b
@[simp] def dTry (mt : Str → Option Bool) (t s : TDS) : TDS := fun D τ M => t { D with ex := fun C f d τ' M' => match mt C with | some true => s { D with ex := noXS } τ' M' | some false => D.ex C f d τ' M' | none => False } τ M
section
variable {X : Cx} {T : Tb} {W : WX} {t s : TDS} {pos pos' np : Pos} {x : Str} {mt : Str → Option Bool} {body suite : List Stmt} {b₀ : Stmt}
theorem ds_try (G : ExmD X.K X.mg x mt) (hs : X.stack = X.env :: X.outer) (hf : X.env.frame = some X.env.locals) (hg : Gl X x) (tk : Takes X W)
    (hb : ∀ (W1 : WX) (pn : List (Addr × Obj)) (xe : Value → Shared → Prop), Takes (X.tr pn xe) W1 → PassesOwn (model X.prog X.w) X.A X.env xe → DSs (X.tr pn xe) T W1 body t)
    (hsu : ∀ (a : Addr) (oe : Obj) (pn : List (Addr × Obj)), DSs (X.suite a ((a, oe) :: pn)) T (fun _ _ _ _ => False) (b₀ :: suite) s)
    (hdb : (x == ("__debug__" : Str)) = false := by decide) : DS X T W (.Try body [.ExceptHandler (some (.Name x np)) none (b₀ :: suite) pos'] [] [] pos) (dTry mt t s) := by
  obtain ⟨c, hm, hex⟩ := G.ex
  refine PS_imp (ps_try_only (X := X) (c := .ref c) (tb := fun W1 => liftS X.K T W1 t) (ts := fun _ _ _ => liftS X.K T (fun _ _ _ _ => False) s) hs hf ⟨hg, hdb, .inl hm⟩ tk hb (fun a oe cls d pn _ _ => hsu a oe pn)) fun D σ H ⟨τ, M, E, hs, hm, ht, he⟩ => ?_
  refine ⟨τ, M, _, hs, hm, ht, ⟨he.nx, he.rt, he.bk, he.ct, fun C f d cls dx σ' τ' H' M' k rs hx rh h => ?_⟩⟩
  obtain ⟨⟨Ca, hca, rfl⟩, hx2⟩ := hx
  try dsimp only at h
  split at h
  · rename_i e
    refine ⟨true, hex C true Ca e hca, fun _ a na => ?_, (fun z => by cases z)⟩
    have he' := he.keep k
    exact ⟨τ', M', _, rs, rh, h, ⟨he'.nx, he'.rt, he'.bk, he'.ct, fun _ _ _ _ _ _ _ _ _ _ _ _ _ z => z.elim⟩⟩
  · rename_i e
    refine ⟨false, hex C false Ca e hca, (fun z => by cases z), fun _ => ?_⟩
    exact he.ex C f d _ dx σ' τ' H' M' k rs ⟨⟨Ca, hca, rfl⟩, hx2⟩ rh h
  · exact h.elim
end
end DL

set_option Elab.async false
set_option linter.all false
set_option maxRecDepth 100000
set_option maxHeartbeats 1000000
namespace DL
open PySem PySem.Spec PyProof.Rows L2 LamX

/-! ## what a lambda is handed to: try: a() / except x as e: return e.fld / return r -/
/-- of a class that mt takes the field fld may be asked -/
structure XfD (K : Fr) (fld : Str) (mt : Str → Option Bool) : Prop where
  ok : ∀ C Ca, mt C = some true → ClsAt K C Ca → XfC K Ca ∧ PySem.W.findIn K (.ref Ca) fld = some none
/-- the wish of what is raised -/
def hWish (K : Fr) (CS : Addr) (fld : Str) (Q : VK) : XK := fun cls d H' => PySem.W.exmOne K cls (.ref CS) = some true ∧ ∃ Ca dd fs v, cls = .ref Ca ∧ XfC K Ca ∧ PySem.W.findIn K (.ref Ca) fld = some none ∧ d = some dd ∧ H' dd = some (.xd fs) ∧ fs.lookup fld = some v ∧ Q v H'
def TTcode (K : Fr) (CS : Addr) (fld : Str) (rv : V) : (XK → Hp → VK → Prop) → Hp → VK → Prop := fun tl H Q => tl (hWish K CS fld Q) H (fun _ H' => Q rv H')
/-- the suite's reading -/
def tsF (K : Fr) (fld : Str) (i : Nat) (a : Addr) (cls : Value) (d : Option Addr) : TS := fun D σ H => ∃ Ca, (cls = .ref Ca ∧ XfC K Ca ∧ PySem.W.findIn K (.ref Ca) fld = some none) ∧ (i < σ.length → tXf a cls d Ca fld (tVar i) σ H D.rt)
section
variable {X : Cx} {x a en ex q fld : Str} {Ng : List Str} {sg : Scope} {g CS : Addr} {cdg : Value} {i : Nat} {rv : V} {re : Expr} {p1 p2 p3 p4 p5 p6 p7 p8 p9 p10 : Pos}
theorem code_gives (hN : Ng.Nodup) (hi : Ng[i]? = some en) (hi1 : i ≠ 0) (hln : sg.names.lookup en = some .local) (hge : sg.names.lookup ex = some .globalImplicit) (hme : X.mg ex = some (.ref CS)) (hde : (ex == ("__debug__" : Str)) = false) (hdn : (en == ("__debug__" : Str)) = false) (hdc : (en == ("__classdict__" : Str)) = false)
    (h0 : ∀ f : Addr, (L2.start Ng [V.ref f])[0]? = some (some (V.ref f))) (hret : ∀ Y : Cx, PE Y re (fun _ H Q => Q rv H)) :
    GivesTo X Ng x sg g cdg [.Try [.Expr (.Call (.Name a p1) [] [] p2) p3] [.ExceptHandler (some (.Name ex p4)) (some en) [.Return (some (.Attribute (.Name en p5) fld p6)) p7] p8] [] [] p9, .Return (some re) p10] a q (TTcode X.K CS fld rv) := by
  intro f c' s H Q tl act hc h
  have hgl : Gl (cxOf C8.CX0 X.prog X.w X.K X.mg X.base Ng x sg g cdg X.A X.stack s H C8.E0).nox ex := hge
  refine ⟨_, pss_cons (ps_try_as (X := (cxOf C8.CX0 X.prog X.w X.K X.mg X.base Ng x sg g cdg X.A X.stack s H C8.E0).nox) (c := .ref CS) (i := i)
      (tb := fun W D σ H => ∃ Ech : XK, (∀ cls d σ' H', Ech cls d H' → W cls d σ' H') ∧ σ[0]? = some (some (.ref f)) ∧ H c' = some (CodeO c' q) ∧ tl Ech H (fun _ H' => D.nx σ H'))
      (ts := tsF X.K fld i)
      rfl rfl hN hi hln ⟨hgl, hde, .inl hme⟩ L2.takes0 (fun W pn xe tk _ => ?_) (fun a oe cls d pn hz hd => ?_)) (pss_one (ps_ret (hret _))), ?_⟩
  · refine ⟨fun pins s' σ H' D I h' => ?_⟩
    obtain ⟨Ech, hW, h1, h2, h3⟩ := h'
    have hp := act W pn xe Ech p1 p2 tk hW
    have hq := pss_one (ps_expr (pos := p3) hp)
    exact hq.run pins s' σ H' D I ⟨h1, h2, h3⟩
  · refine ⟨fun pins s' σ H' D I ⟨Ca, ⟨hC, hx, hf⟩, h'⟩ => ?_⟩
    refine (pss_one (ps_ret (pe_xf (X := (cxOf C8.CX0 X.prog X.w X.K X.mg X.base Ng x sg g cdg X.A X.stack s H C8.E0).nox) hx hf hz hd (pe_var (i := i) hi (.inl hln) hdn hdc)))).run pins s' σ H' D I (h' ?_)
    have hl : σ.length = Ng.length := I.len
    rw [hl]
    exact (List.getElem?_eq_some_iff.mp hi).1
  · refine ⟨hWish X.K CS fld Q, fun cls d σ' H' ⟨e1, Ca, dd, fs, v, e2, e3, e4, e5, e6, e7, e8⟩ => ?_, h0 f, hc, h⟩
    refine ⟨true, e1, fun _ a na => ?_, (fun z => by cases z)⟩
    refine ⟨Ca, ⟨e2, e3, e4⟩, fun hl => ⟨.ref a, ?_, rfl, e2, dd, fs, v, e5, e6, e7, e8⟩⟩
    simp only [List.length_set] at hl
    exact List.getElem?_set_self hl
end
end DL

set_option Elab.async false
set_option linter.all false
set_option maxRecDepth 100000
set_option maxHeartbeats 1000000
namespace DL
open PySem PySem.Spec PyProof.Rows L2 LamX
abbrev bLamF (a ex en fld : Str) (re : Expr) (p1 p2 p3 p4 p5 p6 p7 p8 p9 p10 : Pos) : List Stmt := [.Try [.Expr (.Call (.Name a p1) [] [] p2) p3] [.ExceptHandler (some (.Name ex p4)) (some en) [.Return (some (.Attribute (.Name en p5) fld p6)) p7] p8] [] [] p9, .Return (some re) p10]
/-- x hands a lambda's exception's field on -/
structure LamF (K : Fr) (mg : Str → Option Value) (x fld : Str) (mt : Str → Option Bool) (r : D) : Prop where
  ex : ∃ (g CS : Addr) (oc : Value) (od : Option Addr) (osl : Array (Option Value)) (pg : Arguments) (sg : Scope) (dV kV doc pm cdv ct : Value) (an : Option Addr) (Ng : List Str) (a en ex : Str) (i : Nat) (rv : V) (re : Expr) (p1 p2 p3 p4 p5 p6 p7 p8 p9 p10 : Pos),
    mg x = some (.ref g) ∧ PySem.W.keepIn K (.ref g) = true ∧ PySem.W.codeIn K cdv x = true ∧ FnScope Ng [a] sg ∧
    (K.lookup g = some ⟨oc, od, .func (PySem.W.fnOf x x pg (bLamF a ex en fld re p1 p2 p3 p4 p5 p6 p7 p8 p9 p10) sg dV kV doc pm an cdv ct), osl⟩ ∧ L2.Binds K (PySem.W.fnOf x x pg (bLamF a ex en fld re p1 p2 p3 p4 p5 p6 p7 p8 p9 p10) sg dV kV doc pm an cdv ct) [a] []) ∧
    Ng[0]? = some a ∧ Vis sg a ∧ Ng[i]? = some en ∧ i ≠ 0 ∧ sg.names.lookup en = some .local ∧ sg.names.lookup ex = some .globalImplicit ∧ mg ex = some (.ref CS) ∧
    ((a == ("__debug__" : Str)) = false ∧ (a == ("__classdict__" : Str)) = false ∧ (ex == ("__debug__" : Str)) = false ∧ (en == ("__debug__" : Str)) = false ∧ (en == ("__classdict__" : Str)) = false) ∧
    (∀ f : Addr, (L2.start Ng [V.ref f])[0]? = some (some (V.ref f))) ∧ (∀ Y : Cx, PE Y re (fun _ H Q => Q rv H)) ∧ (∀ H, Rep K H rv r) ∧
    (∀ C b Ca, mt C = some b → ClsAt K C Ca → PySem.W.exmOne K (.ref Ca) (.ref CS) = some b) ∧ XfD K fld mt
@[simp] def dLam (mt : Str → Option Bool) (fld : Str) (r : D) (te : TDE) : TDE := fun τ M Q E => te τ M (fun _ M1 => gcQ Q r M1) (fun C f d M1 => mt C = some true ∧ f = fld ∧ gcQ Q d M1)
theorem Keep.extN {H H1 : Hp} (e : ExtN H H1) : Keep H H1 := ⟨fun a xs h => e a _ h fun ps z => (by cases z), fun a o u h => e a _ h fun ps z => (by cases z)⟩
theorem RepH.extN {K : Fr} {T : Tb} {H H1 : Hp} {M : Mp} (m : RepH K T H M) (e : ExtN H H1) (t : Tabs T H1) : RepH K T H1 M := ⟨fun a o h => by
  obtain ⟨u, hu, ru⟩ := m.obj a o h
  exact ⟨u, e a u hu ru.mutT, ru.keep (Keep.extN e)⟩, t⟩
theorem de_lam {X : Cx} {T : Tb} {W : WX} {x fld : Str} {mt : Str → Option Bool} {r : D} {c P : Addr} {k j : Nat} {params : Arguments} {body : Expr} {scope : Scope} {te : TDE} {p lpos pos : Pos} (G : LamF X.K X.mg x fld mt r) (hg : Gl X x)
    (TB : TabB X.base X.mg c P) (hcode : X.env.code = .ref c) (hmT : (P, X.env.qual ++ "<lambda>") ∈ T) (hu : ∀ p ∈ T, p.1 = P → p.2 = X.env.qual ++ "<lambda>") (hr : Room j X.A) (hk : k + 2 ≤ j) (L : lamSB X.env.scope scope = true) (hdef : defaultsOf params X.env = ([], []))
    (hbind : ∀ (q : Str) (cl : List (Str × Addr)) (pm cv ctv : Value), bindArgs (PySem.W.kla_fn "<lambda>" q params body scope cl pm cv ctv) ⟨[], []⟩ = pure [])
    (hbody : ∀ (A : Around) (outer : List Env) (s : Shared) (H : Hp) (E : XK) (f c' : Addr), Room k (A.deeper (lamEnv X scope s.heap.objs.size f c')) → DE (lamCx X A outer s H E scope f c') T (WD E) body te)
    (hdb : (x == ("__debug__" : Str)) = false := by decide) : DE X T W (.Call (.Name x p) [.Lambda params body scope lpos] [] pos) (dLam mt fld r te) := by
  obtain ⟨g, CS, oc, od, osl, pg, sg, dV, kV, doc, pm, cdv, ct, an, Ng, a, en, ex, i, rv, re, p1, p2, p3, p4, p5, p6, p7, p8, p9, p10, hm, hkp, hcg, Sg, ⟨lk, hb⟩, hN0, hva, hNi, hi0, hln, hge, hme, ⟨d1, d2, d3, d4, d5⟩, h0, hret, hrr, hex, hxf⟩ := G.ex
  have hG := code_gives (X := X) (x := x) (a := a) (q := X.env.qual ++ "<lambda>") (fld := fld) (g := g) (cdg := cdv) (p1 := p1) (p2 := p2) (p3 := p3) (p4 := p4) (p5 := p5) (p6 := p6) (p7 := p7) (p8 := p8) (p9 := p9) (p10 := p10) Sg.nd hNi hi0 hln hge hme d3 d4 d5 h0 hret
  refine PE_imp (pe_lamcall (t := fun E => liftE X.K T (WD E) te) hg hm hkp lk hcg hb Sg hN0 hva hG TB hcode hmT hu (hr.mono hk) (lamS_by L) hdef hbind hbody hdb d1 d2) fun σ H Q ⟨τ, M, Qd, E, hs, hm, ht, hq, hx⟩ => ?_
  refine ⟨hm.tab, fun H1 eN hT => ?_⟩
  have k1 : Keep H H1 := Keep.extN eN
  refine ⟨τ, M, _, _, hs.keep k1, hm.extN eN hT, ht, fun v d H2 M2 k2 rv' m2 h => ?_, fun C f d cls dx H2 M2 k2 hx2 m2 h => ?_⟩
  · obtain ⟨M3, s3, q3⟩ := h
    exact hq rv r H2 M3 (k1.trans k2) (hrr H2) (m2.sub s3) q3
  · obtain ⟨e1, e2, M3, s3, q3⟩ := h
    obtain ⟨⟨Ca, hca, e3⟩, ad, v, e4, e5, e6⟩ := hx2
    obtain ⟨x1, x2⟩ := hxf.ok C Ca e1 hca
    subst e3 e2
    exact ⟨hex C true Ca e1 hca, Ca, ad, _, v, rfl, x1, x2, e4, e5, by simp [List.lookup], hq v d H2 M3 (k1.trans k2) e6 (m2.sub s3) q3⟩
end DL

set_option Elab.async false
set_option linter.all false
set_option maxRecDepth 100000
set_option maxHeartbeats 1000000
namespace DL
open PySem PySem.Spec PyProof.Rows L2 LamX

/-! ## the written part of own error classes, looked up -/
abbrev sBase : Str := "BaseException"
/-- an own error class: its name, its field, its __init__ -/
structure ErrW where
  nm : Str
  fld : Str
  qual : Str
  params : Arguments
  body : List Stmt
  scope : Scope
def exAd (K : Fr) (x : Str) : Addr := He.ga K x
def inAd (K : Fr) (x : Str) : Addr := He.ma K (exAd K x) kIni
abbrev InD : Type := Option (Str × Str × Arguments × FuncBody × Scope × Addr × List Str × Addr)
def inW (K : Fr) (x : Str) : InD := match K.lookup (inAd K x) with
  | some ⟨_, _, .func q, _⟩ => some (q.name, q.qualname, q.params, q.body, q.scope, q.globals, q.closure.map (·.1), q.builtins)
  | _ => none
def ErrW.val (e : ErrW) : InD := some (kIni, e.qual, e.params, .stmts e.body, e.scope, mainGlobals, [kCls], builtinsNs)
def oexB (K : Fr) (C : Addr) : Bool := (match K.lookup C with
  | some ⟨.type t, _, .cls cd, sl⟩ => decide (t = "type") && ((match cd.mro with
    | .ref D :: bm => decide (D = C) && PySem.HandSPX.refsVE bm
    | _ => false) && (cd.hasDict && (!cd.hasDel && (match sl.toList with
    | [_, _, _, _, some (.builtin z), _] => decide (z = "ValueError.__new__")
    | _ => false))))
  | _ => false) && (decide (PySem.W.findIn K (.ref C) "__setattr__" = some (some (.builtin "object.__setattr__"))) && (decide (PySem.W.subIn K (.ref C) (.type "BaseException") = some true) && (decide (PySem.W.typeIn K (.ref C) = some (.type "type")) && PySem.W.keepIn K (.ref C))))
theorem band {a b : Bool} (h : (a && b) = true) : a = true ∧ b = true := Bool.and_eq_true_iff.mp h
theorem oexB_ok {K : Fr} {C : Addr} (h : oexB K C = true) : OexC K C := by
  obtain ⟨h1, h⟩ := band h
  obtain ⟨h2, h⟩ := band h
  obtain ⟨h3, h⟩ := band h
  obtain ⟨h4, h5⟩ := band h
  refine ⟨?_, of_decide_eq_true h2, of_decide_eq_true h3, of_decide_eq_true h4, h5⟩
  cases q : K.lookup C with
  | none => rw [q] at h1; cases h1
  | some o =>
    obtain ⟨oc, od, dt, osl⟩ := o
    rw [q] at h1
    cases oc with
    | type t =>
      cases dt with
      | cls cd =>
        obtain ⟨k1, k⟩ := band h1
        obtain ⟨k2, k⟩ := band k
        obtain ⟨k3, k⟩ := band k
        obtain ⟨k4, k5⟩ := band k
        obtain ⟨nm, bs, mro, ns, qn, hd, sn, sb, ab, col, del⟩ := cd
        obtain ⟨sl⟩ := osl
        try dsimp only at k2 k3 k4 k5
        obtain rfl : t = "type" := of_decide_eq_true k1
        cases mro with
        | nil => cases k2
        | cons v bm =>
          cases v with
          | ref D' =>
            obtain ⟨k6, k7⟩ := band k2
            obtain rfl : D' = C := of_decide_eq_true k6
            subst k3
            have k4 : del = false := by simpa using k4
            subst k4
            match sl, k5 with
            | [k0, a1, a2, a3, some (.builtin z), a5], k5 =>
              obtain rfl : z = "ValueError.__new__" := of_decide_eq_true k5
              exact ⟨nm, qn, ns, bs, bm, sn, sb, ab, col, od, k0, a1, a2, a3, a5, rfl, k7⟩
          | _ => cases k2
      | _ => cases h1
    | _ => cases dt <;> cases h1
/-- all the rest that is asked of such a class; file: the program's -/
def errB (file : Str) (K : Fr) (x fld qual : Str) : Bool :=
  let C := exAd K x
  let f := inAd K x
  decide (PySem.W.nsIn K mainGlobals x = some (some (.ref C))) && (oexB K C && (xfB K C && (decide (PySem.W.findIn K (.ref C) fld = some none) && (decide (PySem.W.findIn K (.ref C) kIni = some (some (.ref f))) && (decide (PySem.W.typeIn K (.ref f) = some (.type "function")) &&
    (decide (PySem.W.mroIn K C (.ref C) = some true) && (decide (PySem.W.nsIn K cStatics "thirdparty.any" = some none) && (decide (PySem.W.ks_superIn K C C kIni = some (some (.builtin "ValueError.__init__"))) && (decide (PySem.W.subIn K (.ref C) (.type "ValueError") = some true) &&
    (match K.lookup f with
    | some ⟨_, _, .func q, _⟩ => (match q.code, q.defaults, q.closure with
      | .ref cda, .none, [(_, cc)] => PySem.W.codeIn K (.ref cda) qual && ((match K.lookup cda with
        | some ⟨_, _, .fields vs, _⟩ => (match (vs.toList : List Value)[2]? with
          | some (Value.str z _) => decide (z = file)
          | _ => false)
        | _ => false) && (match K.lookup cc with
        | some ⟨_, _, .cell (some (.ref D)), _⟩ => decide (D = C)
        | _ => false))
      | _, _, _ => false)
    | _ => false))))))))))
structure ErrOk (K : Fr) (file x fld qual : Str) (e : ErrW) : Prop where
  b : errB file K x fld qual = true
  w : inW K x = e.val
theorem excD_of {P : Program} {w : World} {K : Fr} {mg : Str → Option Value} {base h : Heap} {file x fld qual a b : Str} {params : Arguments} {scope : Scope} {ar : Arg} {p0 p1 p2 p3 p4 p5 p6 p7 p8 p9 : Pos} (KX : K.In h) (G : h.Ns mainGlobals mg)
    (B : errB file K x fld qual = true) (W : inW K x = some (kIni, qual, params, .stmts [.Expr (.Call (.Attribute (.Call (.Name kSup p0) [] [] p1) kIni p2) [.Name b p3] [] p4) p5, .Assign [.Attribute (.Name a p6) fld p7] (.Name b p8) p9], scope, mainGlobals, [kCls], builtinsNs))
    (hP : P.main.file = file) (htop : (P.main.scope.names.lookup kSup).isSome = false) (S : InitScope a b scope) (hp : (params.posonlyargs ++ params.args).head? = some ar) (har : ar.arg = a) (hmg : mg kSup = none) (hfld : (fld == kCls) = false)
    {pl : Addr → Addr → Addr → Addr → Sem Bool} (hev : ∀ (L f cda cc : Addr), eval (.Call (.Attribute (.Call (.Name kSup p0) [] [] p1) kIni p2) [.Name b p3] [] p4) (PySem.W.ksEnv qual scope L f (.ref cda) cc) = (do
      let ov ← attributeBase (.Call (.Name kSup p0) [] [] p1) kIni (PySem.W.ksEnv qual scope L f (.ref cda) cc) (eval (.Call (.Name kSup p0) [] [] p1) (PySem.W.ksEnv qual scope L f (.ref cda) cc))
      standAt p2.atName
      let (f_, first) ← holding [ov] (getMethod ov kIni (pl L f cda cc))
      callWith p4 f_ first (backTo p4 (starEach [.Name b p3] (PySem.W.ksEnv qual scope L f (.ref cda) cc))) []))
    (hbind : ∀ (kV doc pm : Value) (an : Option Addr) (cdv ct : Value) (cc : Addr) (u1 u2 : Value), bindArgs (PySem.W.ksFn kIni qual params [.Expr (.Call (.Attribute (.Call (.Name kSup p0) [] [] p1) kIni p2) [.Name b p3] [] p4) p5, .Assign [.Attribute (.Name a p6) fld p7] (.Name b p8) p9] scope .none kV doc pm an cdv ct cc) ⟨[u1, u2], []⟩ = pure [(a, u1), (b, u2)])
    (da : (a == ("__debug__" : Str)) = false) (db : (b == ("__debug__" : Str)) = false) (ea : (a == ("__classdict__" : Str)) = false) (eb : (b == ("__classdict__" : Str)) = false) (k : Nat) : ExcD P w K mg base x fld (k + 1) := by
  unfold errB at B
  try dsimp only at B
  generalize hC : exAd K x = C at B
  generalize hf : inAd K x = f at B
  obtain ⟨b1, B⟩ := band B
  obtain ⟨b2, B⟩ := band B
  obtain ⟨b3, B⟩ := band B
  obtain ⟨b4, B⟩ := band B
  obtain ⟨b5, B⟩ := band B
  obtain ⟨b6, B⟩ := band B
  obtain ⟨b7, B⟩ := band B
  obtain ⟨b8, B⟩ := band B
  obtain ⟨b9, B⟩ := band B
  obtain ⟨b10, B⟩ := band B
  unfold inW at W
  rw [hf] at W
  cases q : K.lookup f with
  | none => rw [q] at B; cases B
  | some o =>
    obtain ⟨oc, od, dt, osl⟩ := o
    rw [q] at B W
    cases dt with
    | func fd =>
      obtain ⟨n1, n2, n3, n4, n5, n6, n7, n8, n9, n10, n11, n12, n13, n14, n15⟩ := fd
      try dsimp only at B W
      simp only [Option.some.injEq, Prod.mk.injEq] at W
      obtain ⟨w1, w2, w3, w4, w5, w6, w7, w8⟩ := W
      subst w1 w2 w3 w4 w5 w6 w8
      cases n13 with
      | ref cda =>
        cases n8 with
        | none =>
          match n7, w7, B with
          | [(y, cc)], w7, B =>
            simp only [List.map_cons, List.map_nil, List.cons.injEq, and_true] at w7
            subst w7
            obtain ⟨c1, B⟩ := band B
            obtain ⟨c2, c3⟩ := band B
            have hcode : ∃ ccl cdd vs ccs file tf, K.lookup cda = some ⟨ccl, cdd, .fields vs, ccs⟩ ∧ vs[2]? = some (.str file tf) ∧ ((P.main.file : Str) == file) = true := by
              split at c2
              · rename_i ccl cdd vs ccs e1
                split at c2
                · rename_i z tf e2
                  obtain rfl : z = file := of_decide_eq_true c2
                  exact ⟨_, _, vs, _, z, tf, e1, by simpa using e2, by rw [hP]; simp⟩
                · cases c2
              · cases c2
            have hcell : ∃ cl cld csl, K.lookup cc = some ⟨cl, cld, .cell (some (.ref C)), csl⟩ := by
              split at c3
              · rename_i cl cld D csl e1
                obtain rfl : D = C := of_decide_eq_true c3
                exact ⟨_, _, _, e1⟩
              · cases c3
            have I : InitK P K C f cc cda fld := ⟨oexB_ok b2, of_decide_eq_true b4, hcode, hcell, of_decide_eq_true b7, of_decide_eq_true b8, of_decide_eq_true b9, of_decide_eq_true b10, htop⟩
            have b1' : PySem.W.nsIn K mainGlobals x = some (some (.ref C)) := of_decide_eq_true b1
            refine ⟨C, f, _, a, b, b1', ?_, oexB_ok b2, of_decide_eq_true b5, of_decide_eq_true b6, init_fn (pl := fun L => pl L f cda cc) q c1 S hp har I hmg hfld ?_ da db ea eb, ?_⟩
            · exact PySem.W.mg_of KX G b1'
            · exact fun L => hev L f cda cc
            · exact .all fun us hl => (match us, hl with | [u1, u2], _ => hbind _ _ _ _ _ _ _ u1 u2)
        | _ => cases B
      | _ => cases B
    | _ => cases W
end DL

set_option Elab.async false
set_option linter.all false
set_option maxRecDepth 100000
set_option maxHeartbeats 1000000
namespace DL
open PySem PySem.Spec PyProof.Rows L2 LamX
/-! ## the script, as the law with tables gets it -/
def scrOf (z : D) (M : Mp) (ns : List Int) : Prop := z = .scr ns ∨ ∃ a, z = .ref a ∧ M a = some (.lst (ns.map D.int))
theorem listD_scrOf {z : D} {ns : List Int} {M : Mp} (h : scrOf z M ns) {Q : DQ} : listD [z] M Q = (∀ p, M p = none → Q (.ref p) (mup M p (.lst (ns.map D.int)))) := by
  rcases h with rfl | ⟨a, rfl, h⟩
  · simp
  · simp [h]
def sp_drawsX : DSp := fun ds M Q E => ∃ (z : D) (ns : List Int) (c : Int), ds = [z, .int c] ∧ scrOf z M ns ∧ ns.length ≤ 1000 ∧ 0 ≤ c ∧ c ≤ 1000000 ∧ ∀ p, M p = none → Q (.ref p) (mup M p .drw)
theorem sem_drawsX (ds M Q E) (hl : ds.length = 2) (h : sp_drawsX ds M Q E) : T_draws (dEndsG Q E) (dstart 9 ds) M := by
  obtain ⟨z, ns, c, rfl, hS, hns, c0, c1, hQ⟩ := h
  have hL := @listD_scrOf z ns M hS
  have body : ∀ (a : Addr) (cs : List Int) (M1 : Mp), cs ≠ [] → cs.length ≤ 16777216 → M1 a = some (.lst (cs.map D.int)) → (∀ b o, M b = some o → M1 b = some o) → M a = none →
    (dSeq (dAsg (dLst (dNil)) (dgName 3)) (dSeq (dAsg (dC (.int 12345)) (dgName 4)) (dSeq (dFor (iArgs rng1D (dCons (dVar 1) (dNil))) (dgName 5) B_draws) (dSeq (dDrop (dML0 (chL fReverse) (dVar 3))) (dRet (dVar 3)))))) (dEndsG Q E) [some z, some (.int c), some (.ref a), none, none, none, none, none, none] M1 := by
    intro a cs M1 hcs hz ha hM ha0
    simp [dFor]
    intro p hp
    have hap : a ≠ p := by rintro rfl; rw [ha] at hp; cases hp
    have hMp : M p = none := by
      cases e : M p with
      | none => rfl
      | some o => rw [hM _ _ e] at hp; cases hp
    refine ⟨by omega, ?_⟩
    refine draws_loop _ _ _ a p hap _ (fun d hd => ?_) cs [] 12345 none none none none _ hcs hz ?_ ?_ (by simp) (by decide) (by decide) ?_ ?_
    · unfold rangeL at hd
      obtain ⟨i, hi, rfl⟩ := List.mem_map.mp hd
      have := List.mem_range.mp hi
      exact ⟨_, rfl, by omega, by omega⟩
    · rw [mup_ne hap]; exact ha
    · rw [mup_same]; rfl
    · simp [rangeL_len]; omega
    · intro cs' fs' m' o5 o6 o7 o8 M' g1 g2 g3 g4 g5
      simp [g2]
      refine ⟨by omega, mup M p .drw, fun b o hb => ?_, hQ p hMp⟩
      by_cases hbp : b = p
      · subst hbp
        rw [mup_same] at hb
        cases hb
        exact .inr ⟨rfl, fs'.reverse, by rw [mup_same, List.map_reverse], fun n hn => g4 n (by simpa using hn), by simp; omega⟩
      · rw [mup_ne hbp] at hb
        have hba : b ≠ a := by rintro rfl; rw [ha0] at hb; cases hb
        rw [mup_ne hbp, g3 b hba hbp, mup_ne hbp]
        exact .inl (hM b o hb)
  simp only [T_draws]
  generalize hB : (dSeq (dAsg (dLst (dNil)) (dgName 3)) _ : TDS) = B
  have body' : ∀ (a : Addr) (cs : List Int) (M1 : Mp), cs ≠ [] → cs.length ≤ 16777216 → M1 a = some (.lst (cs.map D.int)) → (∀ b o, M b = some o → M1 b = some o) → M a = none →
    B (dEndsG Q E) [some z, some (.int c), some (.ref a), none, none, none, none, none, none] M1 := by rw [← hB]; exact body
  simp [hL]
  intro p hp
  split
  · rename_i h
    intro p2 hp2
    refine body' p2 [7] _ (by simp) (by simp) (by rw [mup_same]; rfl) (fun b o hb => ?_) ?_
    · have h1 : b ≠ p := by rintro rfl; rw [hp] at hb; cases hb
      have h2 : b ≠ p2 := by rintro rfl; have := mup_none.mp hp2; rw [this.2] at hb; cases hb
      rw [mup_ne h2, mup_ne h1]; exact hb
    · exact (mup_none.mp hp2).2
  · rename_i h
    refine body' p ns _ ?_ ?_ (by rw [mup_same]) (fun b o hb => ?_) hp
    · exact h
    · omega
    · have h1 : b ≠ p := by rintro rfl; rw [hp] at hb; cases hb
      rw [mup_ne h1]; exact hb
theorem lift_lawX {K : Fr} {T : Tb} {H : Hp} {a : Addr} {ns : List Int} {sp : DSp} (hT : Tabs T H) (hS : SqL K H a (ns.map V.int)) (h : ∀ z M, scrOf z M ns → sp [z] M (fun v _ => v = .bl true) noX) :
    liftSp K T 1 sp [.ref a] H (fun v _ => v = .bl true) fun _ _ _ => False := by
  have fin : QW K T H (fun v _ => v = .bl true) (fun v _ => v = .bl true) := fun v d H' M' _ r _ e => by subst e; exact r.bl_inv
  have frz : Rep K H (.ref a) (.scr ns) → liftSp K T 1 sp [.ref a] H (fun v _ => v = .bl true) fun _ _ _ => False := fun r =>
    ⟨rfl, [.scr ns], fun _ => none, _, _, .cons r .nil, ⟨fun _ _ e => (nomatch e), hT⟩, h _ _ (.inl rfl), fin, fun _ _ _ _ _ _ _ _ _ _ z => z.elim⟩
  rcases hS with (e | ⟨o, e⟩) | e
  · refine ⟨rfl, [.ref a], fun b => if b = a then some (.lst (ns.map D.int)) else none, _, _, .cons (.ref a) .nil, ⟨fun b o hb => ?_, hT⟩, h _ _ (.inr ⟨a, rfl, if_pos rfl⟩), fin, fun _ _ _ _ _ _ _ _ _ _ z => z.elim⟩
    split at hb
    · rename_i hba
      subst hba
      cases hb
      exact ⟨_, e, Reps.of_ints ns⟩
    · cases hb
  · exact frz (.scr (.inl ⟨o, e⟩))
  · exact frz (.scr (.inr fun H' => .inr e))
theorem law_endX {l : PySem.W.OpenLaw} {n k : Nat} {q : Program} {loose : List Str} {XP : (Str → Option Value) → Heap → Prop} {YP : World → Heap → Prop} {d : DefRec} {x : Str} {sp : DSp}
    (h1 : l.most = some n) (h2 : n ≤ sizeLine) (h3 : d.params.defaults = []) (h4 : Room k callerA)
    (h5 : ∀ (z : D) (M : Mp) (ns : List Int), ns.length ≤ n → scrOf z M ns → sp [z] M (fun v _ => v = .bl true) noX)
    (h6 : ∀ (w : World) (mg : Str → Option Value) (g : Addr) (h : Heap), YP w h → h.Ns mainGlobals mg → mg d.name = some (.ref g) →
      ∃ (K : Fr) (fd : FuncData) (c P : Addr) (ql : Str), K.In h ∧ h.get? P = some { cls := .none, data := .fields #[] } ∧ K.lookup P = none ∧ PySem.W.CodeHd h c P ∧ (∀ (s : Shared) (u : Value), BindsTo s fd ⟨[u], []⟩ [(x, u)]) ∧
        ∀ base : Heap, K.In base → base.Ns mainGlobals mg → TabB base mg c P → FnOk l.prog w K mg base (L2.CX l.prog w) k g fd [x] (liftSp K [(P, ql)] 1 sp)) :
    PySem.W.WalkO q loose XP YP l.row.toRowW d [] (fun f vs => PySem.call f vs) := by
  refine walk_ofTsE (CX := fun w => L2.CX l.prog w) (x := x) h1 h2 h3 h4 (fun w mg fa h Y G hmg => ?_) ?_
  · obtain ⟨K, fd, c, P, ql, KX, a1, a2, a3, hb, hF⟩ := h6 w mg fa h Y G hmg
    refine ⟨K, KX, fd, [(c, P)], liftSp K [(P, ql)] 1 sp, fun p hp => ?_, fun p hp => ?_, fun p hp => ?_, hb, fun H a ns hl _ hH hS => ?_, fun base KB GB hT => hF base KB GB (hT _ (List.mem_singleton.mpr rfl))⟩
    · rw [List.mem_singleton.mp hp]; exact a1
    · rw [List.mem_singleton.mp hp]; exact a2
    · rw [List.mem_singleton.mp hp]; exact a3
    · refine lift_lawX (fun p hp => ?_) hS fun z M hz => h5 z M ns hl hz
      rw [List.mem_singleton.mp hp]
      exact TabS.nil (hH _ (List.mem_singleton.mpr rfl))
  · rintro w H s e s' ⟨_, _, _, _, _, _, _, _, _, _, _, _, z⟩
    exact z
/-! ## the law's def, its code known -/
section
variable {P : Program} {w : World} {K : Fr} {mg : Str → Option Value} {base : Heap} {T : Tb} {x qual : Str} {params : Arguments} {body : List Stmt} {scope : Scope} {f : Addr} {fd : FuncData} {N ps : List Str} {k n : Nat} {sp : DSp} {t : TDS}
theorem def_okC (F : FunD K x qual params body scope [] [] f fd) (S : FnScope N ps scope) {c : Addr} (hcd : fd.code = .ref c)
    (hbody : ∀ (A : Around) (outer : List Env) (s : Shared) (H : Hp) (E : XK), Room k (A.deeper (envOfC qual scope s.heap.objs.size f (.ref c))) → DSs (cxOf (L2.CX P w) P w K mg base N qual scope f (.ref c) A outer s H E) T (WD E) body t)
    (hsem : ∀ ds M Q E, ds.length = ps.length → sp ds M Q E → t (dEndsG Q E) (dstart N.length ds) M) : FnOk P w K mg base (L2.CX P w) (k + 1) f fd ps (liftSp K T ps.length sp) := by
  obtain ⟨oc, od, dV, kV, doc, pm, an, cdv, ct, osl, rfl, lk, hci, _, _⟩ := F.ex
  obtain rfl : cdv = .ref c := hcd
  refine fn_of lk hci S (fun vs H Q E h => h.1) fun A outer s H vs Q E hr ⟨hl, ds, M, Qd, Ed, h1, h2, h3, h4, h5⟩ => ?_
  refine ⟨_, hbody A outer s H E hr, ?_⟩
  have hd : ds.length = ps.length := by rw [← h1.length]; exact hl
  exact ⟨dstart N.length ds, M, dEndsG Qd Ed, RepS.start h1 N, h2, hsem ds M Qd Ed hd h3,
    ⟨fun σ τ H' M' k _ m ⟨M1, h, q⟩ => h4 _ _ H' M1 k .non (m.sub h) q, fun v d H' M' k r m ⟨M1, h, q⟩ => h4 _ _ H' M1 k r (m.sub h) q, fun _ _ _ _ _ _ _ z => z.elim, fun _ _ _ _ _ _ _ z => z.elim, fun C f d cls dx σ τ H' M' k _ x m ⟨M1, h, q⟩ => h5 C f d cls dx H' M1 k x (m.sub h) q⟩⟩
end
end DL

set_option Elab.async false
set_option linter.all false
set_option maxRecDepth 100000
set_option maxHeartbeats 1000000
namespace DL
open PySem PySem.Spec PyProof.Rows L2 LamX
/-! ## which class takes which -/
theorem exAd_of {K : Fr} {x : Str} {C : Addr} (h : ClsAt K x C) : C = exAd K x := by
  unfold ClsAt at h
  unfold exAd He.ga
  rw [h]
def exmLB (K : Fr) (l : List Str) (x : Str) : Bool := decide (PySem.W.nsIn K mainGlobals x = some (some (.ref (exAd K x)))) && (decide (PySem.W.exmOne K (.ref (exAd K x)) (.ref (exAd K x)) = some true) && l.all fun C => decide (C = x) || (decide (PySem.W.nsIn K mainGlobals C = some none) || decide (PySem.W.exmOne K (.ref (exAd K C)) (.ref (exAd K x)) = some false)))
/-- the error classes of the package that have a field -/
abbrev eL : List Str := ["NoKey", "TreeError", "HeapError", "RowError", "HashError", "RangeError", "SortError", "DeedError", "TextError"]
theorem exmL_ok {K : Fr} {l : List Str} {x : Str} (h : exmLB K l x = true) : ∀ C b Ca, exmL l x C = some b → ClsAt K C Ca → PySem.W.exmOne K (.ref Ca) (.ref (exAd K x)) = some b := by
  obtain ⟨h0, h⟩ := band h
  obtain ⟨h1, h2⟩ := band h
  intro C b Ca e hc
  have hc0 := hc
  obtain rfl := exAd_of hc
  unfold ClsAt at hc0
  unfold exmL at e
  split at e
  · rename_i e2
    subst e2
    cases e
    exact of_decide_eq_true h1
  · rename_i e2
    split at e
    · rename_i e3
      cases e
      have := List.all_eq_true.mp h2 C e3
      simpa [e2, hc0] using this
    · cases e
theorem exmD_of {K : Fr} {h : Heap} {mg : Str → Option Value} (KX : K.In h) (G : h.Ns mainGlobals mg) {l : List Str} {x : Str} (B : exmLB K l x = true) : ExmD K mg x (exmL l x) :=
  ⟨exAd K x, PySem.W.mg_of KX G (of_decide_eq_true (band B).1), exmL_ok B⟩
theorem xfD_of {K : Fr} {file x fld qual : Str} {l : List Str} (B : errB file K x fld qual = true) : XfD K fld (exmL l x) := ⟨fun C Ca e hc => by
  obtain rfl := exAd_of hc
  unfold exmL at e
  split at e
  · rename_i e2
    subst e2
    unfold errB at B
    try dsimp only at B
    obtain ⟨b1, B⟩ := band B
    obtain ⟨b2, B⟩ := band B
    obtain ⟨b3, B⟩ := band B
    obtain ⟨b4, B⟩ := band B
    exact ⟨xfB_ok b3, of_decide_eq_true b4⟩
  · split at e <;> cases e⟩
theorem lamF_of {K : Fr} {h : Heap} {mg : Str → Option Value} (KX : K.In h) (G : h.Ns mainGlobals mg) {x a ex en fld file qual : Str} {pg : Arguments} {sg : Scope} {re : Expr} {p1 p2 p3 p4 p5 p6 p7 p8 p9 p10 : Pos} {g : Addr} {fd : FuncData} {Ng : List Str} {i : Nat} {rv : V} {r : D} {l : List Str}
    (F : FunD K x x pg (bLamF a ex en fld re p1 p2 p3 p4 p5 p6 p7 p8 p9 p10) sg [] [] g fd) (hm : mg x = some (.ref g)) (b : Binds K fd [a] []) (S : FnScope Ng [a] sg) (hN0 : Ng[0]? = some a) (hv : Vis sg a) (hi : Ng[i]? = some en) (hi0 : i ≠ 0) (hln : sg.names.lookup en = some .local) (hge : sg.names.lookup ex = some .globalImplicit)
    (d : (a == ("__debug__" : Str)) = false ∧ (a == ("__classdict__" : Str)) = false ∧ (ex == ("__debug__" : Str)) = false ∧ (en == ("__debug__" : Str)) = false ∧ (en == ("__classdict__" : Str)) = false)
    (h0 : ∀ f : Addr, (L2.start Ng [V.ref f])[0]? = some (some (V.ref f))) (hret : ∀ Y : Cx, PE Y re (fun _ H Q => Q rv H)) (hrr : ∀ H, Rep K H rv r) (B : errB file K ex fld qual = true) (BL : exmLB K l ex = true) : LamF K mg x fld (exmL l ex) r := by
  have kp := F.kp
  obtain ⟨oc, od, dV, kV, doc, pm, an, cdv, ct, osl, rfl, lk, hcd, _, _⟩ := F.ex
  exact ⟨⟨g, exAd K ex, oc, od, osl, pg, sg, dV, kV, doc, pm, cdv, ct, an, Ng, a, en, ex, i, rv, re, p1, p2, p3, p4, p5, p6, p7, p8, p9, p10, hm, kp, hcd, S, ⟨lk, b⟩, hN0, hv, hi, hi0, hln, hge, PySem.W.mg_of KX G (of_decide_eq_true (band BL).1), d, h0, hret, hrr, exmL_ok BL, xfD_of B⟩⟩
/-! ## a Hook that reaches the statics too -/
def asY (g : Addr → Option Obj) : Nat → List Addr
  | 0 => [mainGlobals, cStatics]
  | n + 1 => He.growD g (asY g n)
abbrev AlY : Type := (He.AlT × Bool) × List InD
def frY (n : Nat) (g : Addr → Option Obj) : Fr := He.frT g (asY g n)
def obsY (n : Nat) (fa : List He.Fa) (fn : List He.DefD) (tf : List He.Defn) (ei : List ErrW) (ex : Fr → Bool) (g : Addr → Option Obj) : AlY :=
  ((He.obsT fa fn [] (frY n g), ex (frY n g) && He.tabsB g tf (frY n g)), ei.map fun e => inW (frY n g) e.nm)
def valY (fn : List He.DefD) (ei : List ErrW) (w : World) : AlY := ((He.valT fn [] w, true), ei.map ErrW.val)
structure SaysY (fa : List He.Fa) (fn : List He.DefD) (tf : List He.Defn) (ei : List ErrW) (ex : Fr → Bool) (w : World) (h : Heap) (K : Fr) : Prop where
  t : He.SaysT fa fn [] w K
  more : ex K = true
  ini : ei.map (fun e => inW K e.nm) = ei.map ErrW.val
  hd : ∀ p ∈ tf, PySem.W.codeHdIn K (He.cT K p).1 (He.cT K p).2 = true
  out : ∀ p ∈ tf, K.lookup (He.cT K p).2 = none
  empty : ∀ p ∈ tf, h.get? (He.cT K p).2 = some { cls := .none, data := .fields #[] }
theorem saysY_of {n : Nat} {fa : List He.Fa} {fn : List He.DefD} {tf : List He.Defn} {ei : List ErrW} {ex : Fr → Bool} {w : World} {h : Heap} (e : obsY n fa fn tf ei ex h.get? = valY fn ei w) : SaysY fa fn tf ei ex w h (frY n h.get?) := by
  have e1 : He.obsT fa fn [] (frY n h.get?) = He.valT fn [] w := congrArg (fun z : AlY => z.1.1) e
  have e2 : (ex (frY n h.get?) && He.tabsB h.get? tf (frY n h.get?)) = true := congrArg (fun z : AlY => z.1.2) e
  have e3 : (ei.map fun e => inW (frY n h.get?) e.nm) = ei.map ErrW.val := congrArg (fun z : AlY => z.2) e
  obtain ⟨h1, h2⟩ := band e2
  have one : ∀ p ∈ tf, PySem.W.codeHdIn (frY n h.get?) (He.cT (frY n h.get?) p).1 (He.cT (frY n h.get?) p).2 = true ∧ ∃ o, h.get? (He.cT (frY n h.get?) p).2 = some o ∧ He.emptyTab o = true := fun p hp => by
    obtain ⟨h3, h4⟩ := band (List.all_eq_true.mp h2 p hp)
    refine ⟨h3, ?_⟩
    split at h4
    · rename_i o q
      exact ⟨o, q, h4⟩
    · cases h4
  refine ⟨e1, h1, e3, fun p hp => (one p hp).1, fun p hp => ?_, fun p hp => ?_⟩
  · obtain ⟨_, o, q, z⟩ := one p hp
    exact He.frT_none q z
  · obtain ⟨_, o, q, z⟩ := one p hp
    rw [q, He.emptyTab_eq z]
def hookY (n : Nat) (fa : List He.Fa) (fn : List He.DefD) (tf : List He.Defn) (ei : List ErrW) (ex : Fr → Bool) : PySem.W.Hook where
  α := AlY
  obs := fun s => obsY n fa fn tf ei ex s.heap.get?
  val := fun w => valY fn ei w
  says := fun w h => ∃ K : Fr, K.In h ∧ SaysY fa fn tf ei ex w h K
  of := fun _ _ e => ⟨_, He.frT_in, saysY_of e⟩
  keeps := fun _ _ _ ⟨K, hK, c⟩ k => ⟨K, PySem.W.Frag.In.keeps hK k, ⟨c.t, c.more, c.ini, c.hd, c.out, fun p hp => k _ _ (c.empty p hp)⟩⟩
theorem obsY_eq {n : Nat} {fa : List He.Fa} {fn : List He.DefD} {tf : List He.Defn} {ei : List ErrW} {ex : Fr → Bool} {g : Addr → Option Obj} {s : Shared} (h : ∀ a, g a = s.heap.get? a) : obsY n fa fn tf ei ex g = (hookY n fa fn tf ei ex).obs s := by
  obtain rfl : g = s.heap.get? := funext h
  rfl
theorem SaysY.ini_at {fa : List He.Fa} {fn : List He.DefD} {tf : List He.Defn} {ei : List ErrW} {ex : Fr → Bool} {w : World} {h : Heap} {K : Fr} (c : SaysY fa fn tf ei ex w h K) (i : Nat) {e : ErrW} (he : ei[i]? = some e := by rfl) : inW K e.nm = e.val := by
  have h1 : (ei.map fun e => inW K e.nm)[i]? = (ei.map ErrW.val)[i]? := by rw [c.ini]
  rw [List.getElem?_map, List.getElem?_map, he] at h1
  exact Option.some.inj h1
theorem code_of {K : Fr} {x qual : Str} {params : Arguments} {body : List Stmt} {scope : Scope} {fd : FuncData} {p : He.Defn} (F : FunD K x qual params body scope [] [] (He.fAd K p) fd) : fd.code = .ref (He.cT K p).1 := by
  obtain ⟨oc, od, dV, kV, doc, pm, an, cdv, ct, osl, rfl, lk, hci, _, _⟩ := F.ex
  obtain ⟨c, rfl⟩ := He.codeIn_ref hci
  have e := He.codeOf_eq lk (c := c) rfl
  show Value.ref c = Value.ref (He.codeOf K p)
  rw [e]
end DL

set_option Elab.async false
set_option linter.all false
set_option maxRecDepth 100000
set_option maxHeartbeats 2000000
namespace DL
open PySem PySem.Spec PyProof.Rows L2 LamX

/-! ## a clause of any test, with a name -/
/-- the heap has grown -/
abbrev Grown (h h' : Heap) : Prop := ∀ q o, h.get? q = some o → h'.get? q = some o
theorem flying_grown {bs h h' : Heap} {l : List Env} {xa : Addr} {Z : Obj → Prop} (k : Grown h h') (x : HandSPX.FlyingZ bs l xa Z h) : HandSPX.FlyingZ bs l xa Z h' := by
  obtain ⟨x1, x2, x3, oe, vs, T, oT, ts, y1, y2, y3, y4, y5, y6, y7, y8, y9⟩ := x
  exact ⟨fun b o hb => k _ _ (x1 b o hb), x2, x3.of_keeps fun b o e _ => ⟨o, k b o e, rfl⟩, oe, vs, T, oT, ts, k _ _ y1, y2, y3, y4, y5, y6, k _ _ y7, y8, y9⟩
/-- a test of an exception: its answer is told by tst -/
def TestOk (X : Cx) (t : Expr) (tst : Value → Bool → Prop) : Prop :=
  ∀ (xa : Addr) (pn : List (Addr × Obj)) (τ : L2.St) (H : Hp) (z : Shared) (cls : Value) (b : Bool) (E : Value → Shared → Prop) (Q : Bool → Shared → Prop), Inv (X.suite xa pn) [] τ H z →
    PySem.W.Looks (model X.prog X.w) z.heap (typeOf (.ref xa)) cls → tst cls b → (∀ h', Grown z.heap h' → Q b { z with heap := h' }) →
    wpAny (model X.prog X.w) (X.A.mark (some (.ref xa))) (eval t X.env) (fun c z' => wpAny (model X.prog X.w) (X.A.mark (some (.ref xa))) (excMatches (.ref xa) c) Q E z') E z
def wAsT (tst : Value → Bool → Prop) (i : Nat) (ts : Addr → Value → Option Addr → TS) (Wout : WX) (D : Ends) : WX := fun cls d τ H =>
  ∃ b, tst cls b ∧ (b = true → ∀ xa, H xa = none → ts xa cls d ⟨fun τ' H' => D.nx (τ'.set i none) H', D.rt, fun τ' H' => D.bk (τ'.set i none) H', fun τ' H' => D.ct (τ'.set i none) H'⟩ (τ.set i (some (.ref xa))) H) ∧ (b = false → Wout cls d τ H)
section
variable {X : Cx} {t : Expr} {n : Str} {tst : Value → Bool → Prop} {i : Nat} {body suite : List Stmt} {b₀ : Stmt} {ps ps' : Pos} {tb : WX → TS} {ts : Addr → Value → Option Addr → TS} {Wout : WX}
theorem ps_try_tests (e1 : X.stack = X.env :: X.outer) (e2 : X.env.frame = some X.env.locals) (nd : X.N.Nodup) (at_ : X.N[i]? = some n) (loc : X.env.kindOf n = some .local) (ht : TestOk X t tst) (tk : Takes X Wout)
    (bod : ∀ (W : WX) (pn : List (Addr × Obj)) (xe : Value → Shared → Prop), Takes (X.tr pn xe) W → PassesOwn (model X.prog X.w) X.A X.env xe → PSs (X.tr pn xe) body (tb W))
    (sui : ∀ (xa : Addr) (oe : Obj) (cls : Value) (d : Option Addr) (pn : List (Addr × Obj)), Zc cls d oe → (∃ vs, oe.data = .fields vs) → PSs (X.suite xa ((xa, oe) :: pn)) (b₀ :: suite) (ts xa cls d)) :
    PS X (.Try body [.ExceptHandler (some t) (some n) (b₀ :: suite) ps'] [] [] ps) (fun D τ H => tb (wAsT tst i ts Wout D) D τ H) := by
  constructor
  intro pins z τ H D I h
  have ok := I.ok
  have fr0 : X.A.frames = some (X.env :: X.outer) := ok.frames.trans (by rw [e1])
  apply wpAny_Try_except
  have bb := (bod (wAsT tst i ts Wout D) (X.pn ++ pins) (fun u z1 => wpAny (model X.prog X.w) X.A (noteFrame u X.env) (fun _ z2 => wpAny (model X.prog X.w) X.A (setFlight u none)
    (fun _ z3 => wpAny (model X.prog X.w) X.A (handleBy u X.env [.ExceptHandler (some t) (some n) (b₀ :: suite) ps']) (SP X pins D) X.xe z3) X.xe z2) X.xe z1) ?_ PassesOwn.looking).run [] z τ H D (I.toTry _) h
  · refine wpAny_mono bb (fun f z1 q => ?_) (fun _ _ q => q)
    cases f with
    | ret u => obtain ⟨v, τ', H', J', r, q⟩ := q; exact ⟨v, τ', H', J'.ofTry ok, r, q⟩
    | next => obtain ⟨τ', H', J', q⟩ := q; exact wpAny_execs_nil ⟨τ', H', J'.ofTry ok, q⟩
    | brk => obtain ⟨τ', H', J', q⟩ := q; exact ⟨τ', H', J'.ofTry ok, q⟩
    | cont => obtain ⟨τ', H', J', q⟩ := q; exact ⟨τ', H', J'.ofTry ok, q⟩
  intro u z' xx
  obtain ⟨xa, bs, zI, pins', τ', H', cls, d, rfl, J', nb, up, sky, na, os, ag, b, hb, yes, no⟩ := xx
  have J : Inv X pins τ' H' zI := J'.ofTry ok
  rw [e1] at sky
  show wpAny (model X.prog X.w) X.A (noteFrame (.ref xa) X.env) _ _ _
  refine Sky.land Zc.steady fr0 e2 sky ?_
  intro h3 fl up3
  obtain ⟨o3, v3, g3, z3, w3⟩ := fl.there
  have away : ∀ e ∈ X.env :: X.outer, e.frame ≠ some xa := fun e he q => by
    obtain ⟨_, o', g', q'⟩ := fl.2.2.1.mem (List.mem_filterMap.mpr ⟨e, he, q⟩)
    rw [g3] at g'; cases g'; exact q' _ w3
  have n1 : xa ≠ X.env.locals := fun q => away X.env List.mem_cons_self (by rw [e2, q])
  have n2 : xa ∉ X.fs := fun q => by
    obtain ⟨e, he, q⟩ := List.mem_filterMap.mp q
    exact away e (List.mem_cons_of_mem _ he) q
  have land : ∀ h4, bs.StaysIn h4 → z'.heap.UpToSlots h4 → Inv X pins τ' H' { z' with heap := h4 } := fun h4 k1 k2 => J.landed nb k1 (up.trans k2) os ag
  have S3 := (land h3 fl.1 up3).suite g3 w3 na n1 n2
  refine wpAny_handleBy_cons (codeAny_handlers_test ?_) (by intro q; cases q)
  have lk : PySem.W.Looks (model X.prog X.w) h3 (typeOf (.ref xa)) cls := fun A Q E s k q => wpAny_typeOf_ref (k _ _ g3) (by rw [z3.1]; exact q)
  refine ht xa _ τ' H' { z' with heap := h3 } cls b _ _ S3 lk hb ?_
  intro h5 k5
  have fl5 := flying_grown k5 fl
  have up5 : z'.heap.UpToSlots h5 := up3.trans (.of_keeps k5)
  cases b with
  | false =>
    show wpAny _ X.A (handleBy (.ref xa) X.env []) _ _ _
    apply wpAny_handleBy_nil
    obtain ⟨_, _, _, oe, vs, T, oT, us, he, hz, hd, h1, _⟩ := id fl5
    unfold PySem.passOn
    apply wpAny_bind
    apply wpAny_field he hd h1
    rw [if_neg (by simp)]
    have last : wpAny (model X.prog X.w) X.A (setFlight (.ref xa) X.env.frame) (fun _ s4 => wpAny (model X.prog X.w) X.A (throw (.ref xa) : Sem Flow) (SP X pins D) X.xe s4) X.xe { z' with heap := h5 } := by
      rw [e2]
      apply HandSPX.setFlight_upZ fl5
      intro h4 q4 up4
      exact wpAny_throw (tk _ _ ⟨xa, bs, zI, pins, τ', H', cls, d, rfl, J, nb, (up.trans up5).trans up4, .inr (.inr (by rw [e1]; exact q4)), na, os, ag, no rfl⟩)
    first | exact wpAny_bind (wpAny_pure (wpAny_bind last)) | exact wpAny_bind last
  | true =>
    apply codeAny_handlers_suite_as
    apply HandSPX.lands_againZ fl5
    intro h4 fl4 up4
    obtain ⟨o4, v4, g4, z4, w4⟩ := fl4.there
    have S4 := (land h4 fl4.1 (up5.trans up4)).suite g4 w4 na n1 n2
    refine store_ok (X := X.suite xa ((xa, o4) :: (X.pn ++ pins))) (v := .ref xa) S4 nd at_ (.inl loc) rfl ?_ (.inr loc)
    intro s5 S5
    have run := (sui xa o4 cls d (X.pn ++ pins) z4 ⟨_, w4⟩).run [] s5 _ H' _ S5 (yes rfl xa na)
    refine wpAny_mono run (fun f s6 q => ?_) (fun _ _ q => q.elim)
    have off : ∀ {τ6 : L2.St} {H6 : Hp} {Q : Shared → Prop}, Inv (X.suite xa ((xa, o4) :: (X.pn ++ pins))) [] τ6 H6 s6 → (∀ s7, Inv X pins (τ6.set i none) H6 s7 → Q s7) →
        wpAny (model X.prog X.w) X.A (do bindName X.env n .none; unbindBehindTheSuite X.env n ps') (fun _ s7 => Q s7) X.xe s6 := fun S6 q => gone_ok (S6.unsuite ok) nd at_ loc q
    cases f with
    | ret u => obtain ⟨v6, τ6, H6, S6, r6, q⟩ := q; exact off S6 fun s7 J7 => ⟨v6, _, _, J7, r6, q⟩
    | next => obtain ⟨τ6, H6, S6, q⟩ := q; exact off S6 fun s7 J7 => ⟨_, _, J7, q⟩
    | brk => obtain ⟨τ6, H6, S6, q⟩ := q; exact off S6 fun s7 J7 => ⟨_, _, J7, q⟩
    | cont => obtain ⟨τ6, H6, S6, q⟩ := q; exact off S6 fun s7 J7 => ⟨_, _, J7, q⟩
/-! ### the tests -/
theorem test_one {x : Str} {c : Addr} {p : Pos} (hg : Gl X x) (hd : (x == ("__debug__" : Str)) = false) (hm : X.mg x = some (.ref c)) : TestOk X (.Name x p) (fun cls b => PySem.W.exmOne X.K cls (.ref c) = some b) := fun xa pn τ H z cls b E Q I lk hb q =>
  ld_glob (X := X.suite xa pn) I hg hm ((PySem.W.exm_one I.kIn lk hb).here (q z.heap fun _ _ e => e)) hd
theorem test_two {x y : Str} {c c' : Addr} {p p' tp : Pos} {kk : Nat} (hg : Gl X x) (hg' : Gl X y) (hd : (x == ("__debug__" : Str)) = false) (hd' : (y == ("__debug__" : Str)) = false) (hm : X.mg x = some (.ref c)) (hm' : X.mg y = some (.ref c')) :
    TestOk X (.Tuple [.Name x p, .Name y p'] kk tp) (fun cls b => PySem.W.exmAny X.K cls [.ref c, .ref c'] = some b) := fun xa pn τ H z cls b E Q I lk hb q => by
  refine wpAny_Tuple (wpAny_items_cons (ld_glob (X := X.suite xa pn) I hg hm ?_ hd))
  refine wpAny_items_cons (ld_glob (X := X.suite xa pn) I hg' hm' ?_ hd')
  refine wpAny_items_nil ⟨by size_fits, ?_⟩
  have gr : Grown z.heap (z.heap.push { cls := .type "tuple", data := .seq [.ref c, .ref c'].toArray }) := fun _ _ e => Heap.get?_push_of_some _ e
  exact (PySem.W.exm_tup2 (I.kIn.keeps gr) (lk.keeps gr) (Heap.get?_push_size z.heap rfl) hb).here (q _ gr)
end
end DL

set_option Elab.async false
set_option linter.all false
set_option maxRecDepth 100000
set_option maxHeartbeats 2000000
namespace DL
open PySem PySem.Spec PyProof.Rows L2 LamX

/-! ## what a lambda is handed to, of any test and any look at the field -/
/-- what is done with the field: over values -/
abbrev PostV := V → VK → Hp → Prop
def PostE (en fld : Str) (pv : PostV) (re1 : Expr) : Prop := ∃ (p5 p6 : Pos), ∀ (Y : Cx) (te : TE), PE Y (.Attribute (.Name en p5) fld p6) te → PE Y re1 (fun σ H Q => te σ H fun v H' => pv v Q H')
def wishT (K : Fr) (tst : Value → Bool → Prop) (fld : Str) (pv : PostV) (Q : VK) : XK := fun cls d H' => tst cls true ∧ ∃ Ca dd fs v, cls = .ref Ca ∧ XfC K Ca ∧ PySem.W.findIn K (.ref Ca) fld = some none ∧ d = some dd ∧ H' dd = some (.xd fs) ∧ fs.lookup fld = some v ∧ pv v Q H'
def TTt (K : Fr) (tst : Value → Bool → Prop) (fld : Str) (pv : PostV) (rv : V) : (XK → Hp → VK → Prop) → Hp → VK → Prop := fun tl H Q => tl (wishT K tst fld pv Q) H (fun _ H' => Q rv H')
def tsT (K : Fr) (fld : Str) (i : Nat) (pv : PostV) (a : Addr) (cls : Value) (d : Option Addr) : TS := fun D σ H => ∃ Ca, (cls = .ref Ca ∧ XfC K Ca ∧ PySem.W.findIn K (.ref Ca) fld = some none) ∧ (i < σ.length → tXf a cls d Ca fld (tVar i) σ H fun v H' => pv v D.rt H')
abbrev bLamT (a en : Str) (tt re1 re : Expr) (p1 p2 p3 p7 p8 p9 p10 : Pos) : List Stmt := [.Try [.Expr (.Call (.Name a p1) [] [] p2) p3] [.ExceptHandler (some tt) (some en) [.Return (some re1) p7] p8] [] [] p9, .Return (some re) p10]
section
variable {X : Cx} {x a en q fld : Str} {Ng : List Str} {sg : Scope} {g : Addr} {cdg : Value} {i : Nat} {rv : V} {tt re1 re : Expr} {p1 p2 p3 p7 p8 p9 p10 : Pos} {tst : Value → Bool → Prop} {pv : PostV}
theorem tests_give (hN : Ng.Nodup) (hi : Ng[i]? = some en) (hln : sg.names.lookup en = some .local) (hdn : (en == ("__debug__" : Str)) = false) (hdc : (en == ("__classdict__" : Str)) = false)
    (htt : ∀ Y : Cx, Y.env.scope = sg → Y.mg = X.mg → Y.K = X.K → TestOk Y tt tst) (hpe : PostE en fld pv re1)
    (h0 : ∀ f : Addr, (L2.start Ng [V.ref f])[0]? = some (some (V.ref f))) (hret : ∀ Y : Cx, PE Y re (fun _ H Q => Q rv H)) :
    GivesTo X Ng x sg g cdg (bLamT a en tt re1 re p1 p2 p3 p7 p8 p9 p10) a q (TTt X.K tst fld pv rv) := by
  intro f c' s H Q tl act hc h
  generalize hY : (cxOf C8.CX0 X.prog X.w X.K X.mg X.base Ng x sg g cdg X.A X.stack s H C8.E0) = Y at act ⊢
  have y1 : Y.env.scope = sg := by subst hY; rfl
  have y2 : Y.mg = X.mg := by subst hY; rfl
  have y3 : Y.K = X.K := by subst hY; rfl
  have y4 : Y.N = Ng := by subst hY; rfl
  refine ⟨_, pss_cons (ps_try_tests (X := Y.nox) (i := i) (tst := tst)
      (tb := fun W D σ H => ∃ Ech : XK, (∀ cls d σ' H', Ech cls d H' → W cls d σ' H') ∧ σ[0]? = some (some (.ref f)) ∧ H c' = some (CodeO c' q) ∧ tl Ech H (fun _ H' => D.nx σ H'))
      (ts := tsT X.K fld i pv) (by rw [← hY]; rfl) (by rw [← hY]; rfl) (by rw [← hY]; exact hN) (by rw [← hY]; exact hi) (by rw [← hY]; exact hln) (htt Y.nox y1 y2 y3) L2.takes0 ?_ ?_) (pss_one (ps_ret (hret _))), ?_⟩
  · intro W pn xe tk _
    constructor
    intro pins s' σ H' D I h'
    obtain ⟨Ech, hW, h1, h2, h3⟩ := h'
    exact (pss_one (ps_expr (pos := p3) (act W pn xe Ech p1 p2 tk hW))).run pins s' σ H' D I ⟨h1, h2, h3⟩
  · intro xa oe cls d pn hz hd
    constructor
    intro pins s' σ H' D I h'
    obtain ⟨Ca, ⟨_, hx, hf⟩, h'⟩ := h'
    obtain ⟨p5, p6, hp⟩ := hpe
    have ev : PE (Y.nox.suite xa ((xa, oe) :: pn)) (.Name en p5) (tVar i) := pe_var (i := i) (by rw [← hY]; exact hi) (.inl (by rw [← hY]; exact hln)) hdn hdc
    have ef := pe_xf (X := Y.nox) (n := fld) (pos := p6) (pn := pn) (by rw [show Y.nox.K = X.K from y3]; exact hx) (by rw [show Y.nox.K = X.K from y3]; exact hf) hz hd ev
    refine (pss_one (ps_ret (hp _ _ ef))).run pins s' σ H' D I (h' ?_)
    have hl : σ.length = Ng.length := by rw [← y4]; exact I.len
    rw [hl]
    exact (List.getElem?_eq_some_iff.mp hi).1
  · refine ⟨wishT X.K tst fld pv Q, fun cls d σ' H' ⟨e1, Ca, dd, fs, v, e2, e3, e4, e5, e6, e7, e8⟩ => ?_, h0 f, hc, h⟩
    refine ⟨true, e1, fun _ xa na => ?_, (fun z => by cases z)⟩
    refine ⟨Ca, ⟨e2, e3, e4⟩, fun hl => ⟨.ref xa, ?_, rfl, e2, dd, fs, v, e5, e6, e7, e8⟩⟩
    simp only [List.length_set] at hl
    exact List.getElem?_set_self hl
end
/-! ### over data -/
abbrev PostD := D → DQ → Mp → Prop
def PostL (K : Fr) (pv : PostV) (pd : PostD) : Prop := ∀ (T : Tb) (v : V) (d : D) (H : Hp) (M : Mp) (Q : VK) (Qd : DQ), Rep K H v d → RepH K T H M → pd d Qd M → (∀ w e, Rep K H w e → Qd e M → Q w H) → pv v Q H
/-- x hands on what it makes of a lambda's exception's field -/
structure LamG (K : Fr) (mg : Str → Option Value) (x fld : Str) (mt : Str → Option Bool) (r : D) (pd : PostD) : Prop where
  ex : ∃ (g : Addr) (oc : Value) (od : Option Addr) (osl : Array (Option Value)) (pg : Arguments) (sg : Scope) (dV kV doc pm cdv ct : Value) (an : Option Addr) (Ng : List Str) (a en : Str) (i : Nat) (rv : V) (tt re1 re : Expr) (p1 p2 p3 p7 p8 p9 p10 : Pos) (tst : Value → Bool → Prop) (pv : PostV),
    (mg x = some (.ref g) ∧ PySem.W.keepIn K (.ref g) = true ∧ PySem.W.codeIn K cdv x = true ∧ FnScope Ng [a] sg) ∧
    (K.lookup g = some ⟨oc, od, .func (PySem.W.fnOf x x pg (bLamT a en tt re1 re p1 p2 p3 p7 p8 p9 p10) sg dV kV doc pm an cdv ct), osl⟩ ∧ L2.Binds K (PySem.W.fnOf x x pg (bLamT a en tt re1 re p1 p2 p3 p7 p8 p9 p10) sg dV kV doc pm an cdv ct) [a] []) ∧
    (Ng[0]? = some a ∧ Vis sg a ∧ Ng[i]? = some en ∧ sg.names.lookup en = some .local) ∧
    ((a == ("__debug__" : Str)) = false ∧ (a == ("__classdict__" : Str)) = false ∧ (en == ("__debug__" : Str)) = false ∧ (en == ("__classdict__" : Str)) = false) ∧
    (∀ Y : Cx, Y.env.scope = sg → Y.mg = mg → Y.K = K → TestOk Y tt tst) ∧ PostE en fld pv re1 ∧ PostL K pv pd ∧
    (∀ f : Addr, (L2.start Ng [V.ref f])[0]? = some (some (V.ref f))) ∧ (∀ Y : Cx, PE Y re (fun _ H Q => Q rv H)) ∧ (∀ H, Rep K H rv r) ∧
    (∀ C Ca, mt C = some true → ClsAt K C Ca → tst (.ref Ca) true) ∧ XfD K fld mt
@[simp] def dLamG (mt : Str → Option Bool) (fld : Str) (r : D) (pd : PostD) (te : TDE) : TDE := fun τ M Q E => te τ M (fun _ M1 => gcQ Q r M1) (fun C f d M1 => mt C = some true ∧ f = fld ∧ ∃ M2, MSub M2 M1 ∧ pd d Q M2)
theorem de_lamG {X : Cx} {T : Tb} {W : WX} {x fld : Str} {mt : Str → Option Bool} {r : D} {pd : PostD} {c P : Addr} {k j : Nat} {params : Arguments} {body : Expr} {scope : Scope} {te : TDE} {p lpos pos : Pos} (G : LamG X.K X.mg x fld mt r pd) (hg : Gl X x)
    (TB : TabB X.base X.mg c P) (hcode : X.env.code = .ref c) (hmT : (P, X.env.qual ++ "<lambda>") ∈ T) (hu : ∀ p ∈ T, p.1 = P → p.2 = X.env.qual ++ "<lambda>") (hr : Room j X.A) (hk : k + 2 ≤ j) (L : lamSB X.env.scope scope = true) (hdef : defaultsOf params X.env = ([], []))
    (hbind : ∀ (q : Str) (cl : List (Str × Addr)) (pm cv ctv : Value), bindArgs (PySem.W.kla_fn "<lambda>" q params body scope cl pm cv ctv) ⟨[], []⟩ = pure [])
    (hbody : ∀ (A : Around) (outer : List Env) (s : Shared) (H : Hp) (E : XK) (f c' : Addr), Room k (A.deeper (lamEnv X scope s.heap.objs.size f c')) → DE (lamCx X A outer s H E scope f c') T (WD E) body te)
    (hdb : (x == ("__debug__" : Str)) = false := by decide) : DE X T W (.Call (.Name x p) [.Lambda params body scope lpos] [] pos) (dLamG mt fld r pd te) := by
  obtain ⟨g, oc, od, osl, pg, sg, dV, kV, doc, pm, cdv, ct, an, Ng, a, en, i, rv, tt, re1, re, p1, p2, p3, p7, p8, p9, p10, tst, pv, ⟨hm, hkp, hcg, Sg⟩, ⟨lk, hb⟩, ⟨hN0, hva, hNi, hln⟩, ⟨d1, d2, d4, d5⟩, htt, hpe, hpl, h0, hret, hrr, hex, hxf⟩ := G.ex
  have hG := tests_give (X := X) (x := x) (a := a) (q := X.env.qual ++ "<lambda>") (fld := fld) (g := g) (cdg := cdv) (p1 := p1) (p2 := p2) (p3 := p3) (p7 := p7) (p8 := p8) (p9 := p9) (p10 := p10) Sg.nd hNi hln d4 d5 htt hpe h0 hret
  refine PE_imp (pe_lamcall (t := fun E => liftE X.K T (WD E) te) hg hm hkp lk hcg hb Sg hN0 hva hG TB hcode hmT hu (hr.mono hk) (lamS_by L) hdef hbind hbody hdb d1 d2) fun σ H Q ⟨τ, M, Qd, E, hs, hm, ht, hq, hx⟩ => ?_
  refine ⟨hm.tab, fun H1 eN hT => ?_⟩
  have k1 : Keep H H1 := Keep.extN eN
  refine ⟨τ, M, _, _, hs.keep k1, hm.extN eN hT, ht, fun v d H2 M2 k2 rv' m2 h => ?_, fun C f d cls dx H2 M2 k2 hx2 m2 h => ?_⟩
  · obtain ⟨M3, s3, q3⟩ := h
    exact hq rv r H2 M3 (k1.trans k2) (hrr H2) (m2.sub s3) q3
  · obtain ⟨e1, e2, M3, s3, q3⟩ := h
    obtain ⟨⟨Ca, hca, e3⟩, ad, v, e4, e5, e6⟩ := hx2
    obtain ⟨x1, x2⟩ := hxf.ok C Ca e1 hca
    subst e3 e2
    exact ⟨hex C Ca e1 hca, Ca, ad, _, v, rfl, x1, x2, e4, e5, by simp [List.lookup], hpl T v d H2 M3 _ Qd e6 (m2.sub s3) q3 fun w e rw' qe => hq w e H2 M3 (k1.trans k2) rw' (m2.sub s3) qe⟩
/-! ### the looks -/
abbrev pdId : PostD := fun d Q M => Q d M
abbrev pvId : PostV := fun v Q H => Q v H
theorem postE_id {en fld : Str} {p5 p6 : Pos} : PostE en fld pvId (.Attribute (.Name en p5) fld p6) := ⟨p5, p6, fun Y te h => h⟩
theorem postL_id {K : Fr} : PostL K pvId pdId := fun T v d H M Q Qd r m h q => q v d r h
/-- the field is this word -/
abbrev pdIs (c : Str) : PostD := fun d Q M => ∃ u, d = .str u ∧ Q (.bl (decide (u = c))) M
abbrev pvIs (c : Str) : PostV := fun v Q H => rEq v (.str c) H Q
theorem postE_is {en fld c : Str} {p5 p6 cp pos : Pos} {j : Nat} (hm : behindInMarks .Eq (.Constant (.str c) j cp) = false) : PostE en fld (pvIs c) (.Compare (.Attribute (.Name en p5) fld p6) [.Eq] [.Constant (.str c) j cp] pos) := by
  refine ⟨p5, p6, fun Y te h => ⟨fun pins s σ H Q I hq => (pe_cmpR op_eq h (pe_str (x := c) (j := j) (pos := cp)) hm).run pins s σ H Q I hq⟩⟩
theorem postL_is {K : Fr} {c : Str} : PostL K (pvIs c) (pdIs c) := fun T v d H M Q Qd r m h q => by
  obtain ⟨u, rfl, hq⟩ := h
  rw [r.str_inv]
  refine ⟨rfl, ?_⟩
  have e : decide (V.str u = V.str c) = decide (u = c) := by simp
  rw [e]
  exact q _ _ (.bl _) hq
end DL

set_option Elab.async false
set_option linter.all false
set_option maxRecDepth 100000
set_option maxHeartbeats 2000000
namespace DL
open PySem PySem.Spec PyProof.Rows L2 LamX
def exm2 (x y : Str) : Str → Option Bool := fun C => if C = x ∨ C = y then some true else none
theorem exm2_l {x y : Str} : exm2 x y x = some true := if_pos (.inl rfl)
theorem exm2_r {x y : Str} : exm2 x y y = some true := if_pos (.inr rfl)
theorem exmL_self {l : List Str} {x : Str} : exmL l x x = some true := if_pos rfl
theorem exmL_other {l : List Str} {x y : Str} (h : x ≠ y) (m : x ∈ l) : exmL l y x = some false := by unfold exmL; rw [if_neg h, if_pos m]
theorem any_two {K : Fr} {cls c c' : Value} {b b' : Bool} (h : PySem.W.exmOne K cls c = some b) (h' : PySem.W.exmOne K cls c' = some b') : PySem.W.exmAny K cls [c, c'] = some (b || (b' || false)) := by
  simp only [PySem.W.exmAny, h, h']
section
variable {K : Fr} {h : Heap} {mg : Str → Option Value} {x a ex ey en fld file qx qy c : Str} {pg : Arguments} {sg : Scope} {re : Expr} {p1 p2 p3 p5 p6 p7 p8 p9 p10 px py tp cp cpos : Pos} {g : Addr} {fd : FuncData} {Ng : List Str} {i j kk : Nat} {rv : V} {r : D} {l : List Str}
theorem lamG_two (KX : K.In h) (G : h.Ns mainGlobals mg) (F : FunD K x x pg (bLamT a en (.Tuple [.Name ex px, .Name ey py] kk tp) (.Attribute (.Name en p5) fld p6) re p1 p2 p3 p7 p8 p9 p10) sg [] [] g fd) (hm : mg x = some (.ref g)) (b : Binds K fd [a] []) (S : FnScope Ng [a] sg)
    (hN0 : Ng[0]? = some a) (hv : Vis sg a) (hi : Ng[i]? = some en) (hln : sg.names.lookup en = some .local) (hgx : sg.names.lookup ex = some .globalImplicit) (hgy : sg.names.lookup ey = some .globalImplicit)
    (d : (a == ("__debug__" : Str)) = false ∧ (a == ("__classdict__" : Str)) = false ∧ (en == ("__debug__" : Str)) = false ∧ (en == ("__classdict__" : Str)) = false) (dx : (ex == ("__debug__" : Str)) = false) (dy : (ey == ("__debug__" : Str)) = false)
    (h0 : ∀ f : Addr, (L2.start Ng [V.ref f])[0]? = some (some (V.ref f))) (hret : ∀ Y : Cx, PE Y re (fun _ H Q => Q rv H)) (hrr : ∀ H, Rep K H rv r) (mx : ex ∈ l) (my : ey ∈ l) (ne : ex ≠ ey)
    (Bx : errB file K ex fld qx = true) (BLx : exmLB K l ex = true) (By : errB file K ey fld qy = true) (BLy : exmLB K l ey = true) : LamG K mg x fld (exm2 ex ey) r pdId := by
  have kp := F.kp
  obtain ⟨oc, od, dV, kV, doc, pm, an, cdv, ct, osl, rfl, lk, hcd, _, _⟩ := F.ex
  have gx := PySem.W.mg_of KX G (of_decide_eq_true (band BLx).1)
  have gy := PySem.W.mg_of KX G (of_decide_eq_true (band BLy).1)
  refine ⟨⟨g, oc, od, osl, pg, sg, dV, kV, doc, pm, cdv, ct, an, Ng, a, en, i, rv, _, _, re, p1, p2, p3, p7, p8, p9, p10, (fun cls b => PySem.W.exmAny K cls [.ref (exAd K ex), .ref (exAd K ey)] = some b), pvId, ⟨hm, kp, hcd, S⟩, ⟨lk, b⟩, ⟨hN0, hv, hi, hln⟩, d, ?_, postE_id, postL_id, h0, hret, hrr, ?_, ?_⟩⟩
  · intro Y e1 e2 e3
    rw [← e3] at gx gy ⊢
    rw [← e2] at gx gy
    exact test_two (show Y.env.scope.names.lookup ex = _ by rw [e1]; exact hgx) (show Y.env.scope.names.lookup ey = _ by rw [e1]; exact hgy) dx dy gx gy
  · intro C Ca e hc
    unfold exm2 at e
    split at e
    · rename_i q
      rcases q with rfl | rfl
      · exact any_two (exmL_ok BLx C true Ca exmL_self hc) (exmL_ok BLy C false Ca (exmL_other ne mx) hc)
      · exact any_two (exmL_ok BLx C false Ca (exmL_other ne.symm my) hc) (exmL_ok BLy C true Ca exmL_self hc)
    · cases e
  · refine ⟨fun C Ca e hc => ?_⟩
    unfold exm2 at e
    split at e
    · rename_i q
      rcases q with rfl | rfl
      · exact (xfD_of (l := l) Bx).ok C Ca exmL_self hc
      · exact (xfD_of (l := l) By).ok C Ca exmL_self hc
    · cases e
theorem lamG_is (KX : K.In h) (G : h.Ns mainGlobals mg) (F : FunD K x x pg (bLamT a en (.Name ex px) (.Compare (.Attribute (.Name en p5) fld p6) [.Eq] [.Constant (.str c) j cp] cpos) re p1 p2 p3 p7 p8 p9 p10) sg [] [] g fd) (hm : mg x = some (.ref g)) (b : Binds K fd [a] []) (S : FnScope Ng [a] sg)
    (hN0 : Ng[0]? = some a) (hv : Vis sg a) (hi : Ng[i]? = some en) (hln : sg.names.lookup en = some .local) (hgx : sg.names.lookup ex = some .globalImplicit)
    (d : (a == ("__debug__" : Str)) = false ∧ (a == ("__classdict__" : Str)) = false ∧ (en == ("__debug__" : Str)) = false ∧ (en == ("__classdict__" : Str)) = false) (dx : (ex == ("__debug__" : Str)) = false) (hb : behindInMarks .Eq (.Constant (.str c) j cp) = false)
    (h0 : ∀ f : Addr, (L2.start Ng [V.ref f])[0]? = some (some (V.ref f))) (hret : ∀ Y : Cx, PE Y re (fun _ H Q => Q rv H)) (hrr : ∀ H, Rep K H rv r)
    (Bx : errB file K ex fld qx = true) (BLx : exmLB K l ex = true) : LamG K mg x fld (exmL l ex) r (pdIs c) := by
  have kp := F.kp
  obtain ⟨oc, od, dV, kV, doc, pm, an, cdv, ct, osl, rfl, lk, hcd, _, _⟩ := F.ex
  have gx := PySem.W.mg_of KX G (of_decide_eq_true (band BLx).1)
  refine ⟨⟨g, oc, od, osl, pg, sg, dV, kV, doc, pm, cdv, ct, an, Ng, a, en, i, rv, _, _, re, p1, p2, p3, p7, p8, p9, p10, (fun cls b => PySem.W.exmOne K cls (.ref (exAd K ex)) = some b), pvIs c, ⟨hm, kp, hcd, S⟩, ⟨lk, b⟩, ⟨hN0, hv, hi, hln⟩, d, ?_, postE_is hb, postL_is, h0, hret, hrr, fun C Ca e hc => exmL_ok BLx C true Ca e hc, xfD_of Bx⟩⟩
  intro Y e1 e2 e3
  rw [← e3] at gx ⊢
  rw [← e2] at gx
  exact test_one (show Y.env.scope.names.lookup ex = _ by rw [e1]; exact hgx) dx gx
end
theorem de_lam2 {X : Cx} {T : Tb} {W : WX} {x fld : Str} {mt : Str → Option Bool} {r : D} {c P : Addr} {k j : Nat} {params : Arguments} {body : Expr} {scope : Scope} {te : TDE} {p lpos pos : Pos} (G : LamG X.K X.mg x fld mt r pdId) (hg : Gl X x)
    (TB : TabB X.base X.mg c P) (hcode : X.env.code = .ref c) (hmT : (P, X.env.qual ++ "<lambda>") ∈ T) (hu : ∀ p ∈ T, p.1 = P → p.2 = X.env.qual ++ "<lambda>") (hr : Room j X.A) (hk : k + 2 ≤ j) (L : lamSB X.env.scope scope = true) (hdef : defaultsOf params X.env = ([], []))
    (hbind : ∀ (q : Str) (cl : List (Str × Addr)) (pm cv ctv : Value), bindArgs (PySem.W.kla_fn "<lambda>" q params body scope cl pm cv ctv) ⟨[], []⟩ = pure [])
    (hbody : ∀ (A : Around) (outer : List Env) (s : Shared) (H : Hp) (E : XK) (f c' : Addr), Room k (A.deeper (lamEnv X scope s.heap.objs.size f c')) → DE (lamCx X A outer s H E scope f c') T (WD E) body te)
    (hdb : (x == ("__debug__" : Str)) = false := by decide) : DE X T W (.Call (.Name x p) [.Lambda params body scope lpos] [] pos) (dLam mt fld r te) :=
  de_lamG G hg TB hcode hmT hu hr hk L hdef hbind hbody hdb
end DL

set_option linter.all false
namespace DL.bintrees
open PySem DL
def t_walk : TDS := dSeq (dAsg (dLst (dNil)) (dgName 1)) (dSeq (dAsg (dLst (dNil)) (dgName 2)) (dSeq (dWhile (dOr (dTru (dVar 2)) (dB (dBin (isD true) (dVar 0) (dC .non)))) (dSeq (dWhile (dB (dBin (isD true) (dVar 0) (dC .non))) (dSeq (dDrop (dML (chL fAppend) (dVar 2) (dCons (dVar 0) dNil))) (dAsg (dBin ixA (dVar 0) (dC (.int 0))) (dgName 0)))) (dSeq (dAsg (dML0 (chL fPop) (dVar 2)) (dgName 0)) (dSeq (dDrop (dML (chL fAppend) (dVar 1) (dCons (dVar 0) dNil))) (dAsg (dBin ixA (dVar 0) (dC (.int 2))) (dgName 0)))))) (dRet (dVar 1))))
def t_keys_in (S_walk : DSp) : TDS := dRet (dCB tupleD (dCons (dLc (iSeqD (dCall (arS 1 S_walk) (dCons (dVar 0) (dNil)))) (dgName 1) (dYes) (dBin ixA (dVar 1) (dC (.int 1))) [1]) (dNil)))
def t_is_search (S_keys_in : DSp) : TDS := dSeq (dAsg (dCall (arS 1 S_keys_in) (dCons (dVar 0) (dNil))) (dgName 1)) (dRet (dCB allD (dCons (dLc (iArgs zipD (dCons (dVar 1) (dCons (dSlice (dVar 1) (dPart (dC (.int 1))) (dNoPart)) (dNil)))) (dgTup 2 (dgCons (dgName 2) (dgCons (dgName 3) (dgNil)))) (dYes) (dBin ltD (dVar 2) (dVar 3)) [2, 3]) (dNil))))
def t_levels : TDS := dSeq (dAsg (dLst (dNil)) (dgName 1)) (dSeq (dAsg (dLst (dCons (dTup (dCons (dVar 0) (dCons (dC (.int 0)) (dNil)))) (dNil))) (dgName 2)) (dSeq (dWhile (dTru (dVar 2)) (dSeq (dAsg (dML0 (chL fPop) (dVar 2)) (dgTup 2 (dgCons (dgName 3) (dgCons (dgName 4) (dgNil))))) (dIfS (dB (dBin (isD true) (dVar 3) (dC .non))) (dSeq (dDrop (dML (chL fAppend) (dVar 1) (dCons (dTup (dCons (dBin ixA (dVar 3) (dC (.int 1))) (dCons (dVar 4) (dNil)))) dNil))) (dSeq (dDrop (dML (chL fAppend) (dVar 2) (dCons (dTup (dCons (dBin ixA (dVar 3) (dC (.int 0))) (dCons (dBin addD (dVar 4) (dC (.int 1))) (dNil)))) dNil))) (dDrop (dML (chL fAppend) (dVar 2) (dCons (dTup (dCons (dBin ixA (dVar 3) (dC (.int 2))) (dCons (dBin addD (dVar 4) (dC (.int 1))) (dNil)))) dNil))))) (dNext)))) (dRet (dCB sortD (dCons (dVar 1) (dNil))))))
def t_height (S_levels : DSp) : TDS := dRet (dMx true (dCons (dLc (iSeqD (dCall (arS 1 S_levels) (dCons (dVar 0) (dNil)))) (dgTup 2 (dgCons (dgName 1) (dgCons (dgName 2) (dgNil)))) (dYes) (dBin addD (dVar 2) (dC (.int 1))) [1, 2]) (dNil)) (dCons (dC (.int 0)) dNil))
def t_potential (S_sizes_in : DSp) : TDS := dSeq (dAsg (dC (.int 1)) (dgName 1)) (dSeq (dFor (iSeqD (dCall (arS 1 S_sizes_in) (dCons (dVar 0) (dNil)))) (dgName 2) (dAug 1 (dVar 2) mulI)) (dRet (dVar 1)))
def t_look : TDS := dSeq (dAsg (dC (.int 0)) (dgName 2)) (dSeq (dWhile (dB (dBin (isD true) (dVar 0) (dC .non))) (dSeq (dAug 2 (dC (.int 1)) addI) (dSeq (dIfS (dB (dBin (eqD false) (dBin ixA (dVar 0) (dC (.int 1))) (dVar 1))) (dRet (dTup (dCons (dC (.bl true)) (dCons (dVar 2) (dNil))))) (dNext)) (dAsg (dIf (dB (dBin ltD (dVar 1) (dBin ixA (dVar 0) (dC (.int 1))))) (dBin ixA (dVar 0) (dC (.int 0))) (dBin ixA (dVar 0) (dC (.int 2)))) (dgName 0))))) (dRet (dTup (dCons (dC (.bl false)) (dCons (dVar 2) (dNil))))))
def t_next_of : TDS := dSeq (dAsg (dTup (dCons (dC .non) (dCons (dC (.int 0)) (dNil)))) (dgTup 2 (dgCons (dgName 2) (dgCons (dgName 3) (dgNil))))) (dSeq (dWhile (dB (dBin (isD true) (dVar 0) (dC .non))) (dSeq (dAug 3 (dC (.int 1)) addI) (dIfS (dB (dBin gtD (dBin ixA (dVar 0) (dC (.int 1))) (dVar 1))) (dSeq (dAsg (dBin ixA (dVar 0) (dC (.int 1))) (dgName 2)) (dAsg (dBin ixA (dVar 0) (dC (.int 0))) (dgName 0))) (dAsg (dBin ixA (dVar 0) (dC (.int 2))) (dgName 0))))) (dRet (dTup (dCons (dVar 2) (dCons (dVar 3) (dNil))))))
def t_before_of : TDS := dSeq (dAsg (dTup (dCons (dC .non) (dCons (dC (.int 0)) (dNil)))) (dgTup 2 (dgCons (dgName 2) (dgCons (dgName 3) (dgNil))))) (dSeq (dWhile (dB (dBin (isD true) (dVar 0) (dC .non))) (dSeq (dAug 3 (dC (.int 1)) addI) (dIfS (dB (dBin ltD (dBin ixA (dVar 0) (dC (.int 1))) (dVar 1))) (dSeq (dAsg (dBin ixA (dVar 0) (dC (.int 1))) (dgName 2)) (dAsg (dBin ixA (dVar 0) (dC (.int 2))) (dgName 0))) (dAsg (dBin ixA (dVar 0) (dC (.int 0))) (dgName 0))))) (dRet (dTup (dCons (dVar 2) (dCons (dVar 3) (dNil))))))
def t_turned_right : TDS := dSeq (dIfS (dOr (dB (dBin (isD false) (dVar 0) (dC .non))) (dB (dBin (isD false) (dBin ixA (dVar 0) (dC (.int 0))) (dC .non)))) (dNever) (dNext)) (dSeq (dAsg (dBin ixA (dVar 0) (dC (.int 0))) (dgName 1)) (dRet (dTup (dCons (dBin ixA (dVar 1) (dC (.int 0))) (dCons (dBin ixA (dVar 1) (dC (.int 1))) (dCons (dBin addD (dTup (dCons (dBin ixA (dVar 1) (dC (.int 2))) (dNil))) (dSlice (dVar 0) (dPart (dC (.int 1))) (dNoPart))) (dCons (dBin ixA (dVar 1) (dC (.int 3))) (dNil))))))))
def t_turned_left : TDS := dSeq (dIfS (dOr (dB (dBin (isD false) (dVar 0) (dC .non))) (dB (dBin (isD false) (dBin ixA (dVar 0) (dC (.int 2))) (dC .non)))) (dNever) (dNext)) (dSeq (dAsg (dBin ixA (dVar 0) (dC (.int 2))) (dgName 1)) (dRet (dTup (dCons (dTup (dCons (dBin ixA (dVar 0) (dC (.int 0))) (dCons (dBin ixA (dVar 0) (dC (.int 1))) (dCons (dBin ixA (dVar 1) (dC (.int 0))) (dCons (dBin ixA (dVar 0) (dC (.int 3))) (dNil)))))) (dCons (dBin ixA (dVar 1) (dC (.int 1))) (dCons (dBin ixA (dVar 1) (dC (.int 2))) (dCons (dBin ixA (dVar 1) (dC (.int 3))) (dNil))))))))
def t_flat (S_flat : DSp) : TDS := dSeq (dIfS (dNot (dTru (dVar 0))) (dRet (dC .non)) (dNext)) (dSeq (dAsg (dBin fdivD (dCB lenD (dCons (dVar 0) (dNil))) (dC (.int 2))) (dgName 1)) (dRet (dTup (dCons (dCall (arS 1 S_flat) (dCons (dSlice (dVar 0) (dNoPart) (dPart (dVar 1))) (dNil))) (dCons (dBin ixA (dVar 0) (dVar 1)) (dCons (dCall (arS 1 S_flat) (dCons (dSlice (dVar 0) (dPart (dBin addD (dVar 1) (dC (.int 1)))) (dNoPart)) (dNil))) (dCons (dC (.int 0)) (dNil))))))))
def t_path_length (S_levels : DSp) : TDS := dRet (dCB sumD (dCons (dLc (iSeqD (dCall (arS 1 S_levels) (dCons (dVar 0) (dNil)))) (dgTup 2 (dgCons (dgName 1) (dgCons (dgName 2) (dgNil)))) (dYes) (dVar 2) [1, 2]) (dNil)))
end DL.bintrees

set_option linter.all false
namespace DL.keys
open PySem DL
def t_is_number : TDS := dRet (dAndV (dUn (isiD "int") (dVar 0)) (dNotV (dUn (isiD "bool") (dVar 0))))
def t_check_key (S_is_number : DSp) : TDS := dIfS (dOr (dNot (dTru (dCall (arS 1 S_is_number) (dCons (dVar 0) (dNil))))) (dNot (dB (dChain leD leD (dUn (dU fun i => -i) (dC (.int 1000000))) (dVar 0) (dC (.int 1000000)))))) (dNever) (dNext)
def t_check_row (S_check_key : DSp) : TDS := dSeq (dIfS (dB (dBin gtD (dCB lenD (dCons (dVar 0) (dNil))) (dC (.int 400)))) (dNever) (dNext)) (dFor (iSeqD (dVar 0)) (dgName 1) (dDrop (dCall (arS 1 S_check_key) (dCons (dVar 1) (dNil)))))
def t_check_rising (S_check_row : DSp) : TDS := dSeq (dDrop (dCall (arS 1 S_check_row) (dCons (dVar 0) (dNil)))) (dIfS (dNot (dTru (dCB allD (dCons (dLc (iArgs zipD (dCons (dVar 0) (dCons (dSlice (dVar 0) (dPart (dC (.int 1))) (dNoPart)) (dNil)))) (dgTup 2 (dgCons (dgName 1) (dgCons (dgName 2) (dgNil)))) (dYes) (dBin ltD (dVar 1) (dVar 2)) [1, 2]) (dNil))))) (dNever) (dNext))
def t_power : TDS := dSeq (dAsg (dC (.int 1)) (dgName 2)) (dSeq (dFor (iArgs rng1D (dCons (dVar 1) (dNil))) (dgName 3) (dAug 2 (dVar 0) mulI)) (dRet (dVar 2)))
def t_lesser : TDS := dSeq (dPar 2 3 (dCons (dC (.int 0)) (dCons (dCB lenD (dCons (dVar 0) (dNil))) (dNil)))) (dSeq (dWhile (dB (dBin ltD (dVar 2) (dVar 3))) (dSeq (dAsg (dBin fdivD (dBin addD (dVar 2) (dVar 3)) (dC (.int 2))) (dgName 4)) (dIfS (dB (dBin ltD (dBin ixA (dVar 0) (dVar 4)) (dVar 1))) (dAsg (dBin addD (dVar 4) (dC (.int 1))) (dgName 2)) (dAsg (dVar 4) (dgName 3))))) (dRet (dVar 2)))
def t_bits_of : TDS := dRet (dBits (dVar 0))
def t_ones_of : TDS := dSeq (dAsg (dC (.int 0)) (dgName 1)) (dSeq (dWhile (dTru (dVar 0)) (dSeq (dAug 0 (dBin subD (dVar 0) (dC (.int 1))) andD) (dAug 1 (dC (.int 1)) addI))) (dRet (dVar 1)))
end DL.keys

set_option linter.all false
namespace DL.heights
open PySem DL
def t_height_of : TDS := dRet (dIf (dB (dBin (isD false) (dVar 0) (dC .non))) (dC (.int 0)) (dBin ixA (dVar 0) (dC (.int 3))))
def t_node (S_height_of : DSp) : TDS := dRet (dTup (dCons (dVar 0) (dCons (dVar 1) (dCons (dVar 2) (dCons (dBin addD (dCB maxD (dCons (dCall (arS 1 S_height_of) (dCons (dVar 0) (dNil))) (dCons (dCall (arS 1 S_height_of) (dCons (dVar 2) (dNil))) (dNil)))) (dC (.int 1))) (dNil))))))
def t_balanced (S_height_of S_node : DSp) : TDS := dSeq (dIfS (dB (dBin gtD (dCall (arS 1 S_height_of) (dCons (dVar 0) (dNil))) (dBin addD (dCall (arS 1 S_height_of) (dCons (dVar 2) (dNil))) (dC (.int 1))))) (dSeq (dAsg (dVar 0) (dgTup 4 (dgCons (dgName 3) (dgCons (dgName 4) (dgCons (dgName 5) (dgCons (dgName 6) (dgNil))))))) (dSeq (dIfS (dB (dBin geD (dCall (arS 1 S_height_of) (dCons (dVar 3) (dNil))) (dCall (arS 1 S_height_of) (dCons (dVar 5) (dNil))))) (dRet (dTup (dCons (dCall (arS 3 S_node) (dCons (dVar 3) (dCons (dVar 4) (dCons (dCall (arS 3 S_node) (dCons (dVar 5) (dCons (dVar 1) (dCons (dVar 2) (dNil))))) (dNil))))) (dCons (dC (.int 1)) (dNil))))) (dNext)) (dRet (dTup (dCons (dCall (arS 3 S_node) (dCons (dCall (arS 3 S_node) (dCons (dVar 3) (dCons (dVar 4) (dCons (dBin ixA (dVar 5) (dC (.int 0))) (dNil))))) (dCons (dBin ixA (dVar 5) (dC (.int 1))) (dCons (dCall (arS 3 S_node) (dCons (dBin ixA (dVar 5) (dC (.int 2))) (dCons (dVar 1) (dCons (dVar 2) (dNil))))) (dNil))))) (dCons (dC (.int 2)) (dNil))))))) (dNext)) (dSeq (dIfS (dB (dBin gtD (dCall (arS 1 S_height_of) (dCons (dVar 2) (dNil))) (dBin addD (dCall (arS 1 S_height_of) (dCons (dVar 0) (dNil))) (dC (.int 1))))) (dSeq (dAsg (dVar 2) (dgTup 4 (dgCons (dgName 3) (dgCons (dgName 4) (dgCons (dgName 5) (dgCons (dgName 6) (dgNil))))))) (dSeq (dIfS (dB (dBin geD (dCall (arS 1 S_height_of) (dCons (dVar 5) (dNil))) (dCall (arS 1 S_height_of) (dCons (dVar 3) (dNil))))) (dRet (dTup (dCons (dCall (arS 3 S_node) (dCons (dCall (arS 3 S_node) (dCons (dVar 0) (dCons (dVar 1) (dCons (dVar 3) (dNil))))) (dCons (dVar 4) (dCons (dVar 5) (dNil))))) (dCons (dC (.int 1)) (dNil))))) (dNext)) (dRet (dTup (dCons (dCall (arS 3 S_node) (dCons (dCall (arS 3 S_node) (dCons (dVar 0) (dCons (dVar 1) (dCons (dBin ixA (dVar 3) (dC (.int 0))) (dNil))))) (dCons (dBin ixA (dVar 3) (dC (.int 1))) (dCons (dCall (arS 3 S_node) (dCons (dBin ixA (dVar 3) (dC (.int 2))) (dCons (dVar 4) (dCons (dVar 5) (dNil))))) (dNil))))) (dCons (dC (.int 2)) (dNil))))))) (dNext)) (dRet (dTup (dCons (dCall (arS 3 S_node) (dCons (dVar 0) (dCons (dVar 1) (dCons (dVar 2) (dNil))))) (dCons (dC (.int 0)) (dNil))))))
def t_put (S_check_key S_put_in : DSp) : TDS := dSeq (dDrop (dCall (arS 1 S_check_key) (dCons (dVar 1) (dNil)))) (dRet (dCall (arS 2 S_put_in) (dCons (dVar 0) (dCons (dVar 1) (dNil)))))
def t_put_in (S_node S_put_in S_balanced : DSp) : TDS := dSeq (dIfS (dB (dBin (isD false) (dVar 0) (dC .non))) (dRet (dTup (dCons (dCall (arS 3 S_node) (dCons (dC .non) (dCons (dVar 1) (dCons (dC .non) (dNil))))) (dCons (dC (.bl true)) (dCons (dC (.int 0)) (dCons (dC (.int 0)) (dNil))))))) (dNext)) (dSeq (dAsg (dVar 0) (dgTup 4 (dgCons (dgName 2) (dgCons (dgName 3) (dgCons (dgName 4) (dgCons (dgName 5) (dgNil))))))) (dSeq (dIfS (dB (dBin (eqD false) (dVar 1) (dVar 3))) (dRet (dTup (dCons (dVar 0) (dCons (dC (.bl false)) (dCons (dC (.int 1)) (dCons (dC (.int 0)) (dNil))))))) (dNext)) (dSeq (dIfS (dB (dBin ltD (dVar 1) (dVar 3))) (dSeq (dAsg (dCall (arS 2 S_put_in) (dCons (dVar 2) (dCons (dVar 1) (dNil)))) (dgTup 4 (dgCons (dgName 6) (dgCons (dgName 7) (dgCons (dgName 8) (dgCons (dgName 9) (dgNil))))))) (dAsg (dCall (arS 3 S_balanced) (dCons (dVar 6) (dCons (dVar 3) (dCons (dVar 4) (dNil))))) (dgTup 2 (dgCons (dgName 10) (dgCons (dgName 11) (dgNil)))))) (dSeq (dAsg (dCall (arS 2 S_put_in) (dCons (dVar 4) (dCons (dVar 1) (dNil)))) (dgTup 4 (dgCons (dgName 6) (dgCons (dgName 7) (dgCons (dgName 8) (dgCons (dgName 9) (dgNil))))))) (dAsg (dCall (arS 3 S_balanced) (dCons (dVar 2) (dCons (dVar 3) (dCons (dVar 6) (dNil))))) (dgTup 2 (dgCons (dgName 10) (dgCons (dgName 11) (dgNil))))))) (dRet (dTup (dCons (dIf (dTru (dVar 7)) (dVar 10) (dVar 0)) (dCons (dVar 7) (dCons (dBin addD (dVar 8) (dC (.int 1))) (dCons (dBin addD (dVar 9) (dVar 11)) (dNil))))))))))
def t_least_taken (S_least_taken S_balanced : DSp) : TDS := dSeq (dAsg (dVar 0) (dgTup 4 (dgCons (dgName 1) (dgCons (dgName 2) (dgCons (dgName 3) (dgCons (dgName 4) (dgNil))))))) (dSeq (dIfS (dB (dBin (isD false) (dVar 1) (dC .non))) (dRet (dTup (dCons (dVar 2) (dCons (dVar 3) (dCons (dC (.int 1)) (dCons (dC (.int 0)) (dNil))))))) (dNext)) (dSeq (dAsg (dCall (arS 1 S_least_taken) (dCons (dVar 1) (dNil))) (dgTup 4 (dgCons (dgName 5) (dgCons (dgName 6) (dgCons (dgName 7) (dgCons (dgName 8) (dgNil))))))) (dSeq (dAsg (dCall (arS 3 S_balanced) (dCons (dVar 6) (dCons (dVar 2) (dCons (dVar 3) (dNil))))) (dgTup 2 (dgCons (dgName 9) (dgCons (dgName 10) (dgNil))))) (dRet (dTup (dCons (dVar 5) (dCons (dVar 9) (dCons (dBin addD (dVar 7) (dC (.int 1))) (dCons (dBin addD (dVar 8) (dVar 10)) (dNil))))))))))
def t_drop (S_check_key S_drop_in : DSp) : TDS := dSeq (dDrop (dCall (arS 1 S_check_key) (dCons (dVar 1) (dNil)))) (dRet (dCall (arS 2 S_drop_in) (dCons (dVar 0) (dCons (dVar 1) (dNil)))))
def t_drop_in (S_drop_in S_balanced S_least_taken : DSp) : TDS := dSeq (dIfS (dB (dBin (isD false) (dVar 0) (dC .non))) (dRet (dTup (dCons (dC .non) (dCons (dC (.bl false)) (dCons (dC (.int 0)) (dCons (dC (.int 0)) (dNil))))))) (dNext)) (dSeq (dAsg (dVar 0) (dgTup 4 (dgCons (dgName 2) (dgCons (dgName 3) (dgCons (dgName 4) (dgCons (dgName 5) (dgNil))))))) (dSeq (dIfS (dB (dBin ltD (dVar 1) (dVar 3))) (dSeq (dAsg (dCall (arS 2 S_drop_in) (dCons (dVar 2) (dCons (dVar 1) (dNil)))) (dgTup 4 (dgCons (dgName 6) (dgCons (dgName 7) (dgCons (dgName 8) (dgCons (dgName 9) (dgNil))))))) (dSeq (dAsg (dCall (arS 3 S_balanced) (dCons (dVar 6) (dCons (dVar 3) (dCons (dVar 4) (dNil))))) (dgTup 2 (dgCons (dgName 10) (dgCons (dgName 11) (dgNil))))) (dRet (dTup (dCons (dVar 10) (dCons (dVar 7) (dCons (dBin addD (dVar 8) (dC (.int 1))) (dCons (dBin addD (dVar 9) (dVar 11)) (dNil))))))))) (dNext)) (dSeq (dIfS (dB (dBin gtD (dVar 1) (dVar 3))) (dSeq (dAsg (dCall (arS 2 S_drop_in) (dCons (dVar 4) (dCons (dVar 1) (dNil)))) (dgTup 4 (dgCons (dgName 6) (dgCons (dgName 7) (dgCons (dgName 8) (dgCons (dgName 9) (dgNil))))))) (dSeq (dAsg (dCall (arS 3 S_balanced) (dCons (dVar 2) (dCons (dVar 3) (dCons (dVar 6) (dNil))))) (dgTup 2 (dgCons (dgName 10) (dgCons (dgName 11) (dgNil))))) (dRet (dTup (dCons (dVar 10) (dCons (dVar 7) (dCons (dBin addD (dVar 8) (dC (.int 1))) (dCons (dBin addD (dVar 9) (dVar 11)) (dNil))))))))) (dNext)) (dSeq (dIfS (dB (dBin (isD false) (dVar 4) (dC .non))) (dRet (dTup (dCons (dVar 2) (dCons (dC (.bl true)) (dCons (dC (.int 1)) (dCons (dC (.int 0)) (dNil))))))) (dNext)) (dSeq (dAsg (dCall (arS 1 S_least_taken) (dCons (dVar 4) (dNil))) (dgTup 4 (dgCons (dgName 12) (dgCons (dgName 6) (dgCons (dgName 8) (dgCons (dgName 9) (dgNil))))))) (dSeq (dAsg (dCall (arS 3 S_balanced) (dCons (dVar 2) (dCons (dVar 12) (dCons (dVar 6) (dNil))))) (dgTup 2 (dgCons (dgName 10) (dgCons (dgName 11) (dgNil))))) (dRet (dTup (dCons (dVar 10) (dCons (dC (.bl true)) (dCons (dBin addD (dVar 8) (dC (.int 1))) (dCons (dBin addD (dVar 9) (dVar 11)) (dNil)))))))))))))
def t_is_right (S_walk S_height_of S_is_search : DSp) : TDS := dSeq (dAsg (dLc (iSeqD (dCall (arS 1 S_walk) (dCons (dVar 0) (dNil)))) (dgName 1) (dYes) (dBin (eqD false) (dBin ixA (dVar 1) (dC (.int 3))) (dBin addD (dCB maxD (dCons (dCall (arS 1 S_height_of) (dCons (dBin ixA (dVar 1) (dC (.int 0))) (dNil))) (dCons (dCall (arS 1 S_height_of) (dCons (dBin ixA (dVar 1) (dC (.int 2))) (dNil))) (dNil)))) (dC (.int 1)))) [1]) (dgName 2)) (dSeq (dAsg (dLc (iSeqD (dCall (arS 1 S_walk) (dCons (dVar 0) (dNil)))) (dgName 1) (dYes) (dBin leD (dCB absD (dCons (dBin subD (dCall (arS 1 S_height_of) (dCons (dBin ixA (dVar 1) (dC (.int 0))) (dNil))) (dCall (arS 1 S_height_of) (dCons (dBin ixA (dVar 1) (dC (.int 2))) (dNil)))) (dNil))) (dC (.int 1))) [1]) (dgName 3)) (dRet (dAndV (dCall (arS 1 S_is_search) (dCons (dVar 0) (dNil))) (dAndV (dCB allD (dCons (dVar 2) (dNil))) (dCB allD (dCons (dVar 3) (dNil)))))))
def t_fewest : TDS := dSeq (dAsg (dTup (dCons (dC (.int 0)) (dCons (dC (.int 1)) (dNil)))) (dgTup 2 (dgCons (dgName 1) (dgCons (dgName 2) (dgNil))))) (dSeq (dFor (iArgs rng1D (dCons (dVar 0) (dNil))) (dgName 3) (dPar 1 2 (dCons (dVar 2) (dCons (dBin addD (dBin addD (dVar 1) (dVar 2)) (dC (.int 1))) (dNil))))) (dRet (dVar 1)))
def t_greatest_height (S_fewest : DSp) : TDS := dSeq (dAsg (dC (.int 0)) (dgName 1)) (dSeq (dWhile (dB (dBin leD (dCall (arS 1 S_fewest) (dCons (dBin addD (dVar 1) (dC (.int 1))) (dNil))) (dVar 0))) (dAug 1 (dC (.int 1)) addI)) (dRet (dVar 1)))
def t_sparse (S_sparse S_node : DSp) : TDS := dSeq (dIfS (dB (dBin leD (dVar 0) (dC (.int 0)))) (dRet (dTup (dCons (dC .non) (dCons (dVar 1) (dNil))))) (dNext)) (dSeq (dAsg (dCall (arS 2 S_sparse) (dCons (dBin subD (dVar 0) (dC (.int 1))) (dCons (dVar 1) (dNil)))) (dgTup 2 (dgCons (dgName 2) (dgCons (dgName 3) (dgNil))))) (dSeq (dAsg (dCall (arS 2 S_sparse) (dCons (dBin subD (dVar 0) (dC (.int 2))) (dCons (dBin addD (dVar 3) (dC (.int 1))) (dNil)))) (dgTup 2 (dgCons (dgName 4) (dgCons (dgName 5) (dgNil))))) (dRet (dTup (dCons (dCall (arS 3 S_node) (dCons (dVar 2) (dCons (dVar 3) (dCons (dVar 4) (dNil))))) (dCons (dVar 5) (dNil)))))))
end DL.heights

set_option Elab.async false
set_option linter.all false
set_option maxRecDepth 100000
set_option maxHeartbeats 4000000
namespace DL
open PySem PySem.Spec PyProof.Rows L2

/-- the same but for some addresses -/
def EqOff (ps : List Addr) (M M' : Mp) : Prop := ∀ b, b ∉ ps → M' b = M b
theorem EqOff.refl {ps : List Addr} {M : Mp} : EqOff ps M M := fun _ _ => rfl
theorem EqOff.trans {ps : List Addr} {M M1 M2 : Mp} (h : EqOff ps M M1) (h' : EqOff ps M1 M2) : EqOff ps M M2 := fun b hb => (h' b hb).trans (h b hb)
theorem EqOff.mup {ps : List Addr} {M M1 : Mp} (h : EqOff ps M M1) {p : Addr} {o : MO} (hp : p ∈ ps) : EqOff ps M (DL.mup M1 p o) := fun b hb => by
  rw [mup_ne (by rintro rfl; exact hb hp)]; exact h b hb
theorem EqOff.mono {ps qs : List Addr} {M M1 : Mp} (h : EqOff ps M M1) (hs : ∀ p ∈ ps, p ∈ qs) : EqOff qs M M1 := fun b hb => h b fun hp => hb (hs b hp)
/-- what was made lately may be forgotten -/
theorem EqOff.le {ps : List Addr} {M M1 : Mp} (h : EqOff ps M M1) (hn : ∀ p ∈ ps, M p = none) : MLe M M1 := fun a o e => by
  rw [h a fun hp => by rw [hn a hp] at e; cases e]; exact e
theorem EqOff.gc {ps : List Addr} {M M1 : Mp} {p : Addr} {o : MO} (h : EqOff ps M M1) (hn : ∀ q ∈ ps, M q = none) (hp : M1 p = some o) : MLe (DL.mup M p o) M1 := fun a u e => by
  by_cases ha : a = p
  · subst ha; rw [mup_same] at e; cases e; exact hp
  · rw [mup_ne ha] at e; exact h.le hn a u e
theorem EqOff.none {ps : List Addr} {M M1 : Mp} {p : Addr} (h : EqOff ps M M1) (hn : ∀ q ∈ ps, M q = none) (hp : M1 p = none) : M p = none := by
  by_cases e : p ∈ ps
  · exact hn p e
  · rw [← h p e]; exact hp
theorem none_ne {M : Mp} {p q : Addr} {o : MO} (h : DL.mup M p o q = none) : q ≠ p ∧ M q = none := mup_none.mp h

inductive Tr (α : Type) where
  | nil
  | node (l : Tr α) (k : Int) (r : Tr α) (m : α)
namespace Tr
variable {α : Type}
@[simp] def enc (f : α → D) : Tr α → D
  | nil => .non
  | node l k r m => .tup [l.enc f, .int k, r.enc f, f m]
@[simp] def keys : Tr α → List Int
  | nil => []
  | node l k r _ => l.keys ++ k :: r.keys
@[simp] def subs : Tr α → List (Tr α)
  | nil => []
  | node l k r m => l.subs ++ node l k r m :: r.subs
@[simp] def size : Tr α → Nat
  | nil => 0
  | node l _ r _ => l.size + r.size + 1
@[simp] def ht : Tr α → Nat
  | nil => 0
  | node l _ r _ => max l.ht r.ht + 1
/-- the key of a root -/
def key : Tr α → Int
  | nil => 0
  | node _ k _ _ => k
@[simp] theorem key_node {l r : Tr α} {k : Int} {m : α} : (node l k r m).key = k := rfl
theorem subs_len : ∀ t : Tr α, t.subs.length = t.size
  | nil => rfl
  | node l k r m => by simp [subs_len l, subs_len r]; omega
theorem keys_len : ∀ t : Tr α, t.keys.length = t.size
  | nil => rfl
  | node l k r m => by simp [keys_len l, keys_len r]; omega
theorem keys_subs : ∀ t : Tr α, t.subs.map key = t.keys
  | nil => rfl
  | node l k r m => by simp [keys_subs l, keys_subs r]
theorem subs_node : ∀ (t : Tr α), ∀ s ∈ t.subs, ∃ l k r m, s = node l k r m
  | nil, s, h => by simp at h
  | node l k r m, s, h => by
    simp at h
    rcases h with h | rfl | h
    · exact subs_node l s h
    · exact ⟨l, k, r, m, rfl⟩
    · exact subs_node r s h
theorem enc_inj {f : α → D} (hf : ∀ a b, f a = f b → a = b) : ∀ {t u : Tr α}, t.enc f = u.enc f → t = u
  | nil, nil, _ => rfl
  | nil, node .., h => by simp at h
  | node .., nil, h => by simp at h
  | node l k r m, node l' k' r' m', h => by
    simp at h
    rw [enc_inj hf h.1, h.2.1, enc_inj hf h.2.2.1, hf _ _ h.2.2.2]
theorem encI_inj {t u : Tr Int} : t.enc D.int = u.enc D.int ↔ t = u := ⟨enc_inj fun _ _ h => D.int.inj h, fun h => by rw [h]⟩
theorem isNon_enc {f : α → D} {t : Tr α} : DL.isNon (t.enc f) = (match t with | nil => true | _ => false) := by cases t <;> rfl
theorem NB_enc {f : α → D} (hf : ∀ a, NB (f a) = true) : ∀ t : Tr α, NB (t.enc f) = true
  | nil => rfl
  | node l k r m => by simp [NB_enc hf l, NB_enc hf r, hf]
theorem dp_enc {f : α → D} (hf : ∀ a, dpD (f a) = 0) : ∀ t : Tr α, dpD (t.enc f) = t.ht
  | nil => by simp
  | node l k r m => by simp [dp_enc hf l, dp_enc hf r, hf]

/-! ### walk -/
def pend : List (Tr α) → List (Tr α)
  | [] => []
  | nil :: S => pend S
  | node l k r m :: S => node l k r m :: (r.subs ++ pend S)
/-- only nodes wait -/
def Nodes (S : List (Tr α)) : Prop := ∀ s ∈ S, ∃ l k r m, s = node l k r m
theorem pend_len : ∀ {S : List (Tr α)}, Nodes S → S.length ≤ (pend S).length
  | [], _ => Nat.zero_le _
  | s :: S, h => by
    obtain ⟨l, k, r, m, rfl⟩ := h s List.mem_cons_self
    have := pend_len (S := S) fun x hx => h x (List.mem_cons_of_mem _ hx)
    simp [pend]; omega
end Tr
open Tr
variable {α : Type}
def sp_walk : DSp := fun ds M Q E => ∃ (α : Type) (f : α → D) (t : Tr α), ds = [t.enc f] ∧ t.size ≤ 1000000 ∧ ∀ p, M p = none → Q (.ref p) (mup M p (.lst (t.subs.map (Tr.enc f))))
abbrev cWalk : TDT := dB (dBin (isD true) (dVar 0) (dC .non))
abbrev bWalk : TDS := dSeq (dDrop (dML (chL fAppend) (dVar 2) (dCons (dVar 0) dNil))) (dAsg (dBin ixA (dVar 0) (dC (.int 0))) (dgName 0))
theorem walk_down {f : α → D} {N : DEn} {p1 p2 : Addr} : ∀ (t : Tr α) (S : List (Tr α)) (M : Mp) (hS : Nodes S) (h2 : M p2 = some (.lst (S.reverse.map (Tr.enc f)))) (hz : S.length + t.size ≤ 1000000)
    (fin : ∀ S', Nodes S' → pend S' = t.subs ++ pend S → S.length ≤ S'.length → (t = nil → S' = S) → (t ≠ nil → S' ≠ []) → N.nx [some .non, some (.ref p1), some (.ref p2)] (mup M p2 (.lst (S'.reverse.map (Tr.enc f))))),
    ∃ n, wWhile cWalk bWalk N n [some (t.enc f), some (.ref p1), some (.ref p2)] M
  | nil, S, M, hS, h2, hz, fin => by
    refine ⟨1, ?_⟩
    have := fin S hS (by simp) (Nat.le_refl _) (fun _ => rfl) (by simp)
    have e : mup M p2 (.lst (S.reverse.map (Tr.enc f))) = M := by
      funext b; unfold mup; split
      · subst_vars; exact h2.symm
      · rfl
    rw [e] at this
    simpa [wWhile] using this
  | node l k r m, S, M, hS, h2, hz, fin => by
    have hz' : S.length + l.size + r.size + 1 ≤ 1000000 := by simp at hz; omega
    obtain ⟨n, hn⟩ := walk_down (N := N) (p1 := p1) l (node l k r m :: S) (mup M p2 (.lst ((node l k r m :: S).reverse.map (Tr.enc f)))) (fun s hs => by
        rcases List.mem_cons.mp hs with h | h
        · exact ⟨_, _, _, _, h⟩
        · exact hS s h) (by rw [mup_same]) (by simp; omega) fun S' q1 q2 q3 q4 q5 => by
        rw [mup_mup]
        refine fin S' q1 ?_ (by simp only [List.length_cons] at q3; omega) (fun h => nomatch h) fun _ h => ?_
        · rw [q2]; simp [pend]
        · subst h; simp at q3
    refine ⟨n + 1, ?_⟩
    simp only [wWhile]
    generalize wWhile cWalk bWalk N n = W at hn ⊢
    simp [h2] at hn ⊢
    exact ⟨by omega, hn⟩
abbrev cWalk2 : TDT := dOr (dTru (dVar 2)) (dB (dBin (isD true) (dVar 0) (dC .non)))
abbrev rWalk : TDS := dSeq (dAsg (dML0 (chL fPop) (dVar 2)) (dgName 0)) (dSeq (dDrop (dML (chL fAppend) (dVar 1) (dCons (dVar 0) dNil))) (dAsg (dBin ixA (dVar 0) (dC (.int 2))) (dgName 0)))
abbrev bWalk2 : TDS := dSeq (dWhile cWalk bWalk) rWalk
theorem walk_all {f : α → D} {N : DEn} {p1 p2 : Addr} (hp : p1 ≠ p2) : ∀ (n : Nat) (t : Tr α) (S : List (Tr α)) (F : List (Tr α)) (M : Mp) (hS : Nodes S) (hn : t.size + (pend S).length = n) (h1 : M p1 = some (.lst (F.map (Tr.enc f)))) (h2 : M p2 = some (.lst (S.reverse.map (Tr.enc f)))) (hz : F.length + n ≤ 1000000)
    (fin : ∀ M', EqOff [p1, p2] M M' → M' p1 = some (.lst ((F ++ (t.subs ++ pend S)).map (Tr.enc f))) → N.nx [some .non, some (.ref p1), some (.ref p2)] M'),
    wWhile cWalk2 bWalk2 N (n + 1) [some (t.enc f), some (.ref p1), some (.ref p2)] M
  | 0, t, S, F, M, hS, hn, h1, h2, hz, fin => by
    have hl := pend_len hS
    cases S with
    | cons s S => simp at hl; omega
    | nil =>
      cases t with
      | node l k r m => simp at hn
      | nil =>
        have := fin M .refl (by simpa [pend] using h1)
        simpa [wWhile, h2] using this
  | n + 1, t, S, F, M, hS, hn, h1, h2, hz, fin => by
    have hl := pend_len hS
    unfold wWhile
    have hb : ∀ S', Nodes S' → pend S' = t.subs ++ pend S → S' ≠ [] → rWalk { N with nx := wWhile cWalk2 bWalk2 N (n + 1), ct := wWhile cWalk2 bWalk2 N (n + 1), bk := N.nx } [some .non, some (.ref p1), some (.ref p2)] (mup M p2 (.lst (S'.reverse.map (Tr.enc f)))) := by
      intro S' q1 q2 q3
      cases S' with
      | nil => exact absurd rfl q3
      | cons s S' =>
        obtain ⟨l, k, r, m, rfl⟩ := q1 s List.mem_cons_self
        have q1' : Nodes S' := fun x hx => q1 x (List.mem_cons_of_mem _ hx)
        have hl' := pend_len q1'
        have hlen := congrArg List.length q2
        simp [pend, subs_len] at hlen
        have ih := walk_all hp n r S' (F ++ [node l k r m]) (mup (mup M p2 (.lst (S'.reverse.map (Tr.enc f)))) p1 (.lst ((F ++ [node l k r m]).map (Tr.enc f)))) q1' (by omega) (by rw [mup_same]) (by rw [mup_ne hp.symm, mup_same]) (by simp; omega) fun M' g1 g2 => by
          refine fin M' (EqOff.trans ((EqOff.refl.mup (by simp)).mup (by simp)) g1) ?_
          rw [g2, ← q2]; simp [pend]
        generalize wWhile cWalk2 bWalk2 N (n + 1) = W at ih ⊢
        simp [rWalk, mup_ne hp, h1] at ih ⊢
        exact ⟨by omega, by omega, ih⟩
    have down := walk_down (N := { N with nx := rWalk { N with nx := wWhile cWalk2 bWalk2 N (n + 1), ct := wWhile cWalk2 bWalk2 N (n + 1), bk := N.nx }, ct := wWhile cWalk2 bWalk2 N (n + 1), bk := N.nx }) (p1 := p1) t S M hS h2 (by omega) fun S' q1 q2 q3 q4 q5 => hb S' q1 q2 (by
          by_cases ht : t = nil
          · rw [q4 ht]; rintro rfl; subst ht; simp [pend] at hn
          · exact q5 ht)
    have go : bWalk2 { N with nx := wWhile cWalk2 bWalk2 N (n + 1), ct := wWhile cWalk2 bWalk2 N (n + 1), bk := N.nx } [some (t.enc f), some (.ref p1), some (.ref p2)] M := down
    generalize bWalk2 = B at go ⊢
    cases S with
    | cons s S =>
      obtain ⟨l, k, r, m, rfl⟩ := hS s List.mem_cons_self
      simpa [h2] using go
    | nil =>
      cases t with
      | nil => simp [pend] at hn
      | node l k r m => simpa [h2] using go
theorem sem_walk (ds M Q E) (hl : ds.length = 1) (h : sp_walk ds M Q E) : bintrees.t_walk (dEndsG Q E) (dstart 3 ds) M := by
  obtain ⟨α, f, t, rfl, hz, hQ⟩ := h
  show (dSeq _ (dSeq _ (dSeq (dWhile cWalk2 bWalk2) (dRet (dVar 1))))) _ _ _
  generalize hW : (dWhile cWalk2 bWalk2) = W
  simp
  intro p1 hp1 p2 hp2
  obtain ⟨hn, hp2'⟩ := none_ne hp2
  rw [← hW]
  refine ⟨_, walk_all (f := f) hn.symm t.size t [] [] _ (by intro s hs; cases hs) (by simp [pend]) (by rw [mup_ne hn.symm, mup_same]; rfl) (by rw [mup_same]; rfl) (by simp; omega) fun M' g1 g2 => ?_⟩
  simp [pend] at g2 ⊢
  refine gcQ.of (M1 := mup M p1 (.lst (t.subs.map (Tr.enc f)))) ?_ (hQ p1 hp1)
  exact EqOff.gc (ps := [p1, p2]) (EqOff.trans ((EqOff.refl.mup (by simp)).mup (by simp)) g1) (by simp [hp1, hp2']) g2

/-! ### keys -/
def sp_keys_in : DSp := fun ds M Q E => ∃ (α : Type) (f : α → D) (t : Tr α), ds = [t.enc f] ∧ t.size ≤ 1000000 ∧ Q (.tup (t.keys.map .int)) M
theorem isAt_mup {a p : Addr} {xs : List D} {M : Mp} {o : MO} (h : M a = some (.lst xs)) (hp : M p = none) : isAt a xs (mup M p o) := by
  unfold isAt
  rw [mup_ne (by rintro rfl; rw [h] at hp; cases hp)]; exact h
theorem sem_keys_in (ds M Q E) (hl : ds.length = 1) (h : sp_keys_in ds M Q E) : bintrees.t_keys_in sp_walk (dEndsG Q E) (dstart 2 ds) M := by
  obtain ⟨α, f, t, rfl, hz, hQ⟩ := h
  simp [bintrees.t_keys_in, dLc]
  refine ⟨α, f, t, rfl, hz, fun p hp => ?_⟩
  simp
  intro p2 hp2
  obtain ⟨hn, hp2'⟩ := none_ne hp2
  refine wLc_map (fun d => match d with | .tup [_, k, _, _] => k | _ => .non) _ (fun d hd acc' R hR => ?_) ?_ (fun acc' => ?_) ?_
  · obtain ⟨s, hs, rfl⟩ := List.mem_map.mp hd
    obtain ⟨l, k, r, m, rfl⟩ := subs_node t s hs
    simpa using hR
  · simp [subs_len]; omega
  · exact isAt_mup mup_same hp2
  · simp
    refine gcQ.of (M1 := M) (MLe.new (.new (.refl M) hp) hp2) ?_
    have e : (List.map ((fun d => match d with | .tup [_, k, _, _] => k | _ => .non) ∘ Tr.enc f) t.subs) = t.keys.map D.int := by
      rw [← keys_subs, List.map_map]
      refine List.map_congr_left fun s hs => ?_
      obtain ⟨l, k, r, m, rfl⟩ := subs_node t s hs
      rfl
    rw [e]; exact hQ

/-! ### slices -/
theorem drop_min {β : Type} (xs : List β) (n : Nat) : xs.drop (min n xs.length) = xs.drop n := by
  by_cases h : n ≤ xs.length
  · rw [Nat.min_eq_left h]
  · rw [Nat.min_eq_right (by omega), List.drop_eq_nil_of_le (Nat.le_refl _), List.drop_eq_nil_of_le (by omega)]
theorem take_min {β : Type} (xs : List β) (n : Nat) : xs.take (min n xs.length) = xs.take n := by
  by_cases h : n ≤ xs.length
  · rw [Nat.min_eq_left h]
  · rw [Nat.min_eq_right (by omega), List.take_of_length_le (Nat.le_refl _), List.take_of_length_le (by omega)]
theorem gcut_from {β : Type} {xs : List β} {i : Int} (h : 0 ≤ i) : gcut xs (some i) none = xs.drop i.toNat := by
  unfold gcut
  simp only [HT.sIx]
  rw [if_neg (by omega), drop_min, List.take_of_length_le (by rw [List.length_drop]; omega)]
theorem gcut_to {β : Type} {xs : List β} {i : Int} (h : 0 ≤ i) : gcut xs none (some i) = xs.take i.toNat := by
  unfold gcut
  simp only [HT.sIx]
  rw [if_neg (by omega), Nat.sub_zero, List.drop_zero, take_min]
theorem gcut_two {β : Type} {xs : List β} {i j : Int} (h : 0 ≤ i) (h' : 0 ≤ j) : gcut xs (some i) (some j) = (xs.take j.toNat).drop i.toNat := by
  unfold gcut
  simp only [HT.sIx]
  rw [if_neg (by omega), if_neg (by omega), drop_min, List.drop_take]
  by_cases e : j.toNat ≤ xs.length
  · rw [Nat.min_eq_left e]
    by_cases e2 : i.toNat ≤ xs.length
    · rw [Nat.min_eq_left e2]
    · rw [List.drop_eq_nil_of_le (by omega)]; simp
  · by_cases e2 : i.toNat ≤ xs.length
    · rw [Nat.min_eq_left e2, Nat.min_eq_right (by omega), List.take_of_length_le (by rw [List.length_drop]; omega), List.take_of_length_le (by rw [List.length_drop]; omega)]
    · rw [List.drop_eq_nil_of_le (by omega)]; simp
theorem gcut_last {β : Type} {xs : List β} : gcut xs none (some (-1)) = xs.dropLast := by
  unfold gcut
  simp only [HT.sIx]
  rw [if_pos (by decide), Nat.sub_zero, List.drop_zero, List.dropLast_eq_take]
  congr 1
  omega

/-! ### is_search -/
def risesB : List Int → Bool
  | a :: b :: l => decide (a < b) && risesB (b :: l)
  | _ => true
theorem risesB_iff : ∀ l : List Int, risesB l = true ↔ l.Pairwise (· < ·)
  | [] => by simp [risesB]
  | [a] => by simp [risesB]
  | a :: b :: l => by
    rw [risesB, Bool.and_eq_true, risesB_iff (b :: l), decide_eq_true_eq]
    constructor
    · rintro ⟨h1, h2⟩
      refine List.pairwise_cons.mpr ⟨fun x hx => ?_, h2⟩
      rcases List.mem_cons.mp hx with rfl | hx
      · exact h1
      · exact Int.lt_trans h1 ((List.pairwise_cons.mp h2).1 x hx)
    · intro h
      exact ⟨(List.pairwise_cons.mp h).1 b (by simp), (List.pairwise_cons.mp h).2⟩
def sp_is_search : DSp := fun ds M Q E => ∃ (α : Type) (f : α → D) (t : Tr α), ds = [t.enc f] ∧ t.size ≤ 1000000 ∧ Q (.bl (risesB t.keys)) M
theorem zip_rises : ∀ l : List Int, (zipL (l.map D.int) ((l.map D.int).drop 1)).map (fun d => match d with | .tup [.int a, .int b] => D.bl (decide (a < b)) | _ => .non) = (zipL (l.map D.int) ((l.map D.int).drop 1)).map (fun d => match d with | .tup [.int a, .int b] => D.bl (decide (a < b)) | _ => .non) := fun _ => rfl
theorem zip_all : ∀ l : List Int, ∃ bs : List Bool, (zipL (l.map D.int) ((l.map D.int).drop 1)).map (fun d => match d with | .tup [.int a, .int b] => D.bl (decide (a < b)) | _ => .non) = bs.map D.bl ∧ bs.all id = risesB l
  | [] => ⟨[], rfl, rfl⟩
  | [a] => ⟨[], rfl, rfl⟩
  | a :: b :: l => by
    obtain ⟨bs, h1, h2⟩ := zip_all (b :: l)
    refine ⟨decide (a < b) :: bs, ?_, ?_⟩
    · simp [zipL] at h1 ⊢; exact h1
    · simp [risesB] at h2 ⊢; rw [← h2]
theorem zipL_mem : ∀ (l m : List Int) (d : D), d ∈ zipL (l.map D.int) (m.map D.int) → ∃ a b : Int, d = .tup [.int a, .int b]
  | [], _, _, h => by simp [zipL] at h
  | _ :: _, [], _, h => by simp [zipL] at h
  | a :: l, b :: m, d, h => by
    simp [zipL] at h
    rcases h with rfl | h
    · exact ⟨a, b, rfl⟩
    · exact zipL_mem l m d h
theorem sem_is_search (ds M Q E) (hl : ds.length = 1) (h : sp_is_search ds M Q E) : bintrees.t_is_search sp_keys_in (dEndsG Q E) (dstart 4 ds) M := by
  obtain ⟨α, f, t, rfl, hz, hQ⟩ := h
  simp [bintrees.t_is_search, dLc]
  refine ⟨α, f, t, rfl, hz, ?_⟩
  simp
  intro p hp
  rw [gcut_from (by decide)]
  refine wLc_map (fun d => match d with | .tup [.int a, .int b] => .bl (decide (a < b)) | _ => .non) _ (fun d hd acc' R hR => ?_) ?_ (fun acc' => trivial) ?_
  · have hd' : d ∈ zipL (t.keys.map D.int) ((t.keys.drop 1).map D.int) := by simpa using hd
    obtain ⟨a, b, rfl⟩ := zipL_mem _ _ d hd'
    simpa using hR
  · rw [zipL_len]; simp [keys_len]; omega
  · obtain ⟨bs, h1, h2⟩ := zip_all t.keys
    simp only [Int.toNat_one]
    rw [h1]
    simp [listB_of mup_same, h2]
    exact gcQ.of (.new (.refl M) hp) hQ

/-! ### look -/
def lk : Tr α → Int → Bool × Int
  | .nil, _ => (false, 0)
  | .node l k r _, x => if k = x then (true, 1) else if x < k then ((lk l x).1, (lk l x).2 + 1) else ((lk r x).1, (lk r x).2 + 1)
def sp_look : DSp := fun ds M Q E => ∃ (α : Type) (f : α → D) (t : Tr α) (x : Int), ds = [t.enc f, .int x] ∧ Q (.tup [.bl (lk t x).1, .int (lk t x).2]) M
theorem look_loop {f : α → D} {x : Int} {N : DEn} : ∀ (t : Tr α) (n : Int) (M : Mp), (∀ b, b = (lk t x).1 → (if b = true then N.rt (.tup [.bl true, .int (n + (lk t x).2)]) M else N.nx [some .non, some (.int x), some (.int (n + (lk t x).2))] M)) →
    ∃ k, wWhile (dB (dBin (isD true) (dVar 0) (dC .non))) (dSeq (dAug 2 (dC (.int 1)) addI) (dSeq (dIfS (dB (dBin (eqD false) (dBin ixA (dVar 0) (dC (.int 1))) (dVar 1))) (dRet (dTup (dCons (dC (.bl true)) (dCons (dVar 2) (dNil))))) (dNext)) (dAsg (dIf (dB (dBin ltD (dVar 1) (dBin ixA (dVar 0) (dC (.int 1))))) (dBin ixA (dVar 0) (dC (.int 0))) (dBin ixA (dVar 0) (dC (.int 2)))) (dgName 0)))) N k [some (t.enc f), some (.int x), some (.int n)] M
  | .nil, n, M, h => ⟨1, by simpa [wWhile, lk] using h⟩
  | .node l k r m, n, M, h => by
    by_cases hk : k = x
    · refine ⟨1, ?_⟩
      simp [lk, hk] at h
      simpa [wWhile, hk] using h
    · by_cases hx : x < k
      · obtain ⟨j, hj⟩ := look_loop (f := f) (N := N) l (n + 1) M (by simpa [lk, hk, hx, Int.add_assoc, Int.add_comm, Int.add_left_comm] using h)
        refine ⟨j + 1, ?_⟩
        unfold wWhile
        generalize wWhile _ _ N j = W at hj ⊢
        simpa [hk, hx] using hj
      · obtain ⟨j, hj⟩ := look_loop (f := f) (N := N) r (n + 1) M (by simpa [lk, hk, hx, Int.add_assoc, Int.add_comm, Int.add_left_comm] using h)
        refine ⟨j + 1, ?_⟩
        unfold wWhile
        generalize wWhile _ _ N j = W at hj ⊢
        simpa [hk, hx] using hj
theorem sem_look (ds M Q E) (hl : ds.length = 2) (h : sp_look ds M Q E) : bintrees.t_look (dEndsG Q E) (dstart 3 ds) M := by
  obtain ⟨α, f, t, x, rfl, hQ⟩ := h
  simp [bintrees.t_look, dWhile]
  refine look_loop t 0 M fun b hb => ?_
  cases b with
  | true => simp [← hb] at hQ; simpa using gcQ.same hQ
  | false => simp [← hb] at hQ; simpa using gcQ.same hQ

/-! ### levels -/
def lv : Tr α → Int → List (Int × Int)
  | .nil, _ => []
  | .node l k r _, d => (k, d) :: (lv r (d + 1) ++ lv l (d + 1))
theorem lv_len : ∀ (t : Tr α) (d : Int), (lv t d).length = t.size
  | .nil, _ => rfl
  | .node l k r m, d => by simp [lv, lv_len l, lv_len r]; omega
abbrev encP (b : Int × Int) : D := .tup [.int b.1, .int b.2]
def lvS (t : Tr α) : List (Int × Int) := (lv t 0).mergeSort fun p q => decide (p.1 < q.1 ∨ (p.1 = q.1 ∧ p.2 ≤ q.2))
def sp_levels : DSp := fun ds M Q E => ∃ (α : Type) (f : α → D) (t : Tr α), ds = [t.enc f] ∧ t.size ≤ 1000000 ∧ ∀ p, M p = none → Q (.ref p) (mup M p (.lst ((lvS t).map encP)))
def cost : List (Tr α × Int) → Nat
  | [] => 0
  | s :: S => 2 * s.1.size + 1 + cost S
def lvs : List (Tr α × Int) → List (Int × Int)
  | [] => []
  | s :: S => lv s.1 s.2 ++ lvs S
abbrev encL (f : α → D) (s : Tr α × Int) : D := .tup [s.1.enc f, .int s.2]
theorem lvs_len : ∀ S : List (Tr α × Int), (lvs S).length ≤ cost S
  | [] => Nat.le_refl _
  | s :: S => by have := lvs_len S; simp [lvs, cost, lv_len]; omega
theorem cost_len : ∀ S : List (Tr α × Int), S.length ≤ cost S
  | [] => Nat.le_refl _
  | s :: S => by have := cost_len S; simp [cost]; omega
abbrev bLevels : TDS := (dSeq (dAsg (dML0 (chL fPop) (dVar 2)) (dgTup 2 (dgCons (dgName 3) (dgCons (dgName 4) (dgNil))))) (dIfS (dB (dBin (isD true) (dVar 3) (dC .non))) (dSeq (dDrop (dML (chL fAppend) (dVar 1) (dCons (dTup (dCons (dBin ixA (dVar 3) (dC (.int 1))) (dCons (dVar 4) (dNil)))) dNil))) (dSeq (dDrop (dML (chL fAppend) (dVar 2) (dCons (dTup (dCons (dBin ixA (dVar 3) (dC (.int 0))) (dCons (dBin addD (dVar 4) (dC (.int 1))) (dNil)))) dNil))) (dDrop (dML (chL fAppend) (dVar 2) (dCons (dTup (dCons (dBin ixA (dVar 3) (dC (.int 2))) (dCons (dBin addD (dVar 4) (dC (.int 1))) (dNil)))) dNil))))) (dNext)))
theorem levels_loop {f : α → D} {N : DEn} {p1 p2 : Addr} (hp : p1 ≠ p2) {x : D} : ∀ (n : Nat) (S : List (Tr α × Int)) (F : List (Int × Int)) (o3 o4 : Option D) (M : Mp) (hn : cost S = n) (h1 : M p1 = some (.lst (F.map encP))) (h2 : M p2 = some (.lst (S.reverse.map (encL f)))) (hz : F.length + cost S ≤ 3000001)
    (fin : ∀ M' o3 o4, EqOff [p1, p2] M M' → M' p1 = some (.lst ((F ++ lvs S).map encP)) → N.nx [some x, some (.ref p1), some (.ref p2), o3, o4] M'),
    wWhile (dTru (dVar 2)) bLevels N (n + 1) [some x, some (.ref p1), some (.ref p2), o3, o4] M := by
  intro n
  induction n using Nat.strongRecOn with
  | _ n ih =>
    intro S F o3 o4 M hn h1 h2 hz fin
    cases S with
    | nil =>
      have := fin M o3 o4 .refl (by simpa [lvs] using h1)
      unfold wWhile
      simpa [h2] using this
    | cons s S =>
      obtain ⟨t, d⟩ := s
      cases t with
      | nil =>
        simp [cost] at hn hz
        obtain ⟨n, rfl⟩ : ∃ n', n = n' + 1 := ⟨n - 1, by omega⟩
        have hl := cost_len S
        have go := ih n (by omega) S F (some .non) (some (.int d)) (mup M p2 (.lst (S.reverse.map (encL f)))) (by omega) (by rw [mup_ne hp]; exact h1) (by rw [mup_same]) (by omega) fun M' o3 o4 g1 g2 => fin M' o3 o4 (EqOff.trans (EqOff.refl.mup (by simp)) g1) (by simpa [lvs, lv] using g2)
        unfold wWhile
        generalize wWhile (dTru (dVar 2)) bLevels N (n + 1) = W at go ⊢
        simp [h2] at go ⊢
        exact ⟨by omega, go⟩
      | node l k r m =>
        simp [cost] at hn hz
        obtain ⟨n, rfl⟩ : ∃ n', n = n' + 1 := ⟨n - 1, by omega⟩
        have hl := cost_len S
        have go := ih n (by omega) ((r, d + 1) :: (l, d + 1) :: S) (F ++ [(k, d)]) (some (.tup [l.enc f, .int k, r.enc f, f m])) (some (.int d)) (mup (mup M p1 (.lst ((F ++ [(k, d)]).map encP))) p2 (.lst (((r, d + 1) :: (l, d + 1) :: S).reverse.map (encL f)))) (by simp [cost]; omega) (by rw [mup_ne hp, mup_same]) (by rw [mup_same]) (by simp [cost]; omega) fun M' o3 o4 g1 g2 => fin M' o3 o4 (EqOff.trans ((EqOff.refl.mup (by simp)).mup (by simp)) g1) (by simpa [lvs, lv] using g2)
        unfold wWhile
        generalize wWhile (dTru (dVar 2)) bLevels N (n + 1) = W at go ⊢
        simp [h2, h1, mup_ne hp, mup_ne hp.symm] at go ⊢
        exact ⟨by omega, by omega, by omega, by omega, go⟩
theorem sem_levels (ds M Q E) (hl : ds.length = 1) (h : sp_levels ds M Q E) : bintrees.t_levels (dEndsG Q E) (dstart 5 ds) M := by
  obtain ⟨α, f, t, rfl, hz, hQ⟩ := h
  show (dSeq _ (dSeq _ (dSeq (dWhile (dTru (dVar 2)) bLevels) _))) _ _ _
  generalize hW : (dWhile (dTru (dVar 2)) bLevels) = W
  simp
  intro p1 hp1 p2 hp2
  obtain ⟨hn, hp2'⟩ := none_ne hp2
  rw [← hW]
  refine ⟨_, levels_loop (f := f) hn.symm _ [(t, 0)] [] none none _ rfl (by rw [mup_ne hn.symm, mup_same]; rfl) (by rw [mup_same]; rfl) (by simp [cost]; omega) fun M' o3 o4 g1 g2 => ?_⟩
  simp [lvs] at g2
  simp [g2]
  refine ⟨okSort_ii (by rw [lv_len]; omega), fun p hp => ?_⟩
  rw [sortXs_ii (fun b : Int × Int => b.1) (fun b => b.2)]
  refine gcQ.of (M1 := mup M p (.lst ((lvS t).map encP))) ?_ (hQ p ?_)
  · exact MLe.mup (EqOff.le (ps := [p1, p2]) (EqOff.trans ((EqOff.refl.mup (by simp)).mup (by simp)) g1) (by simp [hp1, hp2']))
  · exact EqOff.none (ps := [p1, p2]) (EqOff.trans ((EqOff.refl.mup (by simp)).mup (by simp)) g1) (by simp [hp1, hp2']) hp

/-! ### height -/
theorem foldl_max {n h : Int} : ∀ {ns : List Int} {n : Int}, (∀ x ∈ n :: ns, x ≤ h) → h ∈ n :: ns → ns.foldl max n = h
  | [], n, _, h2 => (List.mem_singleton.mp h2).symm
  | m :: ns, n, h1, h2 => by
    rw [List.foldl_cons]
    refine foldl_max (n := n) (fun x hx => ?_) ?_
    · rcases List.mem_cons.mp hx with rfl | hx
      · have a := h1 n (by simp); have b := h1 m (by simp); omega
      · exact h1 x (by simp [hx])
    · have a := h1 n (by simp)
      have b := h1 m (by simp)
      rcases List.mem_cons.mp h2 with rfl | h2
      · exact List.mem_cons.mpr (.inl (by omega))
      · rcases List.mem_cons.mp h2 with rfl | h2
        · exact List.mem_cons.mpr (.inl (by omega))
        · exact List.mem_cons_of_mem _ h2
theorem lv_le : ∀ (t : Tr α) (d : Int), ∀ p ∈ lv t d, p.2 + 1 ≤ d + t.ht
  | .nil, _, p, h => by simp [lv] at h
  | .node l k r m, d, p, h => by
    simp only [lv, List.mem_cons, List.mem_append] at h
    simp only [Tr.ht]
    rcases h with rfl | h | h
    · omega
    · have := lv_le r (d + 1) p h; omega
    · have := lv_le l (d + 1) p h; omega
theorem lv_has : ∀ (t : Tr α) (d : Int), t ≠ .nil → ∃ p ∈ lv t d, p.2 + 1 = d + t.ht
  | .nil, _, h => absurd rfl h
  | .node l k r m, d, _ => by
    simp only [lv, List.mem_cons, List.mem_append]
    by_cases hl : l = .nil
    · by_cases hr : r = .nil
      · subst hl; subst hr
        exact ⟨(k, d), .inl rfl, by simp⟩
      · obtain ⟨p, h1, h2⟩ := lv_has r (d + 1) hr
        refine ⟨p, .inr (.inl h1), ?_⟩
        subst hl; simp; omega
    · by_cases hr : r = .nil
      · obtain ⟨p, h1, h2⟩ := lv_has l (d + 1) hl
        refine ⟨p, .inr (.inr h1), ?_⟩
        subst hr; simp; omega
      · obtain ⟨p, h1, h2⟩ := lv_has l (d + 1) hl
        obtain ⟨p', h1', h2'⟩ := lv_has r (d + 1) hr
        by_cases h : l.ht ≤ r.ht
        · exact ⟨p', .inr (.inl h1'), by simp; omega⟩
        · exact ⟨p, .inr (.inr h1), by simp; omega⟩
def sp_height : DSp := fun ds M Q E => ∃ (α : Type) (f : α → D) (t : Tr α), ds = [t.enc f] ∧ t.size ≤ 1000000 ∧ Q (.int t.ht) M
theorem lvS_perm (t : Tr α) : (lvS t).Perm (lv t 0) := List.mergeSort_perm _ _
theorem sem_height (ds M Q E) (hl : ds.length = 1) (h : sp_height ds M Q E) : bintrees.t_height sp_levels (dEndsG Q E) (dstart 3 ds) M := by
  obtain ⟨α, f, t, rfl, hz, hQ⟩ := h
  simp [bintrees.t_height, dLc]
  refine ⟨α, f, t, rfl, hz, fun p hp => ?_⟩
  simp
  intro p2 hp2
  obtain ⟨hn, hp2'⟩ := none_ne hp2
  refine wLc_map (fun d => match d with | .tup [_, .int d] => .int (d + 1) | _ => .non) _ (fun d hd acc' R hR => ?_) ?_ (fun acc' => ?_) ?_
  · obtain ⟨s, hs, rfl⟩ := List.mem_map.mp hd
    simpa using hR
  · simp [(lvS_perm t).length_eq, lv_len]; omega
  · exact isAt_mup mup_same hp2
  · have e : (List.map (fun d => match d with | .tup [_, .int d] => .int (d + 1) | _ => .non) ((lvS t).map encP)) = ((lvS t).map fun b => b.2 + 1).map D.int := by
      rw [List.map_map, List.map_map]; rfl
    rw [e]
    simp only [listI_mup]
    have gc : ∀ z, gcQ Q (.int t.ht) (mup (mup M p (.lst (List.map encP (lvS t)))) p2 z) := fun z => gcQ.of (MLe.new (.new (.refl M) hp) hp2) hQ
    cases hL : (lvS t).map fun b => b.2 + 1 with
    | nil =>
      cases t with
      | nil => simpa using gc _
      | node l k r m =>
        have := congrArg List.length hL
        rw [List.length_map, (lvS_perm _).length_eq, lv_len] at this
        simp at this
    | cons n ns =>
      have hm : ∀ x, x ∈ n :: ns ↔ ∃ b ∈ lv t 0, b.2 + 1 = x := fun x => by
        rw [← hL, List.mem_map]
        exact ⟨fun ⟨b, h1, h2⟩ => ⟨b, (lvS_perm t).mem_iff.mp h1, h2⟩, fun ⟨b, h1, h2⟩ => ⟨b, (lvS_perm t).mem_iff.mpr h1, h2⟩⟩
      have ht : t ≠ .nil := by rintro rfl; have := congrArg List.length hL; rw [List.length_map, (lvS_perm _).length_eq, lv_len] at this; simp at this
      have e2 : ns.foldl max n = (t.ht : Int) := foldl_max (n := n) (fun x hx => by
          obtain ⟨b, h1, rfl⟩ := (hm x).mp hx
          have := lv_le t 0 b h1; omega) ((hm _).mpr (by
          obtain ⟨b, h1, h2⟩ := lv_has t 0 ht
          exact ⟨b, h1, by omega⟩))
      have hlen := congrArg List.length hL
      rw [List.length_map, (lvS_perm _).length_eq, lv_len] at hlen
      simp at hlen
      simp [e2]
      exact ⟨by omega, gc _⟩
end DL

set_option Elab.async false
set_option linter.all false
set_option maxRecDepth 100000
set_option maxHeartbeats 4000000
namespace DL
open PySem PySem.Spec PyProof.Rows L2
open Tr

/-! ## keys -/
def numB : D → Bool
  | .int _ => true
  | _ => false
def sp_is_number : DSp := fun ds M Q E => ∃ d, ds = [d] ∧ (tyD d M).isSome = true ∧ Q (.bl (numB d)) M
theorem tyD_num {d : D} {M : Mp} {t : String} (h : tyD d M = some t) : numB d = (isiB t "int" && !isiB t "bool") := by
  unfold tyD at h
  split at h <;> first | (cases h; rfl) | (cases h; done) | skip
  split at h <;> cases h <;> rfl
theorem sem_is_number (ds M Q E) (hl : ds.length = 1) (h : sp_is_number ds M Q E) : keys.t_is_number (dEndsG Q E) (dstart 1 ds) M := by
  obtain ⟨d, rfl, ht, hQ⟩ := h
  cases e : tyD d M with
  | none => rw [e] at ht; cases ht
  | some t =>
    rw [tyD_num e] at hQ
    have e2 : ∀ c, isiD c d M = fun Q => Q (.bl (isiB t c)) M := fun c => by funext Q; unfold isiD; rw [e]
    simp only [keys.t_is_number, dRet, dAndV, dUn, dVar, dstart, dNotV]
    simp only [List.map_cons, List.map_nil, List.length_cons, List.length_nil, Nat.sub_self, List.replicate, List.append_nil, List.getElem?_cons_zero, e2, dtru]
    cases h1 : isiB t "int" with
    | true =>
      rw [h1] at hQ
      simpa [e2] using gcQ.same hQ
    | false =>
      rw [h1] at hQ
      simpa [h1] using gcQ.same hQ
def sp_check_key : DSp := fun ds M Q E => ∃ k : Int, ds = [.int k] ∧ -1000000 ≤ k ∧ k ≤ 1000000 ∧ Q .non M
theorem sem_check_key (ds M Q E) (hl : ds.length = 1) (h : sp_check_key ds M Q E) : keys.t_check_key sp_is_number (dEndsG Q E) (dstart 1 ds) M := by
  obtain ⟨k, rfl, h1, h2, hQ⟩ := h
  simp [keys.t_check_key, sp_is_number, numB, h1, h2]
  exact gcQ.same hQ

/-! ## trees by heights -/
abbrev TI := Tr Int
abbrev eI (t : TI) : D := t.enc D.int
@[simp] theorem eI_inj {t u : TI} : t.enc D.int = u.enc D.int ↔ t = u := encI_inj
def hof : TI → Int
  | .nil => 0
  | .node _ _ _ h => h
@[simp] theorem hof_nil : hof .nil = 0 := rfl
@[simp] theorem hof_node {l r : TI} {k h : Int} : hof (.node l k r h) = h := rfl
@[simp] def HM : TI → Prop
  | .nil => True
  | .node l k r m => m = max l.ht r.ht + 1 ∧ HM l ∧ HM r
theorem hof_HM {t : TI} (h : HM t) : hof t = t.ht := by
  cases t with
  | nil => rfl
  | node l k r m => simp at h; simp [h.1]
def mkn (l : TI) (k : Int) (r : TI) : TI := .node l k r (max (hof l) (hof r) + 1)
theorem HM_mkn {l r : TI} {k : Int} (hl : HM l) (hr : HM r) : HM (mkn l k r) := by
  simp [mkn, hl, hr, hof_HM hl, hof_HM hr]; omega
@[simp] theorem keys_mkn {l r : TI} {k : Int} : (mkn l k r).keys = l.keys ++ k :: r.keys := rfl
@[simp] theorem ht_mkn {l r : TI} {k : Int} : (mkn l k r).ht = max l.ht r.ht + 1 := rfl
@[simp] theorem size_mkn {l r : TI} {k : Int} : (mkn l k r).size = l.size + r.size + 1 := rfl
@[simp] theorem hof_mkn {l r : TI} {k : Int} : hof (mkn l k r) = max (hof l) (hof r) + 1 := rfl
def bal (l : TI) (k : Int) (r : TI) : TI × Int :=
  if hof r + 1 < hof l then
    match l with
    | .node a k' b _ => if hof b ≤ hof a then (mkn a k' (mkn b k r), 1) else match b with
        | .node b0 kb b2 _ => (mkn (mkn a k' b0) kb (mkn b2 k r), 2)
        | .nil => (mkn l k r, 0)
    | .nil => (mkn l k r, 0)
  else if hof l + 1 < hof r then
    match r with
    | .node a k' b _ => if hof a ≤ hof b then (mkn (mkn l k a) k' b, 1) else match a with
        | .node a0 ka a2 _ => (mkn (mkn l k a0) ka (mkn a2 k' b), 2)
        | .nil => (mkn l k r, 0)
    | .nil => (mkn l k r, 0)
  else (mkn l k r, 0)
theorem HM_bal {l r : TI} {k : Int} (hl : HM l) (hr : HM r) : HM (bal l k r).1 := by
  unfold bal
  split
  · split
    · simp at hl
      split
      · exact HM_mkn hl.2.1 (HM_mkn hl.2.2 hr)
      · split
        · simp at hl
          exact HM_mkn (HM_mkn hl.2.1 hl.2.2.2.1) (HM_mkn hl.2.2.2.2 hr)
        · exact HM_mkn (by simpa using hl) hr
    · exact HM_mkn hl hr
  · split
    · split
      · simp at hr
        split
        · exact HM_mkn (HM_mkn hl hr.2.1) hr.2.2
        · split
          · simp at hr
            exact HM_mkn (HM_mkn hl hr.2.1.2.1) (HM_mkn hr.2.1.2.2 hr.2.2)
          · exact HM_mkn hl (by simpa using hr)
      · exact HM_mkn hl hr
    · exact HM_mkn hl hr
theorem keys_bal {l r : TI} {k : Int} : (bal l k r).1.keys = l.keys ++ k :: r.keys := by
  unfold bal
  split
  · split
    · split
      · simp
      · split <;> simp
    · simp
  · split
    · split
      · split
        · simp
        · split <;> simp
      · simp
    · simp
def putA : TI → Int → TI × Bool × Int × Int
  | .nil, x => (mkn .nil x .nil, true, 0, 0)
  | .node l h r m, x =>
    if x = h then (.node l h r m, false, 1, 0)
    else if x < h then
      (if (putA l x).2.1 then (bal (putA l x).1 h r).1 else .node l h r m, (putA l x).2.1, (putA l x).2.2.1 + 1, (putA l x).2.2.2 + (bal (putA l x).1 h r).2)
    else
      (if (putA r x).2.1 then (bal l h (putA r x).1).1 else .node l h r m, (putA r x).2.1, (putA r x).2.2.1 + 1, (putA r x).2.2.2 + (bal l h (putA r x).1).2)
theorem HM_put : ∀ {t : TI} {x : Int}, HM t → HM (putA t x).1
  | .nil, x, _ => HM_mkn (by simp) (by simp)
  | .node l h r m, x, hm => by
    have hm' := hm
    simp at hm'
    unfold putA
    split
    · exact hm
    · split
      · split
        · exact HM_bal (HM_put hm'.2.1) hm'.2.2
        · exact hm
      · split
        · exact HM_bal hm'.2.1 (HM_put hm'.2.2)
        · exact hm
/-- least key, the rest, looks, turns -/
def leastA : TI → Int × TI × Int × Int
  | .nil => (0, .nil, 0, 0)
  | .node .nil h r _ => (h, r, 1, 0)
  | .node (.node a b c d) h r _ => ((leastA (.node a b c d)).1, (bal (leastA (.node a b c d)).2.1 h r).1, (leastA (.node a b c d)).2.2.1 + 1, (leastA (.node a b c d)).2.2.2 + (bal (leastA (.node a b c d)).2.1 h r).2)
def dropA : TI → Int → TI × Bool × Int × Int
  | .nil, _ => (.nil, false, 0, 0)
  | .node l h r m, x =>
    if x < h then ((bal (dropA l x).1 h r).1, (dropA l x).2.1, (dropA l x).2.2.1 + 1, (dropA l x).2.2.2 + (bal (dropA l x).1 h r).2)
    else if h < x then ((bal l h (dropA r x).1).1, (dropA r x).2.1, (dropA r x).2.2.1 + 1, (dropA r x).2.2.2 + (bal l h (dropA r x).1).2)
    else match r with
      | .nil => (l, true, 1, 0)
      | .node a b c d => ((bal l (leastA (.node a b c d)).1 (leastA (.node a b c d)).2.1).1, true, (leastA (.node a b c d)).2.2.1 + 1, (leastA (.node a b c d)).2.2.2 + (bal l (leastA (.node a b c d)).1 (leastA (.node a b c d)).2.1).2)
theorem HM_least : ∀ {t : TI}, HM t → HM (leastA t).2.1
  | .nil, _ => by simp [leastA]
  | .node .nil h r m, hm => by simp at hm; simp [leastA, hm]
  | .node (.node a b c d) h r m, hm => by
    have h1 : HM (.node a b c d) := by simp at hm ⊢; exact hm.2.1
    have h2 : HM r := by simp at hm; exact hm.2.2
    simp only [leastA]
    exact HM_bal (HM_least h1) h2
theorem HM_drop : ∀ {t : TI} {x : Int}, HM t → HM (dropA t x).1
  | .nil, x, _ => by simp [dropA]
  | .node l h r m, x, hm => by
    have hm' := hm
    simp at hm'
    unfold dropA
    split
    · exact HM_bal (HM_drop hm'.2.1) hm'.2.2
    · split
      · exact HM_bal hm'.2.1 (HM_drop hm'.2.2)
      · split
        · exact hm'.2.1
        · exact HM_bal hm'.2.1 (HM_least hm'.2.2)

/-! ### what the defs promise -/
def sp_height_of : DSp := fun ds M Q E => ∃ t : TI, ds = [eI t] ∧ Q (.int (hof t)) M
theorem sem_height_of (ds M Q E) (hl : ds.length = 1) (h : sp_height_of ds M Q E) : heights.t_height_of (dEndsG Q E) (dstart 1 ds) M := by
  obtain ⟨t, rfl, h⟩ := h
  cases t <;> simpa [heights.t_height_of] using gcQ.same h
@[simp] theorem sp_height_of_eq {t : TI} {M : Mp} {Q : DQ} {E : DX} : sp_height_of [t.enc D.int] M Q E = Q (.int (hof t)) M :=
  propext ⟨fun ⟨t', e, h⟩ => by simp at e; subst e; exact h, fun h => ⟨_, rfl, h⟩⟩
def sp_node : DSp := fun ds M Q E => ∃ (l r : TI) (k : Int), ds = [eI l, .int k, eI r] ∧ Q (eI (mkn l k r)) M
theorem sem_node (ds M Q E) (hl : ds.length = 3) (h : sp_node ds M Q E) : heights.t_node sp_height_of (dEndsG Q E) (dstart 3 ds) M := by
  obtain ⟨l, r, k, rfl, h⟩ := h
  simp [heights.t_node]
  have e : (if hof l < hof r then hof r else hof l) = max (hof l) (hof r) := by omega
  rw [e]
  exact gcQ.same h
@[simp] theorem sp_node_eq {l r : TI} {k : Int} {M : Mp} {Q : DQ} {E : DX} : sp_node [l.enc D.int, .int k, r.enc D.int] M Q E = Q ((mkn l k r).enc D.int) M :=
  propext ⟨fun ⟨l', r', k', e, h⟩ => by simp at e; obtain ⟨rfl, rfl, rfl⟩ := e; exact h, fun h => ⟨_, _, _, rfl, h⟩⟩
@[simp] theorem sp_node_n {r : TI} {k : Int} {M : Mp} {Q : DQ} {E : DX} : sp_node [.non, .int k, r.enc D.int] M Q E = Q ((mkn .nil k r).enc D.int) M := sp_node_eq (l := .nil)
@[simp] theorem sp_node_nn {k : Int} {M : Mp} {Q : DQ} {E : DX} : sp_node [.non, .int k, .non] M Q E = Q ((mkn .nil k .nil).enc D.int) M := sp_node_eq (l := .nil) (r := .nil)
def sp_balanced : DSp := fun ds M Q E => ∃ (l r : TI) (k : Int), ds = [eI l, .int k, eI r] ∧ HM l ∧ HM r ∧ Q (.tup [eI (bal l k r).1, .int (bal l k r).2]) M
theorem sem_balanced (ds M Q E) (hl : ds.length = 3) (h : sp_balanced ds M Q E) : heights.t_balanced sp_height_of sp_node (dEndsG Q E) (dstart 7 ds) M := by
  obtain ⟨l, r, k, rfl, ml, mr, h⟩ := h
  have hl := hof_HM ml
  have hr := hof_HM mr
  simp [heights.t_balanced]
  unfold bal at h
  by_cases h1 : hof r + 1 < hof l
  · rw [if_pos h1] at h ⊢
    cases l with
    | nil => simp at h1; omega
    | node a k' b m =>
      simp at ml
      have ha := hof_HM ml.2.1
      have hb := hof_HM ml.2.2
      simp only at h
      simp
      by_cases h2 : hof b ≤ hof a
      · rw [if_pos h2] at h ⊢
        exact gcQ.same h
      · rw [if_neg h2] at h ⊢
        cases b with
        | nil => simp at h2; omega
        | node b0 kb b2 mb =>
          simp
          exact gcQ.same h
  · rw [if_neg h1] at h ⊢
    by_cases h3 : hof l + 1 < hof r
    · rw [if_pos h3] at h ⊢
      cases r with
      | nil => simp at h3; omega
      | node a k' b m =>
        simp at mr
        have ha := hof_HM mr.2.1
        have hb := hof_HM mr.2.2
        simp only at h
        simp
        by_cases h2 : hof a ≤ hof b
        · rw [if_pos h2] at h ⊢
          exact gcQ.same h
        · rw [if_neg h2] at h ⊢
          cases a with
          | nil => simp at h2; omega
          | node b0 kb b2 mb =>
            simp
            exact gcQ.same h
    · rw [if_neg h3] at h ⊢
      exact gcQ.same h
@[simp] theorem sp_balanced_eq {l r : TI} {k : Int} {M : Mp} {Q : DQ} {E : DX} : sp_balanced [l.enc D.int, .int k, r.enc D.int] M Q E = (HM l ∧ HM r ∧ Q (.tup [(bal l k r).1.enc D.int, .int (bal l k r).2]) M) :=
  propext ⟨fun ⟨l', r', k', e, h⟩ => by simp at e; obtain ⟨rfl, rfl, rfl⟩ := e; exact h, fun h => ⟨_, _, _, rfl, h⟩⟩
def sp_put_in (n : Nat) : DSp := fun ds M Q E => ∃ (t : TI) (x : Int), ds = [t.enc D.int, .int x] ∧ HM t ∧ t.ht < n ∧ Q (.tup [(putA t x).1.enc D.int, .bl (putA t x).2.1, .int (putA t x).2.2.1, .int (putA t x).2.2.2]) M
@[simp] theorem sp_put_in_eq {n : Nat} {t : TI} {x : Int} {M : Mp} {Q : DQ} {E : DX} : sp_put_in n [t.enc D.int, .int x] M Q E = (HM t ∧ t.ht < n ∧ Q (.tup [(putA t x).1.enc D.int, .bl (putA t x).2.1, .int (putA t x).2.2.1, .int (putA t x).2.2.2]) M) :=
  propext ⟨fun ⟨t', x', e, h⟩ => by simp at e; obtain ⟨rfl, rfl⟩ := e; exact h, fun h => ⟨_, _, rfl, h⟩⟩
theorem sem_put_in (n : Nat) (ds M Q E) (hl : ds.length = 2) (h : sp_put_in (n + 1) ds M Q E) : heights.t_put_in sp_node (sp_put_in n) sp_balanced (dEndsG Q E) (dstart 12 ds) M := by
  obtain ⟨t, x, rfl, hm, hh, h⟩ := h
  cases t with
  | nil =>
    simp [heights.t_put_in]
    simp [putA] at h
    exact gcQ.same h
  | node l k r m =>
    have hm' := hm
    simp at hm' hh
    simp [heights.t_put_in]
    unfold putA at h
    by_cases h1 : x = k
    · rw [if_pos h1] at h ⊢
      simpa using gcQ.same h
    · rw [if_neg h1] at h ⊢
      by_cases h2 : x < k
      · rw [if_pos h2] at h ⊢
        refine ⟨hm'.2.1, by omega, HM_put hm'.2.1, hm'.2.2, ?_⟩
        cases h3 : (putA l x).2.1 <;> (rw [h3] at h; simpa using gcQ.same h)
      · rw [if_neg h2] at h ⊢
        refine ⟨hm'.2.2, by omega, hm'.2.1, HM_put hm'.2.2, ?_⟩
        cases h3 : (putA r x).2.1 <;> (rw [h3] at h; simpa using gcQ.same h)
def sp_put : DSp := fun ds M Q E => ∃ (t : TI) (x : Int), ds = [t.enc D.int, .int x] ∧ HM t ∧ t.ht < 60 ∧ -1000000 ≤ x ∧ x ≤ 1000000 ∧ Q (.tup [(putA t x).1.enc D.int, .bl (putA t x).2.1, .int (putA t x).2.2.1, .int (putA t x).2.2.2]) M
@[simp] theorem sp_check_key_eq {x : Int} {M : Mp} {Q : DQ} {E : DX} : sp_check_key [.int x] M Q E = (-1000000 ≤ x ∧ x ≤ 1000000 ∧ Q .non M) :=
  propext ⟨fun ⟨x', e, h⟩ => by simp at e; subst e; exact h, fun h => ⟨_, rfl, h⟩⟩
theorem sem_put (ds M Q E) (hl : ds.length = 2) (h : sp_put ds M Q E) : heights.t_put sp_check_key (sp_put_in 60) (dEndsG Q E) (dstart 2 ds) M := by
  obtain ⟨t, x, rfl, hm, hh, h1, h2, h⟩ := h
  simp [heights.t_put]
  exact ⟨h1, h2, hm, hh, gcQ.same h⟩
def sp_least (n : Nat) : DSp := fun ds M Q E => ∃ t : TI, ds = [t.enc D.int] ∧ t ≠ .nil ∧ HM t ∧ t.ht < n ∧ Q (.tup [.int (leastA t).1, (leastA t).2.1.enc D.int, .int (leastA t).2.2.1, .int (leastA t).2.2.2]) M
@[simp] theorem sp_least_eq {n : Nat} {t : TI} {M : Mp} {Q : DQ} {E : DX} : sp_least n [t.enc D.int] M Q E = (t ≠ .nil ∧ HM t ∧ t.ht < n ∧ Q (.tup [.int (leastA t).1, (leastA t).2.1.enc D.int, .int (leastA t).2.2.1, .int (leastA t).2.2.2]) M) :=
  propext ⟨fun ⟨t', e, h⟩ => by simp at e; subst e; exact h, fun h => ⟨_, rfl, h⟩⟩
theorem sp_least_node {n : Nat} {l r : TI} {k m : Int} {M : Mp} {Q : DQ} {E : DX} : sp_least n [.tup [l.enc D.int, .int k, r.enc D.int, .int m]] M Q E = (HM (.node l k r m) ∧ (Tr.node l k r m).ht < n ∧ Q (.tup [.int (leastA (.node l k r m)).1, (leastA (.node l k r m)).2.1.enc D.int, .int (leastA (.node l k r m)).2.2.1, .int (leastA (.node l k r m)).2.2.2]) M) := by
  have := sp_least_eq (n := n) (t := .node l k r m) (M := M) (Q := Q) (E := E)
  simpa using this
theorem sem_least (n : Nat) (ds M Q E) (hl : ds.length = 1) (h : sp_least (n + 1) ds M Q E) : heights.t_least_taken (sp_least n) sp_balanced (dEndsG Q E) (dstart 11 ds) M := by
  obtain ⟨t, rfl, hn, hm, hh, h⟩ := h
  cases t with
  | nil => exact absurd rfl hn
  | node l k r m =>
    have hm' := hm
    simp at hm' hh
    cases l with
    | nil =>
      simp [heights.t_least_taken]
      simp [leastA] at h
      exact gcQ.same h
    | node a b c d =>
      simp at hh
      simp [heights.t_least_taken, sp_least_node]
      simp only [leastA] at h
      have h2 := hm'.2.1
      simp at h2
      exact ⟨h2, by omega, HM_least hm'.2.1, hm'.2.2, gcQ.same h⟩
def sp_drop_in (n : Nat) : DSp := fun ds M Q E => ∃ (t : TI) (x : Int), ds = [t.enc D.int, .int x] ∧ HM t ∧ t.ht < n ∧ t.ht < 90 ∧ Q (.tup [(dropA t x).1.enc D.int, .bl (dropA t x).2.1, .int (dropA t x).2.2.1, .int (dropA t x).2.2.2]) M
@[simp] theorem sp_drop_in_eq {n : Nat} {t : TI} {x : Int} {M : Mp} {Q : DQ} {E : DX} : sp_drop_in n [t.enc D.int, .int x] M Q E = (HM t ∧ t.ht < n ∧ t.ht < 90 ∧ Q (.tup [(dropA t x).1.enc D.int, .bl (dropA t x).2.1, .int (dropA t x).2.2.1, .int (dropA t x).2.2.2]) M) :=
  propext ⟨fun ⟨t', x', e, h⟩ => by simp at e; obtain ⟨rfl, rfl⟩ := e; exact h, fun h => ⟨_, _, rfl, h⟩⟩
theorem sem_drop_in (n : Nat) (ds M Q E) (hl : ds.length = 2) (h : sp_drop_in (n + 1) ds M Q E) : heights.t_drop_in (sp_drop_in n) sp_balanced (sp_least 100) (dEndsG Q E) (dstart 13 ds) M := by
  obtain ⟨t, x, rfl, hm, hh, hz, h⟩ := h
  cases t with
  | nil =>
    simp [heights.t_drop_in]
    simp [dropA] at h
    exact gcQ.same h
  | node l k r m =>
    have hm' := hm
    simp at hm' hh hz
    simp [heights.t_drop_in]
    unfold dropA at h
    by_cases h1 : x < k
    · rw [if_pos h1] at h ⊢
      exact ⟨hm'.2.1, by omega, by omega, HM_drop hm'.2.1, hm'.2.2, gcQ.same h⟩
    · rw [if_neg h1] at h ⊢
      by_cases h2 : k < x
      · rw [if_pos h2] at h ⊢
        exact ⟨hm'.2.2, by omega, by omega, hm'.2.1, HM_drop hm'.2.2, gcQ.same h⟩
      · rw [if_neg h2] at h ⊢
        cases r with
        | nil => simpa using gcQ.same h
        | node a b c d =>
          have h3 := hm'.2.2
          simp at h3 hh hz
          simp [sp_least_node]
          exact ⟨h3, by omega, hm'.2.1, HM_least hm'.2.2, gcQ.same h⟩
def sp_drop : DSp := fun ds M Q E => ∃ (t : TI) (x : Int), ds = [t.enc D.int, .int x] ∧ HM t ∧ t.ht < 60 ∧ -1000000 ≤ x ∧ x ≤ 1000000 ∧ Q (.tup [(dropA t x).1.enc D.int, .bl (dropA t x).2.1, .int (dropA t x).2.2.1, .int (dropA t x).2.2.2]) M
theorem sem_drop (ds M Q E) (hl : ds.length = 2) (h : sp_drop ds M Q E) : heights.t_drop sp_check_key (sp_drop_in 60) (dEndsG Q E) (dstart 2 ds) M := by
  obtain ⟨t, x, rfl, hm, hh, h1, h2, h⟩ := h
  simp [heights.t_drop]
  exact ⟨h1, h2, hm, hh, by omega, gcQ.same h⟩

/-! ### is_right -/
def goodB : TI → Bool
  | .nil => true
  | .node l _ r m => decide (m = max (hof l) (hof r) + 1)
def nearB : TI → Bool
  | .nil => true
  | .node l _ r _ => decide ((hof l - hof r).natAbs ≤ 1)
def isRightB (t : TI) : Bool := risesB t.keys && (t.subs.all goodB && t.subs.all nearB)
def sp_is_right : DSp := fun ds M Q E => ∃ t : TI, ds = [t.enc D.int] ∧ t.size ≤ 1000000 ∧ Q (.bl (isRightB t)) M
@[simp] theorem sp_is_right_eq {t : TI} {M : Mp} {Q : DQ} {E : DX} : sp_is_right [t.enc D.int] M Q E = (t.size ≤ 1000000 ∧ Q (.bl (isRightB t)) M) :=
  propext ⟨fun ⟨t', e, h⟩ => by simp at e; subst e; exact h, fun h => ⟨_, rfl, h⟩⟩
theorem subs_mem_node {t s : TI} (h : s ∈ t.subs) : ∃ l k r m, s = .node l k r m := subs_node t s h
theorem sem_is_right (ds M Q E) (hl : ds.length = 1) (h : sp_is_right ds M Q E) : heights.t_is_right sp_walk sp_height_of sp_is_search (dEndsG Q E) (dstart 4 ds) M := by
  obtain ⟨t, rfl, hz, hQ⟩ := h
  simp [heights.t_is_right, dLc]
  refine ⟨Int, D.int, t, rfl, hz, fun p hp => ?_⟩
  simp
  intro p2 hp2
  obtain ⟨hn, hp2'⟩ := none_ne hp2
  refine wLc_of _ (fun s => .bl (goodB s)) _ (fun s hs acc' R hR => ?_) ?_ (fun acc' => ?_) ?_
  · obtain ⟨l, k, r, m, rfl⟩ := subs_mem_node hs
    have e : (if hof l < hof r then hof r else hof l) = max (hof l) (hof r) := by omega
    simpa [e, goodB] using hR
  · simp [subs_len]; omega
  · exact isAt_mup mup_same hp2
  refine ⟨Int, D.int, t, rfl, hz, fun p3 hp3 => ?_⟩
  obtain ⟨h3a, h3⟩ := none_ne hp3
  obtain ⟨h3b, h3c⟩ := none_ne h3
  simp
  intro p4 hp4
  obtain ⟨h4a, h4⟩ := none_ne hp4
  obtain ⟨h4b, h4c⟩ := none_ne h4
  obtain ⟨h4d, h4e⟩ := none_ne h4c
  refine wLc_of _ (fun s => .bl (nearB s)) _ (fun s hs acc' R hR => ?_) ?_ (fun acc' => ?_) ?_
  · obtain ⟨l, k, r, m, rfl⟩ := subs_mem_node hs
    have e2 : (decide ((if hof l - hof r < 0 then -(hof l - hof r) else hof l - hof r) ≤ 1)) = nearB (.node l k r m) := by
      simp only [nearB]; exact decide_eq_decide.mpr (by split <;> omega)
    rw [← e2] at hR
    simpa using hR
  · simp [subs_len]; omega
  · exact isAt_mup mup_same hp4
  simp
  refine ⟨Int, D.int, t, rfl, hz, ?_⟩
  have g : ∀ M', MLe M M' → ∀ b, isRightB t = b → gcQ Q (.bl b) M' := fun M' k b hb => by
    rw [← hb]; exact gcQ.of k hQ
  have k4 : ∀ z1 z2 z3 z4, MLe M (mup (mup (mup (mup M p z1) p2 z2) p3 z3) p4 z4) := fun _ _ _ _ => .fresh (.fresh (.fresh (.fresh (.refl M) hp) hp2') h3c) h4e
  simp only [dtru, listB_ne h4b.symm, listB_ne h3a.symm, listB_mupc]
  unfold isRightB at g
  cases h1 : risesB t.keys with
  | false => exact g _ (k4 _ _ _ _) _ (by rw [h1]; rfl)
  | true =>
    cases h2 : t.subs.all goodB with
    | false => simpa [h2] using g _ (k4 _ _ _ _) _ (by rw [h1, h2]; rfl)
    | true => simpa [h2] using g _ (k4 _ _ _ _) _ (by rw [h1, h2]; rfl)

/-! ### fewest, greatest_height, sparse -/
def fewP : Nat → Int × Int
  | 0 => (0, 1)
  | n + 1 => ((fewP n).2, (fewP n).1 + (fewP n).2 + 1)
def few (n : Nat) : Int := (fewP n).1
def sp_fewest : DSp := fun ds M Q E => ∃ n : Nat, ds = [.int (n : Int)] ∧ n ≤ 1000 ∧ Q (.int (few n)) M
theorem few_loop {N : DEn} {x : D} {M : Mp} : ∀ (items : List D) (m : Nat) (o3 : Option D), (∀ d ∈ items, ∃ k : Int, d = .int k) → (∀ o, N.nx [some x, some (.int (fewP (m + items.length)).1), some (.int (fewP (m + items.length)).2), o] M) →
    wFor anyM (dgName 3) (dPar 1 2 (dCons (dVar 2) (dCons (dBin addD (dBin addD (dVar 1) (dVar 2)) (dC (.int 1))) (dNil)))) N items [some x, some (.int (fewP m).1), some (.int (fewP m).2), o3] M
  | [], m, o3, _, h => ⟨trivial, h o3⟩
  | d :: items, m, o3, hi, h => by
    refine ⟨trivial, ?_⟩
    have ih := few_loop (N := N) (x := x) (M := M) items (m + 1) (some d) (fun d hd => hi d (List.mem_cons_of_mem _ hd)) (fun o => by
      have := h o
      rwa [List.length_cons, show m + (items.length + 1) = m + 1 + items.length from by omega] at this)
    generalize wFor _ _ _ N items = W at ih ⊢
    simpa [fewP] using ih
theorem range_int {lo : Int} {n : Nat} : ∀ d ∈ rangeL lo n, ∃ k : Int, d = .int k := fun d hd => by
  unfold rangeL at hd
  obtain ⟨i, _, rfl⟩ := List.mem_map.mp hd
  exact ⟨_, rfl⟩
theorem sem_fewest (ds M Q E) (hl : ds.length = 1) (h : sp_fewest ds M Q E) : heights.t_fewest (dEndsG Q E) (dstart 4 ds) M := by
  obtain ⟨n, rfl, hn, h⟩ := h
  simp [heights.t_fewest, dFor]
  refine ⟨by omega, ?_⟩
  refine few_loop (rangeL 0 n) 0 none range_int fun o => ?_
  rw [rangeL_len, Nat.zero_add]
  simp
  exact gcQ.same h
@[simp] theorem sp_fewest_eq {n : Int} {M : Mp} {Q : DQ} {E : DX} : sp_fewest [.int n] M Q E = (0 ≤ n ∧ n ≤ 1000 ∧ Q (.int (few n.toNat)) M) :=
  propext ⟨fun ⟨t', e, h⟩ => by simp at e; subst e; exact ⟨by omega, by omega, by simpa using h.2⟩, fun h => ⟨n.toNat, by rw [Int.toNat_of_nonneg h.1], by omega, h.2.2⟩⟩
theorem fewP_pos : ∀ n, 0 ≤ (fewP n).1 ∧ (fewP n).1 < (fewP n).2
  | 0 => by simp [fewP]
  | n + 1 => by have := fewP_pos n; simp [fewP]; omega
theorem few_lt (n : Nat) : few n < few (n + 1) := (fewP_pos n).2
theorem few_mono {m n : Nat} (h : m ≤ n) : few m ≤ few n := by
  induction h with
  | refl => exact Int.le_refl _
  | step h ih => exact Int.le_trans ih (Int.le_of_lt (few_lt _))
theorem few_ge : ∀ n : Nat, (n : Int) ≤ few n
  | 0 => by simp [few, fewP]
  | n + 1 => by have := few_ge n; have := few_lt n; omega
/-- the greatest height of so many -/
def sp_greatest : DSp := fun ds M Q E => ∃ (s : Int) (g : Nat), ds = [.int s] ∧ g ≤ 900 ∧ few g ≤ s ∧ s < few (g + 1) ∧ Q (.int (g : Int)) M
theorem greatest_loop {N : DEn} {s : Int} {g : Nat} {M : Mp} (hg : g ≤ 900) (h1 : few g ≤ s) (h2 : s < few (g + 1)) (fin : N.nx [some (.int s), some (.int (g : Int))] M) : ∀ (n m : Nat), m + n = g →
    wWhile (dB (dBin leD (dCall (arS 1 sp_fewest) (dCons (dBin addD (dVar 1) (dC (.int 1))) (dNil))) (dVar 0))) (dAug 1 (dC (.int 1)) addI) N (n + 1) [some (.int s), some (.int (m : Int))] M
  | 0, m, h => by
    have e : m = g := by omega
    subst e
    unfold wWhile
    have : ¬ few (m + 1) ≤ s := by omega
    simp [this]
    exact ⟨by omega, by omega, fin⟩
  | n + 1, m, h => by
    have ih := greatest_loop hg h1 h2 fin n (m + 1) (by omega)
    unfold wWhile
    generalize wWhile _ _ N (n + 1) = W at ih ⊢
    have : few (m + 1) ≤ s := by
      exact Int.le_trans (few_mono (by omega)) h1
    simp [this] at ih ⊢
    exact ⟨by omega, by omega, ih⟩
theorem sem_greatest (ds M Q E) (hl : ds.length = 1) (h : sp_greatest ds M Q E) : heights.t_greatest_height sp_fewest (dEndsG Q E) (dstart 2 ds) M := by
  obtain ⟨s, g, rfl, hg, h1, h2, h⟩ := h
  simp [heights.t_greatest_height, dWhile]
  exact ⟨g + 1, greatest_loop (g := g) hg h1 h2 (by simpa using gcQ.same h) g 0 (by omega)⟩
theorem few_uniq {s : Int} {g g' : Nat} (h1 : few g ≤ s) (h2 : s < few (g + 1)) (h3 : few g' ≤ s) (h4 : s < few (g' + 1)) : g = g' := by
  rcases Nat.lt_trichotomy g g' with h | h | h
  · have := few_mono (m := g + 1) (n := g') h; omega
  · exact h
  · have := few_mono (m := g' + 1) (n := g) h; omega
def spA : Nat → Int → TI × Int
  | 0, f => (.nil, f)
  | 1, f => (mkn .nil f .nil, f + 1)
  | n + 2, f => (mkn (spA (n + 1) f).1 (spA (n + 1) f).2 (spA n ((spA (n + 1) f).2 + 1)).1, (spA n ((spA (n + 1) f).2 + 1)).2)
def sp_sparse (n : Nat) : DSp := fun ds M Q E => ∃ (h f : Int), ds = [.int h, .int f] ∧ h < (n : Int) - 10 ∧ -10 ≤ h ∧ Q (.tup [(spA h.toNat f).1.enc D.int, .int (spA h.toNat f).2]) M
@[simp] theorem sp_sparse_eq {n : Nat} {h f : Int} {M : Mp} {Q : DQ} {E : DX} : sp_sparse n [.int h, .int f] M Q E = (h < (n : Int) - 10 ∧ -10 ≤ h ∧ Q (.tup [(spA h.toNat f).1.enc D.int, .int (spA h.toNat f).2]) M) :=
  propext ⟨fun ⟨t', x', e, h⟩ => by simp at e; obtain ⟨rfl, rfl⟩ := e; exact h, fun h => ⟨_, _, rfl, h⟩⟩
theorem sem_sparse (n : Nat) (ds M Q E) (hl : ds.length = 2) (h : sp_sparse (n + 1) ds M Q E) : heights.t_sparse (sp_sparse n) sp_node (dEndsG Q E) (dstart 6 ds) M := by
  obtain ⟨h, f, rfl, h1, h2, hQ⟩ := h
  simp [heights.t_sparse]
  by_cases h0 : h ≤ 0
  · rw [if_pos h0]
    rw [show h.toNat = 0 from by omega] at hQ
    simpa [spA] using gcQ.same hQ
  · rw [if_neg h0]
    refine ⟨by omega, by omega, by omega, by omega, ?_⟩
    have e1 : (h - 1).toNat = h.toNat - 1 := by omega
    by_cases h1' : h = 1
    · subst h1'
      simpa [spA] using gcQ.same hQ
    · rw [show h.toNat = (h.toNat - 2) + 2 from by omega] at hQ
      rw [show h.toNat - 1 = (h.toNat - 2) + 1 from by omega, show (h - 2).toNat = h.toNat - 2 from by omega]
      simpa [spA] using gcQ.same hQ
end DL

set_option Elab.async false
set_option linter.all false
set_option maxRecDepth 100000
set_option maxHeartbeats 4000000
namespace DL
open PySem PySem.Spec PyProof.Rows L2
open Tr

/-! ## balance -/
@[simp] def AV : TI → Prop
  | .nil => True
  | .node l _ r m => m = max l.ht r.ht + 1 ∧ l.ht ≤ r.ht + 1 ∧ r.ht ≤ l.ht + 1 ∧ AV l ∧ AV r
theorem AV.hm : ∀ {t : TI}, AV t → HM t
  | .nil, _ => trivial
  | .node l k r m, h => by simp at h; exact ⟨h.1, AV.hm h.2.2.2.1, AV.hm h.2.2.2.2⟩
theorem AV.hof {t : TI} (h : AV t) : hof t = t.ht := hof_HM h.hm
theorem AV_mkn {l r : TI} {k : Int} (hl : AV l) (hr : AV r) (h1 : l.ht ≤ r.ht + 1) (h2 : r.ht ≤ l.ht + 1) : AV (mkn l k r) := by
  simp [mkn, hl, hr, h1, h2, hl.hof, hr.hof]; omega
theorem bal_near {l r : TI} {k : Int} (hl : AV l) (hr : AV r) (h1 : l.ht ≤ r.ht + 1) (h2 : r.ht ≤ l.ht + 1) : bal l k r = (mkn l k r, 0) := by
  unfold bal
  rw [hl.hof, hr.hof, if_neg (by omega), if_neg (by omega)]
theorem bal_left {l r : TI} {k : Int} (hl : AV l) (hr : AV r) (h : l.ht = r.ht + 2) :
    AV (bal l k r).1 ∧ 1 ≤ (bal l k r).2 ∧ (bal l k r).2 ≤ 2 ∧ l.ht ≤ (bal l k r).1.ht ∧ (bal l k r).1.ht ≤ l.ht + 1 ∧ ((∀ a k' b m, l = .node a k' b m → a.ht ≠ b.ht) → (bal l k r).1.ht = l.ht) := by
  unfold bal
  rw [hl.hof, hr.hof, if_pos (by omega)]
  cases l with
  | nil => simp at h
  | node a k' b m =>
    simp only
    have hl' := hl
    simp at hl' h
    obtain ⟨h1, h2, h3, ha, hb⟩ := hl'
    rw [ha.hof, hb.hof]
    by_cases hab : b.ht ≤ a.ht
    · rw [if_pos (by omega)]
      have q1 : AV (mkn b k r) := AV_mkn hb hr (by omega) (by omega)
      refine ⟨AV_mkn ha q1 (by simp; omega) (by simp; omega), by simp, by simp, by simp; omega, by simp; omega, fun hd => ?_⟩
      have := hd a k' b m rfl
      simp; omega
    · rw [if_neg (by omega)]
      cases b with
      | nil => simp at hab
      | node b0 kb b2 mb =>
        simp at hb hab h h2 h3
        obtain ⟨h4, h5, h6, hb0, hb2⟩ := hb
        have q1 : AV (mkn a k' b0) := AV_mkn ha hb0 (by omega) (by omega)
        have q2 : AV (mkn b2 k r) := AV_mkn hb2 hr (by omega) (by omega)
        refine ⟨AV_mkn q1 q2 (by simp; omega) (by simp; omega), by simp, by simp, by simp; omega, by simp; omega, fun hd => ?_⟩
        simp; omega
theorem bal_right {l r : TI} {k : Int} (hl : AV l) (hr : AV r) (h : r.ht = l.ht + 2) :
    AV (bal l k r).1 ∧ 1 ≤ (bal l k r).2 ∧ (bal l k r).2 ≤ 2 ∧ r.ht ≤ (bal l k r).1.ht ∧ (bal l k r).1.ht ≤ r.ht + 1 ∧ ((∀ a k' b m, r = .node a k' b m → a.ht ≠ b.ht) → (bal l k r).1.ht = r.ht) := by
  unfold bal
  rw [hl.hof, hr.hof, if_neg (by omega), if_pos (by omega)]
  cases r with
  | nil => simp at h
  | node a k' b m =>
    simp only
    have hr' := hr
    simp at hr' h
    obtain ⟨h1, h2, h3, ha, hb⟩ := hr'
    rw [ha.hof, hb.hof]
    by_cases hab : a.ht ≤ b.ht
    · rw [if_pos (by omega)]
      have q1 : AV (mkn l k a) := AV_mkn hl ha (by omega) (by omega)
      refine ⟨AV_mkn q1 hb (by simp; omega) (by simp; omega), by simp, by simp, by simp; omega, by simp; omega, fun hd => ?_⟩
      have := hd a k' b m rfl
      simp; omega
    · rw [if_neg (by omega)]
      cases a with
      | nil => simp at hab
      | node b0 kb b2 mb =>
        simp at ha hab h h2 h3
        obtain ⟨h4, h5, h6, hb0, hb2⟩ := ha
        have q1 : AV (mkn l k b0) := AV_mkn hl hb0 (by omega) (by omega)
        have q2 : AV (mkn b2 k' b) := AV_mkn hb2 hb (by omega) (by omega)
        refine ⟨AV_mkn q1 q2 (by simp; omega) (by simp; omega), by simp, by simp, by simp; omega, by simp; omega, fun hd => ?_⟩
        simp; omega
/-- what putting keeps -/
structure PutOk (t : TI) (p : TI × Bool × Int × Int) : Prop where
  av : AV p.1
  lo : t.ht ≤ p.1.ht
  hi : p.1.ht ≤ t.ht + 1
  t0 : 0 ≤ p.2.2.2
  t2 : p.2.2.2 ≤ 2
  tz : p.2.2.2 = 0 ∨ p.1.ht = t.ht
  ne : p.1.ht = t.ht + 1 → t = .nil ∨ ∀ a k b m, p.1 = .node a k b m → a.ht ≠ b.ht
  old : p.2.1 = false → p.1 = t ∧ p.2.2.2 = 0
theorem put_ok : ∀ {t : TI} {x : Int}, AV t → PutOk t (putA t x)
  | .nil, x, _ => ⟨AV_mkn trivial trivial (by simp) (by simp), by simp, by simp [putA], by simp [putA], by simp [putA], by simp [putA], fun _ => .inl rfl, by simp [putA]⟩
  | .node l h r m, x, hm => by
    have hm' := hm
    simp at hm'
    obtain ⟨h1, h2, h3, hl, hr⟩ := hm'
    unfold putA
    by_cases e1 : x = h
    · rw [if_pos e1]
      exact ⟨hm, by simp, by simp, by simp, by simp, by simp, by simp, by simp⟩
    · rw [if_neg e1]
      by_cases e2 : x < h
      · rw [if_pos e2]
        have ih := put_ok (x := x) hl
        cases e3 : (putA l x).2.1 with
        | false =>
          obtain ⟨q1, q2⟩ := ih.old e3
          rw [q1, q2, bal_near hl hr h2 h3]
          exact ⟨hm, by simp, by simp, by simp, by simp, by simp, by simp, by simp⟩
        | true =>
          simp only [if_pos]
          have a1 := ih.av; have a2 := ih.lo; have a3 := ih.hi; have a4 := ih.t0; have a5 := ih.t2; have a6 := ih.tz; have a7 := ih.ne
          by_cases e4 : (putA l x).1.ht = r.ht + 2
          · obtain ⟨b1, b2, b3, b4, b5, b6⟩ := bal_left (k := h) a1 hr e4
            have b7 := b6 (by
              rcases a7 (by omega) with q | q
              · subst q; simp at a3 h2 e4; omega
              · exact q)
            exact ⟨b1, by simp; omega, by simp; omega, by simp; omega, by simp; omega, by simp; omega, by simp; omega, by simp⟩
          · rw [bal_near a1 hr (by omega) (by omega)]
            refine ⟨AV_mkn a1 hr (by omega) (by omega), by simp; omega, by simp; omega, by simp; omega, by simp; omega, by simp; omega, fun q => .inr fun a k b m' q2 => ?_, by simp⟩
            simp [mkn] at q2 q
            obtain ⟨rfl, _, rfl, _⟩ := q2
            omega
      · rw [if_neg e2]
        have ih := put_ok (x := x) hr
        cases e3 : (putA r x).2.1 with
        | false =>
          obtain ⟨q1, q2⟩ := ih.old e3
          rw [q1, q2, bal_near hl hr h2 h3]
          exact ⟨hm, by simp, by simp, by simp, by simp, by simp, by simp, by simp⟩
        | true =>
          simp only [if_pos]
          have a1 := ih.av; have a2 := ih.lo; have a3 := ih.hi; have a4 := ih.t0; have a5 := ih.t2; have a6 := ih.tz; have a7 := ih.ne
          by_cases e4 : (putA r x).1.ht = l.ht + 2
          · obtain ⟨b1, b2, b3, b4, b5, b6⟩ := bal_right (k := h) hl a1 e4
            have b7 := b6 (by
              rcases a7 (by omega) with q | q
              · subst q; simp at a3 h3 e4; omega
              · exact q)
            exact ⟨b1, by simp; omega, by simp; omega, by simp; omega, by simp; omega, by simp; omega, by simp; omega, by simp⟩
          · rw [bal_near hl a1 (by omega) (by omega)]
            refine ⟨AV_mkn hl a1 (by omega) (by omega), by simp; omega, by simp; omega, by simp; omega, by simp; omega, by simp; omega, fun q => .inr fun a k b m' q2 => ?_, by simp⟩
            simp [mkn] at q2 q
            obtain ⟨rfl, _, rfl, _⟩ := q2
            omega
/-- what taking away keeps -/
structure DropOk (t t' : TI) (c : Int) : Prop where
  av : AV t'
  lo : t.ht ≤ t'.ht + 1
  hi : t'.ht ≤ t.ht
  t0 : 0 ≤ c
  t2 : c ≤ 2 * t.ht
theorem bal_any {l r l' r' : TI} {k k' m : Int} {c : Int} (hm : AV (.node l k r m)) (hl : AV l') (hr : AV r') (h1 : (l' = l ∧ r.ht ≤ r'.ht + 1 ∧ r'.ht ≤ r.ht) ∨ (r' = r ∧ l.ht ≤ l'.ht + 1 ∧ l'.ht ≤ l.ht)) (c0 : 0 ≤ c) (c2 : c ≤ 2 * max l.ht r.ht) :
    DropOk (.node l k r m) (bal l' k' r').1 (c + (bal l' k' r').2) := by
  simp at hm
  obtain ⟨q1, q2, q3, q4, q5⟩ := hm
  by_cases e1 : l'.ht = r'.ht + 2
  · obtain ⟨b1, b2, b3, b4, b5, b6⟩ := bal_left (k := k') hl hr e1
    rcases h1 with ⟨rfl, h1, h1'⟩ | ⟨rfl, h1, h1'⟩
    · exact ⟨b1, by simp; omega, by simp; omega, by omega, by simp; omega⟩
    · exact ⟨b1, by simp; omega, by simp; omega, by omega, by simp; omega⟩
  · by_cases e2 : r'.ht = l'.ht + 2
    · obtain ⟨b1, b2, b3, b4, b5, b6⟩ := bal_right (k := k') hl hr e2
      rcases h1 with ⟨rfl, h1, h1'⟩ | ⟨rfl, h1, h1'⟩
      · exact ⟨b1, by simp; omega, by simp; omega, by omega, by simp; omega⟩
      · exact ⟨b1, by simp; omega, by simp; omega, by omega, by simp; omega⟩
    · rcases h1 with ⟨rfl, h1, h1'⟩ | ⟨rfl, h1, h1'⟩
      · rw [bal_near hl hr (by omega) (by omega)]
        exact ⟨AV_mkn hl hr (by omega) (by omega), by simp; omega, by simp; omega, by simp; omega, by simp; omega⟩
      · rw [bal_near hl hr (by omega) (by omega)]
        exact ⟨AV_mkn hl hr (by omega) (by omega), by simp; omega, by simp; omega, by simp; omega, by simp; omega⟩
theorem least_ok : ∀ {t : TI}, AV t → DropOk t (leastA t).2.1 (leastA t).2.2.2
  | .nil, _ => ⟨trivial, by simp [leastA], by simp [leastA], by simp [leastA], by simp [leastA]⟩
  | .node .nil h r m, hm => by
    simp at hm
    exact ⟨hm.2.2, by simp [leastA], by simp [leastA], by simp [leastA], by simp [leastA]; omega⟩
  | .node (.node a b c d) h r m, hm => by
    have hm' := hm
    simp only [AV] at hm'
    have ih := least_ok (t := .node a b c d) (by simpa only [AV] using hm'.2.2.2.1)
    simp only [leastA]
    exact bal_any hm ih.av hm'.2.2.2.2 (.inr ⟨rfl, ih.lo, ih.hi⟩) ih.t0 (by have := ih.t2; omega)
theorem drop_ok : ∀ {t : TI} {x : Int}, AV t → DropOk t (dropA t x).1 (dropA t x).2.2.2
  | .nil, x, _ => ⟨trivial, by simp [dropA], by simp [dropA], by simp [dropA], by simp [dropA]⟩
  | .node l h r m, x, hm => by
    have hm' := hm
    simp at hm'
    obtain ⟨h1, h2, h3, hl, hr⟩ := hm'
    unfold dropA
    by_cases e1 : x < h
    · rw [if_pos e1]
      have ih := drop_ok (x := x) hl
      exact bal_any hm ih.av hr (.inr ⟨rfl, ih.lo, ih.hi⟩) ih.t0 (by have := ih.t2; omega)
    · rw [if_neg e1]
      by_cases e2 : h < x
      · rw [if_pos e2]
        have ih := drop_ok (x := x) hr
        exact bal_any hm hl ih.av (.inl ⟨rfl, ih.lo, ih.hi⟩) ih.t0 (by have := ih.t2; omega)
      · rw [if_neg e2]
        cases r with
        | nil => exact ⟨hl, by simp, by simp, by simp, by simp; omega⟩
        | node a b c d =>
          have ih := least_ok hr
          exact bal_any hm hl ih.av (.inl ⟨rfl, ih.lo, ih.hi⟩) ih.t0 (by have := ih.t2; omega)

/-! ## keys -/
abbrev Srt (l : List Int) : Prop := l.Pairwise (· < ·)
theorem srt_mid {l r : List Int} {k : Int} : Srt (l ++ k :: r) ↔ Srt l ∧ Srt r ∧ (∀ x ∈ l, x < k) ∧ ∀ x ∈ r, k < x := by
  constructor
  · intro h
    obtain ⟨h1, h2, h3⟩ := List.pairwise_append.mp h
    obtain ⟨h4, h5⟩ := List.pairwise_cons.mp h2
    exact ⟨h1, h5, fun x hx => h3 x hx k (by simp), h4⟩
  · rintro ⟨h1, h2, h3, h4⟩
    refine List.pairwise_append.mpr ⟨h1, List.pairwise_cons.mpr ⟨h4, h2⟩, fun x hx y hy => ?_⟩
    rcases List.mem_cons.mp hy with rfl | hy
    · exact h3 x hx
    · exact Int.lt_trans (h3 x hx) (h4 y hy)
theorem lk_mem : ∀ {t : Tr α} {x : Int}, Srt t.keys → ((lk t x).1 = true ↔ x ∈ t.keys)
  | .nil, x, _ => by simp [lk]
  | .node l k r m, x, h => by
    obtain ⟨h1, h2, h3, h4⟩ := srt_mid.mp h
    unfold lk
    by_cases e : k = x
    · simp [e]
    · rw [if_neg e]
      by_cases e2 : x < k
      · rw [if_pos e2]
        simp only [lk_mem (t := l) h1, Tr.keys, List.mem_append, List.mem_cons]
        constructor
        · exact fun h => .inl h
        · rintro (h | h | h)
          · exact h
          · exact absurd h.symm e
          · have := h4 x h; omega
      · rw [if_neg e2]
        simp only [lk_mem (t := r) h2, Tr.keys, List.mem_append, List.mem_cons]
        constructor
        · exact fun h => .inr (.inr h)
        · rintro (h | h | h)
          · have := h3 x h; omega
          · exact absurd h.symm e
          · exact h
theorem put_mem : ∀ {t : TI} {x y : Int}, y ∈ (putA t x).1.keys ↔ y = x ∨ y ∈ t.keys
  | .nil, x, y => by simp [putA]
  | .node l k r m, x, y => by
    unfold putA
    by_cases e : x = k
    · subst e; rw [if_pos rfl]; simp only [Tr.keys, List.mem_append, List.mem_cons]; constructor
      · rintro (h | h | h) <;> simp [h]
      · rintro (h | h | h | h) <;> simp [h]
    · rw [if_neg e]
      by_cases e2 : x < k
      · rw [if_pos e2]
        have ih := put_mem (t := l) (x := x) (y := y)
        cases h : (putA l x).2.1 with
        | true =>
          simp only [if_pos, keys_bal, List.mem_append, List.mem_cons, ih, Tr.keys]
          constructor
          · rintro ((h | h) | h | h) <;> simp [h]
          · rintro (h | h | h | h) <;> simp [h]
        | false =>
          have q : x ∈ l.keys := by
            have := put_mem (t := l) (x := x) (y := x)
            rw [put_old h] at this
            exact this.mpr (.inl rfl)
          simp only [Bool.false_eq_true, if_false, List.mem_append, List.mem_cons, Tr.keys]
          constructor
          · exact fun h => .inr h
          · rintro (rfl | h)
            · exact .inl q
            · exact h
      · rw [if_neg e2]
        have ih := put_mem (t := r) (x := x) (y := y)
        cases h : (putA r x).2.1 with
        | true =>
          simp only [if_pos, keys_bal, List.mem_append, List.mem_cons, ih, Tr.keys]
          constructor
          · rintro (h | h | h | h) <;> simp [h]
          · rintro (h | h | h | h) <;> simp [h]
        | false =>
          have q : x ∈ r.keys := by
            have := put_mem (t := r) (x := x) (y := x)
            rw [put_old h] at this
            exact this.mpr (.inl rfl)
          simp only [Bool.false_eq_true, if_false, List.mem_append, List.mem_cons, Tr.keys]
          constructor
          · exact fun h => .inr h
          · rintro (rfl | h)
            · exact .inr (.inr q)
            · exact h
where
  put_old : ∀ {t : TI} {x : Int}, (putA t x).2.1 = false → (putA t x).1 = t
  | .nil, x, h => by simp [putA] at h
  | .node l k r m, x, h => by
    unfold putA at h ⊢
    by_cases e : x = k
    · rw [if_pos e]
    · rw [if_neg e] at h ⊢
      by_cases e2 : x < k
      · rw [if_pos e2] at h ⊢; simp only at h; simp [h]
      · rw [if_neg e2] at h ⊢; simp only at h; simp [h]
theorem put_srt : ∀ {t : TI} {x : Int}, Srt t.keys → Srt (putA t x).1.keys
  | .nil, x, _ => by simp [putA]
  | .node l k r m, x, h => by
    have h' := h
    obtain ⟨h1, h2, h3, h4⟩ := srt_mid.mp h'
    unfold putA
    by_cases e : x = k
    · rw [if_pos e]; exact h
    · rw [if_neg e]
      by_cases e2 : x < k
      · rw [if_pos e2]
        simp only
        split
        · rw [keys_bal]
          refine srt_mid.mpr ⟨put_srt h1, h2, fun y hy => ?_, h4⟩
          rcases put_mem.mp hy with rfl | hy
          · exact e2
          · exact h3 y hy
        · exact h
      · rw [if_neg e2]
        simp only
        split
        · rw [keys_bal]
          refine srt_mid.mpr ⟨h1, put_srt h2, h3, fun y hy => ?_⟩
          rcases put_mem.mp hy with rfl | hy
          · omega
          · exact h4 y hy
        · exact h
theorem put_new : ∀ {t : TI} {x : Int}, Srt t.keys → ((putA t x).2.1 = false ↔ x ∈ t.keys)
  | .nil, x, _ => by simp [putA]
  | .node l k r m, x, h => by
    obtain ⟨h1, h2, h3, h4⟩ := srt_mid.mp h
    unfold putA
    by_cases e : x = k
    · simp [e]
    · rw [if_neg e]
      by_cases e2 : x < k
      · rw [if_pos e2]
        simp only [put_new h1, Tr.keys, List.mem_append, List.mem_cons]
        constructor
        · exact fun h => .inl h
        · rintro (h | h | h)
          · exact h
          · exact absurd h e
          · have := h4 x h; omega
      · rw [if_neg e2]
        simp only [put_new h2, Tr.keys, List.mem_append, List.mem_cons]
        constructor
        · exact fun h => .inr (.inr h)
        · rintro (h | h | h)
          · have := h3 x h; omega
          · exact absurd h e
          · exact h
theorem put_looks : ∀ (t : TI) (x : Int), (putA t x).2.2.1 = (lk t x).2
  | .nil, x => by simp [putA, lk]
  | .node l k r m, x => by
    unfold putA lk
    by_cases e : x = k
    · simp [e]
    · have e' : ¬ k = x := fun h => e h.symm
      by_cases e2 : x < k
      · simp [e, e', e2, put_looks l x]
      · simp [e, e', e2, put_looks r x]
theorem least_keys : ∀ {t : TI}, t ≠ .nil → t.keys = (leastA t).1 :: (leastA t).2.1.keys
  | .nil, h => absurd rfl h
  | .node .nil k r m, _ => by simp [leastA]
  | .node (.node a b c d) k r m, _ => by
    have ih := least_keys (t := .node a b c d) (fun h => nomatch h)
    have e : (Tr.node (.node a b c d) k r m).keys = (Tr.node a b c d).keys ++ k :: r.keys := rfl
    rw [e, ih]
    simp only [leastA, keys_bal, List.cons_append]
theorem least_looks : ∀ {t : TI}, t ≠ .nil → 1 ≤ (leastA t).2.2.1
  | .nil, h => absurd rfl h
  | .node .nil k r m, _ => by simp [leastA]
  | .node (.node a b c d) k r m, _ => by
    have := least_looks (t := .node a b c d) (fun h => nomatch h)
    simp only [leastA]; omega
theorem filter_ne {l : List Int} {x : Int} (h : x ∉ l) : l.filter (fun y => decide (y ≠ x)) = l :=
  List.filter_eq_self.mpr fun y hy => by simp; rintro rfl; exact h hy
theorem drop_keys : ∀ {t : TI} {x : Int}, Srt t.keys → (dropA t x).1.keys = t.keys.filter fun y => decide (y ≠ x)
  | .nil, x, _ => by simp [dropA]
  | .node l k r m, x, h => by
    obtain ⟨h1, h2, h3, h4⟩ := srt_mid.mp h
    have e0 : (Tr.node l k r m).keys = l.keys ++ k :: r.keys := rfl
    unfold dropA
    by_cases e : x < k
    · rw [if_pos e, e0, List.filter_append, List.filter_cons, if_pos (by simp; omega), filter_ne (l := r.keys) fun hx => by have := h4 x hx; omega]
      simp only [keys_bal, drop_keys h1]
    · rw [if_neg e]
      by_cases e2 : k < x
      · rw [if_pos e2, e0, List.filter_append, List.filter_cons, if_pos (by simp; omega), filter_ne (l := l.keys) fun hx => by have := h3 x hx; omega]
        simp only [keys_bal, drop_keys h2]
      · have e3 : x = k := by omega
        subst e3
        rw [if_neg e2, e0, List.filter_append, List.filter_cons, if_neg (by simp), filter_ne (l := l.keys) fun hx => by have := h3 x hx; omega, filter_ne (l := r.keys) fun hx => by have := h4 x hx; omega]
        cases r with
        | nil => simp
        | node a b c d =>
          simp only [keys_bal]
          rw [← least_keys (t := .node a b c d) fun h => nomatch h]
theorem drop_was : ∀ {t : TI} {x : Int}, Srt t.keys → ((dropA t x).2.1 = true ↔ x ∈ t.keys)
  | .nil, x, _ => by simp [dropA]
  | .node l k r m, x, h => by
    obtain ⟨h1, h2, h3, h4⟩ := srt_mid.mp h
    unfold dropA
    by_cases e : x < k
    · rw [if_pos e]
      simp only [drop_was h1, Tr.keys, List.mem_append, List.mem_cons]
      constructor
      · exact fun h => .inl h
      · rintro (h | h | h)
        · exact h
        · omega
        · have := h4 x h; omega
    · rw [if_neg e]
      by_cases e2 : k < x
      · rw [if_pos e2]
        simp only [drop_was h2, Tr.keys, List.mem_append, List.mem_cons]
        constructor
        · exact fun h => .inr (.inr h)
        · rintro (h | h | h)
          · have := h3 x h; omega
          · omega
          · exact h
      · have e3 : x = k := by omega
        rw [if_neg e2]
        cases r <;> simp [e3]
theorem drop_looks : ∀ (t : TI) (x : Int), (lk t x).2 ≤ (dropA t x).2.2.1
  | .nil, x => by simp [dropA, lk]
  | .node l k r m, x => by
    unfold dropA lk
    by_cases e : x < k
    · have := drop_looks l x
      have e' : ¬ k = x := by omega
      simp [e, e']; exact this
    · by_cases e2 : k < x
      · have := drop_looks r x
        have e' : ¬ k = x := by omega
        simp [e, e', e2]; exact this
      · have e' : k = x := by omega
        cases r with
        | nil => simp [e, e2, e']
        | node a b c d =>
          have := least_looks (t := .node a b c d) (fun h => nomatch h)
          simp [e, e2, e']; omega
theorem drop_old : ∀ {t : TI} {x : Int}, AV t → (dropA t x).2.1 = false → (dropA t x).1 = t ∧ (dropA t x).2.2.2 = 0
  | .nil, x, _, _ => by simp [dropA]
  | .node l k r m, x, hm, h => by
    have hm' := hm
    simp at hm'
    obtain ⟨h1, h2, h3, hl, hr⟩ := hm'
    have e0 : mkn l k r = .node l k r m := by simp [mkn, hl.hof, hr.hof, h1]; omega
    unfold dropA at h ⊢
    by_cases e : x < k
    · rw [if_pos e] at h ⊢
      obtain ⟨q1, q2⟩ := drop_old hl (by simpa using h)
      simp only [q1, q2, bal_near hl hr h2 h3, e0]; simp
    · rw [if_neg e] at h ⊢
      by_cases e2 : k < x
      · rw [if_pos e2] at h ⊢
        obtain ⟨q1, q2⟩ := drop_old hr (by simpa using h)
        simp only [q1, q2, bal_near hl hr h2 h3, e0]; simp
      · rw [if_neg e2] at h
        cases r <;> simp at h
/-! ## right trees -/
theorem right_AV {t : TI} : isRightB t = true ↔ Srt t.keys ∧ AV t := by
  have h : ∀ t : TI, (t.subs.all goodB && t.subs.all nearB) = true ↔ AV t := by
    intro t
    induction t with
    | nil => simp
    | node l k r m ihl ihr =>
      have e : ∀ c : TI → Bool, (Tr.node l k r m).subs.all c = (l.subs.all c && (c (.node l k r m) && r.subs.all c)) := fun c => by simp
      rw [e, e]
      have e2 : (l.subs.all goodB && (goodB (.node l k r m) && r.subs.all goodB) && (l.subs.all nearB && (nearB (.node l k r m) && r.subs.all nearB))) = ((l.subs.all goodB && l.subs.all nearB) && ((r.subs.all goodB && r.subs.all nearB) && (goodB (.node l k r m) && nearB (.node l k r m)))) := by
        cases l.subs.all goodB <;> cases l.subs.all nearB <;> cases r.subs.all goodB <;> cases r.subs.all nearB <;> cases goodB (.node l k r m) <;> cases nearB (.node l k r m) <;> rfl
      rw [e2, Bool.and_eq_true, ihl, Bool.and_eq_true, ihr, Bool.and_eq_true]
      simp only [goodB, nearB, decide_eq_true_eq, AV]
      constructor
      · rintro ⟨a, b, c, d⟩
        rw [a.hof, b.hof] at c d
        exact ⟨by omega, by omega, by omega, a, b⟩
      · rintro ⟨c, d, e, a, b⟩
        rw [a.hof, b.hof]
        exact ⟨a, b, by omega, by omega⟩
  unfold isRightB
  rw [Bool.and_eq_true, risesB_iff, h]
theorem few_size : ∀ {t : TI}, AV t → few t.ht ≤ t.size
  | .nil, _ => by simp [few, fewP]
  | .node l k r m, h => by
    simp at h
    obtain ⟨h1, h2, h3, hl, hr⟩ := h
    have il := few_size hl
    have ir := few_size hr
    simp only [Tr.ht, Tr.size]
    by_cases e : r.ht ≤ l.ht
    · rw [Nat.max_eq_left e]
      have e3 : few (l.ht + 1) ≤ few l.ht + few r.ht + 1 := by
        cases hh : l.ht with
        | zero => simp [few, fewP]; have := few_ge r.ht; unfold few at this; omega
        | succ n =>
          have a1 : few (n + 1 + 1) = few n + few (n + 1) + 1 := rfl
          have a2 := few_mono (m := n) (n := r.ht) (by omega)
          omega
      omega
    · rw [Nat.max_eq_right (by omega)]
      have e3 : few (r.ht + 1) ≤ few r.ht + few l.ht + 1 := by
        cases hh : r.ht with
        | zero => omega
        | succ n =>
          have a1 : few (n + 1 + 1) = few n + few (n + 1) + 1 := rfl
          have a2 := few_mono (m := n) (n := l.ht) (by omega)
          omega
      omega
/-- rising rows of the same members -/
theorem srt_ext : ∀ {l m : List Int}, Srt l → Srt m → (∀ x, x ∈ l ↔ x ∈ m) → l = m
  | [], [], _, _, _ => rfl
  | [], b :: m, _, _, h => by have := (h b).mpr (by simp); simp at this
  | a :: l, [], _, _, h => by have := (h a).mp (by simp); simp at this
  | a :: l, b :: m, hl, hm, h => by
    obtain ⟨h1, h2⟩ := List.pairwise_cons.mp hl
    obtain ⟨h3, h4⟩ := List.pairwise_cons.mp hm
    have e : a = b := by
      rcases List.mem_cons.mp ((h a).mp (by simp)) with e | e
      · exact e
      · rcases List.mem_cons.mp ((h b).mpr (by simp)) with e' | e'
        · exact e'.symm
        · have := h1 b e'; have := h3 a e; omega
    subst e
    rw [srt_ext h2 h4 fun x => ?_]
    constructor
    · intro hx
      rcases List.mem_cons.mp ((h x).mp (by simp [hx])) with e | e
      · have := h1 x hx; omega
      · exact e
    · intro hx
      rcases List.mem_cons.mp ((h x).mpr (by simp [hx])) with e | e
      · have := h3 x hx; omega
      · exact e
/-- sorted of keys that differ -/
def srtI (l : List Int) : List Int := l.mergeSort fun a b => decide (a ≤ b)
theorem srtI_mem {l : List Int} {x : Int} : x ∈ srtI l ↔ x ∈ l := (List.mergeSort_perm _ _).mem_iff
theorem srtI_len (l : List Int) : (srtI l).length = l.length := List.length_mergeSort _
theorem srtI_le (l : List Int) : (srtI l).Pairwise (· ≤ ·) := by
  have := List.pairwise_mergeSort (le := fun a b : Int => decide (a ≤ b)) (fun a b c h1 h2 => by simp at h1 h2 ⊢; omega) (fun a b => by simp; omega) l
  exact this.imp fun h => by simpa using h
theorem srtI_srt {l : List Int} (h : l.Nodup) : Srt (srtI l) := by
  have h1 := srtI_le l
  have h2 : (srtI l).Nodup := (List.mergeSort_perm _ _).nodup_iff.mpr h
  exact (h1.and h2).imp fun ⟨a, b⟩ => by omega
theorem srt_eq {l m : List Int} (hl : Srt l) (hm : m.Nodup) (h : ∀ x, x ∈ l ↔ x ∈ m) : srtI m = l :=
  srt_ext (srtI_srt hm) hl fun x => by rw [srtI_mem]; exact (h x).symm
end DL

set_option Elab.async false
set_option linter.all false
set_option maxRecDepth 100000
set_option maxHeartbeats 4000000
namespace DL
open PySem PySem.Spec PyProof.Rows L2
open Tr
@[simp] theorem sp_take_eq {a : Addr} {l : Int} {M : Mp} {Q : DQ} {E : DX} : sp_take [.ref a, .int l] M Q E = (0 < l ∧ M a = some .drw ∧ ∀ r, 0 ≤ r → r < l → Q (.int r) M) :=
  propext ⟨fun ⟨a', l', e, h⟩ => by simp at e; obtain ⟨rfl, rfl⟩ := e; exact h, fun h => ⟨_, _, rfl, h⟩⟩
def sp_lookI : DSp := fun ds M Q E => ∃ (t : TI) (x : Int), ds = [t.enc D.int, .int x] ∧ Q (.tup [.bl (lk t x).1, .int (lk t x).2]) M
theorem lookI {ds M Q E} (h : sp_lookI ds M Q E) : sp_look ds M Q E := let ⟨t, x, e, h⟩ := h; ⟨_, _, t, x, e, h⟩
@[simp] theorem sp_lookI_eq {t : TI} {x : Int} {M : Mp} {Q : DQ} {E : DX} : sp_lookI [t.enc D.int, .int x] M Q E = Q (.tup [.bl (lk t x).1, .int (lk t x).2]) M :=
  propext ⟨fun ⟨t', x', e, h⟩ => by simp at e; obtain ⟨rfl, rfl⟩ := e; exact h, fun h => ⟨_, _, rfl, h⟩⟩
def sp_heightI : DSp := fun ds M Q E => ∃ (t : TI), ds = [t.enc D.int] ∧ t.size ≤ 1000000 ∧ Q (.int t.ht) M
theorem heightI {ds M Q E} (h : sp_heightI ds M Q E) : sp_height ds M Q E := let ⟨t, e, h⟩ := h; ⟨_, _, t, e, h⟩
@[simp] theorem sp_heightI_eq {t : TI} {M : Mp} {Q : DQ} {E : DX} : sp_heightI [t.enc D.int] M Q E = (t.size ≤ 1000000 ∧ Q (.int t.ht) M) :=
  propext ⟨fun ⟨t', e, h⟩ => by simp at e; subst e; exact h, fun h => ⟨_, rfl, h⟩⟩
def sp_keysI : DSp := fun ds M Q E => ∃ (t : TI), ds = [t.enc D.int] ∧ t.size ≤ 1000000 ∧ Q (.tup (t.keys.map D.int)) M
theorem keysI {ds M Q E} (h : sp_keysI ds M Q E) : sp_keys_in ds M Q E := let ⟨t, e, h⟩ := h; ⟨_, _, t, e, h⟩
@[simp] theorem sp_keysI_eq {t : TI} {M : Mp} {Q : DQ} {E : DX} : sp_keysI [t.enc D.int] M Q E = (t.size ≤ 1000000 ∧ Q (.tup (t.keys.map D.int)) M) :=
  propext ⟨fun ⟨t', e, h⟩ => by simp at e; subst e; exact h, fun h => ⟨_, rfl, h⟩⟩
@[simp] theorem sp_put_eq {t : TI} {x : Int} {M : Mp} {Q : DQ} {E : DX} : sp_put [t.enc D.int, .int x] M Q E = (HM t ∧ t.ht < 60 ∧ -1000000 ≤ x ∧ x ≤ 1000000 ∧ Q (.tup [(putA t x).1.enc D.int, .bl (putA t x).2.1, .int (putA t x).2.2.1, .int (putA t x).2.2.2]) M) :=
  propext ⟨fun ⟨t', x', e, h⟩ => by simp at e; obtain ⟨rfl, rfl⟩ := e; exact h, fun h => ⟨_, _, rfl, h⟩⟩
@[simp] theorem sp_drop_eq {t : TI} {x : Int} {M : Mp} {Q : DQ} {E : DX} : sp_drop [t.enc D.int, .int x] M Q E = (HM t ∧ t.ht < 60 ∧ -1000000 ≤ x ∧ x ≤ 1000000 ∧ Q (.tup [(dropA t x).1.enc D.int, .bl (dropA t x).2.1, .int (dropA t x).2.2.1, .int (dropA t x).2.2.2]) M) :=
  propext ⟨fun ⟨t', x', e, h⟩ => by simp at e; obtain ⟨rfl, rfl⟩ := e; exact h, fun h => ⟨_, _, rfl, h⟩⟩
/-! ### a dict as a set of ints -/
def kv (ks : List Int) : List (Key × D) := ks.map fun k => (Sum.inl k, D.bl true)
@[simp] theorem kv_len {ks : List Int} : (kv ks).length = ks.length := by simp [kv]
theorem kv_get : ∀ (ks : List Int) (x : Int), (kget (kv ks) (.inl x)).isSome = decide (x ∈ ks)
  | [], x => by simp [kv, kget]
  | k :: ks, x => by
    have ih := kv_get ks x
    by_cases e : k = x
    · simp [kv, kget, List.find?_cons, e]
    · simp [kv, kget, List.find?_cons, e, show ¬ x = k from fun h => e h.symm] at ih ⊢
      exact ih
theorem kv_getD (ks : List Int) (x : Int) : kget (kv ks) (.inl x) = if x ∈ ks then some (.bl true) else none := by
  induction ks with
  | nil => simp [kv, kget]
  | cons k ks ih =>
    by_cases e : k = x
    · simp [kv, kget, List.find?_cons, e]
    · simp [kv, kget, List.find?_cons, e, show ¬ x = k from fun h => e h.symm] at ih ⊢
      exact ih
theorem kv_any (ks : List Int) (x : Int) : ((kv ks).any fun kv => decide (kv.1 = (Sum.inl x : Key))) = decide (x ∈ ks) := by
  induction ks with
  | nil => simp [kv]
  | cons k ks ih =>
    simp only [kv, List.map_cons, List.any_cons] at ih ⊢
    rw [ih]
    by_cases e : k = x
    · simp [e]
    · simp [e, show ¬ x = k from fun h => e h.symm]
theorem kv_put (ks : List Int) (x : Int) : kput (kv ks) (.inl x) (.bl true) = kv (if x ∈ ks then ks else ks ++ [x]) := by
  unfold kput
  rw [kv_any]
  by_cases e : x ∈ ks
  · rw [if_pos (by simpa using e), if_pos e]
    unfold kv
    rw [List.map_map]
    refine List.map_congr_left fun k _ => ?_
    simp only [Function.comp]; split <;> rfl
  · rw [if_neg (by simpa using e), if_neg e]; simp [kv]
theorem kv_drop (ks : List Int) (x : Int) : kdrop (kv ks) (.inl x) = kv (ks.filter fun k => decide (k ≠ x)) := by
  induction ks with
  | nil => rfl
  | cons k ks ih =>
    simp only [kdrop, kv, List.map_cons, List.filter_cons] at ih ⊢
    by_cases e : k = x
    · simp [e] at ih ⊢; exact ih
    · simp [e] at ih ⊢; exact ih
theorem kv_keys (ks : List Int) : (kv ks).map (fun kv => kD kv.1) = ks.map D.int := by
  unfold kv; rw [List.map_map]; rfl
@[simp] theorem sp_greatest_eq {s : Int} {M : Mp} {Q : DQ} {E : DX} : sp_greatest [.int s] M Q E = ∃ g : Nat, g ≤ 900 ∧ few g ≤ s ∧ s < few (g + 1) ∧ Q (.int (g : Int)) M :=
  propext ⟨fun ⟨s', g, e, h⟩ => by simp at e; subst e; exact ⟨g, h⟩, fun ⟨g, h⟩ => ⟨_, g, rfl, h⟩⟩
end DL

set_option linter.all false
namespace DL.X.keys
open PySem DL
def t_is_number : TDS := dRet (dAndV (dUn (isiD "int") (dVar 0)) (dNotV (dUn (isiD "bool") (dVar 0))))
def t_check_key (S_is_number : DSp) : TDS := dIfS (dOr (dNot (dTru (dCall (arS 1 S_is_number) (dCons (dVar 0) (dNil))))) (dNot (dB (dChain leD leD (dUn (dU fun i => -i) (dC (.int 1000000))) (dVar 0) (dC (.int 1000000)))))) (dRaise "NoKey" "code" (dC (.str "key"))) (dNext)
def t_check_row (S_check_key : DSp) : TDS := dSeq (dIfS (dB (dBin gtD (dCB lenD (dCons (dVar 0) (dNil))) (dC (.int 400)))) (dRaise "NoKey" "code" (dC (.str "many"))) (dNext)) (dFor (iSeqD (dVar 0)) (dgName 1) (dDrop (dCall (arS 1 S_check_key) (dCons (dVar 1) (dNil)))))
def t_check_rising (S_check_row : DSp) : TDS := dSeq (dDrop (dCall (arS 1 S_check_row) (dCons (dVar 0) (dNil)))) (dIfS (dNot (dTru (dCB allD (dCons (dLc (iArgs zipD (dCons (dVar 0) (dCons (dSlice (dVar 0) (dPart (dC (.int 1))) (dNoPart)) (dNil)))) (dgTup 2 (dgCons (dgName 1) (dgCons (dgName 2) (dgNil)))) (dYes) (dBin ltD (dVar 1) (dVar 2)) [1, 2]) (dNil))))) (dRaise "NoKey" "code" (dC (.str "rising"))) (dNext))
def t_power : TDS := dSeq (dAsg (dC (.int 1)) (dgName 2)) (dSeq (dFor (iArgs rng1D (dCons (dVar 1) (dNil))) (dgName 3) (dAug 2 (dVar 0) mulI)) (dRet (dVar 2)))
def t_lesser : TDS := dSeq (dPar 2 3 (dCons (dC (.int 0)) (dCons (dCB lenD (dCons (dVar 0) (dNil))) (dNil)))) (dSeq (dWhile (dB (dBin ltD (dVar 2) (dVar 3))) (dSeq (dAsg (dBin fdivD (dBin addD (dVar 2) (dVar 3)) (dC (.int 2))) (dgName 4)) (dIfS (dB (dBin ltD (dBin ixA (dVar 0) (dVar 4)) (dVar 1))) (dAsg (dBin addD (dVar 4) (dC (.int 1))) (dgName 2)) (dAsg (dVar 4) (dgName 3))))) (dRet (dVar 2)))
def t_bits_of : TDS := dRet (dBits (dVar 0))
def t_ones_of : TDS := dSeq (dAsg (dC (.int 0)) (dgName 1)) (dSeq (dWhile (dTru (dVar 0)) (dSeq (dAug 0 (dBin subD (dVar 0) (dC (.int 1))) andD) (dAug 1 (dC (.int 1)) addI))) (dRet (dVar 1)))
end DL.X.keys

set_option Elab.async false
set_option linter.all false
set_option maxRecDepth 100000
set_option maxHeartbeats 400000
namespace DL
open PySem PySem.Spec PyProof.Rows L2
/-! ## keys, with the errors that are raised -/
/-- no list, no dict -/
def flatK (d : D) : Bool := match d with | .ref _ => false | .scr _ => false | _ => true
def keyB (d : D) : Bool := match d with | .int i => decide (-1000000 ≤ i) && decide (i ≤ 1000000) | _ => false
@[simp] theorem sp_is_number_eq {d : D} {M : Mp} {Q : DQ} {E : DX} : sp_is_number [d] M Q E = ((tyD d M).isSome = true ∧ Q (.bl (numB d)) M) :=
  propext ⟨fun ⟨t', e, h⟩ => by simp at e; subst e; exact h, fun h => ⟨_, rfl, h⟩⟩
theorem flatK_ty {d : D} {M : Mp} (h : flatK d = true) : (tyD d M).isSome = true := by
  cases d <;> first | rfl | cases h
def sp_keyX : DSp := fun ds M Q E => ∃ d, ds = [d] ∧ flatK d = true ∧ (if keyB d = true then Q .non M else E "NoKey" "code" (.str "key") M)
@[simp] theorem sp_keyX_eq {d : D} {M : Mp} {Q : DQ} {E : DX} : sp_keyX [d] M Q E = (flatK d = true ∧ (if keyB d = true then Q .non M else E "NoKey" "code" (.str "key") M)) :=
  propext ⟨fun ⟨t', e, h⟩ => by simp at e; subst e; exact h, fun h => ⟨_, rfl, h⟩⟩
theorem sem_keyX (ds M Q E) (hl : ds.length = 1) (h : sp_keyX ds M Q E) : X.keys.t_check_key sp_is_number (dEndsG Q E) (dstart 1 ds) M := by
  obtain ⟨d, rfl, hd, hQ⟩ := h
  have ht := flatK_ty (M := M) hd
  simp [X.keys.t_check_key, ht]
  cases d <;> simp [keyB, numB] at hQ ⊢ <;> first | exact ⟨M, fun a o h => .inl h, hQ⟩ | skip
  rename_i i
  by_cases h1 : -1000000 ≤ i
  · by_cases h2 : i ≤ 1000000
    · simp [h1, h2] at hQ ⊢; exact gcQ.same hQ
    · simp [h1, h2] at hQ ⊢; exact ⟨M, fun a o h => .inl h, hQ⟩
  · simp [h1] at hQ ⊢; exact ⟨M, fun a o h => .inl h, hQ⟩
def sp_rowX : DSp := fun ds M Q E => ∃ xs, ds = [.tup xs] ∧ xs.all flatK = true ∧ (if 400 < xs.length then E "NoKey" "code" (.str "many") M else if xs.all keyB = true then Q .non M else E "NoKey" "code" (.str "key") M)
@[simp] theorem sp_rowX_eq {xs : List D} {M : Mp} {Q : DQ} {E : DX} : sp_rowX [.tup xs] M Q E = (xs.all flatK = true ∧ (if 400 < xs.length then E "NoKey" "code" (.str "many") M else if xs.all keyB = true then Q .non M else E "NoKey" "code" (.str "key") M)) :=
  propext ⟨fun ⟨t', e, h⟩ => by simp at e; subst e; exact h, fun h => ⟨_, rfl, h⟩⟩
theorem row_loop {N : DEn} {o0 : Option D} {M : Mp} {g : Mp → Prop} (hg : ∀ M, g M) : ∀ (xs : List D) (o1 : Option D), xs.all flatK = true → (if xs.all keyB = true then ∀ o1, N.nx [o0, o1] M else ∀ o1, N.ex "NoKey" "code" (.str "key") [o0, o1] M) →
    wFor g (dgName 1) (dDrop (dCall (arS 1 sp_keyX) (dCons (dVar 1) (dNil)))) N xs [o0, o1] M
  | [], o1, _, h => ⟨hg M, by simpa using h o1⟩
  | d :: xs, o1, hf, h => by
    simp at hf
    refine ⟨hg M, ?_⟩
    have ih := row_loop (N := N) (o0 := o0) (M := M) hg xs (some d) (by simpa using hf.2)
    generalize wFor g (dgName 1) (dDrop (dCall (arS 1 sp_keyX) (dCons (dVar 1) (dNil)))) N xs = W at ih ⊢
    simp [hf.1]
    by_cases hk : keyB d = true
    · simp [hk] at h ⊢
      exact ih (by simpa using h)
    · simp [hk] at h ⊢
      exact h _
theorem sem_rowX (ds M Q E) (hl : ds.length = 1) (h : sp_rowX ds M Q E) : X.keys.t_check_row sp_keyX (dEndsG Q E) (dstart 2 ds) M := by
  obtain ⟨xs, rfl, hf, hQ⟩ := h
  simp only [X.keys.t_check_row, dSeq]
  generalize hR : dFor (iSeqD (dVar 0)) (dgName 1) (dDrop (dCall (arS 1 sp_keyX) (dCons (dVar 1) (dNil)))) = R
  simp
  by_cases hl : 400 < xs.length
  · rw [if_pos hl] at hQ
    rw [if_pos (by omega)]
    exact ⟨M, fun a o h => .inl h, hQ⟩
  · rw [if_neg hl] at hQ
    rw [if_neg (by omega), ← hR]
    simp [dFor]
    refine row_loop (fun _ => trivial) xs _ hf ?_
    by_cases hk : xs.all keyB = true
    · rw [if_pos hk]
      rw [if_pos hk] at hQ
      exact fun o => gcQ.same hQ
    · rw [if_neg hk]
      rw [if_neg hk] at hQ
      exact fun o => ⟨M, fun a o h => .inl h, hQ⟩
theorem keyB_ints : ∀ {xs : List D}, xs.all keyB = true → ∃ ks : List Int, xs = ks.map D.int
  | [], _ => ⟨[], rfl⟩
  | d :: xs, h => by
    simp at h
    obtain ⟨ks, rfl⟩ := keyB_ints (xs := xs) (by simpa using h.2)
    cases d <;> simp [keyB] at h
    rename_i i
    exact ⟨i :: ks, rfl⟩
def intsOf (xs : List D) : List Int := xs.filterMap fun d => match d with | .int i => some i | _ => none
theorem intsOf_map (ks : List Int) : intsOf (ks.map D.int) = ks := by
  induction ks with
  | nil => rfl
  | cons k ks ih => simp [intsOf] at ih ⊢; exact ih
def sp_risX : DSp := fun ds M Q E => ∃ xs, ds = [.tup xs] ∧ xs.all flatK = true ∧ (if 400 < xs.length then E "NoKey" "code" (.str "many") M else if xs.all keyB = true then (if risesB (intsOf xs) = true then Q .non M else E "NoKey" "code" (.str "rising") M) else E "NoKey" "code" (.str "key") M)
@[simp] theorem sp_risX_eq {xs : List D} {M : Mp} {Q : DQ} {E : DX} : sp_risX [.tup xs] M Q E = (xs.all flatK = true ∧ (if 400 < xs.length then E "NoKey" "code" (.str "many") M else if xs.all keyB = true then (if risesB (intsOf xs) = true then Q .non M else E "NoKey" "code" (.str "rising") M) else E "NoKey" "code" (.str "key") M)) :=
  propext ⟨fun ⟨t', e, h⟩ => by simp at e; subst e; exact h, fun h => ⟨_, rfl, h⟩⟩
theorem sem_risX (ds M Q E) (hl : ds.length = 1) (h : sp_risX ds M Q E) : X.keys.t_check_rising sp_rowX (dEndsG Q E) (dstart 3 ds) M := by
  obtain ⟨xs, rfl, hf, hQ⟩ := h
  have same : ∀ {C f : Str} {d : D}, E C f d M → ∃ M1, MSub M1 M ∧ E C f d M1 := fun h => ⟨M, fun a o h => .inl h, h⟩
  simp only [X.keys.t_check_rising, dSeq]
  have hf' : ∀ x ∈ xs, flatK x = true := by simpa using hf
  by_cases hl : 400 < xs.length
  · rw [if_pos hl] at hQ
    simp [hl]
    exact ⟨hf', same hQ⟩
  · rw [if_neg hl] at hQ
    by_cases hk : xs.all keyB = true
    · rw [if_pos hk] at hQ
      obtain ⟨ks, rfl⟩ := keyB_ints hk
      rw [intsOf_map] at hQ
      simp at hl
      have hk' : ∀ x ∈ ks, keyB (.int x) = true := by simpa using hk
      simp [dLc, flatK]
      rw [if_neg (by omega), if_pos hk']
      intro p hp
      rw [gcut_from (by decide)]
      refine wLc_map (fun d => match d with | .tup [.int a, .int b] => .bl (decide (a < b)) | _ => .non) _ (fun d hd acc' R hR => ?_) ?_ (fun acc' => trivial) ?_
      · have hd' : d ∈ zipL (ks.map D.int) ((ks.drop 1).map D.int) := by simpa using hd
        obtain ⟨a, b, rfl⟩ := zipL_mem _ _ d hd'
        simpa using hR
      · rw [zipL_len]; simp; omega
      · obtain ⟨bs, h1, h2⟩ := zip_all ks
        simp only [Int.toNat_one]
        have h1' : List.map (fun d => match d with | D.tup [.int a, .int b] => D.bl (decide (a < b)) | _ => D.non) (zipL (List.map D.int ks) (List.drop 1 (List.map D.int ks))) = bs.map D.bl := h1
        rw [h1']
        simp only [allD_ref, listB_of mup_same, h2, dtru_bl]
        by_cases hr : risesB ks = true
        · rw [if_pos hr] at hQ
          rw [if_pos hr]
          exact gcQ.of (.new (.refl M) hp) hQ
        · rw [if_neg hr] at hQ
          rw [if_neg hr]
          exact ⟨M, (MLe.new (.refl M) hp).sub, hQ⟩
    · rw [if_neg hk] at hQ
      have hk' : ¬ ∀ x ∈ xs, keyB x = true := by simpa using hk
      simp at hl
      simp
      rw [if_neg (by omega), if_neg hk']
      exact ⟨hf', same hQ⟩
theorem lenD_seq {s : D} {M : Mp} {xs : List D} {Q : DQ} (h : seqD s M = some xs) : lenD [s] M Q = Q (.int xs.length) M := by
  cases s with
  | tup ds => cases h; rfl
  | ref a =>
    simp at h
    split at h
    · rename_i e; cases h; simp [e]
    · cases h
  | _ => cases h
theorem ixA_seq {s : D} {M : Mp} {xs : List D} {i : Int} {d : D} {Q : DQ} (h : seqD s M = some xs) (hi : atI xs i = some d) : ixA s (.int i) M Q = Q d M := by
  cases s with
  | tup ds => cases h; simp [hi]
  | ref a =>
    simp at h
    split at h
    · rename_i e; cases h; simp [e, hi]
    · cases h
  | _ => cases h
/-! ### lesser -/
def less (ks : List Int) (x : Int) : Nat := (ks.filter fun k => decide (k < x)).length
theorem less_at {x : Int} : ∀ {ks : List Int}, ks.Pairwise (· ≤ ·) → less ks x ≤ ks.length ∧ ∀ i (h : i < ks.length), ks[i] < x ↔ i < less ks x
  | [], _ => ⟨Nat.le_refl _, fun i h => by simp at h⟩
  | k :: ks, h => by
    obtain ⟨h1, h2⟩ := List.pairwise_cons.mp h
    obtain ⟨q1, q2⟩ := less_at (x := x) h2
    by_cases hk : k < x
    · have e : less (k :: ks) x = less ks x + 1 := by simp [less, hk]
      rw [e]
      refine ⟨by simp; omega, fun i hi => ?_⟩
      cases i with
      | zero => simp [hk]
      | succ i => simp at hi ⊢; exact q2 i hi
    · have e0 : less ks x = 0 := by
        unfold less
        rw [List.filter_eq_nil_iff.mpr fun a ha => by have := h1 a ha; simp; omega]; rfl
      have e : less (k :: ks) x = 0 := by simp [less, hk] at e0 ⊢; exact e0
      rw [e]
      refine ⟨by simp, fun i hi => ?_⟩
      cases i with
      | zero => simp; omega
      | succ i =>
        simp at hi ⊢
        have := h1 ks[i] (List.getElem_mem hi); omega
def sp_lesser : DSp := fun ds M Q E => ∃ (s : D) (ks : List Int) (x : Int), ds = [s, .int x] ∧ seqD s M = some (ks.map D.int) ∧ ks.length ≤ 1000000 ∧ ks.Pairwise (· ≤ ·) ∧ Q (.int (less ks x)) M
abbrev bLess : TDS := (dSeq (dAsg (dBin fdivD (dBin addD (dVar 2) (dVar 3)) (dC (.int 2))) (dgName 4)) (dIfS (dB (dBin ltD (dBin ixA (dVar 0) (dVar 4)) (dVar 1))) (dAsg (dBin addD (dVar 4) (dC (.int 1))) (dgName 2)) (dAsg (dVar 4) (dgName 3))))
theorem less_loop {N : DEn} {s : D} {ks : List Int} {x : Int} {M : Mp} (hs : seqD s M = some (ks.map D.int)) (hr : ∀ i (h : i < ks.length), ks[i] < x ↔ i < less ks x) (fin : ∀ o4, N.nx [some s, some (.int x), some (.int (less ks x)), some (.int (less ks x)), o4] M) :
    ∀ (n lo hi : Nat) (o4 : Option D), hi - lo ≤ n → lo ≤ less ks x → less ks x ≤ hi → hi ≤ ks.length → wWhile (dB (dBin ltD (dVar 2) (dVar 3))) bLess N (n + 1) [some s, some (.int x), some (.int (lo : Int)), some (.int (hi : Int)), o4] M
  | n, lo, hi, o4, h1, h2, h3, h4 => by
    by_cases hlt : lo < hi
    · obtain ⟨n, rfl⟩ : ∃ n', n = n' + 1 := ⟨n - 1, by omega⟩
      obtain ⟨mid, hmid⟩ : ∃ mid, mid = (lo + hi) / 2 := ⟨_, rfl⟩
      have hm : mid < ks.length := by omega
      have em : ((lo : Int) + hi) / 2 = (mid : Int) := by omega
      have hat : atI (ks.map D.int) (mid : Int) = some (.int ks[mid]) := atI_get (by omega) (by rw [List.getElem?_map, Int.toNat_natCast, List.getElem?_eq_getElem hm]; rfl)
      have hiff := hr _ hm
      unfold wWhile
      by_cases hc : ks[mid] < x
      · have ih := less_loop hs hr fin n (mid + 1) hi (some (.int (mid : Int))) (by omega) (by omega) h3 h4
        generalize wWhile (dB (dBin ltD (dVar 2) (dVar 3))) bLess N (n + 1) = W at ih ⊢
        simp [hlt, em, ixA_seq hs hat, hc]
        exact ⟨⟨by decide, by decide⟩, by simpa using ih⟩
      · have ih := less_loop hs hr fin n lo mid (some (.int (mid : Int))) (by omega) (by omega) (by omega) (by omega)
        generalize wWhile (dB (dBin ltD (dVar 2) (dVar 3))) bLess N (n + 1) = W at ih ⊢
        simp [hlt, em, ixA_seq hs hat, hc]
        exact ⟨⟨by decide, by decide⟩, by simpa using ih⟩
    · have e1 : lo = less ks x := by omega
      have e2 : hi = less ks x := by omega
      unfold wWhile
      subst e1
      simp [e2]
      exact fin o4
theorem sem_lesser (ds M Q E) (hl : ds.length = 2) (h : sp_lesser ds M Q E) : X.keys.t_lesser (dEndsG Q E) (dstart 5 ds) M := by
  obtain ⟨s, ks, x, rfl, hs, hz, hp, hQ⟩ := h
  obtain ⟨q1, q2⟩ := less_at (x := x) hp
  show (dSeq _ (dSeq (dWhile (dB (dBin ltD (dVar 2) (dVar 3))) bLess) _)) _ _ _
  generalize hW : dWhile (dB (dBin ltD (dVar 2) (dVar 3))) bLess = W
  simp [lenD_seq hs]
  rw [← hW]
  exact ⟨_, less_loop hs q2 (fun o4 => by simp; exact gcQ.same hQ) ks.length 0 ks.length none (by omega) (by omega) q1 (Nat.le_refl _)⟩
end DL

set_option Elab.async false
set_option linter.all false
set_option maxRecDepth 100000
set_option maxHeartbeats 400000
namespace DL
open PySem PySem.Spec PyProof.Rows L2
def sp_bits : DSp := fun ds M Q E => ∃ n : Int, ds = [.int n] ∧ Q (.int (Builtin.Int.intBits n : Nat)) M
theorem sem_bits (ds M Q E) (hl : ds.length = 1) (h : sp_bits ds M Q E) : X.keys.t_bits_of (dEndsG Q E) (dstart 1 ds) M := by
  obtain ⟨n, rfl, hQ⟩ := h
  simp [X.keys.t_bits_of]
  exact gcQ.same hQ
/-- how often the lowest one goes -/
def onesF : Nat → Nat → Nat
  | 0, _ => 0
  | f + 1, n => if n = 0 then 0 else onesF f (Nat.land n (n - 1)) + 1
def sp_ones : DSp := fun ds M Q E => ∃ n : Nat, ds = [.int (n : Int)] ∧ Q (.int (onesF n n : Nat)) M
end DL

set_option Elab.async false
set_option linter.all false
set_option maxRecDepth 100000
set_option maxHeartbeats 400000
namespace DL
open PySem PySem.Spec PyProof.Rows L2
def endsF : Nat → Nat → Bool
  | 0, n => n == 0
  | f + 1, n => if n = 0 then true else endsF f (Nat.land n (n - 1))
theorem land_lt {n : Nat} (h : n ≠ 0) : Nat.land n (n - 1) < n := by
  have : n &&& (n - 1) ≤ n - 1 := Nat.and_le_right
  show n &&& (n - 1) < n
  omega
theorem ends_all : ∀ (f n : Nat), n ≤ f → endsF f n = true
  | 0, n, h => by simp [endsF]; omega
  | f + 1, n, h => by
    unfold endsF
    split
    · rfl
    · rename_i hn
      have := land_lt hn
      exact ends_all f _ (by omega)
theorem onesF_more : ∀ (f n : Nat), n ≤ f → onesF (f + 1) n = onesF f n
  | 0, n, h => by
    have : n = 0 := by omega
    subst this; rfl
  | f + 1, n, h => by
    by_cases hn : n = 0
    · simp [onesF, hn]
    · have := land_lt hn
      have ih := onesF_more f (Nat.land n (n - 1)) (by omega)
      rw [onesF, if_neg hn, ih, onesF, if_neg hn]
theorem onesF_any : ∀ (d f n : Nat), n ≤ f → onesF (f + d) n = onesF f n
  | 0, _, _, _ => rfl
  | d + 1, f, n, h => by rw [← Nat.add_assoc, onesF_more (f + d) n (by omega), onesF_any d f n h]
def ones (n : Nat) : Nat := onesF n n
theorem ones_step {n : Nat} (h : n ≠ 0) : ones n = ones (Nat.land n (n - 1)) + 1 := by
  obtain ⟨f, rfl⟩ : ∃ f, n = f + 1 := ⟨n - 1, by omega⟩
  have hl := land_lt h
  unfold ones
  rw [onesF, if_neg h]
  have e := onesF_any (f - Nat.land (f + 1) (f + 1 - 1)) (Nat.land (f + 1) (f + 1 - 1)) (Nat.land (f + 1) (f + 1 - 1)) (Nat.le_refl _)
  rw [show Nat.land (f + 1) (f + 1 - 1) + (f - Nat.land (f + 1) (f + 1 - 1)) = f by omega] at e
  rw [e]
theorem land_odd (m : Nat) : (2 * m + 1) &&& (2 * m) = 2 * m := by
  refine Nat.eq_of_testBit_eq fun i => ?_
  rw [Nat.testBit_and]
  cases i with
  | zero => simp
  | succ i =>
    rw [Nat.testBit_succ, Nat.testBit_succ]
    rw [show (2 * m + 1) / 2 = m by omega, show 2 * m / 2 = m by omega, Bool.and_self]
theorem land_even {m : Nat} (h : m ≠ 0) : (2 * m) &&& (2 * m - 1) = 2 * (m &&& (m - 1)) := by
  refine Nat.eq_of_testBit_eq fun i => ?_
  rw [Nat.testBit_and]
  cases i with
  | zero => simp
  | succ i =>
    rw [Nat.testBit_succ, Nat.testBit_succ, Nat.testBit_succ]
    rw [show 2 * m / 2 = m by omega, show (2 * m - 1) / 2 = m - 1 by omega, show 2 * (m &&& (m - 1)) / 2 = m &&& (m - 1) by omega, Nat.testBit_and]
theorem ones_odd (m : Nat) : ones (2 * m + 1) = ones (2 * m) + 1 := by
  rw [ones_step (by omega)]
  show ones ((2 * m + 1) &&& (2 * m)) + 1 = _
  rw [land_odd]
theorem ones_even : ∀ (n m : Nat), m ≤ n → ones (2 * m) = ones m
  | 0, m, h => by
    have : m = 0 := by omega
    subst this; rfl
  | n + 1, m, h => by
    by_cases hm : m = 0
    · subst hm; rfl
    · rw [ones_step (n := 2 * m) (by omega), ones_step hm]
      show ones ((2 * m) &&& (2 * m - 1)) + 1 = _
      rw [land_even hm]
      have := land_lt hm
      rw [ones_even n (m &&& (m - 1)) (by have : m &&& (m - 1) < m := land_lt hm; omega)]
      rfl
abbrev bOnes : TDS := (dSeq (dAug 0 (dBin subD (dVar 0) (dC (.int 1))) andD) (dAug 1 (dC (.int 1)) addI))
theorem ones_loop {N : DEn} {M : Mp} : ∀ (f n : Nat) (c : Int), endsF f n = true → N.nx [some (.int 0), some (.int (c + onesF f n))] M → wWhile (dTru (dVar 0)) bOnes N (f + 1) [some (.int (n : Int)), some (.int c)] M
  | 0, n, c, h, fin => by
    simp [endsF] at h
    subst h
    simp [onesF] at fin
    simpa [wWhile] using fin
  | f + 1, n, c, h, fin => by
    by_cases hn : n = 0
    · subst hn
      simp [onesF] at fin
      unfold wWhile
      simpa using fin
    · simp [endsF, onesF, hn] at h fin
      have ih := ones_loop (N := N) (M := M) f (Nat.land n (n - 1)) (c + 1) h (by rw [show c + 1 + (onesF f (n.land (n - 1)) : Int) = c + ((onesF f (n.land (n - 1)) : Int) + 1) by omega]; exact fin)
      have e : (n : Int) - 1 = ((n - 1 : Nat) : Int) := by omega
      unfold wWhile
      generalize wWhile (dTru (dVar 0)) bOnes N (f + 1) = W at ih ⊢
      simp [hn, e]
      exact ih
theorem sem_ones (ds M Q E) (hl : ds.length = 1) (h : sp_ones ds M Q E) : X.keys.t_ones_of (dEndsG Q E) (dstart 2 ds) M := by
  obtain ⟨n, rfl, hQ⟩ := h
  show (dSeq _ (dSeq (dWhile (dTru (dVar 0)) bOnes) _)) _ _ _
  generalize hW : dWhile (dTru (dVar 0)) bOnes = W
  simp
  rw [← hW]
  refine ⟨_, ones_loop n n 0 (ends_all n n (Nat.le_refl _)) ?_⟩
  simp
  exact gcQ.same hQ
end DL

set_option Elab.async false
set_option linter.all false
set_option maxRecDepth 100000
set_option maxHeartbeats 400000
namespace DL
open PySem PySem.Spec PyProof.Rows L2
@[simp] theorem sp_bits_eq {n : Int} {M : Mp} {Q : DQ} {E : DX} : sp_bits [.int n] M Q E = Q (.int (Builtin.Int.intBits n : Nat)) M :=
  propext ⟨fun ⟨m, e, h⟩ => by simp at e; subst e; exact h, fun h => ⟨_, rfl, h⟩⟩
@[simp] theorem sp_ones_eq {n : Nat} {M : Mp} {Q : DQ} {E : DX} : sp_ones [.int (n : Int)] M Q E = Q (.int (onesF n n : Nat)) M :=
  propext ⟨fun ⟨m, e, h⟩ => by simp at e; obtain rfl : n = m := by omega
                               exact h, fun h => ⟨_, rfl, h⟩⟩
theorem bits_ge {n s : Nat} (h : 2 ^ s ≤ n) : s + 1 ≤ Builtin.Int.intBits (n : Int) := by
  have hn : n ≠ 0 := by rintro rfl; have := Nat.two_pow_pos s; omega
  have h1 : ((n : Int) == 0) = false := by simpa using hn
  unfold Builtin.Int.intBits
  rw [h1]
  simp only [Bool.false_eq_true, if_false, Int.natAbs_natCast]
  have := (Nat.le_log2 hn).mpr h
  omega
theorem bits_pow {n s : Nat} (h : n < 2 ^ s) : Builtin.Int.intBits (n : Int) ≤ s := by
  by_cases hn : n = 0
  · subst hn; exact Nat.zero_le _
  · have h1 : ((n : Int) == 0) = false := by simpa using hn
    unfold Builtin.Int.intBits
    rw [h1]
    simp only [Bool.false_eq_true, if_false, Int.natAbs_natCast]
    have := (Nat.log2_lt hn).mpr h
    omega
/-! ## comprehensions whose parts may be any -/
theorem wLc_grow {β : Type} {gd : TDG} {te : TDE} {τ : DSt} {p : Addr} {Q : DQ} {M : Mp} (e : β → D) (ok : β → Prop) : ∀ (items : List D) (acc : List β) (M1 : Mp)
    (hM : M1 p = some (.lst (acc.map e))) (hk : ∀ a o, a ≠ p → M a = some o → M1 a = some o)
    (hel : ∀ d ∈ items, ∀ (acc' : List β) (M2 : Mp) (R : DQ), M2 p = some (.lst (acc'.map e)) → (∀ a o, a ≠ p → M a = some o → M2 a = some o) → (∀ b M3, ok b → MLe M2 M3 → R (e b) M3) → gd d τ M2 (fun τ2 M3 => te τ2 M3 R noX) noXS)
    (hsz : acc.length + items.length ≤ 16777216)
    (hQ : ∀ (l : List β) (M2 : Mp), l.length = items.length → (∀ b ∈ l, ok b) → M2 p = some (.lst ((acc ++ l).map e)) → (∀ a o, a ≠ p → M a = some o → M2 a = some o) → Q (.ref p) M2),
    wLc anyM gd dYes te τ p Q items M1
  | [], acc, M1, hM, hk, hel, hsz, hQ => ⟨trivial, hQ [] M1 rfl (by simp) (by simpa using hM) hk⟩
  | d :: ds, acc, M1, hM, hk, hel, hsz, hQ => by
    refine ⟨trivial, ?_⟩
    simp only [dYes, if_pos]
    refine hel d (by simp) acc M1 _ hM hk fun b M3 hb ml => ?_
    simp only [List.length_cons] at hsz hQ
    simp only [ml _ _ hM]
    refine ⟨by show _ ≤ _; simp; omega, ?_⟩
    refine wLc_grow e ok ds (acc ++ [b]) _ (by rw [mup_same]; simp) (fun a o ha h => by rw [mup_ne ha]; exact ml _ _ (hk a o ha h)) (fun x hx => hel x (by simp [hx])) (by simp; omega) fun l M2 h1 h2 h3 h4 => ?_
    refine hQ (b :: l) M2 (by simp [h1]) (fun x hx => ?_) (by simpa using h3) h4
    rcases List.mem_cons.mp hx with rfl | hx
    · exact hb
    · exact h2 x hx
/-- numbers drawn -/
theorem wLc_drawn {p : Addr} {gd : TDG} {te : TDE} {τ : DSt} {Q : DQ} {M : Mp} (items : List D) (ok : Int → Prop) (hp : M p = none)
    (hel : ∀ x ∈ items, ∀ (M2 : Mp) (R : DQ), (∀ a o, a ≠ p → M a = some o → M2 a = some o) → (∀ b, ok b → R (.int b) M2) → gd x τ M2 (fun τ2 M3 => te τ2 M3 R noX) noXS)
    (hsz : items.length ≤ 16777216)
    (hQ : ∀ (l : List Int) (M2 : Mp), l.length = items.length → (∀ b ∈ l, ok b) → M2 p = some (.lst (l.map D.int)) → MLe M M2 → Q (.ref p) M2) :
    wLc anyM gd dYes te τ p Q items (mup M p (.lst [])) := by
  refine wLc_grow (M := M) D.int ok items [] _ (by rw [mup_same]; rfl) (fun a o ha h => by rw [mup_ne ha]; exact h) (fun x hx acc M2 R h1 h2 h3 => hel x hx M2 R h2 fun b hb => h3 b M2 hb (.refl _)) (by simpa using hsz) fun l M2 h1 h2 h3 h4 => hQ l M2 h1 h2 (by simpa using h3) fun a o h => ?_
  exact h4 a o (by rintro rfl; rw [hp] at h; cases h) h
end DL

set_option Elab.async false
set_option linter.all false
set_option maxRecDepth 100000
set_option maxHeartbeats 1000000
namespace DL
open PySem PySem.Spec PyProof.Rows L2
/-! ## lists of lists -/
structure LLf (M : Mp) (as : List Addr) (f : Nat → List D) : Prop where
  nd : as.Nodup
  get : ∀ i a, as[i]? = some a → M a = some (.lst (f i))
theorem LLf.mono {M M' : Mp} {as : List Addr} {f : Nat → List D} (h : LLf M as f) (k : ∀ a ∈ as, ∀ o, M a = some o → M' a = some o) : LLf M' as f :=
  ⟨h.nd, fun i a e => k a (List.mem_of_getElem? e) _ (h.get i a e)⟩
theorem LLf.le {M M' : Mp} {as : List Addr} {f : Nat → List D} (h : LLf M as f) (k : MLe M M') : LLf M' as f := h.mono fun a _ o z => k a o z
theorem LLf.ne {M : Mp} {as : List Addr} {f : Nat → List D} (h : LLf M as f) {p : Addr} {o : MO} (hp : p ∉ as) : LLf (mup M p o) as f :=
  h.mono fun a ha o' z => by rw [mup_ne (by rintro rfl; exact hp ha)]; exact z
theorem LLf.set {M : Mp} {as : List Addr} {f f' : Nat → List D} (h : LLf M as f) {i : Nat} {a : Addr} (hi : as[i]? = some a) (hf : ∀ j, j ≠ i → f' j = f j) : LLf (mup M a (.lst (f' i))) as f' :=
  ⟨h.nd, fun j b e => by
    by_cases ij : j = i
    · subst ij; rw [hi] at e; cases e; exact mup_same
    · have : b ≠ a := fun z => by
        obtain ⟨h1, r1⟩ := List.getElem?_eq_some_iff.mp e
        obtain ⟨h2, r2⟩ := List.getElem?_eq_some_iff.mp hi
        exact ij ((List.getElem_inj (h₀ := h1) (h₁ := h2) h.nd).mp (by rw [r1, r2, z]))
      rw [mup_ne this, hf j ij]; exact h.get j b e⟩
theorem LLf.congr {M : Mp} {as : List Addr} {f f' : Nat → List D} (h : LLf M as f) (hf : ∀ j, j < as.length → f' j = f j) : LLf M as f' :=
  ⟨h.nd, fun j b e => by rw [hf j (List.getElem?_eq_some_iff.mp e).1]; exact h.get j b e⟩
theorem LLf.app {M : Mp} {as : List Addr} {f : Nat → List D} (h : LLf M as f) {q : Addr} (hq : q ∉ as) (e : M q = some (.lst (f as.length))) : LLf M (as ++ [q]) f := by
  refine ⟨?_, fun i a z => ?_⟩
  · rw [List.nodup_append]
    refine ⟨h.nd, by simp, fun a ha b hb => ?_⟩
    rw [List.mem_singleton.mp hb]
    rintro rfl; exact hq ha
  · rcases Nat.lt_trichotomy i as.length with c | c | c
    · rw [List.getElem?_append_left c] at z; exact h.get i a z
    · subst c
      rw [List.getElem?_append_right (Nat.le_refl _)] at z
      simp at z; subst z; exact e
    · rw [List.getElem?_eq_none (by simp; omega)] at z; cases z
/-- the items of a list of lists -/
theorem ref_at {as : List Addr} {i : Nat} {a : Addr} (h : as[i]? = some a) : atI (as.map D.ref) (i : Int) = some (.ref a) := by
  have hl := (List.getElem?_eq_some_iff.mp h).1
  rw [atI_nat (by simpa using hl)]
  simp
  exact (List.getElem?_eq_some_iff.mp h).2
/-- a comprehension that makes a list for each item -/
theorem wLc_lls {guard : Mp → Prop} {gd : TDG} {te : TDE} {τ : DSt} {p : Addr} {Q : DQ} {M : Mp} (items : List D) (f : Nat → List D) (hp : M p = none) (hg : ∀ M2, MLe M M2 → guard M2)
    (hel : ∀ i d, items[i]? = some d → ∀ (M2 : Mp) (R : DQ), MLe M M2 → (∀ q M3, M2 q = none → M3 q = some (.lst (f i)) → MLe M2 M3 → R (.ref q) M3) → gd d τ M2 (fun τ2 M3 => te τ2 M3 R noX) noXS)
    (hsz : items.length ≤ 16777216)
    (hQ : ∀ (as : List Addr) (M2 : Mp), as.length = items.length → LLf M2 as f → p ∉ as → (∀ a ∈ as, M a = none) → M2 p = some (.lst (as.map D.ref)) → MLe M M2 → Q (.ref p) M2) :
    wLc guard gd dYes te τ p Q items (mup M p (.lst [])) := by
  have main : ∀ (n : Nat) (as : List Addr) (M1 : Mp), as.length + n = items.length → LLf M1 as f → p ∉ as → (∀ a ∈ as, M a = none) → M1 p = some (.lst (as.map D.ref)) → MLe M M1 → wLc guard gd dYes te τ p Q (items.drop as.length) M1 := by
    intro n
    induction n with
    | zero =>
      intro as M1 h1 h2 h3 h4 h5 h6
      rw [List.drop_eq_nil_of_le (by omega)]
      exact ⟨hg _ h6, hQ as M1 (by omega) h2 h3 h4 h5 h6⟩
    | succ n ih =>
      intro as M1 h1 h2 h3 h4 h5 h6
      have hl : as.length < items.length := by omega
      rw [List.drop_eq_getElem_cons hl]
      refine ⟨hg _ h6, ?_⟩
      simp only [dYes, if_pos]
      refine hel as.length _ (List.getElem?_eq_getElem hl) M1 _ h6 fun q M3 e1 e2 e3 => ?_
      have qp : q ≠ p := by rintro rfl; rw [h5] at e1; cases e1
      have qa : q ∉ as := fun z => by
        obtain ⟨i, hi⟩ := List.getElem?_of_mem z
        have := h2.get i q hi
        rw [this] at e1; cases e1
      have e5 := e3 _ _ h5
      simp only [e5]
      refine ⟨by show _ ≤ _; simp; omega, ?_⟩
      have := ih (as ++ [q]) (mup M3 p (.lst (as.map D.ref ++ [.ref q]))) (by simp; omega) ?_ ?_ ?_ (by simp) ?_
      · simpa using this
      · exact ((h2.le e3).app qa e2).ne (by simp [h3]; exact fun z => qp z.symm)
      · simp [h3]; exact fun z => qp z.symm
      · intro a ha
        rcases List.mem_append.mp ha with z | z
        · exact h4 a z
        · rw [List.mem_singleton.mp z]
          cases e : M q with
          | none => rfl
          | some o => rw [h6 _ _ e] at e1; cases e1
      · intro a o z
        rw [mup_ne (by rintro rfl; rw [hp] at z; cases z)]
        exact e3 _ _ (h6 _ _ z)
  have := main items.length [] (mup M p (.lst [])) (by simp) ⟨by simp, fun i a z => by simp at z⟩ (by simp) (by simp) (by simp) fun a o z => by rw [mup_ne (by rintro rfl; rw [hp] at z; cases z)]; exact z
  simpa using this
/-- a comprehension, item by item -/
theorem wLc_idx {guard : Mp → Prop} {gd : TDG} {te : TDE} {τ : DSt} {p : Addr} {Q : DQ} {M : Mp} (items : List D) (rel : Nat → D → Prop) (hp : M p = none) (hg : ∀ M2, MLe M M2 → guard M2)
    (hel : ∀ i d, items[i]? = some d → ∀ (M2 : Mp) (R : DQ), MLe M M2 → (∀ b M3, rel i b → MLe M2 M3 → R b M3) → gd d τ M2 (fun τ2 M3 => te τ2 M3 R noX) noXS)
    (hsz : items.length ≤ 16777216)
    (hQ : ∀ (l : List D) (M2 : Mp), l.length = items.length → (∀ i b, l[i]? = some b → rel i b) → M2 p = some (.lst l) → MLe M M2 → Q (.ref p) M2) :
    wLc guard gd dYes te τ p Q items (mup M p (.lst [])) := by
  have main : ∀ (n : Nat) (l : List D) (M1 : Mp), l.length + n = items.length → (∀ i b, l[i]? = some b → rel i b) → M1 p = some (.lst l) → MLe M M1 → wLc guard gd dYes te τ p Q (items.drop l.length) M1 := by
    intro n
    induction n with
    | zero =>
      intro l M1 h1 h2 h3 h4
      rw [List.drop_eq_nil_of_le (by omega)]
      exact ⟨hg _ h4, hQ l M1 (by omega) h2 h3 h4⟩
    | succ n ih =>
      intro l M1 h1 h2 h3 h4
      have hl : l.length < items.length := by omega
      rw [List.drop_eq_getElem_cons hl]
      refine ⟨hg _ h4, ?_⟩
      simp only [dYes, if_pos]
      refine hel l.length _ (List.getElem?_eq_getElem hl) M1 _ h4 fun b M3 hb ml => ?_
      simp only [ml _ _ h3]
      refine ⟨by show _ ≤ _; omega, ?_⟩
      have := ih (l ++ [b]) (mup M3 p (.lst (l ++ [b]))) (by simp; omega) (fun i c hc => ?_) mup_same fun a o z => by
        rw [mup_ne (by rintro rfl; rw [hp] at z; cases z)]; exact ml _ _ (h4 _ _ z)
      · simpa using this
      · rcases Nat.lt_trichotomy i l.length with z | z | z
        · rw [List.getElem?_append_left z] at hc; exact h2 i c hc
        · subst z
          rw [List.getElem?_append_right (Nat.le_refl _)] at hc
          simp at hc; subst hc; exact hb
        · rw [List.getElem?_eq_none (by simp; omega)] at hc; cases hc
  have := main items.length [] (mup M p (.lst [])) (by simp) (fun i b h => by simp at h) mup_same fun a o z => by rw [mup_ne (by rintro rfl; rw [hp] at z; cases z)]; exact z
  simpa using this
/-- told by a function -/
theorem wLc_fun {guard : Mp → Prop} {gd : TDG} {te : TDE} {τ : DSt} {p : Addr} {Q : DQ} {M : Mp} (items : List D) (f : Nat → D) (hp : M p = none) (hg : ∀ M2, MLe M M2 → guard M2)
    (hel : ∀ i d, items[i]? = some d → ∀ (M2 : Mp) (R : DQ), MLe M M2 → (∀ M3, MLe M2 M3 → R (f i) M3) → gd d τ M2 (fun τ2 M3 => te τ2 M3 R noX) noXS)
    (hsz : items.length ≤ 16777216)
    (hQ : ∀ (M2 : Mp), M2 p = some (.lst ((List.range items.length).map f)) → MLe M M2 → Q (.ref p) M2) :
    wLc guard gd dYes te τ p Q items (mup M p (.lst [])) :=
  wLc_idx items (fun i b => b = f i) hp hg (fun i d hd M2 R ml hR => hel i d hd M2 R ml fun M3 k => hR _ M3 rfl k) hsz fun l M2 h1 h2 h3 h4 => hQ M2 (by
    rw [h3]; congr 2
    refine List.ext_getElem? fun i => ?_
    rcases Nat.lt_or_ge i items.length with z | z
    · have hl : i < l.length := by omega
      rw [List.getElem?_eq_getElem hl, h2 i _ (List.getElem?_eq_getElem hl)]
      simp [z]
    · rw [List.getElem?_eq_none (by omega), List.getElem?_eq_none (by simp; omega)]) h4
/-- with a test, told by functions -/
theorem wLc_tst {guard : Mp → Prop} {gd : TDG} {tt : TDT} {te : TDE} {τ : DSt} {p : Addr} {Q : DQ} {M : Mp} (items : List D) (c : Nat → Bool) (f : Nat → D) (hp : M p = none) (hg : ∀ M2, MLe M M2 → guard M2)
    (hel : ∀ i d, items[i]? = some d → ∀ (M2 : Mp) (R : DQ) (R0 : Mp → Prop), MLe M M2 → (c i = true → ∀ M3, MLe M2 M3 → R (f i) M3) → (c i = false → ∀ M3, MLe M2 M3 → R0 M3) → gd d τ M2 (fun τ2 M3 => tt τ2 M3 (fun b M4 => if b = true then te τ2 M4 R noX else R0 M4) noX) noXS)
    (hsz : items.length ≤ 16777216)
    (hQ : ∀ (M2 : Mp), M2 p = some (.lst (((List.range items.length).filter c).map f)) → MLe M M2 → Q (.ref p) M2) :
    wLc guard gd tt te τ p Q items (mup M p (.lst [])) := by
  have main : ∀ (n k : Nat) (M1 : Mp), k + n = items.length → M1 p = some (.lst (((List.range k).filter c).map f)) → MLe M M1 → wLc guard gd tt te τ p Q (items.drop k) M1 := by
    intro n
    induction n with
    | zero =>
      intro k M1 h1 h3 h4
      obtain rfl : k = items.length := by omega
      rw [List.drop_eq_nil_of_le (by omega)]
      exact ⟨hg _ h4, hQ M1 h3 h4⟩
    | succ n ih =>
      intro k M1 h1 h3 h4
      have hl : k < items.length := by omega
      rw [List.drop_eq_getElem_cons hl]
      have ln := List.length_filter_le c (List.range k)
      rw [List.length_range] at ln
      refine ⟨hg _ h4, hel k _ (List.getElem?_eq_getElem hl) M1 _ _ h4 (fun hc M3 ml => ?_) fun hc M3 ml => ?_⟩
      · simp only [ml _ _ h3]
        refine ⟨by show _ ≤ _; rw [List.length_map]; omega, ?_⟩
        refine ih (k + 1) _ (by omega) ?_ fun a o z => by
          rw [mup_ne (by rintro rfl; rw [hp] at z; cases z)]; exact ml _ _ (h4 _ _ z)
        rw [mup_same, List.range_succ, List.filter_append, List.map_append]
        simp [hc]
      · refine ih (k + 1) _ (by omega) ?_ fun a o z => ml _ _ (h4 _ _ z)
        rw [ml _ _ h3, List.range_succ, List.filter_append, List.map_append]
        simp [hc]
  have := main items.length 0 (mup M p (.lst [])) (by simp) (by simp) fun a o z => by rw [mup_ne (by rintro rfl; rw [hp] at z; cases z)]; exact z
  simpa using this
end DL

set_option Elab.async false
set_option linter.all false
set_option maxRecDepth 100000
set_option maxHeartbeats 1000000
namespace DL
open PySem PySem.Spec PyProof.Rows L2
/-! ## insert, pop by place -/
theorem chL_at {f : List D → List D → Option (D × List D)} {xs ds ys : List D} {d : D} {a : Addr} {M : Mp} {Q : DQ} (hM : M a = some (.lst xs)) (h : f xs ds = some (d, ys)) (hs : ys.length ≤ 16777216) (hq : Q d (mup M a (.lst ys))) : chL f (.ref a) ds M Q := by
  simp only [chL, hM, h]
  exact ⟨hs, hq⟩
theorem fInsN {xs : List D} {p : Nat} {d : D} (h : p ≤ 1000000) : fInsert xs [.int (p : Int), d] = some (.non, xs.take p ++ [d] ++ xs.drop p) := by
  simp only [fInsert]
  rw [if_pos ⟨by omega, by omega⟩, Int.toNat_natCast]
theorem fPopN {xs : List D} {p : Nat} {d : D} (h : xs[p]? = some d) : fPopAt xs [.int (p : Int)] = some (d, xs.eraseIdx p) := by
  have hlt := (List.getElem?_eq_some_iff.mp h).1
  simp only [fPopAt, ixN_nat hlt, h]
theorem len_ins {xs : List D} {p : Nat} {d : D} (hl : xs.length ≤ 1000000) : (xs.take p ++ [d] ++ xs.drop p).length ≤ 16777216 := by
  rw [List.length_append, List.length_append, List.length_take, List.length_drop, List.length_singleton]
  omega
theorem len_era {xs : List D} {p : Nat} (hl : xs.length ≤ 1000000) : (xs.eraseIdx p).length ≤ 16777216 := by
  rw [List.length_eraseIdx]
  split <;> omega
theorem chL_insN {xs : List D} {p : Nat} {d : D} {a : Addr} {M : Mp} {Q : DQ} (hM : M a = some (.lst xs)) (hp : p ≤ 1000000) (hl : xs.length ≤ 1000000) (h : Q .non (mup M a (.lst (xs.take p ++ [d] ++ xs.drop p)))) : chL fInsert (.ref a) [.int (p : Int), d] M Q :=
  chL_at hM (fInsN hp) (len_ins hl) h
theorem chL_popN {xs : List D} {p : Nat} {d : D} {a : Addr} {M : Mp} {Q : DQ} (hM : M a = some (.lst xs)) (hp : xs[p]? = some d) (hl : xs.length ≤ 1000000) (h : Q d (mup M a (.lst (xs.eraseIdx p)))) : chL fPopAt (.ref a) [.int (p : Int)] M Q :=
  chL_at hM (fPopN hp) (len_era hl) h
end DL

set_option Elab.async false
set_option linter.all false
set_option maxRecDepth 100000
set_option maxHeartbeats 400000
namespace DL
/-! ## heaps in a row: the plain part -/
def gd (xs : List Int) (i : Nat) : Int := xs.getD i 0
def swp (xs : List Int) (i j : Nat) : List Int := (xs.set i (gd xs j)).set j (gd xs i)
theorem gd_get {xs : List Int} {i : Nat} (h : i < xs.length) : xs[i]? = some (gd xs i) := by
  unfold gd; rw [List.getD_eq_getElem?_getD, List.getElem?_eq_getElem h]; rfl
theorem gd_set {xs : List Int} {i j : Nat} {v : Int} (h : i < xs.length) : gd (xs.set i v) j = if i = j then v else gd xs j := by
  unfold gd
  rw [List.getD_eq_getElem?_getD, List.getD_eq_getElem?_getD, List.getElem?_set]
  split
  · simp [h]
  · rfl
@[simp] theorem swp_len {xs : List Int} {i j : Nat} : (swp xs i j).length = xs.length := by simp [swp]
theorem gd_swp {xs : List Int} {i j k : Nat} (hi : i < xs.length) (hj : j < xs.length) : gd (swp xs i j) k = if j = k then gd xs i else if i = k then gd xs j else gd xs k := by
  unfold swp
  rw [gd_set (by simpa using hj)]
  split
  · rfl
  · rw [gd_set hi]
theorem swp_perm {xs : List Int} {i j : Nat} (hi : i < xs.length) (hj : j < xs.length) : (swp xs i j).Perm xs := by
  have e1 : gd xs i = xs[i] := by have := gd_get hi; rw [List.getElem?_eq_getElem hi] at this; exact (Option.some.inj this).symm
  have e2 : gd xs j = xs[j] := by have := gd_get hj; rw [List.getElem?_eq_getElem hj] at this; exact (Option.some.inj this).symm
  unfold swp
  rw [e1, e2]
  exact List.set_set_perm hi hj
/-- up -/
def raiseL : Nat → List Int → Nat → List Int × Nat
  | 0, xs, _ => (xs, 0)
  | f + 1, xs, at_ => if 0 < at_ ∧ gd xs at_ < gd xs ((at_ - 1) / 2) then ((raiseL f (swp xs at_ ((at_ - 1) / 2)) ((at_ - 1) / 2)).1, (raiseL f (swp xs at_ ((at_ - 1) / 2)) ((at_ - 1) / 2)).2 + 1) else (xs, 0)
/-- down -/
def lessB (xs : List Int) (at_ e : Nat) : Nat := if 2 * at_ + 2 < e ∧ gd xs (2 * at_ + 2) < gd xs (2 * at_ + 1) then 2 * at_ + 2 else 2 * at_ + 1
def sinkL : Nat → List Int → Nat → Nat → List Int × Nat
  | 0, xs, _, _ => (xs, 0)
  | f + 1, xs, at_, e => if 2 * at_ + 1 < e then (if gd xs at_ ≤ gd xs (lessB xs at_ e) then (xs, 0) else
      ((sinkL f (swp xs at_ (lessB xs at_ e)) (lessB xs at_ e) e).1, (sinkL f (swp xs at_ (lessB xs at_ e)) (lessB xs at_ e) e).2 + 1)) else (xs, 0)
/-- right from a place on -/
def HpF (lo : Nat) (xs : List Int) : Prop := ∀ i, 0 < i → i < xs.length → lo ≤ (i - 1) / 2 → gd xs ((i - 1) / 2) ≤ gd xs i
abbrev Heap' (xs : List Int) : Prop := HpF 0 xs
theorem raise_spec : ∀ (f : Nat) (xs : List Int) (at_ : Nat), at_ ≤ f → at_ < xs.length →
    (∀ i, 0 < i → i < xs.length → i ≠ at_ → gd xs ((i - 1) / 2) ≤ gd xs i) → (0 < at_ → ∀ i, 0 < i → i < xs.length → (i - 1) / 2 = at_ → gd xs ((at_ - 1) / 2) ≤ gd xs i) →
    Heap' (raiseL f xs at_).1 ∧ (raiseL f xs at_).1.Perm xs ∧ 2 ^ (raiseL f xs at_).2 ≤ at_ + 1
  | 0, xs, at_, hf, hl, h1, h2 => by
    refine ⟨fun i h3 h4 _ => h1 i h3 h4 (by omega), List.Perm.refl _, by simp [raiseL]⟩
  | f + 1, xs, at_, hf, hl, h1, h2 => by
    unfold raiseL
    split
    · rename_i hc
      obtain ⟨c1, c2⟩ := hc
      have hp : (at_ - 1) / 2 < at_ := by omega
      have hpl : (at_ - 1) / 2 < xs.length := by omega
      have ih := raise_spec f (swp xs at_ ((at_ - 1) / 2)) ((at_ - 1) / 2) (by omega) (by simpa using hpl) (fun i i0 il ine => by
        rw [swp_len] at il
        rw [gd_swp hl hpl, gd_swp hl hpl]
        by_cases e1 : i = at_
        · subst e1
          rw [if_pos rfl, if_neg (by omega), if_pos rfl]; omega
        · have g := h1 i i0 il e1
          rw [if_neg (show ¬ (at_ - 1) / 2 = i by omega), if_neg (show ¬ at_ = i by omega)]
          by_cases e2 : (at_ - 1) / 2 = (i - 1) / 2
          · rw [if_pos e2]; rw [← e2] at g; omega
          · rw [if_neg e2]
            by_cases e3 : at_ = (i - 1) / 2
            · rw [if_pos e3]; exact h2 c1 i i0 il e3.symm
            · rw [if_neg e3]; exact g) (fun p0 i i0 il ie => by
        rw [swp_len] at il
        rw [gd_swp hl hpl, gd_swp hl hpl]
        rw [if_neg (show ¬ (at_ - 1) / 2 = ((at_ - 1) / 2 - 1) / 2 by omega), if_neg (show ¬ at_ = ((at_ - 1) / 2 - 1) / 2 by omega), if_neg (show ¬ (at_ - 1) / 2 = i by omega)]
        have gp := h1 ((at_ - 1) / 2) p0 hpl (by omega)
        by_cases e1 : at_ = i
        · rw [if_pos e1]; exact gp
        · rw [if_neg e1]
          have g := h1 i i0 il (fun e => e1 e.symm)
          rw [ie] at g; omega)
      obtain ⟨a, b, c⟩ := ih
      refine ⟨a, b.trans (swp_perm hl hpl), ?_⟩
      show 2 ^ (_ + 1) ≤ _
      rw [Nat.pow_succ]; omega
    · rename_i hc
      refine ⟨fun i i0 il _ => ?_, List.Perm.refl _, by simp⟩
      by_cases e : i = at_
      · subst e; have := not_and.mp hc i0; simp at this ⊢; exact this
      · exact h1 i i0 il e
theorem raise_len {f : Nat} : ∀ {xs : List Int} {at_ : Nat}, (raiseL f xs at_).1.length = xs.length := by
  induction f with
  | zero => intro xs a; rfl
  | succ f ih =>
    intro xs a
    unfold raiseL
    split
    · simp [ih]
    · rfl
theorem sink_len {f : Nat} : ∀ {xs : List Int} {at_ e : Nat}, (sinkL f xs at_ e).1.length = xs.length := by
  induction f with
  | zero => intro xs a e; rfl
  | succ f ih =>
    intro xs a e
    unfold sinkL
    split
    · split
      · rfl
      · simp [ih]
    · rfl
theorem lessB_or (xs : List Int) (at_ e : Nat) : lessB xs at_ e = 2 * at_ + 2 ∧ 2 * at_ + 2 < e ∨ lessB xs at_ e = 2 * at_ + 1 := by
  unfold lessB
  split
  · rename_i h; exact .inl ⟨rfl, h.1⟩
  · exact .inr rfl
theorem lessB_le {xs : List Int} {at_ e i : Nat} (h0 : 0 < i) (hi : (i - 1) / 2 = at_) (he : i < e) : gd xs (lessB xs at_ e) ≤ gd xs i := by
  have hi2 : i = 2 * at_ + 1 ∨ i = 2 * at_ + 2 := by omega
  unfold lessB
  split
  · rename_i h
    rcases hi2 with rfl | rfl
    · omega
    · exact Int.le_refl _
  · rename_i h
    rcases hi2 with rfl | rfl
    · exact Int.le_refl _
    · have := not_and.mp h he; omega
theorem sink_spec (lo : Nat) : ∀ (f : Nat) (xs : List Int) (at_ : Nat), xs.length ≤ at_ + f → at_ < xs.length → lo ≤ at_ →
    (∀ i, 0 < i → i < xs.length → lo ≤ (i - 1) / 2 → (i - 1) / 2 ≠ at_ → gd xs ((i - 1) / 2) ≤ gd xs i) →
    (lo < at_ → lo ≤ (at_ - 1) / 2 → ∀ i, 0 < i → i < xs.length → (i - 1) / 2 = at_ → gd xs ((at_ - 1) / 2) ≤ gd xs i) →
    HpF lo (sinkL f xs at_ xs.length).1 ∧ (sinkL f xs at_ xs.length).1.Perm xs ∧ (at_ + 1) * 2 ^ (sinkL f xs at_ xs.length).2 ≤ xs.length
  | 0, xs, at_, hf, hl, hlo, h1, h2 => by omega
  | f + 1, xs, at_, hf, hl, hlo, h1, h2 => by
    unfold sinkL
    split
    · rename_i hc
      obtain ⟨b, hb⟩ : ∃ b, b = lessB xs at_ xs.length := ⟨_, rfl⟩
      have hor := lessB_or xs at_ xs.length
      rw [← hb] at hor ⊢
      have hbl : b < xs.length := by omega
      have hmin : ∀ i, 0 < i → i < xs.length → (i - 1) / 2 = at_ → gd xs b ≤ gd xs i := fun i i0 il ie => by rw [hb]; exact lessB_le i0 ie il
      have hpb : (b - 1) / 2 = at_ := by omega
      split
      · rename_i hle
        refine ⟨fun i i0 il hi => ?_, List.Perm.refl _, by simp; omega⟩
        by_cases e : (i - 1) / 2 = at_
        · dsimp only at il ⊢; rw [e]; have := hmin i i0 il e; omega
        · exact h1 i i0 il hi e
      · rename_i hgt
        have ih := sink_spec lo f (swp xs at_ b) b (by simp; omega) (by simpa using hbl) (by omega) (fun i i0 il hi hne => by
          rw [swp_len] at il
          rw [gd_swp hl hbl, gd_swp hl hbl]
          rw [if_neg (show ¬ b = (i - 1) / 2 by omega)]
          by_cases e1 : (i - 1) / 2 = at_
          · rw [if_pos e1.symm]
            by_cases e2 : b = i
            · rw [if_pos e2]; omega
            · rw [if_neg e2, if_neg (show ¬ at_ = i by omega)]
              exact hmin i i0 il e1
          · rw [if_neg (show ¬ at_ = (i - 1) / 2 by omega), if_neg (show ¬ b = i by omega)]
            by_cases e3 : at_ = i
            · rw [if_pos e3]
              subst e3
              exact h2 (by omega) hi b (by omega) hbl hpb
            · rw [if_neg e3]
              exact h1 i i0 il hi e1) (fun _ _ i i0 il ie => by
          rw [swp_len] at il
          rw [gd_swp hl hbl, gd_swp hl hbl, hpb]
          rw [if_neg (show ¬ b = at_ by omega), if_pos rfl, if_neg (show ¬ b = i by omega), if_neg (show ¬ at_ = i by omega)]
          have := h1 i i0 il (by omega) (by omega)
          rw [ie] at this; exact this)
        rw [swp_len] at ih
        obtain ⟨a, p, c⟩ := ih
        refine ⟨a, p.trans (swp_perm hl hbl), ?_⟩
        show _ * 2 ^ (_ + 1) ≤ _
        rw [Nat.pow_succ]
        refine Nat.le_trans ?_ c
        rw [show ∀ n : Nat, (at_ + 1) * (n * 2) = (2 * (at_ + 1)) * n from fun n => by rw [Nat.mul_comm n 2, ← Nat.mul_assoc, Nat.mul_comm (at_ + 1) 2]]
        exact Nat.mul_le_mul_right _ (by omega)
    · rename_i hc
      refine ⟨fun i i0 il hi => by dsimp only at il ⊢; exact h1 i i0 il hi (by omega), List.Perm.refl _, by simp; omega⟩
/-! ### push, pop -/
def pushH (xs : List Int) (k : Int) : List Int × Nat := raiseL (xs.length) (xs ++ [k]) xs.length
theorem gd_app {xs : List Int} {k : Int} {i : Nat} (h : i < xs.length) : gd (xs ++ [k]) i = gd xs i := by
  unfold gd
  rw [List.getD_eq_getElem?_getD, List.getD_eq_getElem?_getD, List.getElem?_append_left h]
theorem gd_last {xs : List Int} {k : Int} : gd (xs ++ [k]) xs.length = k := by
  unfold gd
  rw [List.getD_eq_getElem?_getD, List.getElem?_append_right (Nat.le_refl _)]; simp
theorem push_heap {xs : List Int} {k : Int} (h : Heap' xs) : Heap' (pushH xs k).1 ∧ (pushH xs k).1.Perm (xs ++ [k]) ∧ 2 ^ (pushH xs k).2 ≤ xs.length + 1 :=
  raise_spec xs.length (xs ++ [k]) xs.length (Nat.le_refl _) (by simp) (fun i i0 il ine => by
    simp at il
    rw [gd_app (by omega), gd_app (by omega)]
    exact h i i0 (by omega) (Nat.zero_le _)) fun _ i i0 il ie => by simp at il; omega
/-- the keys put behind -/
theorem push_none {xs : List Int} {k : Int} (h : ∀ x ∈ xs, x ≤ k) : pushH xs k = (xs ++ [k], 0) := by
  unfold pushH
  cases hn : xs.length with
  | zero => rfl
  | succ n =>
    unfold raiseL
    rw [if_neg]
    rintro ⟨_, h2⟩
    rw [← hn, gd_last, gd_app (by omega)] at h2
    have := h _ (List.mem_of_getElem? (gd_get (xs := xs) (i := (xs.length - 1) / 2) (by omega)))
    omega
def popH (xs : List Int) : Int × List Int × Nat :=
  if xs.length ≤ 1 then (gd xs (xs.length - 1), [], 0) else (gd xs 0, (sinkL (xs.length - 1) (xs.dropLast.set 0 (gd xs (xs.length - 1))) 0 (xs.length - 1)).1, (sinkL (xs.length - 1) (xs.dropLast.set 0 (gd xs (xs.length - 1))) 0 (xs.length - 1)).2)
theorem heap_min {xs : List Int} (h : Heap' xs) : ∀ i, i < xs.length → gd xs 0 ≤ gd xs i := by
  intro i
  induction i using Nat.strongRecOn with
  | _ i ih =>
    intro hl
    by_cases e : i = 0
    · subst e; exact Int.le_refl _
    · have := h i (by omega) hl (Nat.zero_le _)
      have := ih ((i - 1) / 2) (by omega) (by omega)
      omega
theorem pop_spec {xs : List Int} (h : Heap' xs) (hn : xs ≠ []) : Heap' (popH xs).2.1 ∧ ((popH xs).1 :: (popH xs).2.1).Perm xs ∧ (∀ x ∈ xs, (popH xs).1 ≤ x) ∧ (popH xs).2.1.length + 1 = xs.length ∧ ((popH xs).2.2 = 0 ∨ 2 ^ (popH xs).2.2 ≤ xs.length - 1) := by
  have hl : 0 < xs.length := List.length_pos_iff.mpr hn
  unfold popH
  split
  · rename_i h1
    obtain ⟨x, rfl⟩ : ∃ x, xs = [x] := List.length_eq_one_iff.mp (by omega)
    refine ⟨fun i i0 il => by simp at il, List.Perm.refl _, ?_, rfl, .inl rfl⟩
    intro y hy; rw [List.mem_singleton.mp hy]; exact Int.le_refl _
  · rename_i h1
    have hne : xs.dropLast ≠ [] := by
      intro e; have := congrArg List.length e; simp at this; omega
    have e0 : (xs.dropLast.set 0 (gd xs (xs.length - 1))).length = xs.length - 1 := by simp
    have gdd : ∀ i, i < xs.length - 1 → gd xs.dropLast i = gd xs i := fun i hi => by
      unfold gd; rw [List.getD_eq_getElem?_getD, List.getD_eq_getElem?_getD, List.getElem?_dropLast, if_pos hi]
    have S := sink_spec 0 (xs.length - 1) (xs.dropLast.set 0 (gd xs (xs.length - 1))) 0 (by rw [e0]; omega) (by rw [e0]; omega) (Nat.le_refl _) (fun i i0 il _ hne' => by
      rw [e0] at il
      rw [gd_set (by simp; omega), gd_set (by simp; omega), if_neg (by omega), if_neg (by omega), gdd _ (by omega), gdd _ il]
      exact h i i0 (by omega) (Nat.zero_le _)) fun h => by omega
    rw [e0] at S
    obtain ⟨a, b, c⟩ := S
    refine ⟨a, ?_, ?_, by show (sinkL _ _ _ _).1.length + 1 = _; rw [sink_len, e0]; omega, .inr (by simpa using c)⟩
    · -- the same keys
      have hx : xs = xs.dropLast ++ [gd xs (xs.length - 1)] := by
        conv => lhs; rw [← List.dropLast_concat_getLast hn]
        congr 2
        have := gd_get (xs := xs) (i := xs.length - 1) (by omega)
        rw [List.getLast_eq_getElem]
        rw [List.getElem?_eq_getElem (by omega)] at this
        exact Option.some.inj this
      obtain ⟨y, ys, hy⟩ : ∃ y ys, xs.dropLast = y :: ys := List.exists_cons_of_ne_nil hne
      have g0 : gd xs 0 = y := by rw [← gdd 0 (by omega), hy]; rfl
      refine (List.Perm.cons _ b).trans ?_
      conv => rhs; rw [hx]
      rw [hy, g0]
      simp only [List.set_cons_zero, List.cons_append]
      exact List.Perm.cons _ (List.perm_append_singleton _ _).symm
    · intro x hx
      obtain ⟨i, hi⟩ := List.getElem?_of_mem hx
      have hil : i < xs.length := (List.getElem?_eq_some_iff.mp hi).1
      have := gd_get hil
      rw [hi] at this
      rw [Option.some.inj this]
      exact heap_min h i hil
/-! ### taking all -/
def drainH : Nat → List Int → List Int × Nat
  | 0, _ => ([], 0)
  | f + 1, xs => if xs = [] then ([], 0) else ((popH xs).1 :: (drainH f (popH xs).2.1).1, (popH xs).2.2 + (drainH f (popH xs).2.1).2)
theorem drain_spec : ∀ (f : Nat) (xs : List Int), xs.length ≤ f → Heap' xs → (drainH f xs).1.Perm xs ∧ (drainH f xs).1.Pairwise (· ≤ ·)
  | 0, xs, hf, h => by
    have : xs = [] := List.length_eq_zero_iff.mp (by omega)
    subst this; exact ⟨List.Perm.refl _, .nil⟩
  | f + 1, xs, hf, h => by
    unfold drainH
    split
    · rename_i e; subst e; exact ⟨List.Perm.refl _, .nil⟩
    · rename_i e
      obtain ⟨a, b, c, d, _⟩ := pop_spec h e
      obtain ⟨p, q⟩ := drain_spec f (popH xs).2.1 (by omega) a
      refine ⟨(List.Perm.cons _ p).trans b, List.pairwise_cons.mpr ⟨fun x hx => c x (b.subset (List.mem_cons_of_mem _ (p.subset hx))), q⟩⟩
theorem srtI_perm {l m : List Int} (h : l.Perm m) : srtI l = srtI m := by
  have a := (List.mergeSort_perm l fun a b => decide (a ≤ b)).trans (h.trans (List.mergeSort_perm m fun a b => decide (a ≤ b)).symm)
  exact a.eq_of_pairwise (le := fun a b : Int => a ≤ b) (fun x y _ _ h1 h2 => by omega) (srtI_le l) (srtI_le m)
theorem srtI_of {l m : List Int} (h : l.Perm m) (s : l.Pairwise (· ≤ ·)) : srtI m = l := by
  have a := (List.mergeSort_perm m fun a b => decide (a ≤ b)).trans h.symm
  exact a.eq_of_pairwise (le := fun a b : Int => a ≤ b) (fun x y _ _ h1 h2 => by omega) (srtI_le m) s
/-! ### making a heap -/
def heapStep (xs : List Int) (sw : Nat) (at_ : Nat) : List Int × Nat := ((sinkL xs.length xs at_ xs.length).1, sw + (sinkL xs.length xs at_ xs.length).2)
def heapL : Nat → List Int → Nat → List Int × Nat
  | 0, xs, sw => (xs, sw)
  | m + 1, xs, sw => heapL m (heapStep xs sw m).1 (heapStep xs sw m).2
def heapH (xs : List Int) : List Int × Nat := heapL (xs.length / 2) xs 0
def hBound (n : Nat) : Nat → Nat
  | 0 => 0
  | m + 1 => Nat.log2 (n / (m + 1)) + hBound n m
theorem heapL_spec (n : Nat) : ∀ (m : Nat) (xs : List Int) (sw : Nat), xs.length = n → 2 * m ≤ n → HpF m xs → Heap' (heapL m xs sw).1 ∧ (heapL m xs sw).1.Perm xs ∧ (heapL m xs sw).2 ≤ sw + hBound n m
  | 0, xs, sw, hn, hm, h => ⟨h, List.Perm.refl _, Nat.le_refl _⟩
  | m + 1, xs, sw, hn, hm, h => by
    have S := sink_spec m xs.length xs m (by omega) (by omega) (Nat.le_refl _) (fun i i0 il hi hne => h i i0 il (by omega)) fun hlt => by omega
    obtain ⟨a, b, c⟩ := S
    obtain ⟨p, q, r⟩ := heapL_spec n m (heapStep xs sw m).1 (heapStep xs sw m).2 (by simp only [heapStep]; rw [sink_len]; exact hn) (by omega) a
    refine ⟨p, q.trans b, ?_⟩
    have hlog : (sinkL xs.length xs m xs.length).2 ≤ Nat.log2 (n / (m + 1)) := by
      refine (Nat.le_log2 ?_).mpr ?_
      · have : 0 < n / (m + 1) := Nat.div_pos (by omega) (by omega)
        omega
      · rw [Nat.le_div_iff_mul_le (by omega), Nat.mul_comm, ← hn]; exact c
    show (heapL m (heapStep xs sw m).1 (heapStep xs sw m).2).2 ≤ _
    simp only [heapStep] at r ⊢
    simp only [hBound]
    omega
theorem heapH_spec (xs : List Int) : Heap' (heapH xs).1 ∧ (heapH xs).1.Perm xs ∧ (heapH xs).2 ≤ hBound xs.length (xs.length / 2) := by
  have := heapL_spec xs.length (xs.length / 2) xs 0 rfl (by omega) fun i i0 il hi => by omega
  unfold heapH
  simpa using this
/-! ### pushing many -/
def pushAllH : List Int → List Int → Nat → List Int × Nat
  | xs, [], sw => (xs, sw)
  | xs, k :: ks, sw => pushAllH (pushH xs k).1 ks (sw + (pushH xs k).2)
theorem pushAll_spec : ∀ (ks xs : List Int) (sw : Nat), Heap' xs → Heap' (pushAllH xs ks sw).1 ∧ (pushAllH xs ks sw).1.Perm (xs ++ ks)
  | [], xs, sw, h => ⟨h, by simp [pushAllH]⟩
  | k :: ks, xs, sw, h => by
    obtain ⟨a, b, _⟩ := push_heap (k := k) h
    obtain ⟨c, d⟩ := pushAll_spec ks (pushH xs k).1 (sw + (pushH xs k).2) a
    refine ⟨c, d.trans ?_⟩
    have := b.append_right ks
    simpa using this
theorem pushAll_srt : ∀ (ks xs : List Int) (sw : Nat), (xs ++ ks).Pairwise (· ≤ ·) → pushAllH xs ks sw = (xs ++ ks, sw)
  | [], xs, sw, h => by simp [pushAllH]
  | k :: ks, xs, sw, h => by
    have h1 : ∀ x ∈ xs, x ≤ k := fun x hx => (List.pairwise_append.mp h).2.2 x hx k (by simp)
    unfold pushAllH
    rw [push_none h1]
    have := pushAll_srt ks (xs ++ [k]) (sw + 0) (by simpa using h)
    simpa using this
end DL

set_option Elab.async false
set_option linter.all false
set_option maxRecDepth 100000
set_option maxHeartbeats 400000
namespace DL
open PySem PySem.Spec PyProof.Rows L2
section
variable {P : Program} {w : World} {K : Fr} {mg : Str → Option Value} {base : Heap} {T : Tb} {x qual : Str} {params : Arguments} {body : List Stmt} {scope : Scope} {f : Addr} {fd : FuncData} {ps : List Str} {k n : Nat}
/-- two defs that call each other -/
theorem fnD_rec2 {nm : Str} {sp : Nat → DSp} (F : FunD K nm qual params body scope [] [] f fd) (hm : mg x = some (.ref f)) (b : Binds K fd ps []) (h0 : ∀ ds M Q E, ¬ sp 0 ds M Q E)
    (step : ∀ j, FnD P w K mg base T x (k + 2 * j) ps.length (sp j) → FnD P w K mg base T x (k + 2 * j + 1 + 1) ps.length (sp (j + 1))) : ∀ j, FnD P w K mg base T x (k + 2 * j) ps.length (sp j)
  | 0 => (fnD_bot F hm b).imp fun _ _ _ _ h => h0 _ _ _ _ h
  | j + 1 => step j (fnD_rec2 F hm b h0 step j)
end
end DL

set_option Elab.async false
set_option linter.all false
set_option maxRecDepth 100000
set_option maxHeartbeats 2000000
namespace DL
open PySem PySem.Spec PyProof.Rows L2
/-! ## any of a list of ints -/
theorem truth_ints {prog : Program} {w : World} {A : Around} {ns : List Int} {its : List Value} (e : ∀ (i : Nat) (v : Value), its[i]? = some v → ∃ n t, ns[i]? = some n ∧ v = .int n t) :
    TruthOf prog w A (fun i v => its.toArray[i]? = some v) (fun i => (ns.map fun n => n != 0).getD i false) := fun i v s Q E hv hq => by
  have hv' : its[i]? = some v := by simpa using hv
  obtain ⟨n, t, hn, rfl⟩ := e i v hv'
  have hg : (ns.map fun n => n != 0).getD i false = (n != 0) := by rw [List.getD_eq_getElem?_getD, List.getElem?_map, hn] <;> rfl
  have hq' : Q ((ns.map fun n => n != 0).getD i false) s := hq
  rw [hg] at hq'
  exact truthy_int hq'
section
variable {X : Cx} {T : Tb} {K : Fr}
def rAnyI (K : PySem.W.Frag) : List V → Hp → VK → Prop := fun vs H Q => ∃ (a : Addr) (ns : List Int), vs = [V.ref a] ∧ SqL K H a (ns.map V.int) ∧ Q (.bl (ns.any fun n => n != 0)) H
theorem vals_int : ∀ {ns : List Int} {its : List Value}, Vals (ns.map V.int) its → ∀ (i : Nat) (v : Value), its[i]? = some v → ∃ n t, ns[i]? = some n ∧ v = .int n t := by
  intro ns
  induction ns with
  | nil => intro its h i v e; cases h; simp at e
  | cons n ns ih =>
    intro its h i v e
    cases h with
    | cons h1 h2 =>
      cases i with
      | zero =>
        simp at e
        subst e
        obtain ⟨t, rfl⟩ := h1
        exact ⟨n, t, rfl, rfl⟩
      | succ i => simpa using ih h2 i v (by simpa using e)
theorem cr_anyI (hc : X.calm = true) : CallR X (.builtin "any") (rAnyI X.K) := by
  intro pins s σ H vs us Q I r h
  obtain ⟨a, ns, rfl, hs, q⟩ := h
  obtain ⟨its, rv, hl, _⟩ := I.list hs
  rw [Vals.ref1 r]
  refine call_any_walk (iter_any hl.isList fun s₂ e2 st hne => ?_)
  subst e2
  refine ⟨_, _, _, _, _, _, _, rfl, Walks.list (A := X.A.in1) (I.ok.hd hc) _ a hne its.toArray, st, truth_ints (vals_int rv), fun h' tk hk => ?_⟩
  refine ⟨.bl _, H, I.kept fun b o eo => hk b o (fun hmem => ?_) (Heap.get?_push_of_some _ eo), ?_, q⟩
  · rcases List.mem_cons.mp hmem with e1 | hmem
    · exact absurd (e1 ▸ Heap.lt_size eo) (Nat.lt_irrefl _)
    · cases hmem
  · show Value.bool _ = Value.bool _
    have hlen : its.length = (ns.map fun n => n != 0).length := by rw [List.length_map, ← rv.length, List.length_map]
    have e1 : (ns.any fun n => n != 0) = (ns.map fun n => n != 0).any id := by simp [List.any_map]
    rw [e1, ← L2.any_range, List.size_toArray, hlen]
def anyA : DRC := fun ds M Q => match ds with
  | [.ref a] => (match listB a M with
    | some bs => Q (.bl (bs.any id)) M
    | none => (match listI a M with
      | some ns => Q (.bl (ns.any fun n => n != 0)) M
      | none => False))
  | _ => False
theorem b_anyA (hc : X.calm = true) : BltR X T "any" anyA := ⟨_, (cr_any hc).or (cr_anyI hc), fun vs ds H M Q Qd r0 m h q => by
  unfold anyA at h
  split at h
  · obtain ⟨v, rfl, r⟩ := r0.one_inv
    split at h
    · rename_i ns e
      exact .inl ⟨_, ns, by rw [r.ref_inv], listB_lift m e, q _ _ H M (.refl H) (.bl _) m h⟩
    · split at h
      · rename_i ns e
        exact .inr ⟨_, ns, by rw [r.ref_inv], listI_lift m e, q _ _ H M (.refl H) (.bl _) m h⟩
      · exact h.elim
  · exact h.elim⟩
theorem w_anyA_i {M : Mp} {Q : DQ} {a : Addr} {us : List Int} (ha : M a = some (.lst (us.map D.int))) (h : Q (.bl (us.any fun n => n != 0)) M) : anyA [.ref a] M Q := by
  cases us with
  | nil =>
    have e : listB a M = some [] := by simp [listB, ha, blsD]
    simp only [anyA, e]; exact h
  | cons n us =>
    have e : listB a M = none := by simp [listB, ha, blsD]
    have e2 : listI a M = some (n :: us) := by simp only [listI, ha]; exact intsD_map _
    simp only [anyA, e, e2]; exact h
theorem w_anyA_b {M : Mp} {Q : DQ} {a : Addr} {us : List Bool} (ha : M a = some (.lst (us.map D.bl))) (h : Q (.bl (us.any id)) M) : anyA [.ref a] M Q := by
  have e : listB a M = some us := by simp only [listB, ha]; exact blsD_map _
  simp only [anyA, e]; exact h
end
end DL

set_option Elab.async false
set_option linter.all false
set_option maxRecDepth 100000
set_option maxHeartbeats 1000000
/-! zip(reversed(a list), reversed(a list)), both of one length -/
namespace DL.ZR
open PySem PySem.Spec PyProof.Rows L2 RZ RT
section
variable {prog : Program} {w : World} {A : Around} {E : Value → Shared → Prop} {s : Shared}
/-- the iterator i of the list l, with items xs, at the place k -/
def At (h : Heap) (i l : Addr) (k : Int) (xs : Array Value) : Prop := h.IsRevIter i l k ∧ h.IsList l xs
theorem At.keep {h h' : Heap} {i l : Addr} {k : Int} {xs : Array Value} (x : At h i l k xs) (e : ∀ o, h.get? i = some o → h'.get? i = some o) (e2 : ∀ o, h.get? l = some o → h'.get? l = some o) : At h' i l k xs := by
  obtain ⟨x1, o, ho, r⟩ := x
  exact ⟨x1.at e, o, e2 _ ho, r⟩
theorem rev_step {it l : Addr} {i : Nat} {xs : Array Value} {x : Value} {Q : Value → Shared → Prop} (a : At s.heap it l (i : Int) xs) (hne : l ≠ it) (hx : xs[i]? = some x)
    (hQ : ∀ h', At h' it l ((i : Int) - 1) xs → Heap.SameBut it s.heap h' → Q x { s with heap := h' }) : wpAny (model prog w) A (Builtin.SmallTypes.nextOf (.ref it)) Q E s := by
  obtain ⟨hit, hl⟩ := a
  obtain ⟨o, ho, hc, hd⟩ := id hit
  obtain ⟨ol, hol, _, nl, hdl⟩ := id hl
  unfold Builtin.SmallTypes.nextOf
  refine wpAny_bind (wpAny_callSpecial?_slot (name := Str.ofString "__next__") hit.typeIs F.slot_lri_next (wpAny_call_entry F.slot_lri_next hit.typeIs F.entry_lri_next ?_ (F.args_lri_next_1 _)))
  unfold Builtin.«list_reverseiterator.__next__»
  refine wpAny_bind (wpAny_of_eq (a := (Value.ref it, [])) rfl ?_) <;> try dsimp only
  refine wpAny_bind (wpAny_field ho hd (x := rawInt (i : Int)) rfl (?_ : wpAny _ _ (if (i : Int) < 0 then _ else _) _ _ s)) <;> rw [if_neg (by omega)]
  refine wpAny_bind (wpAny_field ho hd (x := .ref l) rfl (?_ : wpAny _ _ (seqItems? (.ref l) >>= _) _ _ s))
  refine wpAny_bind (wpAny_seqItems hol hdl ?_)
  simp only [Int.toNat_natCast, hx]
  have fin := hQ (s.heap.update it (Obj.mapFields (·.setIfInBounds 1 (rawInt ((i : Int) - 1)))))
  have st : At (s.heap.update it (Obj.mapFields (·.setIfInBounds 1 (rawInt ((i : Int) - 1))))) it l ((i : Int) - 1) xs := by
    refine ⟨⟨_, Heap.get?_update_self _ ho (Obj.isFreed_of_fields (Obj.data_mapFields hd _)), (Obj.cls_mapFields ..).trans hc, by rw [Obj.data_mapFields hd] <;> simp⟩, ?_⟩
    obtain ⟨o2, h2, r2⟩ := hl
    exact ⟨o2, (Heap.get?_update_other _ _ hne.symm).trans h2, r2⟩
  refine wpAny_bind (wpAny_setField ho hd (by simp) ?_)
  first
  | exact wpAny_pure ⟨x, rfl, wpAny_pure (fin st (Heap.SameBut.update ..))⟩
  | exact wpAny_bind (wpAny_pure (wpAny_pure ⟨x, rfl, wpAny_pure (fin st (Heap.SameBut.update ..))⟩))
theorem rev_stop {it l : Addr} {Q : Value → Shared → Prop} (hh : A.handled = none) (hit : s.heap.IsRevIter it l (-1))
    (hE : ∀ h' e, Heap.ExtBut it s.heap h' → (∃ o, h'.get? e = some o ∧ o.cls = .type "StopIteration") → E (.ref e) { s with heap := h' }) : wpAny (model prog w) A (Builtin.SmallTypes.nextOf (.ref it)) Q E s := by
  obtain ⟨o, ho, hc, hd⟩ := id hit
  unfold Builtin.SmallTypes.nextOf
  refine wpAny_bind (wpAny_callSpecial?_slot (name := Str.ofString "__next__") hit.typeIs F.slot_lri_next (wpAny_call_entry F.slot_lri_next hit.typeIs F.entry_lri_next ?_ (F.args_lri_next_1 _)))
  unfold Builtin.«list_reverseiterator.__next__»
  refine wpAny_bind (wpAny_of_eq (a := (Value.ref it, [])) rfl ?_) <;> try dsimp only
  refine wpAny_bind (wpAny_field ho hd (x := rawInt (-1)) rfl (?_ : wpAny _ _ (if (-1 : Int) < 0 then _ else _) _ _ s)) <;> rw [if_pos (by decide)]
  refine wpAny_bind (wpAny_rule ?_)
  first
  | change wpAny _ _ (newExc (.type "StopIteration") [] >>= _) _ _ _
  | (refine wpAny_bind ?_; change wpAny _ _ (newExc (.type "StopIteration") [] >>= _) _ _ _)
  refine wpAny_bind ?_ <;> simp only [newExc, newTuple]
  refine wpAny_bind (wpAny_newObj_type (wpAny_bind (m := firstArgMember _ _) (wpAny_of_eq (a := Value.none) (by first | rfl | (simp only [firstArgMember]; rfl)) (wpAny_newObj_type ?_ (by size_fits)))) (by size_fits)) <;> simp only [raiseNew]
  refine wpAny_bind (wpAny_handled ?_)
  first | rw [show A.in1.handled = none from hh] | rw [hh]
  refine wpAny_bind (wpAny_pure (wpAny_throw ?_))
  exact hE _ _ (((Heap.ExtBut.refl _ _).push _).push _) ⟨_, Heap.get?_push_size _ rfl, rfl⟩
/-- the pair object, its two own tuples, the two iterators -/
structure ZS (h : Heap) (z TI TO i1 i2 l1 l2 : Addr) (f0 : Value) (k : Int) (xs ys : Array Value) : Prop where
  zz : IsZip h z TI TO f0
  ti : IsPair h TI (.ref i1) (.ref i2)
  to' : ∃ a b, IsPair h TO a b
  a1 : At h i1 l1 k xs
  a2 : At h i2 l2 k ys
theorem At.but {h h' : Heap} {i l b : Addr} {k : Int} {xs : Array Value} (x : At h i l k xs) (e : Heap.ExtBut b h h') (n1 : i ≠ b) (n2 : l ≠ b) : At h' i l k xs := x.keep (fun o q => e _ _ n1 q) fun o q => e _ _ n2 q
variable {z TI TO i1 i2 l1 l2 : Addr} {i : Nat} {xs ys : Array Value} {x y : Value}
theorem zip_step {Q : Value → Shared → Prop} (D : ZipApart z TI TO i1 i2 l1 l2) (Z : ZS s.heap z TI TO i1 i2 l1 l2 .none (i : Int) xs ys) (hx : xs[i]? = some x) (hy : ys[i]? = some y)
    (hQ : ∀ h', IsZip h' z TI TO (rawInt s.heap.objs.size) → (∃ a b, IsPair h' TO a b) → At h' i1 l1 ((i : Int) - 1) xs → At h' i2 l2 ((i : Int) - 1) ys → IsPair h' s.heap.objs.size x y →
      (∀ c o, c ≠ z → c ≠ TO → c ≠ i1 → c ≠ i2 → s.heap.get? c = some o → h'.get? c = some o) → Q (.ref s.heap.objs.size) { s with heap := h' }) :
    wpAny (model prog w) A (Builtin.«zip.__next__» ⟨[.ref z], []⟩) (fun fin s' => ∃ v, fin = .done (.ret v) ∧ Q v s') E s := by
  obtain ⟨hz, hti, ⟨a, b, hto⟩, A1, A2⟩ := Z
  change wpAny _ _ (field (.ref z) 2 >>= _) _ _ _
  refine wpAny_bind (wpAny_field hz rfl (x := .bool false) rfl (?_ : wpAny _ _ (field (.ref z) 3 >>= _) _ _ _))
  refine wpAny_bind (wpAny_field hz rfl (x := .ref TI) rfl (wpAny_bind (wpAny_seqItems hti rfl (?_ : wpAny _ _ (Builtin.SmallTypes.ownedTupleIsFree (.ref z) >>= _) _ _ _))))
  refine wpAny_bind ?_ <;> unfold Builtin.SmallTypes.ownedTupleIsFree
  refine wpAny_bind (wpAny_field hz rfl (x := .none) rfl (wpAny_pure ?_)) <;> simp only [if_true]
  refine wpAny_bind (wpAny_rule (wpAny_bind (wpAny_field hz rfl (x := .ref TO) rfl (wpAny_bind (wpAny_setField_rec hz (by simp) fun g1 z1 b1 => ?_)))))
  replace z1 : IsZip g1 z TI TO .ellipsis := z1
  refine wpAny_bind ?_ <;> simp only [List.zipIdx_cons, List.zipIdx_nil, List.forIn_cons, List.forIn_nil]
  -- the first
  refine wpAny_bind (wpAny_bind (wpAny_onRaise (?_ : wpAny _ _ (Builtin.SmallTypes.nextOf (.ref i1) >>= _) _ _ _)))
  refine wpAny_bind (rev_step (A1.but b1.extBut D.i1z D.l1z) D.l1i1 hx fun g2 c1 b2 => wpAny_pure ?_)
  have t2 : IsPair g2 TO a b := b2.extBut _ _ D.TOi1 (b1.extBut _ _ D.TOz hto)
  refine wpAny_bind (wpAny_seqItems t2 rfl (wpAny_bind (wpAny_updateSeq_pair t2 fun g3 t3 b3 => ?_)))
  replace t3 : IsPair g3 TO x b := t3
  refine wpAny_bind (wpAny_letGo (wpAny_pure ?_))
  -- the second
  refine wpAny_bind (wpAny_bind (wpAny_onRaise (?_ : wpAny _ _ (Builtin.SmallTypes.nextOf (.ref i2) >>= _) _ _ _)))
  refine wpAny_bind (rev_step (((A2.but b1.extBut D.i2z D.l2z).but b2.extBut D.i12.symm D.l2i1).but b3.extBut D.TOi2.symm D.l2TO) D.l2i2 hy fun g4 c2 b4 => wpAny_pure ?_)
  have t4 : IsPair g4 TO x b := b4.extBut _ _ D.TOi2 t3
  refine wpAny_bind (wpAny_seqItems t4 rfl (wpAny_bind (wpAny_updateSeq_pair t4 fun g5 t5 b5 => ?_)))
  replace t5 : IsPair g5 TO x y := t5
  refine wpAny_bind (wpAny_letGo (wpAny_pure (wpAny_pure (wpAny_bind (wpAny_seqItems t5 rfl (wpAny_bind (wpAny_newTuple ?_)))))))
  have sz : g5.objs.size = s.heap.objs.size := by rw [b5.1, b4.1, b3.1, b2.1, b1.1]
  have z5 : IsZip g5 z TI TO .ellipsis := b5.extBut _ _ D.TOz.symm (b4.extBut _ _ D.i2z.symm (b3.extBut _ _ D.TOz.symm (b2.extBut _ _ D.i1z.symm z1)))
  have k5 : ∀ c o, c ≠ z → c ≠ TO → c ≠ i1 → c ≠ i2 → s.heap.get? c = some o → g5.get? c = some o := fun c o n1 n2 n3 n4 e => b5.extBut _ _ n2 (b4.extBut _ _ n4 (b3.extBut _ _ n2 (b2.extBut _ _ n3 (b1.extBut _ _ n1 e))))
  have d1 := ((c1.but b3.extBut D.TOi1.symm D.l1TO).but b4.extBut D.i12 D.l1i2).but b5.extBut D.TOi1.symm D.l1TO
  have d2 := c2.but b5.extBut D.TOi2.symm D.l2TO
  have zlt : z < g5.objs.size := Heap.lt_size z5
  refine (?_ : wpAny _ _ (Builtin.SmallTypes.ownedTupleHandOut (.ref z) (.ref g5.objs.size) >>= _) _ _ _)
  refine wpAny_bind ?_ <;> unfold Builtin.SmallTypes.ownedTupleHandOut
  have z6 : IsZip (g5.push { cls := .type "tuple", data := .seq #[x, y] }) z TI TO .ellipsis := Heap.get?_push_of_some _ z5
  refine wpAny_bind (wpAny_setField_rec z6 (by simp) fun g7 z7 b7 => ?_)
  replace z7 : IsZip g7 z TI TO (rawInt g5.objs.size) := z7
  refine wpAny_setField_rec z7 (by simp) fun g8 z8 b8 => wpAny_pure ⟨_, rfl, ?_⟩
  replace z8 : IsZip g8 z TI TO (rawInt g5.objs.size) := z8
  have up : ∀ c o, c ≠ z → g5.get? c = some o → g8.get? c = some o := fun c o n e => b8.extBut _ _ n (b7.extBut _ _ n (Heap.get?_push_of_some _ e))
  have pr : IsPair g8 g5.objs.size x y := b8.extBut _ _ (Nat.ne_of_gt zlt) (b7.extBut _ _ (Nat.ne_of_gt zlt) (Heap.get?_push_size _ rfl))
  rw [sz] at z8 pr
  change Q (.ref g5.objs.size) _
  rw [sz]
  exact hQ g8 z8 ⟨x, y, up _ _ D.TOz t5⟩ (d1.keep (fun o e => up _ o D.i1z e) fun o e => up _ o D.l1z e) (d2.keep (fun o e => up _ o D.i2z e) fun o e => up _ o D.l2z e) pr fun c o n1 n2 n3 n4 e => up c o n1 (k5 c o n1 n2 n3 n4 e)
theorem zip_stop {Q : Fin → Shared → Prop} (hh : A.handled = none) (D : ZipApart z TI TO i1 i2 l1 l2) (Z : ZS s.heap z TI TO i1 i2 l1 l2 .none (-1) xs ys)
    (hE : ∀ h' e, (∀ c o, c ≠ z → c ≠ TO → c ≠ i1 → c ≠ i2 → s.heap.get? c = some o → h'.get? c = some o) → (∃ o, h'.get? e = some o ∧ o.cls = .type "StopIteration") → E (.ref e) { s with heap := h' }) :
    wpAny (model prog w) A (Builtin.«zip.__next__» ⟨[.ref z], []⟩) Q E s := by
  obtain ⟨hz, hti, ⟨a, b, hto⟩, A1, A2⟩ := Z
  change wpAny _ _ (field (.ref z) 2 >>= _) _ _ _
  refine wpAny_bind (wpAny_field hz rfl (x := .bool false) rfl (?_ : wpAny _ _ (field (.ref z) 3 >>= _) _ _ _))
  refine wpAny_bind (wpAny_field hz rfl (x := .ref TI) rfl (wpAny_bind (wpAny_seqItems hti rfl (?_ : wpAny _ _ (Builtin.SmallTypes.ownedTupleIsFree (.ref z) >>= _) _ _ _))))
  refine wpAny_bind ?_ <;> unfold Builtin.SmallTypes.ownedTupleIsFree
  refine wpAny_bind (wpAny_field hz rfl (x := .none) rfl (wpAny_pure ?_)) <;> simp only [if_true]
  refine wpAny_bind (wpAny_rule (wpAny_bind (wpAny_field hz rfl (x := .ref TO) rfl (wpAny_bind (wpAny_setField_rec hz (by simp) fun g1 z1 b1 => ?_)))))
  replace z1 : IsZip g1 z TI TO .ellipsis := z1
  refine wpAny_bind ?_ <;> simp only [List.zipIdx_cons, List.zipIdx_nil, List.forIn_cons, List.forIn_nil]
  refine wpAny_bind (wpAny_bind (wpAny_onRaise (?_ : wpAny _ _ (Builtin.SmallTypes.nextOf (.ref i1) >>= _) _ _ _)))
  refine wpAny_bind (rev_stop hh (A1.but b1.extBut D.i1z D.l1z).1 fun g2 e b2 he => ?_)
  obtain ⟨oe, hoe, hce⟩ := he
  have z2 : IsZip g2 z TI TO .ellipsis := b2 _ _ D.i1z.symm z1
  have ne : e ≠ z := by rintro rfl; rw [z2] at hoe; cases hoe; simp at hce
  exact wpAny_setField_rec z2 (by simp) fun g3 _ b3 => hE g3 e (fun c o n1 _ n3 _ q => b3.extBut _ _ n1 (b2 _ _ n3 (b1.extBut _ _ n1 q))) ⟨oe, b3.extBut _ _ ne hoe, hce⟩
theorem zip_next {Q : Option Value → Shared → Prop} (D : ZipApart z TI TO i1 i2 l1 l2) (Z : ZS s.heap z TI TO i1 i2 l1 l2 .none (i : Int) xs ys) (hx : xs[i]? = some x) (hy : ys[i]? = some y)
    (hQ : ∀ h', IsZip h' z TI TO (rawInt s.heap.objs.size) → (∃ a b, IsPair h' TO a b) → At h' i1 l1 ((i : Int) - 1) xs → At h' i2 l2 ((i : Int) - 1) ys → IsPair h' s.heap.objs.size x y →
      (∀ c o, c ≠ z → c ≠ TO → c ≠ i1 → c ≠ i2 → s.heap.get? c = some o → h'.get? c = some o) → Q (some (.ref s.heap.objs.size)) { s with heap := h' }) :
    wpAny (model prog w) A (pyNext (.ref z)) Q E s := by
  have hT : s.TypeIs (.ref z) "zip" := ⟨_, Z.zz, rfl⟩
  unfold pyNext
  exact wpAny_bind (wpAny_attempt (wpAny_callSpecial?_slot (name := Str.ofString "__next__") hT F.slot_zip_next (wpAny_call_entry F.slot_zip_next hT F.entry_zip_next
    (zip_step D Z hx hy fun h' a1 a2 a3 a4 a5 a6 => wpAny_pure (hQ h' a1 a2 a3 a4 a5 a6)) (F.args_zip_next_1 _))))
theorem zip_end {Q : Option Value → Shared → Prop} (hh : A.handled = none) (D : ZipApart z TI TO i1 i2 l1 l2) (Z : ZS s.heap z TI TO i1 i2 l1 l2 .none (-1) xs ys)
    (hQ : ∀ h', (∀ c o, c ≠ z → c ≠ TO → c ≠ i1 → c ≠ i2 → s.heap.get? c = some o → h'.get? c = some o) → Q none { s with heap := h' }) : wpAny (model prog w) A (pyNext (.ref z)) Q E s := by
  have hT : s.TypeIs (.ref z) "zip" := ⟨_, Z.zz, rfl⟩
  unfold pyNext
  refine wpAny_bind (wpAny_attempt (wpAny_callSpecial?_slot (name := Str.ofString "__next__") hT F.slot_zip_next (wpAny_call_entry F.slot_zip_next hT F.entry_zip_next (zip_stop hh D Z fun h' e hk he => ?_) (F.args_zip_next_1 _))))
  obtain ⟨o, ho, hc⟩ := he
  exact wpAny_bind (wpAny_isInstance (T := "StopIteration") (b := true) ⟨o, ho, hc⟩ isSubtype_stop (wpAny_pure (hQ _ hk)))
end
/-- pairs of the items of two lists of n items, from behind -/
def ItzR (K : PySem.W.Frag) (a b : Addr) (n : Nat) : It :=
  ⟨fun i H => i < n ∧ ∃ (xs ys : List V) (x y : V), SqL K H a xs ∧ SqL K H b ys ∧ xs[n - 1 - i]? = some x ∧ ys[n - 1 - i]? = some y,
    fun i H v H' => ∃ T x y, v = .ref T ∧ H T = none ∧ H' = upd H T (.tup [x, y]) ∧ (∀ xs, SqL K H a xs → xs[n - 1 - i]? = some x) ∧ ∀ ys, SqL K H b ys → ys[n - 1 - i]? = some y,
    fun i H => n ≤ i ∧ ∃ xs ys : List V, SqL K H a xs ∧ SqL K H b ys⟩
def tnR (z TI TO i1 i2 a b : Addr) (n : Nat) (i : Nat) (h : Heap) : Prop := i ≤ n ∧ IsZip h z TI TO .none ∧ IsPair h TI (.ref i1) (.ref i2) ∧ (∃ x y, IsPair h TO x y) ∧ h.IsRevIter i1 a ((n : Int) - 1 - (i : Nat)) ∧ h.IsRevIter i2 b ((n : Int) - 1 - (i : Nat))
theorem five {z TI TO i1 i2 c : Addr} (h : c ∈ [z, TI, TO, i1, i2]) : c = z ∨ c = TI ∨ c = TO ∨ c = i1 ∨ c = i2 := by simpa using h
theorem turn_zipR {P : Program} {w : World} {K : PySem.W.Frag} {elts : List Expr} {kk : Nat} {tpos : Pos} {a b z TI TO i1 i2 : Addr} {n : Nat} (D : ZipApart z TI TO i1 i2 a b) :
    Turn P w K (.Tuple elts kk tpos) (ItzR K a b n) [z, TI, TO, i1, i2] z (tnR z TI TO i1 i2 a b n) where
  mem := by simp
  obj := fun i h st c hc => by
    obtain ⟨_, hz, hTI, ⟨x, y, hTO⟩, ⟨o1, e1, _, d1⟩, ⟨o2, e2, _, d2⟩⟩ := st
    rcases five hc with q | q | q | q | q <;> rw [q]
    · exact ⟨_, hz, fun v q => nomatch q⟩
    · exact ⟨_, hTI, fun v q => nomatch q⟩
    · exact ⟨_, hTO, fun v q => nomatch q⟩
    · exact ⟨o1, e1, fun v q => by rw [d1] at q; cases q⟩
    · exact ⟨o2, e2, fun v q => by rw [d2] at q; cases q⟩
  keep := fun i h h' st k => by
    obtain ⟨hi, hz, hTI, ⟨x, y, hTO⟩, h1, h2⟩ := st
    exact ⟨hi, k z (by simp) _ hz, k TI (by simp) _ hTI, ⟨x, y, k TO (by simp) _ hTO⟩, h1.at fun o q => k i1 (by simp) o q, h2.at fun o q => k i2 (by simp) o q⟩
  item := by
    intro X hP hw hK hc i pins s σ H E I hf st hg
    subst hP hw hK
    obtain ⟨_, hz, hTI, hTO, h1, h2⟩ := st
    obtain ⟨hin, xs, ys, x, y, hqx, hqy, hx, hy⟩ := hg
    obtain ⟨its, rv, p, _⟩ := I.list hqx
    obtain ⟨its2, rv2, p2, _⟩ := I.list hqy
    obtain ⟨u, hu, ru⟩ := rv.get hx
    obtain ⟨u2, hu2, ru2⟩ := rv2.get hy
    have hzl : z < s.heap.objs.size := Heap.lt_size hz
    have e1 : (n : Int) - 1 - ((i : Nat) : Int) = ((n - 1 - i : Nat) : Int) := by omega
    have e2 : ((n - 1 - i : Nat) : Int) - 1 = (n : Int) - 1 - ((i + 1 : Nat) : Int) := by omega
    rw [e1] at h1 h2
    refine zip_next D ⟨hz, hTI, hTO, ⟨h1, p.isList⟩, ⟨h2, p2.isList⟩⟩ (x := u) (y := u2) (by simpa using hu) (by simpa using hu2) fun h' z' TO' A1 A2 hT hk => ?_
    rw [e2] at A1 A2
    refine ⟨_, rfl, wpAny_letOwnedTupleGo_zip (s := { s with heap := h' }) z' fun h'' z'' sb => ?_⟩
    have hT2 : h''.get? s.heap.objs.size = some { cls := .type "tuple", data := .seq #[u, u2] } := (sb.2 _ (Nat.ne_of_gt hzl)).trans hT
    have new : ObjOk X.prog X.w (upd H s.heap.objs.size (.tup [x, y])) h'' s.heap.objs.size (.tup [x, y]) :=
      ⟨by show 2 ≤ sizeLine; decide, [u, u2], .cons ru (.cons ru2 .nil), ⟨_, hT2, rfl, _, rfl⟩⟩
    have I1 : Inv X pins σ (upd H s.heap.objs.size (.tup [x, y])) { s with heap := h'' } :=
      I.turnedNew (t' := s.toks) (ch := [z, TI, TO, i1, i2]) (fun c o hb q => (sb.2 c (fun q' => hb (by simp [q']))).trans (hk c o (fun q' => hb (by simp [q'])) (fun q' => hb (by simp [q'])) (fun q' => hb (by simp [q'])) (fun q' => hb (by simp [q'])) q)) hf (Nat.le_refl _) new
    obtain ⟨ta, tb, hTO'⟩ := TO'
    refine ⟨.ref s.heap.objs.size, _, I1, rfl, ⟨_, x, y, rfl, I.hok.fresh (Nat.le_refl _), rfl, fun l hl => by rw [I.list_inj hl hqx]; exact hx, fun l hl => by rw [I.list_inj hl hqy]; exact hy⟩, ⟨hin, z'', ?_, ⟨ta, tb, ?_⟩, ?_, ?_⟩, fun c hcm => ?_⟩
    · exact (sb.2 _ D.TIz).trans (hk _ _ D.TIz D.TITO D.TIi1 D.TIi2 hTI)
    · exact (sb.2 _ D.TOz).trans hTO'
    · exact A1.1.at fun o q => (sb.2 _ D.i1z).trans q
    · exact A2.1.at fun o q => (sb.2 _ D.i2z).trans q
    · have hlt : c < s.heap.objs.size := by
        obtain ⟨t1, t2, hTO⟩ := hTO
        rcases five hcm with q | q | q | q | q <;> rw [q]
        · exact hzl
        · exact Heap.lt_size hTI
        · exact Heap.lt_size hTO
        · obtain ⟨_, e1, _⟩ := h1; exact Heap.lt_size e1
        · obtain ⟨_, e2, _⟩ := h2; exact Heap.lt_size e2
      rw [upd_ne (Nat.ne_of_lt hlt)]
      exact (hf c hcm).1
  done := by
    intro X hP hw hK hc i pins s σ H E I hf st hg
    subst hP hw hK
    obtain ⟨hi, hz, hTI, hTO, h1, h2⟩ := st
    obtain ⟨hn, xs, ys, hqx, hqy⟩ := hg
    obtain ⟨its, rv, p, _⟩ := I.list hqx
    obtain ⟨its2, rv2, p2, _⟩ := I.list hqy
    have e1 : (n : Int) - 1 - ((i : Nat) : Int) = -1 := by omega
    rw [e1] at h1 h2
    exact zip_end (I.ok.hd hc) D ⟨hz, hTI, hTO, ⟨h1, p.isList⟩, ⟨h2, p2.isList⟩⟩ fun h' hk => ⟨rfl, I.turnedL (t' := s.toks) (ch := [z, TI, TO, i1, i2]) (fun c o hb q =>
      hk c o (fun q' => hb (by simp [q'])) (fun q' => hb (by simp [q'])) (fun q' => hb (by simp [q'])) (fun q' => hb (by simp [q'])) q) hf⟩
  self := fun A i s Q E st h => wpAny_pyIter_zip st.2.1 h
/-! ### the call -/
abbrev zr1 (h : Heap) (r1 r2 : Addr) : Heap := h.push { cls := .type "tuple", data := .seq #[.ref r1, .ref r2] }
abbrev zr2 (h : Heap) (r1 r2 : Addr) : Heap := (zr1 h r1 r2).push { cls := .type "tuple", data := .seq #[.none, .none] }
abbrev zr3 (h : Heap) (r1 r2 : Addr) : Heap := (zr2 h r1 r2).push { cls := .type "zip", data := .fields #[.none, .bool false, .bool false, .ref h.objs.size, .ref (zr1 h r1 r2).objs.size] }
theorem meets_zipR_new (r1 r2 l1 l2 : Addr) (k1 k2 : Int) :
    Meets (Builtin.«zip.__new__» ⟨[.type "zip", .ref r1, .ref r2], []⟩) (fun _ R s => s.heap.IsRevIter r1 l1 k1 ∧ s.heap.IsRevIter r2 l2 k2 ∧
      R (.ok (.ret (.ref (zr2 s.heap r1 r2).objs.size))) { s with heap := zr3 s.heap r1 r2 }) :=
  .of_wp fun prog w A R s h => by
    obtain ⟨hp, g, d, tk, os⟩ := s; obtain ⟨h1, h2, h⟩ := h
    have hsub := sub_zip
    have hL1 : Heap.IsRevIter (Shared.heap ⟨hp, g, d, tk, os⟩) r1 l1 k1 := h1
    have hL2 : Heap.IsRevIter (Shared.heap ⟨hp, g, d, tk, os⟩) r2 l2 k2 := h2
    wp_walk using wpAny_pyIter_revIter hL1, wpAny_pyIter_revIter hL2
    exact ⟨_, rfl, h⟩
theorem call_zipR {prog : Program} {w : World} {A : Around} {E : Value → Shared → Prop} {s : Shared} {r1 r2 l1 l2 : Addr} {k1 k2 : Int} {Q : Value → Shared → Prop} (h1 : s.heap.IsRevIter r1 l1 k1) (h2 : s.heap.IsRevIter r2 l2 k2)
    (h : ∀ h', IsZip h' (s.heap.objs.size + 2) s.heap.objs.size (s.heap.objs.size + 1) .none → IsPair h' s.heap.objs.size (.ref r1) (.ref r2) → IsPair h' (s.heap.objs.size + 1) .none .none →
      (∀ c o, s.heap.get? c = some o → h'.get? c = some o) → Q (.ref (s.heap.objs.size + 2)) { s with heap := h' }) :
    wpAny (model prog w) A (call (.type "zip") [.ref r1, .ref r2]) Q E s := by
  refine callType_new F.called_zip (by decide) (F.typeCall_zip_2 _ _) (F.newCall_zip_2 _ _) (fun obj => F.args_object_init_3 obj _ _) F.entry_zip_new
    (meets_zipR_new r1 r2 l1 l2 k1 k2) ⟨h1, h2, ?_⟩
  have e1 : (zr1 s.heap r1 r2).objs.size = s.heap.objs.size + 1 := Heap.size_push ..
  have e2 : (zr2 s.heap r1 r2).objs.size = s.heap.objs.size + 2 := by rw [Heap.size_push, e1]
  have g3 : (zr3 s.heap r1 r2).get? (zr2 s.heap r1 r2).objs.size = some _ := Heap.get?_push_size _ rfl
  have g2 : (zr3 s.heap r1 r2).get? (zr1 s.heap r1 r2).objs.size = some _ := Heap.get?_push_of_some _ (Heap.get?_push_size _ rfl)
  have g1 : (zr3 s.heap r1 r2).get? s.heap.objs.size = some _ := Heap.get?_push_of_some _ (Heap.get?_push_of_some _ (Heap.get?_push_size _ rfl))
  show _ ∧ _
  rw [e1, e2] at g3
  rw [e1] at g2
  rw [e2]
  exact ⟨⟨_, g3, rfl⟩, h _ g3 g1 g2 fun c o x => Heap.get?_push_of_some _ (Heap.get?_push_of_some _ (Heap.get?_push_of_some _ x))⟩
theorem apart3 (q N a b : Nat) (h1 : q < N) (h2 : a < q) (h3 : b < N) (h4 : b ≠ q) : ZipApart (N + 1 + 2) (N + 1) (N + 1 + 1) q N a b := by
  have f : ∀ {m k : Nat}, m < k ∨ k < m → m ≠ k := fun h => by omega
  refine ⟨?_, ?_, ?_, ?_, ?_, ?_, ?_, ?_, ?_, ?_, ?_, ?_, ?_, ?_, ?_, ?_, h4, ?_⟩
  all_goals (refine f ?_; omega)
def iZipR (K : PySem.W.Frag) (ta tb : L2.TE) : L2.TI := fun σ H R => ta σ H fun v H1 => ∃ (a : Addr) (xs : List V), v = .ref a ∧ SqL K H1 a xs ∧ tb σ H1 fun v2 H2 => ∃ (b : Addr) (ys : List V), v2 = .ref b ∧ SqL K H2 b ys ∧ (∃ zs, SqL K H2 a zs) ∧ ys.length = xs.length ∧ R (ItzR K a b xs.length) H2
section
variable {X : Cx}
theorem pi_zipR {e e2 : Expr} {ta tb : L2.TE} {p p1 p2 pos pos1 pos2 tpos : Pos} {elts : List Expr} {kk : Nat} (hg : Gl X "zip") (hm : X.mg "zip" = none) (hg2 : Gl X "reversed") (hm2 : X.mg "reversed" = none) (ha : PE X e ta) (hb : PE X e2 tb)
    (hs1 : starEach [e] X.env = (false, eval e X.env) :: starEach [] X.env := by rfl) (hs2 : starEach [e2] X.env = (false, eval e2 X.env) :: starEach [] X.env := by rfl)
    (hs : starEach [.Call (.Name "reversed" p1) [e] [] pos1, .Call (.Name "reversed" p2) [e2] [] pos2] X.env = (false, eval (.Call (.Name "reversed" p1) [e] [] pos1) X.env) :: starEach [.Call (.Name "reversed" p2) [e2] [] pos2] X.env := by rfl)
    (hs' : starEach [.Call (.Name "reversed" p2) [e2] [] pos2] X.env = (false, eval (.Call (.Name "reversed" p2) [e2] [] pos2) X.env) :: starEach [] X.env := by rfl)
    (hpl : (backTo pos (starEach [.Call (.Name "reversed" p2) [e2] [] pos2] X.env)).any (·.1) = false := by rfl) :
    PI X (.Tuple elts kk tpos) (.Call (.Name "zip" p) [.Call (.Name "reversed" p1) [e] [] pos1, .Call (.Name "reversed" p2) [e2] [] pos2] [] pos) (iZipR X.K ta tb) := by
  refine ⟨fun pins s σ H R I h => ?_⟩
  refine Call_ (ld_blt I hg hm PyProof.Rows.boot_zip (PyProof.Rows.callWith_type1 ?_ hs hpl))
  refine args_cons (Call_ (ld_blt I hg2 hm2 PyProof.Rows.boot_reversed (PyProof.Rows.callWith_type1 (args_cons (thn (ha.run pins s σ H _ I h) fun u s1 ⟨v, H1, I1, r1, q1⟩ => args_nil ?_) hs1) hs1 rfl))) hs
  obtain ⟨a, xs, ev, hq, q⟩ := q1
  subst ev
  obtain rfl : u = Value.ref a := r1
  obtain ⟨its, rv, p1', hz⟩ := I1.list hq
  refine call_reversed_list p1'.isList ?_
  have fp := I1.fpOk (H' := H1) (b := s1.heap.objs.size) (Nat.le_refl _) (I1.hok.fresh (Nat.le_refl _))
  have k0 : ∀ b o, s1.heap.get? b = some o → (s1.heap.push (revObj a ((its.toArray.size : Int) - 1))).get? b = some o := fun b o e => Heap.get?_push_of_some _ e
  have I2 : Inv X pins σ H1 { s1 with heap := s1.heap.push (revObj a ((its.toArray.size : Int) - 1)) } := I1.kept (t' := s1.toks) k0
  have get1 : (s1.heap.push (revObj a ((its.toArray.size : Int) - 1))).get? s1.heap.objs.size = some (revObj a ((its.toArray.size : Int) - 1)) := Heap.get?_push_size _ rfl
  have alt : a < s1.heap.objs.size := p1'.lt
  generalize s1.heap.objs.size = q1 at fp get1 alt ⊢
  have I3 : Inv X ((q1, revObj a ((its.toArray.size : Int) - 1)) :: pins) σ H1 { s1 with heap := s1.heap.push (revObj a ((its.toArray.size : Int) - 1)) } := I2.pins_of fun pn hpn => by
    rcases List.mem_cons.mp hpn with rfl | hpn
    · exact ⟨get1, fp.1, fp.2.1, fp.2.2.1, fun v z => by cases z⟩
    · exact I2.pin pn (List.mem_append_right _ hpn)
  have len1 : its.toArray.size = xs.length := by rw [List.size_toArray, rv.length]
  refine args_cons (Call_ (ld_blt I3 hg2 hm2 PyProof.Rows.boot_reversed (PyProof.Rows.callWith_type1 (args_cons (thn (hb.run _ _ σ H1 _ I3 q) fun u2 s2 ⟨v2, H2, I4, r2, q2⟩ => args_nil ?_) hs2) hs2 rfl))) hs'
  obtain ⟨b, ys, ev2, hq2, ⟨zs, hq3⟩, hlen, q⟩ := q2
  subst ev2
  obtain rfl : u2 = Value.ref b := r2
  obtain ⟨pg, pf, _⟩ := I4.pin (q1, revObj a ((its.toArray.size : Int) - 1)) (List.mem_append_right _ (List.mem_cons_self ..))
  have I5 : Inv X pins σ H2 s2 := I4.pins_of fun pn hpn => I4.pin pn (List.mem_append_right _ (List.mem_cons_of_mem _ hpn))
  obtain ⟨its2, rv2, p2', hz2⟩ := I5.list hq2
  have len2 : its2.toArray.size = ys.length := by rw [List.size_toArray, rv2.length]
  refine call_reversed_list p2'.isList (args_nil ?_)
  have qlt : q1 < s2.heap.objs.size := Heap.lt_size pg
  have blt : b < s2.heap.objs.size := p2'.lt
  have bne : b ≠ q1 := by
    rintro rfl
    obtain ⟨o, ho, hc, _⟩ := p2'.isList
    rw [pg] at ho
    cases ho
    simp [revObj] at hc
  have sz : (s2.heap.push (revObj b ((its2.toArray.size : Int) - 1))).objs.size = s2.heap.objs.size + 1 := Heap.size_push ..
  have st1 : (s2.heap.push (revObj b ((its2.toArray.size : Int) - 1))).IsRevIter q1 a ((its.toArray.size : Int) - 1) := ⟨_, Heap.get?_push_of_some _ pg, rfl, rfl⟩
  have st2 : (s2.heap.push (revObj b ((its2.toArray.size : Int) - 1))).IsRevIter s2.heap.objs.size b ((its2.toArray.size : Int) - 1) := ⟨_, Heap.get?_push_size _ rfl, rfl, rfl⟩
  refine call_zipR (s := { s2 with heap := s2.heap.push (revObj b ((its2.toArray.size : Int) - 1)) }) st1 st2 fun h' hz hTI hTO hk => wpAny_pyIter_zip hz ?_
  have I6 : Inv X pins σ H2 { s2 with heap := h' } := I5.kept (t' := s2.toks) fun c o e => hk c o (Heap.get?_push_of_some _ e)
  have D := apart3 q1 s2.heap.objs.size a b qlt alt blt bne
  rw [sz] at hz hTI hTO
  have e1 : ((its.toArray.size : Nat) : Int) - 1 = (xs.length : Int) - 1 - ((0 : Nat) : Int) := by rw [len1]; omega
  have e2 : ((its2.toArray.size : Nat) : Int) - 1 = (xs.length : Int) - 1 - ((0 : Nat) : Int) := by rw [len2, hlen]; omega
  rw [e1] at st1
  rw [e2] at st2
  refine ⟨_, [s2.heap.objs.size + 1 + 2, s2.heap.objs.size + 1, s2.heap.objs.size + 1 + 1, q1, s2.heap.objs.size], _, _, H2, by rw [sz], I6, turn_zipR (n := xs.length) D, ⟨Nat.zero_le _, hz, hTI, ⟨_, _, hTO⟩, st1.at fun o e => hk _ o (by rw [e1] at *; exact e), st2.at fun o e => hk _ o (by rw [e2] at *; exact e)⟩, fun c hc => ?_, q⟩
  rcases five hc with z | z | z | z | z
  · rw [z]; exact I5.fpOk (Nat.le_add_right _ 3) (I5.hok.fresh (Nat.le_add_right _ 3))
  · rw [z]; exact I5.fpOk (Nat.le_add_right _ 1) (I5.hok.fresh (Nat.le_add_right _ 1))
  · rw [z]; exact I5.fpOk (Nat.le_add_right _ 2) (I5.hok.fresh (Nat.le_add_right _ 2))
  · rw [z]; exact ⟨pf, fp.2⟩
  · rw [z]; exact I5.fpOk (Nat.le_refl _) (I5.hok.fresh (Nat.le_refl _))
end
end DL.ZR
namespace DL
open PySem PySem.Spec PyProof.Rows L2
variable {X : Cx} {T : Tb} {W : WX} {K : Fr}
theorem zipL_rev {xs ys : List D} (h : ys.length = xs.length) {i : Nat} {d : D} (hd : (zipL xs.reverse ys.reverse)[i]? = some d) : ∃ x y, xs[xs.length - 1 - i]? = some x ∧ ys[xs.length - 1 - i]? = some y ∧ d = .tup [x, y] := by
  obtain ⟨x, y, h1, h2, e⟩ := zipL_get hd
  have i1 : i < xs.length := by have := (List.getElem?_eq_some_iff.mp h1).1; simpa using this
  rw [rev_at i1] at h1
  rw [rev_at (by omega), h] at h2
  exact ⟨x, y, h1, h2, e⟩
theorem wd_zipR {H0 : Hp} {a b : Addr} {xs ys : List D} (h : ys.length = xs.length) : WalkD K T H0 (ZR.ItzR K a b xs.length) (zipL xs.reverse ys.reverse) (fun M' => isAt a xs M' ∧ isAt b ys M') where
  goes := fun i H M hi _ m g => by
    obtain ⟨vs, h1, h2⟩ := m.lst g.1
    obtain ⟨ws, h3, h4⟩ := m.lst g.2
    rw [zipL_len, List.length_reverse, List.length_reverse] at hi
    have l1 := h2.length
    have l2 := h4.length
    exact ⟨by omega, vs, ws, vs[xs.length - 1 - i]'(by omega), ws[xs.length - 1 - i]'(by omega), SqL.of h1, SqL.of h3, List.getElem?_eq_getElem _, List.getElem?_eq_getElem _⟩
  stops := fun H M _ m g => by
    obtain ⟨vs, h1, h2⟩ := m.lst g.1
    obtain ⟨ws, h3, h4⟩ := m.lst g.2
    exact ⟨by rw [zipL_len, List.length_reverse, List.length_reverse]; omega, vs, ws, SqL.of h1, SqL.of h3⟩
  yields := fun i H M x H' d hd _ m g ⟨q, v, v', e1, e2, e3, e4, e5⟩ => by
    obtain ⟨vs, h1, h2⟩ := m.lst g.1
    obtain ⟨ws, h3, h4⟩ := m.lst g.2
    obtain ⟨x', y', g1, g2, rfl⟩ := zipL_rev h hd
    obtain ⟨u, q1, q2⟩ := h2.get g1
    obtain ⟨u', q3, q4⟩ := h4.get g2
    have e4' := e4 vs (SqL.of h1)
    rw [q1] at e4'; cases e4'
    have e5' := e5 ws (SqL.of h3)
    rw [q3] at e5'; cases e5'
    subst e1; subst e3
    exact ⟨.new e2, q2.pair q4 e2, m.more e2⟩
def zipRD (d d2 : D) (M M2 : Mp) (R : List D → (Mp → Prop) → Mp → Prop) : Prop := match d, d2 with
  | .ref a, .ref b => ∃ xs ys, M a = some (.lst xs) ∧ M2 a = some (.lst xs) ∧ M2 b = some (.lst ys) ∧ ys.length = xs.length ∧ R (zipL xs.reverse ys.reverse) (fun M' => isAt a xs M' ∧ isAt b ys M') M2
  | _, _ => False
@[simp] def iZipRD (ta tb : TDE) : TDI := fun τ M R E => ta τ M (fun d M1 => (∃ a xs, d = .ref a ∧ M1 a = some (.lst xs)) ∧ tb τ M1 (fun d2 M2 => zipRD d d2 M1 M2 R) E) E
theorem di_zipR {e e2 : Expr} {ta tb : TDE} {p p1 p2 pos pos1 pos2 tpos : Pos} {elts : List Expr} {kk : Nat} (hg : Gl X "zip") (hm : X.mg "zip" = none) (hg2 : Gl X "reversed") (hm2 : X.mg "reversed" = none) (ha : DE X T W e ta) (hb : DE X T W e2 tb)
    (hs1 : starEach [e] X.env = (false, eval e X.env) :: starEach [] X.env := by rfl) (hs2 : starEach [e2] X.env = (false, eval e2 X.env) :: starEach [] X.env := by rfl)
    (hs : starEach [.Call (.Name "reversed" p1) [e] [] pos1, .Call (.Name "reversed" p2) [e2] [] pos2] X.env = (false, eval (.Call (.Name "reversed" p1) [e] [] pos1) X.env) :: starEach [.Call (.Name "reversed" p2) [e2] [] pos2] X.env := by rfl)
    (hs' : starEach [.Call (.Name "reversed" p2) [e2] [] pos2] X.env = (false, eval (.Call (.Name "reversed" p2) [e2] [] pos2) X.env) :: starEach [] X.env := by rfl)
    (hpl : (backTo pos (starEach [.Call (.Name "reversed" p2) [e2] [] pos2] X.env)).any (·.1) = false := by rfl) :
    DI X T W (.Tuple elts kk tpos) (.Call (.Name "zip" p) [.Call (.Name "reversed" p1) [e] [] pos1, .Call (.Name "reversed" p2) [e2] [] pos2] [] pos) (iZipRD ta tb) :=
  PI_imp (ZR.pi_zipR hg hm hg2 hm2 ha hb hs1 hs2 hs hs' hpl) fun σ H R ⟨τ, M, Rd, E, hst, hmm, ht, hx, hr⟩ => ⟨τ, M, _, E, hst, hmm, ht, fun v d H1 M1 k1 r1 m1 h1 => by
    obtain ⟨⟨a, xs, rfl, ea⟩, h1⟩ := h1
    obtain ⟨vs, q1, q2⟩ := m1.lst ea
    refine ⟨a, vs, r1.ref_inv, SqL.of q1, ?_⟩
    refine ⟨τ, M1, _, E, hst.keep k1, m1, h1, fun v2 d2 H2 M2 k2 r2 m2 h2 => ?_, hx.keep k1⟩
    cases d2 with
    | ref b' =>
      obtain ⟨xs', ys, z1, z2, z3, hl, h2⟩ := h2
      rw [ea] at z1
      cases z1
      obtain ⟨us, q3, q4⟩ := m2.lst z2
      obtain ⟨ws, q5, q6⟩ := m2.lst z3
      refine ⟨_, ws, r2.ref_inv, SqL.of q5, ⟨us, SqL.of q3⟩, by rw [q6.length, q2.length, hl], ?_⟩
      rw [q2.length]
      exact hr _ _ _ H2 M2 (k1.trans k2) m2 (wd_zipR hl) h2
    | _ => exact h2.elim, hx⟩
@[simp] theorem zipRD_rr {a b : Addr} {M M2 : Mp} {R : List D → (Mp → Prop) → Mp → Prop} : zipRD (.ref a) (.ref b) M M2 R = (∃ xs ys, M a = some (.lst xs) ∧ M2 a = some (.lst xs) ∧ M2 b = some (.lst ys) ∧ ys.length = xs.length ∧ R (zipL xs.reverse ys.reverse) (fun M' => isAt a xs M' ∧ isAt b ys M') M2) := rfl
end DL

set_option Elab.async false
set_option linter.all false
set_option maxRecDepth 100000
set_option maxHeartbeats 1000000
namespace DL
open PySem PySem.Spec PyProof.Rows L2
/-! ## steps of a walk, one lemma each; what slots hold -/
def slk (i : Nat) : List (Nat × D) → Option D
  | [] => none
  | (j, d) :: l => bif Nat.beq i j then some d else slk i l
def Sl (n : Nat) (l : List (Nat × D)) (τ : DSt) : Prop := τ.length = n ∧ ∀ i d, slk i l = some d → τ[i]? = some (some d)
theorem slk_same {i : Nat} {d : D} {l : List (Nat × D)} : slk i ((i, d) :: l) = some d := by simp [slk]
theorem Sl.get {n i : Nat} {l : List (Nat × D)} {τ : DSt} {d : D} (h : Sl n l τ) (e : slk i l = some d) : τ[i]? = some (some d) := h.2 i d e
theorem Sl.set {n i : Nat} {l : List (Nat × D)} {τ : DSt} {d : D} (h : Sl n l τ) (hi : i < n) : Sl n ((i, d) :: l) (τ.set i (some d)) := by
  refine ⟨by rw [List.length_set]; exact h.1, fun j e hj => ?_⟩
  by_cases hij : j = i
  · subst hij
    rw [slk_same] at hj
    cases hj
    rw [List.getElem?_set_self (by rw [h.1]; exact hi)]
  · have : Nat.beq j i = false := by
      cases e2 : Nat.beq j i with
      | false => rfl
      | true => exact absurd (Nat.eq_of_beq_eq_true e2) hij
    rw [slk, this] at hj
    rw [List.getElem?_set_ne (by omega)]
    exact h.2 j e hj
def slsub : List (Nat × D) → List (Nat × D) → Prop
  | [], _ => True
  | (i, d) :: r, l => slk i l = some d ∧ slsub r l
theorem Sl.sub {n : Nat} {l l' : List (Nat × D)} {τ : DSt} (h : Sl n l τ) (s : slsub l' l) : Sl n l' τ := by
  refine ⟨h.1, fun i d e => ?_⟩
  induction l' with
  | nil => cases e
  | cons a r ih =>
    obtain ⟨j, d'⟩ := a
    obtain ⟨s1, s2⟩ := s
    rw [slk] at e
    cases c : Nat.beq i j with
    | true =>
      rw [c] at e
      cases e
      rw [Nat.eq_of_beq_eq_true c]
      exact h.2 j d s1
    | false =>
      rw [c] at e
      exact ih s2 e
/-- slots that a comprehension wipes -/
def slout (vs : List Nat) : List (Nat × D) → List (Nat × D)
  | [] => []
  | (i, d) :: l => bif vs.any (Nat.beq i) then slout vs l else (i, d) :: slout vs l
theorem dwipe_len (vs : List Nat) : ∀ τ : DSt, (dwipe τ vs).length = τ.length := by
  induction vs with
  | nil => intro τ; rfl
  | cons v vs ih => intro τ; simp [dwipe, ih]
theorem dwipe_get (vs : List Nat) : ∀ (τ : DSt) (i : Nat), i ∉ vs → (dwipe τ vs)[i]? = τ[i]? := by
  induction vs with
  | nil => intro τ i _; rfl
  | cons v vs ih =>
    intro τ i h
    simp only [List.mem_cons, not_or] at h
    rw [dwipe, List.getElem?_set_ne (by omega), ih _ _ h.2]
theorem slk_out {vs : List Nat} {i : Nat} {d : D} : ∀ {l : List (Nat × D)}, slk i (slout vs l) = some d → slk i l = some d ∧ i ∉ vs
  | [], h => by cases h
  | (j, e) :: l, h => by
    rw [slout] at h
    cases c : vs.any (Nat.beq j) with
    | true =>
      rw [c] at h
      obtain ⟨h1, h2⟩ := slk_out (l := l) h
      refine ⟨?_, h2⟩
      rw [slk]
      cases c2 : Nat.beq i j with
      | false => exact h1
      | true =>
        rw [← Nat.eq_of_beq_eq_true c2] at c
        obtain ⟨x, hx, hx2⟩ := List.any_eq_true.mp c
        rw [← Nat.eq_of_beq_eq_true hx2] at hx
        exact absurd hx h2
    | false =>
      rw [c] at h
      change slk i ((j, e) :: slout vs l) = some d at h
      rw [slk] at h ⊢
      cases c2 : Nat.beq i j with
      | false =>
        rw [c2] at h
        exact slk_out (l := l) h
      | true =>
        rw [c2] at h
        refine ⟨h, fun hm => ?_⟩
        have : vs.any (Nat.beq j) = true := List.any_eq_true.mpr ⟨i, hm, by rw [Nat.eq_of_beq_eq_true c2]; exact Nat.beq_refl j⟩
        rw [c] at this
        cases this
theorem Sl.wipe {n : Nat} {l : List (Nat × D)} {τ : DSt} (h : Sl n l τ) (vs : List Nat) : Sl n (slout vs l) (dwipe τ vs) := by
  refine ⟨by rw [dwipe_len]; exact h.1, fun i d e => ?_⟩
  obtain ⟨e1, e2⟩ := slk_out e
  rw [dwipe_get vs τ i e2]
  exact h.2 i d e1
theorem Sl.start (n : Nat) {ds : List D} (h : ds.length ≤ n) : Sl n ((List.range ds.length).zip ds) (dstart n ds) := by
  refine ⟨by simp [dstart]; omega, fun i d e => ?_⟩
  have aux : ∀ (ds : List D) (k : Nat), slk i ((List.range' k ds.length).zip ds) = some d → k ≤ i ∧ ds[i - k]? = some d := by
    intro ds
    induction ds with
    | nil => intro k e; simp [slk] at e
    | cons x ds ih =>
      intro k e
      rw [List.length_cons, List.range'_succ, List.zip_cons_cons, slk] at e
      cases c : Nat.beq i k with
      | true =>
        rw [c] at e
        have := Nat.eq_of_beq_eq_true c
        subst this
        simpa using e
      | false =>
        rw [c] at e
        obtain ⟨h1, h2⟩ := ih (k + 1) e
        refine ⟨by omega, ?_⟩
        rw [show i - k = (i - (k + 1)) + 1 by omega]
        simpa using h2
  rw [List.range_eq_range'] at e
  obtain ⟨_, e2⟩ := aux ds 0 e
  have hlt : i < ds.length := by
    rcases Nat.lt_or_ge i ds.length with h | h
    · exact h
    · rw [List.getElem?_eq_none (by simpa using h)] at e2; cases e2
  unfold dstart
  rw [List.getElem?_append_left (by simpa using hlt)]
  simpa using e2
/-- heap facts -/
theorem mup_keep {M : Mp} {p a : Addr} {o x : MO} (hp : M p = none) (h : M a = some x) : mup M p o a = some x := by
  rw [mup_ne]; exact h
  rintro rfl; rw [h] at hp; cases hp
theorem mup_keep2 {M : Mp} {p a : Addr} {o x : MO} (n : a ≠ p) (h : M a = some x) : mup M p o a = some x := by rw [mup_ne n]; exact h
theorem mup_non {M : Mp} {p a : Addr} {o : MO} (n : a ≠ p) (h : M a = none) : mup M p o a = none := by rw [mup_ne n]; exact h
theorem mup_non1 {M : Mp} {p a : Addr} {o : MO} (h : mup M p o a = none) : M a = none := (mup_none.mp h).2
theorem mup_non2 {M : Mp} {p a : Addr} {o : MO} (h : mup M p o a = none) : a ≠ p := (mup_none.mp h).1
theorem ne_by {M : Mp} {p a : Addr} {x : MO} (hp : M p = none) (h : M a = some x) : a ≠ p := by
  rintro rfl; rw [h] at hp; cases hp
theorem mle_up {M M' : Mp} {p : Addr} {o : MO} (k : MLe M M') (h : M p = none) : MLe M (mup M' p o) := fun a u e => by
  rw [mup_ne]
  · exact k a u e
  · rintro rfl; rw [h] at e; cases e
theorem mle_non {M M' : Mp} (k : MLe M M') {p : Addr} (h : M' p = none) : M p = none := by
  cases e : M p with
  | none => rfl
  | some o => rw [k p o e] at h; cases h
section
variable {n i j k : Nat} {l : List (Nat × D)} {τ : DSt} {M : Mp} {Q : DQ} {E : DX} {N : DEn} {d x y : D} {a b : Addr} {xs ys : List D} {u v : Int} {te ta tb tc : TDE} {tt tu : TDT} {tr : TDA} {s s' : TDS} {g : TDG} {gs : TDGs} {p q : Prop}
/-! ### states -/
theorem w_gen {f : DSt → Mp → Prop} (h : Sl n l τ) (hi : i < n) (r : ∀ τ', Sl n ((i, d) :: l) τ' → f τ' M) : f (τ.set i (some d)) M := r _ (h.set hi)
theorem w_gen2 {f : DSt → Mp → Prop} (h : Sl n l τ) (hi : i < n) (hj : j < n) (r : ∀ τ', Sl n ((j, y) :: (i, x) :: l) τ' → f τ' M) : f ((τ.set i (some x)).set j (some y)) M := r _ ((h.set hi).set hj)
theorem w_gen3 {f : DSt → Mp → Prop} (h : Sl n l τ) (hi : i < n) (hj : j < n) (hk : k < n) (r : ∀ τ', Sl n ((k, d) :: (j, y) :: (i, x) :: l) τ' → f τ' M) : f (((τ.set i (some x)).set j (some y)).set k (some d)) M := r _ (((h.set hi).set hj).set hk)
theorem w_gen4 {f : DSt → Mp → Prop} {m : Nat} {z : D} (h : Sl n l τ) (hi : i < n) (hj : j < n) (hk : k < n) (hm : m < n) (r : ∀ τ', Sl n ((m, z) :: (k, d) :: (j, y) :: (i, x) :: l) τ' → f τ' M) : f ((((τ.set i (some x)).set j (some y)).set k (some d)).set m (some z)) M := r _ ((((h.set hi).set hj).set hk).set hm)
theorem w_start {f : DSt → Mp → Prop} (h : xs.length ≤ n) (r : ∀ τ', Sl n ((List.range xs.length).zip xs) τ' → f τ' M) : f (dstart n xs) M := r _ (.start n h)
theorem w_start1 {f : DSt → Mp → Prop} {n : Nat} (h : 1 ≤ n) (r : ∀ τ', Sl n [(0, x)] τ' → f τ' M) : f (dstart n [x]) M := r _ (.start (ds := [x]) n h)
theorem w_start2 {f : DSt → Mp → Prop} {n : Nat} (h : 2 ≤ n) (r : ∀ τ', Sl n [(0, x), (1, y)] τ' → f τ' M) : f (dstart n [x, y]) M := r _ (.start (ds := [x, y]) n h)
theorem w_start3 {f : DSt → Mp → Prop} {n : Nat} (h : 3 ≤ n) (r : ∀ τ', Sl n [(0, x), (1, y), (2, d)] τ' → f τ' M) : f (dstart n [x, y, d]) M := r _ (.start (ds := [x, y, d]) n h)
theorem w_start4 {f : DSt → Mp → Prop} {n : Nat} {z : D} (h : 4 ≤ n) (r : ∀ τ', Sl n [(0, x), (1, y), (2, d), (3, z)] τ' → f τ' M) : f (dstart n [x, y, d, z]) M := r _ (.start (ds := [x, y, d, z]) n h)
theorem w_wipe {vs : List Nat} {f : DSt → Mp → Prop} (h : Sl n l τ) (r : ∀ τ', Sl n (slout vs l) τ' → f τ' M) : f (dwipe τ vs) M := r _ (h.wipe vs)
/-! ### ends that are changed -/
def nN (N : DEn) (f : DSt → Mp → Prop) : DEn := { N with nx := f }
def lN (N : DEn) (f : DSt → Mp → Prop) : DEn := { N with nx := f, ct := f, bk := N.nx }
def xN (N : DEn) (X : DXS) : DEn := { N with ex := X }
def gN (Q : DQ) (E : DX) : DEn := dEndsG Q E
theorem w_gN {τ : DSt} (h : s (gN Q E) τ M) : s (dEndsG Q E) τ M := h
section
variable {f : DSt → Mp → Prop} {X : DXS} {C fl : Str}
theorem w_nx (h : f τ M) : (nN N f).nx τ M := h
theorem w_nrt (h : N.rt d M) : (nN N f).rt d M := h
theorem w_nbk (h : N.bk τ M) : (nN N f).bk τ M := h
theorem w_nct (h : N.ct τ M) : (nN N f).ct τ M := h
theorem w_nex (h : N.ex C fl d τ M) : (nN N f).ex C fl d τ M := h
theorem w_lx (h : f τ M) : (lN N f).nx τ M := h
theorem w_lrt (h : N.rt d M) : (lN N f).rt d M := h
theorem w_lbk (h : N.nx τ M) : (lN N f).bk τ M := h
theorem w_lct (h : f τ M) : (lN N f).ct τ M := h
theorem w_lex (h : N.ex C fl d τ M) : (lN N f).ex C fl d τ M := h
theorem w_xx (h : N.nx τ M) : (xN N X).nx τ M := h
theorem w_xrt (h : N.rt d M) : (xN N X).rt d M := h
theorem w_xbk (h : N.bk τ M) : (xN N X).bk τ M := h
theorem w_xct (h : N.ct τ M) : (xN N X).ct τ M := h
theorem w_xex (h : X C fl d τ M) : (xN N X).ex C fl d τ M := h
theorem w_gx (h : gcQ Q .non M) : (gN Q E).nx τ M := h
theorem w_grt (h : gcQ Q d M) : (gN Q E).rt d M := h
theorem w_gex (h : ∃ M1, MSub M1 M ∧ E C fl d M1) : (gN Q E).ex C fl d τ M := h
end
/-! ### statements -/
theorem w_seq (h : s (nN N (s' N)) τ M) : dSeq s s' N τ M := h
theorem w_next (h : N.nx τ M) : dNext N τ M := h
theorem w_break (h : N.bk τ M) : dBreak N τ M := h
theorem w_cont (h : N.ct τ M) : dCont N τ M := h
theorem w_drop (h : te τ M (fun _ M1 => N.nx τ M1) (fun C f d M1 => N.ex C f d τ M1)) : dDrop te N τ M := h
theorem w_ret (h : te τ M N.rt (fun C f d M1 => N.ex C f d τ M1)) : dRet te N τ M := h
theorem w_retN (h : N.rt .non M) : dRetN N τ M := h
theorem w_if (h : tt τ M (fun b M1 => if b = true then s N τ M1 else s' N τ M1) (fun C f d M1 => N.ex C f d τ M1)) : dIfS tt s s' N τ M := h
theorem w_asg (h : te τ M (fun d M1 => N.nx (τ.set i (some d)) M1) (fun C f d M1 => N.ex C f d τ M1)) : dAsg te (dgName i) N τ M := h
theorem w_asgG (h : te τ M (fun d M1 => g d τ M1 N.nx N.ex) (fun C f d M1 => N.ex C f d τ M1)) : dAsg te g N τ M := h
def parK (i j : Nat) (N : DEn) (τ : DSt) : List D → Mp → Prop := fun ds M1 => match ds with | [v, w] => N.nx ((τ.set i (some v)).set j (some w)) M1 | _ => False
theorem w_par (h : tr τ M (parK i j N τ) (fun C f d M1 => N.ex C f d τ M1)) : dPar i j tr N τ M := h
theorem w_parK (h : N.nx ((τ.set i (some x)).set j (some y)) M) : parK i j N τ [x, y] M := h
def parK3 (i j k : Nat) (N : DEn) (τ : DSt) : List D → Mp → Prop := fun ds M1 => match ds with | [v, w, z] => N.nx (((τ.set i (some v)).set j (some w)).set k (some z)) M1 | _ => False
theorem w_par3 (h : tr τ M (parK3 i j k N τ) (fun C f d M1 => N.ex C f d τ M1)) : dPar3 i j k tr N τ M := h
theorem w_parK3 (h : N.nx (((τ.set i (some x)).set j (some y)).set k (some d)) M) : parK3 i j k N τ [x, y, d] M := h
theorem w_aug {rd : DR2} (hs : Sl n l τ) (hl : slk i l = some x) (h : te τ M (fun y M1 => rd x y M1 (fun z M2 => N.nx (τ.set i (some z)) M2)) (fun C f d M1 => N.ex C f d τ M1)) : dAug i te rd N τ M := by
  unfold dAug
  rw [hs.get hl]
  exact h
theorem w_raise {X fld : Str} (h : te τ M (fun d M1 => N.ex X fld d τ M1) (fun C f d M1 => N.ex C f d τ M1)) : dRaise X fld te N τ M := h
def tryX (mt : Str → Option Bool) (s : TDS) (N : DEn) : DXS := fun C f d τ' M' => match mt C with | some true => s (xN N noXS) τ' M' | some false => N.ex C f d τ' M' | none => False
theorem w_try {mt : Str → Option Bool} (h : s (xN N (tryX mt s' N)) τ M) : dTry mt s s' N τ M := h
theorem w_tryX1 {mt : Str → Option Bool} {C f : Str} (hm : mt C = some true) (h : s (xN N noXS) τ M) : tryX mt s N C f d τ M := by
  unfold tryX; rw [hm]; exact h
theorem w_tryX0 {mt : Str → Option Bool} {C f : Str} (hm : mt C = some false) (h : N.ex C f d τ M) : tryX mt s N C f d τ M := by
  unfold tryX; rw [hm]; exact h
theorem w_while (f : Nat) (h : wWhile tt s N f τ M) : dWhile tt s N τ M := ⟨f, h⟩
theorem w_wstep {f : Nat} (h : tt τ M (fun b M1 => if b = true then s (lN N (wWhile tt s N f)) τ M1 else N.nx τ M1) (fun C f d M1 => N.ex C f d τ M1)) : wWhile tt s N (f + 1) τ M := h
theorem w_for {wi : TDI} (h : wi τ M (fun items guard M1 => wFor guard g s N items τ M1) (fun C f d M1 => N.ex C f d τ M1)) : dFor wi g s N τ M := h
theorem w_fnil {gu : Mp → Prop} (hg : gu M) (h : N.nx τ M) : wFor gu g s N [] τ M := ⟨hg, h⟩
theorem w_fcons {gu : Mp → Prop} (hg : gu M) (h : g d τ M (fun τ2 M2 => s (lN N (wFor gu g s N xs)) τ2 M2) N.ex) : wFor gu g s N (d :: xs) τ M := ⟨hg, h⟩
theorem w_augS {rd : DR2} {to ti : TDE} (h : to τ M (fun o M1 => ti τ M1 (fun i M2 => getD' o i M2 (fun x M3 => te τ M3 (fun y M4 => rd x y M4 (fun z M5 => setD o i z M5 (fun M6 => N.nx τ M6))) (fun C f d M => N.ex C f d τ M))) (fun C f d M => N.ex C f d τ M)) (fun C f d M => N.ex C f d τ M)) : dAugS to ti te rd N τ M := h
/-! ### targets -/
theorem w_gName {R : DSt → Mp → Prop} {X : DXS} (h : R (τ.set i (some d)) M) : dgName i d τ M R X := h
theorem w_gNm {R : DSt → Mp → Prop} {X : DXS} (h : Sl n l τ) (hi : i < n) (r : ∀ τ', Sl n ((i, d) :: l) τ' → R τ' M) : dgName i d τ M R X := r _ (h.set hi)
theorem w_wipeG {R : DSt → Mp → Prop} {X : DXS} {vs : List Nat} (h : Sl n l τ) (r : ∀ τ', Sl n (slout vs l) τ' → g d τ' M R X) : g d (dwipe τ vs) M R X := r _ (h.wipe vs)
theorem w_gTup {R : DSt → Mp → Prop} {X : DXS} {m : Nat} (hl : xs.length = m) (h : gs xs τ M R X) : dgTup m gs (.tup xs) τ M R X := ⟨hl, h⟩
theorem w_gNil {R : DSt → Mp → Prop} {X : DXS} (h : R τ M) : dgNil [] τ M R X := h
theorem w_gCons {R : DSt → Mp → Prop} {X : DXS} (h : g d τ M (fun τ2 M2 => gs xs τ2 M2 R X) X) : dgCons g gs (d :: xs) τ M R X := h
theorem w_gSub {R : DSt → Mp → Prop} {X : DXS} {to ti : TDE} (h : to τ M (fun o M1 => ti τ M1 (fun i M2 => setD o i d M2 (fun M3 => R τ M3)) (fun C f x M' => X C f x τ M')) (fun C f x M' => X C f x τ M')) : dgSub to ti d τ M R X := h
/-! ### expressions -/
theorem w_var (hs : Sl n l τ) (hl : slk i l = some d) (h : Q d M) : dVar i τ M Q E := by
  unfold dVar
  rw [hs.get hl]
  exact h
theorem w_c (h : Q d M) : dC d τ M Q E := h
theorem w_bin {rd : DR2} (h : ta τ M (fun x M1 => tb τ M1 (fun y M2 => rd x y M2 Q) E) E) : dBin rd ta tb τ M Q E := h
def chK (r' : DR2) (tc : TDE) (τ : DSt) (y : D) (Q : DQ) (E : DX) : DQ := fun z M3 => match z with
  | .bl true => tc τ M3 (fun w M4 => r' y w M4 Q) E
  | .bl false => Q (.bl false) M3
  | _ => False
theorem w_chain {r r' : DR2} (h : ta τ M (fun x M1 => tb τ M1 (fun y M2 => r x y M2 (chK r' tc τ y Q E)) E) E) : dChain r r' ta tb tc τ M Q E := h
theorem w_chKt {r' : DR2} (h : tc τ M (fun w M4 => r' y w M4 Q) E) : chK r' tc τ y Q E (.bl true) M := h
theorem w_chKf {r' : DR2} (h : Q (.bl false) M) : chK r' tc τ y Q E (.bl false) M := h
theorem w_chKp [Decidable p] {r' : DR2} (hc : p) (h : tc τ M (fun w M4 => r' y w M4 Q) E) : chK r' tc τ y Q E (.bl (decide p)) M := by
  rw [decide_eq_true hc]; exact h
theorem w_chKn [Decidable p] {r' : DR2} (hc : ¬ p) (h : Q (.bl false) M) : chK r' tc τ y Q E (.bl (decide p)) M := by
  rw [decide_eq_false hc]; exact h
theorem w_chKd [Decidable p] {r' : DR2} (h : p → tc τ M (fun w M4 => r' y w M4 Q) E) (h' : ¬ p → Q (.bl false) M) : chK r' tc τ y Q E (.bl (decide p)) M := by
  by_cases c : p
  · rw [decide_eq_true c]; exact h c
  · rw [decide_eq_false c]; exact h' c
theorem w_un {rd : DR1} (h : ta τ M (fun x M1 => rd x M1 Q) E) : dUn rd ta τ M Q E := h
theorem w_ife (h : tt τ M (fun c M1 => if c = true then ta τ M1 Q E else tb τ M1 Q E) E) : dIf tt ta tb τ M Q E := h
theorem w_tup (h : tr τ M (fun xs M1 => SzOk xs.length ∧ Q (.tup xs) M1) E) : dTup tr τ M Q E := h
theorem w_lst (h : tr τ M (fun xs M1 => SzOk xs.length ∧ ∀ p, M1 p = none → Q (.ref p) (mup M1 p (.lst xs))) E) : dLst tr τ M Q E := h
theorem w_dict (h : ∀ p, M p = none → Q (.ref p) (mup M p (.dK []))) : dDictNew τ M Q E := h
theorem w_call {sp : DSp} (h : tr τ M (fun ds M1 => sp ds M1 Q E) E) : dCall sp tr τ M Q E := h
theorem w_ar {sp : DSp} {m : Nat} (hl : xs.length = m) (h : sp xs M Q E) : arS m sp xs M Q E := ⟨hl, h⟩
theorem w_cb {rd : DRC} (h : tr τ M (fun ds M1 => rd ds M1 Q) E) : dCB rd tr τ M Q E := h
def mlK (rd : DRM) (d : D) (Q : DQ) : List D → Mp → Prop := fun ds M2 => rd d ds M2 Q
theorem w_ml {rd : DRM} (h : ta τ M (fun d M1 => isLst d M1 ∧ tr τ M1 (fun ds M2 => rd d ds M2 Q) E) E) : dML rd ta tr τ M Q E := h
theorem w_ml0 {rd : DRM} (h : ta τ M (fun d M1 => isLst d M1 ∧ rd d [] M1 Q) E) : dML0 rd ta τ M Q E := h
theorem w_isl {A : Prop} (hm : M a = some (.lst xs)) (h : A) : isLst (.ref a) M ∧ A := ⟨by simp [isLst, hm], h⟩
theorem w_islD {A : Prop} (hm : M a = some .drw) (h : A) : True ∧ A := ⟨trivial, h⟩
def bitK (Q : DQ) : DQ := fun d M1 => match d with | .int i => Q (.int (Builtin.Int.intBits i : Nat)) M1 | _ => False
theorem w_bits (h : ta τ M (bitK Q) E) : dBits ta τ M Q E := h
theorem w_bitK (h : Q (.int (Builtin.Int.intBits u : Nat)) M) : bitK Q (.int u) M := h
theorem w_slice {tl th : TDO} (h : ta τ M (fun d M1 => tl τ M1 (fun l M2 => th τ M2 (fun u M3 => sliceD d l u M3 Q) E) E) E) : dSlice ta tl th τ M Q E := h
theorem w_nop {R : Option Int → Mp → Prop} (h : R none M) : dNoPart τ M R E := h
def prtK (R : Option Int → Mp → Prop) : DQ := fun d M1 => match d with | .int i => R (some i) M1 | _ => False
theorem w_prt {R : Option Int → Mp → Prop} (h : ta τ M (prtK R) E) : dPart ta τ M R E := h
theorem w_prtK {R : Option Int → Mp → Prop} (h : R (some u) M) : prtK R (.int u) M := h
theorem w_popK {to tf : TDE} (h : to τ M (fun d M1 => isDct d M1 ∧ te τ M1 (fun y M2 => tf τ M2 (fun z M3 => popKD d y z M3 Q) E) E) E) : dPopK to te tf τ M Q E := h
theorem w_isd {A : Prop} {ms : List (Key × D)} (hm : M a = some (.dK ms)) (h : A) : isDct (.ref a) M ∧ A := ⟨by simp [isDct, hm], h⟩
def andVK (tu : TDE) (τ : DSt) (Q : DQ) (E : DX) : DQ := fun d M1 => match dtru d M1 with | some true => tu τ M1 Q E | some false => Q d M1 | none => False
theorem w_andV (h : ta τ M (andVK tb τ Q E) E) : dAndV ta tb τ M Q E := h
def orVK (tu : TDE) (τ : DSt) (Q : DQ) (E : DX) : DQ := fun d M1 => match dtru d M1 with | some true => Q d M1 | some false => tu τ M1 Q E | none => False
theorem w_orV (h : ta τ M (orVK tb τ Q E) E) : dOrV ta tb τ M Q E := h
def notVK (Q : DQ) : DQ := fun d M1 => match dtru d M1 with | some k => Q (.bl (!k)) M1 | none => False
theorem w_notV (h : ta τ M (notVK Q) E) : dNotV ta τ M Q E := h
theorem w_andVK {b : Bool} (hd : dtru d M = some b) (h : if b = true then tb τ M Q E else Q d M) : andVK tb τ Q E d M := by
  unfold andVK; rw [hd]; cases b <;> simpa using h
theorem w_orVK {b : Bool} (hd : dtru d M = some b) (h : if b = true then Q d M else tb τ M Q E) : orVK tb τ Q E d M := by
  unfold orVK; rw [hd]; cases b <;> simpa using h
theorem w_notVK {b : Bool} (hd : dtru d M = some b) (h : Q (.bl (!b)) M) : notVK Q d M := by
  unfold notVK; rw [hd]; exact h
/-! ### arguments -/
theorem w_nil {R : List D → Mp → Prop} (h : R [] M) : dNil τ M R E := h
theorem w_cons {R : List D → Mp → Prop} (h : ta τ M (fun x M1 => tr τ M1 (fun xs M2 => R (x :: xs) M2) E) E) : dCons ta tr τ M R E := h
theorem w_sz {A : Prop} (hz : xs.length ≤ 16777216) (h : A) : SzOk xs.length ∧ A := ⟨hz, h⟩
/-! ### tests -/
def isB (R : Bool → Mp → Prop) : DQ := fun d M1 => match d with | .bl b => R b M1 | _ => False
theorem w_dB {R : Bool → Mp → Prop} (h : ta τ M (isB R) E) : dB ta τ M R E := h
theorem w_isB {R : Bool → Mp → Prop} {b : Bool} (h : R b M) : isB R (.bl b) M := h
def truK (R : Bool → Mp → Prop) : DQ := fun d M1 => match dtru d M1 with | some k => R k M1 | none => False
theorem w_tru {R : Bool → Mp → Prop} (h : ta τ M (truK R) E) : dTru ta τ M R E := h
theorem w_truK {R : Bool → Mp → Prop} {b : Bool} (hd : dtru d M = some b) (h : R b M) : truK R d M := by unfold truK; rw [hd]; exact h
theorem w_not {R : Bool → Mp → Prop} (h : tt τ M (fun b M1 => R (!b) M1) E) : dNot tt τ M R E := h
theorem w_and {R : Bool → Mp → Prop} (h : tt τ M (fun b M1 => if b = true then tu τ M1 R E else R false M1) E) : dAnd tt tu τ M R E := h
theorem w_or {R : Bool → Mp → Prop} (h : tt τ M (fun b M1 => if b = true then R true M1 else tu τ M1 R E) E) : dOr tt tu τ M R E := h
theorem w_yes {R : Bool → Mp → Prop} (h : R true M) : dYes τ M R E := h
/-! ### truth -/
theorem tr_bl {b : Bool} : dtru (.bl b) M = some b := rfl
theorem tr_int : dtru (.int u) M = some (u != 0) := rfl
theorem tr_non : dtru .non M = some false := rfl
theorem tr_tup : dtru (.tup xs) M = some (!xs.isEmpty) := rfl
theorem tr_lst (h : M a = some (.lst xs)) : dtru (.ref a) M = some (!xs.isEmpty) := by simp [dtru, h]
theorem tr_dk {ms : List (Key × D)} (h : M a = some (.dK ms)) : dtru (.ref a) M = some (!ms.isEmpty) := by simp [dtru, h]
/-! ### branches -/
theorem w_itt (h : p) : if (true = true) then p else q := by simpa using h
theorem w_itf (h : q) : if (false = true) then p else q := by simpa using h
theorem w_itp {c : Prop} [Decidable c] (hc : c) (h : p) : if (decide c = true) then p else q := by simp [hc, h]
theorem w_itn {c : Prop} [Decidable c] (hc : ¬ c) (h : q) : if (decide c = true) then p else q := by simp [hc, h]
theorem w_itd {c : Prop} [Decidable c] (h : c → p) (h' : ¬ c → q) : if (decide c = true) then p else q := by
  by_cases k : c
  · simp [k, h k]
  · simp [k, h' k]
theorem w_itz (h : u ≠ 0 → p) (h' : u = 0 → q) : if ((u != 0) = true) then p else q := by
  by_cases k : u = 0
  · simp [k, h' k]
  · simp [k, h k]
theorem w_itzp (hc : u ≠ 0) (h : p) : if ((u != 0) = true) then p else q := by simp [hc, h]
theorem w_itzn (hc : u = 0) (h : q) : if ((u != 0) = true) then p else q := by simp [hc, h]
theorem w_ite0 (h : q) : if ((!([] : List D).isEmpty) = true) then p else q := by simpa using h
theorem w_itec (h : p) : if ((!(x :: xs).isEmpty) = true) then p else q := by simpa using h
theorem w_iteS (h : p) : if ((!(xs ++ [d]).isEmpty) = true) then p else q := by simpa using h
theorem w_itisf (h : if (!isNon x) = true then p else q) : if (!isNon x) = true then p else q := h
theorem w_ite (h : xs ≠ [] → p) (h' : xs = [] → q) : if ((!xs.isEmpty) = true) then p else q := by
  cases xs with
  | nil => simpa using h' rfl
  | cons => simpa using h (by simp)
theorem w_itnot {b : Bool} (h : if b = true then q else p) : if ((!b) = true) then p else q := by cases b <;> simpa using h
theorem w_itb {b : Bool} (h : b = true → p) (h' : b = false → q) : if b = true then p else q := by
  cases b
  · simpa using h' rfl
  · simpa using h rfl
theorem w_itbp {b : Bool} (hc : b = true) (h : p) : if b = true then p else q := by rw [if_pos hc]; exact h
theorem w_itbn {b : Bool} (hc : b = false) (h : q) : if b = true then p else q := by rw [if_neg (by simp [hc])]; exact h
/-! ### operators on values -/
theorem w_add_i (h : Q (.int (u + v)) M) : addD (.int u) (.int v) M Q := h
theorem w_add_t1 (hz : ys.length + 1 ≤ 16777216) (h : Q (.tup (x :: ys)) M) : addD (.tup [x]) (.tup ys) M Q := ⟨by show _ ≤ _; simp; omega, h⟩
theorem w_add_t0 (hz : ys.length ≤ 16777216) (h : Q (.tup ys) M) : addD (.tup []) (.tup ys) M Q := ⟨by show _ ≤ _; simp; omega, h⟩
theorem w_add_t (hz : xs.length + ys.length ≤ 16777216) (h : Q (.tup (xs ++ ys)) M) : addD (.tup xs) (.tup ys) M Q := ⟨hz, h⟩
theorem w_add_s {f g : Str} (hz : f.length + g.length ≤ 16777216) (h : Q (.str (f ++ g)) M) : addD (.str f) (.str g) M Q := ⟨hz, h⟩
theorem w_add_l (ha : M a = some (.lst xs)) (hb : M b = some (.lst ys)) (hz : xs.length + ys.length ≤ 16777216) (h : ∀ p, M p = none → Q (.ref p) (mup M p (.lst (xs ++ ys)))) : addD (.ref a) (.ref b) M Q := by
  simp only [addD, ha, hb]; exact ⟨hz, h⟩
theorem w_addI (h : Q (.int (u + v)) M) : addI (.int u) (.int v) M Q := h
theorem w_di0 {g : Int → Int → D} (h : Q (g u v) M) : dI0 g (.int u) (.int v) M Q := h
theorem w_di {C : Int → Int → Prop} {g : Int → Int → D} (hc : C u v) (h : Q (g u v) M) : dI C g (.int u) (.int v) M Q := ⟨hc, h⟩
theorem w_mulI (hc : CMul u v) (h : Q (.int (u * v)) M) : mulI (.int u) (.int v) M Q := ⟨hc, h⟩
theorem w_mul_i (hc : CMul u v) (h : Q (.int (u * v)) M) : mulD (.int u) (.int v) M Q := ⟨hc, h⟩
theorem w_mul_l (ha : M a = some (.lst xs)) (hc : -(2 ^ 63) ≤ v ∧ v < 2 ^ 63) (hz : xs.length * v.toNat ≤ 16777216) (h : ∀ p, M p = none → Q (.ref p) (mup M p (.lst (List.replicate v.toNat xs).flatten))) : mulD (.ref a) (.int v) M Q := by
  simp only [mulD, ha]; exact ⟨hc.1, hc.2, hz, h⟩
theorem w_dU {g : Int → Int} (h : Q (.int (g u)) M) : dU g (.int u) M Q := h
theorem w_is_n {neg : Bool} (h : Q (.bl (if neg then !isNon x else isNon x)) M) : isD neg x .non M Q := by
  cases x <;> exact h
theorem w_is_nf (h : Q (.bl (isNon x)) M) : isD false x .non M Q := w_is_n h
theorem w_is_nt (h : Q (.bl (!isNon x)) M) : isD true x .non M Q := w_is_n h
theorem w_eq_i (h : Q (.bl (decide (u = v))) M) : eqD false (.int u) (.int v) M Q := by rw [eqD_ii]; exact h
theorem w_ne_i (h : Q (.bl (!decide (u = v))) M) : eqD true (.int u) (.int v) M Q := by rw [eqD_ii]; exact h
theorem w_eq_b {f g : Bool} (h : Q (.bl (f == g)) M) : eqD false (.bl f) (.bl g) M Q := by rw [eqD_bb]; exact h
theorem w_ne_b {f g : Bool} (h : Q (.bl (!(f == g))) M) : eqD true (.bl f) (.bl g) M Q := by rw [eqD_bb]; exact h
theorem w_eq_ni (h : Q (.bl false) M) : eqD false .non (.int v) M Q := by rw [eqD_ni]; exact h
theorem w_ne_ni (h : Q (.bl true) M) : eqD true .non (.int v) M Q := by rw [eqD_ni]; exact h
theorem w_eq_in (h : Q (.bl false) M) : eqD false (.int v) .non M Q := by rw [eqD_in]; exact h
theorem w_ne_in (h : Q (.bl true) M) : eqD true (.int v) .non M Q := by rw [eqD_in]; exact h
theorem w_eq_nn (h : Q (.bl true) M) : eqD false .non .non M Q := by rw [eqD_nn]; exact h
theorem w_ne_nn (h : Q (.bl false) M) : eqD true .non .non M Q := by rw [eqD_nn]; exact h
theorem w_eq_ti {us vs : List Int} (h : Q (.bl (decide (us = vs))) M) : eqD false (.tup (us.map D.int)) (.tup (vs.map D.int)) M Q := by rw [eqD_tints]; exact h
theorem w_ne_ti {us vs : List Int} (h : Q (.bl (!decide (us = vs))) M) : eqD true (.tup (us.map D.int)) (.tup (vs.map D.int)) M Q := by rw [eqD_tints]; exact h
theorem w_eq_li {us vs : List Int} (ha : M a = some (.lst (us.map D.int))) (hb : M b = some (.lst (vs.map D.int))) (h : Q (.bl (decide (us = vs))) M) : eqD false (.ref a) (.ref b) M Q := eqD_lints ha hb h
theorem w_ne_li {us vs : List Int} (ha : M a = some (.lst (us.map D.int))) (hb : M b = some (.lst (vs.map D.int))) (h : Q (.bl (!decide (us = vs))) M) : eqD true (.ref a) (.ref b) M Q := eqD_lints ha hb h
theorem w_eq (hx : NB x = true) (hy : NB y = true) (dx : dpD x ≤ 64) (dy : dpD y ≤ 64) (c : Bool) (hc : (c = true) ↔ x = y) (h : Q (.bl c) M) : eqD false x y M Q := eqD_val hx hy dx dy c hc h
theorem w_ne (hx : NB x = true) (hy : NB y = true) (dx : dpD x ≤ 64) (dy : dpD y ≤ 64) (c : Bool) (hc : (c = true) ↔ x = y) (h : Q (.bl (!c)) M) : eqD true x y M Q := eqD_val hx hy dx dy c hc h
theorem w_eq_s (hx : NB x = true) (dx : dpD x ≤ 64) (h : Q (.bl true) M) : eqD false x x M Q := eqD_same hx dx h
theorem w_ne_s (hx : NB x = true) (dx : dpD x ≤ 64) (h : Q (.bl false) M) : eqD true x x M Q := eqD_same hx dx h
theorem w_ix_t (hi : atI xs u = some d) (h : Q d M) : ixA (.tup xs) (.int u) M Q := by simp only [ixA, ixD, hi]; exact h
theorem w_ix_l (ha : M a = some (.lst xs)) (hi : atI xs u = some d) (h : Q d M) : ixA (.ref a) (.int u) M Q := by simp only [ixA, ixD, ha, hi]; exact h
theorem w_ix_d {ms : List (Key × D)} {k : Key} (ha : M a = some (.dK ms)) (hk : dkey x = some k) (hi : kget ms k = some d) (h : Q d M) : ixA (.ref a) x M Q := by simp only [ixA, ixK, ha, hk, hi]; exact h
theorem w_in_d {ms : List (Key × D)} {k : Key} (ha : M a = some (.dK ms)) (hk : dkey x = some k) (h : Q (.bl (kget ms k).isSome) M) : inD false x (.ref a) M Q := by simp only [inD, ha, hk]; simpa using h
theorem w_nin_d {ms : List (Key × D)} {k : Key} (ha : M a = some (.dK ms)) (hk : dkey x = some k) (h : Q (.bl (!(kget ms k).isSome)) M) : inD true x (.ref a) M Q := by simp only [inD, ha, hk]; simpa using h
theorem w_len_t (h : Q (.int xs.length) M) : lenD [.tup xs] M Q := h
theorem w_len_l (ha : M a = some (.lst xs)) (h : Q (.int xs.length) M) : lenD [.ref a] M Q := by simp only [lenD, ha]; exact h
theorem w_len_d {ms : List (Key × D)} (ha : M a = some (.dK ms)) (h : Q (.int ms.length) M) : lenD [.ref a] M Q := by simp only [lenD, ha]; exact h
theorem w_tuple_t (h : Q (.tup xs) M) : tupleD [.tup xs] M Q := h
theorem w_tuple_l (ha : M a = some (.lst xs)) (h : Q (.tup xs) M) : tupleD [.ref a] M Q := by simp only [tupleD, seqD, ha]; exact h
theorem w_list_t (h : ∀ p, M p = none → Q (.ref p) (mup M p (.lst xs))) : listD [.tup xs] M Q := h
theorem w_list_l (ha : M a = some (.lst xs)) (h : ∀ p, M p = none → Q (.ref p) (mup M p (.lst xs))) : listD [.ref a] M Q := by simp only [listD, seqD, ha]; exact h
theorem w_int_i (h : Q (.int u) M) : intD [.int u] M Q := h
theorem w_abs (h : Q (.int (if u < 0 then -u else u)) M) : absD [.int u] M Q := h
theorem w_max2 (h : Q (.int (if v > u then v else u)) M) : maxD [.int u, .int v] M Q := h
theorem w_min2 (h : Q (.int (if v < u then v else u)) M) : minD [.int u, .int v] M Q := h
theorem w_sum {us : List Int} (ha : M a = some (.lst (us.map D.int))) (h : Q (.int us.sum) M) : sumD [.ref a] M Q := by simp only [sumD, listI, ha, intsD_map]; exact h
theorem w_all {us : List Bool} (ha : M a = some (.lst (us.map D.bl))) (h : Q (.bl (us.all id)) M) : allD [.ref a] M Q := by simp only [allD, listB, ha, blsD_map]; exact h
theorem w_any {us : List Bool} (ha : M a = some (.lst (us.map D.bl))) (h : Q (.bl (us.any id)) M) : anyD [.ref a] M Q := by simp only [anyD, listB, ha, blsD_map]; exact h
theorem w_sort_i {us : List Int} (hm : itemsD x M = some (us.map D.int)) (hz : us.length ≤ 16777216) (h : ∀ p, M p = none → Q (.ref p) (mup M p (.lst ((us.mergeSort fun a b => decide (a ≤ b)).map D.int)))) : sortD [x] M Q := by
  simp only [sortD, hm]; exact ⟨okSort_int hz, by rw [sortXs_int]; exact h⟩
theorem w_isi {c : String} {t : String} (ht : tyD x M = some t) (h : Q (.bl (isiB t c)) M) : isiD c x M Q := by simp only [isiD, ht]; exact h
theorem w_append1 {o : MO} (ho : o = .lst xs) (hz : xs.length + 1 ≤ 16777216) (h : Q .non (mup M a (.lst (xs ++ [d])))) : chL fAppend (.ref a) [d] (mup M a o) Q := by
  subst ho; simp only [chL, fAppend, mup_same, mup_mup]; exact ⟨by simpa using hz, h⟩
theorem w_append (ha : M a = some (.lst xs)) (hz : xs.length + 1 ≤ 16777216) (h : Q .non (mup M a (.lst (xs ++ [d])))) : chL fAppend (.ref a) [d] M Q := by
  simp only [chL, fAppend, ha]; exact ⟨by simpa using hz, h⟩
theorem w_pop (ha : M a = some (.lst (xs ++ [d]))) (hz : xs.length ≤ 16777216) (h : Q d (mup M a (.lst xs))) : chL fPop (.ref a) [] M Q := by
  simp only [chL, fPop, ha]; simp; exact ⟨hz, h⟩
theorem w_reverse (ha : M a = some (.lst xs)) (hz : xs.length ≤ 16777216) (h : Q .non (mup M a (.lst xs.reverse))) : chL fReverse (.ref a) [] M Q := by
  simp only [chL, fReverse, ha]; exact ⟨by simpa using hz, h⟩
theorem w_extend (ha : M a = some (.lst xs)) (hb : M b = some (.lst ys)) (hz : xs.length + ys.length ≤ 16777216) (h : Q .non (mup M a (.lst (xs ++ ys)))) : extD (.ref a) [.ref b] M Q := by
  simp only [extD, ha, hb]; exact ⟨hz, h⟩
theorem w_extA_l (ha : M a = some (.lst xs)) (hb : M b = some (.lst ys)) (hz : xs.length + ys.length ≤ 16777216) (h : Q .non (mup M a (.lst (xs ++ ys)))) : extA (.ref a) [.ref b] M Q := by
  simp only [extA, extD, ha, hb]; exact ⟨hz, h⟩
theorem w_extA_t (ha : M a = some (.lst xs)) (hz : xs.length + ys.length ≤ 16777216) (h : Q .non (mup M a (.lst (xs ++ ys)))) : extA (.ref a) [.tup ys] M Q := by
  simp only [extA, ha]; exact ⟨hz, h⟩
theorem w_set_l {R : Mp → Prop} {j : Nat} (ha : M a = some (.lst xs)) (hj : ixN xs.length u = some j) (h : R (mup M a (.lst (xs.set j d)))) : setD (.ref a) (.int u) d M R := by
  simp only [setD, ha, hj]; exact h
theorem w_set_d {R : Mp → Prop} {ms : List (Key × D)} {k : Key} (ha : M a = some (.dK ms)) (hk : dkey x = some k) (hz : ms.length + 1 ≤ 16777216) (h : R (mup M a (.dK (kput ms k d)))) : setD (.ref a) x d M R := by
  simp only [setD, ha, hk]; exact ⟨hz, h⟩
theorem w_getD {j : Nat} (ha : M a = some (.lst xs)) (h0 : 0 ≤ u) (hj : xs[u.toNat]? = some d) (h : Q d M) : getD' (.ref a) (.int u) M Q := by
  simp only [getD', ha, hj]; exact ⟨h0, h⟩
theorem w_sl_t1 (h : Q (.tup xs) M) : sliceD (.tup (x :: xs)) (some 1) none M Q := by
  simp only [sliceD]; rw [gcut_from (by decide)]; exact h
theorem w_sl_t2 (h : Q (.tup xs) M) : sliceD (.tup (x :: y :: xs)) (some 2) none M Q := by
  simp only [sliceD]; rw [gcut_from (by decide)]; exact h
theorem w_sl_tl (h : Q (.tup xs) M) : sliceD (.tup (xs ++ [d])) none (some (-1)) M Q := by
  simp only [sliceD]; rw [gcut_last, List.dropLast_concat]; exact h
theorem w_sl_l1 (ha : M a = some (.lst (x :: xs))) (h : ∀ p, M p = none → Q (.ref p) (mup M p (.lst xs))) : sliceD (.ref a) (some 1) none M Q := by
  simp only [sliceD, ha]; rw [gcut_from (by decide)]; exact h
theorem w_sl_ll (ha : M a = some (.lst (xs ++ [d]))) (h : ∀ p, M p = none → Q (.ref p) (mup M p (.lst xs))) : sliceD (.ref a) none (some (-1)) M Q := by
  simp only [sliceD, ha]; rw [gcut_last, List.dropLast_concat]; exact h
theorem w_sl_t {lo hi : Option Int} (h : Q (.tup (gcut xs lo hi)) M) : sliceD (.tup xs) lo hi M Q := h
theorem w_sl_l {lo hi : Option Int} (ha : M a = some (.lst xs)) (h : ∀ p, M p = none → Q (.ref p) (mup M p (.lst (gcut xs lo hi)))) : sliceD (.ref a) lo hi M Q := by
  simp only [sliceD, ha]; exact h
/-! ### walks -/
theorem w_iseq {R : List D → (Mp → Prop) → Mp → Prop} (h : te τ M (fun d M1 => seqI d M1 R) E) : iSeqD te τ M R E := h
theorem w_seqI_t {R : List D → (Mp → Prop) → Mp → Prop} (h : R xs anyM M) : seqI (.tup xs) M R := h
theorem w_seqI_l {R : List D → (Mp → Prop) → Mp → Prop} (ha : M a = some (.lst xs)) (h : R xs (isAt a xs) M) : seqI (.ref a) M R := by
  simp only [seqI, ha]; exact h
theorem w_iargs {rd : List D → Mp → (List D → (Mp → Prop) → Mp → Prop) → Prop} {R : List D → (Mp → Prop) → Mp → Prop} (h : tr τ M (fun ds M1 => rd ds M1 R) E) : iArgs rd tr τ M R E := h
theorem w_rng1 {R : List D → (Mp → Prop) → Mp → Prop} (hu : In62 u) (h : R (rangeL 0 u.toNat) anyM M) : rng1D [.int u] M R := ⟨hu, h⟩
theorem w_rng2 {R : List D → (Mp → Prop) → Mp → Prop} (hu : In62 u) (hv : In62 v) (h : R (rangeL u (v - u).toNat) anyM M) : rng2D [.int u, .int v] M R := ⟨hu, hv, h⟩
theorem w_irev {R : List D → (Mp → Prop) → Mp → Prop} (h : te τ M (fun d M1 => revD d M1 R) E) : iRevD te τ M R E := h
theorem w_rev_t {R : List D → (Mp → Prop) → Mp → Prop} (h : R xs.reverse anyM M) : revD (.tup xs) M R := h
theorem w_rev_l {R : List D → (Mp → Prop) → Mp → Prop} (ha : M a = some (.lst xs)) (h : R xs.reverse (isAt a xs) M) : revD (.ref a) M R := by
  simp only [revD, ha]; exact h
theorem w_zip_t {R : List D → (Mp → Prop) → Mp → Prop} (h : R (zipL xs ys) anyM M) : zipD [.tup xs, .tup ys] M R := h
theorem w_zip_l {R : List D → (Mp → Prop) → Mp → Prop} (ha : M a = some (.lst xs)) (hb : M b = some (.lst ys)) (h : R (zipL xs ys) (fun M' => isAt a xs M' ∧ isAt b ys M') M) : zipD [.ref a, .ref b] M R := by
  simp only [zipD, ha, hb]; exact h
theorem w_izipr {R : List D → (Mp → Prop) → Mp → Prop} (h : ta τ M (fun d M1 => (∃ a xs, d = .ref a ∧ M1 a = some (.lst xs)) ∧ tb τ M1 (fun d2 M2 => zipRD d d2 M1 M2 R) E) E) : iZipRD ta tb τ M R E := h
theorem w_zr1 {A : Prop} (ha : M a = some (.lst xs)) (h : A) : (∃ a' xs, D.ref a = .ref a' ∧ M a' = some (.lst xs)) ∧ A := ⟨⟨a, xs, rfl, ha⟩, h⟩
theorem w_zr2 {R : List D → (Mp → Prop) → Mp → Prop} {M2 : Mp} (h1 : M a = some (.lst xs)) (h2 : M2 a = some (.lst xs)) (h3 : M2 b = some (.lst ys)) (hl : ys.length = xs.length) (h : R (zipL xs.reverse ys.reverse) (fun M' => isAt a xs M' ∧ isAt b ys M') M2) : zipRD (.ref a) (.ref b) M M2 R := ⟨xs, ys, h1, h2, h3, hl, h⟩
theorem w_enum_t {R : List D → (Mp → Prop) → Mp → Prop} (h : R (enumL 0 xs) anyM M) : enumA [.tup xs] M R := h
theorem w_enum_l {R : List D → (Mp → Prop) → Mp → Prop} (ha : M a = some (.lst xs)) (h : R (enumL 0 xs) (isAt a xs) M) : enumA [.ref a] M R := by
  simp only [enumA_ref, ha]; exact h
theorem w_lc {wi : TDI} {vs : List Nat} (h : wi τ M (fun items guard M1 => ∀ p, M1 p = none → wLc guard g tt te (dwipe τ vs) p Q items (mup M1 p (.lst []))) E) : dLc wi g tt te vs τ M Q E := h
theorem w_lc2 {wi wi1 : TDI} {gd1 : TDG} {tt1 : TDT} {vs vs1 : List Nat} (h : wi τ M (fun items guard M1 => ∀ p, M1 p = none → wLo guard g tt wi1 gd1 tt1 te vs1 (dwipe τ vs) p Q items (mup M1 p (.lst []))) E) : dLc2 wi g tt wi1 gd1 tt1 te vs vs1 τ M Q E := h
def lcK (gu : Mp → Prop) (g : TDG) (tt : TDT) (te : TDE) (τ : DSt) (p : Addr) (Q : DQ) (ds : List D) : DQ := fun y M4 => match M4 p with
  | some (.lst acc) => SzOk (acc.length + 1) ∧ wLc gu g tt te τ p Q ds (mup M4 p (.lst (acc ++ [y])))
  | _ => False
theorem w_lcK {gu : Mp → Prop} {p : Addr} (hp : M p = some (.lst xs)) (hz : xs.length + 1 ≤ 16777216) (h : wLc gu g tt te τ p Q ys (mup M p (.lst (xs ++ [y])))) : lcK gu g tt te τ p Q ys y M := by
  unfold lcK; rw [hp]; exact ⟨hz, h⟩
theorem w_lc0 {gu : Mp → Prop} {p : Addr} (hg : gu M) (h : Q (.ref p) M) : wLc gu g tt te τ p Q [] M := ⟨hg, h⟩
theorem w_lc1 {gu : Mp → Prop} {p : Addr} (hg : gu M) (h : g d τ M (fun τ2 M2 => tt τ2 M2 (fun b M3 => if b = true then te τ2 M3 (lcK gu g tt te τ p Q xs) noX else wLc gu g tt te τ p Q xs M3) noX) noXS) : wLc gu g tt te τ p Q (d :: xs) M := ⟨hg, h⟩
def liK (gu : Mp → Prop) (g : TDG) (tt : TDT) (te : TDE) (τ : DSt) (p : Addr) (Nx : Mp → Prop) (ds : List D) : DQ := fun y M4 => match M4 p with
  | some (.lst acc) => SzOk (acc.length + 1) ∧ wLi gu g tt te τ p Nx ds (mup M4 p (.lst (acc ++ [y])))
  | _ => False
theorem w_liK {gu : Mp → Prop} {p : Addr} {Nx : Mp → Prop} (hp : M p = some (.lst xs)) (hz : xs.length + 1 ≤ 16777216) (h : wLi gu g tt te τ p Nx ys (mup M p (.lst (xs ++ [y])))) : liK gu g tt te τ p Nx ys y M := by
  unfold liK; rw [hp]; exact ⟨hz, h⟩
theorem w_li0 {gu : Mp → Prop} {p : Addr} {Nx : Mp → Prop} (hg : gu M) (h : Nx M) : wLi gu g tt te τ p Nx [] M := ⟨hg, h⟩
theorem w_li1 {gu : Mp → Prop} {p : Addr} {Nx : Mp → Prop} (hg : gu M) (h : g d τ M (fun τ2 M2 => tt τ2 M2 (fun b M3 => if b = true then te τ2 M3 (liK gu g tt te τ p Nx xs) noX else wLi gu g tt te τ p Nx xs M3) noX) noXS) : wLi gu g tt te τ p Nx (d :: xs) M := ⟨hg, h⟩
theorem w_lo0 {gu : Mp → Prop} {p : Addr} {wi1 : TDI} {gd1 : TDG} {tt1 : TDT} {vs1 : List Nat} (hg : gu M) (h : Q (.ref p) M) : wLo gu g tt wi1 gd1 tt1 te vs1 τ p Q [] M := ⟨hg, h⟩
theorem w_lo1 {gu : Mp → Prop} {p : Addr} {wi1 : TDI} {gd1 : TDG} {tt1 : TDT} {vs1 : List Nat} (hg : gu M) (h : g d τ M (fun τ2 M2 => tt τ2 M2 (fun b M3 => if b = true then wi1 τ2 M3 (fun items1 guard1 M4 => wLi guard1 gd1 tt1 te (dwipe τ2 vs1) p (fun M5 => wLo gu g tt wi1 gd1 tt1 te vs1 τ p Q xs M5) items1 M4) noX
      else wLo gu g tt wi1 gd1 tt1 te vs1 τ p Q xs M3) noX) noXS) : wLo gu g tt wi1 gd1 tt1 te vs1 τ p Q (d :: xs) M := ⟨hg, h⟩
theorem w_gany : anyM M := trivial
theorem w_gat (h : M a = some (.lst xs)) : isAt a xs M := h
theorem w_lamG {mt : Str → Option Bool} {fld : Str} {r : D} {pd : PostD} (h : te τ M (fun _ M1 => gcQ Q r M1) (fun C f d M1 => mt C = some true ∧ f = fld ∧ ∃ M2, MSub M2 M1 ∧ pd d Q M2)) : dLamG mt fld r pd te τ M Q E := h
theorem w_lam {mt : Str → Option Bool} {fld : Str} {r : D} (h : te τ M (fun _ M1 => gcQ Q r M1) (fun C f d M1 => mt C = some true ∧ f = fld ∧ gcQ Q d M1)) : dLam mt fld r te τ M Q E := h
/-! ### promises that many laws have -/
theorem w_take (ha : M a = some .drw) (hl : 0 < u) (h : ∀ r, 0 ≤ r → r < u → Q (.int r) M) : sp_take [.ref a, .int u] M Q E := ⟨a, u, rfl, hl, ha, h⟩
theorem w_spbits (h : Q (.int (Builtin.Int.intBits u : Nat)) M) : sp_bits [.int u] M Q E := ⟨u, rfl, h⟩
theorem w_isnum_i (h : Q (.bl true) M) : sp_is_number [.int u] M Q E := by rw [sp_is_number_eq]; exact ⟨rfl, h⟩
theorem w_isnum_b {f : Bool} (h : Q (.bl false) M) : sp_is_number [.bl f] M Q E := by rw [sp_is_number_eq]; exact ⟨rfl, h⟩
theorem w_isnum_n (h : Q (.bl false) M) : sp_is_number [.non] M Q E := by rw [sp_is_number_eq]; exact ⟨rfl, h⟩
theorem w_isnum_t (h : Q (.bl false) M) : sp_is_number [.tup xs] M Q E := by rw [sp_is_number_eq]; exact ⟨rfl, h⟩
theorem w_isnum_s {f : Str} (h : Q (.bl false) M) : sp_is_number [.str f] M Q E := by rw [sp_is_number_eq]; exact ⟨rfl, h⟩
theorem w_keyX1 (hk : flatK d = true) (h1 : keyB d = true) (h : Q .non M) : sp_keyX [d] M Q E := ⟨d, rfl, hk, by rw [if_pos h1]; exact h⟩
theorem w_keyX0 (hk : flatK d = true) (h1 : keyB d = false) (h : E "NoKey" "code" (.str "key") M) : sp_keyX [d] M Q E := ⟨d, rfl, hk, by rw [if_neg (by rw [h1]; decide)]; exact h⟩
end
end DL

set_option Elab.async false
set_option linter.all false
set_option maxRecDepth 100000
set_option maxHeartbeats 1000000
namespace DL
open PySem PySem.Spec PyProof.Rows L2
section
variable {n i j k : Nat} {l : List (Nat × D)} {τ : DSt} {M : Mp} {Q : DQ} {E : DX} {N : DEn} {d x y : D} {a b : Addr} {xs ys : List D} {u v : Int} {te ta tb tc : TDE} {tt tu : TDT} {tr : TDA} {s s' : TDS} {g : TDG} {gs : TDGs} {p q : Prop}
def tupRevK (Q : DQ) : DQ := fun d M1 => match d with | .ref a => (match M1 a with | some (.lst xs) => Q (.tup xs.reverse) M1 | _ => False) | .tup xs => Q (.tup xs.reverse) M1 | _ => False
theorem w_tupRev (h : ta τ M (tupRevK Q) E) : dTupRev ta τ M Q E := h
theorem w_tupRevT (h : Q (.tup xs.reverse) M) : tupRevK Q (.tup xs) M := h
theorem w_tupRevL (ha : M a = some (.lst xs)) (h : Q (.tup xs.reverse) M) : tupRevK Q (.ref a) M := by
  simp only [tupRevK, ha]; exact h
def lstRgK (Q : DQ) : DQ := fun d M1 => match d with | .int n => Ml n ∧ ∀ q, M1 q = none → Q (.ref q) (mup M1 q (.lst (rangeL 0 n.toNat))) | _ => False
theorem w_lstRg1 (h : ta τ M (lstRgK Q) E) : dLstRg1 ta τ M Q E := h
theorem w_lstRgK (hu : -1000000 ≤ u ∧ u ≤ 1000000) (h : ∀ q, M q = none → Q (.ref q) (mup M q (.lst (rangeL 0 u.toNat)))) : lstRgK Q (.int u) M := ⟨hu, h⟩
theorem w_draws {ns : List Int} (hS : scrOf x M ns) (hn : ns.length ≤ 1000) (h0 : 0 ≤ u) (h1 : u ≤ 1000000) (h : ∀ p, M p = none → Q (.ref p) (mup M p .drw)) : sp_drawsX [x, .int u] M Q E := ⟨x, ns, u, rfl, hS, hn, h0, h1, h⟩
theorem w_ne_ss {f : Str} (hf : PyData.strOk f = true) (h : Q (.bl false) M) : eqD true (.str f) (.str f) M Q := w_ne_s hf (by simp) h
theorem w_eq_ss {f : Str} (hf : PyData.strOk f = true) (h : Q (.bl true) M) : eqD false (.str f) (.str f) M Q := w_eq_s hf (by simp) h
theorem w_genE {M0 : Mp} (k : MLe M0 M) (h : ∀ M', MLe M0 M' → te τ M' Q E) : te τ M Q E := h M k
theorem w_genN {f : DSt → Mp → Prop} {M0 : Mp} (k : MLe M0 M) (h : ∀ M', MLe M0 M' → f τ M') : f τ M := h M k
theorem w_genR {rd : DR2} {M0 : Mp} (k : MLe M0 M) (h : ∀ M', MLe M0 M' → rd x y M' Q) : rd x y M Q := h M k
theorem w_genP {sp : DSp} {M0 : Mp} (k : MLe M0 M) (h : ∀ M', MLe M0 M' → sp xs M' Q E) : sp xs M Q E := h M k
theorem cut_to {ks : List Int} {u : Int} (h : 0 ≤ u) : gcut (ks.map D.int) none (some u) = (ks.take u.toNat).map D.int := by rw [gcut_to h, List.map_take]
theorem cut_from {ks : List Int} {u : Int} (h : 0 ≤ u) : gcut (ks.map D.int) (some u) none = (ks.drop u.toNat).map D.int := by rw [gcut_from h, List.map_drop]
theorem w_gat2 {xs ys : List D} (h : M a = some (.lst xs)) (h' : M b = some (.lst ys)) : isAt a xs M ∧ isAt b ys M := ⟨h, h'⟩
theorem w_lcK1 {gu : Mp → Prop} {p : Addr} {o : MO} (ho : o = .lst xs) (hz : xs.length + 1 ≤ 16777216) (h : wLc gu g tt te τ p Q ys (mup M p (.lst (xs ++ [y])))) : lcK gu g tt te τ p Q ys y (mup M p o) := by
  subst ho; unfold lcK; simp only [mup_same, mup_mup]; exact ⟨hz, h⟩
theorem w_liK1 {gu : Mp → Prop} {p : Addr} {Nx : Mp → Prop} {o : MO} (ho : o = .lst xs) (hz : xs.length + 1 ≤ 16777216) (h : wLi gu g tt te τ p Nx ys (mup M p (.lst (xs ++ [y])))) : liK gu g tt te τ p Nx ys y (mup M p o) := by
  subst ho; unfold liK; simp only [mup_same, mup_mup]; exact ⟨hz, h⟩
end
end DL

set_option linter.all false
namespace DL.X.skews
open PySem DL
def t_put (S_check_key : DSp) : TDS := dSeq (dDrop (dCall (arS 1 S_check_key) (dCons (dVar 1) (dNil)))) (dSeq (dIfS (dAnd (dB (dBin gtD (dCB lenD (dCons (dVar 0) (dNil))) (dC (.int 1)))) (dB (dBin (eqD false) (dBin ixA (dBin ixA (dVar 0) (dC (.int 0))) (dC (.int 0))) (dBin ixA (dBin ixA (dVar 0) (dC (.int 1))) (dC (.int 0)))))) (dRet (dBin addD (dTup (dCons (dTup (dCons (dBin addD (dBin mulD (dC (.int 2)) (dBin ixA (dBin ixA (dVar 0) (dC (.int 0))) (dC (.int 0)))) (dC (.int 1))) (dCons (dTup (dCons (dVar 1) (dCons (dBin ixA (dBin ixA (dVar 0) (dC (.int 0))) (dC (.int 1))) (dCons (dBin ixA (dBin ixA (dVar 0) (dC (.int 1))) (dC (.int 1))) (dNil))))) (dNil)))) (dNil))) (dSlice (dVar 0) (dPart (dC (.int 2))) (dNoPart)))) (dNext)) (dRet (dBin addD (dTup (dCons (dTup (dCons (dC (.int 1)) (dCons (dTup (dCons (dVar 1) (dCons (dC .non) (dCons (dC .non) (dNil))))) (dNil)))) (dNil))) (dVar 0))))
def t_taken : TDS := dSeq (dIfS (dNot (dTru (dVar 0))) (dRaise "RowError" "code" (dC (.str "empty"))) (dNext)) (dSeq (dAsg (dBin ixA (dVar 0) (dC (.int 0))) (dgTup 2 (dgCons (dgName 1) (dgCons (dgName 2) (dgNil))))) (dSeq (dAsg (dBin fdivD (dVar 1) (dC (.int 2))) (dgName 3)) (dSeq (dAsg (dIf (dTru (dVar 3)) (dTup (dCons (dTup (dCons (dVar 3) (dCons (dBin ixA (dVar 2) (dC (.int 1))) (dNil)))) (dCons (dTup (dCons (dVar 3) (dCons (dBin ixA (dVar 2) (dC (.int 2))) (dNil)))) (dNil)))) (dTup (dNil))) (dgName 4)) (dRet (dTup (dCons (dBin ixA (dVar 2) (dC (.int 0))) (dCons (dBin addD (dVar 4) (dSlice (dVar 0) (dPart (dC (.int 1))) (dNoPart))) (dNil))))))))
def t_length : TDS := dRet (dCB sumD (dCons (dLc (iSeqD (dVar 0)) (dgTup 2 (dgCons (dgName 1) (dgCons (dgName 2) (dgNil)))) (dYes) (dVar 1) [1, 2]) (dNil)))
def t_way_in (S_is_number S_length : DSp) : TDS := dSeq (dIfS (dOr (dNot (dTru (dCall (arS 1 S_is_number) (dCons (dVar 1) (dNil))))) (dNot (dB (dChain leD ltD (dC (.int 0)) (dVar 1) (dCall (arS 1 S_length) (dCons (dVar 0) (dNil))))))) (dRaise "RowError" "code" (dC (.str "place"))) (dNext)) (dSeq (dAsg (dC (.int 0)) (dgName 2)) (dSeq (dWhile (dB (dBin geD (dVar 1) (dBin ixA (dBin ixA (dVar 0) (dVar 2)) (dC (.int 0))))) (dSeq (dAug 1 (dBin ixA (dBin ixA (dVar 0) (dVar 2)) (dC (.int 0))) subD) (dAug 2 (dC (.int 1)) addI))) (dSeq (dPar 3 4 (dCons (dBin ixA (dBin ixA (dVar 0) (dVar 2)) (dC (.int 0))) (dCons (dLst (dNil)) (dNil)))) (dSeq (dWhile (dTru (dVar 1)) (dSeq (dAug 3 (dC (.int 2)) fdivD) (dIfS (dB (dBin leD (dVar 1) (dVar 3))) (dSeq (dDrop (dML (chL fAppend) (dVar 4) (dCons (dC (.int 1)) dNil))) (dAug 1 (dC (.int 1)) subD)) (dSeq (dDrop (dML (chL fAppend) (dVar 4) (dCons (dC (.int 2)) dNil))) (dAug 1 (dBin addD (dVar 3) (dC (.int 1))) subD))))) (dRet (dTup (dCons (dVar 2) (dCons (dVar 4) (dNil)))))))))
def t_key_at (S_way_in : DSp) : TDS := dSeq (dAsg (dCall (arS 2 S_way_in) (dCons (dVar 0) (dCons (dVar 1) (dNil)))) (dgTup 2 (dgCons (dgName 2) (dgCons (dgName 3) (dgNil))))) (dSeq (dAsg (dBin ixA (dBin ixA (dVar 0) (dVar 2)) (dC (.int 1))) (dgName 4)) (dSeq (dFor (iSeqD (dVar 3)) (dgName 5) (dAsg (dBin ixA (dVar 4) (dVar 5)) (dgName 4))) (dRet (dTup (dCons (dBin ixA (dVar 4) (dC (.int 0))) (dCons (dBin addD (dBin addD (dVar 2) (dC (.int 1))) (dCB lenD (dCons (dVar 3) (dNil)))) (dNil)))))))
def t_changed (S_check_key S_way_in : DSp) : TDS := dSeq (dDrop (dCall (arS 1 S_check_key) (dCons (dVar 2) (dNil)))) (dSeq (dAsg (dCall (arS 2 S_way_in) (dCons (dVar 0) (dCons (dVar 1) (dNil)))) (dgTup 2 (dgCons (dgName 3) (dgCons (dgName 4) (dgNil))))) (dSeq (dAsg (dLst (dCons (dBin ixA (dBin ixA (dVar 0) (dVar 3)) (dC (.int 1))) (dNil))) (dgName 5)) (dSeq (dFor (iSeqD (dVar 4)) (dgName 6) (dDrop (dML (chL fAppend) (dVar 5) (dCons (dBin ixA (dBin ixA (dVar 5) (dUn (dU fun i => -i) (dC (.int 1)))) (dVar 6)) dNil)))) (dSeq (dAsg (dBin addD (dTup (dCons (dVar 2) (dNil))) (dSlice (dBin ixA (dVar 5) (dUn (dU fun i => -i) (dC (.int 1)))) (dPart (dC (.int 1))) (dNoPart))) (dgName 7)) (dSeq (dFor (iZipRD (dSlice (dVar 5) (dNoPart) (dPart (dUn (dU fun i => -i) (dC (.int 1))))) (dVar 4)) (dgTup 2 (dgCons (dgName 8) (dgCons (dgName 6) (dgNil)))) (dAsg (dIf (dB (dBin (eqD false) (dVar 6) (dC (.int 1)))) (dTup (dCons (dBin ixA (dVar 8) (dC (.int 0))) (dCons (dVar 7) (dCons (dBin ixA (dVar 8) (dC (.int 2))) (dNil))))) (dTup (dCons (dBin ixA (dVar 8) (dC (.int 0))) (dCons (dBin ixA (dVar 8) (dC (.int 1))) (dCons (dVar 7) (dNil)))))) (dgName 7))) (dRet (dTup (dCons (dBin addD (dBin addD (dSlice (dVar 0) (dNoPart) (dPart (dVar 3))) (dTup (dCons (dTup (dCons (dBin ixA (dBin ixA (dVar 0) (dVar 3)) (dC (.int 0))) (dCons (dVar 7) (dNil)))) (dNil)))) (dSlice (dVar 0) (dPart (dBin addD (dVar 3) (dC (.int 1)))) (dNoPart))) (dCons (dCB lenD (dCons (dVar 5) (dNil))) (dNil))))))))))
def t_keys_in : TDS := dSeq (dAsg (dLst (dNil)) (dgName 1)) (dSeq (dFor (iSeqD (dVar 0)) (dgTup 2 (dgCons (dgName 2) (dgCons (dgName 3) (dgNil)))) (dSeq (dAsg (dLst (dCons (dVar 3) (dNil))) (dgName 4)) (dWhile (dTru (dVar 4)) (dSeq (dAsg (dML0 (chL fPop) (dVar 4)) (dgName 5)) (dIfS (dB (dBin (isD true) (dVar 5) (dC .non))) (dSeq (dDrop (dML (chL fAppend) (dVar 1) (dCons (dBin ixA (dVar 5) (dC (.int 0))) dNil))) (dSeq (dDrop (dML (chL fAppend) (dVar 4) (dCons (dBin ixA (dVar 5) (dC (.int 2))) dNil))) (dDrop (dML (chL fAppend) (dVar 4) (dCons (dBin ixA (dVar 5) (dC (.int 1))) dNil))))) (dNext)))))) (dRet (dCB tupleD (dCons (dVar 1) (dNil)))))
def t_built (S_put : DSp) : TDS := dSeq (dAsg (dTup (dNil)) (dgName 1)) (dSeq (dFor (iRevD (dVar 0)) (dgName 2) (dAsg (dCall (arS 2 S_put) (dCons (dVar 1) (dCons (dVar 2) (dNil)))) (dgName 1))) (dRet (dVar 1)))
def t_sizes_of : TDS := dSeq (dAsg (dLst (dNil)) (dgName 1)) (dSeq (dWhile (dTru (dVar 0)) (dSeq (dAsg (dC (.int 1)) (dgName 2)) (dSeq (dWhile (dB (dBin leD (dBin addD (dBin mulD (dC (.int 2)) (dVar 2)) (dC (.int 1))) (dVar 0))) (dAsg (dBin addD (dBin mulD (dC (.int 2)) (dVar 2)) (dC (.int 1))) (dgName 2))) (dSeq (dDrop (dML (chL fAppend) (dVar 1) (dCons (dVar 2) dNil))) (dAug 0 (dVar 2) subD))))) (dRet (dTupRev (dVar 1))))
def t_is_right : TDS := dSeq (dAsg (dLc (iSeqD (dVar 0)) (dgTup 2 (dgCons (dgName 1) (dgCons (dgName 2) (dgNil)))) (dYes) (dVar 1) [1, 2]) (dgName 3)) (dSeq (dIfS (dTru (dCB anyA (dCons (dLc (iSeqD (dVar 3)) (dgName 1) (dYes) (dBin andD (dBin addD (dVar 1) (dC (.int 1))) (dVar 1)) [1]) (dNil)))) (dRet (dC (.bl false))) (dNext)) (dSeq (dIfS (dOr (dNot (dTru (dCB allD (dCons (dLc (iArgs zipD (dCons (dSlice (dVar 3) (dPart (dC (.int 1))) (dNoPart)) (dCons (dSlice (dVar 3) (dPart (dC (.int 2))) (dNoPart)) (dNil)))) (dgTup 2 (dgCons (dgName 4) (dgCons (dgName 5) (dgNil)))) (dYes) (dBin ltD (dVar 4) (dVar 5)) [4, 5]) (dNil))))) (dAnd (dB (dBin gtD (dCB lenD (dCons (dVar 3) (dNil))) (dC (.int 1)))) (dB (dBin gtD (dBin ixA (dVar 3) (dC (.int 0))) (dBin ixA (dVar 3) (dC (.int 1))))))) (dRet (dC (.bl false))) (dNext)) (dSeq (dFor (iSeqD (dVar 0)) (dgTup 2 (dgCons (dgName 1) (dgCons (dgName 6) (dgNil)))) (dSeq (dPar 7 8 (dCons (dLst (dCons (dVar 6) (dNil))) (dCons (dC (.int 0)) (dNil)))) (dSeq (dWhile (dTru (dCB anyA (dCons (dLc (iSeqD (dVar 7)) (dgName 9) (dYes) (dBin (isD true) (dVar 9) (dC .non)) [9]) (dNil)))) (dSeq (dIfS (dTru (dCB anyA (dCons (dLc (iSeqD (dVar 7)) (dgName 9) (dYes) (dBin (isD false) (dVar 9) (dC .non)) [9]) (dNil)))) (dRet (dC (.bl false))) (dNext)) (dSeq (dAug 8 (dCB lenD (dCons (dVar 7) (dNil))) addI) (dAsg (dLc2 (iSeqD (dVar 7)) (dgName 9) (dYes) (iSeqD (dSlice (dVar 9) (dPart (dC (.int 1))) (dNoPart))) (dgName 10) (dYes) (dVar 10) [9, 10] [10]) (dgName 7))))) (dIfS (dB (dBin (eqD true) (dVar 8) (dVar 1))) (dRet (dC (.bl false))) (dNext))))) (dRet (dC (.bl true))))))
end DL.X.skews

set_option Elab.async false
set_option linter.all false
set_option maxRecDepth 100000
set_option maxHeartbeats 1000000
namespace DL
open PySem PySem.Spec PyProof.Rows L2
namespace SK
/-! ## full trees of keys in order -/
inductive PT where
  | nil : PT
  | node : Int → PT → PT → PT
def PT.enc : PT → D
  | .nil => .non
  | .node k l r => .tup [.int k, l.enc, r.enc]
def sz (h : Nat) : Nat := 2 ^ h - 1
theorem sz_succ (h : Nat) : sz (h + 1) = 2 * sz h + 1 := by
  have : 0 < 2 ^ h := Nat.pos_of_ne_zero (by simp)
  unfold sz
  rw [Nat.pow_succ]; omega
/-- the full tree of height h of the first keys -/
def mk : Nat → List Int → PT
  | 0, _ => .nil
  | _ + 1, [] => .nil
  | h + 1, k :: ks => .node k (mk h ks) (mk h (ks.drop (sz h)))
def encR : List Nat → List Int → List D
  | [], _ => []
  | h :: hs, ks => .tup [.int (sz h : Nat), (mk h ks).enc] :: encR hs (ks.drop (sz h))
/-- the heights of a row of n keys -/
def hts : Nat → List Nat
  | 0 => []
  | n + 1 => match hts n with
    | a :: b :: r => if a = b then (a + 1) :: r else 1 :: a :: b :: r
    | r => 1 :: r
def htB (n : Nat) : Bool := (hts n).all (fun h => decide (1 ≤ h) && decide (h ≤ 6)) && ((hts n).map sz).sum == n && decide ((hts n).length ≤ 7)
theorem ht_all : ∀ n, n < 64 → htB n = true := by decide +kernel
structure HtOk (n : Nat) : Prop where
  b : ∀ h ∈ hts n, 1 ≤ h ∧ h ≤ 6
  sum : ((hts n).map sz).sum = n
  len : (hts n).length ≤ 7
theorem ht_of {n : Nat} (h : n < 64) : HtOk n := by
  have := ht_all n h
  unfold htB at this
  simp only [Bool.and_eq_true, beq_iff_eq, decide_eq_true_eq, List.all_eq_true] at this
  exact ⟨this.1.1, this.1.2, this.2⟩
theorem sz_inj : ∀ a, a < 7 → ∀ b, b < 7 → sz a = sz b → a = b := by decide +kernel
theorem sz_le : ∀ a, a < 7 → sz a ≤ 63 := by decide +kernel
theorem encR_len : ∀ (hs : List Nat) (ks : List Int), (encR hs ks).length = hs.length
  | [], _ => rfl
  | h :: hs, ks => by rw [encR, List.length_cons, encR_len hs, List.length_cons]
theorem enc_sh : ∀ (hs : List Nat) (ks : List Int), ∀ y ∈ encR hs ks, ∃ m t, y = D.tup [.int m, t]
  | [], _, y, h => by simp [encR] at h
  | a :: hs, ks, y, h => by
    rw [encR] at h
    rcases List.mem_cons.mp h with rfl | h
    · exact ⟨_, _, rfl⟩
    · exact enc_sh hs _ y h
/-- one more key -/
theorem enc_join (a : Nat) (k : Int) (ks : List Int) : (mk (a + 1) (k :: ks)).enc = .tup [.int k, (mk a ks).enc, (mk a (ks.drop (sz a))).enc] := rfl
theorem row_join (a : Nat) (r : List Nat) (k : Int) (ks : List Int) : encR ((a + 1) :: r) (k :: ks) = .tup [.int (sz (a + 1) : Nat), .tup [.int k, (mk a ks).enc, (mk a (ks.drop (sz a))).enc]] :: encR r ((ks.drop (sz a)).drop (sz a)) := by
  rw [encR, enc_join, sz_succ, List.drop_succ_cons, List.drop_drop]
  rw [show sz a + sz a = 2 * sz a by omega]
theorem row_new (r : List Nat) (k : Int) (ks : List Int) : encR (1 :: r) (k :: ks) = .tup [.int 1, .tup [.int k, .non, .non]] :: encR r ks := rfl
/-- the heights of one key more, told apart -/
theorem hts_join {n a : Nat} {r : List Nat} (e : hts n = a :: a :: r) : hts (n + 1) = (a + 1) :: r := by
  rw [hts, e]; simp
theorem hts_one {n : Nat} (h : ∀ a r, hts n ≠ a :: a :: r) : hts (n + 1) = 1 :: hts n := by
  rw [hts]
  split
  · rename_i a b r e
    rw [if_neg (fun z => h a r (by rw [e, z])), e]
  · rfl
theorem hts_cases (n : Nat) : (∃ a r, hts n = a :: a :: r) ∨ (∀ a r, hts n ≠ a :: a :: r) := by
  by_cases h : ∃ a r, hts n = a :: a :: r
  · exact .inl h
  · exact .inr fun a r e => h ⟨a, r, e⟩
end SK
end DL

set_option Elab.async false
set_option linter.all false
set_option maxRecDepth 100000
set_option maxHeartbeats 1000000
namespace DL
open PySem PySem.Spec PyProof.Rows L2 SK
def sp_skput : DSp := fun ds M Q E => ∃ (n : Nat) (ks : List Int) (x : Int), ds = [.tup (encR (hts n) ks), .int x] ∧ n < 62 ∧ keyB (.int x) = true ∧ Q (.tup (encR (hts (n + 1)) (x :: ks))) M
abbrev pu1 : TDS := (dDrop (dCall (arS 1 sp_keyX) (dCons (dVar 1) (dNil))))
abbrev pu2 : TDS := (dIfS (dAnd (dB (dBin gtD (dCB lenD (dCons (dVar 0) (dNil))) (dC (.int 1)))) (dB (dBin (eqD false) (dBin ixA (dBin ixA (dVar 0) (dC (.int 0))) (dC (.int 0))) (dBin ixA (dBin ixA (dVar 0) (dC (.int 1))) (dC (.int 0)))))) (dRet (dBin addD (dTup (dCons (dTup (dCons (dBin addD (dBin mulD (dC (.int 2)) (dBin ixA (dBin ixA (dVar 0) (dC (.int 0))) (dC (.int 0)))) (dC (.int 1))) (dCons (dTup (dCons (dVar 1) (dCons (dBin ixA (dBin ixA (dVar 0) (dC (.int 0))) (dC (.int 1))) (dCons (dBin ixA (dBin ixA (dVar 0) (dC (.int 1))) (dC (.int 1))) (dNil))))) (dNil)))) (dNil))) (dSlice (dVar 0) (dPart (dC (.int 2))) (dNoPart)))) (dNext))
abbrev pu3 : TDS := (dRet (dBin addD (dTup (dCons (dTup (dCons (dC (.int 1)) (dCons (dTup (dCons (dVar 1) (dCons (dC .non) (dCons (dC .non) (dNil))))) (dNil)))) (dNil))) (dVar 0)))
section
variable {Q : DQ} {E : DX} {M : Mp} {x : Int}
theorem pu_key {R : TDS} {y : D} (kx : keyB (.int x) = true) (fin : R (dEndsG Q E) [some y, some (.int x)] M) : dSeq pu1 R (dEndsG Q E) [some y, some (.int x)] M := by
  simp only [dSeq]
  generalize R (dEndsG Q E) = G at fin ⊢
  simp
  rw [if_pos kx]
  exact ⟨rfl, fin⟩
/-- two of one size -/
theorem pu_two {m n : Int} {t u : D} {r : List D} (hr : r.length ≤ 100) (hm : 0 ≤ m ∧ m ≤ 100) (e : n = m) (h : Q (.tup (.tup [.int (2 * m + 1), .tup [.int x, t, u]] :: r)) M) : dSeq pu2 pu3 (dEndsG Q E) [some (.tup (.tup [.int m, t] :: .tup [.int n, u] :: r)), some (.int x)] M := by
  subst e
  have c2 : CMul 2 n := by unfold CMul; omega
  have h := gcQ.same h
  generalize pu3 = P3
  simp only [dSeq]
  simp [c2, gcut_from]
  rw [if_pos (by omega)]
  exact ⟨by omega, by simpa using h⟩
/-- any other -/
theorem pu_one {r : List D} (hr : r.length ≤ 100) (no : ∀ m n t u q, r = .tup [.int m, t] :: .tup [.int n, u] :: q → n ≠ m) (sh : ∀ y ∈ r, ∃ m t, y = .tup [.int m, t]) (h : Q (.tup (.tup [.int 1, .tup [.int x, .non, .non]] :: r)) M) : dSeq pu2 pu3 (dEndsG Q E) [some (.tup r), some (.int x)] M := by
  have h := gcQ.same h
  have last : pu3 (dEndsG Q E) [some (.tup r), some (.int x)] M := by
    simp
    exact ⟨by omega, by simpa using h⟩
  generalize pu3 = P3 at last ⊢
  cases r with
  | nil =>
    simp only [dSeq]
    simp
    exact last
  | cons y r =>
    cases r with
    | nil =>
      simp only [dSeq]
      simp
      exact last
    | cons z r =>
      obtain ⟨m, t, rfl⟩ := sh y (by simp)
      obtain ⟨n, u, rfl⟩ := sh z (by simp)
      have ne := no m n t u r rfl
      have ne' : ¬ m = n := fun e => ne e.symm
      simp only [dSeq]
      simp [ne']
      try rw [if_pos (by omega)]
      exact last
end
theorem sem_skput (ds M Q E) (hl : ds.length = 2) (h : sp_skput ds M Q E) : X.skews.t_put sp_keyX (dEndsG Q E) (dstart 2 ds) M := by
  obtain ⟨n, ks, x, rfl, hn, kx, h⟩ := h
  have H := ht_of (n := n) (by omega)
  have hb := H.b
  have hlen := H.len
  show dSeq pu1 (dSeq pu2 pu3) (dEndsG Q E) [some (.tup (encR (hts n) ks)), some (.int x)] M
  refine pu_key kx ?_
  rcases hts_cases n with ⟨a, r, e⟩ | no
  · rw [hts_join e, row_join, sz_succ] at h
    rw [e] at hb hlen ⊢
    simp only [List.length_cons] at hlen
    have ha := hb a (by simp)
    have sa := sz_le a (by omega)
    have hr := encR_len r ((ks.drop (sz a)).drop (sz a))
    refine pu_two (m := (sz a : Nat)) (by omega) ⟨by omega, by omega⟩ rfl ?_
    simpa using h
  · rw [hts_one no, row_new] at h
    refine pu_one (by rw [encR_len]; omega) (fun m n' t u q e z => ?_) (fun y hy => enc_sh _ _ y hy) h
    cases e1 : hts n with
    | nil => rw [e1] at e; cases e
    | cons a r =>
      cases r with
      | nil => rw [e1] at e; cases e
      | cons b r =>
        rw [e1] at e hb no
        rw [encR, encR] at e
        injection e with e2 e3
        injection e3 with e4 e5
        injection e2 with e6
        injection e4 with e7
        injection e6 with e8 _
        injection e7 with e9 _
        injection e8 with e10
        injection e9 with e11
        have ha := hb a (by simp)
        have hbb := hb b (by simp)
        have := sz_inj a (by omega) b (by omega) (by omega)
        subst this
        exact no a r rfl
end DL

set_option Elab.async false
set_option linter.all false
set_option maxRecDepth 100000
set_option maxHeartbeats 1000000
namespace DL
open PySem PySem.Spec PyProof.Rows L2 SK
set_option hygiene false in
local macro_rules | `(tactic| array_mem_dec) => `(tactic| first | assumption | exact mup_same | (apply mup_keep; (assumption; done); array_mem_dec) | (apply mup_keep2; array_get_dec; array_mem_dec))
set_option hygiene false in
local macro_rules | `(tactic| array_get_dec) => `(tactic| first | assumption | (apply Ne.symm; assumption) | exact ne_by (by assumption) (by array_mem_dec) | exact Ne.symm (ne_by (by assumption) (by array_mem_dec)))
set_option hygiene false in
local macro_rules | `(tactic| clean_wf) => `(tactic| first | exact Nat.le_of_ble_eq_true rfl | omega | (simp; done) | (simp; omega))
set_option hygiene false in
local macro_rules | `(tactic| sizeOf_list_dec) => `(tactic| repeat' (first
  | ((with_reducible apply w_gen); assumption; (first | exact Nat.le_of_ble_eq_true rfl | omega); intro τ hs)
  | ((with_reducible apply w_gen2); assumption; (first | exact Nat.le_of_ble_eq_true rfl | omega); (first | exact Nat.le_of_ble_eq_true rfl | omega); intro τ hs) | ((with_reducible apply w_gen3); assumption; (first | exact Nat.le_of_ble_eq_true rfl | omega); (first | exact Nat.le_of_ble_eq_true rfl | omega); (first | exact Nat.le_of_ble_eq_true rfl | omega); intro τ hs) | ((with_reducible apply w_gen4); assumption; (first | exact Nat.le_of_ble_eq_true rfl | omega); (first | exact Nat.le_of_ble_eq_true rfl | omega); (first | exact Nat.le_of_ble_eq_true rfl | omega); (first | exact Nat.le_of_ble_eq_true rfl | omega); intro τ hs)
  | with_reducible apply w_seq | with_reducible apply w_asg | with_reducible apply w_nx | with_reducible apply w_nrt | with_reducible apply w_lx | with_reducible apply w_lrt | with_reducible apply w_grt | with_reducible apply w_gx | with_reducible apply w_bin
  | ((with_reducible apply w_var); assumption; rfl)
  | with_reducible apply w_c | with_reducible apply w_nil | with_reducible apply w_cons | with_reducible apply w_call | ((with_reducible apply w_ar); rfl) | with_reducible apply w_cb
  | with_reducible apply w_drop | with_reducible apply w_ret | with_reducible apply w_if | with_reducible apply w_next | with_reducible apply w_dB | with_reducible apply w_isB | with_reducible apply w_tru
  | ((with_reducible apply w_truK); (first | exact tr_bl | exact tr_int | exact tr_non | exact tr_tup | (apply tr_lst; array_mem_dec) | (apply tr_dk; array_mem_dec)))
  | with_reducible apply w_not | with_reducible apply w_and | with_reducible apply w_or | with_reducible apply w_yes
  | with_reducible apply w_itt | with_reducible apply w_itf | with_reducible apply w_ite0 | with_reducible apply w_itec | with_reducible apply w_iteS | (with_reducible apply w_ite <;> intro hc) | with_reducible apply w_itnot
  | ((with_reducible apply w_itp); (first | assumption | omega)) | ((with_reducible apply w_itn); (first | assumption | omega)) | (with_reducible apply w_itd <;> intro hc)
  | ((with_reducible apply w_itzp); (first | assumption | omega)) | ((with_reducible apply w_itzn); (first | assumption | omega)) | (with_reducible apply w_itz <;> intro hc)
  | ((with_reducible apply w_itbp); (first | assumption | rfl)) | ((with_reducible apply w_itbn); (first | assumption | rfl))
  | with_reducible apply w_add_i | with_reducible apply w_addI | with_reducible apply w_di0 | ((with_reducible apply w_di); (first | exact ⟨by decide, by decide⟩ | exact ⟨by decide, by decide, by decide⟩ | (unfold CMul; omega) | (show (0 : Int) < _; omega) | (show (0 : Int) ≤ _; omega)))
  | ((with_reducible apply w_mul_i); (first | (unfold CMul; omega) | assumption)) | ((with_reducible apply w_mulI); (first | (unfold CMul; omega) | assumption)) | with_reducible apply w_un | with_reducible apply w_dU
  | ((with_reducible apply w_ix_t); (first | exact atI_0 | exact atI_1 | exact atI_2 | exact atI_3 | exact atI_last | assumption))
  | ((with_reducible apply w_ix_l); array_mem_dec; (first | exact atI_0 | exact atI_1 | exact atI_2 | exact atI_3 | exact atI_last | assumption))
  | with_reducible apply w_eq_i | with_reducible apply w_ne_i | with_reducible apply w_eq_ti | with_reducible apply w_ne_ti | with_reducible apply w_eq_ni | with_reducible apply w_ne_ni | with_reducible apply w_eq_in | with_reducible apply w_ne_in | with_reducible apply w_eq_nn | with_reducible apply w_ne_nn | with_reducible apply w_eq_b | with_reducible apply w_ne_b
  | ((with_reducible apply w_eq_li); array_mem_dec; array_mem_dec) | ((with_reducible apply w_ne_li); array_mem_dec; array_mem_dec)
  | with_reducible apply w_len_t | ((with_reducible apply w_len_l); array_mem_dec) | ((with_reducible apply w_len_d); array_mem_dec)
  | ((with_reducible apply w_sz); clean_wf) | with_reducible apply w_tup | with_reducible apply w_lst
  | with_reducible apply w_ml | with_reducible apply w_ml0 | ((with_reducible apply w_isl); array_mem_dec)
  | ((with_reducible apply w_append1); rfl; clean_wf) | ((with_reducible apply w_append); array_mem_dec; clean_wf) | ((with_reducible apply w_pop); array_mem_dec; clean_wf)
  | with_reducible apply w_tuple_t | ((with_reducible apply w_tuple_l); array_mem_dec) | with_reducible apply w_list_t | ((with_reducible apply w_list_l); array_mem_dec)
  | with_reducible apply w_slice | with_reducible apply w_nop | with_reducible apply w_prt | with_reducible apply w_prtK | with_reducible apply w_sl_t1 | with_reducible apply w_sl_t2 | with_reducible apply w_sl_tl | ((with_reducible apply w_sl_l1); array_mem_dec) | ((with_reducible apply w_sl_ll); array_mem_dec) | with_reducible apply w_sl_t | ((with_reducible apply w_sl_l); array_mem_dec)
  | ((with_reducible apply w_add_t1); clean_wf) | ((with_reducible apply w_add_t0); clean_wf) | ((with_reducible apply w_add_t); clean_wf) | ((with_reducible apply w_add_l); array_mem_dec; array_mem_dec; clean_wf)
  | with_reducible apply w_is_nf | with_reducible apply w_is_nt
  | with_reducible apply w_par | with_reducible apply w_parK | with_reducible apply w_par3 | with_reducible apply w_parK3
  | ((with_reducible apply w_aug); assumption; rfl)
  | with_reducible apply w_asgG | ((with_reducible apply w_wipeG); assumption; intro τ hs) | ((with_reducible apply w_gNm); assumption; (first | exact Nat.le_of_ble_eq_true rfl | omega); intro τ hs) | ((with_reducible apply w_gTup); rfl) | with_reducible apply w_gNil | with_reducible apply w_gCons | with_reducible apply w_gSub
  | with_reducible apply w_break | with_reducible apply w_cont | with_reducible apply w_retN | with_reducible apply w_nbk | with_reducible apply w_nct | with_reducible apply w_nex | with_reducible apply w_lbk | with_reducible apply w_lct | with_reducible apply w_lex | with_reducible apply w_xx | with_reducible apply w_xrt | with_reducible apply w_xbk | with_reducible apply w_xct | with_reducible apply w_xex | with_reducible apply w_gex | with_reducible apply w_raise | with_reducible apply w_try
  | with_reducible apply w_ife | with_reducible apply w_andV | with_reducible apply w_orV | with_reducible apply w_notV
  | ((with_reducible apply w_andVK); (first | exact tr_bl | exact tr_int | exact tr_non | exact tr_tup | (apply tr_lst; array_mem_dec) | (apply tr_dk; array_mem_dec)))
  | ((with_reducible apply w_orVK); (first | exact tr_bl | exact tr_int | exact tr_non | exact tr_tup | (apply tr_lst; array_mem_dec) | (apply tr_dk; array_mem_dec)))
  | ((with_reducible apply w_notVK); (first | exact tr_bl | exact tr_int | exact tr_non | exact tr_tup | (apply tr_lst; array_mem_dec) | (apply tr_dk; array_mem_dec)))
  | with_reducible apply w_chain | with_reducible apply w_chKt | with_reducible apply w_chKf | ((with_reducible apply w_chKp); (first | assumption | omega)) | ((with_reducible apply w_chKn); (first | assumption | omega)) | (with_reducible apply w_chKd <;> intro hc)
  | with_reducible apply w_bits | with_reducible apply w_bitK | with_reducible apply w_int_i | with_reducible apply w_max2 | with_reducible apply w_min2 | with_reducible apply w_abs
  | ((with_reducible apply w_sum); array_mem_dec) | ((with_reducible apply w_all); array_mem_dec) | ((with_reducible apply w_any); array_mem_dec) | ((with_reducible apply w_anyA_i); array_mem_dec) | ((with_reducible apply w_anyA_b); array_mem_dec)
  | with_reducible apply w_for | with_reducible apply w_iseq | with_reducible apply w_seqI_t | ((with_reducible apply w_seqI_l); array_mem_dec) | with_reducible apply w_iargs
  | ((with_reducible apply w_rng1); (constructor <;> omega)) | ((with_reducible apply w_rng2); (constructor <;> omega); (constructor <;> omega))
  | with_reducible apply w_irev | with_reducible apply w_rev_t | ((with_reducible apply w_rev_l); array_mem_dec) | with_reducible apply w_zip_t | ((with_reducible apply w_zip_l); array_mem_dec; array_mem_dec) | with_reducible apply w_izipr | ((with_reducible apply w_zr1); array_mem_dec) | with_reducible apply w_enum_t | ((with_reducible apply w_enum_l); array_mem_dec)
  | with_reducible apply w_dict | ((with_reducible apply w_ix_d); array_mem_dec; rfl; assumption) | ((with_reducible apply w_in_d); array_mem_dec; rfl) | ((with_reducible apply w_nin_d); array_mem_dec; rfl) | ((with_reducible apply w_set_d); array_mem_dec; rfl; clean_wf)
  | ((with_reducible apply w_take); array_mem_dec; (first | decide | omega); intro r hr0 hr1) | with_reducible apply w_spbits | with_reducible apply w_isnum_i | with_reducible apply w_isnum_b | with_reducible apply w_isnum_n | with_reducible apply w_isnum_t | with_reducible apply w_isnum_s | ((with_reducible apply w_keyX1); rfl; (first | assumption | (simp [keyB]; omega)))
  | with_reducible apply w_lamG | with_reducible apply w_lam | with_reducible apply w_lc | with_reducible apply w_lc2 | with_reducible apply w_gany | (with_reducible apply w_gat; array_mem_dec) | with_reducible apply w_lc0 | with_reducible apply w_lc1 | ((with_reducible apply w_lcK); array_mem_dec; clean_wf) | with_reducible apply w_li0 | with_reducible apply w_li1 | ((with_reducible apply w_liK); array_mem_dec; clean_wf) | with_reducible apply w_lo0 | with_reducible apply w_lo1 | with_reducible apply w_fnil | with_reducible apply w_fcons | with_reducible apply w_augS
  | (show ∀ p, _ = none → _; intro pp hpp)))
set_option hygiene false in
local macro_rules | `(tactic| decreasing_trivial) => `(tactic| ((repeat' (first | exact trivial | apply And.intro)) <;> (refine congrArg some (?_ : (_ : D) = _)) <;> (first | with_reducible rfl | (refine congrArg D.int ?_; (first | omega | (simp; omega) | (simp; done))) | (simp; done))))

def sp_sktaken : DSp := fun ds M Q E => (ds = [.tup []] ∧ E "RowError" "code" (.str "empty") M) ∨ ∃ (n : Nat) (ks : List Int) (x : Int), ds = [.tup (encR (hts (n + 1)) (x :: ks))] ∧ n < 62 ∧ Q (.tup [.int x, .tup (encR (hts n) ks)]) M
section
variable {Q : DQ} {E : DX} {M : Mp} {x : Int}
theorem ta_one {r : List D} (hr : r.length ≤ 100) (h : Q (.tup [.int x, .tup r]) M) : X.skews.t_taken (dEndsG Q E) (dstart 5 [.tup (.tup [.int 1, .tup [.int x, .non, .non]] :: r)]) M := by
  unfold X.skews.t_taken
  refine w_gN (w_start1 (by decide) fun τ hs => ?_)
  sizeOf_list_dec
  exact gcQ.same h
theorem ta_two {m : Int} {t u : D} {r : List D} (hr : r.length ≤ 100) (hm : 1 ≤ m ∧ m ≤ 100) (h : Q (.tup [.int x, .tup (.tup [.int m, t] :: .tup [.int m, u] :: r)]) M) : X.skews.t_taken (dEndsG Q E) (dstart 5 [.tup (.tup [.int (2 * m + 1), .tup [.int x, t, u]] :: r)]) M := by
  have e2 : (2 * m + 1) / 2 = m := by omega
  unfold X.skews.t_taken
  refine w_gN (w_start1 (by decide) fun τ hs => ?_)
  sizeOf_list_dec
  exact gcQ.same (by simpa [e2] using h)
end
theorem sem_sktaken (ds M Q E) (hl : ds.length = 1) (h : sp_sktaken ds M Q E) : X.skews.t_taken (dEndsG Q E) (dstart 5 ds) M := by
  rcases h with ⟨rfl, h⟩ | ⟨n, ks, x, rfl, hn, h⟩
  · unfold X.skews.t_taken
    refine w_gN (w_start1 (by decide) fun τ hs => ?_)
    sizeOf_list_dec
    exact ⟨_, (MLe.refl M).sub, h⟩
  · have H := ht_of (n := n) (by omega)
    have hb := H.b
    have hlen := H.len
    rcases hts_cases n with ⟨a, r, e⟩ | no
    · rw [hts_join e, row_join, sz_succ]
      rw [e] at hb hlen h
      simp only [List.length_cons] at hlen
      have ha := hb a (by simp)
      have sa := sz_le a (by omega)
      have s1 : 0 < sz a := by
        obtain ⟨a', rfl⟩ : ∃ a', a = a' + 1 := ⟨a - 1, by omega⟩
        rw [sz_succ]; omega
      have hr := encR_len r ((ks.drop (sz a)).drop (sz a))
      have := ta_two (E := E) (x := x) (m := (sz a : Nat)) (t := (mk a ks).enc) (u := (mk a (ks.drop (sz a))).enc) (r := encR r ((ks.drop (sz a)).drop (sz a))) (by omega) ⟨by omega, by omega⟩ h
      simpa using this
    · rw [hts_one no, row_new]
      exact ta_one (by rw [encR_len]; omega) h
end DL

set_option Elab.async false
set_option linter.all false
set_option maxRecDepth 100000
set_option maxHeartbeats 1000000
namespace DL
open PySem PySem.Spec PyProof.Rows L2 SK
set_option hygiene false in
local macro_rules | `(tactic| array_mem_dec) => `(tactic| first | assumption | exact mup_same | (apply mup_keep; (assumption; done); array_mem_dec) | (apply mup_keep2; array_get_dec; array_mem_dec))
set_option hygiene false in
local macro_rules | `(tactic| array_get_dec) => `(tactic| first | assumption | (apply Ne.symm; assumption) | exact ne_by (by assumption) (by array_mem_dec) | exact Ne.symm (ne_by (by assumption) (by array_mem_dec)))
set_option hygiene false in
local macro_rules | `(tactic| clean_wf) => `(tactic| first | exact Nat.le_of_ble_eq_true rfl | omega | (simp; done) | (simp; omega))
set_option hygiene false in
local macro_rules | `(tactic| sizeOf_list_dec) => `(tactic| repeat' (first
  | ((with_reducible apply w_gen); assumption; (first | exact Nat.le_of_ble_eq_true rfl | omega); intro τ hs)
  | ((with_reducible apply w_gen2); assumption; (first | exact Nat.le_of_ble_eq_true rfl | omega); (first | exact Nat.le_of_ble_eq_true rfl | omega); intro τ hs) | ((with_reducible apply w_gen3); assumption; (first | exact Nat.le_of_ble_eq_true rfl | omega); (first | exact Nat.le_of_ble_eq_true rfl | omega); (first | exact Nat.le_of_ble_eq_true rfl | omega); intro τ hs) | ((with_reducible apply w_gen4); assumption; (first | exact Nat.le_of_ble_eq_true rfl | omega); (first | exact Nat.le_of_ble_eq_true rfl | omega); (first | exact Nat.le_of_ble_eq_true rfl | omega); (first | exact Nat.le_of_ble_eq_true rfl | omega); intro τ hs)
  | with_reducible apply w_seq | with_reducible apply w_asg | with_reducible apply w_nx | with_reducible apply w_nrt | with_reducible apply w_lx | with_reducible apply w_lrt | with_reducible apply w_grt | with_reducible apply w_gx | with_reducible apply w_bin
  | ((with_reducible apply w_var); assumption; rfl)
  | with_reducible apply w_c | with_reducible apply w_nil | with_reducible apply w_cons | with_reducible apply w_call | ((with_reducible apply w_ar); rfl) | with_reducible apply w_cb
  | with_reducible apply w_drop | with_reducible apply w_ret | with_reducible apply w_if | with_reducible apply w_next | with_reducible apply w_dB | with_reducible apply w_isB | with_reducible apply w_tru
  | ((with_reducible apply w_truK); (first | exact tr_bl | exact tr_int | exact tr_non | exact tr_tup | (apply tr_lst; array_mem_dec) | (apply tr_dk; array_mem_dec)))
  | with_reducible apply w_not | with_reducible apply w_and | with_reducible apply w_or | with_reducible apply w_yes
  | with_reducible apply w_itt | with_reducible apply w_itf | with_reducible apply w_ite0 | with_reducible apply w_itec | with_reducible apply w_iteS | (with_reducible apply w_ite <;> intro hc) | with_reducible apply w_itnot
  | ((with_reducible apply w_itp); (first | assumption | omega)) | ((with_reducible apply w_itn); (first | assumption | omega)) | (with_reducible apply w_itd <;> intro hc)
  | ((with_reducible apply w_itzp); (first | assumption | omega)) | ((with_reducible apply w_itzn); (first | assumption | omega)) | (with_reducible apply w_itz <;> intro hc)
  | ((with_reducible apply w_itbp); (first | assumption | rfl)) | ((with_reducible apply w_itbn); (first | assumption | rfl))
  | with_reducible apply w_add_i | with_reducible apply w_addI | with_reducible apply w_di0 | ((with_reducible apply w_di); (first | exact ⟨by decide, by decide⟩ | exact ⟨by decide, by decide, by decide⟩ | (unfold CMul; omega) | (show (0 : Int) < _; omega) | (show (0 : Int) ≤ _; omega)))
  | ((with_reducible apply w_mul_i); (first | (unfold CMul; omega) | assumption)) | ((with_reducible apply w_mulI); (first | (unfold CMul; omega) | assumption)) | with_reducible apply w_un | with_reducible apply w_dU
  | ((with_reducible apply w_ix_t); (first | exact atI_0 | exact atI_1 | exact atI_2 | exact atI_3 | exact atI_last | assumption))
  | ((with_reducible apply w_ix_l); array_mem_dec; (first | exact atI_0 | exact atI_1 | exact atI_2 | exact atI_3 | exact atI_last | assumption))
  | with_reducible apply w_eq_i | with_reducible apply w_ne_i | with_reducible apply w_eq_ti | with_reducible apply w_ne_ti | with_reducible apply w_eq_ni | with_reducible apply w_ne_ni | with_reducible apply w_eq_in | with_reducible apply w_ne_in | with_reducible apply w_eq_nn | with_reducible apply w_ne_nn | with_reducible apply w_eq_b | with_reducible apply w_ne_b
  | ((with_reducible apply w_eq_li); array_mem_dec; array_mem_dec) | ((with_reducible apply w_ne_li); array_mem_dec; array_mem_dec)
  | with_reducible apply w_len_t | ((with_reducible apply w_len_l); array_mem_dec) | ((with_reducible apply w_len_d); array_mem_dec)
  | ((with_reducible apply w_sz); clean_wf) | with_reducible apply w_tup | with_reducible apply w_lst
  | with_reducible apply w_ml | with_reducible apply w_ml0 | ((with_reducible apply w_isl); array_mem_dec)
  | ((with_reducible apply w_append1); rfl; clean_wf) | ((with_reducible apply w_append); array_mem_dec; clean_wf) | ((with_reducible apply w_pop); array_mem_dec; clean_wf)
  | with_reducible apply w_tuple_t | ((with_reducible apply w_tuple_l); array_mem_dec) | with_reducible apply w_list_t | ((with_reducible apply w_list_l); array_mem_dec)
  | with_reducible apply w_slice | with_reducible apply w_nop | with_reducible apply w_prt | with_reducible apply w_prtK | with_reducible apply w_sl_t1 | with_reducible apply w_sl_t2 | with_reducible apply w_sl_tl | ((with_reducible apply w_sl_l1); array_mem_dec) | ((with_reducible apply w_sl_ll); array_mem_dec) | with_reducible apply w_sl_t | ((with_reducible apply w_sl_l); array_mem_dec)
  | ((with_reducible apply w_add_t1); clean_wf) | ((with_reducible apply w_add_t0); clean_wf) | ((with_reducible apply w_add_t); clean_wf) | ((with_reducible apply w_add_l); array_mem_dec; array_mem_dec; clean_wf)
  | with_reducible apply w_is_nf | with_reducible apply w_is_nt
  | with_reducible apply w_par | with_reducible apply w_parK | with_reducible apply w_par3 | with_reducible apply w_parK3
  | ((with_reducible apply w_aug); assumption; rfl)
  | with_reducible apply w_asgG | ((with_reducible apply w_wipeG); assumption; intro τ hs) | ((with_reducible apply w_gNm); assumption; (first | exact Nat.le_of_ble_eq_true rfl | omega); intro τ hs) | ((with_reducible apply w_gTup); rfl) | with_reducible apply w_gNil | with_reducible apply w_gCons | with_reducible apply w_gSub
  | with_reducible apply w_break | with_reducible apply w_cont | with_reducible apply w_retN | with_reducible apply w_nbk | with_reducible apply w_nct | with_reducible apply w_nex | with_reducible apply w_lbk | with_reducible apply w_lct | with_reducible apply w_lex | with_reducible apply w_xx | with_reducible apply w_xrt | with_reducible apply w_xbk | with_reducible apply w_xct | with_reducible apply w_xex | with_reducible apply w_gex | with_reducible apply w_raise | with_reducible apply w_try
  | with_reducible apply w_ife | with_reducible apply w_andV | with_reducible apply w_orV | with_reducible apply w_notV
  | ((with_reducible apply w_andVK); (first | exact tr_bl | exact tr_int | exact tr_non | exact tr_tup | (apply tr_lst; array_mem_dec) | (apply tr_dk; array_mem_dec)))
  | ((with_reducible apply w_orVK); (first | exact tr_bl | exact tr_int | exact tr_non | exact tr_tup | (apply tr_lst; array_mem_dec) | (apply tr_dk; array_mem_dec)))
  | ((with_reducible apply w_notVK); (first | exact tr_bl | exact tr_int | exact tr_non | exact tr_tup | (apply tr_lst; array_mem_dec) | (apply tr_dk; array_mem_dec)))
  | with_reducible apply w_chain | with_reducible apply w_chKt | with_reducible apply w_chKf | ((with_reducible apply w_chKp); (first | assumption | omega)) | ((with_reducible apply w_chKn); (first | assumption | omega)) | (with_reducible apply w_chKd <;> intro hc)
  | with_reducible apply w_bits | with_reducible apply w_bitK | with_reducible apply w_int_i | with_reducible apply w_max2 | with_reducible apply w_min2 | with_reducible apply w_abs
  | ((with_reducible apply w_sum); array_mem_dec) | ((with_reducible apply w_all); array_mem_dec) | ((with_reducible apply w_any); array_mem_dec) | ((with_reducible apply w_anyA_i); array_mem_dec) | ((with_reducible apply w_anyA_b); array_mem_dec)
  | with_reducible apply w_for | with_reducible apply w_iseq | with_reducible apply w_seqI_t | ((with_reducible apply w_seqI_l); array_mem_dec) | with_reducible apply w_iargs
  | ((with_reducible apply w_rng1); (constructor <;> omega)) | ((with_reducible apply w_rng2); (constructor <;> omega); (constructor <;> omega))
  | with_reducible apply w_irev | with_reducible apply w_rev_t | ((with_reducible apply w_rev_l); array_mem_dec) | with_reducible apply w_zip_t | ((with_reducible apply w_zip_l); array_mem_dec; array_mem_dec) | with_reducible apply w_izipr | ((with_reducible apply w_zr1); array_mem_dec) | with_reducible apply w_enum_t | ((with_reducible apply w_enum_l); array_mem_dec)
  | with_reducible apply w_dict | ((with_reducible apply w_ix_d); array_mem_dec; rfl; assumption) | ((with_reducible apply w_in_d); array_mem_dec; rfl) | ((with_reducible apply w_nin_d); array_mem_dec; rfl) | ((with_reducible apply w_set_d); array_mem_dec; rfl; clean_wf)
  | ((with_reducible apply w_take); array_mem_dec; (first | decide | omega); intro r hr0 hr1) | with_reducible apply w_spbits | with_reducible apply w_isnum_i | with_reducible apply w_isnum_b | with_reducible apply w_isnum_n | with_reducible apply w_isnum_t | with_reducible apply w_isnum_s | ((with_reducible apply w_keyX1); rfl; (first | assumption | (simp [keyB]; omega)))
  | with_reducible apply w_lamG | with_reducible apply w_lam | with_reducible apply w_lc | with_reducible apply w_lc2 | with_reducible apply w_gany | (with_reducible apply w_gat; array_mem_dec) | with_reducible apply w_lc0 | with_reducible apply w_lc1 | ((with_reducible apply w_lcK); array_mem_dec; clean_wf) | with_reducible apply w_li0 | with_reducible apply w_li1 | ((with_reducible apply w_liK); array_mem_dec; clean_wf) | with_reducible apply w_lo0 | with_reducible apply w_lo1 | with_reducible apply w_fnil | with_reducible apply w_fcons | with_reducible apply w_augS
  | (show ∀ p, _ = none → _; intro pp hpp)))
set_option hygiene false in
local macro_rules | `(tactic| decreasing_trivial) => `(tactic| ((repeat' (first | exact trivial | apply And.intro)) <;> (refine congrArg some (?_ : (_ : D) = _)) <;> (first | with_reducible rfl | (refine congrArg D.int ?_; (first | omega | (simp; omega) | (simp; done))) | (simp; done))))

namespace SK
/-- the trees' heights with their keys -/
def cut : List Nat → List Int → List (Nat × List Int)
  | [], _ => []
  | h :: hs, ks => (h, ks) :: cut hs (ks.drop (sz h))
def rowE (p : Nat × List Int) : D := .tup [.int (sz p.1 : Nat), (mk p.1 p.2).enc]
theorem encR_cut : ∀ (hs : List Nat) (ks : List Int), encR hs ks = (cut hs ks).map rowE
  | [], _ => rfl
  | h :: hs, ks => by rw [encR, encR_cut hs, cut, List.map_cons, rowE]
theorem cut_fst : ∀ (hs : List Nat) (ks : List Int), (cut hs ks).map (·.1) = hs
  | [], _ => rfl
  | h :: hs, ks => by rw [cut, List.map_cons, cut_fst hs]
theorem cut_sz (hs : List Nat) (ks : List Int) : (cut hs ks).map (fun p => (sz p.1 : Int)) = hs.map fun h => (sz h : Int) := by
  conv => rhs; rw [← cut_fst hs ks]
  simp
theorem cut_len (hs : List Nat) (ks : List Int) : (cut hs ks).length = hs.length := by
  conv => rhs; rw [← cut_fst hs ks]
  simp
theorem sum_cast : ∀ (hs : List Nat), (hs.map fun h => (sz h : Int)).sum = (((hs.map sz).sum : Nat) : Int)
  | [] => rfl
  | h :: hs => by simp [sum_cast hs]
/-- tree by tree: which one has a place -/
def whichF : List Nat → Nat → Nat × Nat
  | [], q => (0, q)
  | h :: hs, q => if q < sz h then (0, q) else ((whichF hs (q - sz h)).1 + 1, (whichF hs (q - sz h)).2)
/-- the sides to go in a tree -/
def wayF : Nat → Nat → List Int
  | 0, _ => []
  | h + 1, q => if q = 0 then [] else if q ≤ sz h then 1 :: wayF h (q - 1) else 2 :: wayF h (q - (sz h + 1))
end SK
def sp_sklen : DSp := fun ds M Q E => ∃ (n : Nat) (ks : List Int), ds = [.tup (encR (hts n) ks)] ∧ n < 64 ∧ Q (.int (n : Int)) M
theorem sem_sklen (ds M Q E) (hl : ds.length = 1) (h : sp_sklen ds M Q E) : X.skews.t_length (dEndsG Q E) (dstart 3 ds) M := by
  obtain ⟨n, ks, rfl, hn, h⟩ := h
  have H := ht_of hn
  unfold X.skews.t_length
  refine w_gN (w_start1 (by decide) fun τ hs => ?_)
  sizeOf_list_dec
  rw [encR_cut]
  refine wLc_of rowE (fun p => .int (sz p.1 : Int)) _ (fun b hb acc R h => ?_) (by rw [cut_len]; have := H.len; omega) (fun _ => trivial) ?_
  · unfold rowE
    sizeOf_list_dec
    exact h
  · have e : ((cut (hts n) ks).map fun p => D.int (sz p.1 : Int)) = ((hts n).map fun h => (sz h : Int)).map D.int := by
      rw [← cut_sz _ ks, List.map_map]; rfl
    rw [e]
    refine w_sum mup_same ?_
    rw [sum_cast, H.sum]
    sizeOf_list_dec
    exact gcQ.new hpp h
end DL

set_option Elab.async false
set_option linter.all false
set_option maxRecDepth 100000
set_option maxHeartbeats 1000000
namespace DL
open PySem PySem.Spec PyProof.Rows L2 SK
set_option hygiene false in
local macro_rules | `(tactic| array_mem_dec) => `(tactic| first | assumption | exact mup_same | (apply mup_keep; (assumption; done); array_mem_dec) | (apply mup_keep2; array_get_dec; array_mem_dec))
set_option hygiene false in
local macro_rules | `(tactic| array_get_dec) => `(tactic| first | assumption | (apply Ne.symm; assumption) | exact ne_by (by assumption) (by array_mem_dec) | exact Ne.symm (ne_by (by assumption) (by array_mem_dec)))
set_option hygiene false in
local macro_rules | `(tactic| clean_wf) => `(tactic| first | exact Nat.le_of_ble_eq_true rfl | omega | (simp; done) | (simp; omega))
set_option hygiene false in
local macro_rules | `(tactic| sizeOf_list_dec) => `(tactic| repeat' (first
  | ((with_reducible apply w_gen); assumption; (first | exact Nat.le_of_ble_eq_true rfl | omega); intro τ hs)
  | ((with_reducible apply w_gen2); assumption; (first | exact Nat.le_of_ble_eq_true rfl | omega); (first | exact Nat.le_of_ble_eq_true rfl | omega); intro τ hs) | ((with_reducible apply w_gen3); assumption; (first | exact Nat.le_of_ble_eq_true rfl | omega); (first | exact Nat.le_of_ble_eq_true rfl | omega); (first | exact Nat.le_of_ble_eq_true rfl | omega); intro τ hs) | ((with_reducible apply w_gen4); assumption; (first | exact Nat.le_of_ble_eq_true rfl | omega); (first | exact Nat.le_of_ble_eq_true rfl | omega); (first | exact Nat.le_of_ble_eq_true rfl | omega); (first | exact Nat.le_of_ble_eq_true rfl | omega); intro τ hs)
  | with_reducible apply w_seq | with_reducible apply w_asg | with_reducible apply w_nx | with_reducible apply w_nrt | with_reducible apply w_lx | with_reducible apply w_lrt | with_reducible apply w_grt | with_reducible apply w_gx | with_reducible apply w_bin
  | ((with_reducible apply w_var); assumption; rfl)
  | with_reducible apply w_c | with_reducible apply w_nil | with_reducible apply w_cons | with_reducible apply w_call | ((with_reducible apply w_ar); rfl) | with_reducible apply w_cb
  | with_reducible apply w_drop | with_reducible apply w_ret | with_reducible apply w_if | with_reducible apply w_next | with_reducible apply w_dB | with_reducible apply w_isB | with_reducible apply w_tru
  | ((with_reducible apply w_truK); (first | exact tr_bl | exact tr_int | exact tr_non | exact tr_tup | (apply tr_lst; array_mem_dec) | (apply tr_dk; array_mem_dec)))
  | with_reducible apply w_not | with_reducible apply w_and | with_reducible apply w_or | with_reducible apply w_yes
  | with_reducible apply w_itt | with_reducible apply w_itf | with_reducible apply w_ite0 | with_reducible apply w_itec | with_reducible apply w_iteS | (with_reducible apply w_ite <;> intro hc) | with_reducible apply w_itnot
  | ((with_reducible apply w_itp); (first | assumption | omega)) | ((with_reducible apply w_itn); (first | assumption | omega)) | (with_reducible apply w_itd <;> intro hc)
  | ((with_reducible apply w_itzp); (first | assumption | omega)) | ((with_reducible apply w_itzn); (first | assumption | omega)) | (with_reducible apply w_itz <;> intro hc)
  | ((with_reducible apply w_itbp); (first | assumption | rfl)) | ((with_reducible apply w_itbn); (first | assumption | rfl))
  | with_reducible apply w_add_i | with_reducible apply w_addI | with_reducible apply w_di0 | ((with_reducible apply w_di); (first | exact ⟨by decide, by decide⟩ | exact ⟨by decide, by decide, by decide⟩ | (unfold CMul; omega) | (show (0 : Int) < _; omega) | (show (0 : Int) ≤ _; omega)))
  | ((with_reducible apply w_mul_i); (first | (unfold CMul; omega) | assumption)) | ((with_reducible apply w_mulI); (first | (unfold CMul; omega) | assumption)) | with_reducible apply w_un | with_reducible apply w_dU
  | ((with_reducible apply w_ix_t); (first | exact atI_0 | exact atI_1 | exact atI_2 | exact atI_3 | exact atI_last | assumption))
  | ((with_reducible apply w_ix_l); array_mem_dec; (first | exact atI_0 | exact atI_1 | exact atI_2 | exact atI_3 | exact atI_last | assumption))
  | with_reducible apply w_eq_i | with_reducible apply w_ne_i | with_reducible apply w_eq_ti | with_reducible apply w_ne_ti | with_reducible apply w_eq_ni | with_reducible apply w_ne_ni | with_reducible apply w_eq_in | with_reducible apply w_ne_in | with_reducible apply w_eq_nn | with_reducible apply w_ne_nn | with_reducible apply w_eq_b | with_reducible apply w_ne_b
  | ((with_reducible apply w_eq_li); array_mem_dec; array_mem_dec) | ((with_reducible apply w_ne_li); array_mem_dec; array_mem_dec)
  | with_reducible apply w_len_t | ((with_reducible apply w_len_l); array_mem_dec) | ((with_reducible apply w_len_d); array_mem_dec)
  | ((with_reducible apply w_sz); clean_wf) | with_reducible apply w_tup | with_reducible apply w_lst
  | with_reducible apply w_ml | with_reducible apply w_ml0 | ((with_reducible apply w_isl); array_mem_dec)
  | ((with_reducible apply w_append1); rfl; clean_wf) | ((with_reducible apply w_append); array_mem_dec; clean_wf) | ((with_reducible apply w_pop); array_mem_dec; clean_wf)
  | with_reducible apply w_tuple_t | ((with_reducible apply w_tuple_l); array_mem_dec) | with_reducible apply w_list_t | ((with_reducible apply w_list_l); array_mem_dec)
  | with_reducible apply w_slice | with_reducible apply w_nop | with_reducible apply w_prt | with_reducible apply w_prtK | with_reducible apply w_sl_t1 | with_reducible apply w_sl_t2 | with_reducible apply w_sl_tl | ((with_reducible apply w_sl_l1); array_mem_dec) | ((with_reducible apply w_sl_ll); array_mem_dec) | with_reducible apply w_sl_t | ((with_reducible apply w_sl_l); array_mem_dec)
  | ((with_reducible apply w_add_t1); clean_wf) | ((with_reducible apply w_add_t0); clean_wf) | ((with_reducible apply w_add_t); clean_wf) | ((with_reducible apply w_add_l); array_mem_dec; array_mem_dec; clean_wf)
  | with_reducible apply w_is_nf | with_reducible apply w_is_nt
  | with_reducible apply w_par | with_reducible apply w_parK | with_reducible apply w_par3 | with_reducible apply w_parK3
  | ((with_reducible apply w_aug); assumption; rfl)
  | with_reducible apply w_asgG | ((with_reducible apply w_wipeG); assumption; intro τ hs) | ((with_reducible apply w_gNm); assumption; (first | exact Nat.le_of_ble_eq_true rfl | omega); intro τ hs) | ((with_reducible apply w_gTup); rfl) | with_reducible apply w_gNil | with_reducible apply w_gCons | with_reducible apply w_gSub
  | with_reducible apply w_break | with_reducible apply w_cont | with_reducible apply w_retN | with_reducible apply w_nbk | with_reducible apply w_nct | with_reducible apply w_nex | with_reducible apply w_lbk | with_reducible apply w_lct | with_reducible apply w_lex | with_reducible apply w_xx | with_reducible apply w_xrt | with_reducible apply w_xbk | with_reducible apply w_xct | with_reducible apply w_xex | with_reducible apply w_gex | with_reducible apply w_raise | with_reducible apply w_try
  | with_reducible apply w_ife | with_reducible apply w_andV | with_reducible apply w_orV | with_reducible apply w_notV
  | ((with_reducible apply w_andVK); (first | exact tr_bl | exact tr_int | exact tr_non | exact tr_tup | (apply tr_lst; array_mem_dec) | (apply tr_dk; array_mem_dec)))
  | ((with_reducible apply w_orVK); (first | exact tr_bl | exact tr_int | exact tr_non | exact tr_tup | (apply tr_lst; array_mem_dec) | (apply tr_dk; array_mem_dec)))
  | ((with_reducible apply w_notVK); (first | exact tr_bl | exact tr_int | exact tr_non | exact tr_tup | (apply tr_lst; array_mem_dec) | (apply tr_dk; array_mem_dec)))
  | with_reducible apply w_chain | with_reducible apply w_chKt | with_reducible apply w_chKf | ((with_reducible apply w_chKp); (first | assumption | omega)) | ((with_reducible apply w_chKn); (first | assumption | omega)) | (with_reducible apply w_chKd <;> intro hc)
  | with_reducible apply w_bits | with_reducible apply w_bitK | with_reducible apply w_int_i | with_reducible apply w_max2 | with_reducible apply w_min2 | with_reducible apply w_abs
  | ((with_reducible apply w_sum); array_mem_dec) | ((with_reducible apply w_all); array_mem_dec) | ((with_reducible apply w_any); array_mem_dec) | ((with_reducible apply w_anyA_i); array_mem_dec) | ((with_reducible apply w_anyA_b); array_mem_dec)
  | with_reducible apply w_for | with_reducible apply w_iseq | with_reducible apply w_seqI_t | ((with_reducible apply w_seqI_l); array_mem_dec) | with_reducible apply w_iargs
  | ((with_reducible apply w_rng1); (constructor <;> omega)) | ((with_reducible apply w_rng2); (constructor <;> omega); (constructor <;> omega))
  | with_reducible apply w_irev | with_reducible apply w_rev_t | ((with_reducible apply w_rev_l); array_mem_dec) | with_reducible apply w_zip_t | ((with_reducible apply w_zip_l); array_mem_dec; array_mem_dec) | with_reducible apply w_izipr | ((with_reducible apply w_zr1); array_mem_dec) | with_reducible apply w_enum_t | ((with_reducible apply w_enum_l); array_mem_dec)
  | with_reducible apply w_dict | ((with_reducible apply w_ix_d); array_mem_dec; rfl; assumption) | ((with_reducible apply w_in_d); array_mem_dec; rfl) | ((with_reducible apply w_nin_d); array_mem_dec; rfl) | ((with_reducible apply w_set_d); array_mem_dec; rfl; clean_wf)
  | ((with_reducible apply w_take); array_mem_dec; (first | decide | omega); intro r hr0 hr1) | with_reducible apply w_spbits | with_reducible apply w_isnum_i | with_reducible apply w_isnum_b | with_reducible apply w_isnum_n | with_reducible apply w_isnum_t | with_reducible apply w_isnum_s | ((with_reducible apply w_keyX1); rfl; (first | assumption | (simp [keyB]; omega)))
  | with_reducible apply w_lamG | with_reducible apply w_lam | with_reducible apply w_lc | with_reducible apply w_lc2 | with_reducible apply w_gany | (with_reducible apply w_gat; array_mem_dec) | with_reducible apply w_lc0 | with_reducible apply w_lc1 | ((with_reducible apply w_lcK); array_mem_dec; clean_wf) | with_reducible apply w_li0 | with_reducible apply w_li1 | ((with_reducible apply w_liK); array_mem_dec; clean_wf) | with_reducible apply w_lo0 | with_reducible apply w_lo1 | with_reducible apply w_fnil | with_reducible apply w_fcons | with_reducible apply w_augS
  | (show ∀ p, _ = none → _; intro pp hpp)))
set_option hygiene false in
local macro_rules | `(tactic| decreasing_trivial) => `(tactic| ((repeat' (first | exact trivial | apply And.intro)) <;> (refine congrArg some (?_ : (_ : D) = _)) <;> (first | with_reducible rfl | (refine congrArg D.int ?_; (first | omega | (simp; omega) | (simp; done))) | (simp; done))))

abbrev cWy1 : TDT := (dB (dBin geD (dVar 1) (dBin ixA (dBin ixA (dVar 0) (dVar 2)) (dC (.int 0)))))
abbrev bWy1 : TDS := (dSeq (dAug 1 (dBin ixA (dBin ixA (dVar 0) (dVar 2)) (dC (.int 0))) subD) (dAug 2 (dC (.int 1)) addI))
abbrev cWy2 : TDT := (dTru (dVar 1))
abbrev bWy2 : TDS := (dSeq (dAug 3 (dC (.int 2)) fdivD) (dIfS (dB (dBin leD (dVar 1) (dVar 3))) (dSeq (dDrop (dML (chL fAppend) (dVar 4) (dCons (dC (.int 1)) dNil))) (dAug 1 (dC (.int 1)) subD)) (dSeq (dDrop (dML (chL fAppend) (dVar 4) (dCons (dC (.int 2)) dNil))) (dAug 1 (dBin addD (dVar 3) (dC (.int 1))) subD))))
theorem row_at (A : List (Nat × List Int)) (b : Nat × List Int) (B : List (Nat × List Int)) : atI ((A ++ b :: B).map rowE) (A.length : Int) = some (rowE b) := by
  rw [atI_nat (by simp)]; simp
theorem wy1_loop {N : DEn} {M : Mp} {n : Nat} (hn : 4 ≤ n) (L : List (Nat × List Int)) : ∀ (B A : List (Nat × List Int)) (q f : Nat) (τ : DSt), B.length < f → A ++ B = L → q < ((B.map (·.1)).map sz).sum → Sl n [(0, .tup (L.map rowE)), (1, .int (q : Int)), (2, .int (A.length : Int))] τ →
    (∀ (τ' : DSt) (A' : List (Nat × List Int)) (b : Nat × List Int) (B' : List (Nat × List Int)) (q' : Nat), L = A' ++ b :: B' → q' < sz b.1 → whichF (B.map (·.1)) q = (A'.length - A.length, q') → A.length ≤ A'.length → A.length * 0 + q + ((A.map (·.1)).map sz).sum = q' + ((A'.map (·.1)).map sz).sum → Sl n [(0, .tup (L.map rowE)), (1, .int (q' : Int)), (2, .int (A'.length : Int))] τ' → N.nx τ' M) →
    wWhile cWy1 bWy1 N f τ M
  | [], A, q, f, τ, _, _, hq, _, _ => absurd hq (by simp)
  | b :: B, A, q, 0, τ, hf, _, _, _, _ => absurd hf (by simp)
  | b :: B, A, q, f + 1, τ, hf, e, hq, hs, fin => by
    subst e
    have at0 := row_at A b B
    have ih := wy1_loop (N := N) (M := M) hn (A ++ b :: B) B (A ++ [b]) (q - sz b.1) f
    simp only [List.map_cons, List.sum_cons] at hq
    simp only [List.length_cons] at hf
    by_cases c : q < sz b.1
    · apply w_wstep
      unfold rowE at at0 hs
      sizeOf_list_dec
      refine fin _ A b B q rfl c (by rw [List.map_cons, whichF, if_pos c]; simp) (Nat.le_refl _) (by omega) hs
    · generalize hW : wWhile cWy1 bWy1 N f = W at ih
      apply w_wstep
      rw [hW]
      unfold rowE at at0 hs
      sizeOf_list_dec
      refine ih _ (by omega) (by simp) (by omega) (hs.sub (by unfold rowE; simp only [List.length_append, List.length_singleton]; decreasing_trivial)) fun τ' A' b' B' q' h1 h2 h3 h4 h5 h6 => fin τ' A' b' B' q' h1 h2 ?_ (by simp at h4; omega) (by simp at h5 ⊢; omega) h6
      simp only [List.length_append, List.length_singleton] at h3 h4
      rw [List.map_cons, whichF, if_neg c, h3]
      simp; omega
theorem wy2_loop {N : DEn} {M : Mp} {a : Addr} {n : Nat} {r x : D} (hn : 5 ≤ n) : ∀ (h q f : Nat) (acc : List D) (τ : DSt), h < f → q < sz h → h ≤ 8 → acc.length ≤ 100 - h → Sl n [(0, r), (1, .int (q : Int)), (2, x), (3, .int (sz h : Int)), (4, .ref a)] τ →
    (∀ τ', Sl n [(0, r), (2, x), (4, .ref a)] τ' → N.nx τ' (mup M a (.lst (acc ++ (wayF h q).map D.int)))) →
    wWhile cWy2 bWy2 N f τ (mup M a (.lst acc))
  | 0, q, f, acc, τ, _, hq, _, _, _, _ => absurd hq (by simp [sz])
  | h + 1, q, 0, acc, τ, hf, _, _, _, _, _ => absurd hf (by simp)
  | h + 1, q, f + 1, acc, τ, hf, hq, h8, ha, hs, fin => by
    have ih := fun q' acc' => wy2_loop (N := N) (M := M) (a := a) (r := r) (x := x) hn h q' f acc'
    rw [sz_succ] at hq hs
    by_cases c : q = 0
    · subst c
      apply w_wstep
      sizeOf_list_dec
      have := fin τ (hs.sub (by decreasing_trivial))
      simpa [wayF] using this
    · generalize hW : wWhile cWy2 bWy2 N f = W at ih
      have e2 : ((2 * sz h + 1 : Nat) : Int) / 2 = (sz h : Int) := by omega
      apply w_wstep
      rw [hW]
      by_cases c2 : q ≤ sz h
      · sizeOf_list_dec
        refine ih (q - 1) (acc ++ [.int 1]) _ (by omega) (by omega) (by omega) (by simp; omega) (hs.sub (by decreasing_trivial)) fun τ' hs' => ?_
        have := fin τ' hs'
        simpa [wayF, c, c2] using this
      · sizeOf_list_dec
        refine ih (q - (sz h + 1)) (acc ++ [.int 2]) _ (by omega) (by omega) (by omega) (by simp; omega) (hs.sub (by decreasing_trivial)) fun τ' hs' => ?_
        have := fin τ' hs'
        simpa [wayF, c, c2] using this
end DL

set_option Elab.async false
set_option linter.all false
set_option maxRecDepth 100000
set_option maxHeartbeats 1000000
namespace DL
open PySem PySem.Spec PyProof.Rows L2 SK
set_option hygiene false in
local macro_rules | `(tactic| array_mem_dec) => `(tactic| first | assumption | exact mup_same | (apply mup_keep; (assumption; done); array_mem_dec) | (apply mup_keep2; array_get_dec; array_mem_dec))
set_option hygiene false in
local macro_rules | `(tactic| array_get_dec) => `(tactic| first | assumption | (apply Ne.symm; assumption) | exact ne_by (by assumption) (by array_mem_dec) | exact Ne.symm (ne_by (by assumption) (by array_mem_dec)))
set_option hygiene false in
local macro_rules | `(tactic| clean_wf) => `(tactic| first | exact Nat.le_of_ble_eq_true rfl | omega | (simp; done) | (simp; omega))
set_option hygiene false in
local macro_rules | `(tactic| sizeOf_list_dec) => `(tactic| repeat' (first
  | ((with_reducible apply w_gen); assumption; (first | exact Nat.le_of_ble_eq_true rfl | omega); intro τ hs)
  | ((with_reducible apply w_gen2); assumption; (first | exact Nat.le_of_ble_eq_true rfl | omega); (first | exact Nat.le_of_ble_eq_true rfl | omega); intro τ hs) | ((with_reducible apply w_gen3); assumption; (first | exact Nat.le_of_ble_eq_true rfl | omega); (first | exact Nat.le_of_ble_eq_true rfl | omega); (first | exact Nat.le_of_ble_eq_true rfl | omega); intro τ hs) | ((with_reducible apply w_gen4); assumption; (first | exact Nat.le_of_ble_eq_true rfl | omega); (first | exact Nat.le_of_ble_eq_true rfl | omega); (first | exact Nat.le_of_ble_eq_true rfl | omega); (first | exact Nat.le_of_ble_eq_true rfl | omega); intro τ hs)
  | with_reducible apply w_seq | with_reducible apply w_asg | with_reducible apply w_nx | with_reducible apply w_nrt | with_reducible apply w_lx | with_reducible apply w_lrt | with_reducible apply w_grt | with_reducible apply w_gx | with_reducible apply w_bin
  | ((with_reducible apply w_var); assumption; rfl)
  | with_reducible apply w_c | with_reducible apply w_nil | with_reducible apply w_cons | with_reducible apply w_call | ((with_reducible apply w_ar); rfl) | with_reducible apply w_cb
  | with_reducible apply w_drop | with_reducible apply w_ret | with_reducible apply w_if | with_reducible apply w_next | with_reducible apply w_dB | with_reducible apply w_isB | with_reducible apply w_tru
  | ((with_reducible apply w_truK); (first | exact tr_bl | exact tr_int | exact tr_non | exact tr_tup | (apply tr_lst; array_mem_dec) | (apply tr_dk; array_mem_dec)))
  | with_reducible apply w_not | with_reducible apply w_and | with_reducible apply w_or | with_reducible apply w_yes
  | with_reducible apply w_itt | with_reducible apply w_itf | with_reducible apply w_ite0 | with_reducible apply w_itec | with_reducible apply w_iteS | (with_reducible apply w_ite <;> intro hc) | with_reducible apply w_itnot
  | ((with_reducible apply w_itp); (first | assumption | omega)) | ((with_reducible apply w_itn); (first | assumption | omega)) | (with_reducible apply w_itd <;> intro hc)
  | ((with_reducible apply w_itzp); (first | assumption | omega)) | ((with_reducible apply w_itzn); (first | assumption | omega)) | (with_reducible apply w_itz <;> intro hc)
  | ((with_reducible apply w_itbp); (first | assumption | rfl)) | ((with_reducible apply w_itbn); (first | assumption | rfl))
  | with_reducible apply w_add_i | with_reducible apply w_addI | with_reducible apply w_di0 | ((with_reducible apply w_di); (first | exact ⟨by decide, by decide⟩ | exact ⟨by decide, by decide, by decide⟩ | (unfold CMul; omega) | (show (0 : Int) < _; omega) | (show (0 : Int) ≤ _; omega)))
  | ((with_reducible apply w_mul_i); (first | (unfold CMul; omega) | assumption)) | ((with_reducible apply w_mulI); (first | (unfold CMul; omega) | assumption)) | with_reducible apply w_un | with_reducible apply w_dU
  | ((with_reducible apply w_ix_t); (first | exact atI_0 | exact atI_1 | exact atI_2 | exact atI_3 | exact atI_last | assumption))
  | ((with_reducible apply w_ix_l); array_mem_dec; (first | exact atI_0 | exact atI_1 | exact atI_2 | exact atI_3 | exact atI_last | assumption))
  | with_reducible apply w_eq_i | with_reducible apply w_ne_i | with_reducible apply w_eq_ti | with_reducible apply w_ne_ti | with_reducible apply w_eq_ni | with_reducible apply w_ne_ni | with_reducible apply w_eq_in | with_reducible apply w_ne_in | with_reducible apply w_eq_nn | with_reducible apply w_ne_nn | with_reducible apply w_eq_b | with_reducible apply w_ne_b
  | ((with_reducible apply w_eq_li); array_mem_dec; array_mem_dec) | ((with_reducible apply w_ne_li); array_mem_dec; array_mem_dec)
  | with_reducible apply w_len_t | ((with_reducible apply w_len_l); array_mem_dec) | ((with_reducible apply w_len_d); array_mem_dec)
  | ((with_reducible apply w_sz); clean_wf) | with_reducible apply w_tup | with_reducible apply w_lst
  | with_reducible apply w_ml | with_reducible apply w_ml0 | ((with_reducible apply w_isl); array_mem_dec)
  | ((with_reducible apply w_append1); rfl; clean_wf) | ((with_reducible apply w_append); array_mem_dec; clean_wf) | ((with_reducible apply w_pop); array_mem_dec; clean_wf)
  | with_reducible apply w_tuple_t | ((with_reducible apply w_tuple_l); array_mem_dec) | with_reducible apply w_list_t | ((with_reducible apply w_list_l); array_mem_dec)
  | with_reducible apply w_slice | with_reducible apply w_nop | with_reducible apply w_prt | with_reducible apply w_prtK | with_reducible apply w_sl_t1 | with_reducible apply w_sl_t2 | with_reducible apply w_sl_tl | ((with_reducible apply w_sl_l1); array_mem_dec) | ((with_reducible apply w_sl_ll); array_mem_dec) | with_reducible apply w_sl_t | ((with_reducible apply w_sl_l); array_mem_dec)
  | ((with_reducible apply w_add_t1); clean_wf) | ((with_reducible apply w_add_t0); clean_wf) | ((with_reducible apply w_add_t); clean_wf) | ((with_reducible apply w_add_l); array_mem_dec; array_mem_dec; clean_wf)
  | with_reducible apply w_is_nf | with_reducible apply w_is_nt
  | with_reducible apply w_par | with_reducible apply w_parK | with_reducible apply w_par3 | with_reducible apply w_parK3
  | ((with_reducible apply w_aug); assumption; rfl)
  | with_reducible apply w_asgG | ((with_reducible apply w_wipeG); assumption; intro τ hs) | ((with_reducible apply w_gNm); assumption; (first | exact Nat.le_of_ble_eq_true rfl | omega); intro τ hs) | ((with_reducible apply w_gTup); rfl) | with_reducible apply w_gNil | with_reducible apply w_gCons | with_reducible apply w_gSub
  | with_reducible apply w_break | with_reducible apply w_cont | with_reducible apply w_retN | with_reducible apply w_nbk | with_reducible apply w_nct | with_reducible apply w_nex | with_reducible apply w_lbk | with_reducible apply w_lct | with_reducible apply w_lex | with_reducible apply w_xx | with_reducible apply w_xrt | with_reducible apply w_xbk | with_reducible apply w_xct | with_reducible apply w_xex | with_reducible apply w_gex | with_reducible apply w_raise | with_reducible apply w_try
  | with_reducible apply w_ife | with_reducible apply w_andV | with_reducible apply w_orV | with_reducible apply w_notV
  | ((with_reducible apply w_andVK); (first | exact tr_bl | exact tr_int | exact tr_non | exact tr_tup | (apply tr_lst; array_mem_dec) | (apply tr_dk; array_mem_dec)))
  | ((with_reducible apply w_orVK); (first | exact tr_bl | exact tr_int | exact tr_non | exact tr_tup | (apply tr_lst; array_mem_dec) | (apply tr_dk; array_mem_dec)))
  | ((with_reducible apply w_notVK); (first | exact tr_bl | exact tr_int | exact tr_non | exact tr_tup | (apply tr_lst; array_mem_dec) | (apply tr_dk; array_mem_dec)))
  | with_reducible apply w_chain | with_reducible apply w_chKt | with_reducible apply w_chKf | ((with_reducible apply w_chKp); (first | assumption | omega)) | ((with_reducible apply w_chKn); (first | assumption | omega)) | (with_reducible apply w_chKd <;> intro hc)
  | with_reducible apply w_bits | with_reducible apply w_bitK | with_reducible apply w_int_i | with_reducible apply w_max2 | with_reducible apply w_min2 | with_reducible apply w_abs
  | ((with_reducible apply w_sum); array_mem_dec) | ((with_reducible apply w_all); array_mem_dec) | ((with_reducible apply w_any); array_mem_dec) | ((with_reducible apply w_anyA_i); array_mem_dec) | ((with_reducible apply w_anyA_b); array_mem_dec)
  | with_reducible apply w_for | with_reducible apply w_iseq | with_reducible apply w_seqI_t | ((with_reducible apply w_seqI_l); array_mem_dec) | with_reducible apply w_iargs
  | ((with_reducible apply w_rng1); (constructor <;> omega)) | ((with_reducible apply w_rng2); (constructor <;> omega); (constructor <;> omega))
  | with_reducible apply w_irev | with_reducible apply w_rev_t | ((with_reducible apply w_rev_l); array_mem_dec) | with_reducible apply w_zip_t | ((with_reducible apply w_zip_l); array_mem_dec; array_mem_dec) | with_reducible apply w_izipr | ((with_reducible apply w_zr1); array_mem_dec) | with_reducible apply w_enum_t | ((with_reducible apply w_enum_l); array_mem_dec)
  | with_reducible apply w_dict | ((with_reducible apply w_ix_d); array_mem_dec; rfl; assumption) | ((with_reducible apply w_in_d); array_mem_dec; rfl) | ((with_reducible apply w_nin_d); array_mem_dec; rfl) | ((with_reducible apply w_set_d); array_mem_dec; rfl; clean_wf)
  | ((with_reducible apply w_take); array_mem_dec; (first | decide | omega); intro r hr0 hr1) | with_reducible apply w_spbits | with_reducible apply w_isnum_i | with_reducible apply w_isnum_b | with_reducible apply w_isnum_n | with_reducible apply w_isnum_t | with_reducible apply w_isnum_s | ((with_reducible apply w_keyX1); rfl; (first | assumption | (simp [keyB]; omega)))
  | with_reducible apply w_lamG | with_reducible apply w_lam | with_reducible apply w_lc | with_reducible apply w_lc2 | with_reducible apply w_gany | (with_reducible apply w_gat; array_mem_dec) | with_reducible apply w_lc0 | with_reducible apply w_lc1 | ((with_reducible apply w_lcK); array_mem_dec; clean_wf) | with_reducible apply w_li0 | with_reducible apply w_li1 | ((with_reducible apply w_liK); array_mem_dec; clean_wf) | with_reducible apply w_lo0 | with_reducible apply w_lo1 | with_reducible apply w_fnil | with_reducible apply w_fcons | with_reducible apply w_augS
  | (show ∀ p, _ = none → _; intro pp hpp)))
set_option hygiene false in
local macro_rules | `(tactic| decreasing_trivial) => `(tactic| ((repeat' (first | exact trivial | apply And.intro)) <;> (refine congrArg some (?_ : (_ : D) = _)) <;> (first | with_reducible rfl | (refine congrArg D.int ?_; (first | omega | (simp; omega) | (simp; done))) | (simp; done))))

namespace SK
def badP (n : Nat) (d : D) : Prop := (∃ i : Int, d = .int i ∧ (i < 0 ∨ (n : Int) ≤ i)) ∨ ∃ b, d = .bl b
/-- where a place is -/
structure At (n : Nat) (ks : List Int) (p : Nat) (A : List (Nat × List Int)) (b : Nat × List Int) (B : List (Nat × List Int)) (q : Nat) : Prop where
  e : cut (hts n) ks = A ++ b :: B
  lt : q < sz b.1
  w : whichF (hts n) p = (A.length, q)
  s : p = q + ((A.map (·.1)).map sz).sum
end SK
def sp_skway : DSp := fun ds M Q E => ∃ (n : Nat) (ks : List Int) (d : D), ds = [.tup (encR (hts n) ks), d] ∧ n < 64 ∧ ((∃ p : Nat, d = .int (p : Int) ∧ p < n ∧ ∀ a A b B q, M a = none → At n ks p A b B q → Q (.tup [.int (A.length : Int), .ref a]) (mup M a (.lst ((wayF b.1 q).map .int)))) ∨ (badP n d ∧ E "RowError" "code" (.str "place") M))
theorem w_sklen {n : Nat} {ks : List Int} {M : Mp} {Q : DQ} {E : DX} (hn : n < 64) (h : Q (.int (n : Int)) M) : sp_sklen [.tup (encR (hts n) ks)] M Q E := ⟨n, ks, rfl, hn, h⟩
theorem sem_skway (ds M Q E) (hl : ds.length = 2) (h : sp_skway ds M Q E) : X.skews.t_way_in sp_is_number sp_sklen (dEndsG Q E) (dstart 5 ds) M := by
  obtain ⟨n, ks, d, rfl, hn, h⟩ := h
  have H := ht_of hn
  unfold X.skews.t_way_in
  refine w_gN (w_start2 (by decide) fun τ hs => ?_)
  rcases h with ⟨p, rfl, hp, h⟩ | ⟨⟨i, rfl, hi⟩ | ⟨b, rfl⟩, h⟩
  · sizeOf_list_dec
    refine w_sklen hn ?_
    sizeOf_list_dec
    have e0 : ((cut (hts n) ks).map (·.1)) = hts n := cut_fst _ _
    refine w_while ((cut (hts n) ks).length + 1) ?_
    rw [encR_cut] at hs
    refine wy1_loop (by decide) (cut (hts n) ks) (cut (hts n) ks) [] p _ _ (by omega) rfl (by rw [e0, H.sum]; exact hp) (hs.sub (by decreasing_trivial)) fun τ2 A b B q h1 h2 h3 h4 h5 hs2 => ?_
    have at0 := row_at A b B
    unfold rowE at at0
    rw [h1] at hs2
    unfold rowE at hs2
    sizeOf_list_dec
    have hb : b.1 ≤ 6 := by
      have : b.1 ∈ hts n := by
        rw [← e0, h1]; simp
      exact (H.b _ this).2
    refine w_while (b.1 + 1) ?_
    have := wy2_loop (N := nN (gN Q E) (dRet (dTup (dCons (dVar 2) (dCons (dVar 4) dNil))) (gN Q E))) (M := M) (a := pp) (r := .tup (A ++ b :: B |>.map rowE)) (x := .int (A.length : Int)) (n := 5) (by decide) b.1 q (b.1 + 1) [] τ (by omega) h2 (by omega) (by simp) (hs.sub (by unfold rowE; decreasing_trivial)) fun τ4 hs4 => ?_
    · exact this
    · sizeOf_list_dec
      exact gcQ.same (h _ A b B q hpp ⟨h1, h2, by rw [← e0, h3]; simp, by simpa using h5⟩)
  · sizeOf_list_dec
    · refine w_sklen hn ?_
      sizeOf_list_dec
      exact ⟨_, (MLe.refl M).sub, h⟩
    · exact ⟨_, (MLe.refl M).sub, h⟩
  · sizeOf_list_dec
    exact ⟨_, (MLe.refl M).sub, h⟩
end DL

set_option Elab.async false
set_option linter.all false
set_option maxRecDepth 100000
set_option maxHeartbeats 1000000
namespace DL
open PySem PySem.Spec PyProof.Rows L2 SK
set_option hygiene false in
local macro_rules | `(tactic| array_mem_dec) => `(tactic| first | assumption | exact mup_same | (apply mup_keep; (assumption; done); array_mem_dec) | (apply mup_keep2; array_get_dec; array_mem_dec))
set_option hygiene false in
local macro_rules | `(tactic| array_get_dec) => `(tactic| first | assumption | (apply Ne.symm; assumption) | exact ne_by (by assumption) (by array_mem_dec) | exact Ne.symm (ne_by (by assumption) (by array_mem_dec)))
set_option hygiene false in
local macro_rules | `(tactic| clean_wf) => `(tactic| first | exact Nat.le_of_ble_eq_true rfl | omega | (simp; done) | (simp; omega))
set_option hygiene false in
local macro_rules | `(tactic| sizeOf_list_dec) => `(tactic| repeat' (first
  | ((with_reducible apply w_gen); assumption; (first | exact Nat.le_of_ble_eq_true rfl | omega); intro τ hs)
  | ((with_reducible apply w_gen2); assumption; (first | exact Nat.le_of_ble_eq_true rfl | omega); (first | exact Nat.le_of_ble_eq_true rfl | omega); intro τ hs) | ((with_reducible apply w_gen3); assumption; (first | exact Nat.le_of_ble_eq_true rfl | omega); (first | exact Nat.le_of_ble_eq_true rfl | omega); (first | exact Nat.le_of_ble_eq_true rfl | omega); intro τ hs) | ((with_reducible apply w_gen4); assumption; (first | exact Nat.le_of_ble_eq_true rfl | omega); (first | exact Nat.le_of_ble_eq_true rfl | omega); (first | exact Nat.le_of_ble_eq_true rfl | omega); (first | exact Nat.le_of_ble_eq_true rfl | omega); intro τ hs)
  | with_reducible apply w_seq | with_reducible apply w_asg | with_reducible apply w_nx | with_reducible apply w_nrt | with_reducible apply w_lx | with_reducible apply w_lrt | with_reducible apply w_grt | with_reducible apply w_gx | with_reducible apply w_bin
  | ((with_reducible apply w_var); assumption; rfl)
  | with_reducible apply w_c | with_reducible apply w_nil | with_reducible apply w_cons | with_reducible apply w_call | ((with_reducible apply w_ar); rfl) | with_reducible apply w_cb
  | with_reducible apply w_drop | with_reducible apply w_ret | with_reducible apply w_if | with_reducible apply w_next | with_reducible apply w_dB | with_reducible apply w_isB | with_reducible apply w_tru
  | ((with_reducible apply w_truK); (first | exact tr_bl | exact tr_int | exact tr_non | exact tr_tup | (apply tr_lst; array_mem_dec) | (apply tr_dk; array_mem_dec)))
  | with_reducible apply w_not | with_reducible apply w_and | with_reducible apply w_or | with_reducible apply w_yes
  | with_reducible apply w_itt | with_reducible apply w_itf | with_reducible apply w_ite0 | with_reducible apply w_itec | with_reducible apply w_iteS | (with_reducible apply w_ite <;> intro hc) | with_reducible apply w_itnot
  | ((with_reducible apply w_itp); (first | assumption | omega)) | ((with_reducible apply w_itn); (first | assumption | omega)) | (with_reducible apply w_itd <;> intro hc)
  | ((with_reducible apply w_itzp); (first | assumption | omega)) | ((with_reducible apply w_itzn); (first | assumption | omega)) | (with_reducible apply w_itz <;> intro hc)
  | ((with_reducible apply w_itbp); (first | assumption | rfl)) | ((with_reducible apply w_itbn); (first | assumption | rfl))
  | with_reducible apply w_add_i | with_reducible apply w_addI | with_reducible apply w_di0 | ((with_reducible apply w_di); (first | exact ⟨by decide, by decide⟩ | exact ⟨by decide, by decide, by decide⟩ | (unfold CMul; omega) | (show (0 : Int) < _; omega) | (show (0 : Int) ≤ _; omega)))
  | ((with_reducible apply w_mul_i); (first | (unfold CMul; omega) | assumption)) | ((with_reducible apply w_mulI); (first | (unfold CMul; omega) | assumption)) | with_reducible apply w_un | with_reducible apply w_dU
  | ((with_reducible apply w_ix_t); (first | exact atI_0 | exact atI_1 | exact atI_2 | exact atI_3 | exact atI_last | assumption))
  | ((with_reducible apply w_ix_l); array_mem_dec; (first | exact atI_0 | exact atI_1 | exact atI_2 | exact atI_3 | exact atI_last | assumption))
  | with_reducible apply w_eq_i | with_reducible apply w_ne_i | with_reducible apply w_eq_ti | with_reducible apply w_ne_ti | with_reducible apply w_eq_ni | with_reducible apply w_ne_ni | with_reducible apply w_eq_in | with_reducible apply w_ne_in | with_reducible apply w_eq_nn | with_reducible apply w_ne_nn | with_reducible apply w_eq_b | with_reducible apply w_ne_b
  | ((with_reducible apply w_eq_li); array_mem_dec; array_mem_dec) | ((with_reducible apply w_ne_li); array_mem_dec; array_mem_dec)
  | with_reducible apply w_len_t | ((with_reducible apply w_len_l); array_mem_dec) | ((with_reducible apply w_len_d); array_mem_dec)
  | ((with_reducible apply w_sz); clean_wf) | with_reducible apply w_tup | with_reducible apply w_lst
  | with_reducible apply w_ml | with_reducible apply w_ml0 | ((with_reducible apply w_isl); array_mem_dec)
  | ((with_reducible apply w_append1); rfl; clean_wf) | ((with_reducible apply w_append); array_mem_dec; clean_wf) | ((with_reducible apply w_pop); array_mem_dec; clean_wf)
  | with_reducible apply w_tuple_t | ((with_reducible apply w_tuple_l); array_mem_dec) | with_reducible apply w_list_t | ((with_reducible apply w_list_l); array_mem_dec)
  | with_reducible apply w_slice | with_reducible apply w_nop | with_reducible apply w_prt | with_reducible apply w_prtK | with_reducible apply w_sl_t1 | with_reducible apply w_sl_t2 | with_reducible apply w_sl_tl | ((with_reducible apply w_sl_l1); array_mem_dec) | ((with_reducible apply w_sl_ll); array_mem_dec) | with_reducible apply w_sl_t | ((with_reducible apply w_sl_l); array_mem_dec)
  | ((with_reducible apply w_add_t1); clean_wf) | ((with_reducible apply w_add_t0); clean_wf) | ((with_reducible apply w_add_t); clean_wf) | ((with_reducible apply w_add_l); array_mem_dec; array_mem_dec; clean_wf)
  | with_reducible apply w_is_nf | with_reducible apply w_is_nt
  | with_reducible apply w_par | with_reducible apply w_parK | with_reducible apply w_par3 | with_reducible apply w_parK3
  | ((with_reducible apply w_aug); assumption; rfl)
  | with_reducible apply w_asgG | ((with_reducible apply w_wipeG); assumption; intro τ hs) | ((with_reducible apply w_gNm); assumption; (first | exact Nat.le_of_ble_eq_true rfl | omega); intro τ hs) | ((with_reducible apply w_gTup); rfl) | with_reducible apply w_gNil | with_reducible apply w_gCons | with_reducible apply w_gSub
  | with_reducible apply w_break | with_reducible apply w_cont | with_reducible apply w_retN | with_reducible apply w_nbk | with_reducible apply w_nct | with_reducible apply w_nex | with_reducible apply w_lbk | with_reducible apply w_lct | with_reducible apply w_lex | with_reducible apply w_xx | with_reducible apply w_xrt | with_reducible apply w_xbk | with_reducible apply w_xct | with_reducible apply w_xex | with_reducible apply w_gex | with_reducible apply w_raise | with_reducible apply w_try
  | with_reducible apply w_ife | with_reducible apply w_andV | with_reducible apply w_orV | with_reducible apply w_notV
  | ((with_reducible apply w_andVK); (first | exact tr_bl | exact tr_int | exact tr_non | exact tr_tup | (apply tr_lst; array_mem_dec) | (apply tr_dk; array_mem_dec)))
  | ((with_reducible apply w_orVK); (first | exact tr_bl | exact tr_int | exact tr_non | exact tr_tup | (apply tr_lst; array_mem_dec) | (apply tr_dk; array_mem_dec)))
  | ((with_reducible apply w_notVK); (first | exact tr_bl | exact tr_int | exact tr_non | exact tr_tup | (apply tr_lst; array_mem_dec) | (apply tr_dk; array_mem_dec)))
  | with_reducible apply w_chain | with_reducible apply w_chKt | with_reducible apply w_chKf | ((with_reducible apply w_chKp); (first | assumption | omega)) | ((with_reducible apply w_chKn); (first | assumption | omega)) | (with_reducible apply w_chKd <;> intro hc)
  | with_reducible apply w_bits | with_reducible apply w_bitK | with_reducible apply w_int_i | with_reducible apply w_max2 | with_reducible apply w_min2 | with_reducible apply w_abs
  | ((with_reducible apply w_sum); array_mem_dec) | ((with_reducible apply w_all); array_mem_dec) | ((with_reducible apply w_any); array_mem_dec) | ((with_reducible apply w_anyA_i); array_mem_dec) | ((with_reducible apply w_anyA_b); array_mem_dec)
  | with_reducible apply w_for | with_reducible apply w_iseq | with_reducible apply w_seqI_t | ((with_reducible apply w_seqI_l); array_mem_dec) | with_reducible apply w_iargs
  | ((with_reducible apply w_rng1); (constructor <;> omega)) | ((with_reducible apply w_rng2); (constructor <;> omega); (constructor <;> omega))
  | with_reducible apply w_irev | with_reducible apply w_rev_t | ((with_reducible apply w_rev_l); array_mem_dec) | with_reducible apply w_zip_t | ((with_reducible apply w_zip_l); array_mem_dec; array_mem_dec) | with_reducible apply w_izipr | ((with_reducible apply w_zr1); array_mem_dec) | with_reducible apply w_enum_t | ((with_reducible apply w_enum_l); array_mem_dec)
  | with_reducible apply w_dict | ((with_reducible apply w_ix_d); array_mem_dec; rfl; assumption) | ((with_reducible apply w_in_d); array_mem_dec; rfl) | ((with_reducible apply w_nin_d); array_mem_dec; rfl) | ((with_reducible apply w_set_d); array_mem_dec; rfl; clean_wf)
  | ((with_reducible apply w_take); array_mem_dec; (first | decide | omega); intro r hr0 hr1) | with_reducible apply w_spbits | with_reducible apply w_isnum_i | with_reducible apply w_isnum_b | with_reducible apply w_isnum_n | with_reducible apply w_isnum_t | with_reducible apply w_isnum_s | ((with_reducible apply w_keyX1); rfl; (first | assumption | (simp [keyB]; omega)))
  | with_reducible apply w_lamG | with_reducible apply w_lam | with_reducible apply w_lc | with_reducible apply w_lc2 | with_reducible apply w_gany | (with_reducible apply w_gat; array_mem_dec) | with_reducible apply w_lc0 | with_reducible apply w_lc1 | ((with_reducible apply w_lcK); array_mem_dec; clean_wf) | with_reducible apply w_li0 | with_reducible apply w_li1 | ((with_reducible apply w_liK); array_mem_dec; clean_wf) | with_reducible apply w_lo0 | with_reducible apply w_lo1 | with_reducible apply w_fnil | with_reducible apply w_fcons | with_reducible apply w_augS
  | (show ∀ p, _ = none → _; intro pp hpp)))
set_option hygiene false in
local macro_rules | `(tactic| decreasing_trivial) => `(tactic| ((repeat' (first | exact trivial | apply And.intro)) <;> (refine congrArg some (?_ : (_ : D) = _)) <;> (first | with_reducible rfl | (refine congrArg D.int ?_; (first | omega | (simp; omega) | (simp; done))) | (simp; done))))

namespace SK
def lookB (n p : Nat) : Bool :=
  let w := whichF (hts n) p
  let l := (wayF ((hts n).getD w.1 0) w.2).length
  decide (w.1 + 1 + l ≤ 2 * Builtin.Int.intBits ((n + 1 : Nat) : Int)) && decide (1 + l ≤ Builtin.Int.intBits (n : Int)) && decide (l ≤ 8)
theorem look_all : ∀ n, n < 62 → ∀ p, p < n → lookB n p = true := by decide +kernel
structure LookOk (n l i : Nat) : Prop where
  a : i + 1 + l ≤ 2 * Builtin.Int.intBits ((n : Int) + 1)
  b : l + 1 ≤ Builtin.Int.intBits (n : Int)
  c : l ≤ 8
theorem At.look {n p q : Nat} {ks : List Int} {A B : List (Nat × List Int)} {b : Nat × List Int} (h : At n ks p A b B q) (hn : n < 62) (hp : p < n) : LookOk n (wayF b.1 q).length A.length := by
  have e := look_all n hn p hp
  have e0 := cut_fst (hts n) ks
  rw [h.e] at e0
  have e1 : (hts n).getD A.length 0 = b.1 := by rw [← e0]; simp
  unfold lookB at e
  simp only [h.w, e1, Bool.and_eq_true, decide_eq_true_eq] at e
  exact ⟨by have := e.1.1; rw [show ((n : Int) + 1) = ((n + 1 : Nat) : Int) by omega]; omega, by have := e.1.2; omega, e.2⟩
/-- a row's part -/
theorem cut_long : ∀ (hs : List Nat) (ks : List Int), (hs.map sz).sum ≤ ks.length → ∀ x ∈ cut hs ks, sz x.1 ≤ x.2.length
  | [], _, _, x, hx => by simp [cut] at hx
  | h :: hs, ks, hl, x, hx => by
    simp only [List.map_cons, List.sum_cons] at hl
    rw [cut] at hx
    rcases List.mem_cons.mp hx with rfl | hx
    · show sz h ≤ ks.length; omega
    · exact cut_long hs _ (by simp; omega) x hx
theorem cut_at : ∀ (hs : List Nat) (ks : List Int) (A : List (Nat × List Int)) (b : Nat × List Int) (B : List (Nat × List Int)) (q : Nat), cut hs ks = A ++ b :: B → b.2[q]? = ks[q + ((A.map (·.1)).map sz).sum]?
  | [], ks, A, b, B, q, e => by simp [cut] at e
  | h :: hs, ks, [], b, B, q, e => by
    rw [cut] at e
    injection e with e1 e2
    subst e1
    simp
  | h :: hs, ks, a :: A, b, B, q, e => by
    rw [cut] at e
    injection e with e1 e2
    subst e1
    rw [cut_at hs _ A b B q e2, List.getElem?_drop]
    simp only [List.map_cons, List.sum_cons]
    congr 1; omega
theorem At.get {n p q : Nat} {ks : List Int} {A B : List (Nat × List Int)} {b : Nat × List Int} (h : At n ks p A b B q) : b.2[q]? = ks[p]? := by
  rw [cut_at _ _ A b B q h.e, h.s]
theorem mk_set_ge (x : Int) : ∀ (h : Nat) (ks : List Int) (i : Nat), sz h ≤ i → mk h (ks.set i x) = mk h ks
  | 0, ks, i, _ => rfl
  | h + 1, [], i, _ => by simp
  | h + 1, k :: ks, 0, hi => by rw [sz_succ] at hi; omega
  | h + 1, k :: ks, i + 1, hi => by
    rw [sz_succ] at hi
    rw [List.set_cons_succ, mk, mk, mk_set_ge x h ks i (by omega), List.drop_set, if_neg (by omega), mk_set_ge x h _ (i - sz h) (by omega)]
theorem row_set (x : Int) : ∀ (hs : List Nat) (ks : List Int) (A : List (Nat × List Int)) (b : Nat × List Int) (B : List (Nat × List Int)) (q : Nat), cut hs ks = A ++ b :: B → q < sz b.1 → encR hs (ks.set (q + ((A.map (·.1)).map sz).sum) x) = A.map rowE ++ rowE (b.1, b.2.set q x) :: B.map rowE
  | [], ks, A, b, B, q, e, _ => by simp [cut] at e
  | h :: hs, ks, [], b, B, q, e, hq => by
    rw [cut] at e
    injection e with e1 e2
    subst e1
    simp only [List.map_nil, List.sum_nil, Nat.add_zero, List.nil_append]
    rw [encR, ← e2, ← encR_cut, List.drop_set, if_pos (by exact hq)]
    rfl
  | h :: hs, ks, a :: A, b, B, q, e, hq => by
    rw [cut] at e
    injection e with e1 e2
    subst e1
    have ih := row_set x hs _ A b B q e2 hq
    simp only [List.map_cons, List.sum_cons, List.cons_append]
    rw [encR, mk_set_ge x h ks _ (by omega), List.drop_set, if_neg (by omega), show q + (sz h + ((A.map (·.1)).map sz).sum) - sz h = q + ((A.map (·.1)).map sz).sum by omega, ih]
    rfl
/-- the nodes of a way -/
def pth : Nat → Nat → List Int → List PT
  | 0, _, _ => []
  | _ + 1, _, [] => []
  | h + 1, q, k :: ks => mk (h + 1) (k :: ks) :: (if q = 0 then [] else if q ≤ sz h then pth h (q - 1) ks else pth h (q - (sz h + 1)) (ks.drop (sz h)))
/-- the last one's sides -/
def bot : Nat → Nat → List Int → D × D
  | 0, _, _ => (.non, .non)
  | _ + 1, _, [] => (.non, .non)
  | h + 1, q, k :: ks => if q = 0 then ((mk h ks).enc, (mk h (ks.drop (sz h))).enc) else if q ≤ sz h then bot h (q - 1) ks else bot h (q - (sz h + 1)) (ks.drop (sz h))
/-- nodes above with the side that was gone, from behind -/
def zr : Nat → Nat → List Int → List D
  | 0, _, _ => []
  | _ + 1, _, [] => []
  | h + 1, q, k :: ks => if q = 0 then [] else if q ≤ sz h then zr h (q - 1) ks ++ [.tup [(mk (h + 1) (k :: ks)).enc, .int 1]] else zr h (q - (sz h + 1)) (ks.drop (sz h)) ++ [.tup [(mk (h + 1) (k :: ks)).enc, .int 2]]
theorem pth_len : ∀ (h q : Nat) (ks : List Int), q < sz h → sz h ≤ ks.length → (pth h q ks).length = (wayF h q).length + 1
  | 0, q, ks, hq, _ => absurd hq (by simp [sz])
  | h + 1, q, [], hq, hl => by rw [sz_succ] at hl; simp at hl
  | h + 1, q, k :: ks, hq, hl => by
    rw [sz_succ] at hq hl
    simp only [List.length_cons] at hl
    rw [pth, wayF]
    by_cases c : q = 0
    · simp [c]
    · by_cases c2 : q ≤ sz h
      · simp [c, c2, pth_len h (q - 1) ks (by omega) (by omega)]
      · simp [c, c2, pth_len h (q - (sz h + 1)) (ks.drop (sz h)) (by omega) (by simp; omega)]
theorem zip_snoc : ∀ (xs ys : List D) (x y : D), xs.length = ys.length → zipL (xs ++ [x]) (ys ++ [y]) = zipL xs ys ++ [.tup [x, y]]
  | [], [], x, y, _ => rfl
  | [], _ :: _, _, _, h => by simp at h
  | _ :: _, [], _, _, h => by simp at h
  | a :: xs, b :: ys, x, y, h => by
    rw [List.cons_append, List.cons_append, zipL, zip_snoc xs ys x y (by simpa using h), zipL]; rfl
theorem zr_zip : ∀ (h q : Nat) (ks : List Int), q < sz h → sz h ≤ ks.length → zipL (((pth h q ks).map PT.enc).dropLast.reverse) (((wayF h q).map D.int).reverse) = zr h q ks
  | 0, q, ks, hq, _ => absurd hq (by simp [sz])
  | h + 1, q, [], hq, hl => by rw [sz_succ] at hl; simp at hl
  | h + 1, q, k :: ks, hq, hl => by
    rw [sz_succ] at hq hl
    simp only [List.length_cons] at hl
    have dl : ∀ (x : PT) (l : List PT), l.length ≠ 0 → (List.map PT.enc (x :: l)).dropLast = x.enc :: (l.map PT.enc).dropLast := by
      intro x l hl
      cases l with
      | nil => exact absurd rfl hl
      | cons y l => simp
    rw [pth, wayF, zr]
    by_cases c : q = 0
    · simp [c, zipL]
    · by_cases c2 : q ≤ sz h
      · have l1 := pth_len h (q - 1) ks (by omega) (by omega)
        rw [if_neg c, if_pos c2, if_neg c, if_pos c2, if_neg c, if_pos c2, dl _ _ (by omega), List.map_cons, List.reverse_cons, List.reverse_cons, zip_snoc _ _ _ _ (by simp [l1]), zr_zip h (q - 1) ks (by omega) (by omega)]
      · have l1 := pth_len h (q - (sz h + 1)) (ks.drop (sz h)) (by omega) (by simp; omega)
        rw [if_neg c, if_neg c2, if_neg c, if_neg c2, if_neg c, if_neg c2, dl _ _ (by omega), List.map_cons, List.reverse_cons, List.reverse_cons, zip_snoc _ _ _ _ (by simp [l1]), zr_zip h (q - (sz h + 1)) (ks.drop (sz h)) (by omega) (by simp; omega)]
end SK
def sp_skkey : DSp := fun ds M Q E => ∃ (n : Nat) (ks : List Int) (d : D), ds = [.tup (encR (hts n) ks), d] ∧ n < 62 ∧ ks.length = n ∧ ((∃ p : Nat, d = .int (p : Int) ∧ p < n ∧ ∀ (x : Int) (l : Nat), ks[p]? = some x → l ≤ 2 * Builtin.Int.intBits ((n : Int) + 1) → Q (.tup [.int x, .int (l : Int)]) M) ∨ (badP n d ∧ E "RowError" "code" (.str "place") M))
abbrev bKf : TDS := (dAsg (dBin ixA (dVar 4) (dVar 5)) (dgName 4))
theorem kf_loop {N : DEn} {M : Mp} {a : Addr} {W : List D} {v : D} (hg : M a = some (.lst W)) : ∀ (h q : Nat) (ks : List Int) (τ : DSt), q < sz h → sz h ≤ ks.length → Sl 6 [(2, v), (3, .ref a), (4, (mk h ks).enc)] τ →
    (∀ τ' x t u, ks[q]? = some x → Sl 6 [(2, v), (3, .ref a), (4, .tup [.int x, t, u])] τ' → N.nx τ' M) → wFor (isAt a W) (dgName 5) bKf N ((wayF h q).map D.int) τ M
  | 0, q, ks, τ, hq, _, _, _ => absurd hq (by simp [sz])
  | h + 1, q, [], τ, hq, hl, _, _ => by rw [sz_succ] at hl; simp at hl
  | h + 1, q, k :: ks, τ, hq, hl, hs, fin => by
    rw [sz_succ] at hq hl
    simp only [List.length_cons] at hl
    have ih := fun q' ks' => kf_loop (N := N) (M := M) (v := v) hg h q' ks'
    rw [wayF]
    by_cases c : q = 0
    · subst c
      exact ⟨hg, fin τ k _ _ rfl hs⟩
    · rw [if_neg c]
      by_cases c2 : q ≤ sz h
      · rw [if_pos c2, List.map_cons]
        generalize hL : List.map D.int (wayF h (q - 1)) = L
        rw [mk, PT.enc] at hs
        apply w_fcons hg
        sizeOf_list_dec
        rw [← hL]
        refine ih (q - 1) ks _ (by omega) (by omega) (hs.sub (by decreasing_trivial)) fun τ' x t u e hs' => fin τ' x t u ?_ hs'
        rw [show q = (q - 1) + 1 by omega]; exact e
      · rw [if_neg c2, List.map_cons]
        generalize hL : List.map D.int (wayF h (q - (sz h + 1))) = L
        rw [mk, PT.enc] at hs
        apply w_fcons hg
        sizeOf_list_dec
        rw [← hL]
        refine ih (q - (sz h + 1)) (ks.drop (sz h)) _ (by omega) (by simp; omega) (hs.sub (by decreasing_trivial)) fun τ' x t u e hs' => fin τ' x t u ?_ hs'
        rw [List.getElem?_drop] at e
        rw [show q = (sz h + (q - (sz h + 1))) + 1 by omega]; exact e
theorem sem_skkey (ds M Q E) (hl : ds.length = 2) (h : sp_skkey ds M Q E) : X.skews.t_key_at sp_skway (dEndsG Q E) (dstart 6 ds) M := by
  obtain ⟨n, ks, d, rfl, hn, hk, h⟩ := h
  have H := ht_of (n := n) (by omega)
  unfold X.skews.t_key_at
  refine w_gN (w_start2 (by decide) fun τ hs => ?_)
  rcases h with ⟨p, rfl, hp, h⟩ | ⟨hb, h⟩
  · sizeOf_list_dec
    refine ⟨n, ks, _, rfl, by omega, .inl ⟨p, rfl, hp, fun a A b B q ha at0 => ?_⟩⟩
    have at1 := row_at A b B
    have lk := (at0.look hn hp).a
    have lg := at0.get
    rw [encR_cut, at0.e] at hs
    have hz := cut_long (hts n) ks (by rw [H.sum]; omega) b (by rw [at0.e]; simp)
    unfold rowE at at1 hs
    sizeOf_list_dec
    refine kf_loop (v := .int (A.length : Int)) mup_same b.1 q b.2 _ at0.lt hz (hs.sub (by decreasing_trivial)) fun τ' x t u e hs' => ?_
    sizeOf_list_dec
    refine gcQ.new ha ?_
    have := h x (A.length + 1 + (wayF b.1 q).length) (by rw [← lg]; exact e) (by omega)
    simpa using this
  · sizeOf_list_dec
    exact ⟨n, ks, d, rfl, by omega, .inr ⟨hb, _, (MLe.refl M).sub, h⟩⟩
end DL

set_option Elab.async false
set_option linter.all false
set_option maxRecDepth 100000
set_option maxHeartbeats 1000000
namespace DL
open PySem PySem.Spec PyProof.Rows L2 SK
set_option hygiene false in
local macro_rules | `(tactic| array_mem_dec) => `(tactic| first | assumption | exact mup_same | (apply mup_keep; (assumption; done); array_mem_dec) | (apply mup_keep2; array_get_dec; array_mem_dec))
set_option hygiene false in
local macro_rules | `(tactic| array_get_dec) => `(tactic| first | assumption | (apply Ne.symm; assumption) | exact ne_by (by assumption) (by array_mem_dec) | exact Ne.symm (ne_by (by assumption) (by array_mem_dec)))
set_option hygiene false in
local macro_rules | `(tactic| clean_wf) => `(tactic| first | exact Nat.le_of_ble_eq_true rfl | omega | (simp; done) | (simp; omega))
set_option hygiene false in
local macro_rules | `(tactic| sizeOf_list_dec) => `(tactic| repeat' (first
  | ((with_reducible apply w_gen); assumption; (first | exact Nat.le_of_ble_eq_true rfl | omega); intro τ hs)
  | ((with_reducible apply w_gen2); assumption; (first | exact Nat.le_of_ble_eq_true rfl | omega); (first | exact Nat.le_of_ble_eq_true rfl | omega); intro τ hs) | ((with_reducible apply w_gen3); assumption; (first | exact Nat.le_of_ble_eq_true rfl | omega); (first | exact Nat.le_of_ble_eq_true rfl | omega); (first | exact Nat.le_of_ble_eq_true rfl | omega); intro τ hs) | ((with_reducible apply w_gen4); assumption; (first | exact Nat.le_of_ble_eq_true rfl | omega); (first | exact Nat.le_of_ble_eq_true rfl | omega); (first | exact Nat.le_of_ble_eq_true rfl | omega); (first | exact Nat.le_of_ble_eq_true rfl | omega); intro τ hs)
  | with_reducible apply w_seq | with_reducible apply w_asg | with_reducible apply w_nx | with_reducible apply w_nrt | with_reducible apply w_lx | with_reducible apply w_lrt | with_reducible apply w_grt | with_reducible apply w_gx | with_reducible apply w_bin
  | ((with_reducible apply w_var); assumption; rfl)
  | with_reducible apply w_c | with_reducible apply w_nil | with_reducible apply w_cons | with_reducible apply w_call | ((with_reducible apply w_ar); rfl) | with_reducible apply w_cb
  | with_reducible apply w_drop | with_reducible apply w_ret | with_reducible apply w_if | with_reducible apply w_next | with_reducible apply w_dB | with_reducible apply w_isB | with_reducible apply w_tru
  | ((with_reducible apply w_truK); (first | exact tr_bl | exact tr_int | exact tr_non | exact tr_tup | (apply tr_lst; array_mem_dec) | (apply tr_dk; array_mem_dec)))
  | with_reducible apply w_not | with_reducible apply w_and | with_reducible apply w_or | with_reducible apply w_yes
  | with_reducible apply w_itt | with_reducible apply w_itf | with_reducible apply w_ite0 | with_reducible apply w_itec | with_reducible apply w_iteS | (with_reducible apply w_ite <;> intro hc) | with_reducible apply w_itnot
  | ((with_reducible apply w_itp); (first | assumption | omega)) | ((with_reducible apply w_itn); (first | assumption | omega)) | (with_reducible apply w_itd <;> intro hc)
  | ((with_reducible apply w_itzp); (first | assumption | omega)) | ((with_reducible apply w_itzn); (first | assumption | omega)) | (with_reducible apply w_itz <;> intro hc)
  | ((with_reducible apply w_itbp); (first | assumption | rfl)) | ((with_reducible apply w_itbn); (first | assumption | rfl))
  | with_reducible apply w_add_i | with_reducible apply w_addI | with_reducible apply w_di0 | ((with_reducible apply w_di); (first | exact ⟨by decide, by decide⟩ | exact ⟨by decide, by decide, by decide⟩ | (unfold CMul; omega) | (show (0 : Int) < _; omega) | (show (0 : Int) ≤ _; omega)))
  | ((with_reducible apply w_mul_i); (first | (unfold CMul; omega) | assumption)) | ((with_reducible apply w_mulI); (first | (unfold CMul; omega) | assumption)) | with_reducible apply w_un | with_reducible apply w_dU
  | ((with_reducible apply w_ix_t); (first | exact atI_0 | exact atI_1 | exact atI_2 | exact atI_3 | exact atI_last | assumption))
  | ((with_reducible apply w_ix_l); array_mem_dec; (first | exact atI_0 | exact atI_1 | exact atI_2 | exact atI_3 | exact atI_last | assumption))
  | with_reducible apply w_eq_i | with_reducible apply w_ne_i | with_reducible apply w_eq_ti | with_reducible apply w_ne_ti | with_reducible apply w_eq_ni | with_reducible apply w_ne_ni | with_reducible apply w_eq_in | with_reducible apply w_ne_in | with_reducible apply w_eq_nn | with_reducible apply w_ne_nn | with_reducible apply w_eq_b | with_reducible apply w_ne_b
  | ((with_reducible apply w_eq_li); array_mem_dec; array_mem_dec) | ((with_reducible apply w_ne_li); array_mem_dec; array_mem_dec)
  | with_reducible apply w_len_t | ((with_reducible apply w_len_l); array_mem_dec) | ((with_reducible apply w_len_d); array_mem_dec)
  | ((with_reducible apply w_sz); clean_wf) | with_reducible apply w_tup | with_reducible apply w_lst
  | with_reducible apply w_ml | with_reducible apply w_ml0 | ((with_reducible apply w_isl); array_mem_dec)
  | ((with_reducible apply w_append1); rfl; clean_wf) | ((with_reducible apply w_append); array_mem_dec; clean_wf) | ((with_reducible apply w_pop); array_mem_dec; clean_wf)
  | with_reducible apply w_tuple_t | ((with_reducible apply w_tuple_l); array_mem_dec) | with_reducible apply w_list_t | ((with_reducible apply w_list_l); array_mem_dec)
  | with_reducible apply w_slice | with_reducible apply w_nop | with_reducible apply w_prt | with_reducible apply w_prtK | with_reducible apply w_sl_t1 | with_reducible apply w_sl_t2 | with_reducible apply w_sl_tl | ((with_reducible apply w_sl_l1); array_mem_dec) | ((with_reducible apply w_sl_ll); array_mem_dec) | with_reducible apply w_sl_t | ((with_reducible apply w_sl_l); array_mem_dec)
  | ((with_reducible apply w_add_t1); clean_wf) | ((with_reducible apply w_add_t0); clean_wf) | ((with_reducible apply w_add_t); clean_wf) | ((with_reducible apply w_add_l); array_mem_dec; array_mem_dec; clean_wf)
  | with_reducible apply w_is_nf | with_reducible apply w_is_nt
  | with_reducible apply w_par | with_reducible apply w_parK | with_reducible apply w_par3 | with_reducible apply w_parK3
  | ((with_reducible apply w_aug); assumption; rfl)
  | with_reducible apply w_asgG | ((with_reducible apply w_wipeG); assumption; intro τ hs) | ((with_reducible apply w_gNm); assumption; (first | exact Nat.le_of_ble_eq_true rfl | omega); intro τ hs) | ((with_reducible apply w_gTup); rfl) | with_reducible apply w_gNil | with_reducible apply w_gCons | with_reducible apply w_gSub
  | with_reducible apply w_break | with_reducible apply w_cont | with_reducible apply w_retN | with_reducible apply w_nbk | with_reducible apply w_nct | with_reducible apply w_nex | with_reducible apply w_lbk | with_reducible apply w_lct | with_reducible apply w_lex | with_reducible apply w_xx | with_reducible apply w_xrt | with_reducible apply w_xbk | with_reducible apply w_xct | with_reducible apply w_xex | with_reducible apply w_gex | with_reducible apply w_raise | with_reducible apply w_try
  | with_reducible apply w_ife | with_reducible apply w_andV | with_reducible apply w_orV | with_reducible apply w_notV
  | ((with_reducible apply w_andVK); (first | exact tr_bl | exact tr_int | exact tr_non | exact tr_tup | (apply tr_lst; array_mem_dec) | (apply tr_dk; array_mem_dec)))
  | ((with_reducible apply w_orVK); (first | exact tr_bl | exact tr_int | exact tr_non | exact tr_tup | (apply tr_lst; array_mem_dec) | (apply tr_dk; array_mem_dec)))
  | ((with_reducible apply w_notVK); (first | exact tr_bl | exact tr_int | exact tr_non | exact tr_tup | (apply tr_lst; array_mem_dec) | (apply tr_dk; array_mem_dec)))
  | with_reducible apply w_chain | with_reducible apply w_chKt | with_reducible apply w_chKf | ((with_reducible apply w_chKp); (first | assumption | omega)) | ((with_reducible apply w_chKn); (first | assumption | omega)) | (with_reducible apply w_chKd <;> intro hc)
  | with_reducible apply w_bits | with_reducible apply w_bitK | with_reducible apply w_int_i | with_reducible apply w_max2 | with_reducible apply w_min2 | with_reducible apply w_abs
  | ((with_reducible apply w_sum); array_mem_dec) | ((with_reducible apply w_all); array_mem_dec) | ((with_reducible apply w_any); array_mem_dec) | ((with_reducible apply w_anyA_i); array_mem_dec) | ((with_reducible apply w_anyA_b); array_mem_dec)
  | with_reducible apply w_for | with_reducible apply w_iseq | with_reducible apply w_seqI_t | ((with_reducible apply w_seqI_l); array_mem_dec) | with_reducible apply w_iargs
  | ((with_reducible apply w_rng1); (constructor <;> omega)) | ((with_reducible apply w_rng2); (constructor <;> omega); (constructor <;> omega))
  | with_reducible apply w_irev | with_reducible apply w_rev_t | ((with_reducible apply w_rev_l); array_mem_dec) | with_reducible apply w_zip_t | ((with_reducible apply w_zip_l); array_mem_dec; array_mem_dec) | with_reducible apply w_izipr | ((with_reducible apply w_zr1); array_mem_dec) | with_reducible apply w_enum_t | ((with_reducible apply w_enum_l); array_mem_dec)
  | with_reducible apply w_dict | ((with_reducible apply w_ix_d); array_mem_dec; rfl; assumption) | ((with_reducible apply w_in_d); array_mem_dec; rfl) | ((with_reducible apply w_nin_d); array_mem_dec; rfl) | ((with_reducible apply w_set_d); array_mem_dec; rfl; clean_wf)
  | ((with_reducible apply w_take); array_mem_dec; (first | decide | omega); intro r hr0 hr1) | with_reducible apply w_spbits | with_reducible apply w_isnum_i | with_reducible apply w_isnum_b | with_reducible apply w_isnum_n | with_reducible apply w_isnum_t | with_reducible apply w_isnum_s | ((with_reducible apply w_keyX1); rfl; (first | assumption | (simp [keyB]; omega)))
  | with_reducible apply w_lamG | with_reducible apply w_lam | with_reducible apply w_lc | with_reducible apply w_lc2 | with_reducible apply w_gany | (with_reducible apply w_gat; array_mem_dec) | with_reducible apply w_lc0 | with_reducible apply w_lc1 | ((with_reducible apply w_lcK); array_mem_dec; clean_wf) | with_reducible apply w_li0 | with_reducible apply w_li1 | ((with_reducible apply w_liK); array_mem_dec; clean_wf) | with_reducible apply w_lo0 | with_reducible apply w_lo1 | with_reducible apply w_fnil | with_reducible apply w_fcons | with_reducible apply w_augS
  | (show ∀ p, _ = none → _; intro pp hpp)))
set_option hygiene false in
local macro_rules | `(tactic| decreasing_trivial) => `(tactic| ((repeat' (first | exact trivial | apply And.intro)) <;> (refine congrArg some (?_ : (_ : D) = _)) <;> (first | with_reducible rfl | (refine congrArg D.int ?_; (first | omega | (simp; omega) | (simp; done))) | (simp; done))))

def sp_skchg : DSp := fun ds M Q E => ∃ (n : Nat) (ks : List Int) (d : D) (x : Int), ds = [.tup (encR (hts n) ks), d, .int x] ∧ n < 62 ∧ ks.length = n ∧ keyB (.int x) = true ∧ ((∃ p : Nat, d = .int (p : Int) ∧ p < n ∧ ∀ (l : Nat), l ≤ Builtin.Int.intBits (n : Int) → Q (.tup [.tup (encR (hts n) (ks.set p x)), .int (l : Int)]) M) ∨ (badP n d ∧ E "RowError" "code" (.str "place") M))
abbrev bCa : TDS := (dDrop (dML (chL fAppend) (dVar 5) (dCons (dBin ixA (dBin ixA (dVar 5) (dUn (dU fun i => -i) (dC (.int 1)))) (dVar 6)) dNil)))
abbrev bCb : TDS := (dAsg (dIf (dB (dBin (eqD false) (dVar 6) (dC (.int 1)))) (dTup (dCons (dBin ixA (dVar 8) (dC (.int 0))) (dCons (dVar 7) (dCons (dBin ixA (dVar 8) (dC (.int 2))) (dNil))))) (dTup (dCons (dBin ixA (dVar 8) (dC (.int 0))) (dCons (dBin ixA (dVar 8) (dC (.int 1))) (dCons (dVar 7) (dNil)))))) (dgName 7))
theorem ca_loop {N : DEn} {M0 : Mp} {a b : Addr} {W : List D} {r v w k : D} (nab : a ≠ b) : ∀ (h q : Nat) (ks : List Int) (acc : List D) (τ : DSt) (M : Mp), q < sz h → sz h ≤ ks.length → acc.length + h ≤ 100 → M a = some (.lst W) → M b = some (.lst (acc ++ [(mk h ks).enc])) →
    (∀ c, c ≠ b → M c = M0 c) → Sl 9 [(0, r), (1, v), (2, k), (3, w), (4, .ref a), (5, .ref b)] τ →
    (∀ τ' M', M' a = some (.lst W) → M' b = some (.lst (acc ++ (pth h q ks).map PT.enc)) → (∀ c, c ≠ b → M' c = M0 c) → Sl 9 [(0, r), (1, v), (2, k), (3, w), (4, .ref a), (5, .ref b)] τ' → N.nx τ' M') → wFor (isAt a W) (dgName 6) bCa N ((wayF h q).map D.int) τ M
  | 0, q, ks, acc, τ, M, hq, _, _, _, _, _, _, _ => absurd hq (by simp [sz])
  | h + 1, q, [], acc, τ, M, hq, hl, _, _, _, _, _, _ => by rw [sz_succ] at hl; simp at hl
  | h + 1, q, y :: ks, acc, τ, M, hq, hl, hz, ha, hb, hM, hs, fin => by
    rw [sz_succ] at hq hl
    simp only [List.length_cons] at hl
    have ih := fun q' ks' acc' => ca_loop (N := N) (M0 := M0) (r := r) (v := v) (w := w) (k := k) (W := W) nab h q' ks' acc'
    have hb0 := hb
    rw [mk, PT.enc] at hb
    rw [wayF]
    have hM2 : ∀ o, ∀ c, c ≠ b → mup M b o c = M0 c := fun o c hc => by rw [mup_ne hc]; exact hM c hc
    by_cases c : q = 0
    · subst c
      exact ⟨ha, fin τ M ha (by rw [pth]; simpa using hb0) hM hs⟩
    · rw [if_neg c]
      rw [pth, if_neg c] at fin
      by_cases c2 : q ≤ sz h
      · rw [if_pos c2, List.map_cons]
        rw [if_pos c2] at fin
        generalize hL : List.map D.int (wayF h (q - 1)) = L
        clear hb0
        apply w_fcons ha
        sizeOf_list_dec
        rw [← hL]
        refine ih (q - 1) ks (acc ++ [(mk (h + 1) (y :: ks)).enc]) _ _ (by omega) (by omega) (by simp only [List.length_append, List.length_singleton]; omega) (by array_mem_dec) (by rw [mup_same]; rfl) (hM2 _) (hs.sub (by decreasing_trivial)) fun τ' M' h1 h2 h3 h4 => fin τ' M' h1 (by rw [h2]; simp) h3 h4
      · rw [if_neg c2, List.map_cons]
        rw [if_neg c2] at fin
        generalize hL : List.map D.int (wayF h (q - (sz h + 1))) = L
        clear hb0
        apply w_fcons ha
        sizeOf_list_dec
        rw [← hL]
        refine ih (q - (sz h + 1)) (ks.drop (sz h)) (acc ++ [(mk (h + 1) (y :: ks)).enc]) _ _ (by omega) (by simp; omega) (by simp only [List.length_append, List.length_singleton]; omega) (by array_mem_dec) (by rw [mup_same]; rfl) (hM2 _) (hs.sub (by decreasing_trivial)) fun τ' M' h1 h2 h3 h4 => fin τ' M' h1 (by rw [h2]; simp) h3 h4
theorem cb_loop {N : DEn} {M : Mp} {gu : Mp → Prop} {x : Int} {r w b : D} (hg : gu M) : ∀ (h q : Nat) (ks : List Int) (rest : List D) (τ : DSt), q < sz h → sz h ≤ ks.length → Sl 9 [(0, r), (3, w), (5, b), (7, .tup [.int x, (bot h q ks).1, (bot h q ks).2])] τ →
    (∀ τ', Sl 9 [(0, r), (3, w), (5, b), (7, (mk h (ks.set q x)).enc)] τ' → wFor gu (dgTup 2 (dgCons (dgName 8) (dgCons (dgName 6) (dgNil)))) bCb N rest τ' M) → wFor gu (dgTup 2 (dgCons (dgName 8) (dgCons (dgName 6) (dgNil)))) bCb N (zr h q ks ++ rest) τ M
  | 0, q, ks, rest, τ, hq, _, _, _ => absurd hq (by simp [sz])
  | h + 1, q, [], rest, τ, hq, hl, _, _ => by rw [sz_succ] at hl; simp at hl
  | h + 1, q, y :: ks, rest, τ, hq, hl, hs, fin => by
    rw [sz_succ] at hq hl
    simp only [List.length_cons] at hl
    have ih := fun q' ks' rest' => cb_loop (N := N) (M := M) (x := x) (r := r) (w := w) (b := b) hg h q' ks' rest'
    rw [zr]
    rw [bot] at hs
    by_cases c : q = 0
    · subst c
      simp only [if_pos] at hs ⊢
      exact fin τ (by simpa [mk, PT.enc] using hs)
    · by_cases c2 : q ≤ sz h
      · rw [if_neg c, if_pos c2] at hs ⊢
        rw [List.append_assoc, List.singleton_append]
        refine ih (q - 1) ks _ τ (by omega) (by omega) hs fun τ' hs' => ?_
        have fin' := fin
        generalize hW : wFor gu (dgTup 2 (dgCons (dgName 8) (dgCons (dgName 6) (dgNil)))) bCb N rest = W at fin'
        apply w_fcons hg
        rw [hW, mk, PT.enc]
        clear ih fin hs
        sizeOf_list_dec
        refine fin' _ (hs.sub ?_)
        rw [show q = (q - 1) + 1 by omega, List.set_cons_succ, mk, PT.enc, List.drop_set, if_pos (by omega)]
        decreasing_trivial
      · rw [if_neg c, if_neg c2] at hs ⊢
        rw [List.append_assoc, List.singleton_append]
        refine ih (q - (sz h + 1)) (ks.drop (sz h)) _ τ (by omega) (by simp; omega) hs fun τ' hs' => ?_
        have fin' := fin
        generalize hW : wFor gu (dgTup 2 (dgCons (dgName 8) (dgCons (dgName 6) (dgNil)))) bCb N rest = W at fin'
        apply w_fcons hg
        rw [hW, mk, PT.enc]
        clear ih fin hs
        sizeOf_list_dec
        refine fin' _ (hs.sub ?_)
        rw [show q = (q - 1) + 1 by omega, List.set_cons_succ, mk, PT.enc, List.drop_set, if_neg (by omega), mk_set_ge x h ks (q - 1) (by omega), show q - 1 - sz h = q - 1 + 1 - (sz h + 1) by omega]
        decreasing_trivial
theorem pth_last : ∀ (h q : Nat) (ks : List Int), q < sz h → sz h ≤ ks.length → ∃ l y, (pth h q ks).map PT.enc = l ++ [.tup [.int y, (bot h q ks).1, (bot h q ks).2]]
  | 0, q, ks, hq, _ => absurd hq (by simp [sz])
  | h + 1, q, [], hq, hl => by rw [sz_succ] at hl; simp at hl
  | h + 1, q, y :: ks, hq, hl => by
    rw [sz_succ] at hq hl
    simp only [List.length_cons] at hl
    rw [pth, bot]
    by_cases c : q = 0
    · exact ⟨[], y, by simp [c, mk, PT.enc]⟩
    · by_cases c2 : q ≤ sz h
      · obtain ⟨l, z, e⟩ := pth_last h (q - 1) ks (by omega) (by omega)
        exact ⟨_ :: l, z, by simp only [if_neg c, if_pos c2, List.map_cons, e]; rfl⟩
      · obtain ⟨l, z, e⟩ := pth_last h (q - (sz h + 1)) (ks.drop (sz h)) (by omega) (by simp; omega)
        exact ⟨_ :: l, z, by simp only [if_neg c, if_neg c2, List.map_cons, e]; rfl⟩
theorem sem_skchg (ds M Q E) (hl : ds.length = 3) (h : sp_skchg ds M Q E) : X.skews.t_changed sp_keyX sp_skway (dEndsG Q E) (dstart 9 ds) M := by
  obtain ⟨n, ks, d, x, rfl, hn, hk, kx, h⟩ := h
  have H := ht_of (n := n) (by omega)
  unfold X.skews.t_changed
  refine w_gN (w_start3 (by decide) fun τ hs => ?_)
  rcases h with ⟨p, rfl, hp, h⟩ | ⟨hb, h⟩
  · sizeOf_list_dec
    refine ⟨n, ks, _, rfl, by omega, .inl ⟨p, rfl, hp, fun a A b B q ha at0 => ?_⟩⟩
    have at1 := row_at A b B
    have lk := at0.look hn hp
    have rs := row_set x (hts n) ks A b B q at0.e at0.lt
    rw [← at0.s] at rs
    rw [encR_cut, at0.e] at hs
    have hz := cut_long (hts n) ks (by rw [H.sum]; omega) b (by rw [at0.e]; simp)
    have hb6 : b.1 ≤ 6 := by
      have : b.1 ∈ hts n := by
        rw [← cut_fst (hts n) ks, at0.e]; simp
      exact (H.b _ this).2
    have at2 : atI ((A ++ b :: B).map rowE) (A.length : Int) = some (.tup [.int (sz b.1 : Nat), (mk b.1 b.2).enc]) := at1
    sizeOf_list_dec
    have nab : a ≠ pp := by array_get_dec
    obtain ⟨pw, epw⟩ : ∃ pw, pw = pp := ⟨pp, rfl⟩
    subst epw
    have hpw := hpp
    have hlen : A.length + (B.length + 1) = (hts n).length := by
      rw [← cut_len (hts n) ks, at0.e]; simp
    have hl7 := H.len
    refine ca_loop (M0 := mup M a (.lst ((wayF b.1 q).map D.int))) (r := .tup ((A ++ b :: B).map rowE)) (v := .int (p : Int)) (w := .int (A.length : Int)) (k := .int x) nab b.1 q b.2 [] _ _ at0.lt hz (by simp; omega) (by array_mem_dec) mup_same (fun c hc => mup_ne hc) (hs.sub (by decreasing_trivial)) fun τ' M' m1 m2 m3 hs' => ?_
    obtain ⟨l, y, el⟩ := pth_last b.1 q b.2 at0.lt hz
    have pl := pth_len b.1 q b.2 at0.lt hz
    have zz := zr_zip b.1 q b.2 at0.lt hz
    rw [List.nil_append, el] at m2
    rw [el, List.dropLast_concat] at zz
    have ll : l.length = (wayF b.1 q).length := by
      have := congrArg List.length el
      simp [pl] at this; omega
    clear hs
    sizeOf_list_dec
    refine w_zr2 mup_same mup_same (by array_mem_dec) (by simp [ll]) ?_
    rw [zz, ← List.append_nil (zr b.1 q b.2)]
    refine cb_loop (x := x) (r := .tup ((A ++ b :: B).map rowE)) (w := .int (A.length : Int)) (b := .ref pw) ⟨by array_mem_dec, by array_mem_dec⟩ b.1 q b.2 [] _ at0.lt hz (hs.sub (by decreasing_trivial)) fun τ' hs' => ?_
    sizeOf_list_dec
    · exact ⟨by array_mem_dec, by array_mem_dec⟩
    · rw [gcut_to (by omega)]; simp; omega
    · rw [gcut_to (by omega), gcut_from (by omega)]; simp; omega
    · have e1 : gcut (List.map rowE (A ++ b :: B)) none (some (A.length : Int)) = A.map rowE := by
        rw [gcut_to (by omega)]; simp
      have e2 : gcut (List.map rowE (A ++ b :: B)) (some ((A.length : Int) + 1)) none = B.map rowE := by
        rw [gcut_from (by omega), show ((A.length : Int) + 1).toNat = A.length + 1 by omega, List.map_append, List.map_cons]
        rw [List.drop_append]
        simp
      have le : MLe M M' := fun c o e => by
        have n1 : c ≠ a := by array_get_dec
        have n2 : c ≠ pw := by
          rintro rfl
          rw [mup_non1 hpw] at e; cases e
        rw [m3 c n2, mup_ne n1]; exact e
      rw [e1, e2]
      refine gcQ.of (mle_up le (mle_non le hpp)) ?_
      have := h (l.length + 1) (by have := lk.b; omega)
      rw [rs] at this
      simpa [rowE] using this
  · sizeOf_list_dec
    exact ⟨n, ks, d, rfl, by omega, .inr ⟨hb, _, (MLe.refl M).sub, h⟩⟩
end DL

set_option Elab.async false
set_option linter.all false
set_option maxRecDepth 100000
set_option maxHeartbeats 1000000
namespace DL
open PySem PySem.Spec PyProof.Rows L2 SK
set_option hygiene false in
local macro_rules | `(tactic| array_mem_dec) => `(tactic| first | assumption | exact mup_same | (apply mup_keep; (assumption; done); array_mem_dec) | (apply mup_keep2; array_get_dec; array_mem_dec))
set_option hygiene false in
local macro_rules | `(tactic| array_get_dec) => `(tactic| first | assumption | (apply Ne.symm; assumption) | exact ne_by (by assumption) (by array_mem_dec) | exact Ne.symm (ne_by (by assumption) (by array_mem_dec)))
set_option hygiene false in
local macro_rules | `(tactic| clean_wf) => `(tactic| first | exact Nat.le_of_ble_eq_true rfl | omega | (simp; done) | (simp; omega))
set_option hygiene false in
local macro_rules | `(tactic| sizeOf_list_dec) => `(tactic| repeat' (first
  | ((with_reducible apply w_gen); assumption; (first | exact Nat.le_of_ble_eq_true rfl | omega); intro τ hs)
  | ((with_reducible apply w_gen2); assumption; (first | exact Nat.le_of_ble_eq_true rfl | omega); (first | exact Nat.le_of_ble_eq_true rfl | omega); intro τ hs) | ((with_reducible apply w_gen3); assumption; (first | exact Nat.le_of_ble_eq_true rfl | omega); (first | exact Nat.le_of_ble_eq_true rfl | omega); (first | exact Nat.le_of_ble_eq_true rfl | omega); intro τ hs) | ((with_reducible apply w_gen4); assumption; (first | exact Nat.le_of_ble_eq_true rfl | omega); (first | exact Nat.le_of_ble_eq_true rfl | omega); (first | exact Nat.le_of_ble_eq_true rfl | omega); (first | exact Nat.le_of_ble_eq_true rfl | omega); intro τ hs)
  | with_reducible apply w_seq | with_reducible apply w_asg | with_reducible apply w_nx | with_reducible apply w_nrt | with_reducible apply w_lx | with_reducible apply w_lrt | with_reducible apply w_grt | with_reducible apply w_gx | with_reducible apply w_bin
  | ((with_reducible apply w_var); assumption; rfl)
  | with_reducible apply w_c | with_reducible apply w_nil | with_reducible apply w_cons | with_reducible apply w_call | ((with_reducible apply w_ar); rfl) | with_reducible apply w_cb
  | with_reducible apply w_drop | with_reducible apply w_ret | with_reducible apply w_if | with_reducible apply w_next | with_reducible apply w_dB | with_reducible apply w_isB | with_reducible apply w_tru
  | ((with_reducible apply w_truK); (first | exact tr_bl | exact tr_int | exact tr_non | exact tr_tup | (apply tr_lst; array_mem_dec) | (apply tr_dk; array_mem_dec)))
  | with_reducible apply w_not | with_reducible apply w_and | with_reducible apply w_or | with_reducible apply w_yes
  | with_reducible apply w_itt | with_reducible apply w_itf | with_reducible apply w_ite0 | with_reducible apply w_itec | with_reducible apply w_iteS | (with_reducible apply w_ite <;> intro hc) | with_reducible apply w_itnot
  | ((with_reducible apply w_itp); (first | assumption | omega)) | ((with_reducible apply w_itn); (first | assumption | omega)) | (with_reducible apply w_itd <;> intro hc)
  | ((with_reducible apply w_itzp); (first | assumption | omega)) | ((with_reducible apply w_itzn); (first | assumption | omega)) | (with_reducible apply w_itz <;> intro hc)
  | ((with_reducible apply w_itbp); (first | assumption | rfl)) | ((with_reducible apply w_itbn); (first | assumption | rfl))
  | with_reducible apply w_add_i | with_reducible apply w_addI | with_reducible apply w_di0 | ((with_reducible apply w_di); (first | exact ⟨by decide, by decide⟩ | exact ⟨by decide, by decide, by decide⟩ | (unfold CMul; omega) | (show (0 : Int) < _; omega) | (show (0 : Int) ≤ _; omega)))
  | ((with_reducible apply w_mul_i); (first | (unfold CMul; omega) | assumption)) | ((with_reducible apply w_mulI); (first | (unfold CMul; omega) | assumption)) | with_reducible apply w_un | with_reducible apply w_dU
  | ((with_reducible apply w_ix_t); (first | exact atI_0 | exact atI_1 | exact atI_2 | exact atI_3 | exact atI_last | assumption))
  | ((with_reducible apply w_ix_l); array_mem_dec; (first | exact atI_0 | exact atI_1 | exact atI_2 | exact atI_3 | exact atI_last | assumption))
  | with_reducible apply w_eq_i | with_reducible apply w_ne_i | with_reducible apply w_eq_ti | with_reducible apply w_ne_ti | with_reducible apply w_eq_ni | with_reducible apply w_ne_ni | with_reducible apply w_eq_in | with_reducible apply w_ne_in | with_reducible apply w_eq_nn | with_reducible apply w_ne_nn | with_reducible apply w_eq_b | with_reducible apply w_ne_b
  | ((with_reducible apply w_eq_li); array_mem_dec; array_mem_dec) | ((with_reducible apply w_ne_li); array_mem_dec; array_mem_dec)
  | with_reducible apply w_len_t | ((with_reducible apply w_len_l); array_mem_dec) | ((with_reducible apply w_len_d); array_mem_dec)
  | ((with_reducible apply w_sz); clean_wf) | with_reducible apply w_tup | with_reducible apply w_lst
  | with_reducible apply w_ml | with_reducible apply w_ml0 | ((with_reducible apply w_isl); array_mem_dec)
  | ((with_reducible apply w_append1); rfl; clean_wf) | ((with_reducible apply w_append); array_mem_dec; clean_wf) | ((with_reducible apply w_pop); array_mem_dec; clean_wf)
  | with_reducible apply w_tuple_t | ((with_reducible apply w_tuple_l); array_mem_dec) | with_reducible apply w_list_t | ((with_reducible apply w_list_l); array_mem_dec)
  | with_reducible apply w_slice | with_reducible apply w_nop | with_reducible apply w_prt | with_reducible apply w_prtK | with_reducible apply w_sl_t1 | with_reducible apply w_sl_t2 | with_reducible apply w_sl_tl | ((with_reducible apply w_sl_l1); array_mem_dec) | ((with_reducible apply w_sl_ll); array_mem_dec) | with_reducible apply w_sl_t | ((with_reducible apply w_sl_l); array_mem_dec)
  | ((with_reducible apply w_add_t1); clean_wf) | ((with_reducible apply w_add_t0); clean_wf) | ((with_reducible apply w_add_t); clean_wf) | ((with_reducible apply w_add_l); array_mem_dec; array_mem_dec; clean_wf)
  | with_reducible apply w_is_nf | with_reducible apply w_is_nt
  | with_reducible apply w_par | with_reducible apply w_parK | with_reducible apply w_par3 | with_reducible apply w_parK3
  | ((with_reducible apply w_aug); assumption; rfl)
  | with_reducible apply w_asgG | ((with_reducible apply w_wipeG); assumption; intro τ hs) | ((with_reducible apply w_gNm); assumption; (first | exact Nat.le_of_ble_eq_true rfl | omega); intro τ hs) | ((with_reducible apply w_gTup); rfl) | with_reducible apply w_gNil | with_reducible apply w_gCons | with_reducible apply w_gSub
  | with_reducible apply w_break | with_reducible apply w_cont | with_reducible apply w_retN | with_reducible apply w_nbk | with_reducible apply w_nct | with_reducible apply w_nex | with_reducible apply w_lbk | with_reducible apply w_lct | with_reducible apply w_lex | with_reducible apply w_xx | with_reducible apply w_xrt | with_reducible apply w_xbk | with_reducible apply w_xct | with_reducible apply w_xex | with_reducible apply w_gex | with_reducible apply w_raise | with_reducible apply w_try
  | with_reducible apply w_ife | with_reducible apply w_andV | with_reducible apply w_orV | with_reducible apply w_notV
  | ((with_reducible apply w_andVK); (first | exact tr_bl | exact tr_int | exact tr_non | exact tr_tup | (apply tr_lst; array_mem_dec) | (apply tr_dk; array_mem_dec)))
  | ((with_reducible apply w_orVK); (first | exact tr_bl | exact tr_int | exact tr_non | exact tr_tup | (apply tr_lst; array_mem_dec) | (apply tr_dk; array_mem_dec)))
  | ((with_reducible apply w_notVK); (first | exact tr_bl | exact tr_int | exact tr_non | exact tr_tup | (apply tr_lst; array_mem_dec) | (apply tr_dk; array_mem_dec)))
  | with_reducible apply w_chain | with_reducible apply w_chKt | with_reducible apply w_chKf | ((with_reducible apply w_chKp); (first | assumption | omega)) | ((with_reducible apply w_chKn); (first | assumption | omega)) | (with_reducible apply w_chKd <;> intro hc)
  | with_reducible apply w_bits | with_reducible apply w_bitK | with_reducible apply w_int_i | with_reducible apply w_max2 | with_reducible apply w_min2 | with_reducible apply w_abs
  | ((with_reducible apply w_sum); array_mem_dec) | ((with_reducible apply w_all); array_mem_dec) | ((with_reducible apply w_any); array_mem_dec) | ((with_reducible apply w_anyA_i); array_mem_dec) | ((with_reducible apply w_anyA_b); array_mem_dec)
  | with_reducible apply w_for | with_reducible apply w_iseq | with_reducible apply w_seqI_t | ((with_reducible apply w_seqI_l); array_mem_dec) | with_reducible apply w_iargs
  | ((with_reducible apply w_rng1); (constructor <;> omega)) | ((with_reducible apply w_rng2); (constructor <;> omega); (constructor <;> omega))
  | with_reducible apply w_irev | with_reducible apply w_rev_t | ((with_reducible apply w_rev_l); array_mem_dec) | with_reducible apply w_zip_t | ((with_reducible apply w_zip_l); array_mem_dec; array_mem_dec) | with_reducible apply w_izipr | ((with_reducible apply w_zr1); array_mem_dec) | with_reducible apply w_enum_t | ((with_reducible apply w_enum_l); array_mem_dec)
  | with_reducible apply w_dict | ((with_reducible apply w_ix_d); array_mem_dec; rfl; assumption) | ((with_reducible apply w_in_d); array_mem_dec; rfl) | ((with_reducible apply w_nin_d); array_mem_dec; rfl) | ((with_reducible apply w_set_d); array_mem_dec; rfl; clean_wf)
  | ((with_reducible apply w_take); array_mem_dec; (first | decide | omega); intro r hr0 hr1) | with_reducible apply w_spbits | with_reducible apply w_isnum_i | with_reducible apply w_isnum_b | with_reducible apply w_isnum_n | with_reducible apply w_isnum_t | with_reducible apply w_isnum_s | ((with_reducible apply w_keyX1); rfl; (first | assumption | (simp [keyB]; omega)))
  | with_reducible apply w_lamG | with_reducible apply w_lam | with_reducible apply w_lc | with_reducible apply w_lc2 | with_reducible apply w_gany | (with_reducible apply w_gat; array_mem_dec) | with_reducible apply w_lc0 | with_reducible apply w_lc1 | ((with_reducible apply w_lcK); array_mem_dec; clean_wf) | with_reducible apply w_li0 | with_reducible apply w_li1 | ((with_reducible apply w_liK); array_mem_dec; clean_wf) | with_reducible apply w_lo0 | with_reducible apply w_lo1 | with_reducible apply w_fnil | with_reducible apply w_fcons | with_reducible apply w_augS
  | (show ∀ p, _ = none → _; intro pp hpp)))
set_option hygiene false in
local macro_rules | `(tactic| decreasing_trivial) => `(tactic| ((repeat' (first | exact trivial | apply And.intro)) <;> (refine congrArg some (?_ : (_ : D) = _)) <;> (first | with_reducible rfl | (refine congrArg D.int ?_; (first | omega | (simp; omega) | (simp; done))) | (simp; done))))

def sp_skkeys : DSp := fun ds M Q E => ∃ (n : Nat) (ks : List Int), ds = [.tup (encR (hts n) ks)] ∧ n < 64 ∧ ks.length = n ∧ Q (.tup (ks.map D.int)) M
/-- two new lists -/
structure L2n (M0 M : Mp) (a b : Addr) (xs ys : List D) : Prop where
  le : MLe M0 M
  na : M0 a = none
  nb : M0 b = none
  ne : a ≠ b
  fa : M a = some (.lst xs)
  fb : M b = some (.lst ys)
theorem L2n.wa {M0 M : Mp} {a b : Addr} {xs ys zs : List D} (h : L2n M0 M a b xs ys) : L2n M0 (mup M a (.lst zs)) a b zs ys :=
  ⟨mle_up h.le h.na, h.na, h.nb, h.ne, mup_same, mup_keep2 h.ne.symm h.fb⟩
theorem L2n.wb {M0 M : Mp} {a b : Addr} {xs ys zs : List D} (h : L2n M0 M a b xs ys) : L2n M0 (mup M b (.lst zs)) a b xs zs :=
  ⟨mle_up h.le h.nb, h.na, h.nb, h.ne, mup_keep2 h.ne h.fa, mup_same⟩
abbrev bKi : TDS := (dSeq (dAsg (dML0 (chL fPop) (dVar 4)) (dgName 5)) (dIfS (dB (dBin (isD true) (dVar 5) (dC .non))) (dSeq (dDrop (dML (chL fAppend) (dVar 1) (dCons (dBin ixA (dVar 5) (dC (.int 0))) dNil))) (dSeq (dDrop (dML (chL fAppend) (dVar 4) (dCons (dBin ixA (dVar 5) (dC (.int 2))) dNil))) (dDrop (dML (chL fAppend) (dVar 4) (dCons (dBin ixA (dVar 5) (dC (.int 1))) dNil))))) (dNext)))
theorem ki_walk {N : DEn} {M0 : Mp} {a b : Addr} : ∀ (h : Nat) (ks : List Int) (f : Nat) (τ : DSt) (M : Mp) (acc st : List D), sz h ≤ ks.length → acc.length + 2 * sz h ≤ 1000 → st.length + 2 * h ≤ 1000 → Sl 6 [(1, .ref a), (4, .ref b)] τ → L2n M0 M a b acc (st ++ [(mk h ks).enc]) →
    (∀ τ' M', Sl 6 [(1, .ref a), (4, .ref b)] τ' → L2n M0 M' a b (acc ++ (ks.take (sz h)).map D.int) st → wWhile (dTru (dVar 4)) bKi N f τ' M') → wWhile (dTru (dVar 4)) bKi N (f + (2 * sz h + 1)) τ M
  | 0, ks, f, τ, M, acc, st, _, hz, hz2, hs, L, fin => by
    have := L.ne
    have f1 := L.fa
    have f2 := L.fb
    rw [mk, PT.enc] at f2
    show wWhile _ _ N (f + 1) τ M
    generalize hW : wWhile (dTru (dVar 4)) bKi N f = W at fin
    apply w_wstep
    rw [hW]
    sizeOf_list_dec
    · exact fin _ _ (hs.sub (by decreasing_trivial)) (by simpa [sz] using L.wb)
  | h + 1, [], f, τ, M, acc, st, hl, _, _, _, _, _ => by rw [sz_succ] at hl; simp at hl
  | h + 1, k :: ks, f, τ, M, acc, st, hl, hz, hz2, hs, L, fin => by
    rw [sz_succ] at hl hz fin
    simp only [List.length_cons] at hl
    have ih2 := ki_walk (N := N) (M0 := M0) (a := a) (b := b) h (ks.drop (sz h)) f
    have ih1 := ki_walk (N := N) (M0 := M0) (a := a) (b := b) h ks (f + (2 * sz h + 1))
    have e : f + (2 * sz (h + 1) + 1) = (f + (2 * sz h + 1) + (2 * sz h + 1)) + 1 := by rw [sz_succ]; omega
    rw [e]
    have ne := L.ne
    have f1 := L.fa
    have f2 := L.fb
    rw [mk, PT.enc] at f2
    generalize hW : wWhile (dTru (dVar 4)) bKi N (f + (2 * sz h + 1) + (2 * sz h + 1)) = W at ih1
    apply w_wstep
    rw [hW]
    sizeOf_list_dec
    have L1 := (((L.wb (zs := st)).wa (zs := acc ++ [.int k])).wb (zs := st ++ [(mk h (ks.drop (sz h))).enc])).wb (zs := (st ++ [(mk h (ks.drop (sz h))).enc]) ++ [(mk h ks).enc])
    simp only [mup_mup] at L1
    refine ih1 _ _ (acc ++ [.int k]) (st ++ [(mk h (ks.drop (sz h))).enc]) (by omega) (by simp; omega) (by simp; omega) (hs.sub (by decreasing_trivial)) L1 fun τ' M' hs' L' => ?_
    refine ih2 _ _ _ _ (by simp; omega) (by simp; omega) (by omega) hs' L' fun τ2 M2 hs2 L2 => fin τ2 M2 hs2 ?_
    have e3 : 2 * sz h + 1 = (sz h + sz h) + 1 := by omega
    rw [e3, List.take_succ_cons, List.take_add]
    simpa using L2

abbrev bKo : TDS := (dSeq (dAsg (dLst (dCons (dVar 3) (dNil))) (dgName 4)) (dWhile (dTru (dVar 4)) bKi))
abbrev gRow : TDG := (dgTup 2 (dgCons (dgName 2) (dgCons (dgName 3) (dgNil))))
theorem ko_loop {N : DEn} {M0 : Mp} {a : Addr} {gu : Mp → Prop} (hg : ∀ M, gu M) (ha : M0 a = none) : ∀ (us : List Nat) (ks : List Int) (τ : DSt) (M : Mp) (acc : List D), (us.map sz).sum ≤ ks.length → (∀ h ∈ us, h ≤ 7) → acc.length + 2 * (us.map sz).sum ≤ 1000 → Sl 6 [(1, .ref a)] τ → MLe M0 M → M a = some (.lst acc) →
    (∀ τ' M', Sl 6 [(1, .ref a)] τ' → MLe M0 M' → M' a = some (.lst (acc ++ (ks.take ((us.map sz).sum)).map D.int)) → N.nx τ' M') → wFor gu gRow bKo N ((cut us ks).map rowE) τ M
  | [], ks, τ, M, acc, _, _, _, hs, hm, hx, fin => ⟨hg M, fin τ M hs hm (by simpa using hx)⟩
  | h :: us, ks, τ, M, acc, hl, h7, hz, hs, hm, hx, fin => by
    simp only [List.map_cons, List.sum_cons] at hl hz fin
    have h7' := h7 h (by simp)
    have ih := ko_loop (N := N) (M0 := M0) (a := a) hg ha us (ks.drop (sz h))
    rw [cut, List.map_cons]
    generalize hW : (cut us (ks.drop (sz h))).map rowE = L at ih
    apply w_fcons (hg M)
    unfold rowE
    sizeOf_list_dec
    have nap : a ≠ pp := by array_get_dec
    refine w_while (0 + 1 + (2 * sz h + 1)) ?_
    have L0 : L2n M0 (mup M pp (.lst [(mk h ks).enc])) a pp acc ([] ++ [(mk h ks).enc]) := ⟨mle_up hm (mle_non hm hpp), ha, mle_non hm hpp, nap, by array_mem_dec, mup_same⟩
    refine ki_walk h ks _ _ _ acc [] (by omega) (by omega) (by simp; omega) (hs.sub (by decreasing_trivial)) L0 fun τ' M' hs2 L' => ?_
    have f2 := L'.fb
    apply w_wstep
    sizeOf_list_dec
    have sz1 : sz h ≤ 127 := (by decide : ∀ h, h ≤ 7 → sz h ≤ 127) h h7'
    refine ih _ _ (acc ++ (ks.take (sz h)).map D.int) (by simp; omega) (fun x hx => h7 x (by simp [hx])) (by simp; omega) (hs2.sub (by decreasing_trivial)) L'.le L'.fa fun τ3 M3 hs3 m3 f3 => fin τ3 M3 hs3 m3 ?_
    rw [f3, List.take_add]; simp
theorem sem_skkeys (ds M Q E) (hl : ds.length = 1) (h : sp_skkeys ds M Q E) : X.skews.t_keys_in (dEndsG Q E) (dstart 6 ds) M := by
  obtain ⟨n, ks, rfl, hn, hk, h⟩ := h
  have H := ht_of hn
  unfold X.skews.t_keys_in
  refine w_gN (w_start1 (by decide) fun τ hs => ?_)
  sizeOf_list_dec
  rw [encR_cut]
  refine ko_loop (fun _ => trivial) hpp (hts n) ks _ _ [] (by rw [H.sum]; omega) (fun x hx => by have := H.b x hx; omega) (by simp [H.sum]; omega) (hs.sub (by decreasing_trivial)) (mle_up (.refl M) hpp) mup_same fun τ' M' hs' m' f' => ?_
  sizeOf_list_dec
  rw [H.sum, List.take_of_length_le (by omega)]
  exact gcQ.of m' h
end DL

set_option Elab.async false
set_option linter.all false
set_option maxRecDepth 100000
set_option maxHeartbeats 1000000
namespace DL
open PySem PySem.Spec PyProof.Rows L2 SK
set_option hygiene false in
local macro_rules | `(tactic| array_mem_dec) => `(tactic| first | assumption | exact mup_same | (apply mup_keep; (assumption; done); array_mem_dec) | (apply mup_keep2; array_get_dec; array_mem_dec))
set_option hygiene false in
local macro_rules | `(tactic| array_get_dec) => `(tactic| first | assumption | (apply Ne.symm; assumption) | exact ne_by (by assumption) (by array_mem_dec) | exact Ne.symm (ne_by (by assumption) (by array_mem_dec)))
set_option hygiene false in
local macro_rules | `(tactic| clean_wf) => `(tactic| first | exact Nat.le_of_ble_eq_true rfl | omega | (focus (simp; done)) | (simp; omega))
set_option hygiene false in
local macro_rules | `(tactic| sizeOf_list_dec) => `(tactic| repeat' (first
  | ((with_reducible apply w_gen); assumption; (first | exact Nat.le_of_ble_eq_true rfl | omega); intro τ hs)
  | ((with_reducible apply w_gen2); assumption; (first | exact Nat.le_of_ble_eq_true rfl | omega); (first | exact Nat.le_of_ble_eq_true rfl | omega); intro τ hs) | ((with_reducible apply w_gen3); assumption; (first | exact Nat.le_of_ble_eq_true rfl | omega); (first | exact Nat.le_of_ble_eq_true rfl | omega); (first | exact Nat.le_of_ble_eq_true rfl | omega); intro τ hs) | ((with_reducible apply w_gen4); assumption; (first | exact Nat.le_of_ble_eq_true rfl | omega); (first | exact Nat.le_of_ble_eq_true rfl | omega); (first | exact Nat.le_of_ble_eq_true rfl | omega); (first | exact Nat.le_of_ble_eq_true rfl | omega); intro τ hs)
  | with_reducible apply w_seq | with_reducible apply w_asg | with_reducible apply w_nx | with_reducible apply w_nrt | with_reducible apply w_lx | with_reducible apply w_lrt | with_reducible apply w_grt | with_reducible apply w_gx | with_reducible apply w_bin
  | ((with_reducible apply w_var); assumption; rfl)
  | with_reducible apply w_c | with_reducible apply w_nil | with_reducible apply w_cons | with_reducible apply w_call | ((with_reducible apply w_ar); rfl) | with_reducible apply w_cb
  | with_reducible apply w_drop | with_reducible apply w_ret | with_reducible apply w_if | with_reducible apply w_next | with_reducible apply w_dB | with_reducible apply w_isB | with_reducible apply w_tru
  | ((with_reducible apply w_truK); (first | exact tr_bl | exact tr_int | exact tr_non | exact tr_tup | (apply tr_lst; array_mem_dec) | (apply tr_dk; array_mem_dec)))
  | with_reducible apply w_not | with_reducible apply w_and | with_reducible apply w_or | with_reducible apply w_yes
  | with_reducible apply w_itt | with_reducible apply w_itf | with_reducible apply w_ite0 | with_reducible apply w_itec | with_reducible apply w_iteS | (with_reducible apply w_ite <;> intro hc) | with_reducible apply w_itnot
  | ((with_reducible apply w_itp); (first | assumption | omega | (focus (simp; done)) | (focus (simp; omega)))) | ((with_reducible apply w_itn); (first | assumption | omega | (focus (simp; done)) | (focus (simp; omega)))) | (with_reducible apply w_itd <;> intro hc)
  | ((with_reducible apply w_itzp); (first | assumption | omega)) | ((with_reducible apply w_itzn); (first | assumption | omega)) | (with_reducible apply w_itz <;> intro hc)
  | ((with_reducible apply w_itbp); (first | assumption | rfl)) | ((with_reducible apply w_itbn); (first | assumption | rfl))
  | with_reducible apply w_add_i | with_reducible apply w_addI | with_reducible apply w_di0 | ((with_reducible apply w_di); (first | exact ⟨by decide, by decide⟩ | exact ⟨by decide, by decide, by decide⟩ | (unfold CMul; omega) | (show (0 : Int) < _; omega) | (show (0 : Int) ≤ _; omega)))
  | ((with_reducible apply w_mul_i); (first | (unfold CMul; omega) | assumption)) | ((with_reducible apply w_mulI); (first | (unfold CMul; omega) | assumption)) | with_reducible apply w_un | with_reducible apply w_dU
  | ((with_reducible apply w_ix_t); (first | exact atI_0 | exact atI_1 | exact atI_2 | exact atI_3 | exact atI_last | assumption))
  | ((with_reducible apply w_ix_l); array_mem_dec; (first | exact atI_0 | exact atI_1 | exact atI_2 | exact atI_3 | exact atI_last | assumption))
  | with_reducible apply w_eq_i | with_reducible apply w_ne_i | with_reducible apply w_eq_ti | with_reducible apply w_ne_ti | with_reducible apply w_eq_ni | with_reducible apply w_ne_ni | with_reducible apply w_eq_in | with_reducible apply w_ne_in | with_reducible apply w_eq_nn | with_reducible apply w_ne_nn | with_reducible apply w_eq_b | with_reducible apply w_ne_b
  | ((with_reducible apply w_eq_li); array_mem_dec; array_mem_dec) | ((with_reducible apply w_ne_li); array_mem_dec; array_mem_dec)
  | with_reducible apply w_len_t | ((with_reducible apply w_len_l); array_mem_dec) | ((with_reducible apply w_len_d); array_mem_dec)
  | ((with_reducible apply w_sz); clean_wf) | with_reducible apply w_tup | with_reducible apply w_lst
  | with_reducible apply w_ml | with_reducible apply w_ml0 | ((with_reducible apply w_isl); array_mem_dec)
  | ((with_reducible apply w_append1); rfl; clean_wf) | ((with_reducible apply w_append); array_mem_dec; clean_wf) | ((with_reducible apply w_pop); array_mem_dec; clean_wf)
  | with_reducible apply w_tuple_t | ((with_reducible apply w_tuple_l); array_mem_dec) | with_reducible apply w_list_t | ((with_reducible apply w_list_l); array_mem_dec)
  | with_reducible apply w_slice | with_reducible apply w_nop | with_reducible apply w_prt | with_reducible apply w_prtK | with_reducible apply w_sl_t1 | with_reducible apply w_sl_t2 | with_reducible apply w_sl_tl | ((with_reducible apply w_sl_l1); array_mem_dec) | ((with_reducible apply w_sl_ll); array_mem_dec) | with_reducible apply w_sl_t | ((with_reducible apply w_sl_l); array_mem_dec)
  | ((with_reducible apply w_add_t1); clean_wf) | ((with_reducible apply w_add_t0); clean_wf) | ((with_reducible apply w_add_t); clean_wf) | ((with_reducible apply w_add_l); array_mem_dec; array_mem_dec; clean_wf)
  | with_reducible apply w_is_nf | with_reducible apply w_is_nt
  | with_reducible apply w_par | with_reducible apply w_parK | with_reducible apply w_par3 | with_reducible apply w_parK3
  | ((with_reducible apply w_aug); assumption; rfl)
  | with_reducible apply w_asgG | ((with_reducible apply w_wipeG); assumption; intro τ hs) | ((with_reducible apply w_gNm); assumption; (first | exact Nat.le_of_ble_eq_true rfl | omega); intro τ hs) | ((with_reducible apply w_gTup); rfl) | with_reducible apply w_gNil | with_reducible apply w_gCons | with_reducible apply w_gSub
  | with_reducible apply w_break | with_reducible apply w_cont | with_reducible apply w_retN | with_reducible apply w_nbk | with_reducible apply w_nct | with_reducible apply w_nex | with_reducible apply w_lbk | with_reducible apply w_lct | with_reducible apply w_lex | with_reducible apply w_xx | with_reducible apply w_xrt | with_reducible apply w_xbk | with_reducible apply w_xct | with_reducible apply w_xex | with_reducible apply w_gex | with_reducible apply w_raise | with_reducible apply w_try
  | with_reducible apply w_ife | with_reducible apply w_andV | with_reducible apply w_orV | with_reducible apply w_notV
  | ((with_reducible apply w_andVK); (first | exact tr_bl | exact tr_int | exact tr_non | exact tr_tup | (apply tr_lst; array_mem_dec) | (apply tr_dk; array_mem_dec)))
  | ((with_reducible apply w_orVK); (first | exact tr_bl | exact tr_int | exact tr_non | exact tr_tup | (apply tr_lst; array_mem_dec) | (apply tr_dk; array_mem_dec)))
  | ((with_reducible apply w_notVK); (first | exact tr_bl | exact tr_int | exact tr_non | exact tr_tup | (apply tr_lst; array_mem_dec) | (apply tr_dk; array_mem_dec)))
  | with_reducible apply w_chain | with_reducible apply w_chKt | with_reducible apply w_chKf | ((with_reducible apply w_chKp); (first | assumption | omega | (focus (simp; done)) | (focus (simp; omega)))) | ((with_reducible apply w_chKn); (first | assumption | omega | (focus (simp; done)) | (focus (simp; omega)))) | (with_reducible apply w_chKd <;> intro hc)
  | with_reducible apply w_bits | with_reducible apply w_bitK | with_reducible apply w_int_i | with_reducible apply w_max2 | with_reducible apply w_min2 | with_reducible apply w_abs
  | ((with_reducible apply w_sum); array_mem_dec) | ((with_reducible apply w_all); array_mem_dec) | ((with_reducible apply w_any); array_mem_dec) | ((with_reducible apply w_anyA_i); array_mem_dec) | ((with_reducible apply w_anyA_b); array_mem_dec)
  | with_reducible apply w_for | with_reducible apply w_iseq | with_reducible apply w_seqI_t | ((with_reducible apply w_seqI_l); array_mem_dec) | with_reducible apply w_iargs
  | ((with_reducible apply w_rng1); (constructor <;> omega)) | ((with_reducible apply w_rng2); (constructor <;> omega); (constructor <;> omega))
  | with_reducible apply w_irev | with_reducible apply w_rev_t | ((with_reducible apply w_rev_l); array_mem_dec) | with_reducible apply w_zip_t | ((with_reducible apply w_zip_l); array_mem_dec; array_mem_dec) | with_reducible apply w_izipr | ((with_reducible apply w_zr1); array_mem_dec) | with_reducible apply w_enum_t | ((with_reducible apply w_enum_l); array_mem_dec)
  | with_reducible apply w_dict | ((with_reducible apply w_ix_d); array_mem_dec; rfl; assumption) | ((with_reducible apply w_in_d); array_mem_dec; rfl) | ((with_reducible apply w_nin_d); array_mem_dec; rfl) | ((with_reducible apply w_set_d); array_mem_dec; rfl; clean_wf)
  | ((with_reducible apply w_take); array_mem_dec; (first | decide | omega); intro r hr0 hr1) | with_reducible apply w_spbits | with_reducible apply w_isnum_i | with_reducible apply w_isnum_b | with_reducible apply w_isnum_n | with_reducible apply w_isnum_t | with_reducible apply w_isnum_s | ((with_reducible apply w_keyX1); rfl; (first | assumption | (simp [keyB]; omega)))
  | with_reducible apply w_lamG | with_reducible apply w_lam | with_reducible apply w_lc | with_reducible apply w_lc2 | with_reducible apply w_gany | (with_reducible apply w_gat; array_mem_dec) | ((with_reducible apply w_gat2); array_mem_dec; array_mem_dec) | with_reducible apply w_lc0 | with_reducible apply w_lc1 | ((with_reducible apply w_lcK1); rfl; clean_wf) | ((with_reducible apply w_lcK); array_mem_dec; clean_wf) | with_reducible apply w_li0 | with_reducible apply w_li1 | ((with_reducible apply w_liK1); rfl; clean_wf) | ((with_reducible apply w_liK); array_mem_dec; clean_wf) | with_reducible apply w_lo0 | with_reducible apply w_lo1 | with_reducible apply w_fnil | with_reducible apply w_fcons | with_reducible apply w_augS
  | ((with_reducible apply w_ne_ss); decide +kernel) | ((with_reducible apply w_eq_ss); decide +kernel) | ((with_reducible apply w_draws); assumption; omega; decide; decide)
  | with_reducible apply w_tupRev | with_reducible apply w_tupRevT | ((with_reducible apply w_tupRevL); array_mem_dec) | with_reducible apply w_lstRg1 | ((with_reducible apply w_lstRgK); (constructor <;> omega))
  | (show ∀ p, _ = none → _; intro pp hpp)))
set_option hygiene false in
local macro_rules | `(tactic| and_intros) => `(tactic| ((repeat' (first | exact trivial | apply And.intro)) <;> (refine congrArg some (?_ : (_ : D) = _)) <;> (first | with_reducible rfl | with_reducible exact Eq.refl _ | (refine congrArg D.int ?_; (first | omega | (simp; omega) | (focus (simp; done)))) | (focus (simp; done)) | rfl)))
set_option hygiene false in
local macro_rules | `(tactic| get_elem_tactic_trivial) => `(tactic| first | exact MLe.refl _ | assumption | (apply mle_up; get_elem_tactic_trivial; (first | assumption | exact mup_non1 (by assumption) | exact mup_non1 (mup_non1 (by assumption)) | exact mup_non1 (mup_non1 (mup_non1 (by assumption))) | exact mup_non1 (mup_non1 (mup_non1 (mup_non1 (by assumption)))) | exact mup_non1 (mup_non1 (mup_non1 (mup_non1 (mup_non1 (by assumption))))) | exact mup_non1 (mup_non1 (mup_non1 (mup_non1 (mup_non1 (mup_non1 (by assumption)))))) | exact mup_non1 (mup_non1 (mup_non1 (mup_non1 (mup_non1 (mup_non1 (mup_non1 (by assumption))))))) | exact mup_non1 (mup_non1 (mup_non1 (mup_non1 (mup_non1 (mup_non1 (mup_non1 (mup_non1 (by assumption)))))))) | exact mle_non (by assumption) (by first | assumption | exact mup_non1 (by assumption) | exact mup_non1 (mup_non1 (by assumption)) | exact mup_non1 (mup_non1 (mup_non1 (by assumption))) | exact mup_non1 (mup_non1 (mup_non1 (mup_non1 (by assumption)))) | exact mup_non1 (mup_non1 (mup_non1 (mup_non1 (mup_non1 (by assumption))))) | exact mup_non1 (mup_non1 (mup_non1 (mup_non1 (mup_non1 (mup_non1 (by assumption)))))) | exact mup_non1 (mup_non1 (mup_non1 (mup_non1 (mup_non1 (mup_non1 (mup_non1 (by assumption))))))) | exact mup_non1 (mup_non1 (mup_non1 (mup_non1 (mup_non1 (mup_non1 (mup_non1 (mup_non1 (by assumption))))))))))))

def sp_skbuilt : DSp := fun ds M Q E => ∃ (ks : List Int), ds = [.tup (ks.map D.int)] ∧ ks.length < 62 ∧ (∀ k ∈ ks, keyB (.int k) = true) ∧ Q (.tup (encR (hts ks.length) ks)) M
abbrev bBu : TDS := (dAsg (dCall (arS 2 sp_skput) (dCons (dVar 1) (dCons (dVar 2) (dNil)))) (dgName 1))
theorem bu_loop {N : DEn} {M : Mp} {gu : Mp → Prop} (hg : gu M) : ∀ (r acc : List Int) (τ : DSt), r.length + acc.length < 62 → (∀ k ∈ r, keyB (.int k) = true) → Sl 3 [(1, .tup (encR (hts acc.length) acc))] τ →
    (∀ τ', Sl 3 [(1, .tup (encR (hts (r.length + acc.length)) (r.reverse ++ acc)))] τ' → N.nx τ' M) → wFor gu (dgName 2) bBu N (r.map D.int) τ M
  | [], acc, τ, _, _, hs, fin => ⟨hg, fin τ (by simpa using hs)⟩
  | x :: r, acc, τ, hl, hk, hs, fin => by
    simp only [List.length_cons] at hl
    have ih := bu_loop (N := N) (M := M) hg r (x :: acc)
    rw [List.map_cons]
    generalize hL : List.map D.int r = L at ih
    apply w_fcons hg
    sizeOf_list_dec
    refine ⟨acc.length, acc, x, rfl, by omega, hk x (by simp), ?_⟩
    sizeOf_list_dec
    refine ih _ (by simp; omega) (fun k h => hk k (by simp [h])) (hs.sub (by and_intros)) fun τ' hs' => fin τ' ?_
    rw [show (x :: r).length + acc.length = r.length + (x :: acc).length by simp; omega]
    simpa using hs'
theorem sem_skbuilt (ds M Q E) (hl : ds.length = 1) (h : sp_skbuilt ds M Q E) : X.skews.t_built sp_skput (dEndsG Q E) (dstart 3 ds) M := by
  obtain ⟨ks, rfl, hn, hk, h⟩ := h
  unfold X.skews.t_built
  refine w_gN (w_start1 (by decide) fun τ hs => ?_)
  sizeOf_list_dec
  rw [← List.map_reverse]
  refine bu_loop trivial ks.reverse [] _ (by simpa using hn) (fun k h => hk k (by simpa using h)) (hs.sub (by and_intros)) fun τ' hs' => ?_
  simp only [List.length_reverse, List.length_nil, Nat.add_zero, List.reverse_reverse, List.append_nil] at hs'
  clear hs
  sizeOf_list_dec
  exact gcQ.same h
namespace SK
def bigF : Nat → Nat → Nat → Nat
  | 0, s, _ => s
  | f + 1, s, c => if 2 * s + 1 ≤ c then bigF f (2 * s + 1) c else s
def outF : Nat → Nat → List Nat
  | 0, _ => []
  | f + 1, c => if c = 0 then [] else bigF 9 1 c :: outF f (c - bigF 9 1 c)
def sizF (n : Nat) : List Int := ((outF n n).reverse).map fun (k : Nat) => (k : Int)
def bigB (c : Nat) : Bool := decide (1 ≤ bigF 9 1 c) && decide (bigF 9 1 c ≤ c) && decide (c < 2 * bigF 9 1 c + 1)
theorem big_all : ∀ c, c < 400 → 0 < c → bigB c = true := by decide +kernel
theorem big_ok {c : Nat} (h : c < 400) (h0 : 0 < c) : 1 ≤ bigF 9 1 c ∧ bigF 9 1 c ≤ c ∧ c < 2 * bigF 9 1 c + 1 := by
  have := big_all c h h0
  unfold bigB at this
  simp only [Bool.and_eq_true, decide_eq_true_eq] at this
  exact ⟨this.1.1, this.1.2, this.2⟩
theorem siz_hts : ∀ n, n < 62 → sizF n = (hts n).map fun (h : Nat) => ((sz h : Nat) : Int) := by decide +kernel
end SK
def sp_sksizes : DSp := fun ds M Q E => ∃ (n : Nat), ds = [.int (n : Int)] ∧ n < 400 ∧ Q (.tup ((sizF n).map D.int)) M
abbrev cSi : TDT := (dB (dBin leD (dBin addD (dBin mulD (dC (.int 2)) (dVar 2)) (dC (.int 1))) (dVar 0)))
abbrev bSi : TDS := (dAsg (dBin addD (dBin mulD (dC (.int 2)) (dVar 2)) (dC (.int 1))) (dgName 2))
theorem si_loop {N : DEn} {M : Mp} {a : D} {c : Nat} (hc : c < 400) : ∀ (f s : Nat) (τ : DSt), s ≤ c → c < 2 * bigF f s c + 1 → Sl 3 [(0, .int (c : Int)), (1, a), (2, .int (s : Int))] τ →
    (∀ τ', Sl 3 [(0, .int (c : Int)), (1, a), (2, .int (bigF f s c : Nat))] τ' → N.nx τ' M) → wWhile cSi bSi N (f + 1) τ M
  | 0, s, τ, hsc, hb, hs, fin => by
    rw [bigF] at hb fin
    apply w_wstep
    sizeOf_list_dec
    exact fin _ hs
  | f + 1, s, τ, hsc, hb, hs, fin => by
    have ih := si_loop (N := N) (M := M) (a := a) hc f (2 * s + 1)
    rw [bigF] at hb fin
    generalize hW : wWhile cSi bSi N (f + 1) = W at ih
    apply w_wstep
    rw [hW]
    by_cases c1 : 2 * s + 1 ≤ c
    · rw [if_pos c1] at hb fin
      sizeOf_list_dec
      exact ih _ c1 hb (hs.sub (by and_intros)) fin
    · rw [if_neg c1] at hb fin
      sizeOf_list_dec
      exact fin _ hs
abbrev bSo : TDS := (dSeq (dAsg (dC (.int 1)) (dgName 2)) (dSeq (dWhile cSi bSi) (dSeq (dDrop (dML (chL fAppend) (dVar 1) (dCons (dVar 2) dNil))) (dAug 0 (dVar 2) subD))))
theorem so_loop {N : DEn} {M0 : Mp} {a : Addr} : ∀ (f c : Nat) (acc : List Nat) (τ : DSt), c ≤ f → c < 400 → acc.length + c ≤ 1000 → Sl 3 [(0, .int (c : Int)), (1, .ref a)] τ →
    (∀ τ', Sl 3 [(1, .ref a)] τ' → N.nx τ' (mup M0 a (.lst ((acc ++ outF f c).map fun (k : Nat) => D.int (k : Int))))) → wWhile (dTru (dVar 0)) bSo N (f + 1) τ (mup M0 a (.lst (acc.map fun (k : Nat) => D.int (k : Int))))
  | 0, c, acc, τ, hf, hc, hz, hs, fin => by
    obtain rfl : c = 0 := by omega
    apply w_wstep
    sizeOf_list_dec
    rw [outF, List.append_nil] at fin
    exact fin _ (hs.sub (by and_intros))
  | f + 1, c, acc, τ, hf, hc, hz, hs, fin => by
    by_cases c0 : c = 0
    · subst c0
      apply w_wstep
      sizeOf_list_dec
      rw [outF, if_pos rfl, List.append_nil] at fin
      exact fin _ (hs.sub (by and_intros))
    · have b := big_ok hc (by omega)
      have ih := so_loop (N := N) (M0 := M0) (a := a) f (c - bigF 9 1 c) (acc ++ [bigF 9 1 c])
      rw [outF, if_neg c0] at fin
      generalize hW : wWhile (dTru (dVar 0)) bSo N (f + 1) = W at ih
      apply w_wstep
      rw [hW]
      sizeOf_list_dec
      refine w_while 10 ?_
      refine si_loop (a := .ref a) hc 9 1 _ (by omega) b.2.2 (hs.sub (by and_intros)) fun τ' hs' => ?_
      clear hs
      sizeOf_list_dec
      have := ih _ (by omega) (by omega) (by simp; omega) (hs.sub (by and_intros)) fun τ2 hs2 => by simpa using fin τ2 hs2
      simpa using this
theorem sem_sksizes (ds M Q E) (hl : ds.length = 1) (h : sp_sksizes ds M Q E) : X.skews.t_sizes_of (dEndsG Q E) (dstart 3 ds) M := by
  obtain ⟨n, rfl, hn, h⟩ := h
  unfold X.skews.t_sizes_of
  refine w_gN (w_start1 (by decide) fun τ hs => ?_)
  sizeOf_list_dec
  refine w_while (n + 1) ?_
  refine so_loop n n [] _ (Nat.le_refl _) hn (by simp; omega) (hs.sub (by and_intros)) fun τ' hs' => ?_
  clear hs
  sizeOf_list_dec
  have h := gcQ.new (o := .lst (([] ++ outF n n).map fun (k : Nat) => D.int (k : Int))) hpp h
  unfold sizF at h
  simpa [List.map_reverse, Function.comp_def] using h
end DL

set_option Elab.async false
set_option linter.all false
set_option maxRecDepth 100000
set_option maxHeartbeats 1000000
namespace DL
open PySem PySem.Spec PyProof.Rows L2 SK
set_option hygiene false in
local macro_rules | `(tactic| array_mem_dec) => `(tactic| first | assumption | exact mup_same | (apply mup_keep; (assumption; done); array_mem_dec) | (apply mup_keep2; array_get_dec; array_mem_dec))
set_option hygiene false in
local macro_rules | `(tactic| array_get_dec) => `(tactic| first | assumption | (apply Ne.symm; assumption) | exact ne_by (by assumption) (by array_mem_dec) | exact Ne.symm (ne_by (by assumption) (by array_mem_dec)))
set_option hygiene false in
local macro_rules | `(tactic| clean_wf) => `(tactic| first | exact Nat.le_of_ble_eq_true rfl | omega | (focus (simp; done)) | (simp; omega))
set_option hygiene false in
local macro_rules | `(tactic| sizeOf_list_dec) => `(tactic| repeat' (first
  | ((with_reducible apply w_gen); assumption; (first | exact Nat.le_of_ble_eq_true rfl | omega); intro τ hs)
  | ((with_reducible apply w_gen2); assumption; (first | exact Nat.le_of_ble_eq_true rfl | omega); (first | exact Nat.le_of_ble_eq_true rfl | omega); intro τ hs) | ((with_reducible apply w_gen3); assumption; (first | exact Nat.le_of_ble_eq_true rfl | omega); (first | exact Nat.le_of_ble_eq_true rfl | omega); (first | exact Nat.le_of_ble_eq_true rfl | omega); intro τ hs) | ((with_reducible apply w_gen4); assumption; (first | exact Nat.le_of_ble_eq_true rfl | omega); (first | exact Nat.le_of_ble_eq_true rfl | omega); (first | exact Nat.le_of_ble_eq_true rfl | omega); (first | exact Nat.le_of_ble_eq_true rfl | omega); intro τ hs)
  | with_reducible apply w_seq | with_reducible apply w_asg | with_reducible apply w_nx | with_reducible apply w_nrt | with_reducible apply w_lx | with_reducible apply w_lrt | with_reducible apply w_grt | with_reducible apply w_gx | with_reducible apply w_bin
  | ((with_reducible apply w_var); assumption; rfl)
  | with_reducible apply w_c | with_reducible apply w_nil | with_reducible apply w_cons | with_reducible apply w_call | ((with_reducible apply w_ar); rfl) | with_reducible apply w_cb
  | with_reducible apply w_drop | with_reducible apply w_ret | with_reducible apply w_if | with_reducible apply w_next | with_reducible apply w_dB | with_reducible apply w_isB | with_reducible apply w_tru
  | ((with_reducible apply w_truK); (first | exact tr_bl | exact tr_int | exact tr_non | exact tr_tup | (apply tr_lst; array_mem_dec) | (apply tr_dk; array_mem_dec)))
  | with_reducible apply w_not | with_reducible apply w_and | with_reducible apply w_or | with_reducible apply w_yes
  | with_reducible apply w_itt | with_reducible apply w_itf | with_reducible apply w_ite0 | with_reducible apply w_itec | with_reducible apply w_iteS | (with_reducible apply w_ite <;> intro hc) | with_reducible apply w_itnot
  | ((with_reducible apply w_itp); (first | assumption | omega | (focus (simp; done)) | (focus (simp; omega)))) | ((with_reducible apply w_itn); (first | assumption | omega | (focus (simp; done)) | (focus (simp; omega)))) | (with_reducible apply w_itd <;> intro hc)
  | ((with_reducible apply w_itzp); (first | assumption | omega)) | ((with_reducible apply w_itzn); (first | assumption | omega)) | (with_reducible apply w_itz <;> intro hc)
  | ((with_reducible apply w_itbp); (first | assumption | rfl)) | ((with_reducible apply w_itbn); (first | assumption | rfl))
  | with_reducible apply w_add_i | with_reducible apply w_addI | with_reducible apply w_di0 | ((with_reducible apply w_di); (first | exact ⟨by decide, by decide⟩ | exact ⟨by decide, by decide, by decide⟩ | (unfold CMul; omega) | (show (0 : Int) < _; omega) | (show (0 : Int) ≤ _; omega)))
  | ((with_reducible apply w_mul_i); (first | (unfold CMul; omega) | assumption)) | ((with_reducible apply w_mulI); (first | (unfold CMul; omega) | assumption)) | with_reducible apply w_un | with_reducible apply w_dU
  | ((with_reducible apply w_ix_t); (first | exact atI_0 | exact atI_1 | exact atI_2 | exact atI_3 | exact atI_last | assumption))
  | ((with_reducible apply w_ix_l); array_mem_dec; (first | exact atI_0 | exact atI_1 | exact atI_2 | exact atI_3 | exact atI_last | assumption))
  | with_reducible apply w_eq_i | with_reducible apply w_ne_i | with_reducible apply w_eq_ti | with_reducible apply w_ne_ti | with_reducible apply w_eq_ni | with_reducible apply w_ne_ni | with_reducible apply w_eq_in | with_reducible apply w_ne_in | with_reducible apply w_eq_nn | with_reducible apply w_ne_nn | with_reducible apply w_eq_b | with_reducible apply w_ne_b
  | ((with_reducible apply w_eq_li); array_mem_dec; array_mem_dec) | ((with_reducible apply w_ne_li); array_mem_dec; array_mem_dec)
  | with_reducible apply w_len_t | ((with_reducible apply w_len_l); array_mem_dec) | ((with_reducible apply w_len_d); array_mem_dec)
  | ((with_reducible apply w_sz); clean_wf) | with_reducible apply w_tup | with_reducible apply w_lst
  | with_reducible apply w_ml | with_reducible apply w_ml0 | ((with_reducible apply w_isl); array_mem_dec)
  | ((with_reducible apply w_append1); rfl; clean_wf) | ((with_reducible apply w_append); array_mem_dec; clean_wf) | ((with_reducible apply w_pop); array_mem_dec; clean_wf)
  | with_reducible apply w_tuple_t | ((with_reducible apply w_tuple_l); array_mem_dec) | with_reducible apply w_list_t | ((with_reducible apply w_list_l); array_mem_dec)
  | with_reducible apply w_slice | with_reducible apply w_nop | with_reducible apply w_prt | with_reducible apply w_prtK | with_reducible apply w_sl_t1 | with_reducible apply w_sl_t2 | with_reducible apply w_sl_tl | ((with_reducible apply w_sl_l1); array_mem_dec) | ((with_reducible apply w_sl_ll); array_mem_dec) | with_reducible apply w_sl_t | ((with_reducible apply w_sl_l); array_mem_dec)
  | ((with_reducible apply w_add_t1); clean_wf) | ((with_reducible apply w_add_t0); clean_wf) | ((with_reducible apply w_add_t); clean_wf) | ((with_reducible apply w_add_l); array_mem_dec; array_mem_dec; clean_wf)
  | with_reducible apply w_is_nf | with_reducible apply w_is_nt
  | with_reducible apply w_par | with_reducible apply w_parK | with_reducible apply w_par3 | with_reducible apply w_parK3
  | ((with_reducible apply w_aug); assumption; rfl)
  | with_reducible apply w_asgG | ((with_reducible apply w_wipeG); assumption; intro τ hs) | ((with_reducible apply w_gNm); assumption; (first | exact Nat.le_of_ble_eq_true rfl | omega); intro τ hs) | ((with_reducible apply w_gTup); rfl) | with_reducible apply w_gNil | with_reducible apply w_gCons | with_reducible apply w_gSub
  | with_reducible apply w_break | with_reducible apply w_cont | with_reducible apply w_retN | with_reducible apply w_nbk | with_reducible apply w_nct | with_reducible apply w_nex | with_reducible apply w_lbk | with_reducible apply w_lct | with_reducible apply w_lex | with_reducible apply w_xx | with_reducible apply w_xrt | with_reducible apply w_xbk | with_reducible apply w_xct | with_reducible apply w_xex | with_reducible apply w_gex | with_reducible apply w_raise | with_reducible apply w_try
  | with_reducible apply w_ife | with_reducible apply w_andV | with_reducible apply w_orV | with_reducible apply w_notV
  | ((with_reducible apply w_andVK); (first | exact tr_bl | exact tr_int | exact tr_non | exact tr_tup | (apply tr_lst; array_mem_dec) | (apply tr_dk; array_mem_dec)))
  | ((with_reducible apply w_orVK); (first | exact tr_bl | exact tr_int | exact tr_non | exact tr_tup | (apply tr_lst; array_mem_dec) | (apply tr_dk; array_mem_dec)))
  | ((with_reducible apply w_notVK); (first | exact tr_bl | exact tr_int | exact tr_non | exact tr_tup | (apply tr_lst; array_mem_dec) | (apply tr_dk; array_mem_dec)))
  | with_reducible apply w_chain | with_reducible apply w_chKt | with_reducible apply w_chKf | ((with_reducible apply w_chKp); (first | assumption | omega | (focus (simp; done)) | (focus (simp; omega)))) | ((with_reducible apply w_chKn); (first | assumption | omega | (focus (simp; done)) | (focus (simp; omega)))) | (with_reducible apply w_chKd <;> intro hc)
  | with_reducible apply w_bits | with_reducible apply w_bitK | with_reducible apply w_int_i | with_reducible apply w_max2 | with_reducible apply w_min2 | with_reducible apply w_abs
  | ((with_reducible apply w_sum); array_mem_dec) | ((with_reducible apply w_all); array_mem_dec) | ((with_reducible apply w_any); array_mem_dec) | ((with_reducible apply w_anyA_i); array_mem_dec) | ((with_reducible apply w_anyA_b); array_mem_dec)
  | with_reducible apply w_for | with_reducible apply w_iseq | with_reducible apply w_seqI_t | ((with_reducible apply w_seqI_l); array_mem_dec) | with_reducible apply w_iargs
  | ((with_reducible apply w_rng1); (constructor <;> omega)) | ((with_reducible apply w_rng2); (constructor <;> omega); (constructor <;> omega))
  | with_reducible apply w_irev | with_reducible apply w_rev_t | ((with_reducible apply w_rev_l); array_mem_dec) | with_reducible apply w_zip_t | ((with_reducible apply w_zip_l); array_mem_dec; array_mem_dec) | with_reducible apply w_izipr | ((with_reducible apply w_zr1); array_mem_dec) | with_reducible apply w_enum_t | ((with_reducible apply w_enum_l); array_mem_dec)
  | with_reducible apply w_dict | ((with_reducible apply w_ix_d); array_mem_dec; rfl; assumption) | ((with_reducible apply w_in_d); array_mem_dec; rfl) | ((with_reducible apply w_nin_d); array_mem_dec; rfl) | ((with_reducible apply w_set_d); array_mem_dec; rfl; clean_wf)
  | ((with_reducible apply w_take); array_mem_dec; (first | decide | omega); intro r hr0 hr1) | with_reducible apply w_spbits | with_reducible apply w_isnum_i | with_reducible apply w_isnum_b | with_reducible apply w_isnum_n | with_reducible apply w_isnum_t | with_reducible apply w_isnum_s | ((with_reducible apply w_keyX1); rfl; (first | assumption | (simp [keyB]; omega)))
  | with_reducible apply w_lamG | with_reducible apply w_lam | with_reducible apply w_lc | with_reducible apply w_lc2 | with_reducible apply w_gany | (with_reducible apply w_gat; array_mem_dec) | ((with_reducible apply w_gat2); array_mem_dec; array_mem_dec) | with_reducible apply w_lc0 | with_reducible apply w_lc1 | ((with_reducible apply w_lcK1); rfl; clean_wf) | ((with_reducible apply w_lcK); array_mem_dec; clean_wf) | with_reducible apply w_li0 | with_reducible apply w_li1 | ((with_reducible apply w_liK1); rfl; clean_wf) | ((with_reducible apply w_liK); array_mem_dec; clean_wf) | with_reducible apply w_lo0 | with_reducible apply w_lo1 | with_reducible apply w_fnil | with_reducible apply w_fcons | with_reducible apply w_augS
  | ((with_reducible apply w_ne_ss); decide +kernel) | ((with_reducible apply w_eq_ss); decide +kernel) | ((with_reducible apply w_draws); assumption; omega; decide; decide)
  | with_reducible apply w_tupRev | with_reducible apply w_tupRevT | ((with_reducible apply w_tupRevL); array_mem_dec) | with_reducible apply w_lstRg1 | ((with_reducible apply w_lstRgK); (constructor <;> omega))
  | (show ∀ p, _ = none → _; intro pp hpp)))
set_option hygiene false in
local macro_rules | `(tactic| and_intros) => `(tactic| ((repeat' (first | exact trivial | apply And.intro)) <;> (refine congrArg some (?_ : (_ : D) = _)) <;> (first | with_reducible rfl | with_reducible exact Eq.refl _ | (refine congrArg D.int ?_; (first | omega | (simp; omega) | (focus (simp; done)))) | (focus (simp; done)) | rfl)))
set_option hygiene false in
local macro_rules | `(tactic| get_elem_tactic_trivial) => `(tactic| first | exact MLe.refl _ | assumption | (apply mle_up; get_elem_tactic_trivial; (first | assumption | exact mup_non1 (by assumption) | exact mup_non1 (mup_non1 (by assumption)) | exact mup_non1 (mup_non1 (mup_non1 (by assumption))) | exact mup_non1 (mup_non1 (mup_non1 (mup_non1 (by assumption)))) | exact mup_non1 (mup_non1 (mup_non1 (mup_non1 (mup_non1 (by assumption))))) | exact mup_non1 (mup_non1 (mup_non1 (mup_non1 (mup_non1 (mup_non1 (by assumption)))))) | exact mup_non1 (mup_non1 (mup_non1 (mup_non1 (mup_non1 (mup_non1 (mup_non1 (by assumption))))))) | exact mup_non1 (mup_non1 (mup_non1 (mup_non1 (mup_non1 (mup_non1 (mup_non1 (mup_non1 (by assumption)))))))) | exact mle_non (by assumption) (by first | assumption | exact mup_non1 (by assumption) | exact mup_non1 (mup_non1 (by assumption)) | exact mup_non1 (mup_non1 (mup_non1 (by assumption))) | exact mup_non1 (mup_non1 (mup_non1 (mup_non1 (by assumption)))) | exact mup_non1 (mup_non1 (mup_non1 (mup_non1 (mup_non1 (by assumption))))) | exact mup_non1 (mup_non1 (mup_non1 (mup_non1 (mup_non1 (mup_non1 (by assumption)))))) | exact mup_non1 (mup_non1 (mup_non1 (mup_non1 (mup_non1 (mup_non1 (mup_non1 (by assumption))))))) | exact mup_non1 (mup_non1 (mup_non1 (mup_non1 (mup_non1 (mup_non1 (mup_non1 (mup_non1 (by assumption))))))))))))

theorem zipL_map {α β : Type} (f : α → D) (g : β → D) : ∀ (xs : List α) (ys : List β), zipL (xs.map f) (ys.map g) = (xs.zip ys).map fun p => .tup [f p.1, g p.2]
  | [], _ => by simp [zipL]
  | _ :: _, [] => by simp [zipL]
  | x :: xs, y :: ys => by simp [zipL, zipL_map f g xs ys]
namespace SK
theorem isNon_mk {h : Nat} {ks : List Int} (hl : sz h ≤ ks.length) : isNon (mk h ks).enc = decide (h = 0) := by
  cases h with
  | zero => rfl
  | succ h =>
    cases ks with
    | nil => rw [sz_succ] at hl; simp at hl
    | cons k ks => rw [mk, PT.enc]; rfl
/-- the sides of a level -/
def kidsL (h : Nat) : List (List Int) → List (List Int)
  | [] => []
  | [] :: ls => kidsL h ls
  | (_ :: ks) :: ls => ks :: ks.drop (sz h) :: kidsL h ls
theorem kidsL_len (h : Nat) : ∀ ls : List (List Int), (∀ ks ∈ ls, sz (h + 1) ≤ ks.length) → (kidsL h ls).length = 2 * ls.length
  | [], _ => rfl
  | [] :: ls, hk => by have := hk [] (by simp); rw [sz_succ] at this; simp at this
  | (_ :: ks) :: ls, hk => by
    rw [kidsL, List.length_cons, List.length_cons, kidsL_len h ls (fun k h => hk k (by simp [h])), List.length_cons]; omega
theorem kidsL_ok (h : Nat) : ∀ ls : List (List Int), (∀ ks ∈ ls, sz (h + 1) ≤ ks.length) → ∀ ks ∈ kidsL h ls, sz h ≤ ks.length
  | [], _, ks, hm => by simp [kidsL] at hm
  | [] :: ls, hk, _, _ => by have := hk [] (by simp); rw [sz_succ] at this; simp at this
  | (k :: ks) :: ls, hk, x, hm => by
    have h1 := hk (k :: ks) (by simp)
    rw [sz_succ] at h1
    simp only [List.length_cons] at h1
    rw [kidsL] at hm
    rcases List.mem_cons.mp hm with rfl | hm
    · omega
    · rcases List.mem_cons.mp hm with rfl | hm
      · simp; omega
      · exact kidsL_ok h ls (fun k h => hk k (by simp [h])) x hm
def szF (n : Nat) : List Int := (hts n).map fun (h : Nat) => (sz h : Int)
def szB (n : Nat) : Bool := (((szF n).map fun s => Builtin.bitAnd (s + 1) s).any fun x => x != 0) == false && (((((szF n).drop 1).zip ((szF n).drop 2)).map fun p => decide (p.1 < p.2)).all id) && (match szF n with | a :: b :: _ => decide (a ≤ b) | _ => true)
theorem sz_all : ∀ n, n < 62 → szB n = true := by decide +kernel
end SK
def badR (d : D) : Prop := d = .tup [.tup [.int 2, .tup [.int 1, .non, .non]]] ∨ d = .tup [.tup [.int 3, .tup [.int 1, .tup [.int 1, .non, .non], .non]]]
def sp_skright : DSp := fun ds M Q E => (∃ (n : Nat) (ks : List Int), ds = [.tup (encR (hts n) ks)] ∧ n < 62 ∧ ks.length = n ∧ Q (.bl true) M) ∨ ∃ d, ds = [d] ∧ badR d ∧ Q (.bl false) M
def lcN (neg : Bool) : TDE := (dLc (iSeqD (dVar 7)) (dgName 9) (dYes) (dBin (isD neg) (dVar 9) (dC .non)) [9])
abbrev lcK2 : TDE := (dLc2 (iSeqD (dVar 7)) (dgName 9) (dYes) (iSeqD (dSlice (dVar 9) (dPart (dC (.int 1))) (dNoPart))) (dgName 10) (dYes) (dVar 10) [9, 10] [10])
theorem lk_loop {M : Mp} {p a : Addr} {W : List D} {τ : DSt} {Q : DQ} {h : Nat} (hs : Sl 11 [] τ) (ha : M a = some (.lst W)) (n : a ≠ p) : ∀ (ls : List (List Int)) (acc : List D), (∀ ks ∈ ls, sz (h + 1) ≤ ks.length) → acc.length + 2 * ls.length ≤ 10000 →
    Q (.ref p) (mup M p (.lst (acc ++ (kidsL h ls).map fun ks => (mk h ks).enc))) → wLo (isAt a W) (dgName 9) dYes (iSeqD (dSlice (dVar 9) (dPart (dC (.int 1))) (dNoPart))) (dgName 10) dYes (dVar 10) [10] τ p Q (ls.map fun ks => (mk (h + 1) ks).enc) (mup M p (.lst acc))
  | [], acc, _, _, fin => by
    refine w_lo0 (by array_mem_dec) ?_
    simpa [kidsL] using fin
  | [] :: ls, acc, hk, _, _ => by have := hk [] (by simp); rw [sz_succ] at this; simp at this
  | (k :: ks) :: ls, acc, hk, hz, fin => by
    have ih := lk_loop (Q := Q) (h := h) hs ha n ls (acc ++ [(mk h ks).enc] ++ [(mk h (ks.drop (sz h))).enc]) (fun x hx => hk x (by simp [hx])) (by simp at hz ⊢; omega)
    rw [List.map_cons]
    generalize hL : (ls.map fun ks => (mk (h + 1) ks).enc) = L at ih
    refine w_lo1 (by array_mem_dec) ?_
    rw [mk, PT.enc]
    simp only [List.length_cons] at hz
    sizeOf_list_dec
    refine ih ?_
    simpa [kidsL] using fin
abbrev bLv : TDS := (dSeq (dIfS (dTru (dCB anyA (dCons (lcN false) (dNil)))) (dRet (dC (.bl false))) (dNext)) (dSeq (dAug 8 (dCB lenD (dCons (dVar 7) (dNil))) addI) (dAsg lcK2 (dgName 7))))
abbrev cLv : TDT := (dTru (dCB anyA (dCons (lcN true) (dNil))))
theorem any_const {α : Type} {b : Bool} {l : List α} (h : l ≠ []) : ((l.map fun _ => b).any id) = b := by
  cases l with
  | nil => exact absurd rfl h
  | cons x l =>
    induction l with
    | nil => simp
    | cons y l ih => cases b <;> simp_all
theorem lc_non {τ : DSt} {M : Mp} {Q : DQ} {E : DX} {a : Addr} {h : Nat} {ls : List (List Int)} {neg : Bool} {l : List (Nat × D)} (hs : Sl 11 l τ) (h7 : slk 7 l = some (.ref a)) (ha : M a = some (.lst (ls.map fun ks => (mk h ks).enc))) (hk : ∀ ks ∈ ls, sz h ≤ ks.length) (hz : ls.length ≤ 10000)
    (fin : ∀ p, M p = none → Q (.ref p) (mup M p (.lst ((ls.map fun _ => (if neg then !decide (h = 0) else decide (h = 0))).map D.bl)))) : lcN neg τ M Q E := by
  refine w_lc (w_iseq ?_)
  refine w_var hs h7 ?_
  refine w_seqI_l ha ?_
  intro p hp
  refine wLc_of (fun ks => (mk h ks).enc) (fun _ => .bl (if neg then !decide (h = 0) else decide (h = 0))) _ (fun ks hks acc R hR => ?_) (by omega) (fun acc => by array_mem_dec) (by simpa [Function.comp_def] using fin p hp)
  have e := isNon_mk (hk ks hks)
  cases neg
  · sizeOf_list_dec
    rw [e]; exact hR
  · sizeOf_list_dec
    rw [e]; exact hR
theorem lv_loop {N : DEn} {M0 : Mp} {r v : D} : ∀ (h : Nat) (ls : List (List Int)) (a : Addr) (c : Nat) (τ : DSt) (M : Mp), ls ≠ [] → (∀ ks ∈ ls, sz h ≤ ks.length) → ls.length * 2 ^ h ≤ 1000 → h ≤ 9 → Sl 11 [(0, r), (1, v), (7, .ref a), (8, .int (c : Int))] τ → MLe M0 M → M a = some (.lst (ls.map fun ks => (mk h ks).enc)) →
    (∀ τ' M', Sl 11 [(0, r), (1, v), (8, .int ((c + ls.length * sz h : Nat) : Int))] τ' → MLe M0 M' → N.nx τ' M') → wWhile cLv bLv N (h + 1) τ M
  | 0, ls, a, c, τ, M, hne, hk, hz, h9, hs, hm, ha, fin => by
    apply w_wstep
    refine w_tru (w_cb (w_cons ?_))
    refine lc_non hs rfl ha hk (by omega) fun p hp => ?_
    simp only [if_true, decide_true, Bool.not_true]
    sizeOf_list_dec
    rw [any_const hne]
    sizeOf_list_dec
    exact fin _ _ (by simpa [sz] using hs.sub (l' := [(0, r), (1, v), (8, .int (c : Int))]) (by and_intros)) (mle_up hm (mle_non hm hp))
  | h + 1, ls, a, c, τ, M, hne, hk, hz, h9, hs, hm, ha, fin => by
    have hz1 : ls.length ≤ ls.length * 2 ^ (h + 1) := Nat.le_mul_of_pos_right _ (Nat.pos_of_ne_zero (by simp))
    have kl := kidsL_len h ls hk
    have ih := lv_loop (N := N) (M0 := M0) (r := r) (v := v) h (kidsL h ls)
    generalize hW : wWhile cLv bLv N (h + 1) = W at ih
    apply w_wstep
    rw [hW]
    refine w_tru (w_cb (w_cons ?_))
    refine lc_non hs rfl ha hk (by omega) fun p hp => ?_
    simp only [if_true, Nat.succ_ne_zero, decide_false, Bool.not_false]
    sizeOf_list_dec
    rw [any_const hne]
    have ha2 : mup M p (.lst ((ls.map fun _ => true).map D.bl)) a = some (.lst (ls.map fun ks => (mk (h + 1) ks).enc)) := mup_keep hp ha
    have hm2 : MLe M0 (mup M p (.lst ((ls.map fun _ => true).map D.bl))) := mle_up hm (mle_non hm hp)
    generalize mup M p (.lst ((ls.map fun _ => true).map D.bl)) = M2 at ha2 hm2
    clear ha hm
    sizeOf_list_dec
    refine lc_non hs rfl ha2 hk (by omega) fun p2 hp2 => ?_
    simp only [if_false, Nat.succ_ne_zero, decide_false, Bool.false_eq_true]
    sizeOf_list_dec
    rw [any_const hne]
    have ha3 : mup M2 p2 (.lst ((ls.map fun _ => false).map D.bl)) a = some (.lst (ls.map fun ks => (mk (h + 1) ks).enc)) := mup_keep hp2 ha2
    have hm3 : MLe M0 (mup M2 p2 (.lst ((ls.map fun _ => false).map D.bl))) := mle_up hm2 (mle_non hm2 hp2)
    generalize mup M2 p2 (.lst ((ls.map fun _ => false).map D.bl)) = M3 at ha3 hm3
    clear ha2 hm2
    sizeOf_list_dec
    refine lk_loop (hs.wipe _ |>.sub trivial) ha3 (by array_get_dec) ls [] hk (by simp; omega) ?_
    sizeOf_list_dec
    have hp7 : 0 < 2 ^ h := Nat.pos_of_ne_zero (by simp)
    refine ih pp (c + ls.length) _ _ (fun z => by rw [z] at kl; simp at kl; exact hne (List.length_eq_zero_iff.mp (by omega))) (kidsL_ok h ls hk) (by rw [kl]; rw [Nat.pow_succ] at hz; rw [Nat.mul_assoc, Nat.mul_comm 2, Nat.mul_assoc]; exact hz) (by omega) (hs.sub (by and_intros)) (mle_up hm3 (mle_non hm3 hpp)) (by rw [mup_same]; simp) fun τ' M' hs' hm' => fin τ' M' ?_ hm'
    rw [kl] at hs'
    rw [sz_succ]
    have e : c + ls.length + 2 * ls.length * sz h = c + ls.length * (2 * sz h + 1) := by
      rw [Nat.mul_add, Nat.mul_one, Nat.mul_comm 2 ls.length, Nat.mul_assoc]; omega
    rw [e] at hs'
    exact hs'
end DL

set_option Elab.async false
set_option linter.all false
set_option maxRecDepth 100000
set_option maxHeartbeats 4000000
namespace DL
open PySem PySem.Spec PyProof.Rows L2 SK
set_option hygiene false in
local macro_rules | `(tactic| array_mem_dec) => `(tactic| first | assumption | exact mup_same | (apply mup_keep; (assumption; done); array_mem_dec) | (apply mup_keep2; array_get_dec; array_mem_dec))
set_option hygiene false in
local macro_rules | `(tactic| array_get_dec) => `(tactic| first | assumption | (apply Ne.symm; assumption) | exact ne_by (by assumption) (by array_mem_dec) | exact Ne.symm (ne_by (by assumption) (by array_mem_dec)))
set_option hygiene false in
local macro_rules | `(tactic| clean_wf) => `(tactic| first | exact Nat.le_of_ble_eq_true rfl | omega | (focus (simp; done)) | (simp; omega))
set_option hygiene false in
local macro_rules | `(tactic| sizeOf_list_dec) => `(tactic| repeat' (first
  | ((with_reducible apply w_gen); assumption; (first | exact Nat.le_of_ble_eq_true rfl | omega); intro τ hs)
  | ((with_reducible apply w_gen2); assumption; (first | exact Nat.le_of_ble_eq_true rfl | omega); (first | exact Nat.le_of_ble_eq_true rfl | omega); intro τ hs) | ((with_reducible apply w_gen3); assumption; (first | exact Nat.le_of_ble_eq_true rfl | omega); (first | exact Nat.le_of_ble_eq_true rfl | omega); (first | exact Nat.le_of_ble_eq_true rfl | omega); intro τ hs) | ((with_reducible apply w_gen4); assumption; (first | exact Nat.le_of_ble_eq_true rfl | omega); (first | exact Nat.le_of_ble_eq_true rfl | omega); (first | exact Nat.le_of_ble_eq_true rfl | omega); (first | exact Nat.le_of_ble_eq_true rfl | omega); intro τ hs)
  | with_reducible apply w_seq | with_reducible apply w_asg | with_reducible apply w_nx | with_reducible apply w_nrt | with_reducible apply w_lx | with_reducible apply w_lrt | with_reducible apply w_grt | with_reducible apply w_gx | with_reducible apply w_bin
  | ((with_reducible apply w_var); assumption; rfl)
  | with_reducible apply w_c | with_reducible apply w_nil | with_reducible apply w_cons | with_reducible apply w_call | ((with_reducible apply w_ar); rfl) | with_reducible apply w_cb
  | with_reducible apply w_drop | with_reducible apply w_ret | with_reducible apply w_if | with_reducible apply w_next | with_reducible apply w_dB | with_reducible apply w_isB | with_reducible apply w_tru
  | ((with_reducible apply w_truK); (first | exact tr_bl | exact tr_int | exact tr_non | exact tr_tup | (apply tr_lst; array_mem_dec) | (apply tr_dk; array_mem_dec)))
  | with_reducible apply w_not | with_reducible apply w_and | with_reducible apply w_or | with_reducible apply w_yes
  | with_reducible apply w_itt | with_reducible apply w_itf | with_reducible apply w_ite0 | with_reducible apply w_itec | with_reducible apply w_iteS | (with_reducible apply w_ite <;> intro hc) | with_reducible apply w_itnot
  | ((with_reducible apply w_itp); (first | assumption | omega | (focus (simp; done)) | (focus (simp; omega)))) | ((with_reducible apply w_itn); (first | assumption | omega | (focus (simp; done)) | (focus (simp; omega)))) | (with_reducible apply w_itd <;> intro hc)
  | ((with_reducible apply w_itzp); (first | assumption | omega)) | ((with_reducible apply w_itzn); (first | assumption | omega)) | (with_reducible apply w_itz <;> intro hc)
  | ((with_reducible apply w_itbp); (first | assumption | rfl)) | ((with_reducible apply w_itbn); (first | assumption | rfl))
  | with_reducible apply w_add_i | with_reducible apply w_addI | with_reducible apply w_di0 | ((with_reducible apply w_di); (first | exact ⟨by decide, by decide⟩ | exact ⟨by decide, by decide, by decide⟩ | (unfold CMul; omega) | (show (0 : Int) < _; omega) | (show (0 : Int) ≤ _; omega)))
  | ((with_reducible apply w_mul_i); (first | (unfold CMul; omega) | assumption)) | ((with_reducible apply w_mulI); (first | (unfold CMul; omega) | assumption)) | with_reducible apply w_un | with_reducible apply w_dU
  | ((with_reducible apply w_ix_t); (first | exact atI_0 | exact atI_1 | exact atI_2 | exact atI_3 | exact atI_last | assumption))
  | ((with_reducible apply w_ix_l); array_mem_dec; (first | exact atI_0 | exact atI_1 | exact atI_2 | exact atI_3 | exact atI_last | assumption))
  | with_reducible apply w_eq_i | with_reducible apply w_ne_i | with_reducible apply w_eq_ti | with_reducible apply w_ne_ti | with_reducible apply w_eq_ni | with_reducible apply w_ne_ni | with_reducible apply w_eq_in | with_reducible apply w_ne_in | with_reducible apply w_eq_nn | with_reducible apply w_ne_nn | with_reducible apply w_eq_b | with_reducible apply w_ne_b
  | ((with_reducible apply w_eq_li); array_mem_dec; array_mem_dec) | ((with_reducible apply w_ne_li); array_mem_dec; array_mem_dec)
  | with_reducible apply w_len_t | ((with_reducible apply w_len_l); array_mem_dec) | ((with_reducible apply w_len_d); array_mem_dec)
  | ((with_reducible apply w_sz); clean_wf) | with_reducible apply w_tup | with_reducible apply w_lst
  | with_reducible apply w_ml | with_reducible apply w_ml0 | ((with_reducible apply w_isl); array_mem_dec)
  | ((with_reducible apply w_append1); rfl; clean_wf) | ((with_reducible apply w_append); array_mem_dec; clean_wf) | ((with_reducible apply w_pop); array_mem_dec; clean_wf)
  | with_reducible apply w_tuple_t | ((with_reducible apply w_tuple_l); array_mem_dec) | with_reducible apply w_list_t | ((with_reducible apply w_list_l); array_mem_dec)
  | with_reducible apply w_slice | with_reducible apply w_nop | with_reducible apply w_prt | with_reducible apply w_prtK | with_reducible apply w_sl_t1 | with_reducible apply w_sl_t2 | with_reducible apply w_sl_tl | ((with_reducible apply w_sl_l1); array_mem_dec) | ((with_reducible apply w_sl_ll); array_mem_dec) | with_reducible apply w_sl_t | ((with_reducible apply w_sl_l); array_mem_dec)
  | ((with_reducible apply w_add_t1); clean_wf) | ((with_reducible apply w_add_t0); clean_wf) | ((with_reducible apply w_add_t); clean_wf) | ((with_reducible apply w_add_l); array_mem_dec; array_mem_dec; clean_wf)
  | with_reducible apply w_is_nf | with_reducible apply w_is_nt
  | with_reducible apply w_par | with_reducible apply w_parK | with_reducible apply w_par3 | with_reducible apply w_parK3
  | ((with_reducible apply w_aug); assumption; rfl)
  | with_reducible apply w_asgG | ((with_reducible apply w_wipeG); assumption; intro τ hs) | ((with_reducible apply w_gNm); assumption; (first | exact Nat.le_of_ble_eq_true rfl | omega); intro τ hs) | ((with_reducible apply w_gTup); rfl) | with_reducible apply w_gNil | with_reducible apply w_gCons | with_reducible apply w_gSub
  | with_reducible apply w_break | with_reducible apply w_cont | with_reducible apply w_retN | with_reducible apply w_nbk | with_reducible apply w_nct | with_reducible apply w_nex | with_reducible apply w_lbk | with_reducible apply w_lct | with_reducible apply w_lex | with_reducible apply w_xx | with_reducible apply w_xrt | with_reducible apply w_xbk | with_reducible apply w_xct | with_reducible apply w_xex | with_reducible apply w_gex | with_reducible apply w_raise | with_reducible apply w_try
  | with_reducible apply w_ife | with_reducible apply w_andV | with_reducible apply w_orV | with_reducible apply w_notV
  | ((with_reducible apply w_andVK); (first | exact tr_bl | exact tr_int | exact tr_non | exact tr_tup | (apply tr_lst; array_mem_dec) | (apply tr_dk; array_mem_dec)))
  | ((with_reducible apply w_orVK); (first | exact tr_bl | exact tr_int | exact tr_non | exact tr_tup | (apply tr_lst; array_mem_dec) | (apply tr_dk; array_mem_dec)))
  | ((with_reducible apply w_notVK); (first | exact tr_bl | exact tr_int | exact tr_non | exact tr_tup | (apply tr_lst; array_mem_dec) | (apply tr_dk; array_mem_dec)))
  | with_reducible apply w_chain | with_reducible apply w_chKt | with_reducible apply w_chKf | ((with_reducible apply w_chKp); (first | assumption | omega | (focus (simp; done)) | (focus (simp; omega)))) | ((with_reducible apply w_chKn); (first | assumption | omega | (focus (simp; done)) | (focus (simp; omega)))) | (with_reducible apply w_chKd <;> intro hc)
  | with_reducible apply w_bits | with_reducible apply w_bitK | with_reducible apply w_int_i | with_reducible apply w_max2 | with_reducible apply w_min2 | with_reducible apply w_abs
  | ((with_reducible apply w_sum); array_mem_dec) | ((with_reducible apply w_all); array_mem_dec) | ((with_reducible apply w_any); array_mem_dec) | ((with_reducible apply w_anyA_i); array_mem_dec) | ((with_reducible apply w_anyA_b); array_mem_dec)
  | with_reducible apply w_for | with_reducible apply w_iseq | with_reducible apply w_seqI_t | ((with_reducible apply w_seqI_l); array_mem_dec) | with_reducible apply w_iargs
  | ((with_reducible apply w_rng1); (constructor <;> omega)) | ((with_reducible apply w_rng2); (constructor <;> omega); (constructor <;> omega))
  | with_reducible apply w_irev | with_reducible apply w_rev_t | ((with_reducible apply w_rev_l); array_mem_dec) | with_reducible apply w_zip_t | ((with_reducible apply w_zip_l); array_mem_dec; array_mem_dec) | with_reducible apply w_izipr | ((with_reducible apply w_zr1); array_mem_dec) | with_reducible apply w_enum_t | ((with_reducible apply w_enum_l); array_mem_dec)
  | with_reducible apply w_dict | ((with_reducible apply w_ix_d); array_mem_dec; rfl; assumption) | ((with_reducible apply w_in_d); array_mem_dec; rfl) | ((with_reducible apply w_nin_d); array_mem_dec; rfl) | ((with_reducible apply w_set_d); array_mem_dec; rfl; clean_wf)
  | ((with_reducible apply w_take); array_mem_dec; (first | decide | omega); intro r hr0 hr1) | with_reducible apply w_spbits | with_reducible apply w_isnum_i | with_reducible apply w_isnum_b | with_reducible apply w_isnum_n | with_reducible apply w_isnum_t | with_reducible apply w_isnum_s | ((with_reducible apply w_keyX1); rfl; (first | assumption | (simp [keyB]; omega)))
  | with_reducible apply w_lamG | with_reducible apply w_lam | with_reducible apply w_lc | with_reducible apply w_lc2 | with_reducible apply w_gany | (with_reducible apply w_gat; array_mem_dec) | ((with_reducible apply w_gat2); array_mem_dec; array_mem_dec) | with_reducible apply w_lc0 | with_reducible apply w_lc1 | ((with_reducible apply w_lcK1); rfl; clean_wf) | ((with_reducible apply w_lcK); array_mem_dec; clean_wf) | with_reducible apply w_li0 | with_reducible apply w_li1 | ((with_reducible apply w_liK1); rfl; clean_wf) | ((with_reducible apply w_liK); array_mem_dec; clean_wf) | with_reducible apply w_lo0 | with_reducible apply w_lo1 | with_reducible apply w_fnil | with_reducible apply w_fcons | with_reducible apply w_augS
  | ((with_reducible apply w_ne_ss); decide +kernel) | ((with_reducible apply w_eq_ss); decide +kernel) | ((with_reducible apply w_draws); assumption; omega; decide; decide)
  | with_reducible apply w_tupRev | with_reducible apply w_tupRevT | ((with_reducible apply w_tupRevL); array_mem_dec) | with_reducible apply w_lstRg1 | ((with_reducible apply w_lstRgK); (constructor <;> omega))
  | (show ∀ p, _ = none → _; intro pp hpp)))
set_option hygiene false in
local macro_rules | `(tactic| and_intros) => `(tactic| ((repeat' (first | exact trivial | apply And.intro)) <;> (refine congrArg some (?_ : (_ : D) = _)) <;> (first | with_reducible rfl | with_reducible exact Eq.refl _ | (refine congrArg D.int ?_; (first | omega | (simp; omega) | (focus (simp; done)))) | (focus (simp; done)) | rfl)))
set_option hygiene false in
local macro_rules | `(tactic| get_elem_tactic_trivial) => `(tactic| first | exact MLe.refl _ | assumption | (apply mle_up; get_elem_tactic_trivial; (first | assumption | exact mup_non1 (by assumption) | exact mup_non1 (mup_non1 (by assumption)) | exact mup_non1 (mup_non1 (mup_non1 (by assumption))) | exact mup_non1 (mup_non1 (mup_non1 (mup_non1 (by assumption)))) | exact mup_non1 (mup_non1 (mup_non1 (mup_non1 (mup_non1 (by assumption))))) | exact mup_non1 (mup_non1 (mup_non1 (mup_non1 (mup_non1 (mup_non1 (by assumption)))))) | exact mup_non1 (mup_non1 (mup_non1 (mup_non1 (mup_non1 (mup_non1 (mup_non1 (by assumption))))))) | exact mup_non1 (mup_non1 (mup_non1 (mup_non1 (mup_non1 (mup_non1 (mup_non1 (mup_non1 (by assumption)))))))) | exact mle_non (by assumption) (by first | assumption | exact mup_non1 (by assumption) | exact mup_non1 (mup_non1 (by assumption)) | exact mup_non1 (mup_non1 (mup_non1 (by assumption))) | exact mup_non1 (mup_non1 (mup_non1 (mup_non1 (by assumption)))) | exact mup_non1 (mup_non1 (mup_non1 (mup_non1 (mup_non1 (by assumption))))) | exact mup_non1 (mup_non1 (mup_non1 (mup_non1 (mup_non1 (mup_non1 (by assumption)))))) | exact mup_non1 (mup_non1 (mup_non1 (mup_non1 (mup_non1 (mup_non1 (mup_non1 (by assumption))))))) | exact mup_non1 (mup_non1 (mup_non1 (mup_non1 (mup_non1 (mup_non1 (mup_non1 (mup_non1 (by assumption))))))))))))

abbrev bRg : TDS := (dSeq (dPar 7 8 (dCons (dLst (dCons (dVar 6) (dNil))) (dCons (dC (.int 0)) (dNil)))) (dSeq (dWhile cLv bLv) (dIfS (dB (dBin (eqD true) (dVar 8) (dVar 1))) (dRet (dC (.bl false))) (dNext))))
theorem rg_loop {N : DEn} {M0 : Mp} {gu : Mp → Prop} {r : D} (hg : ∀ M, gu M) : ∀ (L : List (Nat × List Int)) (τ : DSt) (M : Mp), (∀ x ∈ L, sz x.1 ≤ x.2.length ∧ x.1 ≤ 7) → Sl 11 [(0, r)] τ → MLe M0 M →
    (∀ τ' M', MLe M0 M' → N.nx τ' M') → wFor gu (dgTup 2 (dgCons (dgName 1) (dgCons (dgName 6) (dgNil)))) bRg N (L.map rowE) τ M
  | [], τ, M, _, hs, hm, fin => ⟨hg M, fin τ M hm⟩
  | (h, ks) :: L, τ, M, hk, hs, hm, fin => by
    have ih := rg_loop (N := N) (M0 := M0) (r := r) hg L
    obtain ⟨h1, h7⟩ := hk (h, ks) (by simp)
    simp only at h1 h7
    rw [List.map_cons]
    generalize hL : L.map rowE = L' at ih
    apply w_fcons (hg M)
    unfold rowE
    sizeOf_list_dec
    refine w_while (h + 1) ?_
    have p2 : 2 ^ h ≤ 128 := (by decide : ∀ h, h ≤ 7 → 2 ^ h ≤ 128) h h7
    refine lv_loop (M0 := M0) (r := r) (v := .int (sz h : Int)) h [ks] pp 0 _ _ (by simp) (fun x hx => by rw [List.mem_singleton.mp hx]; exact h1) (by simp; omega) (by omega) (hs.sub (by and_intros)) (mle_up hm (mle_non hm hpp)) (by rw [mup_same]; rfl) fun τ' M' hs' hm' => ?_
    have e : (0 + [ks].length * sz h) = sz h := by simp
    rw [e] at hs'
    clear hs
    sizeOf_list_dec
    exact ih _ _ (fun x hx => hk x (by simp [hx])) (hs'.sub (by and_intros)) hm' fin
theorem szOk2 {n : Nat} (hn : n < 62) : (((szF n).map fun s => Builtin.bitAnd (s + 1) s).any fun x => x != 0) = false ∧ ((((szF n).drop 1).zip ((szF n).drop 2)).map fun p => decide (p.1 < p.2)).all id = true ∧ ∀ a b r, szF n = a :: b :: r → a ≤ b := by
  have := sz_all n hn
  unfold szB at this
  simp only [Bool.and_eq_true, beq_iff_eq] at this
  refine ⟨this.1.1, this.1.2, fun a b r e => ?_⟩
  have h3 := this.2
  rw [e] at h3
  simpa using h3
theorem skr_good {M : Mp} {Q : DQ} {E : DX} {n : Nat} {ks : List Int} (hn : n < 62) (hk : ks.length = n) (h : Q (.bl true) M) : X.skews.t_is_right (dEndsG Q E) (dstart 11 [.tup (encR (hts n) ks)]) M := by
  unfold X.skews.t_is_right
  have H := ht_of (n := n) (by omega)
  obtain ⟨f1, f2, f3⟩ := szOk2 hn
  refine w_gN (w_start1 (by decide) fun τ hs => ?_)
  sizeOf_list_dec
  rw [encR_cut] at hs ⊢
  refine wLc_of rowE (fun p => .int (sz p.1 : Int)) _ (fun b hb acc R h => ?_) (by rw [cut_len]; have := H.len; omega) (fun _ => trivial) ?_
  · unfold rowE
    sizeOf_list_dec
    exact h
  have e : ((cut (hts n) ks).map fun p => D.int (sz p.1 : Int)) = (szF n).map D.int := by
    unfold szF
    rw [← cut_sz _ ks, List.map_map]; rfl
  rw [e]
  have hsl : (szF n).length ≤ 7 := by unfold szF; simpa using H.len
  have hm : MLe M (mup M pp (.lst ((szF n).map D.int))) := mle_up (.refl M) hpp
  have hx : mup M pp (.lst ((szF n).map D.int)) pp = some (.lst ((szF n).map D.int)) := mup_same
  generalize mup M pp (.lst ((szF n).map D.int)) = M1 at hm hx
  obtain ⟨pa, epa⟩ : ∃ pa, pa = pp := ⟨pp, rfl⟩
  subst epa
  sizeOf_list_dec
  refine wLc_of D.int (fun s => .int (Builtin.bitAnd (s + 1) s)) _ (fun b hb acc R h => ?_) (by omega) (fun _ => by array_mem_dec) ?_
  · sizeOf_list_dec
    exact h
  have e2 : ((szF n).map fun s => D.int (Builtin.bitAnd (s + 1) s)) = ((szF n).map fun s => Builtin.bitAnd (s + 1) s).map D.int := by rw [List.map_map]; rfl
  rw [e2]
  have hm2 : MLe M (mup M1 pp (.lst (((szF n).map fun s => Builtin.bitAnd (s + 1) s).map D.int))) := mle_up hm (mle_non hm hpp)
  have hx2 : mup M1 pp (.lst (((szF n).map fun s => Builtin.bitAnd (s + 1) s).map D.int)) pa = some (.lst ((szF n).map D.int)) := mup_keep hpp hx
  refine w_nil (w_anyA_i mup_same ?_)
  rw [f1]
  generalize mup M1 pp (.lst (((szF n).map fun s => Builtin.bitAnd (s + 1) s).map D.int)) = M2 at hm2 hx2
  clear hx hm
  sizeOf_list_dec
  have g1 : gcut ((szF n).map D.int) (some 1) none = ((szF n).drop 1).map D.int := by rw [gcut_from (by decide), List.map_drop]; rfl
  have g2 : gcut ((szF n).map D.int) (some 2) none = ((szF n).drop 2).map D.int := by rw [gcut_from (by decide), List.map_drop]; rfl
  rename_i p1 hp1 p2 hp2
  rw [g1, g2] at hpp ⊢
  rw [g1] at hp2
  rw [zipL_map]
  refine wLc_of (fun p : Int × Int => .tup [.int p.1, .int p.2]) (fun p => .bl (decide (p.1 < p.2))) _ (fun b hb acc R h => ?_) (by simp; omega) (fun _ => ⟨by array_mem_dec, by array_mem_dec⟩) ?_
  · sizeOf_list_dec
    exact h
  have e3 : (((szF n).drop 1).zip ((szF n).drop 2)).map (fun p => D.bl (decide (p.1 < p.2))) = ((((szF n).drop 1).zip ((szF n).drop 2)).map fun p => decide (p.1 < p.2)).map D.bl := by rw [List.map_map]; rfl
  rw [e3]
  refine w_nil (w_all mup_same ?_)
  rw [f2]
  refine w_truK rfl ?_
  have hm3 : MLe M (mup (mup (mup M2 p1 (.lst (((szF n).drop 1).map D.int))) p2 (.lst (((szF n).drop 2).map D.int))) pp (.lst (((((szF n).drop 1).zip ((szF n).drop 2)).map fun p => decide (p.1 < p.2)).map D.bl))) := by get_elem_tactic_trivial
  have hx3 : mup (mup (mup M2 p1 (.lst (((szF n).drop 1).map D.int))) p2 (.lst (((szF n).drop 2).map D.int))) pp (.lst (((((szF n).drop 1).zip ((szF n).drop 2)).map fun p => decide (p.1 < p.2)).map D.bl)) pa = some (.lst ((szF n).map D.int)) := by array_mem_dec
  generalize mup (mup (mup M2 p1 (.lst (((szF n).drop 1).map D.int))) p2 (.lst (((szF n).drop 2).map D.int))) pp (.lst (((((szF n).drop 1).zip ((szF n).drop 2)).map fun p => decide (p.1 < p.2)).map D.bl)) = M3 at hm3 hx3 ⊢
  have rest : wFor anyM (dgTup 2 (dgCons (dgName 1) (dgCons (dgName 6) (dgNil)))) bRg (nN (gN Q E) (dRet (dC (.bl true)) (gN Q E))) ((cut (hts n) ks).map rowE) τ M3 := by
    refine rg_loop (M0 := M) (r := .tup ((cut (hts n) ks).map rowE)) (fun _ => trivial) _ _ _ (fun x hx => ?_) (hs.sub (by and_intros)) hm3 fun τ' M' hm' => ?_
    · refine ⟨cut_long (hts n) ks (by rw [H.sum]; omega) x hx, ?_⟩
      have : x.1 ∈ hts n := by
        rw [← cut_fst (hts n) ks]; exact List.mem_map_of_mem hx
      have := (H.b _ this).2
      omega
    · sizeOf_list_dec
      exact gcQ.of hm' h
  cases e4 : szF n with
  | nil =>
    rw [e4] at hx3
    sizeOf_list_dec
    exact rest
  | cons s0 r =>
    cases r with
    | nil =>
      rw [e4] at hx3
      sizeOf_list_dec
      exact rest
    | cons s1 r =>
      have := f3 s0 s1 r e4
      rw [e4] at hx3
      rw [List.map_cons, List.map_cons] at hx3
      sizeOf_list_dec
      exact rest
theorem skr_b1 {M : Mp} {Q : DQ} {E : DX} (h : Q (.bl false) M) : X.skews.t_is_right (dEndsG Q E) (dstart 11 [.tup [.tup [.int 2, .tup [.int 1, .non, .non]]]]) M := by
  unfold X.skews.t_is_right
  refine w_gN (w_start1 (by decide) fun τ hs => ?_)
  sizeOf_list_dec
  simp only [List.nil_append]
  sizeOf_list_dec
  refine w_anyA_i (us := [2]) (by simp; decide) ?_
  sizeOf_list_dec
  exact gcQ.of (by get_elem_tactic_trivial) h
theorem any_step {τ : DSt} {M0 M : Mp} {R : Bool → Mp → Prop} {E : DX} {a : Addr} {xs : List D} {neg : Bool} {l : List (Nat × D)} (hs : Sl 11 l τ) (h7 : slk 7 l = some (.ref a)) (ha : M a = some (.lst xs)) (hz : xs.length ≤ 10000) (hm : MLe M0 M)
    (fin : ∀ M', MLe M0 M' → M' a = some (.lst xs) → R ((xs.map fun x => if neg then !isNon x else isNon x).any id) M') : dTru (dCB anyA (dCons (lcN neg) (dNil))) τ M R E := by
  refine w_tru (w_cb (w_cons (w_lc (w_iseq (w_var hs h7 (w_seqI_l ha ?_))))))
  intro p hp
  have := wLc_of (guard := isAt a xs) (gd := dgName 9) (te := dBin (isD neg) (dVar 9) (dC .non)) (τ := dwipe τ [9]) (p := p) (M := M) (fun x : D => x) (fun x => .bl (if neg then !isNon x else isNon x)) xs (Q := fun x M1 => dNil τ M1 (fun xs M2 => anyA (x :: xs) M2 (truK fun b M1 => R b M1)) E) (fun x hx acc R hR => ?_) (by omega) (fun acc => by array_mem_dec) ?_
  · simpa using this
  · cases neg
    · sizeOf_list_dec
      exact hR
    · sizeOf_list_dec
      exact hR
  · refine w_nil ?_
    have e : (xs.map fun x => D.bl (if neg then !isNon x else isNon x)) = (xs.map fun x => if neg then !isNon x else isNon x).map D.bl := by rw [List.map_map]; rfl
    rw [e]
    refine w_anyA_b mup_same (w_truK rfl ?_)
    exact fin _ (mle_up hm (mle_non hm hp)) (mup_keep hp ha)
theorem skr_b2 {M : Mp} {Q : DQ} {E : DX} (h : Q (.bl false) M) : X.skews.t_is_right (dEndsG Q E) (dstart 11 [.tup [.tup [.int 3, .tup [.int 1, .tup [.int 1, .non, .non], .non]]]]) M := by
  unfold X.skews.t_is_right
  refine w_gN (w_start1 (by decide) fun τ hs => ?_)
  sizeOf_list_dec
  rename_i pa hpa t1 h1 t2 h2 t3 h3
  clear h1 h2 h3
  have hm1 : MLe M (mup M pa (.lst ([] ++ [.int 3]))) := mle_up (.refl M) hpa
  have hx1 : mup M pa (.lst ([] ++ [.int 3])) pa = some (.lst [.int 3]) := mup_same
  generalize mup M pa (.lst ([] ++ [.int 3])) = M1 at hm1 hx1 hpp ⊢
  simp only [List.nil_append]
  sizeOf_list_dec
  refine w_anyA_i (us := [0]) (by simp; decide) ?_
  have hm2 : MLe M (mup M1 pp (.lst ([] ++ [.int (Builtin.bitAnd (3 + 1) 3)]))) := mle_up hm1 (mle_non hm1 hpp)
  have hx2 : mup M1 pp (.lst ([] ++ [.int (Builtin.bitAnd (3 + 1) 3)])) pa = some (.lst [.int 3]) := mup_keep hpp hx1
  generalize mup M1 pp (.lst ([] ++ [.int (Builtin.bitAnd (3 + 1) 3)])) = M2 at hm2 hx2 ⊢
  clear hm1 hx1
  sizeOf_list_dec
  rename_i p1 hp1 p2 hp2
  rw [show gcut [D.int 3] (some 2) none = [] from rfl, show zipL [] [] = [] from rfl] at *
  refine w_lc0 ⟨by array_mem_dec, by array_mem_dec⟩ (w_nil (w_all (us := []) mup_same (w_truK rfl ?_)))
  have hm3 : MLe M (mup (mup (mup M2 p1 (.lst [])) p2 (.lst [])) pp (.lst [])) := by get_elem_tactic_trivial
  have hx3 : mup (mup (mup M2 p1 (.lst [])) p2 (.lst [])) pp (.lst []) pa = some (.lst [.int 3]) := by array_mem_dec
  generalize mup (mup (mup M2 p1 (.lst [])) p2 (.lst [])) pp (.lst []) = M3 at hm3 hx3 ⊢
  clear hp1 hp2 hpp hm2 hx2
  sizeOf_list_dec
  refine w_while 2 ?_
  apply w_wstep
  have hm4 : MLe M (mup M3 pp (.lst [.tup [.int 1, .tup [.int 1, .non, .non], .non]])) := mle_up hm3 (mle_non hm3 hpp)
  have hx4 : mup M3 pp (.lst [.tup [.int 1, .tup [.int 1, .non, .non], .non]]) pp = some (.lst [.tup [.int 1, .tup [.int 1, .non, .non], .non]]) := mup_same
  generalize mup M3 pp (.lst [.tup [.int 1, .tup [.int 1, .non, .non], .non]]) = M4 at hm4 hx4 ⊢
  refine any_step (neg := true) hs rfl hx4 (by decide) hm4 fun M5 hm5 hx5 => w_itbp rfl (w_seq (w_if ?_))
  refine any_step (neg := false) hs rfl hx5 (by decide) hm5 fun M6 hm6 hx6 => w_itbn rfl ?_
  clear hm3 hx3 hm4 hx4 hm5 hx5
  sizeOf_list_dec
  simp only [List.nil_append, List.cons_append]
  apply w_wstep
  generalize hM7 : mup M6 pp (.lst [.tup [.int 1, .non, .non], .non]) = M7
  have hm7 : MLe M M7 := by rw [← hM7]; exact mle_up hm6 (mle_non hm6 hpp)
  have hx7 : M7 pp = some (.lst [.tup [.int 1, .non, .non], .non]) := by rw [← hM7]; exact mup_same
  clear hM7
  refine any_step (neg := true) hs rfl hx7 (by decide) hm7 fun M8 hm8 hx8 => w_itbp rfl (w_seq (w_if ?_))
  refine any_step (neg := false) hs rfl hx8 (by decide) hm8 fun M9 hm9 hx9 => w_itbp rfl ?_
  sizeOf_list_dec
  exact gcQ.of hm9 h
theorem sem_skright (ds M Q E) (hl : ds.length = 1) (h : sp_skright ds M Q E) : X.skews.t_is_right (dEndsG Q E) (dstart 11 ds) M := by
  rcases h with ⟨n, ks, rfl, hn, hk, h⟩ | ⟨d, rfl, rfl | rfl, h⟩
  · exact skr_good hn hk h
  · exact skr_b1 h
  · exact skr_b2 h
end DL

set_option Elab.async false
set_option linter.all false
set_option maxRecDepth 100000
set_option maxHeartbeats 4000000
namespace DL.K21
open PySem PySem.Spec PyProof.Rows L2 DL
def top (i : Nat) : Stmt := PySem.Challenge.pw_paidsteps_k21_whole_rows_of_trees.main.body.getD i (.Pass ⟨0, 0, 0, 0⟩)
abbrev FnP (K : Fr) (x : Str) (i : Nat) (f : Addr) (fd : FuncData) : Prop := FunD K x x (defArgs (top i)) (defBody (top i)) (defScope (top i)) [] [] f fd
structure Nrm (K : Fr) (mg : Str → Option Value) : Prop where
  f_all : mg "all" = none
  f_any : mg "any" = none
  f_bool : mg "bool" = none
  f_dict : mg "dict" = none
  f_int : mg "int" = none
  f_isinstance : mg "isinstance" = none
  f_len : mg "len" = none
  f_list : mg "list" = none
  f_range : mg "range" = none
  f_reversed : mg "reversed" = none
  f_str : mg "str" = none
  f_sum : mg "sum" = none
  f_tuple : mg "tuple" = none
  f_zip : mg "zip" = none
  g_GREATEST : ∃ t, mg "GREATEST" = some (.int 1000000 t)
/-! ### is_number -/
abbrev N_is_number : List Str := ["thing"]
theorem nd_is_number : N_is_number.Nodup := by decide +kernel
theorem sc_is_number : FnScope N_is_number ["thing"] (defScope (top 6)) := ⟨rfl, rfl, rfl, nd_is_number, rfl, by decide +kernel, by decide +kernel⟩
theorem bd_is_number {K : Fr} {f : Addr} {fd : FuncData} (F : FnP K "is_number" 6 f fd) : Binds K fd ["thing"] [] := F.bindsN fun _ _ _ _ _ _ us hl => match us, hl with | [_], _ => rfl
theorem ok_is_number {P : Program} {w : World} {K : Fr} {mg : Str → Option Value} {base : Heap} {T : Tb} {f : Addr} {fd : FuncData} (n : Nrm K mg) (F : FnP K "is_number" 6 f fd) (hm : mg "is_number" = some (.ref f)) (kk : Nat) {sp : DSp}
 (hsem : ∀ ds M Q E, ds.length = 1 → sp ds M Q E → DL.X.keys.t_is_number (dEndsG Q E) (dstart 1 ds) M) : FnD P w K mg base T "is_number" (kk + 1) 1 sp :=
 ok_of F hm (bd_is_number F) sc_is_number (fun cdv A outer s H E hr =>
 (dss_one (ds_ret (de_and (de_isi "int" rfl n.f_isinstance rfl n.f_int (de_var 0)) (de_one (de_not (de_isi "bool" rfl n.f_isinstance rfl n.f_bool (de_var 0)))))))) hsem
/-! ### check_key -/
abbrev N_check_key : List Str := ["key"]
theorem nd_check_key : N_check_key.Nodup := by decide +kernel
theorem sc_check_key : FnScope N_check_key ["key"] (defScope (top 7)) := ⟨rfl, rfl, rfl, nd_check_key, rfl, by decide +kernel, by decide +kernel⟩
theorem bd_check_key {K : Fr} {f : Addr} {fd : FuncData} (F : FnP K "check_key" 7 f fd) : Binds K fd ["key"] [] := F.bindsN fun _ _ _ _ _ _ us hl => match us, hl with | [_], _ => rfl
theorem ok_check_key {P : Program} {w : World} {K : Fr} {mg : Str → Option Value} {base : Heap} {T : Tb} {f : Addr} {fd : FuncData} (n : Nrm K mg) (F : FnP K "check_key" 7 f fd) (hm : mg "check_key" = some (.ref f)) (kk : Nat) {k_is_number : Nat} {S_is_number : DSp} (G_is_number : FnD P w K mg base T "is_number" k_is_number 1 S_is_number) (h_is_number : k_is_number ≤ kk) (x_NoKey : ∀ k, ExcD P w K mg base "NoKey" "code" (k + 1)) (hkk : 2 ≤ kk) {sp : DSp}
 (hsem : ∀ ds M Q E, ds.length = 1 → sp ds M Q E → DL.X.keys.t_check_key S_is_number (dEndsG Q E) (dstart 1 ds) M) : FnD P w K mg base T "check_key" (kk + 1) 1 sp :=
 ok_of F hm (bd_check_key F) sc_check_key (fun cdv A outer s H E hr =>
 (dss_one (ds_if (DW.dt (dw_or (dt_not (dt_tru (de_callL h_is_number G_is_number hr (takes_of rfl rfl rfl rfl) rfl (da_cons (de_var 0) da_nil)))) (dw_or1 (dt_not (tt_chain c_le c_le (de_neg (de_gint rfl n.g_GREATEST)) (de_var 0) (de_gint rfl n.g_GREATEST))))))
 (dss_one (ds_raise (x_NoKey 0) rfl (hr.mono hkk) (takes_of rfl rfl rfl rfl) rfl de_str))
 dss_nil))) hsem
/-! ### bits_of -/
abbrev N_bits_of : List Str := ["number"]
theorem nd_bits_of : N_bits_of.Nodup := by decide +kernel
theorem sc_bits_of : FnScope N_bits_of ["number"] (defScope (top 8)) := ⟨rfl, rfl, rfl, nd_bits_of, rfl, by decide +kernel, by decide +kernel⟩
theorem bd_bits_of {K : Fr} {f : Addr} {fd : FuncData} (F : FnP K "bits_of" 8 f fd) : Binds K fd ["number"] [] := F.bindsN fun _ _ _ _ _ _ us hl => match us, hl with | [_], _ => rfl
theorem ok_bits_of {P : Program} {w : World} {K : Fr} {mg : Str → Option Value} {base : Heap} {T : Tb} {f : Addr} {fd : FuncData} (n : Nrm K mg) (F : FnP K "bits_of" 8 f fd) (hm : mg "bits_of" = some (.ref f)) (kk : Nat) {sp : DSp}
 (hsem : ∀ ds M Q E, ds.length = 1 → sp ds M Q E → DL.X.keys.t_bits_of (dEndsG Q E) (dstart 1 ds) M) : FnD P w K mg base T "bits_of" (kk + 1) 1 sp :=
 ok_of F hm (bd_bits_of F) sc_bits_of (fun cdv A outer s H E hr =>
 (dss_one (ds_ret (de_bits (de_var 0))))) hsem
/-! ### put -/
abbrev N_put : List Str := ["row", "key"]
theorem nd_put : N_put.Nodup := by decide +kernel
theorem sc_put : FnScope N_put ["row", "key"] (defScope (top 10)) := ⟨rfl, rfl, rfl, nd_put, rfl, by decide +kernel, by decide +kernel⟩
theorem bd_put {K : Fr} {f : Addr} {fd : FuncData} (F : FnP K "put" 10 f fd) : Binds K fd ["row", "key"] [] := F.bindsN fun _ _ _ _ _ _ us hl => match us, hl with | [_, _], _ => rfl
theorem ok_put {P : Program} {w : World} {K : Fr} {mg : Str → Option Value} {base : Heap} {T : Tb} {f : Addr} {fd : FuncData} (n : Nrm K mg) (F : FnP K "put" 10 f fd) (hm : mg "put" = some (.ref f)) (kk : Nat) {k_check_key : Nat} {S_check_key : DSp} (G_check_key : FnD P w K mg base T "check_key" k_check_key 1 S_check_key) (h_check_key : k_check_key ≤ kk) {sp : DSp}
 (hsem : ∀ ds M Q E, ds.length = 2 → sp ds M Q E → DL.X.skews.t_put S_check_key (dEndsG Q E) (dstart 2 ds) M) : FnD P w K mg base T "put" (kk + 1) 2 sp :=
 ok_of F hm (bd_put F) sc_put (fun cdv A outer s H E hr =>
 (dss_cons (ds_expr (de_callL h_check_key G_check_key hr (takes_of rfl rfl rfl rfl) rfl (da_cons (de_var 1) da_nil)))
 (dss_cons (ds_if (DW.dt (dw_and (tt_cmp c_gt (de_blt b_len rfl n.f_len (da_cons (de_var 0) da_nil)) de_int) (dw_and1 (tt_cmp (c_eq hr) (de_ixA hr (de_ixA hr (de_var 0) de_int) de_int) (de_ixA hr (de_ixA hr (de_var 0) de_int) de_int)))))
 (dss_one (ds_ret (de_add (de_tup (da_cons (de_tup (da_cons (de_add (de_mul de_int (de_ixA hr (de_ixA hr (de_var 0) de_int) de_int)) de_int) (da_cons (de_tup (da_cons (de_var 1) (da_cons (de_ixA hr (de_ixA hr (de_var 0) de_int) de_int) (da_cons (de_ixA hr (de_ixA hr (de_var 0) de_int) de_int) da_nil)))) da_nil))) da_nil)) (de_slice (de_var 0) (do_some de_int) do_none))))
 dss_nil)
 (dss_one (ds_ret (de_add (de_tup (da_cons (de_tup (da_cons de_int (da_cons (de_tup (da_cons (de_var 1) (da_cons de_non (da_cons de_non da_nil)))) da_nil))) da_nil)) (de_var 0))))))) hsem
/-! ### taken -/
abbrev N_taken : List Str := ["row", "size", "tree", "half", "rest"]
theorem nd_taken : N_taken.Nodup := by decide +kernel
theorem sc_taken : FnScope N_taken ["row"] (defScope (top 11)) := ⟨rfl, rfl, rfl, nd_taken, rfl, by decide +kernel, by decide +kernel⟩
theorem bd_taken {K : Fr} {f : Addr} {fd : FuncData} (F : FnP K "taken" 11 f fd) : Binds K fd ["row"] [] := F.bindsN fun _ _ _ _ _ _ us hl => match us, hl with | [_], _ => rfl
theorem ok_taken {P : Program} {w : World} {K : Fr} {mg : Str → Option Value} {base : Heap} {T : Tb} {f : Addr} {fd : FuncData} (n : Nrm K mg) (F : FnP K "taken" 11 f fd) (hm : mg "taken" = some (.ref f)) (kk : Nat) (x_RowError : ∀ k, ExcD P w K mg base "RowError" "code" (k + 1)) (hkk : 2 ≤ kk) {sp : DSp}
 (hsem : ∀ ds M Q E, ds.length = 1 → sp ds M Q E → DL.X.skews.t_taken (dEndsG Q E) (dstart 5 ds) M) : FnD P w K mg base T "taken" (kk + 1) 1 sp :=
 ok_of F hm (bd_taken F) sc_taken (fun cdv A outer s H E hr =>
 (dss_cons (ds_if (dt_not (dt_tru (de_var 0)))
 (dss_one (ds_raise (x_RowError 0) rfl (hr.mono hkk) (takes_of rfl rfl rfl rfl) rfl de_str))
 dss_nil)
 (dss_cons (ds_asg (de_ixA hr (de_var 0) de_int) (dg_tup rfl (dgs_cons (dg_name 1 nd_taken) (dgs_cons (dg_name 2 nd_taken) dgs_nil))))
 (dss_cons (ds_set 3 nd_taken (de_fdiv (de_var 1) de_int))
 (dss_cons (ds_set 4 nd_taken (de_if (dt_tru (de_var 3)) (de_tup (da_cons (de_tup (da_cons (de_var 3) (da_cons (de_ixA hr (de_var 2) de_int) da_nil))) (da_cons (de_tup (da_cons (de_var 3) (da_cons (de_ixA hr (de_var 2) de_int) da_nil))) da_nil))) (de_tup da_nil)))
 (dss_one (ds_ret (de_tup (da_cons (de_ixA hr (de_var 2) de_int) (da_cons (de_add (de_var 4) (de_slice (de_var 0) (do_some de_int) do_none)) da_nil)))))))))) hsem
/-! ### length -/
abbrev N_length : List Str := ["row", "size", "_"]
theorem nd_length : N_length.Nodup := by decide +kernel
theorem sc_length : FnScope N_length ["row"] (defScope (top 12)) := ⟨rfl, rfl, rfl, nd_length, rfl, by decide +kernel, by decide +kernel⟩
theorem bd_length {K : Fr} {f : Addr} {fd : FuncData} (F : FnP K "length" 12 f fd) : Binds K fd ["row"] [] := F.bindsN fun _ _ _ _ _ _ us hl => match us, hl with | [_], _ => rfl
theorem ok_length {P : Program} {w : World} {K : Fr} {mg : Str → Option Value} {base : Heap} {T : Tb} {f : Addr} {fd : FuncData} (n : Nrm K mg) (F : FnP K "length" 12 f fd) (hm : mg "length" = some (.ref f)) (kk : Nat) {sp : DSp}
 (hsem : ∀ ds M Q E, ds.length = 1 → sp ds M Q E → DL.X.skews.t_length (dEndsG Q E) (dstart 3 ds) M) : FnD P w K mg base T "length" (kk + 1) 1 sp :=
 ok_of F hm (bd_length F) sc_length (fun cdv A outer s H E hr =>
 (dss_one (ds_ret (de_blt (b_sum rfl) rfl n.f_sum (da_cons (de_lc rfl nd_length (di_seq (de_var 0)) (blkOk_by (N := N_length) (sc := defScope (top 12)) (own := [("size", 1), ("_", 2)]) (by decide +kernel)) (fun _ _ _ _ _ => (pg_tup rfl (pgs_cons (pg_name (i := 1) nd_length rfl (by first | exact Or.inl rfl | exact Or.inr rfl) (by first | exact .inl rfl | exact .inr rfl)) (pgs_cons (pg_name (i := 2) nd_length rfl (by first | exact Or.inl rfl | exact Or.inr rfl) (by first | exact .inl rfl | exact .inr rfl)) pgs_nil rfl) rfl) rfl rfl)) (tgc_tup (tgcs_cons tgc_name (tgcs_cons tgc_name tgcs_nil))) (fun _ _ _ _ _ => dts_nil) (fun _ _ _ _ _ => (de_var 1))) da_nil))))) hsem
/-! ### way_in -/
abbrev N_way_in : List Str := ["row", "place", "index", "size", "sides"]
theorem nd_way_in : N_way_in.Nodup := by decide +kernel
theorem sc_way_in : FnScope N_way_in ["row", "place"] (defScope (top 13)) := ⟨rfl, rfl, rfl, nd_way_in, rfl, by decide +kernel, by decide +kernel⟩
theorem bd_way_in {K : Fr} {f : Addr} {fd : FuncData} (F : FnP K "way_in" 13 f fd) : Binds K fd ["row", "place"] [] := F.bindsN fun _ _ _ _ _ _ us hl => match us, hl with | [_, _], _ => rfl
theorem ok_way_in {P : Program} {w : World} {K : Fr} {mg : Str → Option Value} {base : Heap} {T : Tb} {f : Addr} {fd : FuncData} (n : Nrm K mg) (F : FnP K "way_in" 13 f fd) (hm : mg "way_in" = some (.ref f)) (kk : Nat) {k_is_number : Nat} {S_is_number : DSp} (G_is_number : FnD P w K mg base T "is_number" k_is_number 1 S_is_number) (h_is_number : k_is_number ≤ kk) {k_length : Nat} {S_length : DSp} (G_length : FnD P w K mg base T "length" k_length 1 S_length) (h_length : k_length ≤ kk) (x_RowError : ∀ k, ExcD P w K mg base "RowError" "code" (k + 1)) (hkk : 2 ≤ kk) {sp : DSp}
 (hsem : ∀ ds M Q E, ds.length = 2 → sp ds M Q E → DL.X.skews.t_way_in S_is_number S_length (dEndsG Q E) (dstart 5 ds) M) : FnD P w K mg base T "way_in" (kk + 1) 2 sp :=
 ok_of F hm (bd_way_in F) sc_way_in (fun cdv A outer s H E hr =>
 (dss_cons (ds_if (DW.dt (dw_or (dt_not (dt_tru (de_callL h_is_number G_is_number hr (takes_of rfl rfl rfl rfl) rfl (da_cons (de_var 1) da_nil)))) (dw_or1 (dt_not (tt_chain c_le c_lt de_int (de_var 1) (de_callL h_length G_length hr (takes_of rfl rfl rfl rfl) rfl (da_cons (de_var 0) da_nil)))))))
 (dss_one (ds_raise (x_RowError 0) rfl (hr.mono hkk) (takes_of rfl rfl rfl rfl) rfl de_str))
 dss_nil)
 (dss_cons (ds_set 2 nd_way_in de_int)
 (dss_cons (ds_while (passes_of rfl) (tt_cmp c_ge (de_var 1) (de_ixA hr (de_ixA hr (de_var 0) (de_var 2)) de_int))
 (dss_cons (dsr_aug 1 nd_way_in a_sub (de_ixA hr (de_ixA hr (de_var 0) (de_var 2)) de_int))
 (dss_one (dsr_aug 2 nd_way_in a_add de_int))))
 (dss_cons (ds_par 3 4 rfl nd_way_in (da_cons (de_ixA hr (de_ixA hr (de_var 0) (de_var 2)) de_int) (da_cons (de_lst da_nil) da_nil)))
 (dss_cons (ds_while (passes_of rfl) (dt_tru (de_var 1))
 (dss_cons (dsr_aug 3 nd_way_in a_fdiv de_int)
 (dss_one (ds_if (tt_cmp c_le (de_var 1) (de_var 3))
 (dss_cons (ds_expr (de_append (de_var 4) de_int))
 (dss_one (dsr_aug 1 nd_way_in a_sub de_int)))
 (dss_cons (ds_expr (de_append (de_var 4) de_int))
 (dss_one (dsr_aug 1 nd_way_in a_sub (de_add (de_var 3) de_int))))))))
 (dss_one (ds_ret (de_tup (da_cons (de_var 2) (da_cons (de_var 4) da_nil))))))))))) hsem
/-! ### key_at -/
abbrev N_key_at : List Str := ["row", "place", "index", "sides", "tree", "side"]
theorem nd_key_at : N_key_at.Nodup := by decide +kernel
theorem sc_key_at : FnScope N_key_at ["row", "place"] (defScope (top 14)) := ⟨rfl, rfl, rfl, nd_key_at, rfl, by decide +kernel, by decide +kernel⟩
theorem bd_key_at {K : Fr} {f : Addr} {fd : FuncData} (F : FnP K "key_at" 14 f fd) : Binds K fd ["row", "place"] [] := F.bindsN fun _ _ _ _ _ _ us hl => match us, hl with | [_, _], _ => rfl
theorem ok_key_at {P : Program} {w : World} {K : Fr} {mg : Str → Option Value} {base : Heap} {T : Tb} {f : Addr} {fd : FuncData} (n : Nrm K mg) (F : FnP K "key_at" 14 f fd) (hm : mg "key_at" = some (.ref f)) (kk : Nat) {k_way_in : Nat} {S_way_in : DSp} (G_way_in : FnD P w K mg base T "way_in" k_way_in 2 S_way_in) (h_way_in : k_way_in ≤ kk) {sp : DSp}
 (hsem : ∀ ds M Q E, ds.length = 2 → sp ds M Q E → DL.X.skews.t_key_at S_way_in (dEndsG Q E) (dstart 6 ds) M) : FnD P w K mg base T "key_at" (kk + 1) 2 sp :=
 ok_of F hm (bd_key_at F) sc_key_at (fun cdv A outer s H E hr =>
 (dss_cons (ds_asg (de_callL h_way_in G_way_in hr (takes_of rfl rfl rfl rfl) rfl (da_cons (de_var 0) (da_cons (de_var 1) da_nil))) (dg_tup rfl (dgs_cons (dg_name 2 nd_key_at) (dgs_cons (dg_name 3 nd_key_at) dgs_nil))))
 (dss_cons (ds_set 4 nd_key_at (de_ixA hr (de_ixA hr (de_var 0) (de_var 2)) de_int))
 (dss_cons (ds_for (passes_of rfl) rfl (di_seq (de_var 3)) (dg_name 5 nd_key_at)
 (dss_one (ds_set 4 nd_key_at (de_ixA hr (de_var 4) (de_var 5)))))
 (dss_one (ds_ret (de_tup (da_cons (de_ixA hr (de_var 4) de_int) (da_cons (de_add (de_add (de_var 2) de_int) (de_blt b_len rfl n.f_len (da_cons (de_var 3) da_nil))) da_nil))))))))) hsem
/-! ### changed -/
abbrev N_changed : List Str := ["row", "place", "key", "index", "sides", "way", "side", "here", "above"]
theorem nd_changed : N_changed.Nodup := by decide +kernel
theorem sc_changed : FnScope N_changed ["row", "place", "key"] (defScope (top 15)) := ⟨rfl, rfl, rfl, nd_changed, rfl, by decide +kernel, by decide +kernel⟩
theorem bd_changed {K : Fr} {f : Addr} {fd : FuncData} (F : FnP K "changed" 15 f fd) : Binds K fd ["row", "place", "key"] [] := F.bindsN fun _ _ _ _ _ _ us hl => match us, hl with | [_, _, _], _ => rfl
theorem ok_changed {P : Program} {w : World} {K : Fr} {mg : Str → Option Value} {base : Heap} {T : Tb} {f : Addr} {fd : FuncData} (n : Nrm K mg) (F : FnP K "changed" 15 f fd) (hm : mg "changed" = some (.ref f)) (kk : Nat) {k_check_key : Nat} {S_check_key : DSp} (G_check_key : FnD P w K mg base T "check_key" k_check_key 1 S_check_key) (h_check_key : k_check_key ≤ kk) {k_way_in : Nat} {S_way_in : DSp} (G_way_in : FnD P w K mg base T "way_in" k_way_in 2 S_way_in) (h_way_in : k_way_in ≤ kk) {sp : DSp}
 (hsem : ∀ ds M Q E, ds.length = 3 → sp ds M Q E → DL.X.skews.t_changed S_check_key S_way_in (dEndsG Q E) (dstart 9 ds) M) : FnD P w K mg base T "changed" (kk + 1) 3 sp :=
 ok_of F hm (bd_changed F) sc_changed (fun cdv A outer s H E hr =>
 (dss_cons (ds_expr (de_callL h_check_key G_check_key hr (takes_of rfl rfl rfl rfl) rfl (da_cons (de_var 2) da_nil)))
 (dss_cons (ds_asg (de_callL h_way_in G_way_in hr (takes_of rfl rfl rfl rfl) rfl (da_cons (de_var 0) (da_cons (de_var 1) da_nil))) (dg_tup rfl (dgs_cons (dg_name 3 nd_changed) (dgs_cons (dg_name 4 nd_changed) dgs_nil))))
 (dss_cons (ds_set 5 nd_changed (de_lst (da_cons (de_ixA hr (de_ixA hr (de_var 0) (de_var 3)) de_int) da_nil)))
 (dss_cons (ds_for (passes_of rfl) rfl (di_seq (de_var 4)) (dg_name 6 nd_changed)
 (dss_one (ds_expr (de_append (de_var 5) (de_ixA hr (de_ixA hr (de_var 5) (de_neg de_int)) (de_var 6))))))
 (dss_cons (ds_set 7 nd_changed (de_add (de_tup (da_cons (de_var 2) da_nil)) (de_slice (de_ixA hr (de_var 5) (de_neg de_int)) (do_some de_int) do_none)))
 (dss_cons (ds_for (passes_of rfl) rfl (di_zipR rfl n.f_zip rfl n.f_reversed (de_slice (de_var 5) do_none (do_some (de_neg de_int))) (de_var 4)) (dg_tup rfl (dgs_cons (dg_name 8 nd_changed) (dgs_cons (dg_name 6 nd_changed) dgs_nil)))
 (dss_one (ds_set 7 nd_changed (de_if (tt_cmp (c_eq hr) (de_var 6) de_int) (de_tup (da_cons (de_ixA hr (de_var 8) de_int) (da_cons (de_var 7) (da_cons (de_ixA hr (de_var 8) de_int) da_nil)))) (de_tup (da_cons (de_ixA hr (de_var 8) de_int) (da_cons (de_ixA hr (de_var 8) de_int) (da_cons (de_var 7) da_nil))))))))
 (dss_one (ds_ret (de_tup (da_cons (de_add (de_add (de_slice (de_var 0) do_none (do_some (de_var 3))) (de_tup (da_cons (de_tup (da_cons (de_ixA hr (de_ixA hr (de_var 0) (de_var 3)) de_int) (da_cons (de_var 7) da_nil))) da_nil))) (de_slice (de_var 0) (do_some (de_add (de_var 3) de_int)) do_none)) (da_cons (de_blt b_len rfl n.f_len (da_cons (de_var 5) da_nil)) da_nil)))))))))))) hsem
/-! ### keys_in -/
abbrev N_keys_in : List Str := ["row", "found", "_", "tree", "waiting", "part"]
theorem nd_keys_in : N_keys_in.Nodup := by decide +kernel
theorem sc_keys_in : FnScope N_keys_in ["row"] (defScope (top 16)) := ⟨rfl, rfl, rfl, nd_keys_in, rfl, by decide +kernel, by decide +kernel⟩
theorem bd_keys_in {K : Fr} {f : Addr} {fd : FuncData} (F : FnP K "keys_in" 16 f fd) : Binds K fd ["row"] [] := F.bindsN fun _ _ _ _ _ _ us hl => match us, hl with | [_], _ => rfl
theorem ok_keys_in {P : Program} {w : World} {K : Fr} {mg : Str → Option Value} {base : Heap} {T : Tb} {f : Addr} {fd : FuncData} (n : Nrm K mg) (F : FnP K "keys_in" 16 f fd) (hm : mg "keys_in" = some (.ref f)) (kk : Nat) {sp : DSp}
 (hsem : ∀ ds M Q E, ds.length = 1 → sp ds M Q E → DL.X.skews.t_keys_in (dEndsG Q E) (dstart 6 ds) M) : FnD P w K mg base T "keys_in" (kk + 1) 1 sp :=
 ok_of F hm (bd_keys_in F) sc_keys_in (fun cdv A outer s H E hr =>
 (dss_cons (ds_set 1 nd_keys_in (de_lst da_nil))
 (dss_cons (ds_for (passes_of rfl) rfl (di_seq (de_var 0)) (dg_tup rfl (dgs_cons (dg_name 2 nd_keys_in) (dgs_cons (dg_name 3 nd_keys_in) dgs_nil)))
 (dss_cons (ds_set 4 nd_keys_in (de_lst (da_cons (de_var 3) da_nil)))
 (dss_one (ds_while (passes_of rfl) (dt_tru (de_var 4))
 (dss_cons (ds_set 5 nd_keys_in (de_pop (de_var 4)))
 (dss_one (ds_if (tt_cmp c_isnot (de_var 5) de_non)
 (dss_cons (ds_expr (de_append (de_var 1) (de_ixA hr (de_var 5) de_int)))
 (dss_cons (ds_expr (de_append (de_var 4) (de_ixA hr (de_var 5) de_int)))
 (dss_one (ds_expr (de_append (de_var 4) (de_ixA hr (de_var 5) de_int))))))
 dss_nil)))))))
 (dss_one (ds_ret (de_ty t_tuple rfl n.f_tuple (da_cons (de_var 1) da_nil))))))) hsem
/-! ### built -/
abbrev N_built : List Str := ["keys", "found", "key"]
theorem nd_built : N_built.Nodup := by decide +kernel
theorem sc_built : FnScope N_built ["keys"] (defScope (top 17)) := ⟨rfl, rfl, rfl, nd_built, rfl, by decide +kernel, by decide +kernel⟩
theorem bd_built {K : Fr} {f : Addr} {fd : FuncData} (F : FnP K "built" 17 f fd) : Binds K fd ["keys"] [] := F.bindsN fun _ _ _ _ _ _ us hl => match us, hl with | [_], _ => rfl
theorem ok_built {P : Program} {w : World} {K : Fr} {mg : Str → Option Value} {base : Heap} {T : Tb} {f : Addr} {fd : FuncData} (n : Nrm K mg) (F : FnP K "built" 17 f fd) (hm : mg "built" = some (.ref f)) (kk : Nat) {k_put : Nat} {S_put : DSp} (G_put : FnD P w K mg base T "put" k_put 2 S_put) (h_put : k_put ≤ kk) {sp : DSp}
 (hsem : ∀ ds M Q E, ds.length = 1 → sp ds M Q E → DL.X.skews.t_built S_put (dEndsG Q E) (dstart 3 ds) M) : FnD P w K mg base T "built" (kk + 1) 1 sp :=
 ok_of F hm (bd_built F) sc_built (fun cdv A outer s H E hr =>
 (dss_cons (ds_set 1 nd_built (de_tup da_nil))
 (dss_cons (ds_for (passes_of rfl) rfl (di_rev rfl n.f_reversed (de_var 0)) (dg_name 2 nd_built)
 (dss_one (ds_set 1 nd_built (de_callL h_put G_put hr (takes_of rfl rfl rfl rfl) rfl (da_cons (de_var 1) (da_cons (de_var 2) da_nil))))))
 (dss_one (ds_ret (de_var 1)))))) hsem
/-! ### sizes_of -/
abbrev N_sizes_of : List Str := ["count", "found", "size"]
theorem nd_sizes_of : N_sizes_of.Nodup := by decide +kernel
theorem sc_sizes_of : FnScope N_sizes_of ["count"] (defScope (top 18)) := ⟨rfl, rfl, rfl, nd_sizes_of, rfl, by decide +kernel, by decide +kernel⟩
theorem bd_sizes_of {K : Fr} {f : Addr} {fd : FuncData} (F : FnP K "sizes_of" 18 f fd) : Binds K fd ["count"] [] := F.bindsN fun _ _ _ _ _ _ us hl => match us, hl with | [_], _ => rfl
theorem ok_sizes_of {P : Program} {w : World} {K : Fr} {mg : Str → Option Value} {base : Heap} {T : Tb} {f : Addr} {fd : FuncData} (n : Nrm K mg) (F : FnP K "sizes_of" 18 f fd) (hm : mg "sizes_of" = some (.ref f)) (kk : Nat) {sp : DSp}
 (hsem : ∀ ds M Q E, ds.length = 1 → sp ds M Q E → DL.X.skews.t_sizes_of (dEndsG Q E) (dstart 3 ds) M) : FnD P w K mg base T "sizes_of" (kk + 1) 1 sp :=
 ok_of F hm (bd_sizes_of F) sc_sizes_of (fun cdv A outer s H E hr =>
 (dss_cons (ds_set 1 nd_sizes_of (de_lst da_nil))
 (dss_cons (ds_while (passes_of rfl) (dt_tru (de_var 0))
 (dss_cons (ds_set 2 nd_sizes_of de_int)
 (dss_cons (ds_while (passes_of rfl) (tt_cmp c_le (de_add (de_mul de_int (de_var 2)) de_int) (de_var 0))
 (dss_one (ds_set 2 nd_sizes_of (de_add (de_mul de_int (de_var 2)) de_int))))
 (dss_cons (ds_expr (de_append (de_var 1) (de_var 2)))
 (dss_one (dsr_aug 0 nd_sizes_of a_sub (de_var 2)))))))
 (dss_one (ds_ret (de_tupRev rfl rfl n.f_tuple rfl n.f_reversed (de_var 1))))))) hsem
/-! ### is_right -/
abbrev N_is_right : List Str := ["row", "size", "_", "sizes", "one", "other", "tree", "level", "count", "part", "side"]
theorem nd_is_right : N_is_right.Nodup := by decide +kernel
theorem sc_is_right : FnScope N_is_right ["row"] (defScope (top 19)) := ⟨rfl, rfl, rfl, nd_is_right, rfl, by decide +kernel, by decide +kernel⟩
theorem bd_is_right {K : Fr} {f : Addr} {fd : FuncData} (F : FnP K "is_right" 19 f fd) : Binds K fd ["row"] [] := F.bindsN fun _ _ _ _ _ _ us hl => match us, hl with | [_], _ => rfl
theorem ok_is_right {P : Program} {w : World} {K : Fr} {mg : Str → Option Value} {base : Heap} {T : Tb} {f : Addr} {fd : FuncData} (n : Nrm K mg) (F : FnP K "is_right" 19 f fd) (hm : mg "is_right" = some (.ref f)) (kk : Nat) {sp : DSp}
 (hsem : ∀ ds M Q E, ds.length = 1 → sp ds M Q E → DL.X.skews.t_is_right (dEndsG Q E) (dstart 11 ds) M) : FnD P w K mg base T "is_right" (kk + 1) 1 sp :=
 ok_of F hm (bd_is_right F) sc_is_right (fun cdv A outer s H E hr =>
 (dss_cons (ds_setLc 3 rfl nd_is_right (di_seq (de_var 0)) (blkOk_by (N := N_is_right) (sc := defScope (top 19)) (own := [("size", 1), ("_", 2)]) (by decide +kernel)) (fun _ _ _ _ _ => (pg_tup rfl (pgs_cons (pg_name (i := 1) nd_is_right rfl (by first | exact Or.inl rfl | exact Or.inr rfl) (by first | exact .inl rfl | exact .inr rfl)) (pgs_cons (pg_name (i := 2) nd_is_right rfl (by first | exact Or.inl rfl | exact Or.inr rfl) (by first | exact .inl rfl | exact .inr rfl)) pgs_nil rfl) rfl) rfl rfl)) (tgc_tup (tgcs_cons tgc_name (tgcs_cons tgc_name tgcs_nil))) (fun _ _ _ _ _ => dts_nil) (fun _ _ _ _ _ => (de_var 1)))
 (dss_cons (ds_if (dt_tru (de_blt (b_anyA rfl) rfl n.f_any (da_cons (de_lc rfl nd_is_right (di_seq (de_var 3)) (blkOk_by (N := N_is_right) (sc := defScope (top 19)) (own := [("size", 1)]) (by decide +kernel)) (fun _ _ _ _ _ => (pg_name (i := 1) nd_is_right rfl (by first | exact Or.inl rfl | exact Or.inr rfl) (by first | exact .inl rfl | exact .inr rfl))) tgc_name (fun _ _ _ _ _ => dts_nil) (fun _ _ _ _ _ => (de_band (de_add (de_var 1) de_int) (de_var 1)))) da_nil)))
 (dss_one (ds_ret de_bl))
 dss_nil)
 (dss_cons (ds_if (DW.dt (dw_or (dt_not (dt_tru (de_blt (b_all rfl) rfl n.f_all (da_cons (de_lc rfl nd_is_right (di_zip rfl n.f_zip (da_cons (de_slice (de_var 3) (do_some de_int) do_none) (da_cons (de_slice (de_var 3) (do_some de_int) do_none) da_nil))) (blkOk_by (N := N_is_right) (sc := defScope (top 19)) (own := [("one", 4), ("other", 5)]) (by decide +kernel)) (fun _ _ _ _ _ => (pg_tup rfl (pgs_cons (pg_name (i := 4) nd_is_right rfl (by first | exact Or.inl rfl | exact Or.inr rfl) (by first | exact .inl rfl | exact .inr rfl)) (pgs_cons (pg_name (i := 5) nd_is_right rfl (by first | exact Or.inl rfl | exact Or.inr rfl) (by first | exact .inl rfl | exact .inr rfl)) pgs_nil rfl) rfl) rfl rfl)) (tgc_tup (tgcs_cons tgc_name (tgcs_cons tgc_name tgcs_nil))) (fun _ _ _ _ _ => dts_nil) (fun _ _ _ _ _ => (dv_cmp c_lt (de_var 4) (de_var 5)))) da_nil)))) (dw_or1 (DW.dt (dw_and (tt_cmp c_gt (de_blt b_len rfl n.f_len (da_cons (de_var 3) da_nil)) de_int) (dw_and1 (tt_cmp c_gt (de_ixA hr (de_var 3) de_int) (de_ixA hr (de_var 3) de_int))))))))
 (dss_one (ds_ret de_bl))
 dss_nil)
 (dss_cons (ds_for (passes_of rfl) rfl (di_seq (de_var 0)) (dg_tup rfl (dgs_cons (dg_name 1 nd_is_right) (dgs_cons (dg_name 6 nd_is_right) dgs_nil)))
 (dss_cons (ds_par 7 8 rfl nd_is_right (da_cons (de_lst (da_cons (de_var 6) da_nil)) (da_cons de_int da_nil)))
 (dss_cons (ds_while (passes_of rfl) (dt_tru (de_blt (b_anyA rfl) rfl n.f_any (da_cons (de_lc rfl nd_is_right (di_seq (de_var 7)) (blkOk_by (N := N_is_right) (sc := defScope (top 19)) (own := [("part", 9)]) (by decide +kernel)) (fun _ _ _ _ _ => (pg_name (i := 9) nd_is_right rfl (by first | exact Or.inl rfl | exact Or.inr rfl) (by first | exact .inl rfl | exact .inr rfl))) tgc_name (fun _ _ _ _ _ => dts_nil) (fun _ _ _ _ _ => (dv_cmp c_isnot (de_var 9) de_non))) da_nil)))
 (dss_cons (ds_if (dt_tru (de_blt (b_anyA rfl) rfl n.f_any (da_cons (de_lc rfl nd_is_right (di_seq (de_var 7)) (blkOk_by (N := N_is_right) (sc := defScope (top 19)) (own := [("part", 9)]) (by decide +kernel)) (fun _ _ _ _ _ => (pg_name (i := 9) nd_is_right rfl (by first | exact Or.inl rfl | exact Or.inr rfl) (by first | exact .inl rfl | exact .inr rfl))) tgc_name (fun _ _ _ _ _ => dts_nil) (fun _ _ _ _ _ => (dv_cmp c_is (de_var 9) de_non))) da_nil)))
 (dss_one (ds_ret de_bl))
 dss_nil)
 (dss_cons (dsr_aug 8 nd_is_right a_add (de_blt b_len rfl n.f_len (da_cons (de_var 7) da_nil)))
 (dss_one (ds_setLc2 7 (vs1 := [10]) rfl nd_is_right (di_seq (de_var 7)) (blkOk_by (N := N_is_right) (sc := defScope (top 19)) (own := [("part", 9), ("side", 10)]) (by decide +kernel)) (by decide) (fun _ _ _ _ _ => (pg_name (i := 9) nd_is_right rfl (by first | exact Or.inl rfl | exact Or.inr rfl) (by first | exact .inl rfl | exact .inr rfl))) tgc_name (fun _ _ _ _ _ => dts_nil) (fun _ _ _ _ _ => (di_seq (de_slice (de_var 9) (do_some de_int) do_none))) (fun _ _ _ _ _ => (pg_name (i := 10) nd_is_right rfl (by first | exact Or.inl rfl | exact Or.inr rfl) (by first | exact .inl rfl | exact .inr rfl))) tgc_name (fun _ _ _ _ _ => dts_nil) (fun _ _ _ _ _ => (de_var 10)))))))
 (dss_one (ds_if (tt_cmp (c_ne hr) (de_var 8) (de_var 1))
 (dss_one (ds_ret de_bl))
 dss_nil)))))
 (dss_one (ds_ret de_bl))))))) hsem
/-! ### _law_draws -/
abbrev N_law_draws : List Str := ["script", "count", "cells", "found", "mixed", "k", "j", "cell", "again"]
theorem nd_law_draws : N_law_draws.Nodup := by decide +kernel
theorem sc_law_draws : FnScope N_law_draws ["script", "count"] (defScope (top 21)) := ⟨rfl, rfl, rfl, nd_law_draws, rfl, by decide +kernel, by decide +kernel⟩
theorem bd_law_draws {K : Fr} {f : Addr} {fd : FuncData} (F : FnP K "_law_draws" 21 f fd) : Binds K fd ["script", "count"] [] := F.bindsN fun _ _ _ _ _ _ us hl => match us, hl with | [_, _], _ => rfl
def t_law_draws : TDS := dSeq (dAsg (dCB listD (dCons (dVar 0) (dNil))) (dgName 2)) (dSeq (dIfS (dB (dBin (eqD false) (dCB lenD (dCons (dVar 2) (dNil))) (dC (.int 0)))) (dAsg (dLst (dCons (dC (.int 7)) (dNil))) (dgName 2)) (dNext)) (dSeq (dAsg (dLst (dNil)) (dgName 3)) (dSeq (dAsg (dC (.int 12345)) (dgName 4)) (dSeq (dFor (iArgs rng1D (dCons (dVar 1) (dNil))) (dgName 5) (dSeq (dAsg (dBin modD (dVar 5) (dCB lenD (dCons (dVar 2) (dNil)))) (dgName 6)) (dSeq (dAsg (dBin ixA (dVar 2) (dVar 6)) (dgName 7)) (dSeq (dAsg (dBin modD (dCB intD (dCons (dBin addD (dBin addD (dBin addD (dBin mulD (dVar 4) (dC (.int 48271))) (dBin mulD (dBin modD (dCB intD (dCons (dVar 7) (dNil))) (dC (.int 1000003))) (dC (.int 69621)))) (dBin mulD (dVar 5) (dC (.int 7919)))) (dC (.int 11))) (dNil))) (dC (.int 2147483647))) (dgName 4)) (dSeq (dAsg (dBin modD (dCB intD (dCons (dBin addD (dBin addD (dBin mulD (dVar 4) (dVar 4)) (dBin mulD (dC (.int 31)) (dVar 4))) (dVar 5)) (dNil))) (dC (.int 1000003))) (dgName 8)) (dIfS (dB (dBin geD (dVar 7) (dBin powD (dC (.int 10)) (dC (.int 18))))) (dSeq (dDrop (dML (chL fAppend) (dVar 3) (dCons (dBin modD (dCB intD (dCons (dVar 7) (dNil))) (dC (.int 1000))) dNil))) (dAsg (dBin fdivD (dVar 7) (dC (.int 1000))) (dgSub (dVar 2) (dVar 6)))) (dDrop (dML (chL fAppend) (dVar 3) (dCons (dBin modD (dCB intD (dCons (dVar 8) (dNil))) (dC (.int 1000))) dNil))))))))) (dSeq (dDrop (dML0 (chL fReverse) (dVar 3))) (dRet (dVar 3)))))))
theorem ok_law_draws {P : Program} {w : World} {K : Fr} {mg : Str → Option Value} {base : Heap} {T : Tb} {f : Addr} {fd : FuncData} (n : Nrm K mg) (F : FnP K "_law_draws" 21 f fd) (hm : mg "_law_draws" = some (.ref f)) (kk : Nat) {sp : DSp}
 (hsem : ∀ ds M Q E, ds.length = 2 → sp ds M Q E → t_law_draws (dEndsG Q E) (dstart 9 ds) M) : FnD P w K mg base T "_law_draws" (kk + 1) 2 sp :=
 ok_of F hm (bd_law_draws F) sc_law_draws (fun cdv A outer s H E hr =>
 (dss_cons (ds_set 2 nd_law_draws (de_ty t_list rfl n.f_list (da_cons (de_var 0) da_nil)))
 (dss_cons (ds_if (tt_cmp (c_eq hr) (de_blt b_len rfl n.f_len (da_cons (de_var 2) da_nil)) de_int)
 (dss_one (ds_set 2 nd_law_draws (de_lst (da_cons de_int da_nil))))
 dss_nil)
 (dss_cons (ds_set 3 nd_law_draws (de_lst da_nil))
 (dss_cons (ds_set 4 nd_law_draws de_int)
 (dss_cons (ds_for (passes_of rfl) rfl (di_range1 rfl n.f_range (da_cons (de_var 1) da_nil)) (dg_name 5 nd_law_draws)
 (dss_cons (ds_set 6 nd_law_draws (de_mod (de_var 5) (de_blt b_len rfl n.f_len (da_cons (de_var 2) da_nil))))
 (dss_cons (ds_set 7 nd_law_draws (de_ixA hr (de_var 2) (de_var 6)))
 (dss_cons (ds_set 4 nd_law_draws (de_mod (de_ty t_int rfl n.f_int (da_cons (de_add (de_add (de_add (de_mul (de_var 4) de_int) (de_mul (de_mod (de_ty t_int rfl n.f_int (da_cons (de_var 7) da_nil)) de_int) de_int)) (de_mul (de_var 5) de_int)) de_int) da_nil)) de_int))
 (dss_cons (ds_set 8 nd_law_draws (de_mod (de_ty t_int rfl n.f_int (da_cons (de_add (de_add (de_mul (de_var 4) (de_var 4)) (de_mul de_int (de_var 4))) (de_var 5)) da_nil)) de_int))
 (dss_one (ds_if (tt_cmp c_ge (de_var 7) (de_pow de_int de_int))
 (dss_cons (ds_expr (de_append (de_var 3) (de_mod (de_ty t_int rfl n.f_int (da_cons (de_var 7) da_nil)) de_int)))
 (dss_one (ds_asg (de_fdiv (de_var 7) de_int) (dg_sub hr (de_var 2) (de_var 6)))))
 (dss_one (ds_expr (de_append (de_var 3) (de_mod (de_ty t_int rfl n.f_int (da_cons (de_var 8) da_nil)) de_int)))))))))))
 (dss_cons (ds_expr (de_reverse (de_var 3)))
 (dss_one (ds_ret (de_var 3)))))))))) hsem
/-! ### _law_take -/
abbrev N_law_take : List Str := ["draws", "limit"]
theorem nd_law_take : N_law_take.Nodup := by decide +kernel
theorem sc_law_take : FnScope N_law_take ["draws", "limit"] (defScope (top 22)) := ⟨rfl, rfl, rfl, nd_law_take, rfl, by decide +kernel, by decide +kernel⟩
theorem bd_law_take {K : Fr} {f : Addr} {fd : FuncData} (F : FnP K "_law_take" 22 f fd) : Binds K fd ["draws", "limit"] [] := F.bindsN fun _ _ _ _ _ _ us hl => match us, hl with | [_, _], _ => rfl
def t_law_take : TDS := dSeq (dIfS (dB (dBin (eqD false) (dCB lenD (dCons (dVar 0) (dNil))) (dC (.int 0)))) (dRet (dC (.int 0))) (dNext)) (dRet (dBin modD (dCB intD (dCons (dML0 (chL fPop) (dVar 0)) (dNil))) (dVar 1)))
theorem ok_law_take {P : Program} {w : World} {K : Fr} {mg : Str → Option Value} {base : Heap} {T : Tb} {f : Addr} {fd : FuncData} (n : Nrm K mg) (F : FnP K "_law_take" 22 f fd) (hm : mg "_law_take" = some (.ref f)) (kk : Nat) {sp : DSp}
 (hsem : ∀ ds M Q E, ds.length = 2 → sp ds M Q E → t_law_take (dEndsG Q E) (dstart 2 ds) M) : FnD P w K mg base T "_law_take" (kk + 1) 2 sp :=
 ok_of F hm (bd_law_take F) sc_law_take (fun cdv A outer s H E hr =>
 (dss_cons (ds_if (tt_cmp (c_eq hr) (de_blt b_len rfl n.f_len (da_cons (de_var 0) da_nil)) de_int)
 (dss_one (ds_ret de_int))
 dss_nil)
 (dss_one (ds_ret (de_mod (de_ty t_int rfl n.f_int (da_cons (de_pop (de_var 0)) da_nil)) (de_var 1)))))) hsem
/-! ### _law_same -/
abbrev N_law_same : List Str := ["found", "due", "k"]
theorem nd_law_same : N_law_same.Nodup := by decide +kernel
theorem sc_law_same : FnScope N_law_same ["found", "due"] (defScope (top 23)) := ⟨rfl, rfl, rfl, nd_law_same, rfl, by decide +kernel, by decide +kernel⟩
theorem bd_law_same {K : Fr} {f : Addr} {fd : FuncData} (F : FnP K "_law_same" 23 f fd) : Binds K fd ["found", "due"] [] := F.bindsN fun _ _ _ _ _ _ us hl => match us, hl with | [_, _], _ => rfl
def t_law_same (S_law_same : DSp) : TDS := dSeq (dIfS (dB (dBin (isD false) (dVar 1) (dC .non))) (dRet (dBin (isD false) (dVar 0) (dC .non))) (dNext)) (dSeq (dIfS (dTru (dUn (isiD "bool") (dVar 1))) (dRet (dAndV (dUn (isiD "bool") (dVar 0)) (dBin (eqD false) (dVar 0) (dVar 1)))) (dNext)) (dSeq (dIfS (dTru (dUn (isiD "int") (dVar 1))) (dRet (dAndV (dUn (isiD "int") (dVar 0)) (dAndV (dNotV (dUn (isiD "bool") (dVar 0))) (dBin (eqD false) (dVar 0) (dVar 1))))) (dNext)) (dSeq (dIfS (dTru (dUn (isiD "str") (dVar 1))) (dRet (dAndV (dUn (isiD "str") (dVar 0)) (dBin (eqD false) (dVar 0) (dVar 1)))) (dNext)) (dSeq (dIfS (dTru (dUn (isiD "dict") (dVar 1))) (dRet (dAndV (dUn (isiD "dict") (dVar 0)) (dBin (eqD false) (dVar 0) (dVar 1)))) (dNext)) (dSeq (dIfS (dOr (dB (dBin (eqD true) (dUn (isiD "tuple") (dVar 1)) (dUn (isiD "tuple") (dVar 0)))) (dB (dBin (eqD true) (dUn (isiD "list") (dVar 1)) (dUn (isiD "list") (dVar 0))))) (dRet (dC (.bl false))) (dNext)) (dRet (dAndV (dBin (eqD false) (dCB lenD (dCons (dVar 0) (dNil))) (dCB lenD (dCons (dVar 1) (dNil)))) (dCB allD (dCons (dLc (iArgs rng1D (dCons (dCB lenD (dCons (dVar 1) (dNil))) (dNil))) (dgName 2) (dYes) (dCall (arS 2 S_law_same) (dCons (dBin ixA (dVar 0) (dVar 2)) (dCons (dBin ixA (dVar 1) (dVar 2)) (dNil)))) [2]) (dNil))))))))))
theorem ok_law_same {P : Program} {w : World} {K : Fr} {mg : Str → Option Value} {base : Heap} {T : Tb} {f : Addr} {fd : FuncData} (n : Nrm K mg) (F : FnP K "_law_same" 23 f fd) (hm : mg "_law_same" = some (.ref f)) (kk : Nat) {k_law_same : Nat} {S_law_same : DSp} (G_law_same : FnD P w K mg base T "_law_same" k_law_same 2 S_law_same) (h_law_same : k_law_same ≤ kk) {sp : DSp}
 (hsem : ∀ ds M Q E, ds.length = 2 → sp ds M Q E → t_law_same S_law_same (dEndsG Q E) (dstart 3 ds) M) : FnD P w K mg base T "_law_same" (kk + 1) 2 sp :=
 ok_of F hm (bd_law_same F) sc_law_same (fun cdv A outer s H E hr =>
 (dss_cons (ds_if (tt_cmp c_is (de_var 1) de_non)
 (dss_one (ds_ret (dv_cmp c_is (de_var 0) de_non)))
 dss_nil)
 (dss_cons (ds_if (dt_tru (de_isi "bool" rfl n.f_isinstance rfl n.f_bool (de_var 1)))
 (dss_one (ds_ret (de_and (de_isi "bool" rfl n.f_isinstance rfl n.f_bool (de_var 0)) (de_one (dv_cmp (c_eq hr) (de_var 0) (de_var 1))))))
 dss_nil)
 (dss_cons (ds_if (dt_tru (de_isi "int" rfl n.f_isinstance rfl n.f_int (de_var 1)))
 (dss_one (ds_ret (de_and (de_isi "int" rfl n.f_isinstance rfl n.f_int (de_var 0)) (de_and (de_not (de_isi "bool" rfl n.f_isinstance rfl n.f_bool (de_var 0))) (de_one (dv_cmp (c_eq hr) (de_var 0) (de_var 1)))))))
 dss_nil)
 (dss_cons (ds_if (dt_tru (de_isi "str" rfl n.f_isinstance rfl n.f_str (de_var 1)))
 (dss_one (ds_ret (de_and (de_isi "str" rfl n.f_isinstance rfl n.f_str (de_var 0)) (de_one (dv_cmp (c_eq hr) (de_var 0) (de_var 1))))))
 dss_nil)
 (dss_cons (ds_if (dt_tru (de_isi "dict" rfl n.f_isinstance rfl n.f_dict (de_var 1)))
 (dss_one (ds_ret (de_and (de_isi "dict" rfl n.f_isinstance rfl n.f_dict (de_var 0)) (de_one (dv_cmp (c_eq hr) (de_var 0) (de_var 1))))))
 dss_nil)
 (dss_cons (ds_if (DW.dt (dw_or (tt_cmp (c_ne hr) (de_isi "tuple" rfl n.f_isinstance rfl n.f_tuple (de_var 1)) (de_isi "tuple" rfl n.f_isinstance rfl n.f_tuple (de_var 0))) (dw_or1 (tt_cmp (c_ne hr) (de_isi "list" rfl n.f_isinstance rfl n.f_list (de_var 1)) (de_isi "list" rfl n.f_isinstance rfl n.f_list (de_var 0))))))
 (dss_one (ds_ret de_bl))
 dss_nil)
 (dss_one (ds_ret (de_and (dv_cmp (c_eq hr) (de_blt b_len rfl n.f_len (da_cons (de_var 0) da_nil)) (de_blt b_len rfl n.f_len (da_cons (de_var 1) da_nil))) (de_one (de_blt (b_all rfl) rfl n.f_all (da_cons (de_lc rfl nd_law_same (di_range1 rfl n.f_range (da_cons (de_blt b_len rfl n.f_len (da_cons (de_var 1) da_nil)) da_nil)) (blkOk_by (N := N_law_same) (sc := defScope (top 23)) (own := [("k", 2)]) (by decide +kernel)) (fun _ _ _ _ _ => (pg_name (i := 2) nd_law_same rfl (by first | exact Or.inl rfl | exact Or.inr rfl) (by first | exact .inl rfl | exact .inr rfl))) tgc_name (fun _ _ _ _ _ => dts_nil) (fun _ _ _ _ _ => (de_callL h_law_same G_law_same hr takes0 rfl (da_cons (de_ixA hr (de_var 0) (de_var 2)) (da_cons (de_ixA hr (de_var 1) (de_var 2)) da_nil))))) da_nil))))))))))))) hsem
/-! ### law -/
abbrev N_law : List Str := ["script", "draws", "known", "k", "key", "size", "tree", "place", "looks", "other", "fresh", "sizes", "bad", "row"]
theorem nd_law : N_law.Nodup := by decide +kernel
theorem sc_law : FnScope N_law ["script"] (defScope (top 25)) := ⟨rfl, rfl, rfl, nd_law, rfl, by decide +kernel, by decide +kernel⟩
theorem bd_law {K : Fr} {f : Addr} {fd : FuncData} (F : FnP K "law" 25 f fd) : Binds K fd ["script"] [] := F.bindsN fun _ _ _ _ _ _ us hl => match us, hl with | [_], _ => rfl
def p_0 : TDS := dAsg (dCall (arS 2 sp_drawsX) (dCons (dVar 0) (dCons (dC (.int 300)) (dNil)))) (dgName 1)
def p_1 : TDS := dAsg (dTup (dCons (dTup (dNil)) (dCons (dLst (dNil)) (dNil)))) (dgTup 2 (dgCons (dgName 13) (dgCons (dgName 2) (dgNil))))
def p_2_0_0 : TDS := dAsg (dCall (arS 2 sp_take) (dCons (dVar 1) (dCons (dC (.int 99)) (dNil)))) (dgName 4)
def p_2_0_1 : TDS := dAsg (dTup (dCons (dCall (arS 2 sp_skput) (dCons (dVar 13) (dCons (dVar 4) (dNil)))) (dCons (dBin addD (dLst (dCons (dVar 4) (dNil))) (dVar 2)) (dNil)))) (dgTup 2 (dgCons (dgName 13) (dgCons (dgName 2) (dgNil))))
def p_2_0e_0 : TDS := dAsg (dCall (arS 1 sp_sktaken) (dCons (dVar 13) (dNil))) (dgTup 2 (dgCons (dgName 4) (dgCons (dgName 13) (dgNil))))
def p_2_0e_1 : TDS := dIfS (dB (dBin (eqD true) (dVar 4) (dBin ixA (dVar 2) (dC (.int 0))))) (dRet (dC (.bl false))) (dNext)
def p_2_0e_2 : TDS := dAsg (dSlice (dVar 2) (dPart (dC (.int 1))) (dNoPart)) (dgName 2)
def p_2_0 : TDS := dIfS (dOr (dB (dBin gtD (dCall (arS 2 sp_take) (dCons (dVar 1) (dCons (dC (.int 4)) (dNil)))) (dC (.int 0)))) (dB (dBin (eqD false) (dCB lenD (dCons (dVar 2) (dNil))) (dC (.int 0))))) (dSeq (p_2_0_0) (p_2_0_1)) (dSeq (p_2_0e_0) (dSeq (p_2_0e_1) (p_2_0e_2)))
def p_2_1 : TDS := dIfS (dOr (dB (dBin (eqD true) (dCall (arS 1 sp_skkeys) (dCons (dVar 13) (dNil))) (dCB tupleD (dCons (dVar 2) (dNil))))) (dOr (dB (dBin (eqD true) (dCall (arS 1 sp_sklen) (dCons (dVar 13) (dNil))) (dCB lenD (dCons (dVar 2) (dNil))))) (dOr (dNot (dTru (dCall (arS 1 sp_skright) (dCons (dVar 13) (dNil))))) (dOr (dB (dBin (eqD true) (dCB tupleD (dCons (dLc (iSeqD (dVar 13)) (dgTup 2 (dgCons (dgName 5) (dgCons (dgName 6) (dgNil)))) (dYes) (dVar 5) [5, 6]) (dNil))) (dCall (arS 1 sp_sksizes) (dCons (dCB lenD (dCons (dVar 2) (dNil))) (dNil))))) (dB (dBin (eqD true) (dVar 13) (dCall (arS 1 sp_skbuilt) (dCons (dCB tupleD (dCons (dVar 2) (dNil))) (dNil))))))))) (dRet (dC (.bl false))) (dNext)
def p_2 : TDS := dFor (iArgs rng1D (dCons (dCall (arS 2 sp_take) (dCons (dVar 1) (dCons (dC (.int 60)) (dNil)))) (dNil))) (dgName 3) (dSeq (p_2_0) (p_2_1))
def p_3 : TDS := dAsg (dCB lenD (dCons (dVar 2) (dNil))) (dgName 5)
def p_4_0 : TDS := dAsg (dCall (arS 2 sp_skkey) (dCons (dVar 13) (dCons (dVar 7) (dNil)))) (dgTup 2 (dgCons (dgName 4) (dgCons (dgName 8) (dgNil))))
def p_4_1 : TDS := dIfS (dOr (dB (dBin (eqD true) (dVar 4) (dBin ixA (dVar 2) (dVar 7)))) (dB (dBin gtD (dVar 8) (dBin mulD (dC (.int 2)) (dCall (arS 1 sp_bits) (dCons (dBin addD (dVar 5) (dC (.int 1))) (dNil))))))) (dRet (dC (.bl false))) (dNext)
def p_4_2 : TDS := dAsg (dCall (arS 3 sp_skchg) (dCons (dVar 13) (dCons (dVar 7) (dCons (dBin addD (dC (.int 500)) (dVar 7)) (dNil))))) (dgTup 2 (dgCons (dgName 9) (dgCons (dgName 10) (dgNil))))
def p_4_3 : TDS := dIfS (dOr (dB (dBin (eqD true) (dCall (arS 1 sp_skkeys) (dCons (dVar 9) (dNil))) (dCB tupleD (dCons (dBin addD (dBin addD (dSlice (dVar 2) (dNoPart) (dPart (dVar 7))) (dLst (dCons (dBin addD (dC (.int 500)) (dVar 7)) (dNil)))) (dSlice (dVar 2) (dPart (dBin addD (dVar 7) (dC (.int 1)))) (dNoPart))) (dNil))))) (dOr (dNot (dTru (dCall (arS 1 sp_skright) (dCons (dVar 9) (dNil))))) (dOr (dB (dBin gtD (dVar 10) (dCall (arS 1 sp_bits) (dCons (dVar 5) (dNil))))) (dB (dBin (eqD true) (dBin ixA (dCall (arS 2 sp_skkey) (dCons (dVar 9) (dCons (dVar 7) (dNil)))) (dC (.int 0))) (dBin addD (dC (.int 500)) (dVar 7))))))) (dRet (dC (.bl false))) (dNext)
def p_4_4 : TDS := dIfS (dB (dBin (eqD true) (dBin ixA (dCall (arS 3 sp_skchg) (dCons (dVar 9) (dCons (dVar 7) (dCons (dBin ixA (dVar 2) (dVar 7)) (dNil))))) (dC (.int 0))) (dVar 13))) (dRet (dC (.bl false))) (dNext)
def p_4 : TDS := dFor (iArgs rng1D (dCons (dVar 5) (dNil))) (dgName 7) (dSeq (p_4_0) (dSeq (p_4_1) (dSeq (p_4_2) (dSeq (p_4_3) (p_4_4)))))
def p_5 : TDS := dAsg (dCall (arS 1 sp_sksizes) (dCons (dCall (arS 2 sp_take) (dCons (dVar 1) (dCons (dC (.int 400)) (dNil)))) (dNil))) (dgName 11)
def p_6 : TDS := dIfS (dOr (dB (dBin gtD (dCB lenD (dCons (dLc (iArgs rng2D (dCons (dC (.int 1)) (dCons (dBin subD (dCB lenD (dCons (dVar 11) (dNil))) (dC (.int 1))) (dNil)))) (dgName 3) (dB (dBin geD (dBin ixA (dVar 11) (dVar 3)) (dBin ixA (dVar 11) (dBin addD (dVar 3) (dC (.int 1)))))) (dC (.int 1)) [3]) (dNil))) (dC (.int 0)))) (dAnd (dB (dBin gtD (dCB lenD (dCons (dVar 11) (dNil))) (dC (.int 1)))) (dB (dBin gtD (dBin ixA (dVar 11) (dC (.int 0))) (dBin ixA (dVar 11) (dC (.int 1))))))) (dRet (dC (.bl false))) (dNext)
def p_7_0 : TDS := dIfS (dB (dBin (eqD true) (dLam (exmL eL "RowError") "code" (.str "") (dCall (arS 2 sp_skkey) (dCons (dVar 13) (dCons (dVar 12) (dNil))))) (dC (.str "place")))) (dRet (dC (.bl false))) (dNext)
def p_7_1 : TDS := dIfS (dB (dBin (eqD true) (dLam (exmL eL "RowError") "code" (.str "") (dCall (arS 3 sp_skchg) (dCons (dVar 13) (dCons (dVar 12) (dCons (dC (.int 1)) (dNil)))))) (dC (.str "place")))) (dRet (dC (.bl false))) (dNext)
def p_7 : TDS := dFor (iSeqD (dTup (dCons (dUn (dU fun i => -i) (dC (.int 1))) (dCons (dVar 5) (dCons (dC (.bl true)) (dNil)))))) (dgName 12) (dSeq (p_7_0) (p_7_1))
def p_8 : TDS := dRet (dAndV (dBin (eqD false) (dLam (exmL eL "RowError") "code" (.str "") (dCall (arS 1 sp_sktaken) (dCons (dTup (dNil)) (dNil)))) (dC (.str "empty"))) (dAndV (dNotV (dCall (arS 1 sp_skright) (dCons (dTup (dCons (dTup (dCons (dC (.int 2)) (dCons (dTup (dCons (dC (.int 1)) (dCons (dC .non) (dCons (dC .non) (dNil))))) (dNil)))) (dNil))) (dNil)))) (dNotV (dCall (arS 1 sp_skright) (dCons (dTup (dCons (dTup (dCons (dC (.int 3)) (dCons (dTup (dCons (dC (.int 1)) (dCons (dTup (dCons (dC (.int 1)) (dCons (dC .non) (dCons (dC .non) (dNil))))) (dCons (dC .non) (dNil))))) (dNil)))) (dNil))) (dNil))))))
def t_law : TDS := dSeq (p_0) (dSeq (p_1) (dSeq (p_2) (dSeq (p_3) (dSeq (p_4) (dSeq (p_5) (dSeq (p_6) (dSeq (p_7) (p_8))))))))
abbrev lamQ : Str := (envOfC "law" (defScope (top 25)) 0 0 .none).qual ++ "<lambda>"
theorem okf_law {P : Program} {w : World} {K : Fr} {mg : Str → Option Value} {base : Heap} {T : Tb} {f : Addr} {fd : FuncData} (n : Nrm K mg) (F : FnP K "law" 25 f fd) (kk : Nat) {c Pt : Addr} (hcd : fd.code = .ref c) (TB : LamX.TabB base mg c Pt) (hTm : (Pt, lamQ) ∈ T) (hTu : ∀ p ∈ T, p.1 = Pt → p.2 = lamQ) {k_law_draws : Nat} (G_law_draws : FnD P w K mg base T "_law_draws" k_law_draws 2 sp_drawsX) (h_law_draws : k_law_draws ≤ kk) {k_law_take : Nat} (G_law_take : FnD P w K mg base T "_law_take" k_law_take 2 sp_take) (h_law_take : k_law_take ≤ kk) {k_put : Nat} (G_put : FnD P w K mg base T "put" k_put 2 sp_skput) (h_put : k_put ≤ kk) {k_taken : Nat} (G_taken : FnD P w K mg base T "taken" k_taken 1 sp_sktaken) (h_taken : k_taken ≤ kk) {k_keys_in : Nat} (G_keys_in : FnD P w K mg base T "keys_in" k_keys_in 1 sp_skkeys) (h_keys_in : k_keys_in ≤ kk) {k_length : Nat} (G_length : FnD P w K mg base T "length" k_length 1 sp_sklen) (h_length : k_length ≤ kk) {k_is_right : Nat} (G_is_right : FnD P w K mg base T "is_right" k_is_right 1 sp_skright) (h_is_right : k_is_right ≤ kk) {k_sizes_of : Nat} (G_sizes_of : FnD P w K mg base T "sizes_of" k_sizes_of 1 sp_sksizes) (h_sizes_of : k_sizes_of ≤ kk) {k_built : Nat} (G_built : FnD P w K mg base T "built" k_built 1 sp_skbuilt) (h_built : k_built ≤ kk) {k_key_at : Nat} (G_key_at : FnD P w K mg base T "key_at" k_key_at 2 sp_skkey) (h_key_at : k_key_at ≤ kk) {k_bits_of : Nat} (G_bits_of : FnD P w K mg base T "bits_of" k_bits_of 1 sp_bits) (h_bits_of : k_bits_of ≤ kk) {k_changed : Nat} (G_changed : FnD P w K mg base T "changed" k_changed 3 sp_skchg) (h_changed : k_changed ≤ kk) (L_law_code : LamF K mg "_law_code" "code" (exmL eL "RowError") (.str "")) {sp : DSp}
 (hsem : ∀ ds M Q E, ds.length = 1 → sp ds M Q E → t_law (dEndsG Q E) (dstart 14 ds) M) : FnOk P w K mg base (L2.CX P w) (kk + 2 + 1) f fd ["script"] (liftSp K T 1 sp) :=
 def_okC F sc_law hcd (fun A outer s H E hr0 =>
 have hr := hr0.mono (Nat.le_add_right kk 2)
 (dss_cons (ds_set 1 nd_law (de_callL h_law_draws G_law_draws hr (takes_of rfl rfl rfl rfl) rfl (da_cons (de_var 0) (da_cons de_int da_nil))))
 (dss_cons (ds_asg (de_tup (da_cons (de_tup da_nil) (da_cons (de_lst da_nil) da_nil))) (dg_tup rfl (dgs_cons (dg_name 13 nd_law) (dgs_cons (dg_name 2 nd_law) dgs_nil))))
 (dss_cons (ds_for (passes_of rfl) rfl (di_range1 rfl n.f_range (da_cons (de_callL h_law_take G_law_take hr (takes_of rfl rfl rfl rfl) rfl (da_cons (de_var 1) (da_cons de_int da_nil))) da_nil)) (dg_name 3 nd_law)
 (dss_cons (ds_if (DW.dt (dw_or (tt_cmp c_gt (de_callL h_law_take G_law_take hr (takes_of rfl rfl rfl rfl) rfl (da_cons (de_var 1) (da_cons de_int da_nil))) de_int) (dw_or1 (tt_cmp (c_eq hr) (de_blt b_len rfl n.f_len (da_cons (de_var 2) da_nil)) de_int))))
 (dss_cons (ds_set 4 nd_law (de_callL h_law_take G_law_take hr (takes_of rfl rfl rfl rfl) rfl (da_cons (de_var 1) (da_cons de_int da_nil))))
 (dss_one (ds_asg (de_tup (da_cons (de_callL h_put G_put hr (takes_of rfl rfl rfl rfl) rfl (da_cons (de_var 13) (da_cons (de_var 4) da_nil))) (da_cons (de_add (de_lst (da_cons (de_var 4) da_nil)) (de_var 2)) da_nil))) (dg_tup rfl (dgs_cons (dg_name 13 nd_law) (dgs_cons (dg_name 2 nd_law) dgs_nil))))))
 (dss_cons (ds_asg (de_callL h_taken G_taken hr (takes_of rfl rfl rfl rfl) rfl (da_cons (de_var 13) da_nil)) (dg_tup rfl (dgs_cons (dg_name 4 nd_law) (dgs_cons (dg_name 13 nd_law) dgs_nil))))
 (dss_cons (ds_if (tt_cmp (c_ne hr) (de_var 4) (de_ixA hr (de_var 2) de_int))
 (dss_one (ds_ret de_bl))
 dss_nil)
 (dss_one (ds_set 2 nd_law (de_slice (de_var 2) (do_some de_int) do_none))))))
 (dss_one (ds_if (DW.dt (dw_or (tt_cmp (c_ne hr) (de_callL h_keys_in G_keys_in hr (takes_of rfl rfl rfl rfl) rfl (da_cons (de_var 13) da_nil)) (de_ty t_tuple rfl n.f_tuple (da_cons (de_var 2) da_nil))) (dw_or (tt_cmp (c_ne hr) (de_callL h_length G_length hr (takes_of rfl rfl rfl rfl) rfl (da_cons (de_var 13) da_nil)) (de_blt b_len rfl n.f_len (da_cons (de_var 2) da_nil))) (dw_or (dt_not (dt_tru (de_callL h_is_right G_is_right hr (takes_of rfl rfl rfl rfl) rfl (da_cons (de_var 13) da_nil)))) (dw_or (tt_cmp (c_ne hr) (de_ty t_tuple rfl n.f_tuple (da_cons (de_lc rfl nd_law (di_seq (de_var 13)) (blkOk_by (N := N_law) (sc := defScope (top 25)) (own := [("size", 5), ("tree", 6)]) (by decide +kernel)) (fun _ _ _ _ _ => (pg_tup rfl (pgs_cons (pg_name (i := 5) nd_law rfl (by first | exact Or.inl rfl | exact Or.inr rfl) (by first | exact .inl rfl | exact .inr rfl)) (pgs_cons (pg_name (i := 6) nd_law rfl (by first | exact Or.inl rfl | exact Or.inr rfl) (by first | exact .inl rfl | exact .inr rfl)) pgs_nil rfl) rfl) rfl rfl)) (tgc_tup (tgcs_cons tgc_name (tgcs_cons tgc_name tgcs_nil))) (fun _ _ _ _ _ => dts_nil) (fun _ _ _ _ _ => (de_var 5))) da_nil)) (de_callL h_sizes_of G_sizes_of hr (takes_of rfl rfl rfl rfl) rfl (da_cons (de_blt b_len rfl n.f_len (da_cons (de_var 2) da_nil)) da_nil))) (dw_or1 (tt_cmp (c_ne hr) (de_var 13) (de_callL h_built G_built hr (takes_of rfl rfl rfl rfl) rfl (da_cons (de_ty t_tuple rfl n.f_tuple (da_cons (de_var 2) da_nil)) da_nil)))))))))
 (dss_one (ds_ret de_bl))
 dss_nil))))
 (dss_cons (ds_set 5 nd_law (de_blt b_len rfl n.f_len (da_cons (de_var 2) da_nil)))
 (dss_cons (ds_for (passes_of rfl) rfl (di_range1 rfl n.f_range (da_cons (de_var 5) da_nil)) (dg_name 7 nd_law)
 (dss_cons (ds_asg (de_callL h_key_at G_key_at hr (takes_of rfl rfl rfl rfl) rfl (da_cons (de_var 13) (da_cons (de_var 7) da_nil))) (dg_tup rfl (dgs_cons (dg_name 4 nd_law) (dgs_cons (dg_name 8 nd_law) dgs_nil))))
 (dss_cons (ds_if (DW.dt (dw_or (tt_cmp (c_ne hr) (de_var 4) (de_ixA hr (de_var 2) (de_var 7))) (dw_or1 (tt_cmp c_gt (de_var 8) (de_mul de_int (de_callL h_bits_of G_bits_of hr (takes_of rfl rfl rfl rfl) rfl (da_cons (de_add (de_var 5) de_int) da_nil)))))))
 (dss_one (ds_ret de_bl))
 dss_nil)
 (dss_cons (ds_asg (de_callL h_changed G_changed hr (takes_of rfl rfl rfl rfl) rfl (da_cons (de_var 13) (da_cons (de_var 7) (da_cons (de_add de_int (de_var 7)) da_nil)))) (dg_tup rfl (dgs_cons (dg_name 9 nd_law) (dgs_cons (dg_name 10 nd_law) dgs_nil))))
 (dss_cons (ds_if (DW.dt (dw_or (tt_cmp (c_ne hr) (de_callL h_keys_in G_keys_in hr (takes_of rfl rfl rfl rfl) rfl (da_cons (de_var 9) da_nil)) (de_ty t_tuple rfl n.f_tuple (da_cons (de_add (de_add (de_slice (de_var 2) do_none (do_some (de_var 7))) (de_lst (da_cons (de_add de_int (de_var 7)) da_nil))) (de_slice (de_var 2) (do_some (de_add (de_var 7) de_int)) do_none)) da_nil))) (dw_or (dt_not (dt_tru (de_callL h_is_right G_is_right hr (takes_of rfl rfl rfl rfl) rfl (da_cons (de_var 9) da_nil)))) (dw_or (tt_cmp c_gt (de_var 10) (de_callL h_bits_of G_bits_of hr (takes_of rfl rfl rfl rfl) rfl (da_cons (de_var 5) da_nil))) (dw_or1 (tt_cmp (c_ne hr) (de_ixA hr (de_callL h_key_at G_key_at hr (takes_of rfl rfl rfl rfl) rfl (da_cons (de_var 9) (da_cons (de_var 7) da_nil))) de_int) (de_add de_int (de_var 7))))))))
 (dss_one (ds_ret de_bl))
 dss_nil)
 (dss_one (ds_if (tt_cmp (c_ne hr) (de_ixA hr (de_callL h_changed G_changed hr (takes_of rfl rfl rfl rfl) rfl (da_cons (de_var 9) (da_cons (de_var 7) (da_cons (de_ixA hr (de_var 2) (de_var 7)) da_nil)))) de_int) (de_var 13))
 (dss_one (ds_ret de_bl))
 dss_nil)))))))
 (dss_cons (ds_set 11 nd_law (de_callL h_sizes_of G_sizes_of hr (takes_of rfl rfl rfl rfl) rfl (da_cons (de_callL h_law_take G_law_take hr (takes_of rfl rfl rfl rfl) rfl (da_cons (de_var 1) (da_cons de_int da_nil))) da_nil)))
 (dss_cons (ds_if (DW.dt (dw_or (tt_cmp c_gt (de_blt b_len rfl n.f_len (da_cons (de_lc rfl nd_law (di_range2 rfl n.f_range (da_cons de_int (da_cons (de_sub (de_blt b_len rfl n.f_len (da_cons (de_var 11) da_nil)) de_int) da_nil))) (blkOk_by (N := N_law) (sc := defScope (top 25)) (own := [("k", 3)]) (by decide +kernel)) (fun _ _ _ _ _ => (pg_name (i := 3) nd_law rfl (by first | exact Or.inl rfl | exact Or.inr rfl) (by first | exact .inl rfl | exact .inr rfl))) tgc_name (fun _ _ _ _ _ => (dts_one (tt_cmp c_ge (de_ixA hr (de_var 11) (de_var 3)) (de_ixA hr (de_var 11) (de_add (de_var 3) de_int))))) (fun _ _ _ _ _ => de_int)) da_nil)) de_int) (dw_or1 (DW.dt (dw_and (tt_cmp c_gt (de_blt b_len rfl n.f_len (da_cons (de_var 11) da_nil)) de_int) (dw_and1 (tt_cmp c_gt (de_ixA hr (de_var 11) de_int) (de_ixA hr (de_var 11) de_int))))))))
 (dss_one (ds_ret de_bl))
 dss_nil)
 (dss_cons (ds_for (passes_of rfl) rfl (di_seq (de_tup (da_cons (de_neg de_int) (da_cons (de_var 5) (da_cons de_bl da_nil))))) (dg_name 12 nd_law)
 (dss_cons (ds_if (tt_cmp (c_ne hr) (de_lam L_law_code rfl TB rfl hTm hTu hr0 (Nat.le_refl _) rfl rfl (fun _ _ _ _ _ => rfl) (fun A outer s H E f c' hr2 => (de_callL h_key_at G_key_at hr2 (takes_of rfl rfl rfl rfl) rfl (da_cons (de_var 13) (da_cons (de_var 12) da_nil))))) de_str)
 (dss_one (ds_ret de_bl))
 dss_nil)
 (dss_one (ds_if (tt_cmp (c_ne hr) (de_lam L_law_code rfl TB rfl hTm hTu hr0 (Nat.le_refl _) rfl rfl (fun _ _ _ _ _ => rfl) (fun A outer s H E f c' hr2 => (de_callL h_changed G_changed hr2 (takes_of rfl rfl rfl rfl) rfl (da_cons (de_var 13) (da_cons (de_var 12) (da_cons de_int da_nil)))))) de_str)
 (dss_one (ds_ret de_bl))
 dss_nil))))
 (dss_one (ds_ret (de_and (dv_cmp (c_eq hr) (de_lam L_law_code rfl TB rfl hTm hTu hr0 (Nat.le_refl _) rfl rfl (fun _ _ _ _ _ => rfl) (fun A outer s H E f c' hr2 => (de_callL h_taken G_taken hr2 (takes_of rfl rfl rfl rfl) rfl (da_cons (de_tup da_nil) da_nil)))) de_str) (de_and (de_not (de_callL h_is_right G_is_right hr (takes_of rfl rfl rfl rfl) rfl (da_cons (de_tup (da_cons (de_tup (da_cons de_int (da_cons (de_tup (da_cons de_int (da_cons de_non (da_cons de_non da_nil)))) da_nil))) da_nil)) da_nil))) (de_one (de_not (de_callL h_is_right G_is_right hr (takes_of rfl rfl rfl rfl) rfl (da_cons (de_tup (da_cons (de_tup (da_cons de_int (da_cons (de_tup (da_cons de_int (da_cons (de_tup (da_cons de_int (da_cons de_non (da_cons de_non da_nil)))) (da_cons de_non da_nil)))) da_nil))) da_nil)) da_nil))))))))))))))))) hsem
def initS (i : Nat) : Stmt := (C8.clsBody (top i)).getD 0 (.Pass ⟨0, 0, 0, 0⟩)
def erW (x fld ql : Str) (i : Nat) : ErrW := ⟨x, fld, ql, defArgs (initS i), defBody (initS i), defScope (initS i)⟩
def fileS : Str := PySem.Challenge.pw_paidsteps_k21_whole_rows_of_trees.main.file
theorem xc_NoKey {P : Program} {w : World} {K : Fr} {mg : Str → Option Value} {base h : Heap} (KX : K.In h) (G : h.Ns mainGlobals mg) (B : errB fileS K "NoKey" "code" "NoKey.__init__" = true) (W : inW K "NoKey" = (erW "NoKey" "code" "NoKey.__init__" 2).val) (hP : P.main.file = fileS) (htop : (P.main.scope.names.lookup kSup).isSome = false) (hs : mg kSup = none) (k : Nat) : ExcD P w K mg base "NoKey" "code" (k + 1) :=
  excD_of (a := "self") (b := "code") (params := defArgs (initS 2)) (scope := defScope (initS 2)) KX G B W hP htop ⟨rfl, rfl, rfl, by decide, rfl, rfl, rfl, rfl, by decide +kernel, by decide +kernel⟩ rfl rfl hs (by decide) (fun _ _ _ _ => rfl) (fun _ _ _ _ _ _ _ _ _ => rfl) (by decide) (by decide) (by decide) (by decide) k
theorem xc_RowError {P : Program} {w : World} {K : Fr} {mg : Str → Option Value} {base h : Heap} (KX : K.In h) (G : h.Ns mainGlobals mg) (B : errB fileS K "RowError" "code" "RowError.__init__" = true) (W : inW K "RowError" = (erW "RowError" "code" "RowError.__init__" 3).val) (hP : P.main.file = fileS) (htop : (P.main.scope.names.lookup kSup).isSome = false) (hs : mg kSup = none) (k : Nat) : ExcD P w K mg base "RowError" "code" (k + 1) :=
  excD_of (a := "self") (b := "code") (params := defArgs (initS 3)) (scope := defScope (initS 3)) KX G B W hP htop ⟨rfl, rfl, rfl, by decide, rfl, rfl, rfl, rfl, by decide +kernel, by decide +kernel⟩ rfl rfl hs (by decide) (fun _ _ _ _ => rfl) (fun _ _ _ _ _ _ _ _ _ => rfl) (by decide) (by decide) (by decide) (by decide) k
theorem sc_law_code : FnScope ["call", "e"] ["call"] (defScope (top 24)) := ⟨rfl, rfl, rfl, by decide +kernel, rfl, by decide +kernel, by decide +kernel⟩
theorem bd_law_code {K : Fr} {f : Addr} {fd : FuncData} (F : FnP K "_law_code" 24 f fd) : Binds K fd ["call"] [] := F.bindsN fun _ _ _ _ _ _ us hl => match us, hl with | [_], _ => rfl
theorem lm_law_code {K : Fr} {mg : Str → Option Value} {h : Heap} {f : Addr} {fd : FuncData} (KX : K.In h) (G : h.Ns mainGlobals mg) (F : FnP K "_law_code" 24 f fd) (hm : mg "_law_code" = some (.ref f)) (B0 : errB fileS K "RowError" "code" "RowError.__init__" = true) (BL0 : exmLB K eL "RowError" = true) : LamF K mg "_law_code" "code" (exmL eL "RowError") (.str "") :=
  lamF_of (pg := defArgs (top 24)) (sg := defScope (top 24)) (a := "call") (en := "e") (ex := "RowError") (Ng := ["call", "e"]) (i := 1) KX G F hm (bd_law_code F) sc_law_code rfl (.inl rfl) rfl (by decide) rfl rfl ⟨by decide, by decide, by decide, by decide, by decide⟩ (fun _ => rfl) (fun _ => pe_str) (fun _ => .str _) B0 BL0
end DL.K21
-- BAD _law_code: stmt Try

set_option Elab.async false
set_option linter.all false
set_option maxRecDepth 100000
set_option maxHeartbeats 1000000
namespace DL.K21
open PySem PySem.Spec PyProof.Rows L2 DL SK
set_option hygiene false in
local macro_rules | `(tactic| array_mem_dec) => `(tactic| first | assumption | exact mup_same | (apply mup_keep; (assumption; done); array_mem_dec) | (apply mup_keep2; array_get_dec; array_mem_dec))
set_option hygiene false in
local macro_rules | `(tactic| array_get_dec) => `(tactic| first | assumption | (apply Ne.symm; assumption) | exact ne_by (by assumption) (by array_mem_dec) | exact Ne.symm (ne_by (by assumption) (by array_mem_dec)))
set_option hygiene false in
local macro_rules | `(tactic| clean_wf) => `(tactic| first | exact Nat.le_of_ble_eq_true rfl | omega | (focus (simp; done)) | (simp; omega))
set_option hygiene false in
local macro_rules | `(tactic| sizeOf_list_dec) => `(tactic| repeat' (first
  | ((with_reducible apply w_gen); assumption; (first | exact Nat.le_of_ble_eq_true rfl | omega); intro τ hs)
  | ((with_reducible apply w_gen2); assumption; (first | exact Nat.le_of_ble_eq_true rfl | omega); (first | exact Nat.le_of_ble_eq_true rfl | omega); intro τ hs) | ((with_reducible apply w_gen3); assumption; (first | exact Nat.le_of_ble_eq_true rfl | omega); (first | exact Nat.le_of_ble_eq_true rfl | omega); (first | exact Nat.le_of_ble_eq_true rfl | omega); intro τ hs) | ((with_reducible apply w_gen4); assumption; (first | exact Nat.le_of_ble_eq_true rfl | omega); (first | exact Nat.le_of_ble_eq_true rfl | omega); (first | exact Nat.le_of_ble_eq_true rfl | omega); (first | exact Nat.le_of_ble_eq_true rfl | omega); intro τ hs)
  | with_reducible apply w_seq | with_reducible apply w_asg | with_reducible apply w_nx | with_reducible apply w_nrt | with_reducible apply w_lx | with_reducible apply w_lrt | with_reducible apply w_grt | with_reducible apply w_gx | with_reducible apply w_bin
  | ((with_reducible apply w_var); assumption; rfl)
  | with_reducible apply w_c | with_reducible apply w_nil | with_reducible apply w_cons | with_reducible apply w_call | ((with_reducible apply w_ar); rfl) | with_reducible apply w_cb
  | with_reducible apply w_drop | with_reducible apply w_ret | with_reducible apply w_if | with_reducible apply w_next | with_reducible apply w_dB | with_reducible apply w_isB | with_reducible apply w_tru
  | ((with_reducible apply w_truK); (first | exact tr_bl | exact tr_int | exact tr_non | exact tr_tup | (apply tr_lst; array_mem_dec) | (apply tr_dk; array_mem_dec)))
  | with_reducible apply w_not | with_reducible apply w_and | with_reducible apply w_or | with_reducible apply w_yes
  | with_reducible apply w_itt | with_reducible apply w_itf | with_reducible apply w_ite0 | with_reducible apply w_itec | with_reducible apply w_iteS | (with_reducible apply w_ite <;> intro hc) | with_reducible apply w_itnot
  | ((with_reducible apply w_itp); (first | assumption | omega | (focus (simp; done)) | (focus (simp; omega)))) | ((with_reducible apply w_itn); (first | assumption | omega | (focus (simp; done)) | (focus (simp; omega)))) | (with_reducible apply w_itd <;> intro hc)
  | ((with_reducible apply w_itzp); (first | assumption | omega)) | ((with_reducible apply w_itzn); (first | assumption | omega)) | (with_reducible apply w_itz <;> intro hc)
  | ((with_reducible apply w_itbp); (first | assumption | rfl)) | ((with_reducible apply w_itbn); (first | assumption | rfl))
  | with_reducible apply w_add_i | with_reducible apply w_addI | with_reducible apply w_di0 | ((with_reducible apply w_di); (first | exact ⟨by decide, by decide⟩ | exact ⟨by decide, by decide, by decide⟩ | (unfold CMul; omega) | (show (0 : Int) < _; omega) | (show (0 : Int) ≤ _; omega)))
  | ((with_reducible apply w_mul_i); (first | (unfold CMul; omega) | assumption)) | ((with_reducible apply w_mulI); (first | (unfold CMul; omega) | assumption)) | with_reducible apply w_un | with_reducible apply w_dU
  | ((with_reducible apply w_ix_t); (first | exact atI_0 | exact atI_1 | exact atI_2 | exact atI_3 | exact atI_last | assumption))
  | ((with_reducible apply w_ix_l); array_mem_dec; (first | exact atI_0 | exact atI_1 | exact atI_2 | exact atI_3 | exact atI_last | assumption))
  | with_reducible apply w_eq_i | with_reducible apply w_ne_i | with_reducible apply w_eq_ti | with_reducible apply w_ne_ti | with_reducible apply w_eq_ni | with_reducible apply w_ne_ni | with_reducible apply w_eq_in | with_reducible apply w_ne_in | with_reducible apply w_eq_nn | with_reducible apply w_ne_nn | with_reducible apply w_eq_b | with_reducible apply w_ne_b
  | ((with_reducible apply w_eq_li); array_mem_dec; array_mem_dec) | ((with_reducible apply w_ne_li); array_mem_dec; array_mem_dec)
  | with_reducible apply w_len_t | ((with_reducible apply w_len_l); array_mem_dec) | ((with_reducible apply w_len_d); array_mem_dec)
  | ((with_reducible apply w_sz); clean_wf) | with_reducible apply w_tup | with_reducible apply w_lst
  | with_reducible apply w_ml | with_reducible apply w_ml0 | ((with_reducible apply w_isl); array_mem_dec)
  | ((with_reducible apply w_append1); rfl; clean_wf) | ((with_reducible apply w_append); array_mem_dec; clean_wf) | ((with_reducible apply w_pop); array_mem_dec; clean_wf)
  | with_reducible apply w_tuple_t | ((with_reducible apply w_tuple_l); array_mem_dec) | with_reducible apply w_list_t | ((with_reducible apply w_list_l); array_mem_dec)
  | with_reducible apply w_slice | with_reducible apply w_nop | with_reducible apply w_prt | with_reducible apply w_prtK | with_reducible apply w_sl_t1 | with_reducible apply w_sl_t2 | with_reducible apply w_sl_tl | ((with_reducible apply w_sl_l1); array_mem_dec) | ((with_reducible apply w_sl_ll); array_mem_dec) | with_reducible apply w_sl_t | ((with_reducible apply w_sl_l); array_mem_dec)
  | ((with_reducible apply w_add_t1); clean_wf) | ((with_reducible apply w_add_t0); clean_wf) | ((with_reducible apply w_add_t); clean_wf) | ((with_reducible apply w_add_l); array_mem_dec; array_mem_dec; clean_wf)
  | with_reducible apply w_is_nf | with_reducible apply w_is_nt
  | with_reducible apply w_par | with_reducible apply w_parK | with_reducible apply w_par3 | with_reducible apply w_parK3
  | ((with_reducible apply w_aug); assumption; rfl)
  | with_reducible apply w_asgG | ((with_reducible apply w_wipeG); assumption; intro τ hs) | ((with_reducible apply w_gNm); assumption; (first | exact Nat.le_of_ble_eq_true rfl | omega); intro τ hs) | ((with_reducible apply w_gTup); rfl) | with_reducible apply w_gNil | with_reducible apply w_gCons | with_reducible apply w_gSub
  | with_reducible apply w_break | with_reducible apply w_cont | with_reducible apply w_retN | with_reducible apply w_nbk | with_reducible apply w_nct | with_reducible apply w_nex | with_reducible apply w_lbk | with_reducible apply w_lct | with_reducible apply w_lex | with_reducible apply w_xx | with_reducible apply w_xrt | with_reducible apply w_xbk | with_reducible apply w_xct | with_reducible apply w_xex | with_reducible apply w_gex | with_reducible apply w_raise | with_reducible apply w_try
  | with_reducible apply w_ife | with_reducible apply w_andV | with_reducible apply w_orV | with_reducible apply w_notV
  | ((with_reducible apply w_andVK); (first | exact tr_bl | exact tr_int | exact tr_non | exact tr_tup | (apply tr_lst; array_mem_dec) | (apply tr_dk; array_mem_dec)))
  | ((with_reducible apply w_orVK); (first | exact tr_bl | exact tr_int | exact tr_non | exact tr_tup | (apply tr_lst; array_mem_dec) | (apply tr_dk; array_mem_dec)))
  | ((with_reducible apply w_notVK); (first | exact tr_bl | exact tr_int | exact tr_non | exact tr_tup | (apply tr_lst; array_mem_dec) | (apply tr_dk; array_mem_dec)))
  | with_reducible apply w_chain | with_reducible apply w_chKt | with_reducible apply w_chKf | ((with_reducible apply w_chKp); (first | assumption | omega | (focus (simp; done)) | (focus (simp; omega)))) | ((with_reducible apply w_chKn); (first | assumption | omega | (focus (simp; done)) | (focus (simp; omega)))) | (with_reducible apply w_chKd <;> intro hc)
  | with_reducible apply w_bits | with_reducible apply w_bitK | with_reducible apply w_int_i | with_reducible apply w_max2 | with_reducible apply w_min2 | with_reducible apply w_abs
  | ((with_reducible apply w_sum); array_mem_dec) | ((with_reducible apply w_all); array_mem_dec) | ((with_reducible apply w_any); array_mem_dec) | ((with_reducible apply w_anyA_i); array_mem_dec) | ((with_reducible apply w_anyA_b); array_mem_dec)
  | with_reducible apply w_for | with_reducible apply w_iseq | with_reducible apply w_seqI_t | ((with_reducible apply w_seqI_l); array_mem_dec) | with_reducible apply w_iargs
  | ((with_reducible apply w_rng1); (constructor <;> omega)) | ((with_reducible apply w_rng2); (constructor <;> omega); (constructor <;> omega))
  | with_reducible apply w_irev | with_reducible apply w_rev_t | ((with_reducible apply w_rev_l); array_mem_dec) | with_reducible apply w_zip_t | ((with_reducible apply w_zip_l); array_mem_dec; array_mem_dec) | with_reducible apply w_izipr | ((with_reducible apply w_zr1); array_mem_dec) | with_reducible apply w_enum_t | ((with_reducible apply w_enum_l); array_mem_dec)
  | with_reducible apply w_dict | ((with_reducible apply w_ix_d); array_mem_dec; rfl; assumption) | ((with_reducible apply w_in_d); array_mem_dec; rfl) | ((with_reducible apply w_nin_d); array_mem_dec; rfl) | ((with_reducible apply w_set_d); array_mem_dec; rfl; clean_wf)
  | ((with_reducible apply w_take); array_mem_dec; (first | decide | omega); intro r hr0 hr1) | with_reducible apply w_spbits | with_reducible apply w_isnum_i | with_reducible apply w_isnum_b | with_reducible apply w_isnum_n | with_reducible apply w_isnum_t | with_reducible apply w_isnum_s | ((with_reducible apply w_keyX1); rfl; (first | assumption | (simp [keyB]; omega)))
  | with_reducible apply w_lamG | with_reducible apply w_lam | with_reducible apply w_lc | with_reducible apply w_lc2 | with_reducible apply w_gany | (with_reducible apply w_gat; array_mem_dec) | ((with_reducible apply w_gat2); array_mem_dec; array_mem_dec) | with_reducible apply w_lc0 | with_reducible apply w_lc1 | ((with_reducible apply w_lcK1); rfl; clean_wf) | ((with_reducible apply w_lcK); array_mem_dec; clean_wf) | with_reducible apply w_li0 | with_reducible apply w_li1 | ((with_reducible apply w_liK1); rfl; clean_wf) | ((with_reducible apply w_liK); array_mem_dec; clean_wf) | with_reducible apply w_lo0 | with_reducible apply w_lo1 | with_reducible apply w_fnil | with_reducible apply w_fcons | with_reducible apply w_augS
  | ((with_reducible apply w_ne_ss); decide +kernel) | ((with_reducible apply w_eq_ss); decide +kernel) | ((with_reducible apply w_draws); assumption; omega; decide; decide)
  | with_reducible apply w_tupRev | with_reducible apply w_tupRevT | ((with_reducible apply w_tupRevL); array_mem_dec) | with_reducible apply w_lstRg1 | ((with_reducible apply w_lstRgK); (constructor <;> omega))
  | (show ∀ p, _ = none → _; intro pp hpp)))
set_option hygiene false in
local macro_rules | `(tactic| and_intros) => `(tactic| ((repeat' (first | exact trivial | apply And.intro)) <;> (refine congrArg some (?_ : (_ : D) = _)) <;> (first | with_reducible rfl | with_reducible exact Eq.refl _ | (refine congrArg D.int ?_; (first | omega | (simp; omega) | (focus (simp; done)))) | (focus (simp; done)) | rfl)))
set_option hygiene false in
local macro_rules | `(tactic| get_elem_tactic_trivial) => `(tactic| first | exact MLe.refl _ | assumption | (apply mle_up; get_elem_tactic_trivial; (first | assumption | exact mup_non1 (by assumption) | exact mup_non1 (mup_non1 (by assumption)) | exact mup_non1 (mup_non1 (mup_non1 (by assumption))) | exact mup_non1 (mup_non1 (mup_non1 (mup_non1 (by assumption)))) | exact mup_non1 (mup_non1 (mup_non1 (mup_non1 (mup_non1 (by assumption))))) | exact mup_non1 (mup_non1 (mup_non1 (mup_non1 (mup_non1 (mup_non1 (by assumption)))))) | exact mup_non1 (mup_non1 (mup_non1 (mup_non1 (mup_non1 (mup_non1 (mup_non1 (by assumption))))))) | exact mup_non1 (mup_non1 (mup_non1 (mup_non1 (mup_non1 (mup_non1 (mup_non1 (mup_non1 (by assumption)))))))) | exact mle_non (by assumption) (by first | assumption | exact mup_non1 (by assumption) | exact mup_non1 (mup_non1 (by assumption)) | exact mup_non1 (mup_non1 (mup_non1 (by assumption))) | exact mup_non1 (mup_non1 (mup_non1 (mup_non1 (by assumption)))) | exact mup_non1 (mup_non1 (mup_non1 (mup_non1 (mup_non1 (by assumption))))) | exact mup_non1 (mup_non1 (mup_non1 (mup_non1 (mup_non1 (mup_non1 (by assumption)))))) | exact mup_non1 (mup_non1 (mup_non1 (mup_non1 (mup_non1 (mup_non1 (mup_non1 (by assumption))))))) | exact mup_non1 (mup_non1 (mup_non1 (mup_non1 (mup_non1 (mup_non1 (mup_non1 (mup_non1 (by assumption))))))))))))

theorem NB_pt : ∀ t : PT, NB t.enc = true
  | .nil => rfl
  | .node k l r => by simp [PT.enc, NB_pt l, NB_pt r]
theorem dp_mk : ∀ (h : Nat) (ks : List Int), dpD (mk h ks).enc ≤ h
  | 0, _ => by simp [mk, PT.enc]
  | h + 1, [] => by simp [mk, PT.enc]
  | h + 1, k :: ks => by
    have h1 := dp_mk h ks
    have h2 := dp_mk h (ks.drop (sz h))
    simp [mk, PT.enc]; omega
theorem NB_row : ∀ (us : List Nat) (ks : List Int), NBs (encR us ks) = true
  | [], _ => rfl
  | h :: us, ks => by simp [encR, NB_pt, NB_row us]
theorem dp_row : ∀ (us : List Nat) (ks : List Int), (∀ h ∈ us, h ≤ 6) → dpDs (encR us ks) ≤ 7
  | [], _, _ => by simp [encR]
  | h :: us, ks, hh => by
    have h1 := dp_mk h ks
    have h2 := dp_row us (ks.drop (sz h)) fun x hx => hh x (by simp [hx])
    have h3 := hh h (by simp)
    simp [encR]; omega
theorem row_same {n : Nat} {ks : List Int} (hn : n < 62) : NB (.tup (encR (hts n) ks)) = true ∧ dpD (.tup (encR (hts n) ks)) ≤ 64 := by
  have := dp_row (hts n) ks fun h hh => ((ht_of (n := n) (by omega)).b h hh).2
  exact ⟨by simp [NB_row], by simp; omega⟩
structure S2 (M : Mp) (d pk : Addr) (ks : List Int) : Prop where
  dd : M d = some .drw
  kk : M pk = some (.lst (ks.map D.int))
  bd : ∀ k ∈ ks, 0 ≤ k ∧ k < 99
theorem S2.le {M M' : Mp} {d pk : Addr} {ks : List Int} (h : S2 M d pk ks) (k : MLe M M') : S2 M' d pk ks := ⟨k _ _ h.dd, k _ _ h.kk, h.bd⟩
theorem key_ok {x : Int} (h : 0 ≤ x ∧ x < 99) : keyB (.int x) = true := by simp [keyB]; omega
abbrev sA (d pk : Addr) (ks : List Int) : List (Nat × D) := [(1, .ref d), (2, .ref pk), (13, .tup (encR (hts ks.length) ks))]
section
variable {N : DEn} {R : TDS} {d pk : Addr} {M : Mp} {ks : List Int} {τ : DSt} {Q : DQ} {E : DX}
theorem l_20 (hs : Sl 14 (sA d pk ks) τ) (S : S2 M d pk ks) (hn : ks.length < 60) (fin : ∀ τ' M' pk' ks', Sl 14 (sA d pk' ks') τ' → S2 M' d pk' ks' → ks'.length ≤ ks.length + 1 → R N τ' M') : dSeq p_2_0 R N τ M := by
  have hd := S.dd
  have hk := S.kk
  have put : ∀ τ, Sl 14 (sA d pk ks) τ → dSeq p_2_0_0 p_2_0_1 (nN N (R N)) τ M := by
    intro τ hs
    unfold p_2_0_0 p_2_0_1
    sizeOf_list_dec
    refine ⟨ks.length, ks, r, rfl, by omega, key_ok ⟨hr0, hr1⟩, ?_⟩
    sizeOf_list_dec
    refine fin _ _ pp (r :: ks) (hs.sub (by and_intros)) ⟨by array_mem_dec, mup_same, fun k h => ?_⟩ (by simp)
    rcases List.mem_cons.mp h with rfl | h
    · exact ⟨hr0, hr1⟩
    · exact S.bd k h
  unfold p_2_0
  cases ks with
  | nil =>
    generalize dSeq p_2_0_0 p_2_0_1 = P at put
    generalize (dSeq (p_2_0e_0) (dSeq (p_2_0e_1) (p_2_0e_2))) = P2
    sizeOf_list_dec
    · exact put _ hs
    · exact put _ hs
  | cons k ks =>
    unfold p_2_0e_0 p_2_0e_1 p_2_0e_2
    generalize dSeq p_2_0_0 p_2_0_1 = P at put
    sizeOf_list_dec
    · exact put _ hs
    · refine .inr ⟨ks.length, ks, k, rfl, by simp at hn; omega, ?_⟩
      rw [List.map_cons] at hk
      sizeOf_list_dec
      exact fin _ _ pp ks (hs.sub (by and_intros)) ⟨by array_mem_dec, mup_same, fun x h => S.bd x (by simp [h])⟩ (by simp; omega)
theorem l_21 (hs : Sl 14 (sA d pk ks) τ) (S : S2 M d pk ks) (hn : ks.length < 61) (fin : ∀ τ' M', Sl 14 (sA d pk ks) τ' → S2 M' d pk ks → N.nx τ' M') : p_2_1 N τ M := by
  have hd := S.dd
  have hk := S.kk
  have H := ht_of (n := ks.length) (by omega)
  have rs := row_same (n := ks.length) (ks := ks) (by omega)
  unfold p_2_1
  sizeOf_list_dec
  refine ⟨ks.length, ks, rfl, by omega, rfl, ?_⟩
  sizeOf_list_dec
  refine w_sklen (by omega) ?_
  sizeOf_list_dec
  refine .inl ⟨ks.length, ks, rfl, by omega, rfl, ?_⟩
  sizeOf_list_dec
  rw [show encR (hts ks.length) ks = (cut (hts ks.length) ks).map rowE from encR_cut _ _]
  refine wLc_of rowE (fun p => .int (sz p.1 : Int)) _ (fun b hb acc R h => ?_) (by rw [cut_len]; have := H.len; omega) (fun _ => trivial) ?_
  · unfold rowE
    sizeOf_list_dec
    exact h
  have e : ((cut (hts ks.length) ks).map fun p => D.int (sz p.1 : Int)) = (szF ks.length).map D.int := by
    unfold szF
    rw [← cut_sz _ ks, List.map_map]; rfl
  have es : sizF ks.length = szF ks.length := siz_hts _ (by omega)
  have S' := S.le (mle_up (o := .lst ((szF ks.length).map D.int)) (.refl M) hpp)
  rw [e]
  have hx : mup M pp (.lst ((szF ks.length).map D.int)) pp = some (.lst ((szF ks.length).map D.int)) := mup_same
  generalize mup M pp (.lst ((szF ks.length).map D.int)) = M1 at S' hx
  have hd := S'.dd
  have hk := S'.kk
  sizeOf_list_dec
  refine ⟨ks.length, by simp, by omega, ?_⟩
  rw [es]
  sizeOf_list_dec
  refine ⟨ks, rfl, by omega, fun k h => key_ok (S.bd k h), ?_⟩
  refine w_ne_s rs.1 rs.2 ?_
  sizeOf_list_dec
  exact fin _ _ (hs.sub (by and_intros)) S'
theorem loop2 {N : DEn} {d : Addr} (fin : ∀ τ' M' pk' ks', Sl 14 (sA d pk' ks') τ' → S2 M' d pk' ks' → ks'.length ≤ 60 → N.nx τ' M') : ∀ (its : List D) (pk : Addr) (ks : List Int) (τ : DSt) (M : Mp), its.length + ks.length ≤ 60 → Sl 14 (sA d pk ks) τ → S2 M d pk ks → wFor anyM (dgName 3) (dSeq p_2_0 p_2_1) N its τ M
  | [], pk, ks, τ, M, hl, hs, S => ⟨trivial, fin τ M pk ks hs S (by simpa using hl)⟩
  | it :: its, pk, ks, τ, M, hl, hs, S => by
    simp only [List.length_cons] at hl
    have ih := loop2 fin its
    apply w_fcons trivial
    refine w_gNm hs (by decide) fun τ1 hs1 => ?_
    refine l_20 (hs1.sub (by and_intros)) S (by omega) fun τ2 M2 pk2 ks2 hs2 S2 hl2 => ?_
    refine l_21 hs2 S2 (by omega) fun τ3 M3 hs3 S3 => ?_
    exact ih pk2 ks2 τ3 M3 (by omega) hs3 S3
theorem l_0 {z : D} {ns : List Int} (hs : Sl 14 [(0, z)] τ) (hS : scrOf z M ns) (hn : ns.length ≤ 1000) (fin : ∀ τ' M' d pk, Sl 14 (sA d pk []) τ' → S2 M' d pk [] → R N τ' M') : dSeq p_0 (dSeq p_1 R) N τ M := by
  unfold p_0 p_1
  sizeOf_list_dec
  rename_i pd hpd t1 h1 t2 h2
  exact fin _ _ pd pp (hs.sub (by and_intros)) ⟨by array_mem_dec, mup_same, by simp⟩
end
end DL.K21

set_option Elab.async false
set_option linter.all false
set_option maxRecDepth 100000
set_option maxHeartbeats 1000000
namespace DL.K21
open PySem PySem.Spec PyProof.Rows L2 DL SK
set_option hygiene false in
local macro_rules | `(tactic| array_mem_dec) => `(tactic| first | assumption | exact mup_same | (apply mup_keep; (assumption; done); array_mem_dec) | (apply mup_keep2; array_get_dec; array_mem_dec))
set_option hygiene false in
local macro_rules | `(tactic| array_get_dec) => `(tactic| first | assumption | (apply Ne.symm; assumption) | exact ne_by (by assumption) (by array_mem_dec) | exact Ne.symm (ne_by (by assumption) (by array_mem_dec)))
set_option hygiene false in
local macro_rules | `(tactic| clean_wf) => `(tactic| first | exact Nat.le_of_ble_eq_true rfl | omega | (focus (simp; done)) | (simp; omega))
set_option hygiene false in
local macro_rules | `(tactic| sizeOf_list_dec) => `(tactic| repeat' (first
  | ((with_reducible apply w_gen); assumption; (first | exact Nat.le_of_ble_eq_true rfl | omega); intro τ hs)
  | ((with_reducible apply w_gen2); assumption; (first | exact Nat.le_of_ble_eq_true rfl | omega); (first | exact Nat.le_of_ble_eq_true rfl | omega); intro τ hs) | ((with_reducible apply w_gen3); assumption; (first | exact Nat.le_of_ble_eq_true rfl | omega); (first | exact Nat.le_of_ble_eq_true rfl | omega); (first | exact Nat.le_of_ble_eq_true rfl | omega); intro τ hs) | ((with_reducible apply w_gen4); assumption; (first | exact Nat.le_of_ble_eq_true rfl | omega); (first | exact Nat.le_of_ble_eq_true rfl | omega); (first | exact Nat.le_of_ble_eq_true rfl | omega); (first | exact Nat.le_of_ble_eq_true rfl | omega); intro τ hs)
  | with_reducible apply w_seq | with_reducible apply w_asg | with_reducible apply w_nx | with_reducible apply w_nrt | with_reducible apply w_lx | with_reducible apply w_lrt | with_reducible apply w_grt | with_reducible apply w_gx | with_reducible apply w_bin
  | ((with_reducible apply w_var); assumption; rfl)
  | with_reducible apply w_c | with_reducible apply w_nil | with_reducible apply w_cons | with_reducible apply w_call | ((with_reducible apply w_ar); rfl) | with_reducible apply w_cb
  | with_reducible apply w_drop | with_reducible apply w_ret | with_reducible apply w_if | with_reducible apply w_next | with_reducible apply w_dB | with_reducible apply w_isB | with_reducible apply w_tru
  | ((with_reducible apply w_truK); (first | exact tr_bl | exact tr_int | exact tr_non | exact tr_tup | (apply tr_lst; array_mem_dec) | (apply tr_dk; array_mem_dec)))
  | with_reducible apply w_not | with_reducible apply w_and | with_reducible apply w_or | with_reducible apply w_yes
  | with_reducible apply w_itt | with_reducible apply w_itf | with_reducible apply w_ite0 | with_reducible apply w_itec | with_reducible apply w_iteS | (with_reducible apply w_ite <;> intro hc) | with_reducible apply w_itnot
  | ((with_reducible apply w_itp); (first | assumption | omega | (focus (simp; done)) | (focus (simp; omega)))) | ((with_reducible apply w_itn); (first | assumption | omega | (focus (simp; done)) | (focus (simp; omega)))) | (with_reducible apply w_itd <;> intro hc)
  | ((with_reducible apply w_itzp); (first | assumption | omega)) | ((with_reducible apply w_itzn); (first | assumption | omega)) | (with_reducible apply w_itz <;> intro hc)
  | ((with_reducible apply w_itbp); (first | assumption | rfl)) | ((with_reducible apply w_itbn); (first | assumption | rfl))
  | with_reducible apply w_add_i | with_reducible apply w_addI | with_reducible apply w_di0 | ((with_reducible apply w_di); (first | exact ⟨by decide, by decide⟩ | exact ⟨by decide, by decide, by decide⟩ | (unfold CMul; omega) | (show (0 : Int) < _; omega) | (show (0 : Int) ≤ _; omega)))
  | ((with_reducible apply w_mul_i); (first | (unfold CMul; omega) | assumption)) | ((with_reducible apply w_mulI); (first | (unfold CMul; omega) | assumption)) | with_reducible apply w_un | with_reducible apply w_dU
  | ((with_reducible apply w_ix_t); (first | exact atI_0 | exact atI_1 | exact atI_2 | exact atI_3 | exact atI_last | assumption))
  | ((with_reducible apply w_ix_l); array_mem_dec; (first | exact atI_0 | exact atI_1 | exact atI_2 | exact atI_3 | exact atI_last | assumption))
  | with_reducible apply w_eq_i | with_reducible apply w_ne_i | with_reducible apply w_eq_ti | with_reducible apply w_ne_ti | with_reducible apply w_eq_ni | with_reducible apply w_ne_ni | with_reducible apply w_eq_in | with_reducible apply w_ne_in | with_reducible apply w_eq_nn | with_reducible apply w_ne_nn | with_reducible apply w_eq_b | with_reducible apply w_ne_b
  | ((with_reducible apply w_eq_li); array_mem_dec; array_mem_dec) | ((with_reducible apply w_ne_li); array_mem_dec; array_mem_dec)
  | with_reducible apply w_len_t | ((with_reducible apply w_len_l); array_mem_dec) | ((with_reducible apply w_len_d); array_mem_dec)
  | ((with_reducible apply w_sz); clean_wf) | with_reducible apply w_tup | with_reducible apply w_lst
  | with_reducible apply w_ml | with_reducible apply w_ml0 | ((with_reducible apply w_isl); array_mem_dec)
  | ((with_reducible apply w_append1); rfl; clean_wf) | ((with_reducible apply w_append); array_mem_dec; clean_wf) | ((with_reducible apply w_pop); array_mem_dec; clean_wf)
  | with_reducible apply w_tuple_t | ((with_reducible apply w_tuple_l); array_mem_dec) | with_reducible apply w_list_t | ((with_reducible apply w_list_l); array_mem_dec)
  | with_reducible apply w_slice | with_reducible apply w_nop | with_reducible apply w_prt | with_reducible apply w_prtK | with_reducible apply w_sl_t1 | with_reducible apply w_sl_t2 | with_reducible apply w_sl_tl | ((with_reducible apply w_sl_l1); array_mem_dec) | ((with_reducible apply w_sl_ll); array_mem_dec) | with_reducible apply w_sl_t | ((with_reducible apply w_sl_l); array_mem_dec)
  | ((with_reducible apply w_add_t1); clean_wf) | ((with_reducible apply w_add_t0); clean_wf) | ((with_reducible apply w_add_t); clean_wf) | ((with_reducible apply w_add_l); array_mem_dec; array_mem_dec; clean_wf)
  | with_reducible apply w_is_nf | with_reducible apply w_is_nt
  | with_reducible apply w_par | with_reducible apply w_parK | with_reducible apply w_par3 | with_reducible apply w_parK3
  | ((with_reducible apply w_aug); assumption; rfl)
  | with_reducible apply w_asgG | ((with_reducible apply w_wipeG); assumption; intro τ hs) | ((with_reducible apply w_gNm); assumption; (first | exact Nat.le_of_ble_eq_true rfl | omega); intro τ hs) | ((with_reducible apply w_gTup); rfl) | with_reducible apply w_gNil | with_reducible apply w_gCons | with_reducible apply w_gSub
  | with_reducible apply w_break | with_reducible apply w_cont | with_reducible apply w_retN | with_reducible apply w_nbk | with_reducible apply w_nct | with_reducible apply w_nex | with_reducible apply w_lbk | with_reducible apply w_lct | with_reducible apply w_lex | with_reducible apply w_xx | with_reducible apply w_xrt | with_reducible apply w_xbk | with_reducible apply w_xct | with_reducible apply w_xex | with_reducible apply w_gex | with_reducible apply w_raise | with_reducible apply w_try
  | with_reducible apply w_ife | with_reducible apply w_andV | with_reducible apply w_orV | with_reducible apply w_notV
  | ((with_reducible apply w_andVK); (first | exact tr_bl | exact tr_int | exact tr_non | exact tr_tup | (apply tr_lst; array_mem_dec) | (apply tr_dk; array_mem_dec)))
  | ((with_reducible apply w_orVK); (first | exact tr_bl | exact tr_int | exact tr_non | exact tr_tup | (apply tr_lst; array_mem_dec) | (apply tr_dk; array_mem_dec)))
  | ((with_reducible apply w_notVK); (first | exact tr_bl | exact tr_int | exact tr_non | exact tr_tup | (apply tr_lst; array_mem_dec) | (apply tr_dk; array_mem_dec)))
  | with_reducible apply w_chain | with_reducible apply w_chKt | with_reducible apply w_chKf | ((with_reducible apply w_chKp); (first | assumption | omega | (focus (simp; done)) | (focus (simp; omega)))) | ((with_reducible apply w_chKn); (first | assumption | omega | (focus (simp; done)) | (focus (simp; omega)))) | (with_reducible apply w_chKd <;> intro hc)
  | with_reducible apply w_bits | with_reducible apply w_bitK | with_reducible apply w_int_i | with_reducible apply w_max2 | with_reducible apply w_min2 | with_reducible apply w_abs
  | ((with_reducible apply w_sum); array_mem_dec) | ((with_reducible apply w_all); array_mem_dec) | ((with_reducible apply w_any); array_mem_dec) | ((with_reducible apply w_anyA_i); array_mem_dec) | ((with_reducible apply w_anyA_b); array_mem_dec)
  | with_reducible apply w_for | with_reducible apply w_iseq | with_reducible apply w_seqI_t | ((with_reducible apply w_seqI_l); array_mem_dec) | with_reducible apply w_iargs
  | ((with_reducible apply w_rng1); (constructor <;> first | omega | (simp; omega))) | ((with_reducible apply w_rng2); (constructor <;> first | omega | (simp; omega)); (constructor <;> first | omega | (simp; omega)))
  | with_reducible apply w_irev | with_reducible apply w_rev_t | ((with_reducible apply w_rev_l); array_mem_dec) | with_reducible apply w_zip_t | ((with_reducible apply w_zip_l); array_mem_dec; array_mem_dec) | with_reducible apply w_izipr | ((with_reducible apply w_zr1); array_mem_dec) | with_reducible apply w_enum_t | ((with_reducible apply w_enum_l); array_mem_dec)
  | with_reducible apply w_dict | ((with_reducible apply w_ix_d); array_mem_dec; rfl; assumption) | ((with_reducible apply w_in_d); array_mem_dec; rfl) | ((with_reducible apply w_nin_d); array_mem_dec; rfl) | ((with_reducible apply w_set_d); array_mem_dec; rfl; clean_wf)
  | ((with_reducible apply w_take); array_mem_dec; (first | decide | omega); intro r hr0 hr1) | with_reducible apply w_spbits | with_reducible apply w_isnum_i | with_reducible apply w_isnum_b | with_reducible apply w_isnum_n | with_reducible apply w_isnum_t | with_reducible apply w_isnum_s | ((with_reducible apply w_keyX1); rfl; (first | assumption | (simp [keyB]; omega)))
  | with_reducible apply w_lamG | with_reducible apply w_lam | with_reducible apply w_lc | with_reducible apply w_lc2 | with_reducible apply w_gany | (with_reducible apply w_gat; array_mem_dec) | ((with_reducible apply w_gat2); array_mem_dec; array_mem_dec) | with_reducible apply w_lc0 | with_reducible apply w_lc1 | ((with_reducible apply w_lcK1); rfl; clean_wf) | ((with_reducible apply w_lcK); array_mem_dec; clean_wf) | with_reducible apply w_li0 | with_reducible apply w_li1 | ((with_reducible apply w_liK1); rfl; clean_wf) | ((with_reducible apply w_liK); array_mem_dec; clean_wf) | with_reducible apply w_lo0 | with_reducible apply w_lo1 | with_reducible apply w_fnil | with_reducible apply w_fcons | with_reducible apply w_augS
  | ((with_reducible apply w_ne_ss); decide +kernel) | ((with_reducible apply w_eq_ss); decide +kernel) | ((with_reducible apply w_draws); assumption; omega; decide; decide)
  | with_reducible apply w_tupRev | with_reducible apply w_tupRevT | ((with_reducible apply w_tupRevL); array_mem_dec) | with_reducible apply w_lstRg1 | ((with_reducible apply w_lstRgK); (constructor <;> omega))
  | (show ∀ p, _ = none → _; intro pp hpp)))
set_option hygiene false in
local macro_rules | `(tactic| and_intros) => `(tactic| ((repeat' (first | exact trivial | apply And.intro)) <;> (refine congrArg some (?_ : (_ : D) = _)) <;> (first | with_reducible rfl | with_reducible exact Eq.refl _ | (refine congrArg D.int ?_; (first | omega | (simp; omega) | (focus (simp; done)))) | (focus (simp; done)) | rfl)))
set_option hygiene false in
local macro_rules | `(tactic| get_elem_tactic_trivial) => `(tactic| first | exact MLe.refl _ | assumption | (apply mle_up; get_elem_tactic_trivial; (first | assumption | exact mup_non1 (by assumption) | exact mup_non1 (mup_non1 (by assumption)) | exact mup_non1 (mup_non1 (mup_non1 (by assumption))) | exact mup_non1 (mup_non1 (mup_non1 (mup_non1 (by assumption)))) | exact mup_non1 (mup_non1 (mup_non1 (mup_non1 (mup_non1 (by assumption))))) | exact mup_non1 (mup_non1 (mup_non1 (mup_non1 (mup_non1 (mup_non1 (by assumption)))))) | exact mup_non1 (mup_non1 (mup_non1 (mup_non1 (mup_non1 (mup_non1 (mup_non1 (by assumption))))))) | exact mup_non1 (mup_non1 (mup_non1 (mup_non1 (mup_non1 (mup_non1 (mup_non1 (mup_non1 (by assumption)))))))) | exact mle_non (by assumption) (by first | assumption | exact mup_non1 (by assumption) | exact mup_non1 (mup_non1 (by assumption)) | exact mup_non1 (mup_non1 (mup_non1 (by assumption))) | exact mup_non1 (mup_non1 (mup_non1 (mup_non1 (by assumption)))) | exact mup_non1 (mup_non1 (mup_non1 (mup_non1 (mup_non1 (by assumption))))) | exact mup_non1 (mup_non1 (mup_non1 (mup_non1 (mup_non1 (mup_non1 (by assumption)))))) | exact mup_non1 (mup_non1 (mup_non1 (mup_non1 (mup_non1 (mup_non1 (mup_non1 (by assumption))))))) | exact mup_non1 (mup_non1 (mup_non1 (mup_non1 (mup_non1 (mup_non1 (mup_non1 (mup_non1 (by assumption))))))))))))

abbrev sB (d pk : Addr) (ks : List Int) : List (Nat × D) := [(1, .ref d), (2, .ref pk), (13, .tup (encR (hts ks.length) ks)), (5, .int (ks.length : Int))]
theorem ix_ints {S : List Int} {j : Nat} (h : j < S.length) : atI (S.map D.int) (j : Int) = some (.int (S.getD j 0)) := by
  rw [atI_nat (by simpa using h)]; simp [h]
theorem ix_get {S : List Int} {j : Nat} {x : Int} (h : S[j]? = some x) : atI (S.map D.int) (j : Int) = some (.int x) := by
  obtain ⟨h1, h2⟩ := List.getElem?_eq_some_iff.mp h
  rw [atI_nat (by simpa using h1)]; simp [h2]
section
variable {N : DEn} {R : TDS} {d pk : Addr} {M : Mp} {ks : List Int} {τ : DSt} {Q : DQ} {E : DX}
theorem l_3 (hs : Sl 14 (sA d pk ks) τ) (S : S2 M d pk ks) (fin : ∀ τ', Sl 14 (sB d pk ks) τ' → R N τ' M) : dSeq p_3 R N τ M := by
  have hk := S.kk
  unfold p_3
  sizeOf_list_dec
  exact fin _ (hs.sub (by and_intros))
abbrev sC (d pk : Addr) (ks : List Int) (p : Nat) : List (Nat × D) := (7, .int (p : Int)) :: sB d pk ks
theorem key_ok2 {p : Nat} (h : p < 60) : keyB (.int (500 + (p : Int))) = true := by simp [keyB]; omega
theorem l_4a {p : Nat} {x : Int} (hs : Sl 14 (sC d pk ks p) τ) (S : S2 M d pk ks) (hn : ks.length ≤ 60) (hp : p < ks.length) (hx : ks[p]? = some x) (fin : ∀ τ' o, o ≤ Builtin.Int.intBits (ks.length : Int) → Sl 14 ((10, .int ((o : Nat) : Int)) :: (9, .tup (encR (hts ks.length) (ks.set p (500 + (p : Int))))) :: sC d pk ks p) τ' → R N τ' M) : dSeq p_4_0 (dSeq p_4_1 (dSeq p_4_2 R)) N τ M := by
  have hk := S.kk
  have ix := ix_get hx
  unfold p_4_0 p_4_1 p_4_2
  sizeOf_list_dec
  refine ⟨ks.length, ks, _, rfl, by omega, rfl, .inl ⟨p, rfl, hp, fun y l hy hl => ?_⟩⟩
  obtain rfl : x = y := by rw [hx] at hy; exact Option.some.inj hy
  sizeOf_list_dec
  refine ⟨ks.length, ks, _, _, rfl, by omega, rfl, key_ok2 (by omega), .inl ⟨p, rfl, hp, fun o ho => ?_⟩⟩
  sizeOf_list_dec
  exact fin _ o ho (hs.sub (by and_intros))
theorem l_43 {p o : Nat} {x : Int} (hs : Sl 14 ((10, .int ((o : Nat) : Int)) :: (9, .tup (encR (hts ks.length) (ks.set p (500 + (p : Int))))) :: sC d pk ks p) τ) (S : S2 M d pk ks) (hn : ks.length ≤ 60) (hp : p < ks.length) (hx : ks[p]? = some x) (ho : o ≤ Builtin.Int.intBits (ks.length : Int)) (fin : ∀ M', S2 M' d pk ks → R N τ M') : dSeq p_4_3 R N τ M := by
  have hk := S.kk
  have hl : (ks.set p (500 + (p : Int))).length = ks.length := by simp
  have hg : (ks.set p (500 + (p : Int)))[p]? = some (500 + (p : Int)) := by simp [hp]
  unfold p_4_3
  sizeOf_list_dec
  refine ⟨ks.length, _, rfl, by omega, hl, ?_⟩
  sizeOf_list_dec
  · rw [cut_to (by omega)]; simp; omega
  · rw [cut_to (by omega), cut_from (by omega)]; simp; omega
  refine w_genR (M0 := M) (by get_elem_tactic_trivial) fun M1 hm1 => ?_
  have e : gcut (ks.map D.int) none (some (p : Int)) ++ [D.int (500 + (p : Int))] ++ gcut (ks.map D.int) (some ((p : Int) + 1)) none = (ks.set p (500 + (p : Int))).map D.int := by
    rw [cut_to (by omega), cut_from (by omega), List.set_eq_take_append_cons_drop, if_pos hp, show ((p : Int) + 1).toNat = p + 1 by omega]
    simp
  rw [e]
  have S1 := S.le hm1
  sizeOf_list_dec
  refine .inl ⟨ks.length, _, rfl, by omega, hl, ?_⟩
  sizeOf_list_dec
  refine ⟨ks.length, _, _, rfl, by omega, hl, .inl ⟨p, rfl, hp, fun y l hy hl => ?_⟩⟩
  obtain rfl : 500 + (p : Int) = y := by rw [hg] at hy; exact Option.some.inj hy
  sizeOf_list_dec
  exact fin _ S1
theorem l_44 {p o : Nat} {x : Int} (hs : Sl 14 ((10, .int ((o : Nat) : Int)) :: (9, .tup (encR (hts ks.length) (ks.set p (500 + (p : Int))))) :: sC d pk ks p) τ) (S : S2 M d pk ks) (hn : ks.length ≤ 60) (hp : p < ks.length) (hx : ks[p]? = some x) (fin : N.nx τ M) : p_4_4 N τ M := by
  have hk := S.kk
  have ix := ix_get hx
  have hl : (ks.set p (500 + (p : Int))).length = ks.length := by simp
  have rs := row_same (n := ks.length) (ks := ks) (by omega)
  have kx : keyB (.int x) = true := key_ok (S.bd x (List.mem_of_getElem? hx))
  have e : (ks.set p (500 + (p : Int))).set p x = ks := by
    rw [List.set_set]
    obtain ⟨h1, h2⟩ := List.getElem?_eq_some_iff.mp hx
    rw [← h2, List.set_getElem_self]
  unfold p_4_4
  sizeOf_list_dec
  refine ⟨ks.length, _, _, _, rfl, by omega, hl, kx, .inl ⟨p, rfl, hp, fun o ho => ?_⟩⟩
  rw [e]
  sizeOf_list_dec
  refine w_ne_s rs.1 rs.2 ?_
  sizeOf_list_dec
  exact fin
theorem loop4 {N : DEn} {d pk : Addr} {ks : List Int} (hn : ks.length ≤ 60) (fin : ∀ τ' M', Sl 14 (sB d pk ks) τ' → S2 M' d pk ks → N.nx τ' M') : ∀ (n p : Nat) (τ : DSt) (M : Mp), p + n = ks.length → Sl 14 (sB d pk ks) τ → S2 M d pk ks → wFor anyM (dgName 7) (dSeq p_4_0 (dSeq p_4_1 (dSeq p_4_2 (dSeq p_4_3 p_4_4)))) N ((List.range' p n).map fun i : Nat => D.int (i : Int)) τ M
  | 0, p, τ, M, hl, hs, S => ⟨trivial, fin τ M hs S⟩
  | n + 1, p, τ, M, hl, hs, S => by
    have ih := loop4 hn fin n (p + 1)
    have hp : p < ks.length := by omega
    have hx : ks[p]? = some ks[p] := List.getElem?_eq_getElem hp
    rw [List.range'_succ, List.map_cons]
    apply w_fcons trivial
    refine w_gNm hs (by decide) fun τ1 hs1 => ?_
    refine l_4a (hs1.sub (by and_intros)) S hn hp hx fun τ2 o ho hs2 => ?_
    refine l_43 hs2 S hn hp hx ho fun M2 S2 => ?_
    refine l_44 hs2 S2 hn hp hx ?_
    exact ih τ2 M2 (by omega) (hs2.sub (by and_intros)) S2
theorem l_4 (hs : Sl 14 (sB d pk ks) τ) (S : S2 M d pk ks) (hn : ks.length ≤ 60) (fin : ∀ τ' M', Sl 14 (sB d pk ks) τ' → S2 M' d pk ks → R N τ' M') : dSeq p_4 R N τ M := by
  have lp := loop4 (N := nN N (R N)) hn (fun τ' M' h S => fin τ' M' h S) ks.length 0 τ M (by omega) hs S
  unfold p_4
  generalize (dSeq p_4_0 (dSeq p_4_1 (dSeq p_4_2 (dSeq p_4_3 p_4_4)))) = B at lp ⊢
  sizeOf_list_dec
  simpa [rangeL, List.range_eq_range'] using lp
def szC (n : Nat) : Bool := ((List.range ((sizF n).length - 2)).all fun i => decide ((sizF n).getD (i + 1) 0 < (sizF n).getD (i + 2) 0)) && (decide ((sizF n).length ≤ 1) || decide ((sizF n).getD 0 0 ≤ (sizF n).getD 1 0)) && decide ((sizF n).length ≤ 20)
theorem szC_all : ∀ n, n < 400 → szC n = true := by decide +kernel
theorem szC_ok {n : Nat} (h : n < 400) : (∀ i, i + 2 < (sizF n).length → (sizF n).getD (i + 1) 0 < (sizF n).getD (i + 2) 0) ∧ (1 < (sizF n).length → (sizF n).getD 0 0 ≤ (sizF n).getD 1 0) ∧ (sizF n).length ≤ 20 := by
  have := szC_all n h
  unfold szC at this
  simp only [Bool.and_eq_true, Bool.or_eq_true, decide_eq_true_eq, List.all_eq_true, List.mem_range] at this
  exact ⟨fun i hi => this.1.1 i (by omega), fun hi => by have := this.1.2; omega, this.2⟩
theorem l_5 (hs : Sl 14 (sB d pk ks) τ) (S : S2 M d pk ks) (fin : ∀ τ' n, n < 400 → Sl 14 ((11, .tup ((sizF n).map D.int)) :: sB d pk ks) τ' → R N τ' M) : dSeq p_5 R N τ M := by
  have hd := S.dd
  unfold p_5
  sizeOf_list_dec
  refine ⟨r.toNat, by rw [Int.toNat_of_nonneg hr0], by omega, ?_⟩
  sizeOf_list_dec
  exact fin _ r.toNat (by omega) (hs.sub (by and_intros))
theorem l_6 {n : Nat} (hn : n < 400) (hs : Sl 14 ((11, .tup ((sizF n).map D.int)) :: sB d pk ks) τ) (S : S2 M d pk ks) (fin : ∀ M', S2 M' d pk ks → R N τ M') : dSeq p_6 R N τ M := by
  obtain ⟨f1, f2, f3⟩ := szC_ok hn
  unfold p_6
  generalize sizF n = Z at hs f1 f2 f3
  sizeOf_list_dec
  refine wLc_tst _ (fun _ => false) (fun _ => .int 1) hpp (fun _ _ => trivial) (fun i y hi M2 R0 R1 k2 h1 h2 => ?_) (by rw [rangeL_len]; simp; omega) fun M2 hM2 k2 => ?_
  · obtain ⟨rfl, hlt⟩ : y = D.int (1 + (i : Int)) ∧ i < (((Z.map D.int).length : Int) - 1 - 1).toNat := by
      unfold rangeL at hi
      rw [List.getElem?_map] at hi
      obtain ⟨j, hj, rfl⟩ := Option.map_eq_some_iff.mp hi
      obtain ⟨g1, g2⟩ := List.getElem?_eq_some_iff.mp hj
      simp at g1 g2
      subst g2
      exact ⟨rfl, by simpa using g1⟩
    simp at hlt
    have a1 : atI (Z.map D.int) (1 + (i : Int)) = some (.int (Z.getD (i + 1) 0)) := by
      rw [show (1 + (i : Int)) = ((i + 1 : Nat) : Int) by omega]; exact ix_ints (by omega)
    have a2 : atI (Z.map D.int) (1 + (i : Int) + 1) = some (.int (Z.getD (i + 2) 0)) := by
      rw [show (1 + (i : Int) + 1) = ((i + 2 : Nat) : Int) by omega]; exact ix_ints (by omega)
    have := f1 i (by omega)
    sizeOf_list_dec
    exact h2 rfl _ (.refl _)
  · have S2' := S.le (fun a o e => k2 a o e)
    rw [List.filter_eq_nil_iff.mpr (fun _ _ => by simp), List.map_nil] at hM2
    cases Z with
    | nil =>
      sizeOf_list_dec
      exact fin _ S2'
    | cons s0 Z =>
      cases Z with
      | nil =>
        sizeOf_list_dec
        exact fin _ S2'
      | cons s1 Z =>
        have := f2 (by simp)
        simp at this
        rw [List.map_cons, List.map_cons] at hs
        sizeOf_list_dec
        exact fin _ S2'
theorem l_7 (hs : Sl 14 (sB d pk ks) τ) (hn : ks.length ≤ 60) (fin : ∀ τ' M', R N τ' M') : dSeq p_7 R N τ M := by
  unfold p_7 p_7_0 p_7_1
  have k1 : keyB (.int 1) = true := by decide
  sizeOf_list_dec
  refine ⟨ks.length, ks, _, rfl, by omega, rfl, .inr ⟨.inl ⟨_, rfl, .inl (by decide)⟩, rfl, rfl, gcQ.same ?_⟩⟩
  sizeOf_list_dec
  refine ⟨ks.length, ks, _, 1, rfl, by omega, rfl, k1, .inr ⟨.inl ⟨_, rfl, .inl (by decide)⟩, rfl, rfl, gcQ.same ?_⟩⟩
  sizeOf_list_dec
  refine ⟨ks.length, ks, _, rfl, by omega, rfl, .inr ⟨.inl ⟨_, rfl, .inr (Int.le_refl _)⟩, rfl, rfl, gcQ.same ?_⟩⟩
  sizeOf_list_dec
  refine ⟨ks.length, ks, _, 1, rfl, by omega, rfl, k1, .inr ⟨.inl ⟨_, rfl, .inr (Int.le_refl _)⟩, rfl, rfl, gcQ.same ?_⟩⟩
  sizeOf_list_dec
  refine ⟨ks.length, ks, _, rfl, by omega, rfl, .inr ⟨.inr ⟨_, rfl⟩, rfl, rfl, gcQ.same ?_⟩⟩
  sizeOf_list_dec
  refine ⟨ks.length, ks, _, 1, rfl, by omega, rfl, k1, .inr ⟨.inr ⟨_, rfl⟩, rfl, rfl, gcQ.same ?_⟩⟩
  sizeOf_list_dec
  exact fin _ _
theorem l_8 (q : ∀ M, Q (.bl true) M) : p_8 (dEndsG Q E) τ M := by
  unfold p_8
  refine w_gN ?_
  sizeOf_list_dec
  refine .inl ⟨rfl, rfl, rfl, gcQ.same ?_⟩
  sizeOf_list_dec
  refine .inr ⟨_, rfl, .inl rfl, ?_⟩
  sizeOf_list_dec
  refine .inr ⟨_, rfl, .inr rfl, ?_⟩
  sizeOf_list_dec
  exact gcQ.same (q _)
end
def sp_law : DSp := fun ds M Q E => ∃ (z : D) (ns : List Int), ds = [z] ∧ scrOf z M ns ∧ ns.length ≤ 1000 ∧ ∀ M', Q (.bl true) M'
theorem sem_law (ds M Q E) (hl : ds.length = 1) (h : sp_law ds M Q E) : t_law (dEndsG Q E) (dstart 14 ds) M := by
  obtain ⟨z, ns, rfl, hS, hn, hQ⟩ := h
  unfold t_law
  refine w_start1 (by decide) fun τ hs => ?_
  refine l_0 hs hS hn fun τ M d pk hs S => ?_
  have lp := fun (its : List D) (hl : its.length ≤ 60) τ => loop2 (N := nN (dEndsG Q E) (dSeq p_3 (dSeq p_4 (dSeq p_5 (dSeq p_6 (dSeq p_7 p_8)))) (dEndsG Q E))) (d := d) (fun τ M pk ks hs S hn => l_3 hs S fun τ hs => l_4 hs S hn fun τ M hs S => l_5 hs S fun τ n hn4 hs => l_6 hn4 hs S fun M S => l_7 (hs.sub (by and_intros)) hn fun τ M => l_8 hQ) its pk [] τ M (by simpa using hl)
  unfold p_2
  generalize dSeq p_3 (dSeq p_4 (dSeq p_5 (dSeq p_6 (dSeq p_7 p_8)))) = R at lp ⊢
  generalize dSeq p_2_0 p_2_1 = B at lp ⊢
  have hd := S.dd
  sizeOf_list_dec
  exact lp _ (by rw [rangeL_len]; omega) _ (hs.sub (by and_intros)) S
end DL.K21

set_option Elab.async false
set_option linter.all false
set_option maxRecDepth 100000
set_option maxHeartbeats 0
namespace DL.K21
open PySem PySem.Spec PyProof.Rows L2
def dd (x nm : Str) (i : Nat) : He.DefD := ⟨(x, none), nm, nm, defArgs (top i), defBody (top i), defScope (top i), [], []⟩
def fn : List He.DefD := [dd "is_number" "is_number" 6, dd "check_key" "check_key" 7, dd "bits_of" "bits_of" 8, dd "put" "put" 10, dd "taken" "taken" 11, dd "length" "length" 12, dd "way_in" "way_in" 13, dd "key_at" "key_at" 14, dd "changed" "changed" 15, dd "keys_in" "keys_in" 16, dd "built" "built" 17, dd "sizes_of" "sizes_of" 18, dd "is_right" "is_right" 19, dd "_law_draws" "_law_draws" 21, dd "_law_take" "_law_take" 22, dd "law" "law" 25, dd "_law_code" "_law_code" 24]
def fa : List He.Fa := [.glo "is_number", .glo "check_key", .glo "bits_of", .glo "put", .glo "taken", .glo "length", .glo "way_in", .glo "key_at", .glo "changed", .glo "keys_in", .glo "built", .glo "sizes_of", .glo "is_right", .glo "_law_draws", .glo "_law_take", .glo "law", .glo "_law_code", .free "all", .free "any", .free "bool", .free "dict", .free "int", .free "isinstance", .free "len", .free "list", .free "range", .free "reversed", .free "str", .free "sum", .free "tuple", .free "zip", .free "super", .int "GREATEST" 1000000]
abbrev R : PySem.W.OpenRow := PySem.W.OpenLaw.row PySem.Challenge.rw_paidsteps_k21_whole_rows_of_trees
def cons : List (Str × D) := []
def ercl : List (Str × Str × Str) := [("NoKey", "code", "NoKey.__init__"), ("RowError", "code", "RowError.__init__")]
def excl : List Str := ["RowError"]
def ei : List ErrW := [erW "NoKey" "code" "NoKey.__init__" 2, erW "RowError" "code" "RowError.__init__" 3]
def exB (K : PySem.W.Frag) : Bool := (cons.all fun p => conB K p.1 p.2) && ((ercl.all fun p => errB fileS K p.1 p.2.1 p.2.2) && excl.all fun x => exmLB K eL x)
def tf : List He.Defn := [("law", none)]
abbrev hk : PySem.W.Hook := hookY 5 fa fn tf ei exB
def ob (s : PySem.W.SharedT) : AlY := obsY 5 fa fn tf ei exB (HandSHeadRun.getT s)
theorem ob_eq (s : PySem.W.SharedT) : ob s = hk.obs s.abs := obsY_eq (HandSHeadRun.getT_eq s)
abbrev loose0 : List Str := ["__name__", "StepError", "ValueError", "NoKey", "RowError", "GREATEST", "is_number", "check_key", "bits_of", "put", "taken", "length", "way_in", "key_at", "changed", "keys_in", "built", "sizes_of", "is_right", "_law_draws", "_law_take", "_law_same", "_law_code"]
abbrev loose : List Str := loose0
theorem run (w : World) : HandSHeadRun.RunEq R (PySem.W.view R.prog [25]) hk ob 3000 loose w := by
  intro os
  kernel_rfl
theorem facts {P : Program} {w : World} {K : Fr} {h : Heap} {mg : Str → Option Value} {f : Addr} (X : K.In h) (G : h.Ns mainGlobals mg) {fd : FuncData} (FL : FnP K "law" 25 f fd) (c : He.SaysD fa fn K) (cm : exB K = true) (cw : ∀ (i : Nat) (e : ErrW), ei[i]? = some e → inW K e.nm = e.val) (hP : P.main.file = fileS) (htop : (P.main.scope.names.lookup kSup).isSome = false) {cc Pt : Addr} (hcd : fd.code = .ref cc) (base : Heap) (TB : LamX.TabB base mg cc Pt) : FnOk P w K mg base (L2.CX P w) 100 f fd ["script"] (liftSp K [(Pt, lamQ)] 1 sp_law) := by
  obtain ⟨cm1, cm⟩ := band cm
  obtain ⟨cm2, cm3⟩ := band cm
  have hsup := He.free_ok X G (c.fact 31 (f := .free "super") rfl)
  have eB_NoKey : errB fileS K "NoKey" "code" "NoKey.__init__" = true := List.all_eq_true.mp cm2 ("NoKey", "code", "NoKey.__init__") (by simp [ercl])
  have eB_RowError : errB fileS K "RowError" "code" "RowError.__init__" = true := List.all_eq_true.mp cm2 ("RowError", "code", "RowError.__init__") (by simp [ercl])
  have xB_RowError : exmLB K eL "RowError" = true := List.all_eq_true.mp cm3 "RowError" (by simp [excl])
  have xx_NoKey := fun k => xc_NoKey (P := P) (w := w) (base := base) X G eB_NoKey (cw 0 _ rfl) hP htop hsup k
  have xx_RowError := fun k => xc_RowError (P := P) (w := w) (base := base) X G eB_RowError (cw 1 _ rfl) hP htop hsup k
  have n : Nrm K mg := ⟨He.free_ok X G (c.fact 17 (f := .free "all") rfl), He.free_ok X G (c.fact 18 (f := .free "any") rfl), He.free_ok X G (c.fact 19 (f := .free "bool") rfl), He.free_ok X G (c.fact 20 (f := .free "dict") rfl), He.free_ok X G (c.fact 21 (f := .free "int") rfl), He.free_ok X G (c.fact 22 (f := .free "isinstance") rfl), He.free_ok X G (c.fact 23 (f := .free "len") rfl), He.free_ok X G (c.fact 24 (f := .free "list") rfl), He.free_ok X G (c.fact 25 (f := .free "range") rfl), He.free_ok X G (c.fact 26 (f := .free "reversed") rfl), He.free_ok X G (c.fact 27 (f := .free "str") rfl), He.free_ok X G (c.fact 28 (f := .free "sum") rfl), He.free_ok X G (c.fact 29 (f := .free "tuple") rfl), He.free_ok X G (c.fact 30 (f := .free "zip") rfl), He.int_ok X G (c.fact 32 (f := .int "GREATEST" 1000000) rfl)⟩
  obtain ⟨fd0, F0⟩ := c.def_ 0 (d := dd "is_number" "is_number" 6) rfl
  have m0 := He.glo_ok X G (c.fact 0 (f := .glo "is_number") rfl)
  obtain ⟨fd1, F1⟩ := c.def_ 1 (d := dd "check_key" "check_key" 7) rfl
  have m1 := He.glo_ok X G (c.fact 1 (f := .glo "check_key") rfl)
  obtain ⟨fd2, F2⟩ := c.def_ 2 (d := dd "bits_of" "bits_of" 8) rfl
  have m2 := He.glo_ok X G (c.fact 2 (f := .glo "bits_of") rfl)
  obtain ⟨fd3, F3⟩ := c.def_ 3 (d := dd "put" "put" 10) rfl
  have m3 := He.glo_ok X G (c.fact 3 (f := .glo "put") rfl)
  obtain ⟨fd4, F4⟩ := c.def_ 4 (d := dd "taken" "taken" 11) rfl
  have m4 := He.glo_ok X G (c.fact 4 (f := .glo "taken") rfl)
  obtain ⟨fd5, F5⟩ := c.def_ 5 (d := dd "length" "length" 12) rfl
  have m5 := He.glo_ok X G (c.fact 5 (f := .glo "length") rfl)
  obtain ⟨fd6, F6⟩ := c.def_ 6 (d := dd "way_in" "way_in" 13) rfl
  have m6 := He.glo_ok X G (c.fact 6 (f := .glo "way_in") rfl)
  obtain ⟨fd7, F7⟩ := c.def_ 7 (d := dd "key_at" "key_at" 14) rfl
  have m7 := He.glo_ok X G (c.fact 7 (f := .glo "key_at") rfl)
  obtain ⟨fd8, F8⟩ := c.def_ 8 (d := dd "changed" "changed" 15) rfl
  have m8 := He.glo_ok X G (c.fact 8 (f := .glo "changed") rfl)
  obtain ⟨fd9, F9⟩ := c.def_ 9 (d := dd "keys_in" "keys_in" 16) rfl
  have m9 := He.glo_ok X G (c.fact 9 (f := .glo "keys_in") rfl)
  obtain ⟨fd10, F10⟩ := c.def_ 10 (d := dd "built" "built" 17) rfl
  have m10 := He.glo_ok X G (c.fact 10 (f := .glo "built") rfl)
  obtain ⟨fd11, F11⟩ := c.def_ 11 (d := dd "sizes_of" "sizes_of" 18) rfl
  have m11 := He.glo_ok X G (c.fact 11 (f := .glo "sizes_of") rfl)
  obtain ⟨fd12, F12⟩ := c.def_ 12 (d := dd "is_right" "is_right" 19) rfl
  have m12 := He.glo_ok X G (c.fact 12 (f := .glo "is_right") rfl)
  obtain ⟨fd13, F13⟩ := c.def_ 13 (d := dd "_law_draws" "_law_draws" 21) rfl
  have m13 := He.glo_ok X G (c.fact 13 (f := .glo "_law_draws") rfl)
  obtain ⟨fd14, F14⟩ := c.def_ 14 (d := dd "_law_take" "_law_take" 22) rfl
  have m14 := He.glo_ok X G (c.fact 14 (f := .glo "_law_take") rfl)
  obtain ⟨fd15, F15⟩ := c.def_ 15 (d := dd "law" "law" 25) rfl
  have m15 := He.glo_ok X G (c.fact 15 (f := .glo "law") rfl)
  obtain ⟨fd16, F16⟩ := c.def_ 16 (d := dd "_law_code" "_law_code" 24) rfl
  have m16 := He.glo_ok X G (c.fact 16 (f := .glo "_law_code") rfl)
  have ll_law_code := lm_law_code X G F16 m16 eB_RowError xB_RowError
  have G0 : FnD P w K mg base [(Pt, lamQ)] "is_number" 1 1 sp_is_number := ok_is_number n F0 m0 0  sem_is_number
  have G1 : FnD P w K mg base [(Pt, lamQ)] "check_key" 3 1 sp_keyX := ok_check_key n F1 m1 2 G0 (by decide) xx_NoKey (by decide) sem_keyX
  have G2 : FnD P w K mg base [(Pt, lamQ)] "bits_of" 1 1 sp_bits := ok_bits_of n F2 m2 0  sem_bits
  have G3 : FnD P w K mg base [(Pt, lamQ)] "put" 4 2 sp_skput := ok_put n F3 m3 3 G1 (by decide) sem_skput
  have G4 : FnD P w K mg base [(Pt, lamQ)] "taken" 3 1 sp_sktaken := ok_taken n F4 m4 2  xx_RowError (by decide) sem_sktaken
  have G5 : FnD P w K mg base [(Pt, lamQ)] "length" 1 1 sp_sklen := ok_length n F5 m5 0  sem_sklen
  have G6 : FnD P w K mg base [(Pt, lamQ)] "way_in" 3 2 sp_skway := ok_way_in n F6 m6 2 G0 (by decide) G5 (by decide) xx_RowError (by decide) sem_skway
  have G7 : FnD P w K mg base [(Pt, lamQ)] "key_at" 4 2 sp_skkey := ok_key_at n F7 m7 3 G6 (by decide) sem_skkey
  have G8 : FnD P w K mg base [(Pt, lamQ)] "changed" 4 3 sp_skchg := ok_changed n F8 m8 3 G1 (by decide) G6 (by decide) sem_skchg
  have G9 : FnD P w K mg base [(Pt, lamQ)] "keys_in" 1 1 sp_skkeys := ok_keys_in n F9 m9 0  sem_skkeys
  have G10 : FnD P w K mg base [(Pt, lamQ)] "built" 5 1 sp_skbuilt := ok_built n F10 m10 4 G3 (by decide) sem_skbuilt
  have G11 : FnD P w K mg base [(Pt, lamQ)] "sizes_of" 1 1 sp_sksizes := ok_sizes_of n F11 m11 0  sem_sksizes
  have G12 : FnD P w K mg base [(Pt, lamQ)] "is_right" 1 1 sp_skright := ok_is_right n F12 m12 0  sem_skright
  have G13 : FnD P w K mg base [(Pt, lamQ)] "_law_draws" 1 2 sp_drawsX := ok_law_draws n F13 m13 0  sem_drawsX
  have G14 : FnD P w K mg base [(Pt, lamQ)] "_law_take" 1 2 sp_take0 := ok_law_take n F14 m14 0  sem_take0
  have I14 := take_of G14
  exact (okf_law n FL 5 hcd TB (List.mem_singleton.mpr rfl) (fun p hp _ => by rw [List.mem_singleton.mp hp]) G13 (by decide) I14 (by decide) G3 (by decide) G4 (by decide) G9 (by decide) G5 (by decide) G12 (by decide) G11 (by decide) G10 (by decide) G7 (by decide) G2 (by decide) G8 (by decide) ll_law_code sem_law).mono (by decide)
end DL.K21
open PySem PySem.W PySem.Calls PyProof.Rows
theorem PySem.Challenge.cw_paidsteps_k21_whole_rows_of_trees_holds : PySem.Challenge.rw_paidsteps_k21_whole_rows_of_trees.Holds := by
  w_on; o_law
  refine HandSHeadRun.head_any (r := OpenLaw.row PySem.Challenge.rw_paidsteps_k21_whole_rows_of_trees) (q := view (OpenLaw.row PySem.Challenge.rw_paidsteps_k21_whole_rows_of_trees).prog [25]) (H := DL.K21.hk) (ob := DL.K21.ob) (M := 3000) (loose := DL.K21.loose) (d := HandSHeadRun.topDef (OpenLaw.row PySem.Challenge.rw_paidsteps_k21_whole_rows_of_trees).prog 25) (kwd := []) DL.K21.ob_eq
    (by kernel_rfl) (fun s => by kernel_rfl) DL.K21.run (by kernel_rfl) (by kernel_rfl) (by kernel_rfl) (by rfl) (by first | assumption | decide +kernel) (by decide +kernel) ⟨rfl, rfl, rfl, rfl, rfl, by decide +kernel⟩ ?hw ?hc
  case hw => w_witness2
  case hc =>
    refine DL.law_endX (l := PySem.Challenge.rw_paidsteps_k21_whole_rows_of_trees) (n := 63) (k := 100) (x := "script") (sp := DL.K21.sp_law) rfl (by decide) (by kernel_rfl) ⟨rfl, by decide, by decide⟩ (fun z M ns hl hz => ⟨z, ns, rfl, hz, Nat.le_trans hl (by decide), fun _ => rfl⟩) ?F
    intro w mg fa h Y G hmg0
    obtain ⟨K, KX, c0⟩ := Y
    have c := c0.t.d
    have hmg : mg ("law" : PySem.Str) = some (.ref fa) := by
      have e : (HandSHeadRun.topDef (OpenLaw.row PySem.Challenge.rw_paidsteps_k21_whole_rows_of_trees).prog 25).name = ("law" : PySem.Str) := by kernel_rfl
      rw [← e]
      exact hmg0
    obtain ⟨fd, F⟩ := c.def_ 15 (d := DL.K21.dd "law" "law" 25) rfl
    have em := hmg.symm.trans (He.glo_ok KX G (c.fact 15 (f := .glo "law") rfl))
    cases em
    have b := L2.FunD.bindsA (ps := ["script"]) F fun _ _ _ _ _ _ us hl => match us, hl with | [_], _ => rfl
    have hcd : fd.code = .ref (He.cT K ("law", none)).1 := DL.code_of F
    exact ⟨K, fd, (He.cT K ("law", none)).1, (He.cT K ("law", none)).2, DL.K21.lamQ, KX, c0.empty _ (List.mem_singleton.mpr rfl), c0.out _ (List.mem_singleton.mpr rfl), PySem.W.codeHd_of_K KX (c0.hd _ (List.mem_singleton.mpr rfl)), fun s v => b s [v] rfl, fun base _ _ TB => DL.K21.facts KX G F c c0.more (fun i e he => c0.ini_at i he) (by kernel_rfl) (by kernel_rfl) hcd base TB⟩

