import PyProof.Rows.All
import Wide.All
import OpenK.AllK
import Wide.FinOn
import HandS.ForMost
import HandS.ForExc
import HandS.Flow
import HandS.IsInst
import HandS.TupAny
import HandS.Defaults
import HandS.More
import HandS.Conv
import PySem.Challenge.RW_pausewright_k03_gifts_in_a_row
set_option Elab.async false
set_option linter.all false
set_option maxRecDepth 100000
set_option maxHeartbeats 4000000
namespace WL
open PySem PySem.Spec PyProof.Rows L2

/-! ### values with tuples as data; stores of lists, dicts, instances -/
inductive W where
  | non | bl (b : Bool) | int (i : Int) | str (x : Str) | ty (n : String) | ref (a : Addr) | tup (ws : List W) | rl (ws : List W)
inductive MO where
  | lst (ws : List W) | ins (C : Addr) (fs : List (Str × W)) | dk (kvs : List (Key × W)) | xd (fs : List (Str × W))
abbrev Sto := Addr → Option MO
def put (S : Sto) (a : Addr) (o : MO) : Sto := fun b => if b = a then some o else S b
theorem put_same {S : Sto} {a : Addr} {o : MO} : put S a o a = some o := by unfold put; rw [if_pos rfl]
theorem put_ne {S : Sto} {a b : Addr} {o : MO} (h : b ≠ a) : put S a o b = S b := by unfold put; rw [if_neg h]
theorem put_put {S : Sto} {a : Addr} {o u : MO} : put (put S a o) a u = put S a u := by
  funext b; unfold put; split <;> rfl
theorem put_self {S : Sto} {a : Addr} {o : MO} (h : S a = some o) : put S a o = S := by
  funext b; unfold put; split
  · rename_i e; rw [e, h]
  · rfl
theorem put_comm {S : Sto} {a b : Addr} {o u : MO} (h : a ≠ b) : put (put S a o) b u = put (put S b u) a o := by
  funext c; unfold put
  by_cases h1 : c = a
  · subst h1; rw [if_neg h, if_pos rfl, if_pos rfl]
  · by_cases h2 : c = b
    · subst h2; rw [if_pos rfl, if_neg h1, if_pos rfl]
    · rw [if_neg h2, if_neg h1, if_neg h1, if_neg h2]

/-- what may be read as a list -/
def rdl (S : Sto) : W → Option (List W)
  | .ref a => match S a with
    | some (.lst ws) => some ws
    | _ => none
  | .rl ws => some ws
  | _ => none
/-- a list that is never written: locked, or of the written part -/
def Fzl (K : PySem.W.Frag) (H : Hp) (a : Addr) (xs : List V) : Prop := (∃ o, H a = some (.frz o (.lst xs))) ∨
    ∃ (o : Obj) (its : Array Value) (n : Nat), K.lookup a = some o ∧ o.cls = .type "list" ∧ o.dict = none ∧ o.data = .seq its n ∧ its.size ≤ sizeLine ∧ Vals xs its.toList
theorem Fzl.seq {K : PySem.W.Frag} {H : Hp} {a : Addr} {xs : List V} (h : Fzl K H a xs) : SqL K H a xs := h.elim (fun h => .inl (.inr h)) .inr

mutual
def Rel (K : PySem.W.Frag) (H : Hp) : W → V → Prop
  | .non, v => v = .non
  | .bl b, v => v = .bl b
  | .int i, v => v = .int i
  | .str x, v => v = .str x
  | .ty n, v => v = .ty n
  | .ref a, v => v = .ref a
  | .tup ws, v => ∃ a vs, v = .ref a ∧ SqT K H a vs ∧ Rels K H ws vs
  | .rl ws, v => ∃ a vs, v = .ref a ∧ Fzl K H a vs ∧ Rels K H ws vs
def Rels (K : PySem.W.Frag) (H : Hp) : List W → List V → Prop
  | [], vs => vs = []
  | w :: ws, vs => ∃ v vr, vs = v :: vr ∧ Rel K H w v ∧ Rels K H ws vr
end
/-- tuples stay -/
structure Ext (K : PySem.W.Frag) (H H' : Hp) : Prop where
  tup : ∀ a vs, SqT K H a vs → SqT K H' a vs
  fzl : ∀ a vs, Fzl K H a vs → Fzl K H' a vs
section
variable {K : PySem.W.Frag} {H H' H1 H2 : Hp} {S : Sto}
theorem Ext.refl : Ext K H H := ⟨fun _ _ h => h, fun _ _ h => h⟩
theorem Ext.trans (a : Ext K H H1) (b : Ext K H1 H2) : Ext K H H2 := ⟨fun c v h => b.tup c v (a.tup c v h), fun c v h => b.fzl c v (a.fzl c v h)⟩
mutual
theorem Rel.ext (e : Ext K H H') : ∀ {w : W} {v : V}, Rel K H w v → Rel K H' w v
  | .non, _, h => h
  | .bl _, _, h => h
  | .int _, _, h => h
  | .str _, _, h => h
  | .ty _, _, h => h
  | .ref _, _, h => h
  | .tup _, _, h => by
    simp only [Rel] at h ⊢
    obtain ⟨a, vs, e1, e2, e3⟩ := h
    exact ⟨a, vs, e1, e.tup a vs e2, Rels.ext e e3⟩
  | .rl _, _, h => by
    simp only [Rel] at h ⊢
    obtain ⟨a, vs, e1, e2, e3⟩ := h
    exact ⟨a, vs, e1, e.fzl a vs e2, Rels.ext e e3⟩
theorem Rels.ext (e : Ext K H H') : ∀ {ws : List W} {vs : List V}, Rels K H ws vs → Rels K H' ws vs
  | [], _, h => h
  | _ :: _, _, h => by
    simp only [Rels] at h ⊢
    obtain ⟨v, vr, e1, e2, e3⟩ := h
    exact ⟨v, vr, e1, Rel.ext e e2, Rels.ext e e3⟩
end
theorem Rels.nil {vs : List V} : Rels K H [] vs ↔ vs = [] := by simp only [Rels]
theorem Rels.cons {w : W} {ws : List W} {vs : List V} : Rels K H (w :: ws) vs ↔ ∃ v vr, vs = v :: vr ∧ Rel K H w v ∧ Rels K H ws vr := by simp only [Rels]
theorem Rels.length : ∀ {ws : List W} {vs : List V}, Rels K H ws vs → ws.length = vs.length
  | [], _, h => by rw [Rels.nil.mp h]; rfl
  | _ :: _, _, h => by
    obtain ⟨v, vr, rfl, _, h2⟩ := Rels.cons.mp h
    rw [List.length_cons, List.length_cons, h2.length]
theorem Rels.get : ∀ {ws : List W} {vs : List V} {i : Nat} {w : W}, Rels K H ws vs → ws[i]? = some w → ∃ v, vs[i]? = some v ∧ Rel K H w v
  | [], _, _, _, _, e => by simp at e
  | _ :: _, _, 0, _, h, e => by
    obtain ⟨v, vr, rfl, h1, _⟩ := Rels.cons.mp h
    simp at e; subst e; exact ⟨v, rfl, h1⟩
  | _ :: _, _, i + 1, w, h, e => by
    obtain ⟨v, vr, rfl, _, h2⟩ := Rels.cons.mp h
    obtain ⟨u, e1, e2⟩ := h2.get (i := i) (w := w) (by simpa using e)
    exact ⟨u, by simpa using e1, e2⟩
theorem Rels.back : ∀ {ws : List W} {vs : List V} {i : Nat} {v : V}, Rels K H ws vs → vs[i]? = some v → ∃ w, ws[i]? = some w ∧ Rel K H w v
  | [], _, _, _, h, e => by rw [Rels.nil.mp h] at e; simp at e
  | _ :: _, _, 0, _, h, e => by
    obtain ⟨v, vr, rfl, h1, _⟩ := Rels.cons.mp h
    simp at e; subst e; exact ⟨_, rfl, h1⟩
  | _ :: _, _, i + 1, w, h, e => by
    obtain ⟨v, vr, rfl, _, h2⟩ := Rels.cons.mp h
    obtain ⟨u, e1, e2⟩ := h2.back (i := i) (v := w) (by simpa using e)
    exact ⟨u, by simpa using e1, e2⟩
theorem Rels.append : ∀ {xs ys : List W} {us vs : List V}, Rels K H xs us → Rels K H ys vs → Rels K H (xs ++ ys) (us ++ vs)
  | [], _, _, _, h, h' => by rw [Rels.nil.mp h]; exact h'
  | _ :: _, _, _, _, h, h' => by
    obtain ⟨v, vr, rfl, h1, h2⟩ := Rels.cons.mp h
    exact Rels.cons.mpr ⟨v, _, rfl, h1, h2.append h'⟩
theorem Rels.take : ∀ {xs : List W} {us : List V} (n : Nat), Rels K H xs us → Rels K H (xs.take n) (us.take n)
  | _, _, 0, _ => by simp [Rels]
  | [], _, n + 1, h => by rw [Rels.nil.mp h]; simp [Rels]
  | _ :: _, _, n + 1, h => by
    obtain ⟨v, vr, rfl, h1, h2⟩ := Rels.cons.mp h
    exact Rels.cons.mpr ⟨v, _, rfl, h1, h2.take n⟩
theorem Rels.drop : ∀ {xs : List W} {us : List V} (n : Nat), Rels K H xs us → Rels K H (xs.drop n) (us.drop n)
  | _, _, 0, h => h
  | [], _, n + 1, h => by rw [Rels.nil.mp h]; simp [Rels]
  | _ :: _, _, n + 1, h => by
    obtain ⟨v, vr, rfl, h1, h2⟩ := Rels.cons.mp h
    exact h2.drop n
theorem Rels.set {w : W} {v : V} (r : Rel K H w v) : ∀ {xs : List W} {us : List V} (i : Nat), Rels K H xs us → Rels K H (xs.set i w) (us.set i v)
  | [], _, _, h => by rw [Rels.nil.mp h]; simp [Rels]
  | _ :: _, _, 0, h => by
    obtain ⟨v, vr, rfl, h1, h2⟩ := Rels.cons.mp h
    exact Rels.cons.mpr ⟨_, _, rfl, r, h2⟩
  | _ :: _, _, i + 1, h => by
    obtain ⟨v, vr, rfl, h1, h2⟩ := Rels.cons.mp h
    exact Rels.cons.mpr ⟨v, _, rfl, h1, h2.set r i⟩
theorem Rels.one {w : W} {v : V} (r : Rel K H w v) : Rels K H [w] [v] := Rels.cons.mpr ⟨v, [], rfl, r, Rels.nil.mpr rfl⟩
theorem Rels.flatten_rep (n : Nat) : ∀ {xs : List W} {us : List V}, Rels K H xs us → Rels K H (List.replicate n xs).flatten (List.replicate n us).flatten := by
  intro xs us h
  induction n with
  | zero => simp [Rels]
  | succ n ih => rw [List.replicate_succ, List.replicate_succ, List.flatten_cons, List.flatten_cons]; exact h.append ih

/-- the fields of an instance, a dict's entries -/
inductive RelF (K : PySem.W.Frag) (H : Hp) {κ : Type} : List (κ × W) → List (κ × V) → Prop
  | nil : RelF K H [] []
  | cons {k : κ} {w : W} {v : V} {ws : List (κ × W)} {vs : List (κ × V)} : Rel K H w v → RelF K H ws vs → RelF K H ((k, w) :: ws) ((k, v) :: vs)
theorem RelF.ext {κ : Type} (e : Ext K H H') {ws : List (κ × W)} {vs : List (κ × V)} (h : RelF K H ws vs) : RelF K H' ws vs := by
  induction h with
  | nil => exact .nil
  | cons r _ ih => exact .cons (r.ext e) ih
theorem RelF.length {κ : Type} {ws : List (κ × W)} {vs : List (κ × V)} (h : RelF K H ws vs) : ws.length = vs.length := by
  induction h with
  | nil => rfl
  | cons _ _ ih => rw [List.length_cons, List.length_cons, ih]
theorem RelF.lookup {ws : List (Str × W)} {vs : List (Str × V)} (h : RelF K H ws vs) (f : Str) : (∀ w, ws.lookup f = some w → ∃ v, vs.lookup f = some v ∧ Rel K H w v) ∧ (ws.lookup f = none → vs.lookup f = none) := by
  induction h with
  | nil => exact ⟨fun w e => (nomatch e), fun _ => rfl⟩
  | @cons k w v ws vs r _ ih =>
    simp only [List.lookup_cons]
    cases q : f == k with
    | true => exact ⟨fun w' e => ⟨v, rfl, by cases e; exact r⟩, fun e => (nomatch e)⟩
    | false => exact ih
/-- f = w among the fields -/
def putW (f : Str) (w : W) : List (Str × W) → List (Str × W)
  | [] => [(f, w)]
  | (g, x) :: r => if g = f then (g, w) :: r else (g, x) :: putW f w r
theorem RelF.put {ws : List (Str × W)} {vs : List (Str × V)} (h : RelF K H ws vs) (f : Str) {w : W} {v : V} (r : Rel K H w v) : RelF K H (putW f w ws) (putF f v vs) := by
  induction h with
  | nil => exact .cons r .nil
  | @cons k w' v' ws vs r' h' ih =>
    unfold putW putF
    by_cases e : k = f
    · rw [if_pos e, if_pos e]; exact .cons r h'
    · rw [if_neg e, if_neg e]; exact .cons r' ih
def valW {κ : Type} [DecidableEq κ] (kvs : List (κ × W)) (k : κ) : Option W := (kvs.find? fun kv => decide (kv.1 = k)).map (·.2)
def putKW {κ : Type} [DecidableEq κ] (kvs : List (κ × W)) (k : κ) (v : W) : List (κ × W) :=
  if kvs.any fun kv => decide (kv.1 = k) then kvs.map fun kv => if kv.1 = k then (kv.1, v) else kv else kvs ++ [(k, v)]

def OkO (K : PySem.W.Frag) (H : Hp) (a : Addr) : MO → Prop
  | .lst ws => ∃ vs, H a = some (.lst vs) ∧ Rels K H ws vs
  | .ins C fs => ∃ dx gs, H a = some (.ins C dx gs) ∧ RelF K H fs gs
  | .dk kvs => ∃ vs, H a = some (.dK vs) ∧ RelF K H kvs vs
  | .xd fs => ∃ gs, H a = some (.xd gs) ∧ RelF K H fs gs
/-- the heap bears the store -/
def GS (K : PySem.W.Frag) (S : Sto) (H : Hp) : Prop := ∀ a o, S a = some o → OkO K H a o
abbrev Rho := List (Option W)
/-- the slots -/
structure GR (K : PySem.W.Frag) (H : Hp) (r : Rho) (st : L2.St) : Prop where
  len : r.length = st.length
  val : ∀ (i : Nat) (w : W), r[i]? = some (some w) → ∃ v, st[i]? = some (some v) ∧ Rel K H w v
theorem GR.ext {r : Rho} {st   : L2.St} (e : Ext K H H') (g : GR K H r st) : GR K H' r st := ⟨g.len, fun i w h => let ⟨v, h1, h2⟩ := g.val i w h; ⟨v, h1, h2.ext e⟩⟩
theorem GR.set {r : Rho} {st   : L2.St} (g : GR K H r st) (i : Nat) {w : W} {v : V} (x : Rel K H w v) : GR K H (r.set i (some w)) (st.set i (some v)) := by
  refine ⟨by rw [List.length_set, List.length_set, g.len], fun j u h => ?_⟩
  by_cases e : i = j
  · subst e
    by_cases hl : i < r.length
    · rw [List.getElem?_set_self hl] at h
      cases h
      exact ⟨v, by rw [List.getElem?_set_self (by rw [← g.len]; exact hl)], x⟩
    · rw [List.getElem?_eq_none (by rw [List.length_set]; omega)] at h
      cases h
  · rw [List.getElem?_set_ne e] at h ⊢
    exact g.val j u h
theorem GR.wipe {r : Rho} {st   : L2.St} (g : GR K H r st) (i : Nat) : GR K H (r.set i none) (st.set i none) := by
  refine ⟨by rw [List.length_set, List.length_set, g.len], fun j u h => ?_⟩
  by_cases e : i = j
  · subst e
    by_cases hl : i < r.length
    · rw [List.getElem?_set_self hl] at h
      cases h
    · rw [List.getElem?_eq_none (by rw [List.length_set]; omega)] at h
      cases h
  · rw [List.getElem?_set_ne e] at h ⊢
    exact g.val j u h

/-! ### how the abstract heap changes -/
/-- no tuple, not locked -/
def chg : HO → Bool
  | .tup _ => false
  | .frz _ _ => false
  | _ => true
theorem Ext.upd_ {p : Addr} {o : HO} (h : ∀ u, H p = some u → chg u = true) : Ext K H (upd H p o) := by
  have n1 : ∀ a vs, H a = some (.tup vs) → a ≠ p := fun a vs q e => by subst e; exact absurd (h _ q) (by simp [chg])
  have n2 : ∀ a o u, H a = some (.frz o u) → a ≠ p := fun a o u q e => by subst e; exact absurd (h _ q) (by simp [chg])
  refine ⟨fun a vs q => ?_, fun a vs q => ?_⟩
  · rcases q with (q | ⟨u, q⟩) | q
    · exact .inl (.inl (by rw [upd_ne (n1 _ _ q)]; exact q))
    · exact .inl (.inr ⟨u, by rw [upd_ne (n2 _ _ _ q)]; exact q⟩)
    · exact .inr q
  · rcases q with ⟨u, q⟩ | q
    · exact .inl ⟨u, by rw [upd_ne (n2 _ _ _ q)]; exact q⟩
    · exact .inr q
theorem Ext.new {p : Addr} {o : HO} (h : H p = none) : Ext K H (upd H p o) := Ext.upd_ fun u q => by rw [h] at q; cases q
theorem Ext.chg {p : Addr} {o u : HO} (h : H p = some u) (c : chg u = true) : Ext K H (upd H p o) := Ext.upd_ fun u q => by rw [h] at q; cases q; exact c
theorem OkO.ne {a p : Addr} {o : MO} {u : HO} (e : Ext K H (upd H p u)) (h : OkO K H a o) (hp : a ≠ p) : OkO K (upd H p u) a o := by
  cases o with
  | lst ws => obtain ⟨vs, h1, h2⟩ := h; exact ⟨vs, by rw [upd_ne hp]; exact h1, h2.ext e⟩
  | ins C fs => obtain ⟨dx, gs, h1, h2⟩ := h; exact ⟨dx, gs, by rw [upd_ne hp]; exact h1, h2.ext e⟩
  | dk kvs => obtain ⟨vs, h1, h2⟩ := h; exact ⟨vs, by rw [upd_ne hp]; exact h1, h2.ext e⟩
  | xd fs => obtain ⟨gs, h1, h2⟩ := h; exact ⟨gs, by rw [upd_ne hp]; exact h1, h2.ext e⟩
theorem GS.at {a : Addr} {o : MO} (g : GS K S H) (h : S a = some o) : OkO K H a o := g a o h
theorem OkO.there {a : Addr} {o : MO} (h : OkO K H a o) : H a ≠ none := by
  cases o with
  | lst ws => obtain ⟨vs, h1, h2⟩ := h; rw [h1]; exact fun z => nomatch z
  | ins C fs => obtain ⟨dx, gs, h1, h2⟩ := h; rw [h1]; exact fun z => nomatch z
  | dk kvs => obtain ⟨vs, h1, h2⟩ := h; rw [h1]; exact fun z => nomatch z
  | xd fs => obtain ⟨gs, h1, h2⟩ := h; rw [h1]; exact fun z => nomatch z
theorem GS.free {a : Addr} (g : GS K S H) (h : H a = none) : S a = none := by
  cases q : S a with
  | none => rfl
  | some o => exact absurd h (g a o q).there
theorem GS.ext_new {p : Addr} {u : HO} (g : GS K S H) (h : H p = none) : GS K S (upd H p u) := fun a o q => by
  have n : a ≠ p := fun e => by subst e; exact (g _ _ q).there h
  exact (g a o q).ne (Ext.new h) n
/-- a new object at p -/
theorem GS.new {p : Addr} {o : MO} {u : HO} (g : GS K S H) (h : H p = none) (n : OkO K (upd H p u) p o) : GS K (put S p o) (upd H p u) := fun a v q => by
  unfold put at q
  split at q
  · rename_i e; cases q; rw [e]; exact n
  · exact (g a v q).ne (Ext.new h) ‹_›
/-- an object written at p -/
theorem GS.wr {p : Addr} {o : MO} {u v : HO} (g : GS K S H) (h : H p = some v) (c : chg v = true) (n : OkO K (upd H p u) p o) : GS K (put S p o) (upd H p u) := fun a x q => by
  unfold put at q
  split at q
  · rename_i e; cases q; rw [e]; exact n
  · exact (g a x q).ne (Ext.chg h c) ‹_›
end
end WL

namespace WL
open PySem PySem.Spec PyProof.Rows L2

/-! ### readings over values and stores -/
abbrev WQ := W → Sto → Prop
abbrev WE := Rho → Sto → WQ → Prop
abbrev WT := Rho → Sto → (Bool → Sto → Prop) → Prop
abbrev WA := Rho → Sto → (List W → Sto → Prop) → Prop
structure WD where
  nx : Rho → Sto → Prop
  rt : WQ
  bk : Rho → Sto → Prop := fun _ _ => False
  ct : Rho → Sto → Prop := fun _ _ => False
abbrev WS := WD → Rho → Sto → Prop
abbrev WG := W → Rho → Sto → (Rho → Sto → Prop) → Prop
abbrev WGs := List W → Rho → Sto → (Rho → Sto → Prop) → Prop
abbrev WR2 := W → W → Sto → WQ → Prop
abbrev WSp := List W → Sto → WQ → Prop

def MonoE (t : WE) : Prop := ∀ r S (Q Q' : WQ), (∀ w S', Q w S' → Q' w S') → t r S Q → t r S Q'
def MonoT (t : WT) : Prop := ∀ r S (Q Q' : Bool → Sto → Prop), (∀ w S', Q w S' → Q' w S') → t r S Q → t r S Q'
def MonoA (t : WA) : Prop := ∀ r S (Q Q' : List W → Sto → Prop), (∀ w S', Q w S' → Q' w S') → t r S Q → t r S Q'
structure WD.le (D D' : WD) : Prop where
  nx : ∀ r S, D.nx r S → D'.nx r S
  rt : ∀ w S, D.rt w S → D'.rt w S
  bk : ∀ r S, D.bk r S → D'.bk r S
  ct : ∀ r S, D.ct r S → D'.ct r S
def MonoS (t : WS) : Prop := ∀ (D D' : WD) r S, D.le D' → t D r S → t D' r S
def MonoG (g : WG) : Prop := ∀ w r S (Q Q' : Rho → Sto → Prop), (∀ r' S', Q r' S' → Q' r' S') → g w r S Q → g w r S Q'
def MonoGs (g : WGs) : Prop := ∀ w r S (Q Q' : Rho → Sto → Prop), (∀ r' S', Q r' S' → Q' r' S') → g w r S Q → g w r S Q'
def Mono2 (t : WR2) : Prop := ∀ x y S (Q Q' : WQ), (∀ w S', Q w S' → Q' w S') → t x y S Q → t x y S Q'
def MonoSp (t : WSp) : Prop := ∀ ws S (Q Q' : WQ), (∀ w S', Q w S' → Q' w S') → t ws S Q → t ws S Q'

section
variable (K : PySem.W.Frag)
def lowQ (H : Hp) (Q : VK) : WQ := fun w S' => ∀ (H' : Hp) (v : V), Ext K H H' → GS K S' H' → Rel K H' w v → Q v H'
def lowB (H : Hp) (Q : Bool → Hp → Prop) : Bool → Sto → Prop := fun b S' => ∀ (H' : Hp), Ext K H H' → GS K S' H' → Q b H'
def lowL (H : Hp) (Q : List V → Hp → Prop) : List W → Sto → Prop := fun ws S' => ∀ (H' : Hp) (vs : List V), Ext K H H' → GS K S' H' → Rels K H' ws vs → Q vs H'
def lowP (H : Hp) (Q : L2.St → Hp → Prop) : Rho → Sto → Prop := fun r S' => ∀ (st' : L2.St) (H' : Hp), Ext K H H' → GR K H' r st' → GS K S' H' → Q st' H'
def lowD (H : Hp) (D : Ends) : WD := ⟨lowP K H D.nx, lowQ K H D.rt, lowP K H D.bk, lowP K H D.ct⟩
def LowE (t : WE) : TE := fun st H Q => ∃ (r : Rho) (S : Sto), GR K H r st ∧ GS K S H ∧ t r S (lowQ K H Q)
def LowT (t : WT) : TT := fun st H Q => ∃ (r : Rho) (S : Sto), GR K H r st ∧ GS K S H ∧ t r S (lowB K H Q)
def LowA (t : WA) : TA := fun st H Q => ∃ (r : Rho) (S : Sto), GR K H r st ∧ GS K S H ∧ t r S (lowL K H Q)
def LowS (t : WS) : TS := fun D st H => ∃ (r : Rho) (S : Sto), GR K H r st ∧ GS K S H ∧ t (lowD K H D) r S
def LowG (g : WG) : TG := fun v st H Q => ∃ (w : W) (r : Rho) (S : Sto), Rel K H w v ∧ GR K H r st ∧ GS K S H ∧ g w r S (lowP K H Q)
def LowGs (g : WGs) : TGs := fun vs st H Q => ∃ (ws : List W) (r : Rho) (S : Sto), Rels K H ws vs ∧ GR K H r st ∧ GS K S H ∧ g ws r S (lowP K H Q)
def LowR (r : WR2) : R2 := fun x y H Q => ∃ (wx wy : W) (S : Sto), GS K S H ∧ Rel K H wx x ∧ Rel K H wy y ∧ r wx wy S (lowQ K H Q)
def LowSp (sp : WSp) : Sp := fun vs H Q _ => ∃ (ws : List W) (S : Sto), Rels K H ws vs ∧ GS K S H ∧ sp ws S (lowQ K H Q)
def LowC (sp : WSp) : List V → Hp → VK → Prop := fun vs H Q => ∃ (ws : List W) (S : Sto), Rels K H ws vs ∧ GS K S H ∧ sp ws S (lowQ K H Q)
end
section
variable {K : PySem.W.Frag} {H H1 : Hp}
theorem lowQ.ext {Q : VK} {w : W} {S : Sto} (q : lowQ K H Q w S) (e : Ext K H H1) : lowQ K H1 Q w S := fun H' v e' => q H' v (e.trans e')
theorem lowB.ext {Q : Bool → Hp → Prop} {w : Bool} {S : Sto} (q : lowB K H Q w S) (e : Ext K H H1) : lowB K H1 Q w S := fun H' e' => q H' (e.trans e')
theorem lowL.ext {Q : List V → Hp → Prop} {w : List W} {S : Sto} (q : lowL K H Q w S) (e : Ext K H H1) : lowL K H1 Q w S := fun H' v e' => q H' v (e.trans e')
theorem lowP.ext {Q : L2.St → Hp → Prop} {r : Rho} {S : Sto} (q : lowP K H Q r S) (e : Ext K H H1) : lowP K H1 Q r S := fun st H' e' => q st H' (e.trans e')
theorem lowD.ext {D : Ends} (e : Ext K H H1) : (lowD K H D).le (lowD K H1 D) := ⟨fun _ _ q => lowP.ext q e, fun _ _ q => lowQ.ext q e, fun _ _ q => lowP.ext q e, fun _ _ q => lowP.ext q e⟩
theorem WD.le.refl {D : WD} : D.le D := ⟨fun _ _ h => h, fun _ _ h => h, fun _ _ h => h, fun _ _ h => h⟩
end

/-! ### the judgements -/
structure DE (X : Cx) (e : Expr) (t : WE) : Prop where
  mono : MonoE t
  pe : PE X e (LowE X.K t)
structure DT (X : Cx) (e : Expr) (t : WT) : Prop where
  mono : MonoT t
  pt : PT X e (LowT X.K t)
structure DW (X : Cx) (e : Expr) (t : WT) : Prop where
  mono : MonoT t
  pw : PW X e (LowT X.K t)
structure DA (X : Cx) (es : List Expr) (t : WA) : Prop where
  mono : MonoA t
  pa : PA X es (LowA X.K t)
structure DS (X : Cx) (s : Stmt) (t : WS) : Prop where
  mono : MonoS t
  ps : PS X s (LowS X.K t)
structure DSs (X : Cx) (s : List Stmt) (t : WS) : Prop where
  mono : MonoS t
  ps : PSs X s (LowS X.K t)
structure DG (X : Cx) (e : Expr) (g : WG) : Prop where
  mono : MonoG g
  pg : PG X e (LowG X.K g)
structure DGs (X : Cx) (es : List Expr) (g : WGs) : Prop where
  mono : MonoGs g
  pg : PGs X es (LowGs X.K g)
structure OpW (X : Cx) (f : Value → Value → Sem Value) (r : WR2) : Prop where
  mono : Mono2 r
  op : OpR X f (LowR X.K r)
structure CallW (X : Cx) (f : Value) (r : WSp) : Prop where
  mono : MonoSp r
  op : CallR X f (LowC X.K r)
section
variable {X : Cx}
theorem weakE {e : Expr} {t t' : TE} (h : PE X e t) (w : ∀ st H Q, t' st H Q → t st H Q) : PE X e t' := ⟨fun pins s st H Q I q => h.run pins s st H Q I (w _ _ _ q)⟩
theorem weakT {e : Expr} {t t' : TT} (h : PT X e t) (w : ∀ st H Q, t' st H Q → t st H Q) : PT X e t' := ⟨fun pins s st H Q I q => h.run pins s st H Q I (w _ _ _ q)⟩
theorem weakW {e : Expr} {t t' : TT} (h : PW X e t) (w : ∀ st H Q, t' st H Q → t st H Q) : PW X e t' := ⟨fun wh pins s st H Q I q => h.run wh pins s st H Q I (w _ _ _ q)⟩
theorem weakA {e : List Expr} {t t' : TA} (h : PA X e t) (w : ∀ st H Q, t' st H Q → t st H Q) : PA X e t' := ⟨fun p pins s st H Q I q => h.run p pins s st H Q I (w _ _ _ q)⟩
theorem weakS {e : Stmt} {t t' : TS} (h : PS X e t) (w : ∀ D st H, t' D st H → t D st H) : PS X e t' := ⟨fun pins s st H D I q => h.run pins s st H D I (w _ _ _ q)⟩
theorem weakSs {e : List Stmt} {t t' : TS} (h : PSs X e t) (w : ∀ D st H, t' D st H → t D st H) : PSs X e t' := ⟨fun pins s st H D I q => h.run pins s st H D I (w _ _ _ q)⟩
theorem weakG {e : Expr} {t t' : TG} (h : PG X e t) (w : ∀ v st H Q, t' v st H Q → t v st H Q) : PG X e t' := ⟨fun pins s st H v u Q I r q => h.run pins s st H v u Q I r (w _ _ _ _ q)⟩
theorem weakGs {e : List Expr} {t t' : TGs} (h : PGs X e t) (w : ∀ v st H Q, t' v st H Q → t v st H Q) : PGs X e t' := ⟨fun pins s st H v u Q I r q => h.run pins s st H v u Q I r (w _ _ _ _ q)⟩
end

/-! ### names, constants -/
def wVar (i : Nat) : WE := fun r S Q => match r[i]? with
  | some (some w) => Q w S
  | _ => False
def wC (w : W) : WE := fun _ S Q => Q w S
section
variable {X : Cx} {e a b c : Expr} {pos : Pos}
theorem mono_var (i : Nat) : MonoE (wVar i) := fun r S Q Q' h q => by
  unfold wVar at q ⊢
  split at q
  · exact h _ _ q
  · exact q
theorem de_var {i : Nat} (h : PE X e (tVar i)) : DE X e (wVar i) := by
  refine ⟨mono_var i, weakE h fun st H Q ⟨r, S, g, gs, q⟩ => ?_⟩
  unfold wVar at q
  split at q
  · rename_i w e
    obtain ⟨v, e1, e2⟩ := g.val i w e
    exact ⟨v, e1, q H v Ext.refl gs e2⟩
  · exact q.elim
theorem mono_c (w : W) : MonoE (wC w) := fun r S Q Q' h q => h _ _ q
theorem de_c {w : W} {v : V} (h : PE X e (tC v)) (hr : ∀ H, Rel X.K H w v) : DE X e (wC w) :=
  ⟨mono_c w, weakE h fun st H Q ⟨r, S, g, gs, q⟩ => q H v Ext.refl gs (hr H)⟩
theorem de_int {i j pos} : DE X (.Constant (.int i) j pos) (wC (.int i)) := de_c pe_int fun _ => by simp only [Rel]
theorem de_str {x j pos} : DE X (.Constant (.str x) j pos) (wC (.str x)) := de_c pe_str fun _ => by simp only [Rel]
theorem de_bl {i j pos} : DE X (.Constant (.bool i) j pos) (wC (.bl i)) := de_c pe_bl fun _ => by simp only [Rel]
theorem de_non {j pos} : DE X (.Constant .none j pos) (wC .non) := de_c pe_non fun _ => by simp only [Rel]
/-- a module's constant: an int, a tuple of the written part -/
theorem de_glob {x : Str} {w : W} {v : V} {u : Value} (hg : Gl X x) (hm : X.mg x = some u) (r : RelV v u) (hr : ∀ H, Rel X.K H w v) (hd : (x == ("__debug__" : Str)) = false := by decide) : DE X (.Name x pos) (wC w) := de_c (pe_glob hg hm r hd) hr
theorem de_ty {x : Str} {n : String} (hg : Gl X x) (hm : X.mg x = none) (hv : bootBuiltins x = some (.type n)) (hn : x ≠ "__name__" := by decide) (hd : (x == ("__debug__" : Str)) = false := by decide) : DE X (.Name x pos) (wC (.ty n)) :=
  de_c (v := .ty n) (pe_bltn hg hm hv rfl hn hd) fun _ => by simp only [Rel]

/-! ### two-place operations -/
def wOp (r : WR2) (ta tb : WE) : WE := fun rh S Q => ta rh S fun x S1 => tb rh S1 fun y S2 => r x y S2 Q
variable {ta tb tc : WE} {r r' : WR2}
theorem mono_op (hr : Mono2 r) (ha : MonoE ta) (hb : MonoE tb) : MonoE (wOp r ta tb) := fun rh S Q Q' h q =>
  ha _ _ _ _ (fun x S1 q1 => hb _ _ _ _ (fun y S2 q2 => hr _ _ _ _ _ h q2) q1) q
theorem low_op {st : L2.St} {H : Hp} {Q : VK} (hr : Mono2 r) (ha : MonoE ta) (hb : MonoE tb) (h : LowE X.K (wOp r ta tb) st H Q) : tOp (LowR X.K r) (LowE X.K ta) (LowE X.K tb) st H Q := by
  obtain ⟨rh, S, g, gs, q⟩ := h
  refine ⟨rh, S, g, gs, ha _ _ _ _ (fun wx S1 q1 H1 x e1 g1 r1 => ?_) q⟩
  refine ⟨rh, S1, g.ext e1, g1, hb _ _ _ _ (fun wy S2 q2 H2 y e2 g2 r2 => ?_) q1⟩
  exact ⟨wx, wy, S2, g2, r1.ext e2, r2, hr _ _ _ _ _ (fun w S' q => q.ext (e1.trans e2)) q2⟩
theorem de_op {op : Operator} (ho : OpW X (binaryOp op) r) (ha : DE X a ta) (hb : DE X b tb) : DE X (.BinOp a op b pos) (wOp r ta tb) :=
  ⟨mono_op ho.mono ha.mono hb.mono, weakE (pe_op ho.op ha.pe hb.pe) fun _ _ _ q => low_op ho.mono ha.mono hb.mono q⟩
theorem de_cmp {op : CmpOp} (ho : OpW X (compareOp op) r) (ha : DE X a ta) (hb : DE X b tb) (hm : behindInMarks op b = false) : DE X (.Compare a [op] [b] pos) (wOp r ta tb) :=
  ⟨mono_op ho.mono ha.mono hb.mono, weakE (pe_cmpR ho.op ha.pe hb.pe hm) fun _ _ _ q => low_op ho.mono ha.mono hb.mono q⟩
/-- a value that is a bool, as a test -/
def wB (t : WE) : WT := fun rh S Q => t rh S fun x S1 => match x with
  | .bl b => Q b S1
  | _ => False
theorem mono_b (ht : MonoE ta) : MonoT (wB ta) := fun rh S Q Q' h q => ht _ _ _ _ (fun x S1 q1 => by
  cases x <;> first | exact h _ _ q1 | exact q1) q
theorem low_b {st : L2.St} {H : Hp} {Q : Bool → Hp → Prop} (ha : MonoE ta) (h : LowT X.K (wB ta) st H Q) : LowE X.K ta st H fun x H' => ∃ k, x = .bl k ∧ Q k H' := by
  obtain ⟨rh, S, g, gs, q⟩ := h
  refine ⟨rh, S, g, gs, ha _ _ _ _ (fun w S1 q1 H1 x e1 g1 r1 => ?_) q⟩
  cases w with
  | bl b => simp only [Rel] at r1; exact ⟨b, r1, q1 H1 e1 g1⟩
  | _ => exact q1.elim
theorem dt_cmp {op : CmpOp} (ho : OpW X (compareOp op) r) (ha : DE X a ta) (hb : DE X b tb) (hm : behindInMarks op b = false) : DT X (.Compare a [op] [b] pos) (wB (wOp r ta tb)) := by
  have m := mono_op ho.mono ha.mono hb.mono
  exact ⟨mono_b m, weakT (pt_cmpR ho.op ha.pe hb.pe hm) fun _ _ _ q => low_op ho.mono ha.mono hb.mono (low_b m q)⟩
/-- an expression whose value is a bool, as a test: not for comparisons, and, or, not -/
theorem dt_val (ha : DE X e ta) (he : ∀ whole, isTrue e X.env whole = (do let v ← whole; standAt e.pos; holding [v] (truthy v)) := by intro _; rfl) : DT X e (wB ta) :=
  ⟨mono_b ha.mono, weakT (pt_val ha.pe he) fun _ _ _ q => low_b ha.mono q⟩
def wChain (r r' : WR2) (ta tb tc : WE) : WE := fun rh S Q => ta rh S fun x S1 => tb rh S1 fun y S2 => r x y S2 fun z S3 => match z with
  | .bl k => if k = true then tc rh S3 fun w S4 => r' y w S4 Q else Q (.bl false) S3
  | _ => False
theorem mono_chain (hr : Mono2 r) (hr' : Mono2 r') (ha : MonoE ta) (hb : MonoE tb) (hc : MonoE tc) : MonoE (wChain r r' ta tb tc) := fun rh S Q Q' h q =>
  ha _ _ _ _ (fun x S1 q1 => hb _ _ _ _ (fun y S2 q2 => hr _ _ _ _ _ (fun z S3 q3 => by
    cases z with
    | bl k => cases k with
      | true => exact hc _ _ _ _ (fun w S4 q4 => hr' _ _ _ _ _ h q4) q3
      | false => exact h _ _ q3
    | _ => exact q3) q2) q1) q
theorem low_chain {st : L2.St} {H : Hp} {Q : VK} (hr : Mono2 r) (hr' : Mono2 r') (ha : MonoE ta) (hb : MonoE tb) (hc : MonoE tc) (h : LowE X.K (wChain r r' ta tb tc) st H Q) :
    tChain (LowR X.K r) (LowR X.K r') (LowE X.K ta) (LowE X.K tb) (LowE X.K tc) st H Q := by
  obtain ⟨rh, S, g, gs, q⟩ := h
  refine ⟨rh, S, g, gs, ha _ _ _ _ (fun wx S1 q1 H1 x e1 g1 r1 => ?_) q⟩
  refine ⟨rh, S1, g.ext e1, g1, hb _ _ _ _ (fun wy S2 q2 H2 y e2 g2 r2 => ?_) q1⟩
  refine ⟨wx, wy, S2, g2, r1.ext e2, r2, hr _ _ _ _ _ (fun w S3 q3 H3 z e3 g3 r3 => ?_) q2⟩
  cases w with
  | bl k =>
    simp only [Rel] at r3
    refine ⟨k, r3, ?_⟩
    cases k with
    | true =>
      refine ⟨rh, S3, ((g.ext e1).ext e2).ext e3, g3, hc _ _ _ _ (fun w4 S4 q4 H4 z4 e4 g4 r4 => ?_) q3⟩
      exact ⟨wy, w4, S4, g4, (r2.ext e3).ext e4, r4, hr' _ _ _ _ _ (fun w S' q => q.ext (((e1.trans e2).trans e3).trans e4)) q4⟩
    | false => exact q3 H3 (.bl false) ((e1.trans e2).trans e3) g3 (by simp only [Rel])
  | _ => exact q3.elim
theorem de_chain {op op' : CmpOp} (ho : OpW X (compareOp op) r) (ho' : OpW X (compareOp op') r') (ha : DE X a ta) (hb : DE X b tb) (hc : DE X c tc)
    (hm : lastMarks [op, op'] [b, c] = false := by with_unfolding_all rfl) : DE X (.Compare a [op, op'] [b, c] pos) (wChain r r' ta tb tc) :=
  ⟨mono_chain ho.mono ho'.mono ha.mono hb.mono hc.mono, weakE (pe_chain ho.op ho'.op ha.pe hb.pe hc.pe hm) fun _ _ _ q => low_chain ho.mono ho'.mono ha.mono hb.mono hc.mono q⟩
theorem dt_chain {op op' : CmpOp} (ho : OpW X (compareOp op) r) (ho' : OpW X (compareOp op') r') (ha : DE X a ta) (hb : DE X b tb) (hc : DE X c tc)
    (hm : lastMarks [op, op'] [b, c] = false := by with_unfolding_all rfl) : DT X (.Compare a [op, op'] [b, c] pos) (wB (wChain r r' ta tb tc)) := by
  have m := mono_chain ho.mono ho'.mono ha.mono hb.mono hc.mono
  exact ⟨mono_b m, weakT (pt_chain ho.op ho'.op ha.pe hb.pe hc.pe hm) fun _ _ _ q => low_chain ho.mono ho'.mono ha.mono hb.mono hc.mono (low_b m q)⟩
end

/-! ### and, or, not, if -/
section
variable {X : Cx} {e a b c : Expr} {pos : Pos} {ta tb : WE} {tA tB tC' : WT} {rest : List Expr}
def wAnd (t u : WT) : WT := fun r S Q => t r S fun c S1 => if c = true then u r S1 Q else Q false S1
def wOr (t u : WT) : WT := fun r S Q => t r S fun c S1 => if c = true then Q true S1 else u r S1 Q
def wNot (t : WT) : WT := fun r S Q => t r S fun c S1 => Q (!c) S1
theorem dw_and1 (h : DT X a tA) : DW X (.BoolOp .And [a] pos) tA := ⟨h.mono, pw_and1 h.pt⟩
theorem dw_or1 (h : DT X a tA) : DW X (.BoolOp .Or [a] pos) tA := ⟨h.mono, pw_or1 h.pt⟩
theorem dw_and (ha : DT X a tA) (hb : DW X (.BoolOp .And (b :: rest) pos) tB) : DW X (.BoolOp .And (a :: b :: rest) pos) (wAnd tA tB) := by
  refine ⟨fun r S Q Q' h q => ha.mono _ _ _ _ (fun c S1 q1 => ?_) q, weakW (pw_and ha.pt hb.pw) fun st H Q ⟨r, S, g, gs, q⟩ => ⟨r, S, g, gs, ha.mono _ _ _ _ (fun c S1 q1 H1 e1 g1 => ?_) q⟩⟩
  · cases c with
    | true => exact hb.mono _ _ _ _ h q1
    | false => exact h _ _ q1
  · cases c with
    | true => exact ⟨r, S1, g.ext e1, g1, hb.mono _ _ _ _ (fun b S2 q2 => q2.ext e1) q1⟩
    | false => exact q1 H1 e1 g1
theorem dw_or (ha : DT X a tA) (hb : DW X (.BoolOp .Or (b :: rest) pos) tB) : DW X (.BoolOp .Or (a :: b :: rest) pos) (wOr tA tB) := by
  refine ⟨fun r S Q Q' h q => ha.mono _ _ _ _ (fun c S1 q1 => ?_) q, weakW (pw_or ha.pt hb.pw) fun st H Q ⟨r, S, g, gs, q⟩ => ⟨r, S, g, gs, ha.mono _ _ _ _ (fun c S1 q1 H1 e1 g1 => ?_) q⟩⟩
  · cases c with
    | false => exact hb.mono _ _ _ _ h q1
    | true => exact h _ _ q1
  · cases c with
    | false => exact ⟨r, S1, g.ext e1, g1, hb.mono _ _ _ _ (fun b S2 q2 => q2.ext e1) q1⟩
    | true => exact q1 H1 e1 g1
theorem DW.dt (h : DW X e tA) : DT X e tA := ⟨h.mono, h.pw.pt⟩
theorem dt_not (ha : DT X a tA) : DT X (.UnaryOp .Not a pos) (wNot tA) :=
  ⟨fun r S Q Q' h q => ha.mono _ _ _ _ (fun c S1 q1 => h _ _ q1) q, weakT (pt_not ha.pt) fun st H Q ⟨r, S, g, gs, q⟩ => ⟨r, S, g, gs, ha.mono _ _ _ _ (fun c S1 q1 H1 e1 g1 => q1 H1 e1 g1) q⟩⟩
/-- as values: all but the last are bools -/
def wAndV (ta tb : WE) : WE := fun r S Q => ta r S fun x S1 => match x with
  | .bl c => if c = true then tb r S1 Q else Q (.bl false) S1
  | _ => False
def wOrV (ta tb : WE) : WE := fun r S Q => ta r S fun x S1 => match x with
  | .bl c => if c = true then Q (.bl true) S1 else tb r S1 Q
  | _ => False
def wNotV (ta : WE) : WE := fun r S Q => ta r S fun x S1 => match x with
  | .bl c => Q (.bl (!c)) S1
  | _ => False
theorem de_one {op} (h : DE X a ta) : DE X (.BoolOp op [a] pos) ta := ⟨h.mono, pe_one h.pe⟩
theorem de_and (ha : DE X a ta) (hb : DE X (.BoolOp .And (b :: rest) pos) tb) : DE X (.BoolOp .And (a :: b :: rest) pos) (wAndV ta tb) := by
  refine ⟨fun r S Q Q' h q => ha.mono _ _ _ _ (fun x S1 q1 => ?_) q, weakE (pe_and ha.pe hb.pe) fun st H Q ⟨r, S, g, gs, q⟩ => ⟨r, S, g, gs, ha.mono _ _ _ _ (fun x S1 q1 H1 v e1 g1 r1 => ?_) q⟩⟩
  · cases x with
    | bl c => cases c with
      | true => exact hb.mono _ _ _ _ h q1
      | false => exact h _ _ q1
    | _ => exact q1
  · cases x with
    | bl c =>
      simp only [Rel] at r1
      refine ⟨c, r1, ?_⟩
      cases c with
      | true => exact ⟨r, S1, g.ext e1, g1, hb.mono _ _ _ _ (fun b S2 q2 => q2.ext e1) q1⟩
      | false => exact q1 H1 (.bl false) e1 g1 (by simp only [Rel])
    | _ => exact q1.elim
theorem de_or (ha : DE X a ta) (hb : DE X (.BoolOp .Or (b :: rest) pos) tb) : DE X (.BoolOp .Or (a :: b :: rest) pos) (wOrV ta tb) := by
  refine ⟨fun r S Q Q' h q => ha.mono _ _ _ _ (fun x S1 q1 => ?_) q, weakE (pe_or ha.pe hb.pe) fun st H Q ⟨r, S, g, gs, q⟩ => ⟨r, S, g, gs, ha.mono _ _ _ _ (fun x S1 q1 H1 v e1 g1 r1 => ?_) q⟩⟩
  · cases x with
    | bl c => cases c with
      | false => exact hb.mono _ _ _ _ h q1
      | true => exact h _ _ q1
    | _ => exact q1
  · cases x with
    | bl c =>
      simp only [Rel] at r1
      refine ⟨c, r1, ?_⟩
      cases c with
      | false => exact ⟨r, S1, g.ext e1, g1, hb.mono _ _ _ _ (fun b S2 q2 => q2.ext e1) q1⟩
      | true => exact q1 H1 (.bl true) e1 g1 (by simp only [Rel])
    | _ => exact q1.elim
theorem de_not (ha : DE X a ta) : DE X (.UnaryOp .Not a pos) (wNotV ta) := by
  refine ⟨fun r S Q Q' h q => ha.mono _ _ _ _ (fun x S1 q1 => ?_) q, weakE (pe_not ha.pe) fun st H Q ⟨r, S, g, gs, q⟩ => ⟨r, S, g, gs, ha.mono _ _ _ _ (fun x S1 q1 H1 v e1 g1 r1 => ?_) q⟩⟩
  · cases x <;> first | exact h _ _ q1 | exact q1
  · cases x with
    | bl c => simp only [Rel] at r1; exact ⟨c, r1, q1 H1 _ e1 g1 (by simp only [Rel])⟩
    | _ => exact q1.elim
/-- the truth of a value -/
def truW (S : Sto) : W → Option Bool
  | .non => some false
  | .bl b => some b
  | .int i => some (i != 0)
  | .tup ws => some (!ws.isEmpty)
  | .rl ws => some (!ws.isEmpty)
  | .ref a => match S a with
    | some (.lst ws) => some (!ws.isEmpty)
    | some (.dk kvs) => some (!kvs.isEmpty)
    | _ => none
  | _ => none
theorem Rels.emp {K : PySem.W.Frag} {H : Hp} {ws : List W} {vs : List V} (h : Rels K H ws vs) : vs.isEmpty = ws.isEmpty := by
  cases ws with
  | nil => rw [Rels.nil.mp h]; rfl
  | cons w ws => obtain ⟨v, vr, rfl, _, _⟩ := Rels.cons.mp h; rfl
theorem truW_ok {K : PySem.W.Frag} {H : Hp} {S : Sto} {w : W} {v : V} {k : Bool} (gs : GS K S H) (r : Rel K H w v) (h : truW S w = some k) : TruV K v H k := by
  cases w with
  | non => simp only [Rel] at r; subst r; simp only [truW, Option.some.injEq] at h; exact h.symm
  | bl b => simp only [Rel] at r; subst r; simp only [truW, Option.some.injEq] at h; exact h.symm
  | int i => simp only [Rel] at r; subst r; simp only [truW, Option.some.injEq] at h; exact h.symm
  | tup ws =>
    simp only [Rel] at r
    obtain ⟨a, vs, rfl, r1, r2⟩ := r
    simp only [truW, Option.some.injEq] at h
    exact .inr (.inl ⟨vs, r1, by rw [← h, r2.emp]⟩)
  | rl ws =>
    simp only [Rel] at r
    obtain ⟨a, vs, rfl, r1, r2⟩ := r
    simp only [truW, Option.some.injEq] at h
    exact .inl ⟨vs, r1.seq, by rw [← h, r2.emp]⟩
  | ref a =>
    simp only [Rel] at r
    subst r
    simp only [truW] at h
    split at h
    · rename_i ws e
      obtain ⟨vs, h1, h2⟩ := gs.at e
      cases h
      exact .inl ⟨vs, .of h1, by rw [h2.emp]⟩
    · rename_i kvs e
      obtain ⟨vs, h1, h2⟩ := gs.at e
      cases h
      refine .inr (.inr ⟨vs, h1, ?_⟩)
      cases h2 <;> rfl
    · cases h
  | _ => simp [truW] at h
def wOrT (ta tb : WE) : WE := fun r S Q => ta r S fun x S1 => match truW S1 x with
  | some c => if c = true then Q x S1 else tb r S1 Q
  | none => False
theorem de_orT (ha : DE X a ta) (hb : DE X (.BoolOp .Or (b :: rest) pos) tb) : DE X (.BoolOp .Or (a :: b :: rest) pos) (wOrT ta tb) := by
  refine ⟨fun r S Q Q' h q => ha.mono _ _ _ _ (fun x S1 q1 => ?_) q, weakE (pe_orT ha.pe hb.pe) fun st H Q ⟨r, S, g, gs, q⟩ => ⟨r, S, g, gs, ha.mono _ _ _ _ (fun x S1 q1 H1 v e1 g1 r1 => ?_) q⟩⟩
  · split at q1
    · rename_i c _
      cases c with
      | false => exact hb.mono _ _ _ _ h q1
      | true => exact h _ _ q1
    · exact q1
  · split at q1
    · rename_i c ec
      refine ⟨c, truW_ok g1 r1 ec, ?_⟩
      cases c with
      | false => exact ⟨r, S1, g.ext e1, g1, hb.mono _ _ _ _ (fun b S2 q2 => q2.ext e1) q1⟩
      | true => exact q1 H1 _ e1 g1 r1
    · exact q1.elim
/-- a test by truth -/
def wTr (ta : WE) : WT := fun r S Q => ta r S fun x S1 => match truW S1 x with
  | some c => Q c S1
  | none => False
theorem dt_tru (ha : DE X a ta) (he : ∀ whole, isTrue a X.env whole = (do let v ← whole; standAt a.pos; holding [v] (truthy v)) := by intro _; rfl) : DT X a (wTr ta) := by
  refine ⟨fun r S Q Q' h q => ha.mono _ _ _ _ (fun x S1 q1 => ?_) q, weakT (pt_truth ha.pe he) fun st H Q ⟨r, S, g, gs, q⟩ => ⟨r, S, g, gs, ha.mono _ _ _ _ (fun x S1 q1 H1 v e1 g1 r1 => ?_) q⟩⟩
  · split at q1
    · exact h _ _ q1
    · exact q1
  · split at q1
    · rename_i c ec
      exact ⟨c, truW_ok g1 r1 ec, q1 H1 e1 g1⟩
    · exact q1.elim
def wIf (t : WT) (ta tb : WE) : WE := fun r S Q => t r S fun c S1 => if c = true then ta r S1 Q else tb r S1 Q
theorem de_if (hc : DT X c tA) (ha : DE X a ta) (hb : DE X b tb) : DE X (.IfExp c a b pos) (wIf tA ta tb) := by
  refine ⟨fun r S Q Q' h q => hc.mono _ _ _ _ (fun x S1 q1 => ?_) q, weakE (pe_ifExp hc.pt ha.pe hb.pe) fun st H Q ⟨r, S, g, gs, q⟩ => ⟨r, S, g, gs, hc.mono _ _ _ _ (fun x S1 q1 H1 e1 g1 => ?_) q⟩⟩
  · cases x with
    | true => exact ha.mono _ _ _ _ h q1
    | false => exact hb.mono _ _ _ _ h q1
  · cases x with
    | true => exact ⟨r, S1, g.ext e1, g1, ha.mono _ _ _ _ (fun b S2 q2 => q2.ext e1) q1⟩
    | false => exact ⟨r, S1, g.ext e1, g1, hb.mono _ _ _ _ (fun b S2 q2 => q2.ext e1) q1⟩

/-! ### argument lists, displays -/
def wNil : WA := fun _ S Q => Q [] S
def wCons (ta : WE) (tr : WA) : WA := fun r S Q => ta r S fun x S1 => tr r S1 fun xs S2 => Q (x :: xs) S2
variable {es : List Expr} {tr : WA}
theorem da_nil : DA X [] wNil := ⟨fun r S Q Q' h q => h _ _ q, weakA pa_nil fun st H Q ⟨r, S, g, gs, q⟩ => q H [] Ext.refl gs (Rels.nil.mpr rfl)⟩
theorem da_cons (ha : DE X e ta) (hr : DA X es tr) (hs : starEach (e :: es) X.env = (false, eval e X.env) :: starEach es X.env := by rfl) : DA X (e :: es) (wCons ta tr) := by
  refine ⟨fun r S Q Q' h q => ha.mono _ _ _ _ (fun x S1 q1 => hr.mono _ _ _ _ (fun xs S2 q2 => h _ _ q2) q1) q, weakA (pa_cons ha.pe hr.pa hs) fun st H Q ⟨r, S, g, gs, q⟩ => ⟨r, S, g, gs, ha.mono _ _ _ _ (fun x S1 q1 H1 v e1 g1 r1 => ?_) q⟩⟩
  exact ⟨r, S1, g.ext e1, g1, hr.mono _ _ _ _ (fun xs S2 q2 H2 vs e2 g2 r2 => q2 H2 _ (e1.trans e2) g2 (Rels.cons.mpr ⟨v, vs, rfl, r1.ext e2, r2⟩)) q1⟩
def wTup (t : WA) : WE := fun r S Q => t r S fun ws S1 => ws.length ≤ sizeLine ∧ Q (.tup ws) S1
def wLst (t : WA) : WE := fun r S Q => t r S fun ws S1 => ws.length ≤ sizeLine ∧ ∀ p, S1 p = none → Q (.ref p) (put S1 p (.lst ws))
theorem new_tup {K : PySem.W.Frag} {H : Hp} {p : Addr} {ws : List W} {vs : List V} (h : H p = none) (r : Rels K H ws vs) : Rel K (upd H p (.tup vs)) (.tup ws) (.ref p) := by
  simp only [Rel]
  exact ⟨p, vs, rfl, .of upd_same, r.ext (Ext.new h)⟩
theorem new_lst {K : PySem.W.Frag} {S : Sto} {H : Hp} {p : Addr} {ws : List W} {vs : List V} (gs : GS K S H) (h : H p = none) (r : Rels K H ws vs) : GS K (put S p (.lst ws)) (upd H p (.lst vs)) :=
  gs.new h ⟨vs, upd_same, r.ext (Ext.new h)⟩
theorem de_tup {x1} (h : DA X es tr) : DE X (.Tuple es x1 pos) (wTup tr) := by
  refine ⟨fun r S Q Q' hq q => h.mono _ _ _ _ (fun ws S1 q1 => ⟨q1.1, hq _ _ q1.2⟩) q, weakE (pe_tup h.pa) fun st H Q ⟨r, S, g, gs, q⟩ => ⟨r, S, g, gs, h.mono _ _ _ _ (fun ws S1 q1 H1 vs e1 g1 r1 => ?_) q⟩⟩
  refine ⟨by rw [← r1.length]; exact q1.1, fun p hp => q1.2 _ _ (e1.trans (Ext.new hp)) (g1.ext_new hp) (new_tup hp r1)⟩
theorem de_lst (h : DA X es tr) : DE X (.List es pos) (wLst tr) := by
  refine ⟨fun r S Q Q' hq q => h.mono _ _ _ _ (fun ws S1 q1 => ⟨q1.1, fun p hp => hq _ _ (q1.2 p hp)⟩) q, weakE (pe_lst h.pa) fun st H Q ⟨r, S, g, gs, q⟩ => ⟨r, S, g, gs, h.mono _ _ _ _ (fun ws S1 q1 H1 vs e1 g1 r1 => ?_) q⟩⟩
  exact ⟨by rw [← r1.length]; exact q1.1, fun p hp => q1.2 p (g1.free hp) _ _ (e1.trans (Ext.new hp)) (new_lst g1 hp r1) (by simp only [Rel])⟩
end
end WL

namespace WL
open PySem PySem.Spec PyProof.Rows L2
section
variable {X : Cx} {e a b c : Expr} {pos : Pos} {ta tb : WE}

/-! ### the operators -/
def rAddW : WR2
  | .int i, .int j, S, Q => Q (.int (i + j)) S
  | .str x, .str y, S, Q => x.length + y.length ≤ sizeLine ∧ Q (.str (x ++ y)) S
  | .tup xs, .tup ys, S, Q => xs.length + ys.length ≤ sizeLine ∧ Q (.tup (xs ++ ys)) S
  | .ref a, .ref b, S, Q => match S a, S b with
    | some (.lst xs), some (.lst ys) => xs.length + ys.length ≤ sizeLine ∧ ∀ p, S p = none → Q (.ref p) (put S p (.lst (xs ++ ys)))
    | _, _ => False
  | _, _, _, _ => False
theorem ow_add : OpW X (binaryOp .Add) rAddW := by
  refine ⟨fun x y S Q Q' h q => ?_, fun pins s st H x y v u Q I rx ry ⟨wx, wy, S, gs, r1, r2, q⟩ => ?_⟩
  · unfold rAddW at q ⊢
    split at q
    · exact h _ _ q
    · exact ⟨q.1, h _ _ q.2⟩
    · exact ⟨q.1, h _ _ q.2⟩
    · split at q
      · exact ⟨q.1, fun p hp => h _ _ (q.2 p hp)⟩
      · exact q
    · exact q
  · unfold rAddW at q
    split at q
    · simp only [Rel] at r1 r2
      subst r1 r2
      exact op_add pins s st H _ _ v u Q I rx ry ⟨_, _, rfl, rfl, q H _ Ext.refl gs (by simp only [Rel])⟩
    · simp only [Rel] at r1 r2
      subst r1 r2
      exact op_add_str pins s st H _ _ v u Q I rx ry ⟨_, _, rfl, rfl, q.1, q.2 H _ Ext.refl gs (by simp only [Rel])⟩
    · rename_i xs ys
      simp only [Rel] at r1 r2
      obtain ⟨a, vs, rfl, t1, l1⟩ := r1
      obtain ⟨b, us, rfl, t2, l2⟩ := r2
      refine op_catA pins s st H _ _ v u Q I rx ry ⟨a, b, vs, us, rfl, rfl, t1, t2, by rw [← l1.length, ← l2.length]; exact q.1, fun e => ?_, fun e1 e => ?_, fun e1 e2 p hp => ?_⟩
      · refine q.2 H _ Ext.refl gs ?_
        simp only [Rel]
        refine ⟨b, us, rfl, t2, ?_⟩
        have z := l1.append l2
        rw [e] at z
        exact z
      · refine q.2 H _ Ext.refl gs ?_
        simp only [Rel]
        refine ⟨a, vs, rfl, t1, ?_⟩
        have z := l1.append l2
        rw [e, List.append_nil] at z
        exact z
      · exact q.2 _ _ (Ext.new hp) (gs.ext_new hp) (new_tup hp (l1.append l2))
    · rename_i a b
      simp only [Rel] at r1 r2
      subst r1 r2
      split at q
      · rename_i xs ys ea eb
        obtain ⟨vs, h1, l1⟩ := gs.at ea
        obtain ⟨us, h2, l2⟩ := gs.at eb
        exact op_cat pins s st H _ _ v u Q I rx ry ⟨a, b, vs, us, rfl, rfl, h1, h2, by rw [← l1.length, ← l2.length]; exact q.1, fun p hp => q.2 p (gs.free hp) _ _ (Ext.new hp) (new_lst gs hp (l1.append l2)) (by simp only [Rel])⟩
      · exact q.elim
    · exact q.elim
def rSubW : WR2
  | .int i, .int j, S, Q => Q (.int (i - j)) S
  | _, _, _, _ => False
theorem ow_sub : OpW X (binaryOp .Sub) rSubW := by
  refine ⟨fun x y S Q Q' h q => ?_, fun pins s st H x y v u Q I rx ry ⟨wx, wy, S, gs, r1, r2, q⟩ => ?_⟩
  · unfold rSubW at q ⊢
    split at q
    · exact h _ _ q
    · exact q
  · unfold rSubW at q
    split at q
    · simp only [Rel] at r1 r2
      subst r1 r2
      exact op_sub pins s st H _ _ v u Q I rx ry ⟨_, _, rfl, rfl, q H _ Ext.refl gs (by simp only [Rel])⟩
    · exact q.elim
def rMulW : WR2
  | .int i, .int j, S, Q => CMul i j ∧ Q (.int (i * j)) S
  | .ref a, .int k, S, Q => match S a with
    | some (.lst xs) => (-(2 ^ 63) ≤ k ∧ k < 2 ^ 63 ∧ xs.length * k.toNat ≤ sizeLine) ∧ ∀ p, S p = none → Q (.ref p) (put S p (.lst (List.replicate k.toNat xs).flatten))
    | _ => False
  | _, _, _, _ => False
theorem ow_mul : OpW X (binaryOp .Mult) rMulW := by
  refine ⟨fun x y S Q Q' h q => ?_, fun pins s st H x y v u Q I rx ry ⟨wx, wy, S, gs, r1, r2, q⟩ => ?_⟩
  · unfold rMulW at q ⊢
    split at q
    · exact ⟨q.1, h _ _ q.2⟩
    · split at q
      · exact ⟨q.1, fun p hp => h _ _ (q.2 p hp)⟩
      · exact q
    · exact q
  · unfold rMulW at q
    split at q
    · simp only [Rel] at r1 r2
      subst r1 r2
      exact op_mul pins s st H _ _ v u Q I rx ry ⟨_, _, rfl, rfl, q.1, q.2 H _ Ext.refl gs (by simp only [Rel])⟩
    · rename_i a k
      simp only [Rel] at r1 r2
      subst r1 r2
      split at q
      · rename_i xs ea
        obtain ⟨vs, h1, l1⟩ := gs.at ea
        exact op_rep pins s st H _ _ v u Q I rx ry ⟨a, k, vs, rfl, rfl, h1, q.1.1, q.1.2.1, by rw [← l1.length]; exact q.1.2.2, fun p hp => q.2 p (gs.free hp) _ _ (Ext.new hp) (new_lst gs hp (l1.flatten_rep _)) (by simp only [Rel])⟩
      · exact q.elim
    · exact q.elim
/-- ints under a condition -/
def rIW (C : Int → Int → Prop) (g : Int → Int → W) : WR2
  | .int i, .int j, S, Q => C i j ∧ Q (g i j) S
  | _, _, _, _ => False
theorem mono_iW {C : Int → Int → Prop} {g : Int → Int → W} : Mono2 (rIW C g) := fun x y S Q Q' h q => by
  unfold rIW at q ⊢
  split at q
  · exact ⟨q.1, h _ _ q.2⟩
  · exact q
theorem ow_int {f : Value → Value → Sem Value} {C : Int → Int → Prop} {g : Int → Int → V} {g' : Int → Int → W} (h : OpR X f (rI C g)) (hg : ∀ H i j, Rel X.K H (g' i j) (g i j)) : OpW X f (rIW C g') := by
  refine ⟨mono_iW, fun pins s st H x y v u Q I rx ry ⟨wx, wy, S, gs, r1, r2, q⟩ => ?_⟩
  unfold rIW at q
  split at q
  · simp only [Rel] at r1 r2
    subst r1 r2
    exact h pins s st H _ _ v u Q I rx ry ⟨_, _, rfl, rfl, q.1, q.2 H _ Ext.refl gs (hg _ _ _)⟩
  · exact q.elim
def rMod : WR2 := rIW (fun _ j => 0 < j) fun i j => .int (i % j)
theorem ow_mod : OpW X (binaryOp .Mod) rMod := ow_int op_mod fun _ _ _ => by simp only [Rel]
def rDiv : WR2 := rIW CDiv fun i j => .int (i / j)
theorem ow_fdiv : OpW X (binaryOp .FloorDiv) rDiv := ow_int op_fdiv fun _ _ _ => by simp only [Rel]
def rPow : WR2 := rIW CPow fun i j => .int (i ^ j.toNat)
theorem ow_pow : OpW X (binaryOp .Pow) rPow := ow_int op_pow fun _ _ _ => by simp only [Rel]
/-- ints to bools -/
def rIB (g : Int → Int → Bool) : WR2
  | .int i, .int j, S, Q => Q (.bl (g i j)) S
  | _, _, _, _ => False
theorem ow_ib {f : Value → Value → Sem Value} {g : Int → Int → Bool} (h : OpR X f (rI0 fun i j => .bl (g i j))) : OpW X f (rIB g) := by
  refine ⟨fun x y S Q Q' h q => ?_, fun pins s st H x y v u Q I rx ry ⟨wx, wy, S, gs, r1, r2, q⟩ => ?_⟩
  · unfold rIB at q ⊢
    split at q
    · exact h _ _ q
    · exact q
  · unfold rIB at q
    split at q
    · simp only [Rel] at r1 r2
      subst r1 r2
      exact h pins s st H _ _ v u Q I rx ry ⟨_, _, rfl, rfl, q H _ Ext.refl gs (by simp only [Rel])⟩
    · exact q.elim
def rLt : WR2 := rIB fun i j => decide (i < j)
def rLe : WR2 := rIB fun i j => decide (i ≤ j)
def rGt : WR2 := rIB fun i j => decide (j < i)
def rGe : WR2 := rIB fun i j => decide (j ≤ i)
theorem ow_lt : OpW X (compareOp .Lt) rLt := ow_ib op_lt
theorem ow_le : OpW X (compareOp .LtE) rLe := ow_ib op_le
theorem ow_gt : OpW X (compareOp .Gt) rGt := ow_ib op_gt
theorem ow_ge : OpW X (compareOp .GtE) rGe := ow_ib op_ge
/-- is None -/
def isNon : W → Bool
  | .non => true
  | _ => false
def rIsN : WR2 := fun x y S Q => match y with
  | .non => Q (.bl (isNon x)) S
  | _ => False
def rNotN : WR2 := fun x y S Q => match y with
  | .non => Q (.bl (!isNon x)) S
  | _ => False
theorem Rel.non {K : PySem.W.Frag} {H : Hp} {w : W} {v : V} (r : Rel K H w v) : decide (v = .non) = isNon w := by
  cases w with
  | tup ws => simp only [Rel] at r; obtain ⟨a, vs, rfl, _⟩ := r; rfl
  | rl ws => simp only [Rel] at r; obtain ⟨a, vs, rfl, _⟩ := r; rfl
  | _ => simp only [Rel] at r; subst r; rfl
theorem ow_isN : OpW X (compareOp .Is) rIsN := by
  refine ⟨fun x y S Q Q' h q => ?_, fun pins s st H x y v u Q I rx ry ⟨wx, wy, S, gs, r1, r2, q⟩ => ?_⟩
  · unfold rIsN at q ⊢
    split at q
    · exact h _ _ q
    · exact q
  · unfold rIsN at q
    split at q
    · simp only [Rel] at r2
      subst r2
      exact op_isN pins s st H _ _ v u Q I rx ry ⟨rfl, by rw [r1.non]; exact q H _ Ext.refl gs (by simp only [Rel])⟩
    · exact q.elim
theorem ow_notN : OpW X (compareOp .IsNot) rNotN := by
  refine ⟨fun x y S Q Q' h q => ?_, fun pins s st H x y v u Q I rx ry ⟨wx, wy, S, gs, r1, r2, q⟩ => ?_⟩
  · unfold rNotN at q ⊢
    split at q
    · exact h _ _ q
    · exact q
  · unfold rNotN at q
    split at q
    · simp only [Rel] at r2
      subst r2
      exact op_notN pins s st H _ _ v u Q I rx ry ⟨rfl, by rw [r1.non]; exact q H _ Ext.refl gs (by simp only [Rel])⟩
    · exact q.elim

/-! ### == of data -/
mutual
inductive Dat (S : Sto) : W → PyData → Prop
  | non : Dat S .non .none
  | bl (b : Bool) : Dat S (.bl b) (.bool b)
  | int (i : Int) : Dat S (.int i) (.int i)
  | str (x : Str) : Dat S (.str x) (.str x)
  | tup {ws : List W} {ds : List PyData} : DatL S ws ds → Dat S (.tup ws) (.tuple ds)
  | lst {a : Addr} {ws : List W} {ds : List PyData} : S a = some (.lst ws) → DatL S ws ds → Dat S (.ref a) (.list ds)
inductive DatL (S : Sto) : List W → List PyData → Prop
  | nil : DatL S [] []
  | cons {v : W} {vs : List W} {d : PyData} {ds : List PyData} : Dat S v d → DatL S vs ds → DatL S (v :: vs) (d :: ds)
end
mutual
theorem Dat.dp {K : PySem.W.Frag} {S : Sto} {H : Hp} (gs : GS K S H) : ∀ (d : PyData) {w : W} {v : V}, Dat S w d → Rel K H w v → Dp K H v d
  | .none, _, _, h, r => by cases h; simp only [Rel] at r; subst r; exact .non
  | .bool b, _, _, h, r => by cases h; simp only [Rel] at r; subst r; exact .bl b
  | .int i, _, _, h, r => by cases h; simp only [Rel] at r; subst r; exact .int i
  | .str x, _, _, h, r => by cases h; simp only [Rel] at r; subst r; exact .str x
  | .tuple ds, _, _, h, r => by
    cases h with
    | tup hl =>
      simp only [Rel] at r
      obtain ⟨a, vs, rfl, t, l⟩ := r
      exact .tup t (DatL.dp gs ds hl l)
  | .list ds, _, _, h, r => by
    cases h with
    | lst e hl =>
      simp only [Rel] at r
      subst r
      obtain ⟨vs, h1, l⟩ := gs.at e
      exact .lst (.of h1) (DatL.dp gs ds hl l)
  | .dict _, _, _, h, _ => by cases h
theorem DatL.dp {K : PySem.W.Frag} {S : Sto} {H : Hp} (gs : GS K S H) : ∀ (ds : List PyData) {ws : List W} {vs : List V}, DatL S ws ds → Rels K H ws vs → DpAll K H vs ds
  | [], _, _, h, r => by cases h; rw [Rels.nil.mp r]; exact .nil
  | d :: ds, _, _, h, r => by
    cases h with
    | cons h1 h2 =>
      obtain ⟨v, vr, rfl, r1, r2⟩ := Rels.cons.mp r
      exact .cons (Dat.dp gs d h1 r1) (DatL.dp gs ds h2 r2)
end
/-- scalars that are known to be the same or not -/
def seqW : W → W → Option Bool
  | .str x, .str y => some (decide (x = y))
  | .int x, .int y => some (decide (x = y))
  | .bl x, .bl y => some (decide (x = y))
  | .non, .non => some true
  | .non, .int _ => some false
  | .int _, .non => some false
  | .non, .str _ => some false
  | .str _, .non => some false
  | .non, .bl _ => some false
  | .bl _, .non => some false
  | .str _, .int _ => some false
  | .int _, .str _ => some false
  | .str _, .bl _ => some false
  | .bl _, .str _ => some false
  | _, _ => none
theorem seqW_ok {K : PySem.W.Frag} {H : Hp} {wx wy : W} {x y : V} {b : Bool} (r1 : Rel K H wx x) (r2 : Rel K H wy y) (h : seqW wx wy = some b) : scal x y = true ∧ decide (x = y) = b := by
  unfold seqW at h
  split at h <;> first
    | (simp only [Rel] at r1 r2; subst r1 r2; simp only [Option.some.injEq] at h; subst h; exact ⟨rfl, by simp⟩)
    | cases h
def rEqW : WR2 := fun x y S Q => match seqW x y with
  | some b => Q (.bl b) S
  | none => ∃ d e, Dat S x d ∧ Dat S y e ∧ SeqAt.shaped d = true ∧ SeqAt.shaped e = true ∧ Q (.bl (PyData.eqv d e)) S
def rNeW : WR2 := fun x y S Q => match seqW x y with
  | some b => Q (.bl (!b)) S
  | none => ∃ d e, Dat S x d ∧ Dat S y e ∧ SeqAt.shaped d = true ∧ SeqAt.shaped e = true ∧ Q (.bl (!PyData.eqv d e)) S
theorem ow_eq (hu : X.A.units + 64 < cLine) : OpW X (compareOp .Eq) rEqW := by
  refine ⟨fun x y S Q Q' h q => ?_, fun pins s st H x y v u Q I rx ry ⟨wx, wy, S, gs, r1, r2, q⟩ => ?_⟩
  · unfold rEqW at q ⊢
    split at q
    · exact h _ _ q
    · obtain ⟨d, e, h1, h2, h3, h4, q⟩ := q
      exact ⟨d, e, h1, h2, h3, h4, h _ _ q⟩
  · unfold rEqW at q
    split at q
    · rename_i b eb
      obtain ⟨z1, z2⟩ := seqW_ok r1 r2 eb
      exact op_eq pins s st H _ _ v u Q I rx ry ⟨z1, by rw [z2]; exact q H _ Ext.refl gs (by simp only [Rel])⟩
    · obtain ⟨d, e, h1, h2, h3, h4, q⟩ := q
      exact op_eqD hu pins s st H _ _ v u Q I rx ry ⟨d, e, Dat.dp gs d h1 r1, Dat.dp gs e h2 r2, h3, h4, q H _ Ext.refl gs (by simp only [Rel])⟩
theorem ow_ne (hu : X.A.units + 64 < cLine) : OpW X (compareOp .NotEq) rNeW := by
  refine ⟨fun x y S Q Q' h q => ?_, fun pins s st H x y v u Q I rx ry ⟨wx, wy, S, gs, r1, r2, q⟩ => ?_⟩
  · unfold rNeW at q ⊢
    split at q
    · exact h _ _ q
    · obtain ⟨d, e, h1, h2, h3, h4, q⟩ := q
      exact ⟨d, e, h1, h2, h3, h4, h _ _ q⟩
  · unfold rNeW at q
    split at q
    · rename_i b eb
      obtain ⟨z1, z2⟩ := seqW_ok r1 r2 eb
      exact op_ne pins s st H _ _ v u Q I rx ry ⟨z1, by rw [z2]; exact q H _ Ext.refl gs (by simp only [Rel])⟩
    · obtain ⟨d, e, h1, h2, h3, h4, q⟩ := q
      exact op_neD hu pins s st H _ _ v u Q I rx ry ⟨d, e, Dat.dp gs d h1 r1, Dat.dp gs e h2 r2, h3, h4, q H _ Ext.refl gs (by simp only [Rel])⟩

/-! ### in, not in: flat items -/
def flatW : W → Bool
  | .non => true
  | .bl _ => true
  | .int _ => true
  | .str _ => true
  | _ => false
/-- == of flat values -/
def eqW : W → W → Bool
  | .non, .non => true
  | .bl a, .bl b => a == b
  | .bl a, .int b => (if a then 1 else 0) == b
  | .int a, .bl b => a == (if b then 1 else 0)
  | .int a, .int b => a == b
  | .str a, .str b => a == b
  | _, _ => false
def inW (x : W) (ys : List W) : Bool := ys.any fun y => eqW y x
def seqOf (S : Sto) : W → Option (List W)
  | .tup ws => some ws
  | .rl ws => some ws
  | .ref a => match S a with
    | some (.lst ws) => some ws
    | _ => none
  | _ => none
theorem seqOf_ok {K : PySem.W.Frag} {S : Sto} {H : Hp} {w : W} {v : V} {ws : List W} (gs : GS K S H) (r : Rel K H w v) (h : seqOf S w = some ws) : ∃ p vs, v = .ref p ∧ (SqL K H p vs ∨ SqT K H p vs) ∧ Rels K H ws vs := by
  cases w with
  | tup xs => simp only [Rel] at r; simp only [seqOf, Option.some.injEq] at h; subst h; obtain ⟨a, vs, rfl, t, l⟩ := r; exact ⟨a, vs, rfl, .inr t, l⟩
  | rl xs => simp only [Rel] at r; simp only [seqOf, Option.some.injEq] at h; subst h; obtain ⟨a, vs, rfl, t, l⟩ := r; exact ⟨a, vs, rfl, .inl t.seq, l⟩
  | ref a =>
    simp only [Rel] at r
    subst r
    simp only [seqOf] at h
    split at h
    · rename_i xs e
      cases h
      obtain ⟨vs, h1, l⟩ := gs.at e
      exact ⟨a, vs, rfl, .inl (.of h1), l⟩
    · cases h
  | _ => simp [seqOf] at h
theorem flat_ok {K : PySem.W.Frag} {H : Hp} {w : W} {v : V} (r : Rel K H w v) (h : flatW w = true) : flatV v = true := by
  cases w <;> first | (simp only [Rel] at r; subst r; rfl) | (simp [flatW] at h)
theorem eqW_ok {K : PySem.W.Frag} {H : Hp} {w w' : W} {v v' : V} (r : Rel K H w v) (r' : Rel K H w' v') (h : flatW w = true) (h' : flatW w' = true) : eqV v v' = eqW w w' := by
  cases w <;> first
    | (simp only [Rel] at r; subst r; cases w' <;> first | (simp only [Rel] at r'; subst r'; rfl) | (simp [flatW] at h'))
    | (simp [flatW] at h)
theorem flats_ok {K : PySem.W.Frag} {H : Hp} : ∀ {ws : List W} {vs : List V}, Rels K H ws vs → ws.all flatW = true → vs.all flatV = true
  | [], _, r, _ => by rw [Rels.nil.mp r]; rfl
  | _ :: _, _, r, h => by
    obtain ⟨v, vr, rfl, r1, r2⟩ := Rels.cons.mp r
    rw [List.all_cons, Bool.and_eq_true] at h ⊢
    exact ⟨flat_ok r1 h.1, flats_ok r2 h.2⟩
theorem inW_ok {K : PySem.W.Frag} {H : Hp} {x : W} {v : V} (rx : Rel K H x v) (fx : flatW x = true) : ∀ {ws : List W} {vs : List V}, Rels K H ws vs → ws.all flatW = true → inV v vs = inW x ws
  | [], _, r, _ => by rw [Rels.nil.mp r]; rfl
  | _ :: _, _, r, h => by
    obtain ⟨u, vr, rfl, r1, r2⟩ := Rels.cons.mp r
    rw [List.all_cons, Bool.and_eq_true] at h
    unfold inV inW
    rw [List.any_cons, List.any_cons, eqW_ok r1 rx h.1 fx]
    congr 1
    exact inW_ok rx fx r2 h.2
def rInW (neg : Bool) : WR2 := fun x y S Q => match seqOf S y with
  | some ws => (flatW x = true ∧ ws.all flatW = true) ∧ Q (.bl (if neg then !inW x ws else inW x ws)) S
  | none => False
theorem mono_in {neg : Bool} : Mono2 (rInW neg) := fun x y S Q Q' h q => by
  unfold rInW at q ⊢
  split at q
  · exact ⟨q.1, h _ _ q.2⟩
  · exact q
theorem ow_in : OpW X (compareOp .In) (rInW false) := by
  refine ⟨mono_in, fun pins s st H x y v u Q I rx ry ⟨wx, wy, S, gs, r1, r2, q⟩ => ?_⟩
  unfold rInW at q
  split at q
  · rename_i ws e
    obtain ⟨p, vs, rfl, hs, l⟩ := seqOf_ok gs r2 e
    refine op_in_seq pins s st H _ _ v u Q I rx ry ⟨p, vs, rfl, hs, flat_ok r1 q.1.1, flats_ok l q.1.2, ?_⟩
    rw [inW_ok r1 q.1.1 l q.1.2]
    exact q.2 H _ Ext.refl gs (by simp only [Rel])
  · exact q.elim
theorem ow_notin : OpW X (compareOp .NotIn) (rInW true) := by
  refine ⟨mono_in, fun pins s st H x y v u Q I rx ry ⟨wx, wy, S, gs, r1, r2, q⟩ => ?_⟩
  unfold rInW at q
  split at q
  · rename_i ws e
    obtain ⟨p, vs, rfl, hs, l⟩ := seqOf_ok gs r2 e
    refine op_notIn_seq pins s st H _ _ v u Q I rx ry ⟨p, vs, rfl, hs, flat_ok r1 q.1.1, flats_ok l q.1.2, ?_⟩
    rw [inW_ok r1 q.1.1 l q.1.2]
    exact q.2 H _ Ext.refl gs (by simp only [Rel])
  · exact q.elim

/-! ### x[i] -/
theorem atI_ok {K : PySem.W.Frag} {H : Hp} {ws : List W} {vs : List V} {i : Int} {w : W} (l : Rels K H ws vs) (h : atI ws i = some w) : ∃ v, atI vs i = some v ∧ Rel K H w v := by
  unfold atI at h ⊢
  rw [← l.length]
  cases q : ixN ws.length i with
  | none => rw [q] at h; cases h
  | some j =>
    rw [q] at h
    obtain ⟨v, h1, h2⟩ := l.get (i := j) (w := w) h
    exact ⟨v, h1, h2⟩
def rIxW : WR2
  | .tup ws, .int i, S, Q => match atI ws i with
    | some w => Q w S
    | none => False
  | .rl ws, .int i, S, Q => match atI ws i with
    | some w => Q w S
    | none => False
  | .str z, .int i, S, Q => z.length ≤ sizeLine ∧ match atI z.cps.toList i with
    | some c => Q (.str ⟨#[c]⟩) S
    | none => False
  | .ref a, .int i, S, Q => match S a with
    | some (.lst ws) => match atI ws i with
      | some w => Q w S
      | none => False
    | _ => False
  | _, _, _, _ => False
theorem mono_ix : Mono2 rIxW := fun x y S Q Q' h q => by
  unfold rIxW at q ⊢
  split at q
  · split at q
    · exact h _ _ q
    · exact q
  · split at q
    · exact h _ _ q
    · exact q
  · refine ⟨q.1, ?_⟩
    have q := q.2
    split at q
    · exact h _ _ q
    · exact q
  · split at q
    · split at q
      · exact h _ _ q
      · exact q
    · exact q
  · exact q
theorem low_ix {K : PySem.W.Frag} {x y : V} {H : Hp} {Q : VK} (h : LowR K rIxW x y H Q) : rIx K x y H Q := by
  obtain ⟨wx, wy, S, gs, r1, r2, q⟩ := h
  unfold rIxW at q
  split at q
  · simp only [Rel] at r1 r2
    obtain ⟨a, vs, rfl, t, l⟩ := r1
    subst r2
    split at q
    · rename_i w e
      obtain ⟨v, h1, h2⟩ := atI_ok l e
      exact .inr (.inl ⟨a, vs, _, v, rfl, rfl, t, h1, q H v Ext.refl gs h2⟩)
    · exact q.elim
  · simp only [Rel] at r1 r2
    obtain ⟨a, vs, rfl, t, l⟩ := r1
    subst r2
    split at q
    · rename_i w e
      obtain ⟨v, h1, h2⟩ := atI_ok l e
      exact .inl ⟨a, vs, _, v, rfl, rfl, t.seq, h1, q H v Ext.refl gs h2⟩
    · exact q.elim
  · simp only [Rel] at r1 r2
    subst r1 r2
    obtain ⟨q1, q⟩ := q
    split at q
    · rename_i c e
      exact .inr (.inr ⟨_, _, c, rfl, rfl, q1, e, q H _ Ext.refl gs (by simp only [Rel])⟩)
    · exact q.elim
  · simp only [Rel] at r1 r2
    subst r1 r2
    split at q
    · rename_i ws ea
      obtain ⟨vs, h1, l⟩ := gs.at ea
      split at q
      · rename_i w e
        obtain ⟨v, h2, h3⟩ := atI_ok l e
        exact .inl ⟨_, vs, _, v, rfl, rfl, .of h1, h2, q H v Ext.refl gs h3⟩
      · exact q.elim
    · exact q.elim
  · exact q.elim
theorem de_ix (ha : DE X a ta) (hb : DE X b tb) (hs : PlainIx b) : DE X (.Subscript a b pos) (wOp rIxW ta tb) := by
  have hr : IxR X (LowR X.K rIxW) := fun value slice pins s st H x y v u Q I rx ry q hs => ix_seq value slice pins s st H x y v u Q I rx ry (low_ix q) hs
  exact ⟨mono_op mono_ix ha.mono hb.mono, weakE (pe_ix hr ha.pe hb.pe hs) fun _ _ _ q => low_op mono_ix ha.mono hb.mono q⟩

/-! ### slices -/
abbrev WO := Rho → Sto → (Option Int → Sto → Prop) → Prop
def MonoO (t : WO) : Prop := ∀ r S (Q Q' : Option Int → Sto → Prop), (∀ w S', Q w S' → Q' w S') → t r S Q → t r S Q'
def lowO (K : PySem.W.Frag) (H : Hp) (Q : Option Int → Hp → Prop) : Option Int → Sto → Prop := fun b S' => ∀ (H' : Hp), Ext K H H' → GS K S' H' → Q b H'
def LowO (K : PySem.W.Frag) (t : WO) : TO := fun st H Q => ∃ (r : Rho) (S : Sto), GR K H r st ∧ GS K S H ∧ t r S (lowO K H Q)
structure DO' (X : Cx) (e : Option Expr) (t : WO) : Prop where
  mono : MonoO t
  po : PO X e (LowO X.K t)
def wNoPart : WO := fun _ S Q => Q none S
def wPart (t : WE) : WO := fun r S Q => t r S fun x S1 => match x with
  | .int i => Q (some i) S1
  | _ => False
theorem weakO {e : Option Expr} {t t' : TO} (h : PO X e t) (w : ∀ st H Q, t' st H Q → t st H Q) : PO X e t' := ⟨fun pins s st H Q I q => h.run pins s st H Q I (w _ _ _ q)⟩
theorem do_none : DO' X none wNoPart := ⟨fun r S Q Q' h q => h _ _ q, weakO po_none fun st H Q ⟨r, S, g, gs, q⟩ => q H Ext.refl gs⟩
theorem do_some (h : DE X e ta) : DO' X (some e) (wPart ta) := by
  refine ⟨fun r S Q Q' hq q => h.mono _ _ _ _ (fun x S1 q1 => ?_) q, weakO (po_some h.pe) fun st H Q ⟨r, S, g, gs, q⟩ => ⟨r, S, g, gs, h.mono _ _ _ _ (fun x S1 q1 H1 v e1 g1 r1 => ?_) q⟩⟩
  · cases x <;> first | exact hq _ _ q1 | exact q1
  · cases x with
    | int i => simp only [Rel] at r1; exact ⟨i, r1, q1 H1 e1 g1⟩
    | _ => exact q1.elim
def cutW (xs : List W) (lo hi : Option Int) : List W := (xs.drop (HT.sIx xs.length 0 lo)).take (HT.sIx xs.length xs.length hi - HT.sIx xs.length 0 lo)
theorem cut_ok {K : PySem.W.Frag} {H : Hp} {ws : List W} {vs : List V} (lo hi : Option Int) (l : Rels K H ws vs) : Rels K H (cutW ws lo hi) (cutV vs lo hi) := by
  unfold cutW cutV
  rw [← l.length]
  exact (l.drop _).take _
theorem cutW_whole {ws : List W} {lo hi : Option Int} (h : HT.sIx ws.length 0 lo = 0 ∧ HT.sIx ws.length ws.length hi = ws.length) : cutW ws lo hi = ws := by
  unfold cutW
  rw [h.1, h.2, List.drop_zero, Nat.sub_zero, List.take_length]
def rSlW : W → Option Int → Option Int → Sto → WQ → Prop := fun x lo hi S Q => match x with
  | .tup ws => Q (.tup (cutW ws lo hi)) S
  | .rl ws => ∀ p, S p = none → Q (.ref p) (put S p (.lst (cutW ws lo hi)))
  | .ref a => match S a with
    | some (.lst ws) => ∀ p, S p = none → Q (.ref p) (put S p (.lst (cutW ws lo hi)))
    | _ => False
  | _ => False
def wSl (ta : WE) (tl th : WO) : WE := fun r S Q => ta r S fun x S1 => tl r S1 fun l S2 => th r S2 fun u S3 => rSlW x l u S3 Q
theorem mono_sl {x : W} {l u : Option Int} {S : Sto} {Q Q' : WQ} (h : ∀ w S', Q w S' → Q' w S') (q : rSlW x l u S Q) : rSlW x l u S Q' := by
  unfold rSlW at q ⊢
  split at q
  · exact h _ _ q
  · exact fun p hp => h _ _ (q p hp)
  · split at q
    · exact fun p hp => h _ _ (q p hp)
    · exact q
  · exact q
theorem de_slice {lo hi : Option Expr} {tl th : WO} {p2 : Pos} (ha : DE X e ta) (hl : DO' X lo tl) (hu : DO' X hi th) : DE X (.Subscript e (.Slice lo hi none p2) pos) (wSl ta tl th) := by
  have hr : SlR X (fun x l u H Q => ∃ (w : W) (S : Sto), GS X.K S H ∧ Rel X.K H w x ∧ rSlW w l u S (lowQ X.K H Q)) := by
    intro pins s st H x v vl vu lo hi sl Q I rx hs pl pu ⟨w, S, gs, r, q⟩
    unfold rSlW at q
    split at q
    · rename_i ws
      simp only [Rel] at r
      obtain ⟨a, vs, rfl, t, l⟩ := r
      refine sl_tupA pins s st H _ v vl vu lo hi sl Q I rx hs pl pu ⟨a, vs, rfl, t, fun h => ?_, fun _ p hp => ?_⟩
      · rw [← l.length] at h
        refine q H _ Ext.refl gs ?_
        rw [cutW_whole h]
        simp only [Rel]
        exact ⟨a, vs, rfl, t, l⟩
      · exact q _ _ (Ext.new hp) (gs.ext_new hp) (new_tup hp (cut_ok lo hi l))
    · rename_i ws
      simp only [Rel] at r
      obtain ⟨a, vs, rfl, t, l⟩ := r
      exact sl_list pins s st H _ v vl vu lo hi sl Q I rx hs pl pu ⟨a, vs, rfl, t.seq, fun p hp => q p (gs.free hp) _ _ (Ext.new hp) (new_lst gs hp (cut_ok lo hi l)) (by simp only [Rel])⟩
    · simp only [Rel] at r
      subst r
      split at q
      · rename_i ws ea
        obtain ⟨vs, h1, l⟩ := gs.at ea
        exact sl_list pins s st H _ v vl vu lo hi sl Q I rx hs pl pu ⟨_, vs, rfl, .of h1, fun p hp => q p (gs.free hp) _ _ (Ext.new hp) (new_lst gs hp (cut_ok lo hi l)) (by simp only [Rel])⟩
      · exact q.elim
    · exact q.elim
  refine ⟨fun r S Q Q' h q => ha.mono _ _ _ _ (fun x S1 q1 => hl.mono _ _ _ _ (fun l S2 q2 => hu.mono _ _ _ _ (fun u S3 q3 => mono_sl h q3) q2) q1) q, weakE (pe_slice hr ha.pe hl.po hu.po) fun st H Q ⟨r, S, g, gs, q⟩ => ⟨r, S, g, gs, ha.mono _ _ _ _ (fun x S1 q1 H1 v e1 g1 r1 => ?_) q⟩⟩
  refine ⟨r, S1, g.ext e1, g1, hl.mono _ _ _ _ (fun l S2 q2 H2 e2 g2 => ?_) q1⟩
  refine ⟨r, S2, (g.ext e1).ext e2, g2, hu.mono _ _ _ _ (fun u S3 q3 H3 e3 g3 => ?_) q2⟩
  exact ⟨x, S3, g3, (r1.ext e2).ext e3, mono_sl (fun w S' q => q.ext ((e1.trans e2).trans e3)) q3⟩
end
end WL

namespace WL
open PySem PySem.Spec PyProof.Rows L2
section
variable {X : Cx} {e a b c o : Expr} {es : List Expr} {pos : Pos} {ta tb to : WE} {tr : WA}

/-! ### builtins called by name -/
def wCall (sp : WSp) (t : WA) : WE := fun r S Q => t r S fun ws S1 => sp ws S1 Q
theorem mono_call {sp : WSp} (hs : MonoSp sp) (ht : MonoA tr) : MonoE (wCall sp tr) := fun r S Q Q' h q => ht _ _ _ _ (fun ws S1 q1 => hs _ _ _ _ h q1) q
theorem low_call {sp : WSp} {st : L2.St} {H : Hp} {Q : VK} (hs : MonoSp sp) (ht : MonoA tr) (h : LowE X.K (wCall sp tr) st H Q) : LowA X.K tr st H fun vs H1 => LowC X.K sp vs H1 Q := by
  obtain ⟨r, S, g, gs, q⟩ := h
  exact ⟨r, S, g, gs, ht _ _ _ _ (fun ws S1 q1 H1 vs e1 g1 r1 => ⟨ws, S1, r1, g1, hs _ _ _ _ (fun w S' q => q.ext e1) q1⟩) q⟩
theorem de_callB {x : Str} {id : String} {sp : WSp} {p : Pos} (hc : CallW X (.builtin id) sp) (hg : Gl X x) (hm : X.mg x = none) (hv : bootBuiltins x = some (.builtin id)) (ha : DA X (e :: es) tr) (hn : x ≠ "__name__" := by decide) (hdb : (x == ("__debug__" : Str)) = false := by decide)
    (hst : starEach (e :: es) X.env = (false, eval e X.env) :: starEach es X.env := by rfl) (hpl : (backTo pos (starEach es X.env)).any (·.1) = false := by rfl) : DE X (.Call (.Name x p) (e :: es) [] pos) (wCall sp tr) :=
  ⟨mono_call hc.mono ha.mono, weakE (pe_callB hc.op hg hm hv ha.pa hn hdb hst hpl) fun _ _ _ q => low_call hc.mono ha.mono q⟩
theorem de_callTy {x : Str} {T : String} {sp : WSp} {p : Pos} (hc : CallW X (.type T) sp) (hg : Gl X x) (hm : X.mg x = none) (hv : bootBuiltins x = some (.type T)) (ha : DA X (e :: es) tr) (hn : x ≠ "__name__" := by decide) (hdb : (x == ("__debug__" : Str)) = false := by decide)
    (hst : starEach (e :: es) X.env = (false, eval e X.env) :: starEach es X.env := by rfl) (hpl : (backTo pos (starEach es X.env)).any (·.1) = false := by rfl) : DE X (.Call (.Name x p) (e :: es) [] pos) (wCall sp tr) :=
  ⟨mono_call hc.mono ha.mono, weakE (pe_callTy hc.op hg hm hv ha.pa hn hdb hst hpl) fun _ _ _ q => low_call hc.mono ha.mono q⟩
/-- len -/
def rLenW : WSp
  | [.str z], S, Q => z.length ≤ sizeLine ∧ Q (.int z.length) S
  | [x], S, Q => match seqOf S x with
    | some ws => Q (.int ws.length) S
    | none => match x with
      | .ref a => match S a with
        | some (.dk kvs) => Q (.int kvs.length) S
        | _ => False
      | _ => False
  | _, _, _ => False
theorem dk_len {pins : List (Addr × Obj)} {st : L2.St} {H : Hp} {s : Shared} {p : Addr} {kvs : List (Key × V)} {Q : VK} (I : Inv X pins st H s) (h : H p = some (.dK kvs)) (q : Q (.int kvs.length) H) :
    wpAny (model X.prog X.w) X.A (call (.builtin "len") [.ref p]) (EP X pins st Q) X.xe s := d_len I (.inl h) fun t s' I' => ⟨.int kvs.length, H, I', ⟨t, rfl⟩, q⟩
theorem cw_len : CallW X (.builtin "len") rLenW := by
  refine ⟨fun ws S Q Q' h q => ?_, fun pins s st H xs us Q I r ⟨ws, S, rs, gs, q⟩ => ?_⟩
  · unfold rLenW at q ⊢
    split at q
    · exact ⟨q.1, h _ _ q.2⟩
    · split at q
      · exact h _ _ q
      · split at q
        · split at q
          · exact h _ _ q
          · exact q
        · exact q
    · exact q
  · unfold rLenW at q
    split at q
    · obtain ⟨v, vr, rfl, r1, r2⟩ := Rels.cons.mp rs
      simp only [Rel] at r1
      subst r1
      obtain rfl := Rels.nil.mp r2
      exact call_len_str pins s st H _ us Q I r ⟨_, rfl, q.1, q.2 H _ Ext.refl gs (by simp only [Rel])⟩
    · obtain ⟨v, vr, rfl, r1, r2⟩ := Rels.cons.mp rs
      obtain rfl := Rels.nil.mp r2
      split at q
      · rename_i ws e
        obtain ⟨p, vs, rfl, hs, l⟩ := seqOf_ok gs r1 e
        refine call_len_seq pins s st H _ us Q I r ⟨p, vs, rfl, hs, ?_⟩
        rw [← l.length]
        exact q H _ Ext.refl gs (by simp only [Rel])
      · split at q
        · split at q
          · rename_i kvs e
            simp only [Rel] at r1
            subst r1
            obtain ⟨vs, h1, l⟩ := gs.at e
            obtain ⟨u, rfl, ru⟩ := vals1 r
            cases ru
            refine dk_len I h1 ?_
            rw [← l.length]
            exact q H _ Ext.refl gs (by simp only [Rel])
          · exact q.elim
        · exact q.elim
    · exact q.elim
/-- int -/
def rIntW : WSp
  | [.int i], S, Q => Q (.int i) S
  | [.bl b], S, Q => Q (.int (if b then 1 else 0)) S
  | _, _, _ => False
theorem cw_int : CallW X (.type "int") rIntW := by
  refine ⟨fun ws S Q Q' h q => ?_, fun pins s st H xs us Q I r ⟨ws, S, rs, gs, q⟩ => ?_⟩
  · unfold rIntW at q ⊢
    split at q <;> first | exact h _ _ q | exact q
  · unfold rIntW at q
    split at q
    · obtain ⟨v, vr, rfl, r1, r2⟩ := Rels.cons.mp rs
      obtain rfl := Rels.nil.mp r2
      simp only [Rel] at r1
      subst r1
      exact call_int1 pins s st H _ us Q I r (.inl ⟨_, rfl, q H _ Ext.refl gs (by simp only [Rel])⟩)
    · obtain ⟨v, vr, rfl, r1, r2⟩ := Rels.cons.mp rs
      obtain rfl := Rels.nil.mp r2
      simp only [Rel] at r1
      subst r1
      exact call_int1 pins s st H _ us Q I r (.inr ⟨_, rfl, q H _ Ext.refl gs (by simp only [Rel])⟩)
    · exact q.elim
/-- list, tuple of a list or tuple -/
def rListW : WSp
  | [x], S, Q => match seqOf S x with
    | some ws => ∀ p, S p = none → Q (.ref p) (put S p (.lst ws))
    | none => False
  | _, _, _ => False
theorem cw_list : CallW X (.type "list") rListW := by
  refine ⟨fun ws S Q Q' h q => ?_, fun pins s st H xs us Q I r ⟨ws, S, rs, gs, q⟩ => ?_⟩
  · unfold rListW at q ⊢
    split at q
    · split at q
      · exact fun p hp => h _ _ (q p hp)
      · exact q
    · exact q
  · unfold rListW at q
    split at q
    · obtain ⟨v, vr, rfl, r1, r2⟩ := Rels.cons.mp rs
      obtain rfl := Rels.nil.mp r2
      split at q
      · rename_i ws e
        obtain ⟨p, vs, rfl, hs, l⟩ := seqOf_ok gs r1 e
        exact call_list_of pins s st H _ us Q I r ⟨p, vs, rfl, hs, fun p hp => q p (gs.free hp) _ _ (Ext.new hp) (new_lst gs hp l) (by simp only [Rel])⟩
      · exact q.elim
    · exact q.elim
def rTupleW : WSp
  | [x], S, Q => match seqOf S x with
    | some ws => Q (.tup ws) S
    | none => False
  | _, _, _ => False
theorem cw_tuple : CallW X (.type "tuple") rTupleW := by
  refine ⟨fun ws S Q Q' h q => ?_, fun pins s st H xs us Q I r ⟨ws, S, rs, gs, q⟩ => ?_⟩
  · unfold rTupleW at q ⊢
    split at q
    · split at q
      · exact h _ _ q
      · exact q
    · exact q
  · unfold rTupleW at q
    split at q
    · obtain ⟨v, vr, rfl, r1, r2⟩ := Rels.cons.mp rs
      obtain rfl := Rels.nil.mp r2
      split at q
      · rename_i ws e
        obtain ⟨p, vs, rfl, hs, l⟩ := seqOf_ok gs r1 e
        refine call_tuple_of pins s st H _ us Q I r ⟨p, vs, rfl, ?_⟩
        rcases hs with hs | hs
        · exact .inl ⟨hs, fun p hp => q _ _ (Ext.new hp) (gs.ext_new hp) (new_tup hp l)⟩
        · refine .inr ⟨hs, q H _ Ext.refl gs ?_⟩
          simp only [Rel]
          exact ⟨p, vs, rfl, hs, l⟩
      · exact q.elim
    · exact q.elim
/-- min, max of two ints -/
def rMinW : WSp
  | [.int i, .int j], S, Q => Q (.int (if j < i then j else i)) S
  | _, _, _ => False
def rMaxW : WSp
  | [.int i, .int j], S, Q => Q (.int (if j > i then j else i)) S
  | _, _, _ => False
theorem cw_min (hc : X.calm = true) : CallW X (.builtin "min") rMinW := by
  refine ⟨fun ws S Q Q' h q => ?_, fun pins s st H xs us Q I r ⟨ws, S, rs, gs, q⟩ => ?_⟩
  · unfold rMinW at q ⊢
    split at q <;> first | exact h _ _ q | exact q
  · unfold rMinW at q
    split at q
    · obtain ⟨v, vr, rfl, r1, r2⟩ := Rels.cons.mp rs
      obtain ⟨v', vr', rfl, r3, r4⟩ := Rels.cons.mp r2
      obtain rfl := Rels.nil.mp r4
      simp only [Rel] at r1 r3
      subst r1 r3
      exact call_min2 hc pins s st H _ us Q I r ⟨_, _, rfl, q H _ Ext.refl gs (by simp only [Rel])⟩
    · exact q.elim
theorem cw_max (hc : X.calm = true) : CallW X (.builtin "max") rMaxW := by
  refine ⟨fun ws S Q Q' h q => ?_, fun pins s st H xs us Q I r ⟨ws, S, rs, gs, q⟩ => ?_⟩
  · unfold rMaxW at q ⊢
    split at q <;> first | exact h _ _ q | exact q
  · unfold rMaxW at q
    split at q
    · obtain ⟨v, vr, rfl, r1, r2⟩ := Rels.cons.mp rs
      obtain ⟨v', vr', rfl, r3, r4⟩ := Rels.cons.mp r2
      obtain rfl := Rels.nil.mp r4
      simp only [Rel] at r1 r3
      subst r1 r3
      exact call_max2 hc pins s st H _ us Q I r ⟨_, _, rfl, q H _ Ext.refl gs (by simp only [Rel])⟩
    · exact q.elim
/-- isinstance of a built-in class, or of one of a tuple of them -/
def tyW (S : Sto) : W → Option String
  | .non => some "NoneType"
  | .bl _ => some "bool"
  | .int _ => some "int"
  | .str _ => some "str"
  | .tup _ => some "tuple"
  | .rl _ => some "list"
  | .ref a => match S a with
    | some (.lst _) => some "list"
    | some (.dk _) => some "dict"
    | _ => none
  | .ty _ => none
def clsOf : W → Option String
  | .ty n => some n
  | _ => none
def rIsiW : WSp
  | [x, .ty n], S, Q => match tyW S x with
    | some t => match kitB t n with
      | some r => Q (.bl r) S
      | none => False
    | none => False
  | [x, .tup [.ty n, .ty m]], S, Q => match tyW S x with
    | some t => match kitB t n, kitB t m with
      | some r, some r' => Q (.bl (r || r')) S
      | _, _ => False
    | none => False
  | _, _, _ => False
theorem sqT_ty {K : PySem.W.Frag} {H : Hp} {a : Addr} {vs : List V} (t : SqT K H a vs) : TyX K H (.ref a) (.type "tuple") := by
  rcases t with (t | ⟨o, t⟩) | ⟨o, its, n, t1, t2, _⟩
  · exact .base (.tup t)
  · exact .fTuple t
  · exact .kTuple t1 t2
theorem fzl_ty {K : PySem.W.Frag} {H : Hp} {a : Addr} {vs : List V} (t : Fzl K H a vs) : TyX K H (.ref a) (.type "list") := by
  rcases t with ⟨o, t⟩ | ⟨o, its, n, t1, t2, _⟩
  · exact .base (.frz t)
  · exact .kList t1 t2
theorem tyW_ok {K : PySem.W.Frag} {S : Sto} {H : Hp} {w : W} {v : V} {t : String} (gs : GS K S H) (r : Rel K H w v) (h : tyW S w = some t) : TyX K H v (.type t) := by
  cases w with
  | tup ws => simp only [Rel] at r; obtain ⟨a, vs, rfl, r1, _⟩ := r; simp only [tyW, Option.some.injEq] at h; subst h; exact sqT_ty r1
  | rl ws => simp only [Rel] at r; obtain ⟨a, vs, rfl, r1, _⟩ := r; simp only [tyW, Option.some.injEq] at h; subst h; exact fzl_ty r1
  | ref a =>
    simp only [Rel] at r
    subst r
    simp only [tyW] at h
    split at h
    · rename_i ws e; cases h; obtain ⟨vs, h1, _⟩ := gs.at e; exact .base (.lst h1)
    · rename_i ws e; cases h; obtain ⟨vs, h1, _⟩ := gs.at e; exact .base (.dK h1)
    · cases h
  | non => simp only [Rel] at r; subst r; simp only [tyW, Option.some.injEq] at h; subst h; exact .base .non
  | bl b => simp only [Rel] at r; subst r; simp only [tyW, Option.some.injEq] at h; subst h; exact .base (.bl b)
  | int i => simp only [Rel] at r; subst r; simp only [tyW, Option.some.injEq] at h; subst h; exact .base (.int i)
  | str x => simp only [Rel] at r; subst r; simp only [tyW, Option.some.injEq] at h; subst h; exact .base (.str x)
  | ty n => simp [tyW] at h
/-- the tuple of classes: tracked, or of the written part -/
theorem isi2 {pins : List (Addr × Obj)} {s : Shared} {st : L2.St} {H : Hp} {x : V} {tp : Addr} {n m t : String} {r r' : Bool} {us : List Value} {Q : VK} (I : Inv X pins st H s) (rv : Vals [x, .ref tp] us) (hT : SqT X.K H tp [.ty n, .ty m]) (ty : TyX X.K H x (.type t))
    (h1 : kitB t n = some r) (h2 : kitB t m = some r') (q : Q (.bl (r || r')) H) : wpAny (model X.prog X.w) X.A (call (.builtin "isinstance") us) (EP X pins st Q) X.xe s := by
  obtain ⟨u1, u2, rfl, r1, r2⟩ := vals2 rv
  cases (show u2 = Value.ref tp from r2)
  obtain ⟨P, Z, p, hx⟩ := kit_of I r1 ty
  obtain ⟨its, rv', ⟨o, h3, h4, k, h5⟩, _⟩ := I.tuple hT
  cases rv' with
  | cons a1 a2 => cases a2 with
    | cons a3 a4 =>
      cases a4
      cases a1
      cases a3
      obtain ⟨oc, od, dt, sl⟩ := o
      simp only at h4 h5
      subst h4 h5
      refine PySem.W.kia_tup (its := [Value.type n, Value.type m]) Z I.kIn p h3 (b := r || r') ?_ hx fun tk => ⟨.bl _, H, I.tok tk, rfl, q⟩
      refine kitAny_cons (kit_ty h1) (fun e => ?_) fun e => by rw [e]; rfl
      rw [e, Bool.false_or]
      refine kitAny_cons (kit_ty h2) (fun e => ?_) fun e => e
      rw [e]
      rfl
theorem cw_isi : CallW X (.builtin "isinstance") rIsiW := by
  refine ⟨fun ws S Q Q' h q => ?_, fun pins s st H xs us Q I r ⟨ws, S, rs, gs, q⟩ => ?_⟩
  · unfold rIsiW at q ⊢
    split at q
    · split at q
      · split at q
        · exact h _ _ q
        · exact q
      · exact q
    · split at q
      · split at q
        · exact h _ _ q
        · exact q
      · exact q
    · exact q
  · unfold rIsiW at q
    split at q
    · obtain ⟨v, vr, rfl, r1, r2⟩ := Rels.cons.mp rs
      obtain ⟨v', vr', rfl, r3, r4⟩ := Rels.cons.mp r2
      obtain rfl := Rels.nil.mp r4
      simp only [Rel] at r3
      subst r3
      split at q
      · rename_i t et
        split at q
        · rename_i b eb
          exact call_isi pins s st H _ us Q I r ⟨v, .ty _, .type t, .type _, b, rfl, .ty _, tyW_ok gs r1 et, kit_ty eb, q H _ Ext.refl gs (by simp only [Rel])⟩
        · exact q.elim
      · exact q.elim
    · obtain ⟨v, vr, rfl, r1, r2⟩ := Rels.cons.mp rs
      obtain ⟨v', vr', rfl, r3, r4⟩ := Rels.cons.mp r2
      obtain rfl := Rels.nil.mp r4
      simp only [Rel, Rels] at r3
      obtain ⟨tp, vs, rfl, hT, v1, vr1, rfl, rfl, v2, vr2, rfl, rfl, rfl⟩ := r3
      split at q
      · rename_i t et
        split at q
        · rename_i b b' eb eb'
          exact isi2 I r hT (tyW_ok gs r1 et) eb eb' (q H _ Ext.refl gs (by simp only [Rel]))
        · exact q.elim
      · exact q.elim
    · exact q.elim

/-! ### methods of lists -/
def rAppW : W → List W → Sto → WQ → Prop := fun x ws S Q => match x, ws with
  | .ref a, [w] => match S a with
    | some (.lst xs) => xs.length < sizeLine ∧ Q .non (put S a (.lst (xs ++ [w])))
    | _ => False
  | _, _ => False
def wLm (r : W → List W → Sto → WQ → Prop) (to : WE) (t : WA) : WE := fun rh S Q => to rh S fun x S1 => (∃ xs, rdl S1 x = some xs) ∧ t rh S1 fun ws S2 => r x ws S2 Q
structure MtW (X : Cx) (id : String) (r : W → List W → Sto → WQ → Prop) : Prop where
  mono : ∀ x ws S (Q Q' : WQ), (∀ w S', Q w S' → Q' w S') → r x ws S Q → r x ws S Q'
  op : MtR X id fun x vs H Q => ∃ (w : W) (ws : List W) (S : Sto), GS X.K S H ∧ Rel X.K H w x ∧ Rels X.K H ws vs ∧ r w ws S (lowQ X.K H Q)
theorem rdl_ok {K : PySem.W.Frag} {S : Sto} {H : Hp} {w : W} {v : V} {ws : List W} (gs : GS K S H) (r : Rel K H w v) (h : rdl S w = some ws) : ∃ p vs, v = .ref p ∧ SqL K H p vs ∧ Rels K H ws vs := by
  cases w with
  | rl xs => simp only [Rel] at r; simp only [rdl, Option.some.injEq] at h; subst h; obtain ⟨a, vs, rfl, t, l⟩ := r; exact ⟨a, vs, rfl, t.seq, l⟩
  | ref a =>
    simp only [Rel] at r
    subst r
    simp only [rdl] at h
    split at h
    · rename_i xs e
      cases h
      obtain ⟨vs, h1, l⟩ := gs.at e
      exact ⟨a, vs, rfl, .of h1, l⟩
    · cases h
  | _ => simp [rdl] at h
variable {name : Str} {apos cpos : Pos} {id : String} {rm : W → List W → Sto → WQ → Prop}
theorem mono_lm (hm : MtW X id rm) (ho : MonoE to) (ha : MonoA tr) : MonoE (wLm rm to tr) := fun rh S Q Q' h q =>
  ho _ _ _ _ (fun x S1 ⟨q0, q1⟩ => ⟨q0, ha _ _ _ _ (fun ws S2 q2 => hm.mono _ _ _ _ _ h q2) q1⟩) q
theorem de_lm (pa : PlainAttrs "list") (slot : Slot "list" name id) (hty : typeOf (.builtin id) = pure (.type "method_descriptor")) (hm : MtW X id rm) (ho : DE X o to) (ha : DA X (e :: es) tr)
    (hbase : attributeBase o name X.env (eval o X.env) = eval o X.env := by rfl)
    (hfew : ((backTo cpos (starEach (e :: es) X.env)).all (fun x => !x.1) && (backToKw cpos (keywordEach [] X.env)).all (fun x => x.1.isSome)
      && decide ((e :: es).length + ([] : List Keyword).length + (if ([] : List Keyword).isEmpty then 0 else 1) < 30)) = true := by rfl)
    (hline : (apos.endLine == cpos.line) = true := by rfl) (hs : starEach (e :: es) X.env = (false, eval e X.env) :: starEach es X.env := by rfl) (hplain : (backTo cpos (starEach es X.env)).any (·.1) = false := by rfl) :
    DE X (.Call (.Attribute o name apos) (e :: es) [] cpos) (wLm rm to tr) := by
  refine ⟨mono_lm hm ho.mono ha.mono, weakE (pe_bm pa slot hty hm.op ho.pe ha.pa hbase hfew hline hs hplain) fun st H Q ⟨rh, S, g, gs, q⟩ => ⟨rh, S, g, gs, ho.mono _ _ _ _ (fun x S1 ⟨⟨xs, q0⟩, q1⟩ H1 v e1 g1 r1 => ?_) q⟩⟩
  obtain ⟨p, vs, rfl, hl, _⟩ := rdl_ok g1 r1 q0
  refine ⟨.inl ⟨rfl, vs, hl⟩, rh, S1, g.ext e1, g1, ha.mono _ _ _ _ (fun ws S2 q2 H2 us e2 g2 r2 => ?_) q1⟩
  exact ⟨x, ws, S2, g2, r1.ext e2, r2, hm.mono _ _ _ _ _ (fun w S' q => q.ext (e1.trans e2)) q2⟩
def wLm0 (r : W → List W → Sto → WQ → Prop) (to : WE) : WE := fun rh S Q => to rh S fun x S1 => (∃ xs, rdl S1 x = some xs) ∧ r x [] S1 Q
theorem de_lm0 (pa : PlainAttrs "list") (slot : Slot "list" name id) (hty : typeOf (.builtin id) = pure (.type "method_descriptor")) (hm : MtW X id rm) (ho : DE X o to)
    (hbase : attributeBase o name X.env (eval o X.env) = eval o X.env := by rfl) (hline : (apos.endLine == cpos.line) = true := by rfl) : DE X (.Call (.Attribute o name apos) [] [] cpos) (wLm0 rm to) := by
  refine ⟨fun rh S Q Q' h q => ho.mono _ _ _ _ (fun x S1 ⟨q0, q1⟩ => ⟨q0, hm.mono _ _ _ _ _ h q1⟩) q, weakE (pe_bm0 pa slot hty hm.op ho.pe hbase hline) fun st H Q ⟨rh, S, g, gs, q⟩ => ⟨rh, S, g, gs, ho.mono _ _ _ _ (fun x S1 ⟨⟨xs, q0⟩, q1⟩ H1 v e1 g1 r1 => ?_) q⟩⟩
  obtain ⟨p, vs, rfl, hl, _⟩ := rdl_ok g1 r1 q0
  exact ⟨.inl ⟨rfl, vs, hl⟩, x, [], S1, g1, r1, Rels.nil.mpr rfl, hm.mono _ _ _ _ _ (fun w S' q => q.ext e1) q1⟩
theorem wr_lst {K : PySem.W.Frag} {S : Sto} {H : Hp} {p : Addr} {ws : List W} {vs us : List V} (gs : GS K S H) (h : H p = some (.lst us)) (r : Rels K H ws vs) : GS K (put S p (.lst ws)) (upd H p (.lst vs)) :=
  gs.wr h rfl ⟨vs, upd_same, r.ext (Ext.chg h rfl)⟩
theorem mw_append : MtW X "list.append" rAppW := by
  refine ⟨fun x ws S Q Q' h q => ?_, fun pins s st H x vs v us Q I rx rv ⟨w, ws, S, gs, r1, r2, q⟩ => ?_⟩
  · unfold rAppW at q ⊢
    split at q
    · split at q
      · exact ⟨q.1, h _ _ q.2⟩
      · exact q
    · exact q
  · unfold rAppW at q
    split at q
    · split at q
      · rename_i xs e
        simp only [Rel] at r1
        subst r1
        obtain ⟨v1, vr, rfl, r3, r4⟩ := Rels.cons.mp r2
        obtain rfl := Rels.nil.mp r4
        obtain ⟨ys, h1, l⟩ := gs.at e
        exact mt_append pins s st H _ _ v us Q I rx rv ⟨_, ys, _, rfl, rfl, h1, by rw [← l.length]; exact q.1, q.2 _ _ (Ext.chg h1 rfl) (wr_lst gs h1 (l.append (.one r3))) (by simp only [Rel])⟩
      · exact q.elim
    · exact q.elim
def rExtW : W → List W → Sto → WQ → Prop := fun x ws S Q => match x, ws with
  | .ref a, [.ref b] => match S a, S b with
    | some (.lst xs), some (.lst ys) => xs.length + ys.length ≤ sizeLine ∧ Q .non (put S a (.lst (xs ++ ys)))
    | _, _ => False
  | _, _ => False
theorem mw_extend : MtW X "list.extend" rExtW := by
  refine ⟨fun x ws S Q Q' h q => ?_, fun pins s st H x vs v us Q I rx rv ⟨w, ws, S, gs, r1, r2, q⟩ => ?_⟩
  · unfold rExtW at q ⊢
    split at q
    · split at q
      · exact ⟨q.1, h _ _ q.2⟩
      · exact q
    · exact q
  · unfold rExtW at q
    split at q
    · split at q
      · rename_i xs ys e e'
        simp only [Rel] at r1
        subst r1
        obtain ⟨v1, vr, rfl, r3, r4⟩ := Rels.cons.mp r2
        obtain rfl := Rels.nil.mp r4
        simp only [Rel] at r3
        subst r3
        obtain ⟨zs, h1, l⟩ := gs.at e
        obtain ⟨zs', h2, l'⟩ := gs.at e'
        exact mt_extend pins s st H _ _ v us Q I rx rv ⟨_, _, zs, zs', rfl, rfl, h1, h2, by rw [← l.length, ← l'.length]; exact q.1, q.2 _ _ (Ext.chg h1 rfl) (wr_lst gs h1 (l.append l')) (by simp only [Rel])⟩
      · exact q.elim
    · exact q.elim
def rClrW : W → List W → Sto → WQ → Prop := fun x ws S Q => match x, ws with
  | .ref a, [] => match S a with
    | some (.lst xs) => Q .non (put S a (.lst []))
    | _ => False
  | _, _ => False
theorem mw_clear : MtW X "list.clear" rClrW := by
  refine ⟨fun x ws S Q Q' h q => ?_, fun pins s st H x vs v us Q I rx rv ⟨w, ws, S, gs, r1, r2, q⟩ => ?_⟩
  · unfold rClrW at q ⊢
    split at q
    · split at q
      · exact h _ _ q
      · exact q
    · exact q
  · unfold rClrW at q
    split at q
    · split at q
      · rename_i xs e
        simp only [Rel] at r1
        subst r1
        obtain rfl := Rels.nil.mp r2
        obtain ⟨ys, h1, l⟩ := gs.at e
        exact mt_clear pins s st H _ _ v us Q I rx rv ⟨_, ys, rfl, rfl, h1, q _ _ (Ext.chg h1 rfl) (wr_lst gs h1 (Rels.nil.mpr rfl)) (by simp only [Rel])⟩
      · exact q.elim
    · exact q.elim

/-! ### calls of defs, methods, classes -/
variable {CX : CXT} {k : Nat} {f C : Addr} {fd : FuncData} {ps : List Str} {sp : WSp} {x m : Str} {p : Pos}
theorem low_callF {st : L2.St} {H : Hp} {Q : VK} (hs : MonoSp sp) (ht : MonoA tr) (h : LowE X.K (wCall sp tr) st H Q) : tCall (LowSp X.K sp) [] E0 (LowA X.K tr) st H Q := by
  obtain ⟨r, S, g, gs, q⟩ := h
  refine ⟨r, S, g, gs, ht _ _ _ _ (fun ws S1 q1 H1 vs e1 g1 r1 => ?_) q⟩
  show LowSp X.K sp (vs ++ []) H1 Q E0
  rw [List.append_nil]
  exact ⟨ws, S1, r1, g1, hs _ _ _ _ (fun w S' q => q.ext e1) q1⟩
theorem de_call (F : FnOk X.prog X.w X.K X.mg X.base CX0 k f fd ps (LowSp X.K sp)) (hsp : MonoSp sp) (hr : Room k X.A) (hg : Gl X x) (hm : X.mg x = some (.ref f)) (hk : PySem.W.keepIn X.K (.ref f) = true) (hb : Binds X.K fd ps [])
    (ha : DA X (e :: es) tr) (hdb : (x == ("__debug__" : Str)) = false := by decide) (he : starEach (e :: es) X.env = (false, eval e X.env) :: starEach es X.env := by rfl) (hpl : (backTo pos (starEach es X.env)).any (·.1) = false := by rfl) :
    DE X (.Call (.Name x p) (e :: es) [] pos) (wCall sp tr) :=
  ⟨mono_call hsp ha.mono, weakE (pe_call F hr hg hm hk hb .nil pass0 ha.pa hdb he hpl) fun _ _ _ q => low_callF hsp ha.mono q⟩
def wMeth (C : Addr) (m : Str) (sp : WSp) (to : WE) (t : WA) : WE := fun r S Q => to r S fun x S1 => match x with
  | .ref a => match S1 a with
    | some (.ins C' fs) => (C' = C ∧ fs.lookup m = none) ∧ t r S1 fun ws S2 => sp (.ref a :: ws) S2 Q
    | _ => False
  | _ => False
theorem mono_meth (hs : MonoSp sp) (ho : MonoE to) (ht : MonoA tr) : MonoE (wMeth C m sp to tr) := fun r S Q Q' h q => ho _ _ _ _ (fun x S1 q1 => by
  split at q1
  · split at q1
    · exact ⟨q1.1, ht _ _ _ _ (fun ws S2 q2 => hs _ _ _ _ h q2) q1.2⟩
    · exact q1
  · exact q1) q
theorem low_meth {st : L2.St} {H : Hp} {Q : VK} (hs : MonoSp sp) (ho : MonoE to) (ht : MonoA tr) (h : LowE X.K (wMeth C m sp to tr) st H Q) : tMeth C m (LowSp X.K sp) [] E0 (LowE X.K to) (LowA X.K tr) st H Q := by
  obtain ⟨r, S, g, gs, q⟩ := h
  refine ⟨r, S, g, gs, ho _ _ _ _ (fun x S1 q1 H1 v e1 g1 r1 => ?_) q⟩
  split at q1
  · split at q1
    · rename_i a _ C' fs ea
      simp only [Rel] at r1
      subst r1
      obtain ⟨⟨rfl, hl⟩, q1⟩ := q1
      obtain ⟨dx, gs', h1, rf⟩ := g1.at ea
      refine ⟨a, dx, gs', rfl, h1, (rf.lookup m).2 hl, r, S1, g.ext e1, g1, ht _ _ _ _ (fun ws S2 q2 H2 vs e2 g2 r2 => ?_) q1⟩
      show LowSp X.K sp (.ref a :: (vs ++ [])) H2 Q E0
      rw [List.append_nil]
      exact ⟨.ref a :: ws, S2, Rels.cons.mpr ⟨_, _, rfl, by simp only [Rel], r2⟩, g2, hs _ _ _ _ (fun w S' q => q.ext (e1.trans e2)) q2⟩
    · exact q1.elim
  · exact q1.elim
theorem de_meth {pl : Sem Bool} (ho : DE X o to) (c : Cls X.K C) (hm : Meth X.K C m f) (F : FnOk X.prog X.w X.K X.mg X.base CX0 k f fd ps (LowSp X.K sp)) (hsp : MonoSp sp) (hr : Room k X.A) (hb : Binds X.K fd ps []) (ha : DA X (e :: es) tr)
    (hst : starEach (e :: es) X.env = (false, eval e X.env) :: starEach es X.env := by rfl) (hpl : (backTo pos (starEach es X.env)).any (·.1) = false := by rfl)
    (ht : eval (.Call (.Attribute o m apos) (e :: es) [] pos) X.env = (do
      let ov ← eval o X.env
      standAt apos.atName
      let (f, first) ← holding [ov] (getMethod ov m pl)
      callWith pos f first (backTo pos (starEach (e :: es) X.env)) (backToKw pos (keywordEach [] X.env))) := by rfl) :
    DE X (.Call (.Attribute o m apos) (e :: es) [] pos) (wMeth C m sp to tr) :=
  ⟨mono_meth hsp ho.mono ha.mono, weakE (pe_meth (pl := pl) ho.pe c hm F hr hb .nil pass0 ha.pa hst hpl ht) fun _ _ _ q => low_meth hsp ho.mono ha.mono q⟩
def wMake (C : Addr) (sp : WSp) (t : WA) : WE := fun r S Q => t r S fun ws S1 => ∀ x, S1 x = none → sp (.ref x :: ws) (put S1 x (.ins C [])) fun v S2 => isNon v = true ∧ Q (.ref x) S2
theorem mono_make (hs : MonoSp sp) (ht : MonoA tr) : MonoE (wMake C sp tr) := fun r S Q Q' h q => ht _ _ _ _ (fun ws S1 q1 x hx => hs _ _ _ _ (fun w S' q => ⟨q.1, h _ _ q.2⟩) (q1 x hx)) q
theorem low_make {st : L2.St} {H : Hp} {Q : VK} (hs : MonoSp sp) (ht : MonoA tr) (h : LowE X.K (wMake C sp tr) st H Q) : tMake C (LowSp X.K sp) [] E0 (LowA X.K tr) st H Q := by
  obtain ⟨r, S, g, gs, q⟩ := h
  refine ⟨r, S, g, gs, ht _ _ _ _ (fun ws S1 q1 H1 vs e1 g1 r1 x dx hx hdx hne => ?_) q⟩
  have h2 : (upd H1 dx (.own x)) x = none := by rw [upd_ne (Ne.symm hne)]; exact hx
  have g2 := g1.ext_new (p := dx) (u := .own x) hdx
  have e2 : Ext X.K H1 (upd (upd H1 dx (.own x)) x (.ins C dx [])) := (Ext.new hdx).trans (Ext.new h2)
  show LowSp X.K sp (.ref x :: (vs ++ [])) _ _ E0
  rw [List.append_nil]
  refine ⟨.ref x :: ws, put S1 x (.ins C []), Rels.cons.mpr ⟨_, _, rfl, by simp only [Rel], r1.ext e2⟩, g2.new h2 ⟨dx, [], upd_same, .nil⟩, hs _ _ _ _ (fun w S' q => ?_) (q1 x (g1.free hx))⟩
  intro H' v e3 g3 r3
  refine ⟨?_, q.2 H' _ ((e1.trans e2).trans e3) g3 (by simp only [Rel])⟩
  have z := r3.non
  rw [q.1] at z
  exact of_decide_eq_true z
theorem de_make (M : Mk X.K C f) (F : FnOk X.prog X.w X.K X.mg X.base CX0 k f fd ps (LowSp X.K sp)) (hsp : MonoSp sp) (hr : Room (k + 1) X.A) (hg : Gl X x) (hm : X.mg x = some (.ref C)) (hb : Binds X.K fd ps [])
    (ha : DA X (e :: es) tr) (hdb : (x == ("__debug__" : Str)) = false := by decide) (he : starEach (e :: es) X.env = (false, eval e X.env) :: starEach es X.env := by rfl) (hpl : (backTo pos (starEach es X.env)).any (·.1) = false := by rfl) :
    DE X (.Call (.Name x p) (e :: es) [] pos) (wMake C sp tr) :=
  ⟨mono_make hsp ha.mono, weakE (pe_make M F hr hg hm hb .nil pass0 ha.pa hdb he hpl) fun _ _ _ q => low_make hsp ha.mono q⟩
/-! ### fields -/
def wFld (C : Addr) (ta : WE) (f : Str) : WE := fun r S Q => ta r S fun x S1 => match x with
  | .ref a => match S1 a with
    | some (.ins C' fs) => C' = C ∧ match fs.lookup f with
      | some w => Q w S1
      | none => False
    | _ => False
  | _ => False
theorem de_fld {f : Str} (ha : DE X e ta) (c : Cls X.K C) (n : NoAttr X.K C f) (hb : attributeBase e f X.env (eval e X.env) = eval e X.env := by rfl) : DE X (.Attribute e f pos) (wFld C ta f) := by
  refine ⟨fun r S Q Q' h q => ha.mono _ _ _ _ (fun x S1 q1 => ?_) q, weakE (pe_fld ha.pe hb) fun st H Q ⟨r, S, g, gs, q⟩ => ⟨r, S, g, gs, ha.mono _ _ _ _ (fun x S1 q1 H1 v e1 g1 r1 => ?_) q⟩⟩
  · split at q1
    · split at q1
      · refine ⟨q1.1, ?_⟩
        have q2 := q1.2
        split at q2
        · exact h _ _ q2
        · exact q2
      · exact q1
    · exact q1
  · split at q1
    · split at q1
      · rename_i a _ C' fs ea
        simp only [Rel] at r1
        subst r1
        obtain ⟨rfl, q2⟩ := q1
        obtain ⟨dx, gs', h1, rf⟩ := g1.at ea
        split at q2
        · rename_i w ew
          obtain ⟨v, ev, rv⟩ := (rf.lookup f).1 w ew
          exact ⟨a, C', dx, gs', v, rfl, h1, c, n, ev, q2 H1 v e1 g1 rv⟩
        · exact q2.elim
      · exact q1.elim
    · exact q1.elim
end
end WL

namespace WL
open PySem PySem.Spec PyProof.Rows L2
section
variable {X : Cx} {e a b c o : Expr} {es : List Expr} {pos : Pos} {ta tb to : WE} {tr : WA} {st : Stmt} {rest : List Stmt} {t u : WS}

/-! ### statements -/
def wNext : WS := fun D r S => D.nx r S
def wSeq (t u : WS) : WS := fun D r S => t { D with nx := u D } r S
theorem mono_next : MonoS wNext := fun D D' r S h q => h.nx _ _ q
theorem mono_seq (h1 : MonoS t) (h2 : MonoS u) : MonoS (wSeq t u) := fun D D' r S h q => h1 { D with nx := u D } { D' with nx := u D' } _ _ ⟨fun r S q => h2 _ _ _ _ h q, h.rt, h.bk, h.ct⟩ q
theorem dss_nil : DSs X [] wNext := ⟨mono_next, weakSs pss_nil fun D st H ⟨r, S, g, gs, q⟩ => q st H Ext.refl g gs⟩
theorem dss_cons (h1 : DS X st t) (h2 : DSs X rest u) : DSs X (st :: rest) (wSeq t u) := by
  refine ⟨mono_seq h1.mono h2.mono, weakSs (pss_cons h1.ps h2.ps) fun D st H ⟨r, S, g, gs, q⟩ => ⟨r, S, g, gs, h1.mono { lowD X.K H D with nx := u (lowD X.K H D) } (lowD X.K H { D with nx := LowS X.K u D }) _ _ ⟨fun r1 S1 q1 st1 H1 e1 g1 s1 => ?_, fun _ _ q => q, fun _ _ q => q, fun _ _ q => q⟩ q⟩⟩
  exact ⟨r1, S1, g1, s1, h2.mono _ _ _ _ (lowD.ext e1) q1⟩
theorem dss_one (h1 : DS X st t) : DSs X [st] t := ⟨h1.mono, pss_one h1.ps⟩
theorem ds_pass : DS X (.Pass pos) wNext := ⟨mono_next, weakS ps_pass fun D st H ⟨r, S, g, gs, q⟩ => q st H Ext.refl g gs⟩
def wBreak : WS := fun D r S => D.bk r S
def wCont : WS := fun D r S => D.ct r S
theorem ds_break : DS X (.Break pos) wBreak := ⟨fun D D' r S h q => h.bk _ _ q, weakS ps_break fun D st H ⟨r, S, g, gs, q⟩ => q st H Ext.refl g gs⟩
theorem ds_continue : DS X (.Continue pos) wCont := ⟨fun D D' r S h q => h.ct _ _ q, weakS ps_continue fun D st H ⟨r, S, g, gs, q⟩ => q st H Ext.refl g gs⟩
def wDrop (ta : WE) : WS := fun D r S => ta r S fun _ S1 => D.nx r S1
theorem ds_expr (ha : DE X e ta) (hs : swapsWith e none pos.line X.env = pure false := by rfl) : DS X (.Expr e pos) (wDrop ta) :=
  ⟨fun D D' r S h q => ha.mono _ _ _ _ (fun w S1 q1 => h.nx _ _ q1) q, weakS (ps_expr ha.pe hs) fun D st H ⟨r, S, g, gs, q⟩ => ⟨r, S, g, gs, ha.mono _ _ _ _ (fun w S1 q1 H1 v e1 g1 r1 => q1 st H1 e1 (g.ext e1) g1) q⟩⟩
def wRet (ta : WE) : WS := fun D r S => ta r S D.rt
theorem ds_ret (ha : DE X e ta) : DS X (.Return (some e) pos) (wRet ta) :=
  ⟨fun D D' r S h q => ha.mono _ _ _ _ h.rt q, weakS (ps_ret ha.pe) fun D st H ⟨r, S, g, gs, q⟩ => ⟨r, S, g, gs, q⟩⟩
def wRetN : WS := fun D r S => D.rt .non S
theorem ds_retN : DS X (.Return none pos) wRetN := ⟨fun D D' r S h q => h.rt _ _ q, weakS ps_retN fun D st H ⟨r, S, g, gs, q⟩ => q H .non Ext.refl gs (by simp only [Rel])⟩
def wIfS (c : WT) (t u : WS) : WS := fun D r S => c r S fun b S1 => if b = true then t D r S1 else u D r S1
theorem ds_if {c : Expr} {sa sb : List Stmt} {tc : WT} (hc : DT X c tc) (ha : DSs X sa t) (hb : DSs X sb u) : DS X (.If c sa sb pos) (wIfS tc t u) := by
  refine ⟨fun D D' r S h q => hc.mono _ _ _ _ (fun b S1 q1 => ?_) q, weakS (ps_if hc.pt ha.ps hb.ps) fun D st H ⟨r, S, g, gs, q⟩ => ⟨r, S, g, gs, hc.mono _ _ _ _ (fun b S1 q1 H1 e1 g1 => ?_) q⟩⟩
  · cases b with
    | true => exact ha.mono _ _ _ _ h q1
    | false => exact hb.mono _ _ _ _ h q1
  · cases b with
    | true => exact ⟨r, S1, g.ext e1, g1, ha.mono _ _ _ _ (lowD.ext e1) q1⟩
    | false => exact ⟨r, S1, g.ext e1, g1, hb.mono _ _ _ _ (lowD.ext e1) q1⟩
def wNever : WS := fun _ _ _ => False
theorem ds_never : DS X st wNever := ⟨fun _ _ _ _ _ h => h, weakS ps_never fun D st H ⟨r, S, g, gs, q⟩ => q⟩
theorem dss_never {sts : List Stmt} : DSs X sts wNever := ⟨fun _ _ _ _ _ h => h, weakSs pss_never fun D st H ⟨r, S, g, gs, q⟩ => q⟩

/-! ### targets -/
def gNameW (i : Nat) : WG := fun w r S Q => Q (r.set i (some w)) S
theorem dg_name {i : Nat} {x : Str} (hN : X.N.Nodup) (hi : X.N[i]? = some x) (hx : Loc X.env.scope x) (hf : X.fn x = true ∨ X.env.scope.names.lookup x = some .local := by first | exact .inl rfl | exact .inr rfl | assumption) : DG X (.Name x pos) (gNameW i) :=
  ⟨fun w r S Q Q' h q => h _ _ q, weakG (pg_name hN hi hx hf) fun v st H Q ⟨w, r, S, rl, g, gs, q⟩ => q _ H Ext.refl (g.set i rl) gs⟩
def gNilW : WGs := fun ws r S Q => ws = [] ∧ Q r S
def gConsW (t : WG) (u : WGs) : WGs := fun ws r S Q => match ws with
  | w :: wr => t w r S fun r' S' => u wr r' S' Q
  | [] => False
theorem dgs_nil : DGs X [] gNilW := ⟨fun ws r S Q Q' h q => ⟨q.1, h _ _ q.2⟩, weakGs pgs_nil fun vs st H Q ⟨ws, r, S, rl, g, gs, q⟩ => ⟨by rw [q.1] at rl; exact Rels.nil.mp rl, q.2 st H Ext.refl g gs⟩⟩
theorem dgs_cons {g : WG} {gs' : WGs} (h1 : DG X e g) (h2 : DGs X es gs') (hs : (assignEach (e :: es) X.env).map (·.2) = assign e X.env :: (assignEach es X.env).map (·.2) := by rfl) : DGs X (e :: es) (gConsW g gs') := by
  refine ⟨fun ws r S Q Q' h q => ?_, weakGs (pgs_cons h1.pg h2.pg hs) fun vs st H Q ⟨ws, r, S, rl, g, gs, q⟩ => ?_⟩
  · cases ws with
    | nil => exact q
    | cons w wr => exact h1.mono _ _ _ _ _ (fun r' S' q1 => h2.mono _ _ _ _ _ h q1) q
  · cases ws with
    | nil => exact q.elim
    | cons w wr =>
      obtain ⟨v, vr, rfl, r1, r2⟩ := Rels.cons.mp rl
      exact ⟨v, vr, rfl, w, r, S, r1, g, gs, h1.mono _ _ _ _ _ (fun r' S' q1 st1 H1 e1 g1 s1 => ⟨wr, r', S', r2.ext e1, g1, s1, h2.mono _ _ _ _ _ (fun r2 S2 q2 => q2.ext e1) q1⟩) q⟩
def gTupW (n : Nat) (t : WGs) : WG := fun w r S Q => match w with
  | .tup ws => ws.length = n ∧ t ws r S Q
  | _ => False
theorem dg_tup {es : List Expr} {k : Nat} {t : WGs} {n : Nat} (hc : X.calm = true) (h : DGs X es t)
    (hn : (assignEach es X.env).length = n := by rfl) (hst : (assignEach es X.env).findIdx? (·.1) = none := by rfl) : DG X (.Tuple es k pos) (gTupW n t) := by
  refine ⟨fun w r S Q Q' hq q => ?_, weakG (pg_tup hc h.pg hn hst) fun v st H Q ⟨w, r, S, rl, g, gs, q⟩ => ?_⟩
  · cases w with
    | tup ws => exact ⟨q.1, h.mono _ _ _ _ _ hq q.2⟩
    | _ => exact q
  · cases w with
    | tup ws =>
      simp only [Rel] at rl
      obtain ⟨a, vs, rfl, t1, l⟩ := rl
      exact ⟨a, vs, rfl, t1, by rw [← l.length]; exact q.1, ws, r, S, l, g, gs, q.2⟩
    | _ => exact q.elim
/-- xs[i] = .. -/
def setW (x y w : W) (S : Sto) (Q : Sto → Prop) : Prop := match x, y with
  | .ref a, .int k => match S a with
    | some (.lst ws) => match ixN ws.length k with
      | some j => Q (put S a (.lst (ws.set j w)))
      | none => False
    | _ => False
  | _, _ => False
def gSubW (to ti : WE) : WG := fun w r S Q => to r S fun x S1 => ti r S1 fun y S2 => setW x y w S2 fun S3 => Q r S3
theorem mono_set {x y w : W} {S : Sto} {Q Q' : Sto → Prop} (h : ∀ S, Q S → Q' S) (q : setW x y w S Q) : setW x y w S Q' := by
  unfold setW at q ⊢
  split at q
  · split at q
    · split at q
      · exact h _ q
      · exact q
    · exact q
  · exact q
theorem dg_sub {ob i : Expr} {ti : WE} (ho : DE X ob to) (hi : DE X i ti)
    (ha : ∀ v, assign (.Subscript ob i pos) X.env v = (do
      let ov ← holding [v] (eval ob X.env)
      let iv ← holding [v, ov] (eval i X.env)
      standAt pos
      holding [v, ov, iv] (setItem ov iv v)
      release [v, ov, iv] []) := by intro _; rfl) : DG X (.Subscript ob i pos) (gSubW to ti) := by
  refine ⟨fun w r S Q Q' h q => ho.mono _ _ _ _ (fun x S1 q1 => hi.mono _ _ _ _ (fun y S2 q2 => mono_set (fun S q => h _ _ q) q2) q1) q, weakG (pg_sub ho.pe hi.pe set_list ha) fun v st H Q ⟨w, r, S, rl, g, gs, q⟩ => ?_⟩
  refine ⟨r, S, g, gs, ho.mono _ _ _ _ (fun x S1 q1 H1 ov e1 g1 r1 => ?_) q⟩
  refine ⟨r, S1, g.ext e1, g1, hi.mono _ _ _ _ (fun y S2 q2 H2 iv e2 g2 r2 => ?_) q1⟩
  unfold setW at q2
  split at q2
  · split at q2
    · rename_i a k _ ws ea
      simp only [Rel] at r1 r2
      subst r1 r2
      split at q2
      · rename_i j ej
        obtain ⟨vs, h1, l⟩ := g2.at ea
        have rl2 := (rl.ext e1).ext e2
        exact ⟨a, vs, k, j, rfl, rfl, h1, by rw [← l.length]; exact ej, q2 st _ ((e1.trans e2).trans (Ext.chg h1 rfl)) (((g.ext e1).ext e2).ext (Ext.chg h1 rfl)) (wr_lst g2 h1 (l.set rl2 j))⟩
      · exact q2.elim
    · exact q2.elim
  · exact q2.elim
/-- target = value -/
def wAsg (ta : WE) (g : WG) : WS := fun D r S => ta r S fun w S1 => g w r S1 D.nx
theorem low_asg {tg : WG} {D : Ends} {st : L2.St} {H : Hp} (ha : MonoE ta) (hg : MonoG tg) (h : LowS X.K (wAsg ta tg) D st H) : LowE X.K ta st H fun x H1 => LowG X.K tg x st H1 D.nx := by
  obtain ⟨r, S, g, gs, q⟩ := h
  exact ⟨r, S, g, gs, ha _ _ _ _ (fun w S1 q1 H1 v e1 g1 r1 => ⟨w, r, S1, r1, g.ext e1, g1, hg _ _ _ _ _ (fun r2 S2 q2 => q2.ext e1) q1⟩) q⟩
theorem ds_asg {tg : Expr} {g : WG} (he : DE X e ta) (hg : DG X tg g) (hs : swapsWithSole [tg] e pos.line X.env = pure false := by rfl) (hw : swappedStores [tg] e X.env = pure none := by rfl)
    (h1 : (assignEach [tg] X.env).map (·.2) = [assign tg X.env] := by rfl) : DS X (.Assign [tg] e pos) (wAsg ta g) :=
  ⟨fun D D' r S h q => he.mono _ _ _ _ (fun w S1 q1 => hg.mono _ _ _ _ _ h.nx q1) q, weakS (ps_asg he.pe hg.pg hs hw h1) fun _ _ _ q => low_asg he.mono hg.mono q⟩
theorem ds_set {i : Nat} {x : Str} {pos' : Pos} (hN : X.N.Nodup) (hi : X.N[i]? = some x) (hx : Loc X.env.scope x) (he : DE X e ta) (hs : swapsWith e (some (.Name x pos')) pos.line X.env = pure false := by rfl) (hf : X.fn x = true ∨ X.env.scope.names.lookup x = some .local := by first | exact .inl rfl | exact .inr rfl | assumption) :
    DS X (.Assign [.Name x pos'] e pos) (wAsg ta (gNameW i)) := by
  have hg : MonoG (gNameW i) := fun w r S Q Q' h q => h _ _ q
  refine ⟨fun D D' r S h q => he.mono _ _ _ _ (fun w S1 q1 => hg _ _ _ _ _ h.nx q1) q, weakS (ps_set hN hi hx he.pe hs hf) fun D st H ⟨r, S, g, gs, q⟩ => ?_⟩
  exact ⟨r, S, g, gs, he.mono _ _ _ _ (fun w S1 q1 H1 v e1 g1 r1 => q1 _ H1 e1 ((g.ext e1).set i r1) g1) q⟩
/-- o.f = value -/
def wSetF (C : Addr) (ta tv : WE) (f : Str) : WS := fun D r S => tv r S fun w S1 => ta r S1 fun x S2 => match x with
  | .ref a => match S2 a with
    | some (.ins C' fs) => (C' = C ∧ fs.length < 1000) ∧ D.nx r (put S2 a (.ins C (putW f w fs)))
    | _ => False
  | _ => False
theorem ds_fld {f : Str} {value : Expr} {tv : WE} {pos' : Pos} (ha : DE X o ta) (hv : DE X value tv) (c : Cls X.K C) (n : NoAttr X.K C f) (hs : swapsWith value (some (.Attribute o f pos')) pos.line X.env = pure false := by rfl) :
    DS X (.Assign [.Attribute o f pos'] value pos) (wSetF C ta tv f) := by
  refine ⟨fun D D' r S h q => hv.mono _ _ _ _ (fun w S1 q1 => ha.mono _ _ _ _ (fun x S2 q2 => ?_) q1) q, weakS (ps_fld ha.pe hv.pe hs) fun D st H ⟨r, S, g, gs, q⟩ => ⟨r, S, g, gs, hv.mono _ _ _ _ (fun w S1 q1 H1 v e1 g1 r1 => ?_) q⟩⟩
  · split at q2
    · split at q2
      · exact ⟨q2.1, h.nx _ _ q2.2⟩
      · exact q2
    · exact q2
  · refine ⟨r, S1, g.ext e1, g1, ha.mono _ _ _ _ (fun x S2 q2 H2 y e2 g2 r2 => ?_) q1⟩
    split at q2
    · split at q2
      · rename_i a' _ C' fs ea
        simp only [Rel] at r2
        subst r2
        obtain ⟨⟨rfl, hl⟩, q2⟩ := q2
        obtain ⟨dx, gs', h1, rf⟩ := g2.at ea
        have e3 : Ext X.K H2 (upd H2 a' (.ins C' dx (putF f v gs'))) := Ext.chg h1 rfl
        refine ⟨a', C', dx, gs', rfl, h1, c, n, by rw [← rf.length]; exact hl, q2 st _ ((e1.trans e2).trans e3) (((g.ext e1).ext e2).ext e3) ?_⟩
        exact g2.wr h1 rfl ⟨dx, _, upd_same, (rf.put f (r1.ext e2)).ext e3⟩
      · exact q2.elim
    · exact q2.elim

/-! ### for -/
/-- the turns over these items; Z: the list that is walked stays as it is -/
def forW (Z : Sto → Prop) (g : WG) (tb : WS) : List W → WS
  | [], D, r, S => Z S ∧ D.nx r S
  | x :: xs, D, r, S => Z S ∧ g x r S fun r1 S1 => tb { D with nx := fun r2 S2 => forW Z g tb xs D r2 S2, ct := fun r2 S2 => forW Z g tb xs D r2 S2, bk := D.nx } r1 S1
theorem mono_for {Z : Sto → Prop} {g : WG} {tb : WS} (hg : MonoG g) (hb : MonoS tb) : ∀ xs, MonoS (forW Z g tb xs)
  | [], D, D', r, S, h, q => ⟨q.1, h.nx _ _ q.2⟩
  | x :: xs, D, D', r, S, h, q => ⟨q.1, hg _ _ _ _ _ (fun r1 S1 q1 => hb { D with nx := fun r2 S2 => forW Z g tb xs D r2 S2, ct := fun r2 S2 => forW Z g tb xs D r2 S2, bk := D.nx } { D' with nx := fun r2 S2 => forW Z g tb xs D' r2 S2, ct := fun r2 S2 => forW Z g tb xs D' r2 S2, bk := D'.nx } _ _
    ⟨fun _ _ q => mono_for hg hb xs _ _ _ _ h q, h.rt, h.nx, fun _ _ q => mono_for hg hb xs _ _ _ _ h q⟩ q1) q.2⟩
/-- what a for walks: a list, a tuple -/
def wFor (ti : WE) (g : WG) (tb : WS) : WS := fun D r S => ti r S fun x S1 => match seqOf S1 x with
  | some ws => forW (fun S => seqOf S x = some ws) g tb ws D r S1
  | none => False
def wForR1 (ta : WA) (g : WG) (tb : WS) : WS := fun D r S => ta r S fun ws S1 => match ws with
  | [.int j] => (-(2 ^ 62) ≤ j ∧ j < 2 ^ 62) ∧ forW (fun _ => True) g tb ((List.range j.toNat).map fun i => W.int (i : Nat)) D r S1
  | _ => False
def wForR2 (ta : WA) (g : WG) (tb : WS) : WS := fun D r S => ta r S fun ws S1 => match ws with
  | [.int i, .int j] => (-(2 ^ 62) ≤ i ∧ i < 2 ^ 62 ∧ -(2 ^ 62) ≤ j ∧ j < 2 ^ 62) ∧ forW (fun _ => True) g tb ((List.range (j - i).toNat).map fun n => W.int (i + (n : Nat))) D r S1
  | _ => False
theorem low_body {g : WG} {tb : WS} {D : Ends} {N : L2.St → Hp → Prop} {Dw : WD} {H0 H : Hp} {x : W} {v : V} {r : Rho} {st : L2.St} {S : Sto} (hg : MonoG g) (hb : MonoS tb) (e0 : Ext X.K H0 H) (rx : Rel X.K H x v) (gr : GR X.K H r st) (gs : GS X.K S H)
    (hn : ∀ r S, Dw.nx r S → lowP X.K H N r S) (hc : ∀ r S, Dw.ct r S → lowP X.K H N r S) (hk : ∀ r S, Dw.bk r S → lowP X.K H D.nx r S) (hr : ∀ w S, Dw.rt w S → lowQ X.K H D.rt w S)
    (q : g x r S fun r1 S1 => tb Dw r1 S1) : LowG X.K g v st H fun st2 H2 => LowS X.K tb { D with nx := N, ct := N, bk := D.nx } st2 H2 := by
  refine ⟨x, r, S, rx, gr, gs, hg _ _ _ _ _ (fun r1 S1 q1 st1 H1 e1 g1 s1 => ⟨r1, S1, g1, s1, hb _ _ _ _ ⟨fun r2 S2 q2 => ?_, fun w S2 q2 => ?_, fun r2 S2 q2 => ?_, fun r2 S2 q2 => ?_⟩ q1⟩) q⟩
  · exact lowP.ext (hn _ _ q2) e1
  · exact lowQ.ext (hr _ _ q2) e1
  · exact lowP.ext (hk _ _ q2) e1
  · exact lowP.ext (hc _ _ q2) e1
theorem rels_drop_get {K : PySem.W.Frag} {H : Hp} {ws : List W} {i : Nat} {y : W} {ys : List W} (h : ws.drop i = y :: ys) : ws[i]? = some y ∧ ws.drop (i + 1) = ys := by
  refine ⟨?_, ?_⟩
  · have z := congrArg (fun l => l[0]?) h
    simpa using z
  · have z := congrArg (fun l => l.drop 1) h
    simpa [List.drop_drop, Nat.add_comm] using z
/-- the loop over a list or tuple that is read -/
theorem for_seq {g : WG} {tb : WS} {D : Ends} {x : W} {ws : List W} {r : Rho} {st : L2.St} {S : Sto} {H0 H : Hp} {p : Addr} {J : It} (hg : MonoG g) (hb : MonoS tb) (e0 : Ext X.K H0 H) (gr : GR X.K H r st) (gs : GS X.K S H)
    (hJ : ∀ (H : Hp) (S : Sto) (i : Nat), Ext X.K H0 H → GS X.K S H → seqOf S x = some ws → ∃ vs, Rels X.K H ws vs ∧ ((∀ v, vs[i]? = some v → J.go i H) ∧ (vs.length ≤ i → J.stop i H) ∧ ∀ v v' H', vs[i]? = some v → J.yld i H v' H' → H' = H ∧ v' = v))
    (q : forW (fun S => seqOf S x = some ws) g tb ws (lowD X.K H0 D) r S) :
    ∃ W' : Nat → Nat → L2.St → Hp → Prop, (∃ m, W' 0 m st H) ∧ ∀ i m st H, W' i m st H →
      (J.stop i H ∧ D.nx st H) ∨ (J.go i H ∧ ∃ N : L2.St → Hp → Prop, (∀ st' H', N st' H' → ∃ m', m' < m ∧ W' (i + 1) m' st' H') ∧ ∀ v H', J.yld i H v H' → LowG X.K g v st H' fun st2 H2 => LowS X.K tb { D with nx := N, ct := N, bk := D.nx } st2 H2) := by
  refine ⟨fun i m st H => m = ws.length - i ∧ i ≤ ws.length ∧ ∃ r S, Ext X.K H0 H ∧ GR X.K H r st ∧ GS X.K S H ∧ forW (fun S => seqOf S x = some ws) g tb (ws.drop i) (lowD X.K H0 D) r S, ⟨ws.length, by simp, Nat.zero_le _, r, S, e0, gr, gs, by simpa using q⟩, ?_⟩
  rintro i m st H ⟨rfl, hi, r, S, e1, gr, gs, q⟩
  cases ed : ws.drop i with
  | nil =>
    rw [ed] at q
    have hl : ws.length ≤ i := by simpa using ed
    obtain ⟨vs, l, h1, h2, h3⟩ := hJ H S i e1 gs q.1
    exact .inl ⟨h2 (by rw [← l.length]; exact hl), q.2 st H e1 gr gs⟩
  | cons y ys =>
    rw [ed] at q
    obtain ⟨ey, ed'⟩ := rels_drop_get (K := X.K) (H := H) ed
    have hlt : i < ws.length := (List.getElem?_eq_some_iff.mp ey).1
    obtain ⟨vs, l, h1, h2, h3⟩ := hJ H S i e1 gs q.1
    obtain ⟨v, ev, rv⟩ := l.get ey
    refine .inr ⟨h1 v ev, fun st' H' => ∃ r S, Ext X.K H0 H' ∧ GR X.K H' r st' ∧ GS X.K S H' ∧ forW (fun S => seqOf S x = some ws) g tb ys (lowD X.K H0 D) r S, fun st' H' ⟨r', S', e', g', s', q'⟩ => ⟨ws.length - (i + 1), by omega, rfl, hlt, r', S', e', g', s', by rw [ed']; exact q'⟩, fun v' H' hy => ?_⟩
    obtain ⟨rfl, rfl⟩ := h3 v v' H' ev hy
    refine low_body hg hb e1 rv gr gs (fun r2 S2 q2 st2 H2 e2 g2 s2 => ?_) (fun r2 S2 q2 st2 H2 e2 g2 s2 => ?_) (fun r2 S2 q2 => lowP.ext q2 e1) (fun w S2 q2 => lowQ.ext q2 e1) q.2
    · exact ⟨r2, S2, e1.trans e2, g2, s2, q2⟩
    · exact ⟨r2, S2, e1.trans e2, g2, s2, q2⟩
theorem mono_wfor {ti : WE} {g : WG} {tb : WS} (hi : MonoE ti) (hg : MonoG g) (hb : MonoS tb) : MonoS (wFor ti g tb) := fun D D' r S h q => hi _ _ _ _ (fun x S1 q1 => by
  split at q1
  · exact mono_for hg hb _ _ _ _ _ h q1
  · exact q1) q
theorem ext_forW {Z : Sto → Prop} {g : WG} {tb : WS} {D : Ends} {H H1 : Hp} {xs : List W} {r : Rho} {S : Sto} (hg : MonoG g) (hb : MonoS tb) (e : Ext X.K H H1) (q : forW Z g tb xs (lowD X.K H D) r S) : forW Z g tb xs (lowD X.K H1 D) r S := mono_for hg hb _ _ _ _ _ (lowD.ext e) q
/-- what a for walks, a list or a tuple: the value first, then its iterator -/
def iSeq (K : PySem.W.Frag) (tl : TE) : TI := fun st H R => tl st H fun x H1 => ∃ a, x = .ref a ∧ ((∃ xs, SqL K H1 a xs ∧ R (Itl K a) H1) ∨ ∃ xs, SqT K H1 a xs ∧ R (Itt K a) H1)
theorem pi_seq {tg l : Expr} {tl : TE} (hl : PE X l tl) : PI X tg l (iSeq X.K tl) := by
  refine ⟨fun pins s st H R I h => thn (hl.run pins s st H _ I h) ?_⟩
  rintro v s1 ⟨x, H1, I1, r1, a, e, q⟩
  subst e
  cases r1
  have only : ∀ b, b ∈ [s1.heap.objs.size] → b = s1.heap.objs.size := fun b hb => by simpa using hb
  have fp : ∀ b ∈ [s1.heap.objs.size], FpOk X pins H1 b := fun b hb => by
    rw [only b hb]
    exact I1.fpOk (Nat.le_refl _) (I1.hok.fresh (Nat.le_refl _))
  rcases q with ⟨xs, hq, q⟩ | ⟨xs, hq, q⟩
  · obtain ⟨its, rv, pl, hz⟩ := I1.list hq
    refine wpAny_pyIter_list pl.isList ⟨s1.heap.objs.size, [s1.heap.objs.size], _, _, H1, rfl, ?_, turn_list a _, ⟨_, Heap.get?_push_size _ rfl, rfl, rfl⟩, fp, q⟩
    exact I1.kept (t' := s1.toks) fun b o e => Heap.get?_push_of_some _ e
  · obtain ⟨its, rv, pl, hz⟩ := I1.tuple hq
    refine wpAny_pyIter_tuple (show s1.heap.IsTuple a its.toArray from pl) ⟨s1.heap.objs.size, [s1.heap.objs.size], _, _, H1, rfl, ?_, turn_tuple a _, ⟨_, Heap.get?_push_size _ rfl, rfl, rfl⟩, fp, q⟩
    exact I1.kept (t' := s1.toks) fun b o e => Heap.get?_push_of_some _ e
theorem ds_for {iter : Expr} {body : List Stmt} {tg : Expr} {ti : WE} {g : WG} {tb : WS} (hp : PassesOwn (model X.prog X.w) X.A X.env X.xe) (hc : X.calm = true) (hi : DE X iter ti) (hg : DG X tg g) (hb : DSs X body tb)
    (hs : ∀ x, foldedSetIterable iter X.env x = pure x := by intro _; rfl) : DS X (.For tg iter body [] pos) (wFor ti g tb) := by
  refine ⟨mono_wfor hi.mono hg.mono hb.mono, weakS (ps_for hp hc (pi_seq hi.pe) hg.pg hb.ps hs) fun D st H ⟨r, S, gr, gs, q⟩ => ⟨r, S, gr, gs, hi.mono _ _ _ _ (fun x S1 q1 H1 v e1 g1 r1 => ?_) q⟩⟩
  split at q1
  · rename_i ws es
    obtain ⟨p, vs, rfl, hs, l⟩ := seqOf_ok g1 r1 es
    have back : ∀ (H2 : Hp) (S2 : Sto), Ext X.K H1 H2 → GS X.K S2 H2 → seqOf S2 x = some ws → ∃ vs', (SqL X.K H2 p vs' ∨ SqT X.K H2 p vs') ∧ Rels X.K H2 ws vs' := fun H2 S2 e2 g2 hs2 => by
      obtain ⟨p2, vs2, ep, h2, l2⟩ := seqOf_ok g2 (r1.ext e2) hs2
      cases ep
      exact ⟨vs2, h2, l2⟩
    have isL : (∃ xs, rdl S1 x = some xs) ∨ ∃ xs, x = .tup xs := by
      cases x with
      | tup xs => exact .inr ⟨xs, rfl⟩
      | rl xs => exact .inl ⟨xs, rfl⟩
      | ref a =>
        refine .inl ⟨ws, ?_⟩
        simp only [seqOf] at es
        simp only [rdl]
        exact es
      | _ => simp [seqOf] at es
    rcases isL with ⟨xs, hx⟩ | ⟨xs, rfl⟩
    · have same : ∀ S2, seqOf S2 x = some ws → rdl S2 x = some ws := fun S2 h => by
        cases x with
        | ref a => simp only [seqOf] at h; simp only [rdl]; exact h
        | rl xs => simp only [seqOf] at h; simp only [rdl]; exact h
        | _ => simp [rdl] at hx
      obtain ⟨p', vs', ep, hL, l'⟩ := rdl_ok g1 r1 (same S1 es)
      cases ep
      refine ⟨p, rfl, .inl ⟨vs', hL, for_seq (x := x) (p := p) hg.mono hb.mono Ext.refl (gr.ext e1) g1 (fun H2 S2 i e2 g2 hs2 => ?_) (ext_forW hg.mono hb.mono e1 q1)⟩⟩
      obtain ⟨p2, vs2, ep, hL2, l2⟩ := rdl_ok g2 (r1.ext e2) (same S2 hs2)
      cases ep
      refine ⟨vs2, l2, fun v hv => ⟨vs2, v, hL2, hv⟩, fun hle => ⟨vs2, hL2, hle⟩, fun v v' H' hv hy => ⟨hy.1, ?_⟩⟩
      have z := hy.2 vs2 hL2
      rw [hv] at z
      exact (Option.some.inj z).symm
    · simp only [seqOf, Option.some.injEq] at es
      subst es
      simp only [Rel] at r1
      obtain ⟨p', vs', ep, hT, l'⟩ := r1
      cases ep
      refine ⟨p, rfl, .inr ⟨vs', hT, for_seq (x := .tup xs) (p := p) hg.mono hb.mono Ext.refl (gr.ext e1) g1 (fun H2 S2 i e2 g2 hs2 => ?_) (ext_forW hg.mono hb.mono e1 q1)⟩⟩
      have hT2 := e2.tup _ _ hT
      refine ⟨vs', l'.ext e2, fun v hv => ⟨vs', v, hT2, hv⟩, fun hle => ⟨vs', hT2, hle⟩, fun v v' H' hv hy => ⟨hy.1, ?_⟩⟩
      have z := hy.2 vs' hT2
      rw [hv] at z
      exact (Option.some.inj z).symm
  · exact q1.elim
theorem range_get {f : Nat → W} {n i : Nat} : ((List.range n).map f)[i]? = if i < n then some (f i) else none := by
  rw [List.getElem?_map]
  by_cases h : i < n
  · rw [if_pos h, List.getElem?_range h]; rfl
  · rw [if_neg h, List.getElem?_eq_none (by simpa using h)]; rfl
/-- over a range -/
theorem for_rng {g : WG} {tb : WS} {D : Ends} {r : Rho} {st : L2.St} {S : Sto} {H0 H : Hp} {lo : Int} {n : Nat} (hg : MonoG g) (hb : MonoS tb) (e0 : Ext X.K H0 H) (gr : GR X.K H r st) (gs : GS X.K S H)
    (q : forW (fun _ => True) g tb ((List.range n).map fun i => W.int (lo + (i : Nat))) (lowD X.K H0 D) r S) :
    ∃ W' : Nat → Nat → L2.St → Hp → Prop, (∃ m, W' 0 m st H) ∧ ∀ i m st H, W' i m st H →
      ((Itr lo n).stop i H ∧ D.nx st H) ∨ ((Itr lo n).go i H ∧ ∃ N : L2.St → Hp → Prop, (∀ st' H', N st' H' → ∃ m', m' < m ∧ W' (i + 1) m' st' H') ∧ ∀ v H', (Itr lo n).yld i H v H' → LowG X.K g v st H' fun st2 H2 => LowS X.K tb { D with nx := N, ct := N, bk := D.nx } st2 H2) := by
  refine ⟨fun i m st H => m = n - i ∧ i ≤ n ∧ ∃ r S, Ext X.K H0 H ∧ GR X.K H r st ∧ GS X.K S H ∧ forW (fun _ => True) g tb (((List.range n).map fun i => W.int (lo + (i : Nat))).drop i) (lowD X.K H0 D) r S, ⟨n, by simp, Nat.zero_le _, r, S, e0, gr, gs, by simpa using q⟩, ?_⟩
  rintro i m st H ⟨rfl, hi, r, S, e1, gr, gs, q⟩
  cases ed : ((List.range n).map fun i => W.int (lo + (i : Nat))).drop i with
  | nil =>
    rw [ed] at q
    have hl : n ≤ i := by simpa using ed
    exact .inl ⟨hl, q.2 st H e1 gr gs⟩
  | cons y ys =>
    rw [ed] at q
    obtain ⟨ey, ed'⟩ := rels_drop_get (K := X.K) (H := H) ed
    rw [range_get] at ey
    split at ey
    · rename_i hlt
      cases ey
      refine .inr ⟨hlt, fun st' H' => ∃ r S, Ext X.K H0 H' ∧ GR X.K H' r st' ∧ GS X.K S H' ∧ forW (fun _ => True) g tb ys (lowD X.K H0 D) r S, fun st' H' ⟨r', S', e', g', s', q'⟩ => ⟨n - (i + 1), by omega, rfl, hlt, r', S', e', g', s', by rw [ed']; exact q'⟩, fun v' H' hy => ?_⟩
      obtain ⟨rfl, rfl⟩ := hy
      refine low_body hg hb e1 (by simp only [Rel]) gr gs (fun r2 S2 q2 st2 H2 e2 g2 s2 => ?_) (fun r2 S2 q2 st2 H2 e2 g2 s2 => ?_) (fun r2 S2 q2 => lowP.ext q2 e1) (fun w S2 q2 => lowQ.ext q2 e1) q.2
      · exact ⟨r2, S2, e1.trans e2, g2, s2, q2⟩
      · exact ⟨r2, S2, e1.trans e2, g2, s2, q2⟩
    · cases ey
theorem ds_forR1 {a' : Expr} {body : List Stmt} {tg : Expr} {g : WG} {tb : WS} {p pos2 : Pos} (hp : PassesOwn (model X.prog X.w) X.A X.env X.xe) (hc : X.calm = true) (hgl : Gl X "range") (hm : X.mg "range" = none) (ha : DA X [a'] tr) (hg : DG X tg g) (hb : DSs X body tb)
    (hst : starEach [a'] X.env = [(false, eval a' X.env)] := by rfl) (hs : ∀ x, foldedSetIterable (.Call (.Name "range" p) [a'] [] pos) X.env x = pure x := by intro _; rfl) : DS X (.For tg (.Call (.Name "range" p) [a'] [] pos) body [] pos2) (wForR1 tr g tb) := by
  refine ⟨fun D D' r S h q => ha.mono _ _ _ _ (fun ws S1 q1 => ?_) q, weakS (ps_for hp hc (pi_range1 hgl hm ha.pa hst) hg.pg hb.ps hs) fun D st H ⟨r, S, gr, gs, q⟩ => ⟨r, S, gr, gs, ha.mono _ _ _ _ (fun ws S1 q1 H1 vs e1 g1 r1 => ?_) q⟩⟩
  · split at q1
    · exact ⟨q1.1, mono_for hg.mono hb.mono _ _ _ _ _ h q1.2⟩
    · exact q1
  · split at q1
    · obtain ⟨v, vr, rfl, r2, r3⟩ := Rels.cons.mp r1
      obtain rfl := Rels.nil.mp r3
      simp only [Rel] at r2
      subst r2
      refine ⟨_, rfl, q1.1.1, q1.1.2, for_rng hg.mono hb.mono Ext.refl (gr.ext e1) g1 (ext_forW hg.mono hb.mono e1 ?_)⟩
      have z := q1.2
      simpa only [Int.zero_add] using z
    · exact q1.elim
theorem ds_forR2 {a' b' : Expr} {body : List Stmt} {tg : Expr} {g : WG} {tb : WS} {p pos2 : Pos} (hp : PassesOwn (model X.prog X.w) X.A X.env X.xe) (hc : X.calm = true) (hgl : Gl X "range") (hm : X.mg "range" = none) (ha : DA X [a', b'] tr) (hg : DG X tg g) (hb : DSs X body tb)
    (hst : starEach [a', b'] X.env = [(false, eval a' X.env), (false, eval b' X.env)] := by rfl) (hst2 : starEach [b'] X.env = [(false, eval b' X.env)] := by rfl) (hs : ∀ x, foldedSetIterable (.Call (.Name "range" p) [a', b'] [] pos) X.env x = pure x := by intro _; rfl) : DS X (.For tg (.Call (.Name "range" p) [a', b'] [] pos) body [] pos2) (wForR2 tr g tb) := by
  refine ⟨fun D D' r S h q => ha.mono _ _ _ _ (fun ws S1 q1 => ?_) q, weakS (ps_for hp hc (pi_range2 hgl hm ha.pa hst hst2) hg.pg hb.ps hs) fun D st H ⟨r, S, gr, gs, q⟩ => ⟨r, S, gr, gs, ha.mono _ _ _ _ (fun ws S1 q1 H1 vs e1 g1 r1 => ?_) q⟩⟩
  · split at q1
    · exact ⟨q1.1, mono_for hg.mono hb.mono _ _ _ _ _ h q1.2⟩
    · exact q1
  · split at q1
    · obtain ⟨v, vr, rfl, r2, r3⟩ := Rels.cons.mp r1
      obtain ⟨v', vr', rfl, r4, r5⟩ := Rels.cons.mp r3
      obtain rfl := Rels.nil.mp r5
      simp only [Rel] at r2 r4
      subst r2 r4
      exact ⟨_, _, rfl, q1.1, for_rng hg.mono hb.mono Ext.refl (gr.ext e1) g1 (ext_forW hg.mono hb.mono e1 q1.2)⟩
    · exact q1.elim
end
end WL

namespace WL
open PySem PySem.Spec PyProof.Rows L2
section
variable {X : Cx} {e a b c o : Expr} {es : List Expr} {pos : Pos} {ta tb to : WE} {tr : WA}

/-! ### list comprehensions -/
def lcW (Z : Sto → Prop) (i : Nat) (tt : WT) (te : WE) (p : Addr) : List W → Rho → Sto → (Sto → Prop) → Prop
  | [], r, S, Q => Z S ∧ Q S
  | x :: xs, r, S, Q => Z S ∧ tt (r.set i (some x)) S fun b S1 => if b = true then te (r.set i (some x)) S1 fun w S2 => ∃ acc, S2 p = some (.lst acc) ∧ acc.length < sizeLine ∧ lcW Z i tt te p xs r (put S2 p (.lst (acc ++ [w]))) Q
      else lcW Z i tt te p xs r S1 Q
theorem mono_lcW {Z : Sto → Prop} {i : Nat} {tt : WT} {te : WE} {p : Addr} (ht : MonoT tt) (he : MonoE te) {Q Q' : Sto → Prop} (h : ∀ S, Q S → Q' S) : ∀ xs r S, lcW Z i tt te p xs r S Q → lcW Z i tt te p xs r S Q'
  | [], r, S, q => ⟨q.1, h _ q.2⟩
  | x :: xs, r, S, q => ⟨q.1, ht _ _ _ _ (fun b S1 q1 => by
      cases b with
      | true => exact he _ _ _ _ (fun w S2 ⟨acc, h1, h2, q2⟩ => ⟨acc, h1, h2, mono_lcW ht he h xs r _ q2⟩) q1
      | false => exact mono_lcW ht he h xs r _ q1) q.2⟩
def wYes : WT := fun _ S Q => Q true S
def wLc (ti : WE) (i : Nat) (tt : WT) (te : WE) : WE := fun r S Q => ti r S fun x S1 => match seqOf S1 x with
  | some ws => ∀ p, S1 p = none → lcW (fun S => seqOf S x = some ws) i tt te p ws r (put S1 p (.lst [])) fun S2 => Q (.ref p) S2
  | none => False
def wLcR (ta : WA) (i : Nat) (tt : WT) (te : WE) : WE := fun r S Q => ta r S fun ws S1 => match ws with
  | [.int j] => (-(2 ^ 62) ≤ j ∧ j < 2 ^ 62) ∧ ∀ p, S1 p = none → lcW (fun _ => True) i tt te p ((List.range j.toNat).map fun i => W.int (i : Nat)) r (put S1 p (.lst [])) fun S2 => Q (.ref p) S2
  | _ => False
structure DTs (X : Cx) (ifs : List Expr) (t : WT) : Prop where
  mono : MonoT t
  pt : PTs X ifs (LowT X.K t)
theorem dts_nil : DTs X [] wYes := ⟨fun r S Q Q' h q => h _ _ q, ⟨fun pins s st H Q I ⟨r, S, g, gs, q⟩ => pts_nil.run pins s st H Q I (q H Ext.refl gs)⟩⟩
theorem dts_one {t : WT} (h : DT X c t) : DTs X [c] t := ⟨h.mono, pts_one h.pt⟩
theorem wipe_set (st : L2.St) (i : Nat) (v : V) : wipe ((wipe st [i]).set i (some v)) [i] = wipe st [i] := by
  show (((st.set i none).set i (some v)).set i none) = st.set i none
  rw [List.set_set, List.set_set]
theorem gr_wipe {K : PySem.W.Frag} {H : Hp} {r : Rho} {st : L2.St} {i : Nat} {w : W} {v : V} (g : GR K H r st) (x : Rel K H w v) : GR K H (r.set i (some w)) ((wipe st [i]).set i (some v)) := by
  have z := (g.wipe i).set i x
  rw [List.set_set] at z
  exact z
/-- one turn -/
theorem lc_turn {Z : Sto → Prop} {i : Nat} {tt : WT} {te : WE} {D : Addr} {H H0 : Hp} {st : L2.St} {r : Rho} {S : Sto} {y : W} {v : V} {ys : List W} {Q : Sto → Prop} {Nx : Hp → Prop} (ht : MonoT tt) (he : MonoE te) (e1 : Ext X.K H0 H) (g : GR X.K H0 r st) (gs : GS X.K S H) (rv : Rel X.K H y v)
    (hn : ∀ (H' : Hp) (S' : Sto), Ext X.K H0 H' → GS X.K S' H' → lcW Z i tt te D ys r S' Q → Nx H')
    (q : tt (r.set i (some y)) S fun b S1 => if b = true then te (r.set i (some y)) S1 fun w S2 => ∃ acc, S2 D = some (.lst acc) ∧ acc.length < sizeLine ∧ lcW Z i tt te D ys r (put S2 D (.lst (acc ++ [w]))) Q else lcW Z i tt te D ys r S1 Q) :
    gName i v (wipe st [i]) H fun s2 H2 => wipe s2 [i] = wipe st [i] ∧ LowT X.K tt s2 H2 fun b H3 =>
      if b = true then LowE X.K te s2 H3 fun y H4 => ∃ acc, H4 D = some (.lst acc) ∧ acc.length < sizeLine ∧ Nx (upd H4 D (.lst (acc ++ [y]))) else Nx H3 := by
  refine ⟨wipe_set st i v, r.set i (some y), S, gr_wipe (g.ext e1) rv, gs, ht _ _ _ _ (fun b S1 q1 H1 e2 g1 => ?_) q⟩
  cases b with
  | true =>
    refine ⟨r.set i (some y), S1, gr_wipe (g.ext (e1.trans e2)) (rv.ext e2), g1, he _ _ _ _ (fun w S2 ⟨acc, h1, h2, q2⟩ H2 u e3 g2 r2 => ?_) q1⟩
    obtain ⟨us, h3, l⟩ := g2.at h1
    have e4 : Ext X.K H2 (upd H2 D (.lst (us ++ [u]))) := Ext.chg h3 rfl
    exact ⟨us, h3, by rw [← l.length]; exact h2, hn _ _ (((e1.trans e2).trans e3).trans e4) (wr_lst g2 h3 (l.append (.one r2))) q2⟩
  | false => exact hn _ _ (e1.trans e2) g1 q1
theorem lc_seq {i : Nat} {tt : WT} {te : WE} {x : W} {ws : List W} {r : Rho} {st : L2.St} {S : Sto} {H0 : Hp} {D : Addr} {J : It} {Qd : Hp → Prop} {Q : Sto → Prop} (ht : MonoT tt) (he : MonoE te) (g : GR X.K H0 r st) (gs : GS X.K S H0) (hD : H0 D = none)
    (hJ : ∀ (H : Hp) (S : Sto) (i : Nat), Ext X.K H0 H → GS X.K S H → seqOf S x = some ws → ∃ vs, Rels X.K H ws vs ∧ ((∀ v, vs[i]? = some v → J.go i H) ∧ (vs.length ≤ i → J.stop i H) ∧ ∀ v v' H', vs[i]? = some v → J.yld i H v' H' → H' = H ∧ v' = v))
    (hq : ∀ (H : Hp) (S : Sto), Ext X.K H0 H → GS X.K S H → Q S → Qd H)
    (q : lcW (fun S => seqOf S x = some ws) i tt te D ws r (put S D (.lst [])) Q) :
    ∃ W' : Nat → Nat → Hp → Prop, (∃ m, W' 0 m (upd H0 D (.lst []))) ∧ ∀ j m H, W' j m H →
      (J.stop j H ∧ Qd H) ∨ (J.go j H ∧ ∃ Nx : Hp → Prop, (∀ H', Nx H' → ∃ m', m' < m ∧ W' (j + 1) m' H') ∧ ∀ v H', J.yld j H v H' → gName i v (wipe st [i]) H' fun s2 H2 => wipe s2 [i] = wipe st [i] ∧ LowT X.K tt s2 H2 fun b H3 =>
        if b = true then LowE X.K te s2 H3 fun y H4 => ∃ acc, H4 D = some (.lst acc) ∧ acc.length < sizeLine ∧ Nx (upd H4 D (.lst (acc ++ [y]))) else Nx H3) := by
  refine ⟨fun j m H => m = ws.length - j ∧ j ≤ ws.length ∧ ∃ S, Ext X.K H0 H ∧ GS X.K S H ∧ lcW (fun S => seqOf S x = some ws) i tt te D (ws.drop j) r S Q, ⟨ws.length, by simp, Nat.zero_le _, _, Ext.new hD, new_lst gs hD (Rels.nil.mpr rfl), by simpa using q⟩, ?_⟩
  rintro j m H ⟨rfl, hj, S, e1, gs, q⟩
  cases ed : ws.drop j with
  | nil =>
    rw [ed] at q
    have hl : ws.length ≤ j := by simpa using ed
    obtain ⟨vs, l, h1, h2, h3⟩ := hJ H S j e1 gs q.1
    exact .inl ⟨h2 (by rw [← l.length]; exact hl), hq H S e1 gs q.2⟩
  | cons y ys =>
    rw [ed] at q
    obtain ⟨ey, ed'⟩ := rels_drop_get (K := X.K) (H := H) ed
    have hlt : j < ws.length := (List.getElem?_eq_some_iff.mp ey).1
    obtain ⟨vs, l, h1, h2, h3⟩ := hJ H S j e1 gs q.1
    obtain ⟨v, ev, rv⟩ := l.get ey
    refine .inr ⟨h1 v ev, fun H' => ∃ S, Ext X.K H0 H' ∧ GS X.K S H' ∧ lcW (fun S => seqOf S x = some ws) i tt te D ys r S Q, fun H' ⟨S', e', s', q'⟩ => ⟨ws.length - (j + 1), by omega, rfl, hlt, S', e', s', by rw [ed']; exact q'⟩, fun v' H' hy => ?_⟩
    obtain ⟨rfl, rfl⟩ := h3 v v' H' ev hy
    exact lc_turn ht he e1 g gs rv (fun H' S' e' s' q' => ⟨S', e', s', q'⟩) q.2
theorem lc_rng {i : Nat} {tt : WT} {te : WE} {n : Nat} {r : Rho} {st : L2.St} {S : Sto} {H0 : Hp} {D : Addr} {Qd : Hp → Prop} {Q : Sto → Prop} (ht : MonoT tt) (he : MonoE te) (g : GR X.K H0 r st) (gs : GS X.K S H0) (hD : H0 D = none)
    (hq : ∀ (H : Hp) (S : Sto), Ext X.K H0 H → GS X.K S H → Q S → Qd H)
    (q : lcW (fun _ => True) i tt te D ((List.range n).map fun i => W.int (i : Nat)) r (put S D (.lst [])) Q) :
    ∃ W' : Nat → Nat → Hp → Prop, (∃ m, W' 0 m (upd H0 D (.lst []))) ∧ ∀ j m H, W' j m H →
      ((Itr 0 n).stop j H ∧ Qd H) ∨ ((Itr 0 n).go j H ∧ ∃ Nx : Hp → Prop, (∀ H', Nx H' → ∃ m', m' < m ∧ W' (j + 1) m' H') ∧ ∀ v H', (Itr 0 n).yld j H v H' → gName i v (wipe st [i]) H' fun s2 H2 => wipe s2 [i] = wipe st [i] ∧ LowT X.K tt s2 H2 fun b H3 =>
        if b = true then LowE X.K te s2 H3 fun y H4 => ∃ acc, H4 D = some (.lst acc) ∧ acc.length < sizeLine ∧ Nx (upd H4 D (.lst (acc ++ [y]))) else Nx H3) := by
  refine ⟨fun j m H => m = n - j ∧ j ≤ n ∧ ∃ S, Ext X.K H0 H ∧ GS X.K S H ∧ lcW (fun _ => True) i tt te D (((List.range n).map fun i => W.int (i : Nat)).drop j) r S Q, ⟨n, by simp, Nat.zero_le _, _, Ext.new hD, new_lst gs hD (Rels.nil.mpr rfl), by simpa using q⟩, ?_⟩
  rintro j m H ⟨rfl, hj, S, e1, gs, q⟩
  cases ed : ((List.range n).map fun i => W.int (i : Nat)).drop j with
  | nil =>
    rw [ed] at q
    have hl : n ≤ j := by simpa using ed
    exact .inl ⟨hl, hq H S e1 gs q.2⟩
  | cons y ys =>
    rw [ed] at q
    obtain ⟨ey, ed'⟩ := rels_drop_get (K := X.K) (H := H) ed
    rw [range_get] at ey
    split at ey
    · rename_i hlt
      cases ey
      refine .inr ⟨hlt, fun H' => ∃ S, Ext X.K H0 H' ∧ GS X.K S H' ∧ lcW (fun _ => True) i tt te D ys r S Q, fun H' ⟨S', e', s', q'⟩ => ⟨n - (j + 1), by omega, rfl, hlt, S', e', s', by rw [ed']; exact q'⟩, fun v' H' hy => ?_⟩
      obtain ⟨rfl, rfl⟩ := hy
      exact lc_turn ht he e1 g gs (by simp only [Rel, Int.zero_add]) (fun H' S' e' s' q' => ⟨S', e', s', q'⟩) q.2
    · cases ey
theorem mono_lc {ti : WE} {i : Nat} {tt : WT} {te : WE} (hi : MonoE ti) (ht : MonoT tt) (he : MonoE te) : MonoE (wLc ti i tt te) := fun r S Q Q' h q => hi _ _ _ _ (fun x S1 q1 => by
  split at q1
  · exact fun p hp => mono_lcW ht he (fun S q => h _ _ q) _ _ _ (q1 p hp)
  · exact q1) q
theorem mono_lcR {i : Nat} {tt : WT} {te : WE} (hi : MonoA tr) (ht : MonoT tt) (he : MonoE te) : MonoE (wLcR tr i tt te) := fun r S Q Q' h q => hi _ _ _ _ (fun x S1 q1 => by
  split at q1
  · exact ⟨q1.1, fun p hp => mono_lcW ht he (fun S q => h _ _ q) _ _ _ (q1.2 p hp)⟩
  · exact q1) q
theorem low_lc {ti : WE} {i : Nat} {tt : WT} {te : WE} {st : L2.St} {H : Hp} {Q : VK} (hi : MonoE ti) (ht : MonoT tt) (he : MonoE te) (h : LowE X.K (wLc ti i tt te) st H Q) : tLc (iSeq X.K (LowE X.K ti)) (gName i) (LowT X.K tt) (LowE X.K te) [i] st H Q := by
  obtain ⟨r, S, gr, gs, q⟩ := h
  refine ⟨r, S, gr, gs, hi _ _ _ _ (fun x S1 q1 H1 v e1 g1 r1 => ?_) q⟩
  split at q1
  · rename_i ws es
    obtain ⟨p, vs, rfl, hs, l⟩ := seqOf_ok g1 r1 es
    have fin : ∀ D (H : Hp) (S : Sto), Ext X.K H1 H → GS X.K S H → lowQ X.K _ Q (.ref D) S → Q (.ref D) H := fun D H2 S2 e2 g2 q2 => q2 H2 _ (e1.trans e2) g2 (by simp only [Rel])
    have isL : (∃ xs, rdl S1 x = some xs) ∨ ∃ xs, x = .tup xs := by
      cases x with
      | tup xs => exact .inr ⟨xs, rfl⟩
      | rl xs => exact .inl ⟨xs, rfl⟩
      | ref a =>
        refine .inl ⟨ws, ?_⟩
        simp only [seqOf] at es
        simp only [rdl]
        exact es
      | _ => simp [seqOf] at es
    rcases isL with ⟨xs, hx⟩ | ⟨xs, rfl⟩
    · have same : ∀ S2, seqOf S2 x = some ws → rdl S2 x = some ws := fun S2 h => by
        cases x with
        | ref a => simp only [seqOf] at h; simp only [rdl]; exact h
        | rl xs => simp only [seqOf] at h; simp only [rdl]; exact h
        | _ => simp [rdl] at hx
      obtain ⟨p', vs', ep, hL, l'⟩ := rdl_ok g1 r1 (same S1 es)
      cases ep
      refine ⟨p, rfl, .inl ⟨vs', hL, fun D hD => lc_seq (x := x) ht he (gr.ext e1) g1 hD (fun H2 S2 i e2 g2 hs2 => ?_) (fin D) (q1 D (g1.free hD))⟩⟩
      obtain ⟨p2, vs2, ep, hL2, l2⟩ := rdl_ok g2 (r1.ext e2) (same S2 hs2)
      cases ep
      refine ⟨vs2, l2, fun v hv => ⟨vs2, v, hL2, hv⟩, fun hle => ⟨vs2, hL2, hle⟩, fun v v' H' hv hy => ⟨hy.1, ?_⟩⟩
      have z := hy.2 vs2 hL2
      rw [hv] at z
      exact (Option.some.inj z).symm
    · simp only [seqOf, Option.some.injEq] at es
      subst es
      simp only [Rel] at r1
      obtain ⟨p', vs', ep, hT, l'⟩ := r1
      cases ep
      refine ⟨p, rfl, .inr ⟨vs', hT, fun D hD => lc_seq (x := .tup xs) ht he (gr.ext e1) g1 hD (fun H2 S2 i e2 g2 hs2 => ?_) (fin D) (q1 D (g1.free hD))⟩⟩
      have hT2 := e2.tup _ _ hT
      refine ⟨vs', l'.ext e2, fun v hv => ⟨vs', v, hT2, hv⟩, fun hle => ⟨vs', hT2, hle⟩, fun v v' H' hv hy => ⟨hy.1, ?_⟩⟩
      have z := hy.2 vs' hT2
      rw [hv] at z
      exact (Option.some.inj z).symm
  · exact q1.elim
theorem low_lcR {i : Nat} {tt : WT} {te : WE} {st : L2.St} {H : Hp} {Q : VK} (hi : MonoA tr) (ht : MonoT tt) (he : MonoE te) (h : LowE X.K (wLcR tr i tt te) st H Q) : tLc (iRng1 (LowA X.K tr)) (gName i) (LowT X.K tt) (LowE X.K te) [i] st H Q := by
  obtain ⟨r, S, gr, gs, q⟩ := h
  refine ⟨r, S, gr, gs, hi _ _ _ _ (fun x S1 q1 H1 v e1 g1 r1 => ?_) q⟩
  split at q1
  · obtain ⟨v, vr, rfl, r2, r3⟩ := Rels.cons.mp r1
    obtain rfl := Rels.nil.mp r3
    simp only [Rel] at r2
    subst r2
    refine ⟨_, rfl, q1.1.1, q1.1.2, fun D hD => lc_rng ht he (gr.ext e1) g1 hD (fun H2 S2 e2 g2 q2 => q2 H2 _ (e1.trans e2) g2 (by simp only [Rel])) (q1.2 D (g1.free hD))⟩
  · exact q1.elim
/-- in the comprehension's own frame, whichever it is -/
abbrev Blk (X : Cx) (scope : Scope) (P : Cx → Prop) : Prop := ∀ (s : Shared) (H : Hp) (C : Addr) (cl : List (Str × Addr)) (fp : List Addr), P (X.blk s H scope (compEnvC scope cl C X.env) fp)
theorem de_lc {elt tg iter : Expr} {ifs : List Expr} {scope : Scope} {i : Nat} {x : Str} {ti te : WE} {tt : WT} (hc : X.calm = true) (hN : X.N.Nodup) (hi : DE X iter ti) (ok : BlkOk X.N X.env.scope scope [(x, i)])
    (hg : Blk X scope fun Y => PG Y tg (gName i)) (ht : Blk X scope fun Y => DTs Y ifs tt) (he : Blk X scope fun Y => DE Y elt te) (hs : ∀ x, foldedSetIterable iter X.env x = pure x := by intro _; rfl) :
    DE X (.ListComp elt [⟨tg, iter, ifs, 0⟩] scope pos) (wLc ti i tt te) := by
  have m1 : MonoT tt := (ht ({} : Shared) (fun _ => none) 0 [] []).mono
  have m2 : MonoE te := (he ({} : Shared) (fun _ => none) 0 [] []).mono
  exact ⟨mono_lc hi.mono m1 m2, weakE (pe_lc (own := [(x, i)]) hc hN (pi_seq hi.pe) ok hg (fun s H C cl fp => (ht s H C cl fp).pt) (fun s H C cl fp => (he s H C cl fp).pe) hs) fun _ _ _ q => low_lc hi.mono m1 m2 q⟩
theorem de_lcR {a' elt tg : Expr} {ifs : List Expr} {scope : Scope} {i : Nat} {x : Str} {te : WE} {tt : WT} {p p2 : Pos} (hc : X.calm = true) (hN : X.N.Nodup) (hgl : Gl X "range") (hm : X.mg "range" = none) (ha : DA X [a'] tr) (ok : BlkOk X.N X.env.scope scope [(x, i)])
    (hg : Blk X scope fun Y => PG Y tg (gName i)) (ht : Blk X scope fun Y => DTs Y ifs tt) (he : Blk X scope fun Y => DE Y elt te)
    (hst : starEach [a'] X.env = [(false, eval a' X.env)] := by rfl) (hs : ∀ x, foldedSetIterable (.Call (.Name "range" p) [a'] [] p2) X.env x = pure x := by intro _; rfl) :
    DE X (.ListComp elt [⟨tg, .Call (.Name "range" p) [a'] [] p2, ifs, 0⟩] scope pos) (wLcR tr i tt te) := by
  have m1 : MonoT tt := (ht ({} : Shared) (fun _ => none) 0 [] []).mono
  have m2 : MonoE te := (he ({} : Shared) (fun _ => none) 0 [] []).mono
  exact ⟨mono_lcR ha.mono m1 m2, weakE (pe_lc (own := [(x, i)]) hc hN (pi_range1 hgl hm ha.pa hst) ok hg (fun s H C cl fp => (ht s H C cl fp).pt) (fun s H C cl fp => (he s H C cl fp).pe) hs) fun _ _ _ q => low_lcR ha.mono m1 m2 q⟩
/-- name = [..] -/
theorem ds_setLc {elt tg iter : Expr} {ifs : List Expr} {scope : Scope} {i j : Nat} {x y : Str} {ti te : WE} {tt : WT} {py spos : Pos} (hc : X.calm = true) (hN : X.N.Nodup) (hy : X.N[j]? = some y) (hyl : X.env.scope.names.lookup y = some .local)
    (hsw : swapsWith (.ListComp elt [⟨tg, iter, ifs, 0⟩] scope pos) (some (.Name y py)) spos.line X.env = pure true) (hi : DE X iter ti) (ok : BlkOk X.N X.env.scope scope [(x, i)])
    (hg : Blk X scope fun Y => PG Y tg (gName i)) (ht : Blk X scope fun Y => DTs Y ifs tt) (he : Blk X scope fun Y => DE Y elt te) (hs : ∀ x, foldedSetIterable iter X.env x = pure x := by intro _; rfl) :
    DS X (.Assign [.Name y py] (.ListComp elt [⟨tg, iter, ifs, 0⟩] scope pos) spos) (wAsg (wLc ti i tt te) (gNameW j)) := by
  have m1 : MonoT tt := (ht ({} : Shared) (fun _ => none) 0 [] []).mono
  have m2 : MonoE te := (he ({} : Shared) (fun _ => none) 0 [] []).mono
  have m : MonoE (wLc ti i tt te) := mono_lc hi.mono m1 m2
  have hgm : MonoG (gNameW j) := fun w r S Q Q' h q => h _ _ q
  refine ⟨fun D D' r S h q => m _ _ _ _ (fun w S1 q1 => hgm _ _ _ _ _ h.nx q1) q, weakS (ps_setLc (tt := LowT X.K tt) (te := LowE X.K te) (own := [(x, i)]) hc hN hy hyl hsw (pi_seq hi.pe) ok hg (fun s H C cl fp => (ht s H C cl fp).pt) (fun s H C cl fp => (he s H C cl fp).pe) hs) fun D st H ⟨r, S, g, gs, q⟩ => ?_⟩
  refine low_lc hi.mono m1 m2 ⟨r, S, g, gs, m _ _ _ _ (fun w S1 q1 H1 v e1 g1 r1 => ?_) q⟩
  exact q1 _ H1 e1 ((g.ext e1).set j r1) g1
theorem ds_setLcR {a' elt tg : Expr} {ifs : List Expr} {scope : Scope} {i j : Nat} {x y : Str} {te : WE} {tt : WT} {py spos p p2 : Pos} (hc : X.calm = true) (hN : X.N.Nodup) (hy : X.N[j]? = some y) (hyl : X.env.scope.names.lookup y = some .local)
    (hsw : swapsWith (.ListComp elt [⟨tg, .Call (.Name "range" p) [a'] [] p2, ifs, 0⟩] scope pos) (some (.Name y py)) spos.line X.env = pure true) (hgl : Gl X "range") (hm : X.mg "range" = none) (ha : DA X [a'] tr) (ok : BlkOk X.N X.env.scope scope [(x, i)])
    (hg : Blk X scope fun Y => PG Y tg (gName i)) (ht : Blk X scope fun Y => DTs Y ifs tt) (he : Blk X scope fun Y => DE Y elt te) (hst : starEach [a'] X.env = [(false, eval a' X.env)] := by rfl) (hs : ∀ x, foldedSetIterable (.Call (.Name "range" p) [a'] [] p2) X.env x = pure x := by intro _; rfl) :
    DS X (.Assign [.Name y py] (.ListComp elt [⟨tg, .Call (.Name "range" p) [a'] [] p2, ifs, 0⟩] scope pos) spos) (wAsg (wLcR tr i tt te) (gNameW j)) := by
  have m1 : MonoT tt := (ht ({} : Shared) (fun _ => none) 0 [] []).mono
  have m2 : MonoE te := (he ({} : Shared) (fun _ => none) 0 [] []).mono
  have m : MonoE (wLcR tr i tt te) := mono_lcR ha.mono m1 m2
  have hgm : MonoG (gNameW j) := fun w r S Q Q' h q => h _ _ q
  refine ⟨fun D D' r S h q => m _ _ _ _ (fun w S1 q1 => hgm _ _ _ _ _ h.nx q1) q, weakS (ps_setLc (tt := LowT X.K tt) (te := LowE X.K te) (own := [(x, i)]) hc hN hy hyl hsw (pi_range1 hgl hm ha.pa hst) ok hg (fun s H C cl fp => (ht s H C cl fp).pt) (fun s H C cl fp => (he s H C cl fp).pe) hs) fun D st H ⟨r, S, g, gs, q⟩ => ?_⟩
  refine low_lcR ha.mono m1 m2 ⟨r, S, g, gs, m _ _ _ _ (fun w S1 q1 H1 v e1 g1 r1 => ?_) q⟩
  exact q1 _ H1 e1 ((g.ext e1).set j r1) g1

/-! ### dicts -/
def keyW : W → Option Key
  | .int i => some (.inl i)
  | .str x => some (.inr x)
  | _ => none
theorem keyW_ok {K : PySem.W.Frag} {H : Hp} {w : W} {v : V} {k : Key} (r : Rel K H w v) (h : keyW w = some k) : v = kV k := by
  cases w <;> first
    | (simp only [Rel] at r; subst r; simp only [keyW, Option.some.injEq] at h; subst h; rfl)
    | (simp [keyW] at h)
theorem RelF.val {K : PySem.W.Frag} {H : Hp} {κ : Type} [DecidableEq κ] {ws : List (κ × W)} {vs : List (κ × V)} (h : RelF K H ws vs) (k : κ) : (∀ w, valW ws k = some w → ∃ v, valV vs k = some v ∧ Rel K H w v) ∧ (valW ws k = none → valV vs k = none) := by
  induction h with
  | nil => exact ⟨fun w e => (nomatch e), fun _ => rfl⟩
  | @cons k' w v ws vs r _ ih =>
    unfold valW valV
    simp only [List.find?_cons]
    by_cases q : k' = k
    · rw [decide_eq_true q]
      exact ⟨fun w' e => ⟨v, rfl, by cases e; exact r⟩, fun e => (nomatch e)⟩
    · rw [decide_eq_false q]
      exact ih
theorem RelF.any {K : PySem.W.Frag} {H : Hp} {κ : Type} [DecidableEq κ] {ws : List (κ × W)} {vs : List (κ × V)} (h : RelF K H ws vs) (k : κ) : (ws.any fun kv => decide (kv.1 = k)) = vs.any fun kv => decide (kv.1 = k) := by
  induction h with
  | nil => rfl
  | cons _ _ ih => rw [List.any_cons, List.any_cons, ih]
theorem RelF.mapk {K : PySem.W.Frag} {H : Hp} {κ : Type} [DecidableEq κ] {ws : List (κ × W)} {vs : List (κ × V)} (h : RelF K H ws vs) (k : κ) {w : W} {v : V} (r : Rel K H w v) : RelF K H (ws.map fun kv => if kv.1 = k then (kv.1, w) else kv) (vs.map fun kv => if kv.1 = k then (kv.1, v) else kv) := by
  induction h with
  | nil => exact .nil
  | @cons k' w' v' ws vs r' _ ih =>
    rw [List.map_cons, List.map_cons]
    by_cases q : k' = k
    · rw [if_pos q, if_pos q]; exact .cons r ih
    · rw [if_neg q, if_neg q]; exact .cons r' ih
theorem RelF.app {K : PySem.W.Frag} {H : Hp} {κ : Type} {ws ws' : List (κ × W)} {vs vs' : List (κ × V)} (h : RelF K H ws vs) (h' : RelF K H ws' vs') : RelF K H (ws ++ ws') (vs ++ vs') := by
  induction h with
  | nil => exact h'
  | cons r _ ih => exact .cons r ih
theorem RelF.putK {K : PySem.W.Frag} {H : Hp} {κ : Type} [DecidableEq κ] {ws : List (κ × W)} {vs : List (κ × V)} (h : RelF K H ws vs) (k : κ) {w : W} {v : V} (r : Rel K H w v) : RelF K H (putKW ws k w) (L2.putK vs k v) := by
  unfold putKW L2.putK
  rw [h.any k]
  split
  · exact h.mapk k r
  · exact h.app (.cons r .nil)
def rDGet : WR2 := fun x y S Q => match x, keyW y with
  | .ref a, some k => match S a with
    | some (.dk kvs) => match valW kvs k with
      | some w => Q w S
      | none => False
    | _ => False
  | _, _ => False
theorem mono_dget : Mono2 rDGet := fun x y S Q Q' h q => by
  unfold rDGet at q ⊢
  split at q
  · split at q
    · split at q
      · exact h _ _ q
      · exact q
    · exact q
  · exact q
theorem de_dget (hu : X.A.units + 1 < cLine) (ha : DE X a ta) (hb : DE X b tb) (hs : NoSl b := by intro _ _; rfl) : DE X (.Subscript a b pos) (wOp rDGet ta tb) := by
  refine ⟨mono_op mono_dget ha.mono hb.mono, weakE (pe_dget hu ha.pe hb.pe hs) fun st H Q ⟨rh, S, g, gs, q⟩ => ⟨rh, S, g, gs, ha.mono _ _ _ _ (fun wx S1 q1 H1 x e1 g1 r1 => ?_) q⟩⟩
  refine ⟨rh, S1, g.ext e1, g1, hb.mono _ _ _ _ (fun wy S2 q2 H2 y e2 g2 r2 => ?_) q1⟩
  unfold rDGet at q2
  split at q2
  · rename_i ad k ek
    simp only [Rel] at r1
    subst r1
    split at q2
    · rename_i kvs ea
      split at q2
      · rename_i w ew
        obtain ⟨vs, h1, l⟩ := g2.at ea
        obtain ⟨v, ev, rv⟩ := (l.val k).1 w ew
        refine ⟨ad, v, rfl, ?_, q2 H2 v (e1.trans e2) g2 rv⟩
        rw [keyW_ok r2 ek, ← ev]
        exact DGet.k h1
      · exact q2.elim
    · exact q2.elim
  · exact q2.elim
def wDPut (td ty tv : WE) : WS := fun D r S => tv r S fun w S1 => td r S1 fun x S2 => ty r S2 fun y S3 => match x, keyW y with
  | .ref a, some k => match S3 a with
    | some (.dk kvs) => kvs.length < sizeLine ∧ D.nx r (put S3 a (.dk (putKW kvs k w)))
    | _ => False
  | _, _ => False
theorem ds_dput {value : Expr} {tv : WE} {pos' : Pos} (hu : X.A.units + 1 < cLine) (ha : DE X a ta) (hb : DE X b tb) (hv : DE X value tv) (hs : swapsWith value (some (.Subscript a b pos')) pos.line X.env = pure false := by rfl) :
    DS X (.Assign [.Subscript a b pos'] value pos) (wDPut ta tb tv) := by
  refine ⟨fun D D' r S h q => hv.mono _ _ _ _ (fun w S1 q1 => ha.mono _ _ _ _ (fun x S2 q2 => hb.mono _ _ _ _ (fun y S3 q3 => ?_) q2) q1) q, weakS (ps_dput hu ha.pe hb.pe hv.pe hs) fun D st H ⟨r, S, g, gs, q⟩ => ⟨r, S, g, gs, hv.mono _ _ _ _ (fun w S1 q1 H1 v e1 g1 r1 => ?_) q⟩⟩
  · split at q3
    · split at q3
      · exact ⟨q3.1, h.nx _ _ q3.2⟩
      · exact q3
    · exact q3
  · refine ⟨r, S1, g.ext e1, g1, ha.mono _ _ _ _ (fun x S2 q2 H2 xv e2 g2 r2 => ?_) q1⟩
    refine ⟨r, S2, (g.ext e1).ext e2, g2, hb.mono _ _ _ _ (fun y S3 q3 H3 yv e3 g3 r3 => ?_) q2⟩
    split at q3
    · rename_i ad k ek
      simp only [Rel] at r2
      subst r2
      split at q3
      · rename_i kvs ea
        obtain ⟨vs, h1, l⟩ := g3.at ea
        have e4 : Ext X.K H3 (upd H3 ad (.dK (L2.putK vs k v))) := Ext.chg h1 rfl
        refine ⟨ad, _, rfl, by rw [keyW_ok r3 ek]; exact DPut.k h1 (by rw [← l.length]; exact q3.1), q3.2 st _ (((e1.trans e2).trans e3).trans e4) ((((g.ext e1).ext e2).ext e3).ext e4) ?_⟩
        exact g3.wr h1 rfl ⟨_, upd_same, (l.putK k ((r1.ext e2).ext e3)).ext e4⟩
      · exact q3.elim
    · exact q3.elim
/-- a display with written keys -/
def wPairs : List (WE × WE) → Rho → Sto → (List (W × W) → Sto → Prop) → Prop
  | [], _, S, Q => Q [] S
  | (tk, tv) :: ts, r, S, Q => tk r S fun x S1 => tv r S1 fun y S2 => wPairs ts r S2 fun ps S3 => Q ((x, y) :: ps) S3
def keysW : List (W × W) → Option (List (Key × W))
  | [] => some []
  | (x, y) :: ps => match keyW x, keysW ps with
    | some k, some kvs => some ((k, y) :: kvs)
    | _, _ => none
def mergeW (kvs more : List (Key × W)) : List (Key × W) := more.foldl (fun acc kv => putKW acc kv.1 kv.2) kvs
theorem RelF.merge {K : PySem.W.Frag} {H : Hp} {ws : List (Key × W)} {vs : List (Key × V)} (h : RelF K H ws vs) : ∀ {ws' : List (Key × W)} {vs' : List (Key × V)}, RelF K H ws' vs' → RelF K H (mergeW ws' ws) (mergeK vs' vs) := by
  induction h with
  | nil => intro ws' vs' h'; exact h'
  | cons r _ ih => intro ws' vs' h'; exact ih (h'.putK _ r)
def lowPairs (K : PySem.W.Frag) (ts : List (WE × WE)) : List (TE × TE) := ts.map fun t => (LowE K t.1, LowE K t.2)
inductive RelPs (K : PySem.W.Frag) (H : Hp) : List (W × W) → List (V × V) → Prop
  | nil : RelPs K H [] []
  | cons {x y : W} {u v : V} {ws : List (W × W)} {vs : List (V × V)} : Rel K H x u → Rel K H y v → RelPs K H ws vs → RelPs K H ((x, y) :: ws) ((u, v) :: vs)
theorem RelPs.keys {K : PySem.W.Frag} {H : Hp} {ws : List (W × W)} {vs : List (V × V)} (h : RelPs K H ws vs) : ∀ {kvs : List (Key × W)}, keysW ws = some kvs → ∃ us : List (Key × V), vs = us.map (fun kv => (kV kv.1, kv.2)) ∧ RelF K H kvs us := by
  induction h with
  | nil => intro kvs e; cases e; exact ⟨[], rfl, .nil⟩
  | cons r1 r2 _ ih =>
    intro kvs e
    unfold keysW at e
    split at e
    · rename_i k kvs' ek ekvs
      cases e
      obtain ⟨us, rfl, q⟩ := ih ekvs
      exact ⟨(k, _) :: us, by rw [keyW_ok r1 ek]; rfl, .cons r2 q⟩
    · cases e
def MonoPs (ts : List (WE × WE)) : Prop := ∀ t ∈ ts, MonoE t.1 ∧ MonoE t.2
theorem mono_pairs : ∀ {ts : List (WE × WE)}, MonoPs ts → ∀ r S (Q Q' : List (W × W) → Sto → Prop), (∀ ps S, Q ps S → Q' ps S) → wPairs ts r S Q → wPairs ts r S Q'
  | [], _, r, S, Q, Q', h, q => h _ _ q
  | (tk, tv) :: ts, m, r, S, Q, Q', h, q => (m _ List.mem_cons_self).1 _ _ _ _ (fun x S1 q1 => (m _ List.mem_cons_self).2 _ _ _ _ (fun y S2 q2 => mono_pairs (fun t ht => m t (List.mem_cons_of_mem _ ht)) r S2 _ _ (fun ps S q => h _ _ q) q2) q1) q
theorem low_pairs {K : PySem.W.Frag} : ∀ {ts : List (WE × WE)}, MonoPs ts → ∀ {r : Rho} {st : L2.St} {S : Sto} {H0 H : Hp} {Q : List (V × V) → Hp → Prop}, GR K H r st → GS K S H → Ext K H0 H →
    wPairs ts r S (fun ps S' => ∀ (H' : Hp) (vs : List (V × V)), Ext K H0 H' → GS K S' H' → RelPs K H' ps vs → Q vs H') → tPairs (lowPairs K ts) st H Q
  | [], _, r, st, S, H0, H, Q, g, gs, e0, q => q H [] e0 gs .nil
  | (tk, tv) :: ts, m, r, st, S, H0, H, Q, g, gs, e0, q => by
    refine ⟨r, S, g, gs, (m _ List.mem_cons_self).1 _ _ _ _ (fun x S1 q1 H1 u e1 g1 r1 => ?_) q⟩
    refine ⟨r, S1, g.ext e1, g1, (m _ List.mem_cons_self).2 _ _ _ _ (fun y S2 q2 H2 v e2 g2 r2 => ?_) q1⟩
    have m' : MonoPs ts := fun t ht => m t (List.mem_cons_of_mem _ ht)
    refine low_pairs (H0 := H2) m' ((g.ext e1).ext e2) g2 Ext.refl (mono_pairs m' _ _ _ _ (fun ps S3 q3 H3 vs e3 g3 r3 => ?_) q2)
    exact q3 H3 _ (((e0.trans e1).trans e2).trans e3) g3 (.cons ((r1.ext e2).ext e3) (r2.ext e3) r3)
def wDisp (ts : List (WE × WE)) : WE := fun r S Q => ∀ p, S p = none → wPairs ts r (put S p (.dk [])) fun ps S2 => match keysW ps with
  | some kvs => (S2 p = some (.dk []) ∧ kvs.length ≤ 15) ∧ Q (.ref p) (put S2 p (.dk (mergeW [] kvs)))
  | none => False
structure DPs (X : Cx) (pos : Pos) (keys : List (Option Expr)) (values : List Expr) (ts : List (WE × WE)) : Prop where
  mono : MonoPs ts
  pp : PPs X pos keys values (lowPairs X.K ts)
theorem dps_nil : DPs X pos [] [] [] := ⟨fun t ht => (nomatch ht), pps_nil⟩
theorem dps_cons {k v : Expr} {ks : List (Option Expr)} {vs : List Expr} {tk tv : WE} {ts : List (WE × WE)} (hk : DE X k tk) (hv : DE X v tv) (h : DPs X pos ks vs ts) : DPs X pos (some k :: ks) (v :: vs) ((tk, tv) :: ts) :=
  ⟨fun t ht => (List.mem_cons.mp ht).elim (fun e => by subst e; exact ⟨hk.mono, hv.mono⟩) (h.mono t), pps_cons hk.pe hv.pe h.pp⟩
theorem de_disp {keys : List (Option Expr)} {values : List Expr} {ts : List (WE × WE)} (h : DPs X pos keys values ts) (hall : keys.all (·.isSome) = true := by rfl) (hl : keys.length = values.length := by rfl) (h0 : keys ≠ [] := by (intro z; cases z)) (h15 : keys.length ≤ 15 := by decide) :
    DE X (.Dict keys values pos) (wDisp ts) := by
  refine ⟨fun r S Q Q' hq q p hp => mono_pairs h.mono _ _ _ _ (fun ps S2 q2 => ?_) (q p hp), weakE (pe_disp h.pp hall hl h0 h15) fun st H Q ⟨r, S, g, gs, q⟩ p hp => ?_⟩
  · split at q2
    · exact ⟨q2.1, hq _ _ q2.2⟩
    · exact q2
  · have e0 : Ext X.K H (upd H p (.dK [])) := Ext.new hp
    refine low_pairs (H0 := upd H p (.dK [])) h.mono (g.ext e0) (gs.new (o := .dk []) hp ⟨[], upd_same, .nil⟩) Ext.refl (mono_pairs h.mono _ _ _ _ (fun ps S2 q2 H2 vs e2 g2 r2 => ?_) (q p (gs.free hp)))
    split at q2
    · rename_i kvs ek
      obtain ⟨⟨h1, h2⟩, q3⟩ := q2
      obtain ⟨us, rfl, rf⟩ := r2.keys ek
      obtain ⟨vs0, h3, l0⟩ := g2.at h1
      cases l0
      have e3 : Ext X.K H2 (upd H2 p (.dK (mergeK [] us))) := Ext.chg h3 rfl
      exact ⟨h3, us, rfl, by rw [← rf.length]; exact h2, q3 _ _ ((e0.trans e2).trans e3) (g2.wr h3 rfl ⟨_, upd_same, (rf.merge .nil).ext e3⟩) (by simp only [Rel])⟩
    · exact q2.elim
/-- a dict of the written part, by what is known of it -/
structure KTab (K : PySem.W.Frag) (w : World) (d : Addr) (tab : Str → Option (Option W)) : Prop where
  at_ : ∃ es n, KDict K w d es n
  val : ∀ z r, tab z = some r → ∃ u, PySem.W.nsIn K d z = some u ∧ match r with
    | none => u = none
    | some x => ∃ u0 v, u = some u0 ∧ RelV v u0 ∧ ∀ H, Rel K H x v
def rInKd (d : Addr) (tab : Str → Option (Option W)) (neg : Bool) : WR2 := fun x y S Q => match x, y with
  | .str z, .ref d' => d' = d ∧ match tab z with
    | some r => Q (.bl (if neg then !r.isSome else r.isSome)) S
    | none => False
  | _, _ => False
theorem mono_inkd {d : Addr} {tab : Str → Option (Option W)} {neg : Bool} : Mono2 (rInKd d tab neg) := fun x y S Q Q' h q => by
  unfold rInKd at q ⊢
  split at q
  · refine ⟨q.1, ?_⟩
    have q2 := q.2
    split at q2
    · exact h _ _ q2
    · exact q2
  · exact q
theorem KTab.some_ {K : PySem.W.Frag} {w : World} {d : Addr} {tab : Str → Option (Option W)} (T : KTab K w d tab) {z : Str} {r : Option W} (h : tab z = some r) : ∃ u, PySem.W.nsIn K d z = some u ∧ u.isSome = r.isSome := by
  obtain ⟨u, h1, h2⟩ := T.val z r h
  refine ⟨u, h1, ?_⟩
  cases r with
  | none => rw [h2]; rfl
  | some x => obtain ⟨u0, v, rfl, _⟩ := h2; rfl
theorem ow_inkd {d : Addr} {tab : Str → Option (Option W)} (T : KTab X.K X.w d tab) : OpW X (compareOp .In) (rInKd d tab false) := by
  obtain ⟨es, n, D⟩ := T.at_
  refine ⟨mono_inkd, fun pins s st H x y v u Q I rx ry ⟨wx, wy, S, gs, r1, r2, q⟩ => ?_⟩
  unfold rInKd at q
  split at q
  · obtain ⟨rfl, q⟩ := q
    split at q
    · rename_i r er
      simp only [Rel] at r1 r2
      subst r1 r2
      obtain ⟨u', h1, h2⟩ := T.some_ er
      exact op_in_kd D pins s st H _ _ v u Q I rx ry ⟨_, u', rfl, rfl, h1, by rw [h2]; exact q H _ Ext.refl gs (by simp only [Rel]; rfl)⟩
    · exact q.elim
  · exact q.elim
theorem ow_notinkd {d : Addr} {tab : Str → Option (Option W)} (T : KTab X.K X.w d tab) : OpW X (compareOp .NotIn) (rInKd d tab true) := by
  obtain ⟨es, n, D⟩ := T.at_
  refine ⟨mono_inkd, fun pins s st H x y v u Q I rx ry ⟨wx, wy, S, gs, r1, r2, q⟩ => ?_⟩
  unfold rInKd at q
  split at q
  · obtain ⟨rfl, q⟩ := q
    split at q
    · rename_i r er
      simp only [Rel] at r1 r2
      subst r1 r2
      obtain ⟨u', h1, h2⟩ := T.some_ er
      exact op_notIn_kd D pins s st H _ _ v u Q I rx ry ⟨_, u', rfl, rfl, h1, by rw [h2]; exact q H _ Ext.refl gs (by simp only [Rel]; rfl)⟩
    · exact q.elim
  · exact q.elim
def rGetKd (d : Addr) (tab : Str → Option (Option W)) : WR2 := fun x y S Q => match x, y with
  | .ref d', .str z => d' = d ∧ match tab z with
    | some (some w) => Q w S
    | _ => False
  | _, _ => False
theorem de_kget {d : Addr} {tab : Str → Option (Option W)} (T : KTab X.K X.w d tab) (ha : DE X a ta) (hb : DE X b tb) (hs : PlainIx b := by intro _ _; rfl) : DE X (.Subscript a b pos) (wOp (rGetKd d tab) ta tb) := by
  have mo : Mono2 (rGetKd d tab) := fun x y S Q Q' h q => by
    unfold rGetKd at q ⊢
    split at q
    · refine ⟨q.1, ?_⟩
      have q2 := q.2
      split at q2
      · exact h _ _ q2
      · exact q2
    · exact q
  obtain ⟨es, n, D⟩ := T.at_
  have hr : IxR X (LowR X.K (rGetKd d tab)) := fun value slice pins s st H x y v u Q I rx ry ⟨wx, wy, S, gs, r1, r2, q⟩ hs => by
    unfold rGetKd at q
    split at q
    · obtain ⟨rfl, q⟩ := q
      split at q
      · rename_i w er
        simp only [Rel] at r1 r2
        subst r1 r2
        obtain ⟨u', h1, u0, v0, rfl, h3, h4⟩ := T.val _ _ er
        exact ix_kdict value slice pins s st H _ _ v u Q I rx ry ⟨_, _, v0, rfl, rfl, ⟨es, n, u0, D.at_, D.lit, h1, h3⟩, q H _ Ext.refl gs (h4 H)⟩ hs
      · exact q.elim
    · exact q.elim
  exact ⟨mono_op mo ha.mono hb.mono, weakE (pe_ix hr ha.pe hb.pe hs) fun _ _ _ q => low_op mo ha.mono hb.mono q⟩
/-- -e -/
def wNeg (ta : WE) : WE := fun r S Q => ta r S fun x S1 => match x with
  | .int i => Q (.int (-i)) S1
  | _ => False
theorem de_neg (ha : DE X a ta) : DE X (.UnaryOp .USub a pos) (wNeg ta) := by
  refine ⟨fun r S Q Q' h q => ha.mono _ _ _ _ (fun x S1 q1 => ?_) q, weakE (pe_un un_neg ha.pe) fun st H Q ⟨r, S, g, gs, q⟩ => ⟨r, S, g, gs, ha.mono _ _ _ _ (fun x S1 q1 H1 v e1 g1 r1 => ?_) q⟩⟩
  · cases x <;> first | exact h _ _ q1 | exact q1
  · cases x with
    | int i => simp only [Rel] at r1; exact ⟨i, r1, q1 H1 _ e1 g1 (by simp only [Rel])⟩
    | _ => exact q1.elim
/-- a method without arguments -/
theorem de_meth0 {CX : CXT} {k : Nat} {f C : Addr} {fd : FuncData} {ps : List Str} {sp : WSp} {m : Str} {apos : Pos} {pl : Sem Bool} (ho : DE X o to) (c : Cls X.K C) (hm : Meth X.K C m f) (F : FnOk X.prog X.w X.K X.mg X.base CX0 k f fd ps (LowSp X.K sp)) (hsp : MonoSp sp) (hr : Room k X.A) (hb : Binds X.K fd ps [])
    (ht : eval (.Call (.Attribute o m apos) [] [] pos) X.env = (do
      let ov ← eval o X.env
      standAt apos.atName
      let (f, first) ← holding [ov] (getMethod ov m pl)
      callWith pos f first (backTo pos (starEach [] X.env)) (backToKw pos (keywordEach [] X.env))) := by rfl) :
    DE X (.Call (.Attribute o m apos) [] [] pos) (wMeth C m sp to wNil) := by
  have mn : MonoA wNil := fun r S Q Q' h q => h _ _ q
  refine ⟨mono_meth hsp ho.mono mn, weakE (pe_meth0 (pl := pl) ho.pe c hm F hr hb .nil pass0 ht) fun st H Q q => ?_⟩
  have z := low_meth hsp ho.mono mn q
  obtain ⟨r, S, g, gs, z⟩ := q
  refine ⟨r, S, g, gs, ho.mono _ _ _ _ (fun x S1 q1 H1 v e1 g1 r1 => ?_) z⟩
  split at q1
  · split at q1
    · rename_i a' _ C' fs ea
      simp only [Rel] at r1
      subst r1
      obtain ⟨⟨rfl, hl⟩, q1⟩ := q1
      obtain ⟨dx, gs', h1, rf⟩ := g1.at ea
      refine ⟨a', dx, gs', rfl, h1, (rf.lookup m).2 hl, [.ref a'], S1, Rels.one (by simp only [Rel]), g1, hsp _ _ _ _ (fun w S' q => q.ext e1) q1⟩
    · exact q1.elim
  · exact q1.elim
end

/-! ### a def's contract from its body -/
/-- a store that knows more -/
def Le (S S' : Sto) : Prop := ∀ a o, S a = some o → S' a = some o
theorem Le.refl {S : Sto} : Le S S := fun _ _ h => h
theorem Le.trans {S S1 S2 : Sto} (a : Le S S1) (b : Le S1 S2) : Le S S2 := fun x o h => b x o (a x o h)
theorem Le.put {S : Sto} {p : Addr} {o : MO} (h : S p = none) : Le S (put S p o) := fun a u e => by
  rw [put_ne]; exact e
  intro z; rw [z, h] at e; cases e
theorem Le.put2 {S S' : Sto} {p : Addr} {o : MO} (l : Le S S') (h : S p = none) : Le S (WL.put S' p o) := fun a u e => by
  rw [put_ne]; exact l a u e
  intro z; rw [z, h] at e; cases e
theorem Le.free {S S' : Sto} {p : Addr} (l : Le S S') (h : S' p = none) : S p = none := by
  cases q : S p with
  | none => rfl
  | some o => rw [l p o q] at h; cases h
theorem GS.le {K : PySem.W.Frag} {S S' : Sto} {H : Hp} (g : GS K S' H) (l : Le S S') : GS K S H := fun a o h => g a o (l a o h)
/-- what is wanted holds of a store that knows more, too -/
def Up (Q : WQ) : Prop := ∀ w S S', Le S S' → Q w S → Q w S'
def startW (n : Nat) (ws : List W) : Rho := ws.map some ++ List.replicate (n - ws.length) none
theorem gr_start {K : PySem.W.Frag} {H : Hp} {N : List Str} {ws : List W} {vs : List V} (r : Rels K H ws vs) : GR K H (startW N.length ws) (L2.start N vs) := by
  unfold startW L2.start
  have l := r.length
  refine ⟨by simp [l], fun i w h => ?_⟩
  by_cases hi : i < ws.length
  · rw [List.getElem?_append_left (by simpa using hi)] at h
    rw [List.getElem?_append_left (by simpa [← l] using hi)]
    rw [List.getElem?_map] at h
    cases q : ws[i]? with
    | none => rw [q] at h; cases h
    | some w' =>
      rw [q] at h
      cases h
      obtain ⟨v, h1, h2⟩ := r.get q
      exact ⟨v, by rw [List.getElem?_map, h1]; rfl, h2⟩
  · rw [List.getElem?_append_right (by simpa using Nat.le_of_not_lt hi)] at h
    have z := List.mem_of_getElem? h
    rw [List.mem_replicate] at z
    cases z.2
section
variable {P : Program} {w : World} {K : PySem.W.Frag} {mg : Str → Option Value} {base : Heap}
/-- the context of a def's body from which nothing is raised -/
abbrev CxF (P : Program) (w : World) (K : PySem.W.Frag) (mg : Str → Option Value) (base : Heap) (N : List Str) (qual : Str) (sc : Scope) (f : Addr) (cdv : Value) (A : Around) (outer : List Env) (s : Shared) (H : Hp) (E : XK) : Cx := (cxOf CX0 P w K mg base N qual sc f cdv A outer s H E).nox
theorem fnW {x qual : Str} {st : Stmt} {f : Addr} {fd : FuncData} {N ps : List Str} {k : Nat} {sp : WSp} {t : WS} (F : Fun K x qual st f fd) (S : FnScope N ps (defScope st)) (len : ∀ ws S Q, sp ws S Q → ws.length = ps.length)
    (body : ∀ (cdv : Value) (A : Around) (outer : List Env) (s : Shared) (H : Hp) (E : XK), Room k (CxF P w K mg base N qual (defScope st) f cdv A outer s H E).A → DSs (CxF P w K mg base N qual (defScope st) f cdv A outer s H E) (defBody st) t)
    (read : ∀ ws S Q, Up Q → sp ws S Q → t { nx := fun _ S' => Q .non S', rt := Q } (startW N.length ws) S) : FnOk P w K mg base CX0 (k + 1) f fd ps (LowSp K sp) := by
  refine F.ok S (fun vs H Q E ⟨ws, S, r, _, q⟩ => by rw [← r.length]; exact len ws S _ q) (fun cdv A outer s H vs Q E hr ⟨ws, So, r, gs, q⟩ => ?_)
  refine ⟨_, (body cdv A outer s H E hr).ps, startW N.length ws, So, gr_start r, gs, (body cdv A outer s H E hr).mono { nx := fun _ S' => lowQ K H Q .non S', rt := lowQ K H Q } (lowD K H { nx := fun _ H' => Q .non H', rt := Q }) _ _ ⟨fun r1 S1 q1 st1 H1 e1 g1 s1 => ?_, fun w1 S1 q1 => q1, fun _ _ z => z.elim, fun _ _ z => z.elim⟩ (read ws So _ (fun w S S' l q H' v e g r => q H' v e (g.le l) r) q)⟩
  exact q1 H1 V.non e1 s1 (by simp only [Rel])
end
end WL

namespace WL
open PySem L2
def wds : List Str := (["plus", "less", "times", "part", "below", "same", "set", "say", "give", "hand", "if", "round", "leave", "fault", "end", "try", "go", "fork", "num", "work", "row", "slot", "rooms", "slots", "start", "-", "join", "shut", "ask", "throw", "deeds", "told", "said", "program", "talk", "begins", "all_told", "get", "append", "__init__", "body", "tried", "room", "extend", " ", "numbers", "tell", "gift", "close", "", "setdefault", "step", "ended", "left", "sorted_out", "count", "s", "over", "stop", "handed", "rounds", "given", "add", "sey", "last", "else", "stubborn", "other", "  ", "caught ", "clear", "words", "machines", "way", "keep", "through", "out", "pop", "asks", "reverse", "index", "0123456789", "rows", "at", "works", "split", "must", "reckoning", "plain", "behind", "words_at", "0", "whole", "caught", "several", "9", "1000", "00", "07", "1234567890", "s0", "s7", "s01", "work 0 1", "work 1", "work 0 1 2", "work 0 0", "work 3 4", "say 1", "  say 1", "read", "-1", "2", "123456789", "work 0 -", "lstrip", "  last 0", "  else", "made", "text", "played", "zz"] : List String).map Str.ofString
theorem wds_nodup : wds.Nodup := by decide +kernel
def wd (i : Nat) : Str := wds.getD i ""
theorem wd_inj {i j : Nat} (hi : i < 122) (hj : j < 122) : (wd i = wd j) = (i = j) := by
  have l : wds.length = 122 := rfl
  refine propext ⟨fun h => ?_, fun h => by rw [h]⟩
  unfold wd at h
  have hi' : i < wds.length := by rw [l]; exact hi
  have hj' : j < wds.length := by rw [l]; exact hj
  rw [List.getD_eq_getElem?_getD, List.getD_eq_getElem?_getD, List.getElem?_eq_getElem hi', List.getElem?_eq_getElem hj'] at h
  exact (List.getElem_inj wds_nodup).mp h
abbrev w_plus : Str := wd 0
abbrev w_less : Str := wd 1
abbrev w_times : Str := wd 2
abbrev w_part : Str := wd 3
abbrev w_below : Str := wd 4
abbrev w_same : Str := wd 5
abbrev w_set : Str := wd 6
abbrev w_say : Str := wd 7
abbrev w_give : Str := wd 8
abbrev w_hand : Str := wd 9
abbrev w_if : Str := wd 10
abbrev w_round : Str := wd 11
abbrev w_leave : Str := wd 12
abbrev w_fault : Str := wd 13
abbrev w_end : Str := wd 14
abbrev w_try : Str := wd 15
abbrev w_go : Str := wd 16
abbrev w_fork : Str := wd 17
abbrev w_num : Str := wd 18
abbrev w_work : Str := wd 19
abbrev w_row : Str := wd 20
abbrev w_slot : Str := wd 21
abbrev w_rooms : Str := wd 22
abbrev w_slots : Str := wd 23
abbrev w_start : Str := wd 24
abbrev w_dash : Str := wd 25
abbrev w_join : Str := wd 26
abbrev w_shut : Str := wd 27
abbrev w_ask : Str := wd 28
abbrev w_throw : Str := wd 29
abbrev w_deeds : Str := wd 30
abbrev w_told : Str := wd 31
abbrev w_said : Str := wd 32
abbrev w_program : Str := wd 33
abbrev w_talk : Str := wd 34
abbrev w_begins : Str := wd 35
abbrev w_all_told : Str := wd 36
abbrev w_get : Str := wd 37
abbrev w_append : Str := wd 38
abbrev w___init__ : Str := wd 39
abbrev w_body : Str := wd 40
abbrev w_tried : Str := wd 41
abbrev w_room : Str := wd 42
abbrev w_extend : Str := wd 43
abbrev w_blank : Str := wd 44
abbrev w_numbers : Str := wd 45
abbrev w_tell : Str := wd 46
abbrev w_gift : Str := wd 47
abbrev w_close : Str := wd 48
abbrev w_empty : Str := wd 49
abbrev w_setdefault : Str := wd 50
abbrev w_step : Str := wd 51
abbrev w_ended : Str := wd 52
abbrev w_left : Str := wd 53
abbrev w_sorted_out : Str := wd 54
abbrev w_count : Str := wd 55
abbrev w_s : Str := wd 56
abbrev w_over : Str := wd 57
abbrev w_stop : Str := wd 58
abbrev w_handed : Str := wd 59
abbrev w_rounds : Str := wd 60
abbrev w_given : Str := wd 61
abbrev w_add : Str := wd 62
abbrev w_sey : Str := wd 63
abbrev w_last : Str := wd 64
abbrev w_else : Str := wd 65
abbrev w_stubborn : Str := wd 66
abbrev w_other : Str := wd 67
abbrev w_blank2 : Str := wd 68
abbrev w_caught_ : Str := wd 69
abbrev w_clear : Str := wd 70
abbrev w_words : Str := wd 71
abbrev w_machines : Str := wd 72
abbrev w_way : Str := wd 73
abbrev w_keep : Str := wd 74
abbrev w_through : Str := wd 75
abbrev w_out : Str := wd 76
abbrev w_pop : Str := wd 77
abbrev w_asks : Str := wd 78
abbrev w_reverse : Str := wd 79
abbrev w_index : Str := wd 80
abbrev w_0123456789 : Str := wd 81
abbrev w_rows : Str := wd 82
abbrev w_at : Str := wd 83
abbrev w_works : Str := wd 84
abbrev w_split : Str := wd 85
abbrev w_must : Str := wd 86
abbrev w_reckoning : Str := wd 87
abbrev w_plain : Str := wd 88
abbrev w_behind : Str := wd 89
abbrev w_words_at : Str := wd 90
abbrev w_0 : Str := wd 91
abbrev w_whole : Str := wd 92
abbrev w_caught : Str := wd 93
abbrev w_several : Str := wd 94
abbrev w_9 : Str := wd 95
abbrev w_1000 : Str := wd 96
abbrev w_00 : Str := wd 97
abbrev w_07 : Str := wd 98
abbrev w_1234567890 : Str := wd 99
abbrev w_s0 : Str := wd 100
abbrev w_s7 : Str := wd 101
abbrev w_s01 : Str := wd 102
abbrev w_work_0_1 : Str := wd 103
abbrev w_work_1 : Str := wd 104
abbrev w_work_0_1_2 : Str := wd 105
abbrev w_work_0_0 : Str := wd 106
abbrev w_work_3_4 : Str := wd 107
abbrev w_say_1 : Str := wd 108
abbrev w___say_1 : Str := wd 109
abbrev w_read : Str := wd 110
abbrev w__1 : Str := wd 111
abbrev w_2 : Str := wd 112
abbrev w_123456789 : Str := wd 113
abbrev w_work_0__ : Str := wd 114
abbrev w_lstrip : Str := wd 115
abbrev w___last_0 : Str := wd 116
abbrev w___else : Str := wd 117
abbrev w_made : Str := wd 118
abbrev w_text : Str := wd 119
abbrev w_played : Str := wd 120
abbrev w_zz : Str := wd 121
def W_PAIRS : W := .tup [.str w_plus, .str w_less, .str w_times, .str w_part, .str w_below, .str w_same]
def tab_LENGTHS : Str → Option (Option W) := fun z => if z = w_set then some (some (.int 3)) else if z = w_say then some (some (.int 2)) else if z = w_give then some (some (.int 3)) else if z = w_hand then some (some (.int 4)) else
  if z = w_if then some (some (.int 4)) else if z = w_round then some (some (.int 3)) else if z = w_leave then some (some (.int 1)) else if z = w_fault then some (some (.int 2)) else if z = w_end then some (some (.int 2)) else if z = w_try then some (some (.int 4)) else none
/-- is_reckoning: e slots deep -/
def t_is_reckoning (sp_is_reckoning : WSp) : WS :=
  (wSeq (wIfS (wB (wOp rEqW (wOp rIxW (wVar 0) (wC (.int 0))) (wC (.str w_num))))
  (wRet (wAndV (wOp rEqW (wCall rLenW (wCons (wVar 0) wNil)) (wC (.int 2))) (wChain rLe rLt (wC (.int 0)) (wOp rIxW (wVar 0) (wC (.int 1))) (wC (.int 1000)))))
  wNext)
  (wSeq (wIfS (wB (wOp rEqW (wOp rIxW (wVar 0) (wC (.int 0))) (wC (.str w_slot))))
  (wRet (wAndV (wOp rEqW (wCall rLenW (wCons (wVar 0) wNil)) (wC (.int 2))) (wChain rLe rLt (wC (.int 0)) (wOp rIxW (wVar 0) (wC (.int 1))) (wVar 1))))
  wNext)
  (wSeq (wIfS (wOr (wB (wOp (rInW true) (wOp rIxW (wVar 0) (wC (.int 0))) (wC W_PAIRS))) (wOr (wB (wOp rNeW (wCall rLenW (wCons (wVar 0) wNil)) (wC (.int 3)))) (wB (wOp rEqW (wVar 2) (wC (.int 0))))))
  (wRet (wC (.bl false)))
  wNext)
  (wRet (wAndV (wCall sp_is_reckoning (wCons (wOp rIxW (wVar 0) (wC (.int 1))) (wCons (wVar 1) (wCons (wOp rSubW (wVar 2) (wC (.int 1))) wNil)))) (wCall sp_is_reckoning (wCons (wOp rIxW (wVar 0) (wC (.int 2))) (wCons (wVar 1) (wCons (wOp rSubW (wVar 2) (wC (.int 1))) wNil)))))))))
/-- bodies: step -/
def t_bodies  : WS :=
  (wSeq (wIfS (wB (wOp rEqW (wOp rIxW (wVar 0) (wC (.int 0))) (wC (.str w_if))))
  (wRet (wLst (wCons (wOp rIxW (wVar 0) (wC (.int 2))) (wCons (wOp rIxW (wVar 0) (wC (.int 3))) wNil))))
  wNext)
  (wSeq (wIfS (wB (wOp rEqW (wOp rIxW (wVar 0) (wC (.int 0))) (wC (.str w_round))))
  (wRet (wLst (wCons (wOp rIxW (wVar 0) (wC (.int 2))) wNil)))
  wNext)
  (wSeq (wIfS (wAnd (wB (wOp rEqW (wOp rIxW (wVar 0) (wC (.int 0))) (wC (.str w_try)))) (wB (wOp rIsN (wOp rIxW (wVar 0) (wC (.int 2))) (wC .non))))
  (wRet (wLst (wCons (wOp rIxW (wVar 0) (wC (.int 1))) (wCons (wOp rIxW (wVar 0) (wC (.int 3))) wNil))))
  wNext)
  (wSeq (wIfS (wB (wOp rEqW (wOp rIxW (wVar 0) (wC (.int 0))) (wC (.str w_try))))
  (wRet (wLst (wCons (wOp rIxW (wVar 0) (wC (.int 1))) (wCons (wOp rIxW (wOp rIxW (wVar 0) (wC (.int 2))) (wC (.int 1))) (wCons (wOp rIxW (wVar 0) (wC (.int 3))) wNil)))))
  wNext)
  (wRet (wLst wNil))))))
/-- is_kept: k slots -/
def t_is_kept  : WS :=
  (wRet (wOrV (wOp rIsN (wVar 0) (wC .non)) (wChain rLe rLt (wC (.int 0)) (wVar 0) (wVar 1))))
/-- are_parts: program number step slots e -/
def t_are_parts (sp_is_kept sp_is_reckoning : WSp) : WS :=
  (wSeq (wAsg (wOp rIxW (wOp rIxW (wVar 0) (wVar 1)) (wC (.int 1))) (gNameW 3))
  (wSeq (wIfS (wB (wOp rEqW (wOp rIxW (wVar 2) (wC (.int 0))) (wC (.str w_leave))))
  (wRet (wC (.bl true)))
  wNext)
  (wSeq (wIfS (wB (wOp rEqW (wOp rIxW (wVar 2) (wC (.int 0))) (wC (.str w_try))))
  (wRet (wOrV (wOp rIsN (wOp rIxW (wVar 2) (wC (.int 2))) (wC .non)) (wCall sp_is_kept (wCons (wOp rIxW (wOp rIxW (wVar 2) (wC (.int 2))) (wC (.int 0))) (wCons (wVar 3) wNil)))))
  wNext)
  (wSeq (wIfS (wB (wOp rEqW (wOp rIxW (wVar 2) (wC (.int 0))) (wC (.str w_set))))
  (wRet (wAndV (wOp rNotN (wOp rIxW (wVar 2) (wC (.int 1))) (wC .non)) (wAndV (wCall sp_is_kept (wCons (wOp rIxW (wVar 2) (wC (.int 1))) (wCons (wVar 3) wNil))) (wCall sp_is_reckoning (wCons (wOp rIxW (wVar 2) (wC (.int 2))) (wCons (wVar 3) (wCons (wC (.int 3)) wNil)))))))
  wNext)
  (wSeq (wIfS (wB (wOp rEqW (wOp rIxW (wVar 2) (wC (.int 0))) (wC (.str w_hand))))
  (wSeq (wIfS (wOr (wNot (wB (wChain rLt rLt (wVar 1) (wOp rIxW (wVar 2) (wC (.int 1))) (wCall rLenW (wCons (wVar 0) wNil))))) (wB (wOp rNeW (wCall rLenW (wCons (wOp rIxW (wVar 2) (wC (.int 2))) wNil)) (wOp rIxW (wOp rIxW (wVar 0) (wOp rIxW (wVar 2) (wC (.int 1)))) (wC (.int 0))))))
  (wRet (wC (.bl false)))
  wNext)
  (wRet (wAndV (wCall sp_is_kept (wCons (wOp rIxW (wVar 2) (wC (.int 3))) (wCons (wVar 3) wNil))) (wOp rEqW (wLc (wOp rIxW (wVar 2) (wC (.int 2))) 4 (wNot (wB (wCall sp_is_reckoning (wCons (wVar 4) (wCons (wVar 3) (wCons (wC (.int 3)) wNil)))))) (wVar 4)) (wLst wNil)))))
  wNext)
  (wSeq (wIfS (wAnd (wB (wOp rEqW (wOp rIxW (wVar 2) (wC (.int 0))) (wC (.str w_give)))) (wNot (wB (wCall sp_is_kept (wCons (wOp rIxW (wVar 2) (wC (.int 2))) (wCons (wVar 3) wNil))))))
  (wRet (wC (.bl false)))
  wNext)
  (wRet (wCall sp_is_reckoning (wCons (wOp rIxW (wVar 2) (wC (.int 1))) (wCons (wVar 3) (wCons (wC (.int 3)) wNil)))))))))))
/-- is_body: program number body rounds within step inner -/
def l_is_body_1 (a_LENGTHS : Addr) (sp_are_parts sp_is_body sp_bodies : WSp) : WS :=
  (wIfS (wNot (wB (wCall sp_is_body (wCons (wVar 0) (wCons (wVar 1) (wCons (wVar 6) (wCons (wOrV (wVar 3) (wOp rEqW (wOp rIxW (wVar 5) (wC (.int 0))) (wC (.str w_round)))) (wCons (wOp rAddW (wVar 4) (wC (.int 1))) wNil))))))))
  (wRet (wC (.bl false)))
  wNext)
def l_is_body_2 (a_LENGTHS : Addr) (sp_are_parts sp_is_body sp_bodies : WSp) : WS :=
  (wSeq (wIfS (wOr (wB (wOp (rInKd a_LENGTHS tab_LENGTHS true) (wOp rIxW (wVar 5) (wC (.int 0))) (wC (.ref a_LENGTHS)))) (wOr (wB (wOp rNeW (wCall rLenW (wCons (wVar 5) wNil)) (wOp (rGetKd a_LENGTHS tab_LENGTHS) (wC (.ref a_LENGTHS)) (wOp rIxW (wVar 5) (wC (.int 0)))))) (wB (wOp rGt (wVar 4) (wC (.int 6))))))
  (wRet (wC (.bl false)))
  wNext)
  (wSeq (wIfS (wOr (wNot (wB (wCall sp_are_parts (wCons (wVar 0) (wCons (wVar 1) (wCons (wVar 5) wNil)))))) (wAnd (wB (wOp rEqW (wOp rIxW (wVar 5) (wC (.int 0))) (wC (.str w_leave)))) (wNot (wB (wVar 3)))))
  (wRet (wC (.bl false)))
  wNext)
  (wFor (wCall sp_bodies (wCons (wVar 5) wNil)) (gNameW 6)
  (l_is_body_1 a_LENGTHS sp_are_parts sp_is_body sp_bodies))))
def t_is_body (a_LENGTHS : Addr) (sp_are_parts sp_is_body sp_bodies : WSp) : WS :=
  (wSeq (wFor (wVar 2) (gNameW 5)
  (l_is_body_2 a_LENGTHS sp_are_parts sp_is_body sp_bodies))
  (wRet (wC (.bl true))))
/-- all_steps: body found step inner -/
def l_all_steps_1 (sp_all_steps sp_bodies : WSp) : WS :=
  (wDrop (wLm rExtW (wVar 1) (wCons (wCall sp_all_steps (wCons (wVar 3) wNil)) wNil)))
def l_all_steps_2 (sp_all_steps sp_bodies : WSp) : WS :=
  (wSeq (wDrop (wLm rAppW (wVar 1) (wCons (wVar 2) wNil)))
  (wFor (wCall sp_bodies (wCons (wVar 2) wNil)) (gNameW 3)
  (l_all_steps_1 sp_all_steps sp_bodies)))
def t_all_steps (sp_all_steps sp_bodies : WSp) : WS :=
  (wSeq (wAsg (wLst wNil) (gNameW 1))
  (wSeq (wFor (wVar 0) (gNameW 2)
  (l_all_steps_2 sp_all_steps sp_bodies))
  (wRet (wVar 1))))
/-- is_work: program number params slots body -/
def t_is_work (sp_is_body sp_all_steps : WSp) : WS :=
  (wSeq (wAsg (wOp rIxW (wVar 0) (wVar 1)) (gTupW 3 (gConsW (gNameW 2) (gConsW (gNameW 3) (gConsW (gNameW 4) gNilW)))))
  (wSeq (wIfS (wOr (wNot (wB (wChain rLe rLe (wC (.int 1)) (wVar 3) (wC (.int 4))))) (wOr (wNot (wB (wChain rLe rLe (wC (.int 0)) (wVar 2) (wC (.int 2))))) (wB (wOp rGt (wVar 2) (wVar 3)))))
  (wRet (wC (.bl false)))
  wNext)
  (wRet (wAndV (wCall sp_is_body (wCons (wVar 0) (wCons (wVar 1) (wCons (wVar 4) (wCons (wC (.bl false)) (wCons (wC (.int 0)) wNil)))))) (wOp rLe (wCall rLenW (wCons (wCall sp_all_steps (wCons (wVar 4) wNil)) wNil)) (wC (.int 40)))))))
/-- need_program: program number -/
def l_need_program_1 (sp_is_work : WSp) : WS :=
  (wIfS (wNot (wB (wCall sp_is_work (wCons (wVar 0) (wCons (wVar 1) wNil)))))
  wNever
  wNext)
def t_need_program (sp_is_work : WSp) : WS :=
  (wSeq (wIfS (wNot (wB (wChain rLe rLe (wC (.int 1)) (wCall rLenW (wCons (wVar 0) wNil)) (wC (.int 4)))))
  wNever
  wNext)
  (wForR1 (wCons (wCall rLenW (wCons (wVar 0) wNil)) wNil) (gNameW 1)
  (l_need_program_1 sp_is_work)))
/-- need_work: program work -/
def t_need_work  : WS :=
  (wIfS (wNot (wB (wChain rLe rLt (wC (.int 0)) (wVar 1) (wCall rLenW (wCons (wVar 0) wNil)))))
  wNever
  wNext)
/-- paired: word one other -/
def t_paired  : WS :=
  (wSeq (wIfS (wB (wOp rEqW (wVar 0) (wC (.str w_plus))))
  (wRet (wOp rMod (wOp rAddW (wVar 1) (wVar 2)) (wC (.int 1000))))
  wNext)
  (wSeq (wIfS (wB (wOp rEqW (wVar 0) (wC (.str w_less))))
  (wRet (wOp rMod (wOp rSubW (wVar 1) (wVar 2)) (wC (.int 1000))))
  wNext)
  (wSeq (wIfS (wB (wOp rEqW (wVar 0) (wC (.str w_times))))
  (wRet (wOp rMod (wOp rMulW (wVar 1) (wVar 2)) (wC (.int 1000))))
  wNext)
  (wSeq (wIfS (wB (wOp rEqW (wVar 0) (wC (.str w_part))))
  (wRet (wIf (wB (wOp rEqW (wVar 2) (wC (.int 0)))) (wC .non) (wOp rDiv (wVar 1) (wVar 2))))
  wNext)
  (wSeq (wIfS (wB (wOp rEqW (wVar 0) (wC (.str w_below))))
  (wRet (wCall rIntW (wCons (wOp rLt (wVar 1) (wVar 2)) wNil)))
  wNext)
  (wRet (wCall rIntW (wCons (wOp rEqW (wVar 1) (wVar 2)) wNil))))))))
/-- reckoned: e slots one other -/
def t_reckoned (sp_reckoned sp_paired : WSp) : WS :=
  (wSeq (wIfS (wB (wOp rEqW (wOp rIxW (wVar 0) (wC (.int 0))) (wC (.str w_num))))
  (wRet (wOp rIxW (wVar 0) (wC (.int 1))))
  wNext)
  (wSeq (wIfS (wB (wOp rEqW (wOp rIxW (wVar 0) (wC (.int 0))) (wC (.str w_slot))))
  (wRet (wOp rIxW (wVar 1) (wOp rIxW (wVar 0) (wC (.int 1)))))
  wNext)
  (wSeq (wAsg (wCall sp_reckoned (wCons (wOp rIxW (wVar 0) (wC (.int 1))) (wCons (wVar 1) wNil))) (gNameW 2))
  (wSeq (wAsg (wCall sp_reckoned (wCons (wOp rIxW (wVar 0) (wC (.int 2))) (wCons (wVar 1) wNil))) (gNameW 3))
  (wSeq (wIfS (wOr (wB (wOp rIsN (wVar 2) (wC .non))) (wB (wOp rIsN (wVar 3) (wC .non))))
  (wRet (wC .non))
  wNext)
  (wRet (wCall sp_paired (wCons (wOp rIxW (wVar 0) (wC (.int 0))) (wCons (wVar 2) (wCons (wVar 3) wNil))))))))))
/-- all_reckoned: args slots found e -/
def t_all_reckoned (sp_reckoned : WSp) : WS :=
  (wSeq (wAsg (wLc (wVar 0) 3 wYes (wCall sp_reckoned (wCons (wVar 3) (wCons (wVar 1) wNil)))) (gNameW 2))
  (wRet (wIf (wB (wOp (rInW false) (wC .non) (wVar 2))) (wC .non) (wVar 2))))
/-- is_deed: deed -/
def t_is_deed  : WS :=
  (wSeq (wIfS (wOr (wB (wOp rEqW (wCall rLenW (wCons (wVar 0) wNil)) (wC (.int 0)))) (wB (wOp (rInW true) (wOp rIxW (wVar 0) (wC (.int 0))) (wTup (wCons (wC (.str w_ask)) (wCons (wC (.str w_throw)) (wCons (wC (.str w_shut)) wNil)))))))
  (wRet (wC (.bl false)))
  wNext)
  (wSeq (wIfS (wB (wOp rEqW (wOp rIxW (wVar 0) (wC (.int 0))) (wC (.str w_shut))))
  (wRet (wOp rEqW (wCall rLenW (wCons (wVar 0) wNil)) (wC (.int 1))))
  wNext)
  (wRet (wAndV (wOp rEqW (wCall rLenW (wCons (wVar 0) wNil)) (wC (.int 2))) (wChain rLe rLt (wC (.int 0)) (wOp rIxW (wVar 0) (wC (.int 1))) (wC (.int 1000)))))))
/-- need_asked: params numbers deeds number deed -/
def t_need_asked (sp_is_deed : WSp) : WS :=
  (wSeq (wIfS (wOr (wB (wOp rNeW (wCall rLenW (wCons (wVar 1) wNil)) (wVar 0))) (wB (wOp rNeW (wLc (wVar 1) 3 (wNot (wB (wChain rLe rLt (wC (.int 0)) (wVar 3) (wC (.int 1000))))) (wVar 3)) (wLst wNil))))
  wNever
  wNext)
  (wIfS (wB (wOp rNeW (wLc (wVar 2) 4 (wNot (wB (wCall sp_is_deed (wCons (wVar 4) wNil)))) (wVar 4)) (wLst wNil)))
  wNever
  wNext))
/-- untouched: deed -/
def t_untouched  : WS :=
  (wSeq (wIfS (wB (wOp rEqW (wOp rIxW (wVar 0) (wC (.int 0))) (wC (.str w_ask))))
  (wRet (wTup (wCons (wTup wNil) (wCons (wTup (wCons (wC (.str w_over)) wNil)) wNil))))
  wNext)
  (wSeq (wIfS (wB (wOp rEqW (wOp rIxW (wVar 0) (wC (.int 0))) (wC (.str w_throw))))
  (wRet (wTup (wCons (wTup wNil) (wCons (wTup (wCons (wC (.str w_fault)) (wCons (wOp rIxW (wVar 0) (wC (.int 1))) wNil))) wNil))))
  wNext)
  (wRet (wTup (wCons (wTup wNil) (wCons (wTup (wCons (wC (.str w_shut)) wNil)) wNil))))))
/-- Talk__init_: self deeds -/
def t_Talk__init_ (C_Talk : Addr) : WS :=
  (wSeq (wSetF C_Talk (wVar 0) (wCall rListW (wCons (wVar 1) wNil)) w_deeds)
  (wSeq (wSetF C_Talk (wVar 0) (wLst wNil) w_told)
  (wSetF C_Talk (wVar 0) (wLst wNil) w_said)))
/-- Talk_begins: self -/
def t_Talk_begins (C_Talk : Addr) : WS :=
  (wRet (wAndV (wOp rNeW (wFld C_Talk (wVar 0) w_deeds) (wLst wNil)) (wOp rEqW (wOp rIxW (wOp rIxW (wFld C_Talk (wVar 0) w_deeds) (wC (.int 0))) (wC (.int 0))) (wC (.str w_ask)))))
/-- Talk_say: self word -/
def t_Talk_say (C_Talk : Addr) : WS :=
  (wDrop (wLm rAppW (wFld C_Talk (wVar 0) w_said) (wCons (wVar 1) wNil)))
/-- Talk_tell: self outcome -/
def t_Talk_tell (C_Talk : Addr) : WS :=
  (wSeq (wDrop (wLm rAppW (wFld C_Talk (wVar 0) w_told) (wCons (wTup (wCons (wCall rTupleW (wCons (wFld C_Talk (wVar 0) w_said) wNil)) (wCons (wVar 1) wNil))) wNil)))
  (wSetF C_Talk (wVar 0) (wLst wNil) w_said))
/-- Talk_gift: self number -/
def t_Talk_gift (C_Talk : Addr) (sp_Talk_tell : WSp) : WS :=
  (wSeq (wIfS (wB (wOp rEqW (wOp rIxW (wOp rIxW (wFld C_Talk (wVar 0) w_deeds) (wCall rLenW (wCons (wFld C_Talk (wVar 0) w_told) wNil))) (wC (.int 0))) (wC (.str w_shut))))
  (wSeq (wDrop (wMeth C_Talk w_tell sp_Talk_tell (wVar 0) (wCons (wTup (wCons (wC (.str w_stubborn)) wNil)) wNil)))
  (wRet (wC .non)))
  wNext)
  (wSeq (wDrop (wMeth C_Talk w_tell sp_Talk_tell (wVar 0) (wCons (wTup (wCons (wC (.str w_gift)) (wCons (wVar 1) wNil))) wNil)))
  (wRet (wIf (wB (wOp rLt (wCall rLenW (wCons (wFld C_Talk (wVar 0) w_told) wNil)) (wCall rLenW (wCons (wFld C_Talk (wVar 0) w_deeds) wNil)))) (wOp rIxW (wFld C_Talk (wVar 0) w_deeds) (wCall rLenW (wCons (wFld C_Talk (wVar 0) w_told) wNil))) (wC .non)))))
/-- Talk_close: self way -/
def t_Talk_close (C_Talk : Addr) (sp_Talk_tell : WSp) : WS :=
  (wIfS (wAnd (wB (wOp rEqW (wOp rIxW (wVar 1) (wC (.int 0))) (wC (.str w_end)))) (wB (wOp rEqW (wOp rIxW (wOp rIxW (wFld C_Talk (wVar 0) w_deeds) (wCall rLenW (wCons (wFld C_Talk (wVar 0) w_told) wNil))) (wC (.int 0))) (wC (.str w_shut)))))
  (wDrop (wMeth C_Talk w_tell sp_Talk_tell (wVar 0) (wCons (wTup (wCons (wC (.str w_shut)) wNil)) wNil)))
  (wIfS (wB (wOp rNeW (wOp rIxW (wVar 1) (wC (.int 0))) (wC (.str w_stop))))
  (wDrop (wMeth C_Talk w_tell sp_Talk_tell (wVar 0) (wCons (wVar 1) wNil)))
  wNext))
/-- Talk_all_told: self deed -/
def t_Talk_all_told (C_Talk : Addr) (sp_untouched : WSp) : WS :=
  (wRet (wOp rAddW (wFld C_Talk (wVar 0) w_told) (wLc (wSl (wFld C_Talk (wVar 0) w_deeds) (wPart (wCall rLenW (wCons (wFld C_Talk (wVar 0) w_told) wNil))) wNoPart) 1 wYes (wCall sp_untouched (wCons (wVar 1) wNil)))))
/-- Walk__init_: self program talk -/
def t_Walk__init_ (C_Walk : Addr) : WS :=
  (wSeq (wSetF C_Walk (wVar 0) (wVar 1) w_program)
  (wSetF C_Walk (wVar 0) (wVar 2) w_talk))
/-- Walk_body: self steps slots step way -/
def l_Walk_body_1 (C_Walk : Addr) (sp_Walk_step : WSp) : WS :=
  (wSeq (wAsg (wMeth C_Walk w_step sp_Walk_step (wVar 0) (wCons (wVar 3) (wCons (wVar 2) wNil))) (gNameW 4))
  (wIfS (wB (wOp rNotN (wVar 4) (wC .non)))
  (wRet (wVar 4))
  wNext))
def t_Walk_body (C_Walk : Addr) (sp_Walk_step : WSp) : WS :=
  (wSeq (wFor (wVar 1) (gNameW 3)
  (l_Walk_body_1 C_Walk sp_Walk_step))
  (wRet (wC .non)))
/-- Walk_step: self step slots number -/
def t_Walk_step (C_Walk : Addr) (C_Talk : Addr) (sp_Walk_tried sp_Walk_handed sp_reckoned sp_Walk_body sp_Walk_rounds sp_Walk_given sp_Talk_say : WSp) : WS :=
  (wSeq (wIfS (wB (wOp rEqW (wOp rIxW (wVar 1) (wC (.int 0))) (wC (.str w_leave))))
  (wRet (wVar 1))
  wNext)
  (wSeq (wIfS (wB (wOp rEqW (wOp rIxW (wVar 1) (wC (.int 0))) (wC (.str w_try))))
  (wRet (wMeth C_Walk w_tried sp_Walk_tried (wVar 0) (wCons (wVar 1) (wCons (wVar 2) wNil))))
  wNext)
  (wSeq (wIfS (wB (wOp rEqW (wOp rIxW (wVar 1) (wC (.int 0))) (wC (.str w_hand))))
  (wRet (wMeth C_Walk w_handed sp_Walk_handed (wVar 0) (wCons (wVar 1) (wCons (wVar 2) wNil))))
  wNext)
  (wSeq (wAsg (wCall sp_reckoned (wCons (wIf (wB (wOp rEqW (wOp rIxW (wVar 1) (wC (.int 0))) (wC (.str w_set)))) (wOp rIxW (wVar 1) (wC (.int 2))) (wOp rIxW (wVar 1) (wC (.int 1)))) (wCons (wVar 2) wNil))) (gNameW 3))
  (wSeq (wIfS (wB (wOp rIsN (wVar 3) (wC .non)))
  (wRet (wTup (wCons (wC (.str w_fault)) (wCons (wC (.int 0)) wNil))))
  wNext)
  (wSeq (wIfS (wB (wOp (rInW false) (wOp rIxW (wVar 1) (wC (.int 0))) (wTup (wCons (wC (.str w_fault)) (wCons (wC (.str w_end)) wNil)))))
  (wRet (wTup (wCons (wOp rIxW (wVar 1) (wC (.int 0))) (wCons (wVar 3) wNil))))
  wNext)
  (wSeq (wIfS (wB (wOp rEqW (wOp rIxW (wVar 1) (wC (.int 0))) (wC (.str w_if))))
  (wRet (wMeth C_Walk w_body sp_Walk_body (wVar 0) (wCons (wIf (wB (wOp rNeW (wVar 3) (wC (.int 0)))) (wOp rIxW (wVar 1) (wC (.int 2))) (wOp rIxW (wVar 1) (wC (.int 3)))) (wCons (wVar 2) wNil))))
  wNext)
  (wSeq (wIfS (wB (wOp rEqW (wOp rIxW (wVar 1) (wC (.int 0))) (wC (.str w_round))))
  (wRet (wMeth C_Walk w_rounds sp_Walk_rounds (wVar 0) (wCons (wOp rIxW (wVar 1) (wC (.int 2))) (wCons (wOp rMod (wVar 3) (wC (.int 10))) (wCons (wVar 2) wNil)))))
  wNext)
  (wSeq (wIfS (wB (wOp rEqW (wOp rIxW (wVar 1) (wC (.int 0))) (wC (.str w_give))))
  (wRet (wMeth C_Walk w_given sp_Walk_given (wVar 0) (wCons (wVar 3) (wCons (wOp rIxW (wVar 1) (wC (.int 2))) (wCons (wVar 2) wNil)))))
  wNext)
  (wSeq (wIfS (wB (wOp rEqW (wOp rIxW (wVar 1) (wC (.int 0))) (wC (.str w_say))))
  (wDrop (wMeth C_Talk w_say sp_Talk_say (wFld C_Walk (wVar 0) w_talk) (wCons (wVar 3) wNil)))
  (wAsg (wVar 3) (gSubW (wVar 2) (wOp rIxW (wVar 1) (wC (.int 1))))))
  (wRet (wC .non))))))))))))
/-- Walk_rounds: self steps many slots turn way -/
def l_Walk_rounds_1 (C_Walk : Addr) (sp_Walk_body : WSp) : WS :=
  (wSeq (wAsg (wMeth C_Walk w_body sp_Walk_body (wVar 0) (wCons (wVar 1) (wCons (wVar 3) wNil))) (gNameW 5))
  (wIfS (wB (wOp rNotN (wVar 5) (wC .non)))
  (wRet (wIf (wB (wOp rEqW (wOp rIxW (wVar 5) (wC (.int 0))) (wC (.str w_leave)))) (wC .non) (wVar 5)))
  wNext))
def t_Walk_rounds (C_Walk : Addr) (sp_Walk_body : WSp) : WS :=
  (wSeq (wForR1 (wCons (wVar 2) wNil) (gNameW 4)
  (l_Walk_rounds_1 C_Walk sp_Walk_body))
  (wRet (wC .non)))
/-- Walk_given: self number k slots deed -/
def t_Walk_given (C_Walk : Addr) (C_Talk : Addr) (sp_Talk_gift : WSp) : WS :=
  (wSeq (wAsg (wMeth C_Talk w_gift sp_Talk_gift (wFld C_Walk (wVar 0) w_talk) (wCons (wVar 1) wNil)) (gNameW 4))
  (wSeq (wIfS (wB (wOp rIsN (wVar 4) (wC .non)))
  (wRet (wTup (wCons (wC (.str w_stop)) wNil)))
  wNext)
  (wSeq (wIfS (wB (wOp rEqW (wOp rIxW (wVar 4) (wC (.int 0))) (wC (.str w_shut))))
  (wRet (wVar 4))
  wNext)
  (wSeq (wIfS (wB (wOp rEqW (wOp rIxW (wVar 4) (wC (.int 0))) (wC (.str w_throw))))
  (wRet (wTup (wCons (wC (.str w_fault)) (wCons (wOp rIxW (wVar 4) (wC (.int 1))) wNil))))
  wNext)
  (wSeq (wIfS (wB (wOp rNotN (wVar 2) (wC .non)))
  (wAsg (wOp rIxW (wVar 4) (wC (.int 1))) (gSubW (wVar 3) (wVar 2)))
  wNext)
  (wRet (wC .non)))))))
/-- Walk_handed: self step slots params many body numbers way -/
def t_Walk_handed (C_Walk : Addr) (sp_all_reckoned sp_Walk_body : WSp) : WS :=
  (wSeq (wAsg (wOp rIxW (wFld C_Walk (wVar 0) w_program) (wOp rIxW (wVar 1) (wC (.int 1)))) (gTupW 3 (gConsW (gNameW 3) (gConsW (gNameW 4) (gConsW (gNameW 5) gNilW)))))
  (wSeq (wAsg (wCall sp_all_reckoned (wCons (wOp rIxW (wVar 1) (wC (.int 2))) (wCons (wVar 2) wNil))) (gNameW 6))
  (wSeq (wIfS (wB (wOp rIsN (wVar 6) (wC .non)))
  (wRet (wTup (wCons (wC (.str w_fault)) (wCons (wC (.int 0)) wNil))))
  wNext)
  (wSeq (wAsg (wMeth C_Walk w_body sp_Walk_body (wVar 0) (wCons (wVar 5) (wCons (wOp rAddW (wVar 6) (wOp rMulW (wLst (wCons (wC (.int 0)) wNil)) (wOp rSubW (wVar 4) (wVar 3)))) wNil))) (gNameW 7))
  (wSeq (wIfS (wAnd (wB (wOp rNotN (wVar 7) (wC .non))) (wB (wOp rNeW (wOp rIxW (wVar 7) (wC (.int 0))) (wC (.str w_end)))))
  (wRet (wVar 7))
  wNext)
  (wSeq (wIfS (wB (wOp rNotN (wOp rIxW (wVar 1) (wC (.int 3))) (wC .non)))
  (wAsg (wIf (wB (wOp rIsN (wVar 7) (wC .non))) (wC (.int 0)) (wOp rIxW (wVar 7) (wC (.int 1)))) (gSubW (wVar 2) (wOp rIxW (wVar 1) (wC (.int 3)))))
  wNext)
  (wRet (wC .non))))))))
/-- Walk_tried: self step slots way more -/
def t_Walk_tried (C_Walk : Addr) (sp_Walk_body : WSp) : WS :=
  (wSeq (wAsg (wMeth C_Walk w_body sp_Walk_body (wVar 0) (wCons (wOp rIxW (wVar 1) (wC (.int 1))) (wCons (wVar 2) wNil))) (gNameW 3))
  (wSeq (wIfS (wAnd (wB (wOp rNotN (wVar 3) (wC .non))) (wAnd (wB (wOp rEqW (wOp rIxW (wVar 3) (wC (.int 0))) (wC (.str w_fault)))) (wB (wOp rNotN (wOp rIxW (wVar 1) (wC (.int 2))) (wC .non)))))
  (wSeq (wIfS (wB (wOp rNotN (wOp rIxW (wOp rIxW (wVar 1) (wC (.int 2))) (wC (.int 0))) (wC .non)))
  (wAsg (wOp rIxW (wVar 3) (wC (.int 1))) (gSubW (wVar 2) (wOp rIxW (wOp rIxW (wVar 1) (wC (.int 2))) (wC (.int 0)))))
  wNext)
  (wAsg (wMeth C_Walk w_body sp_Walk_body (wVar 0) (wCons (wOp rIxW (wOp rIxW (wVar 1) (wC (.int 2))) (wC (.int 1))) (wCons (wVar 2) wNil))) (gNameW 3)))
  wNext)
  (wSeq (wIfS (wAnd (wB (wOp rNotN (wVar 3) (wC .non))) (wB (wOp rEqW (wOp rIxW (wVar 3) (wC (.int 0))) (wC (.str w_stop)))))
  (wRet (wVar 3))
  wNext)
  (wSeq (wAsg (wMeth C_Walk w_body sp_Walk_body (wVar 0) (wCons (wOp rIxW (wVar 1) (wC (.int 3))) (wCons (wVar 2) wNil))) (gNameW 4))
  (wRet (wIf (wB (wOp rIsN (wVar 4) (wC .non))) (wVar 3) (wVar 4)))))))
/-- played: program work numbers deeds talk params many body way -/
def t_played (C_Talk : Addr) (C_Walk : Addr) (sp_need_program sp_need_work sp_need_asked sp_Talk__init_ sp_Talk_begins sp_Walk_body sp_Walk__init_ sp_Talk_close sp_Talk_all_told : WSp) : WS :=
  (wSeq (wDrop (wCall sp_need_program (wCons (wVar 0) wNil)))
  (wSeq (wDrop (wCall sp_need_work (wCons (wVar 0) (wCons (wVar 1) wNil))))
  (wSeq (wDrop (wCall sp_need_asked (wCons (wOp rIxW (wOp rIxW (wVar 0) (wVar 1)) (wC (.int 0))) (wCons (wVar 2) (wCons (wVar 3) wNil)))))
  (wSeq (wAsg (wMake C_Talk sp_Talk__init_ (wCons (wVar 3) wNil)) (gNameW 4))
  (wSeq (wIfS (wB (wMeth C_Talk w_begins sp_Talk_begins (wVar 4) wNil))
  (wSeq (wAsg (wOp rIxW (wVar 0) (wVar 1)) (gTupW 3 (gConsW (gNameW 5) (gConsW (gNameW 6) (gConsW (gNameW 7) gNilW)))))
  (wSeq (wAsg (wMeth C_Walk w_body sp_Walk_body (wMake C_Walk sp_Walk__init_ (wCons (wVar 0) (wCons (wVar 4) wNil))) (wCons (wVar 7) (wCons (wOp rAddW (wCall rListW (wCons (wVar 2) wNil)) (wOp rMulW (wLst (wCons (wC (.int 0)) wNil)) (wOp rSubW (wVar 6) (wVar 5)))) wNil))) (gNameW 8))
  (wDrop (wMeth C_Talk w_close sp_Talk_close (wVar 4) (wCons (wIf (wB (wOp rIsN (wVar 8) (wC .non))) (wTup (wCons (wC (.str w_end)) (wCons (wC (.int 0)) wNil))) (wVar 8)) wNil)))))
  wNext)
  (wRet (wMeth C_Talk w_all_told sp_Talk_all_told (wVar 4) wNil)))))))

/-! ### facts for the symbolic run -/
theorem atI0 {α : Type} (a : α) (l : List α) : atI (a :: l) 0 = some a := atI_nat (j := 0) rfl
theorem atI1 {α : Type} (a b : α) (l : List α) : atI (a :: b :: l) 1 = some b := atI_nat (j := 1) rfl
theorem atI2 {α : Type} (a b c : α) (l : List α) : atI (a :: b :: c :: l) 2 = some c := atI_nat (j := 2) rfl
theorem atI3 {α : Type} (a b c d : α) (l : List α) : atI (a :: b :: c :: d :: l) 3 = some d := atI_nat (j := 3) rfl
theorem atI4 {α : Type} (a b c d e : α) (l : List α) : atI (a :: b :: c :: d :: e :: l) 4 = some e := atI_nat (j := 4) rfl
theorem line_le {n : Nat} (h : n ≤ 1000) : (n ≤ sizeLine) = True := eq_true (Nat.le_trans h (by decide))
theorem ci0 : ((0 : Nat) : Int) = 0 := rfl
theorem ci1 : ((1 : Nat) : Int) = 1 := rfl
theorem ci2 : ((2 : Nat) : Int) = 2 := rfl
theorem ci3 : ((3 : Nat) : Int) = 3 := rfl
theorem ci4 : ((4 : Nat) : Int) = 4 := rfl
theorem ci5 : ((5 : Nat) : Int) = 5 := rfl
theorem ci6 : ((6 : Nat) : Int) = 6 := rfl
/-! ### the symbolic run: what each reading is where its values are known -/
section
variable {C : Addr} {f m : Str} {i j : Int} {a b p : Addr} {w x y z : W} {ws vs us : List W} {r r' : Rho} {S S' : Sto} {Q : WQ} {QB : Bool → Sto → Prop} {QL : List W → Sto → Prop} {QR : Rho → Sto → Prop} {ta tb tc to : WE} {t u c : WT} {tr : WA} {sa sb : WS} {D : WD} {R R' : WR2} {k n : Nat} {sp : WSp} {g : WG} {gs : WGs} {st : Str} {fs : List (Str × W)}
def onB (x : W) (k : Bool → Prop) : Prop := match x with
  | .bl b => k b
  | _ => False
def onS (o : Option W) (k : W → Prop) : Prop := match o with
  | some w => k w
  | none => False
def onL (o : Option MO) (k : List W → Prop) : Prop := match o with
  | some (.lst ws) => k ws
  | _ => False
def onQ (o : Option (List W)) (k : List W → Prop) : Prop := match o with
  | some ws => k ws
  | none => False
def onI (o : Option MO) (k : Addr → List (Str × W) → Prop) : Prop := match o with
  | some (.ins C fs) => k C fs
  | _ => False
def onD (o : Option MO) (k : List (Key × W) → Prop) : Prop := match o with
  | some (.dk kvs) => k kvs
  | _ => False
def onR (x : W) (k : Addr → Prop) : Prop := match x with
  | .ref a => k a
  | _ => False
def onT (x : W) (k : List W → Prop) : Prop := match x with
  | .tup ws => k ws
  | _ => False
def onBo (x : Option Bool) (k : Bool → Prop) : Prop := match x with
  | some b => k b
  | none => False
theorem onB_bl {b : Bool} {k : Bool → Prop} : onB (.bl b) k = k b := rfl
theorem onS_some {k : W → Prop} : onS (some w) k = k w := rfl
theorem onL_lst {k : List W → Prop} : onL (some (.lst ws)) k = k ws := rfl
theorem onQ_some {k : List W → Prop} : onQ (some ws) k = k ws := rfl
theorem onI_ins {k : Addr → List (Str × W) → Prop} : onI (some (.ins C fs)) k = k C fs := rfl
theorem onD_dk {kvs : List (Key × W)} {k : List (Key × W) → Prop} : onD (some (.dk kvs)) k = k kvs := rfl
theorem onR_ref {k : Addr → Prop} : onR (.ref a) k = k a := rfl
theorem onT_tup {k : List W → Prop} : onT (.tup ws) k = k ws := rfl
theorem onBo_some {b : Bool} {k : Bool → Prop} : onBo (some b) k = k b := rfl
theorem x_var0 : wVar 0 (some w :: r) S Q = Q w S := rfl
theorem x_varS {o : Option W} : wVar (k + 1) (o :: r) S Q = wVar k r S Q := rfl
theorem x_c : wC w r S Q = Q w S := rfl
theorem x_op : wOp R ta tb r S Q = ta r S fun x S1 => tb r S1 fun y S2 => R x y S2 Q := rfl
theorem x_b : wB ta r S QB = ta r S fun x S1 => onB x fun b => QB b S1 := rfl
theorem x_chain : wChain R R' ta tb tc r S Q = ta r S fun x S1 => tb r S1 fun y S2 => R x y S2 fun z S3 => onB z fun k => if k = true then tc r S3 fun w S4 => R' y w S4 Q else Q (.bl false) S3 := rfl
theorem x_and : wAnd t u r S QB = t r S fun c S1 => if c = true then u r S1 QB else QB false S1 := rfl
theorem x_or : wOr t u r S QB = t r S fun c S1 => if c = true then QB true S1 else u r S1 QB := rfl
theorem x_not : wNot t r S QB = t r S fun c S1 => QB (!c) S1 := rfl
theorem x_andV : wAndV ta tb r S Q = ta r S fun x S1 => onB x fun c => if c = true then tb r S1 Q else Q (.bl false) S1 := rfl
theorem x_orV : wOrV ta tb r S Q = ta r S fun x S1 => onB x fun c => if c = true then Q (.bl true) S1 else tb r S1 Q := rfl
theorem x_notV : wNotV ta r S Q = ta r S fun x S1 => onB x fun c => Q (.bl (!c)) S1 := rfl
theorem x_if : wIf t ta tb r S Q = t r S fun c S1 => if c = true then ta r S1 Q else tb r S1 Q := rfl
theorem x_orT : wOrT ta tb r S Q = ta r S fun x S1 => onBo (truW S1 x) fun c => if c = true then Q x S1 else tb r S1 Q := rfl
theorem x_tr : wTr ta r S QB = ta r S fun x S1 => onBo (truW S1 x) fun c => QB c S1 := rfl
theorem x_neg : wNeg ta r S Q = ta r S fun x S1 => (match x with | .int i => Q (.int (-i)) S1 | _ => False) := rfl
theorem x_nil : wNil r S QL = QL [] S := rfl
theorem x_cons : wCons ta tr r S QL = ta r S fun x S1 => tr r S1 fun xs S2 => QL (x :: xs) S2 := rfl
theorem x_tup : wTup tr r S Q = tr r S fun ws S1 => ws.length ≤ sizeLine ∧ Q (.tup ws) S1 := rfl
theorem x_lst : wLst tr r S Q = tr r S fun ws S1 => ws.length ≤ sizeLine ∧ ∀ p, S1 p = none → Q (.ref p) (put S1 p (.lst ws)) := rfl
theorem x_call : wCall sp tr r S Q = tr r S fun ws S1 => sp ws S1 Q := rfl
def isLst (S : Sto) (x : W) : Prop := ∃ xs, rdl S x = some xs
theorem isLst_ref (h : S a = some (.lst ws)) : isLst S (.ref a) = True := eq_true ⟨ws, by simp only [rdl, h]⟩
theorem x_lm {rm : W → List W → Sto → WQ → Prop} : wLm rm to tr r S Q = to r S fun x S1 => isLst S1 x ∧ tr r S1 fun ws S2 => rm x ws S2 Q := rfl
theorem x_lm0 {rm : W → List W → Sto → WQ → Prop} : wLm0 rm to r S Q = to r S fun x S1 => isLst S1 x ∧ rm x [] S1 Q := rfl
theorem x_app : rAppW (.ref a) [w] S Q = onL (S a) fun xs => xs.length < sizeLine ∧ Q .non (put S a (.lst (xs ++ [w]))) := rfl
theorem x_clr : rClrW (.ref a) [] S Q = onL (S a) fun _ => Q .non (put S a (.lst [])) := rfl
theorem x_ext : rExtW (.ref a) [.ref b] S Q = onL (S a) fun xs => onL (S b) fun ys => xs.length + ys.length ≤ sizeLine ∧ Q .non (put S a (.lst (xs ++ ys))) := by
  simp only [rExtW, onL]; rcases S a with _ | (_ | _ | _ | _) <;> rcases S b with _ | (_ | _ | _ | _) <;> rfl
theorem x_seq : wSeq sa sb D r S = sa { D with nx := sb D } r S := rfl
theorem x_next : wNext D r S = D.nx r S := rfl
theorem x_ifS : wIfS c sa sb D r S = c r S fun b S1 => if b = true then sa D r S1 else sb D r S1 := rfl
theorem x_ret : wRet ta D r S = ta r S D.rt := rfl
theorem x_retN : wRetN D r S = D.rt .non S := rfl
theorem x_drop : wDrop ta D r S = ta r S fun _ S1 => D.nx r S1 := rfl
theorem x_asg : wAsg ta g D r S = ta r S fun w S1 => g w r S1 D.nx := rfl
theorem x_gname : gNameW k w r S QR = QR (r.set k (some w)) S := rfl
theorem x_gtup : gTupW n gs (.tup ws) r S QR = (ws.length = n ∧ gs ws r S QR) := rfl
theorem x_gcons : gConsW g gs (w :: ws) r S QR = g w r S fun r' S' => gs ws r' S' QR := rfl
theorem x_gnil : gNilW [] r S QR = ([] = ([] : List W) ∧ QR r S) := rfl
theorem x_gsub : gSubW ta tb w r S QR = ta r S fun x S1 => tb r S1 fun y S2 => setW x y w S2 fun S3 => QR r S3 := rfl
theorem x_set {QS : Sto → Prop} : setW (.ref a) (.int i) w S QS = onL (S a) fun ws => (match ixN ws.length i with | some j => QS (put S a (.lst (ws.set j w))) | none => False) := rfl
theorem x_for : wFor ta g sb D r S = ta r S fun x S1 => onQ (seqOf S1 x) fun ws => forW (fun S => seqOf S x = some ws) g sb ws D r S1 := rfl
theorem x_forR1 : wForR1 tr g sb D r S = tr r S fun ws S1 => (match ws with | [.int j] => (-(2 ^ 62) ≤ j ∧ j < 2 ^ 62) ∧ forW (fun _ => True) g sb ((List.range j.toNat).map fun i => W.int (i : Nat)) D r S1 | _ => False) := rfl
theorem x_lc : wLc ta k t tb r S Q = ta r S fun x S1 => onQ (seqOf S1 x) fun ws => ∀ p, S1 p = none → lcW (fun S => seqOf S x = some ws) k t tb p ws r (put S1 p (.lst [])) fun S2 => Q (.ref p) S2 := rfl
theorem x_lcR : wLcR tr k t tb r S Q = tr r S fun ws S1 => (match ws with | [.int j] => (-(2 ^ 62) ≤ j ∧ j < 2 ^ 62) ∧ ∀ p, S1 p = none → lcW (fun _ => True) k t tb p ((List.range j.toNat).map fun i => W.int (i : Nat)) r (put S1 p (.lst [])) fun S2 => Q (.ref p) S2 | _ => False) := rfl
theorem x_fld : wFld C ta f r S Q = ta r S fun x S1 => onR x fun a => onI (S1 a) fun C' fs => C' = C ∧ onS (fs.lookup f) fun w => Q w S1 := rfl
theorem x_setF {tv : WE} : wSetF C ta tv f D r S = tv r S fun w S1 => ta r S1 fun x S2 => onR x fun a => onI (S2 a) fun C' fs => (C' = C ∧ fs.length < 1000) ∧ D.nx r (put S2 a (.ins C (putW f w fs))) := rfl
theorem x_meth : wMeth C m sp to tr r S Q = to r S fun x S1 => onR x fun a => onI (S1 a) fun C' fs => (C' = C ∧ fs.lookup m = none) ∧ tr r S1 fun ws S2 => sp (.ref a :: ws) S2 Q := rfl
theorem x_make : wMake C sp tr r S Q = tr r S fun ws S1 => ∀ x, S1 x = none → sp (.ref x :: ws) (put S1 x (.ins C [])) fun v S2 => isNon v = true ∧ Q (.ref x) S2 := rfl
theorem x_sl {tl th : WO} : wSl ta tl th r S Q = ta r S fun x S1 => tl r S1 fun l S2 => th r S2 fun u S3 => rSlW x l u S3 Q := rfl
theorem x_part {QO : Option Int → Sto → Prop} : wPart ta r S QO = ta r S fun x S1 => (match x with | .int i => QO (some i) S1 | _ => False) := rfl
theorem x_noPart {QO : Option Int → Sto → Prop} : wNoPart r S QO = QO none S := rfl
theorem x_yes : wYes r S QB = QB true S := rfl
-- values
theorem v_add : rAddW (.int i) (.int j) S Q = Q (.int (i + j)) S := rfl
theorem v_addT : rAddW (.tup ws) (.tup vs) S Q = (ws.length + vs.length ≤ sizeLine ∧ Q (.tup (ws ++ vs)) S) := rfl
theorem v_addS {s s' : Str} : rAddW (.str s) (.str s') S Q = (s.length + s'.length ≤ sizeLine ∧ Q (.str (s ++ s')) S) := rfl
theorem v_addL : rAddW (.ref a) (.ref b) S Q = onL (S a) fun xs => onL (S b) fun ys => xs.length + ys.length ≤ sizeLine ∧ ∀ p, S p = none → Q (.ref p) (put S p (.lst (xs ++ ys))) := by
  simp only [rAddW, onL]; rcases S a with _ | (_ | _ | _ | _) <;> rcases S b with _ | (_ | _ | _ | _) <;> rfl
theorem v_sub : rSubW (.int i) (.int j) S Q = Q (.int (i - j)) S := rfl
theorem v_mul : rMulW (.int i) (.int j) S Q = (CMul i j ∧ Q (.int (i * j)) S) := rfl
theorem v_rep : rMulW (.ref a) (.int i) S Q = onL (S a) fun xs => (-(2 ^ 63) ≤ i ∧ i < 2 ^ 63 ∧ xs.length * i.toNat ≤ sizeLine) ∧ ∀ p, S p = none → Q (.ref p) (put S p (.lst (List.replicate i.toNat xs).flatten)) := rfl
theorem v_mod : rMod (.int i) (.int j) S Q = (0 < j ∧ Q (.int (i % j)) S) := rfl
theorem v_div : rDiv (.int i) (.int j) S Q = (CDiv i j ∧ Q (.int (i / j)) S) := rfl
theorem v_pow : rPow (.int i) (.int j) S Q = (CPow i j ∧ Q (.int (i ^ j.toNat)) S) := rfl
theorem v_lt : rLt (.int i) (.int j) S Q = Q (.bl (decide (i < j))) S := rfl
theorem v_le : rLe (.int i) (.int j) S Q = Q (.bl (decide (i ≤ j))) S := rfl
theorem v_gt : rGt (.int i) (.int j) S Q = Q (.bl (decide (j < i))) S := rfl
theorem v_ge : rGe (.int i) (.int j) S Q = Q (.bl (decide (j ≤ i))) S := rfl
theorem v_isN : rIsN x .non S Q = Q (.bl (isNon x)) S := rfl
theorem v_notN : rNotN x .non S Q = Q (.bl (!isNon x)) S := rfl
theorem n_non : isNon .non = true := rfl
theorem n_bl {b : Bool} : isNon (.bl b) = false := rfl
theorem n_int : isNon (.int i) = false := rfl
theorem n_str : isNon (.str f) = false := rfl
theorem n_ref : isNon (.ref a) = false := rfl
theorem n_tup : isNon (.tup ws) = false := rfl
theorem q_ss {s s' : Str} : rEqW (.str s) (.str s') S Q = Q (.bl (decide (s = s'))) S := rfl
theorem q_ii : rEqW (.int i) (.int j) S Q = Q (.bl (decide (i = j))) S := rfl
theorem q_bb {b b' : Bool} : rEqW (.bl b) (.bl b') S Q = Q (.bl (decide (b = b'))) S := rfl
theorem q_nn : rEqW .non .non S Q = Q (.bl true) S := rfl
theorem q_is : rEqW (.int i) (.str f) S Q = Q (.bl false) S := rfl
theorem q_si : rEqW (.str f) (.int i) S Q = Q (.bl false) S := rfl
theorem q_in : rEqW (.int i) .non S Q = Q (.bl false) S := rfl
theorem q_ni : rEqW .non (.int i) S Q = Q (.bl false) S := rfl
theorem q_sn : rEqW (.str f) .non S Q = Q (.bl false) S := rfl
theorem q_ns : rEqW .non (.str f) S Q = Q (.bl false) S := rfl
theorem d_ss {s s' : Str} : rNeW (.str s) (.str s') S Q = Q (.bl (!decide (s = s'))) S := rfl
theorem d_ii : rNeW (.int i) (.int j) S Q = Q (.bl (!decide (i = j))) S := rfl
theorem d_bb {b b' : Bool} : rNeW (.bl b) (.bl b') S Q = Q (.bl (!decide (b = b'))) S := rfl
theorem d_nn : rNeW .non .non S Q = Q (.bl (!true)) S := rfl
theorem d_in : rNeW (.int i) .non S Q = Q (.bl (!false)) S := rfl
theorem d_ni : rNeW .non (.int i) S Q = Q (.bl (!false)) S := rfl
/-- == of two lists of ours, of two tuples -/
theorem eq_dat {d e : PyData} (h : Dat S x d) (h' : Dat S y e) (s : SeqAt.shaped d = true) (s' : SeqAt.shaped e = true) (hn : seqW x y = none) (q : Q (.bl (PyData.eqv d e)) S) : rEqW x y S Q := by
  unfold rEqW; rw [hn]; exact ⟨d, e, h, h', s, s', q⟩
theorem ne_dat {d e : PyData} (h : Dat S x d) (h' : Dat S y e) (s : SeqAt.shaped d = true) (s' : SeqAt.shaped e = true) (hn : seqW x y = none) (q : Q (.bl (!PyData.eqv d e)) S) : rNeW x y S Q := by
  unfold rNeW; rw [hn]; exact ⟨d, e, h, h', s, s', q⟩
theorem ix_t : rIxW (.tup ws) (.int i) S Q = onS (atI ws i) fun w => Q w S := rfl
theorem ix_r : rIxW (.rl ws) (.int i) S Q = onS (atI ws i) fun w => Q w S := rfl
theorem ix_l : rIxW (.ref a) (.int i) S Q = onL (S a) fun ws => onS (atI ws i) fun w => Q w S := rfl
theorem in_t : rInW false x (.tup ws) S Q = ((flatW x = true ∧ ws.all flatW = true) ∧ Q (.bl (inW x ws)) S) := rfl
theorem notin_t : rInW true x (.tup ws) S Q = ((flatW x = true ∧ ws.all flatW = true) ∧ Q (.bl (!inW x ws)) S) := rfl
theorem in_l (h : S a = some (.lst ws)) : rInW false x (.ref a) S Q = ((flatW x = true ∧ ws.all flatW = true) ∧ Q (.bl (inW x ws)) S) := by
  unfold rInW; simp only [seqOf, h]; rfl
theorem fl_s : flatW (.str f) = true := rfl
theorem fl_i : flatW (.int i) = true := rfl
theorem fl_n : flatW .non = true := rfl
theorem inW_nil : inW x [] = false := rfl
theorem inW_cons : inW x (y :: ws) = (eqW y x || inW x ws) := rfl
theorem eqW_ss {s s' : Str} : eqW (.str s) (.str s') = decide (s = s') := rfl
theorem eqW_nn : eqW .non .non = true := rfl
theorem eqW_in : eqW (.int i) .non = false := rfl
theorem so_t : seqOf S (.tup ws) = some ws := rfl
theorem so_r : seqOf S (.rl ws) = some ws := rfl
theorem so_l (h : S a = some (.lst ws)) : seqOf S (.ref a) = some ws := by simp only [seqOf, h]
theorem so_lp : seqOf (put S p (.lst ws)) (.ref p) = some ws := so_l put_same
theorem len_t : rLenW [.tup ws] S Q = Q (.int ws.length) S := rfl
theorem len_r : rLenW [.rl ws] S Q = Q (.int ws.length) S := rfl
theorem len_s {s : Str} : rLenW [.str s] S Q = (s.length ≤ sizeLine ∧ Q (.int s.length) S) := rfl
theorem len_l (h : S a = some (.lst ws)) : rLenW [.ref a] S Q = Q (.int ws.length) S := by simp only [rLenW, seqOf, h]
theorem int_i : rIntW [.int i] S Q = Q (.int i) S := rfl
theorem int_b {b : Bool} : rIntW [.bl b] S Q = Q (.int (if b = true then 1 else 0)) S := rfl
theorem list_x : rListW [x] S Q = onQ (seqOf S x) fun ws => ∀ p, S p = none → Q (.ref p) (put S p (.lst ws)) := rfl
theorem tuple_x : rTupleW [x] S Q = onQ (seqOf S x) fun ws => Q (.tup ws) S := rfl
theorem min_ii : rMinW [.int i, .int j] S Q = Q (.int (if j < i then j else i)) S := rfl
theorem max_ii : rMaxW [.int i, .int j] S Q = Q (.int (if j > i then j else i)) S := rfl
theorem sl_t {l h : Option Int} : rSlW (.tup ws) l h S Q = Q (.tup (cutW ws l h)) S := rfl
theorem sl_l {l h : Option Int} : rSlW (.ref a) l h S Q = onL (S a) fun ws => ∀ p, S p = none → Q (.ref p) (put S p (.lst (cutW ws l h))) := rfl
theorem look_nil : ([] : List (Str × W)).lookup f = none := rfl
theorem look_cons : (((m, w) :: fs).lookup f) = if f = m then some w else fs.lookup f := by
  rw [List.lookup_cons]
  by_cases h : f = m
  · rw [if_pos h, show (f == m) = true by rw [h]; exact beq_self_eq_true m]
  · rw [if_neg h, show (f == m) = false from beq_false_of_ne h]
theorem putW_nil : putW f w [] = [(f, w)] := rfl
theorem putW_cons : putW f w ((m, x) :: fs) = if m = f then (m, w) :: fs else (m, x) :: putW f w fs := rfl
theorem x_inKd {d : Addr} {tab : Str → Option (Option W)} {s : Str} {o : Option W} (h : tab s = some o) : rInKd d tab false (.str s) (.ref d) S Q = Q (.bl o.isSome) S := by
  unfold rInKd; simp only [h, true_and]; rfl
theorem x_notinKd {d : Addr} {tab : Str → Option (Option W)} {s : Str} {o : Option W} (h : tab s = some o) : rInKd d tab true (.str s) (.ref d) S Q = Q (.bl (!o.isSome)) S := by
  unfold rInKd; simp only [h, true_and]; rfl
theorem x_getKd {d : Addr} {tab : Str → Option (Option W)} {s : Str} (h : tab s = some (some w)) : rGetKd d tab (.ref d) (.str s) S Q = Q w S := by
  unfold rGetKd; simp only [h, true_and]
theorem x_dget {k : Key} (h : keyW x = some k) : rDGet (.ref a) x S Q = onD (S a) fun kvs => onS (valW kvs k) fun w => Q w S := by
  unfold rDGet onD onS; rw [h]; try (simp only; rcases S a with _ | (_ | _ | _ | _) <;> rfl)
theorem key_s {s : Str} : keyW (.str s) = some (.inr s) := rfl
theorem key_i : keyW (.int i) = some (.inl i) := rfl
theorem val_nil {k : Key} : valW [] k = none := rfl
theorem val_cons {k k' : Key} {kvs : List (Key × W)} : valW ((k', w) :: kvs) k = if k' = k then some w else valW kvs k := by
  unfold valW
  rw [List.find?_cons]
  by_cases h : k' = k
  · rw [if_pos h, decide_eq_true h]; rfl
  · rw [if_neg h, decide_eq_false h]
theorem inr_eq {s s' : Str} : ((Sum.inr s : Key) = Sum.inr s') = (s = s') := propext ⟨fun h => Sum.inr.inj h, fun h => by rw [h]⟩
theorem start1 : startW 1 [x] = [some x] := rfl
theorem line_lt {n : Nat} (h : n ≤ 1000) : (n < sizeLine) = True := eq_true (Nat.lt_of_le_of_lt h (by decide))
end
/-! ### data of tuples alone, for == -/
mutual
def dW : W → PyData
  | .non => .none
  | .bl b => .bool b
  | .int i => .int i
  | .str x => .str x
  | .tup ws => .tuple (dWs ws)
  | .rl _ => .none
  | .ref _ => .none
  | .ty _ => .none
def dWs : List W → List PyData
  | [] => []
  | w :: ws => dW w :: dWs ws
end
mutual
def okW : Nat → W → Bool
  | _, .non => true
  | _, .bl _ => true
  | _, .int _ => true
  | _, .str x => PyData.canLay0 (.str x)
  | 0, .tup _ => false
  | n + 1, .tup ws => okWs n ws
  | _, .rl _ => false
  | _, .ref _ => false
  | _, .ty _ => false
def okWs : Nat → List W → Bool
  | _, [] => true
  | n, w :: ws => okW n w && okWs n ws
end
mutual
theorem okW_dat {S : Sto} : ∀ {n : Nat} {w : W}, okW n w = true → Dat S w (dW w) ∧ PyData.canLay0 (dW w) = true ∧ (dW w).depth ≤ n
  | n, .non, h => ⟨by rw [dW]; exact .non, by simp [dW, PyData.canLay0], by simp [dW, PyData.depth]⟩
  | n, .bl _, h => ⟨by rw [dW]; exact .bl _, by simp [dW, PyData.canLay0], by simp [dW, PyData.depth]⟩
  | n, .int _, h => ⟨by rw [dW]; exact .int _, by simp [dW, PyData.canLay0], by simp [dW, PyData.depth]⟩
  | n, .str x, h => ⟨by rw [dW]; exact .str _, by rw [dW]; simpa [okW] using h, by simp [dW, PyData.depth]⟩
  | 0, .tup ws, h => by simp [okW] at h
  | n + 1, .tup ws, h => by
    rw [okW] at h
    obtain ⟨h1, h2, h3⟩ := okWs_dat (S := S) h
    rw [dW]
    refine ⟨.tup h1, ?_, ?_⟩
    · rw [PyData.canLay0]; exact h2
    · rw [PyData.depth]; omega
  | n, .rl _, h => by simp [okW] at h
  | n, .ref _, h => by simp [okW] at h
  | n, .ty _, h => by simp [okW] at h
theorem okWs_dat {S : Sto} : ∀ {n : Nat} {ws : List W}, okWs n ws = true → DatL S ws (dWs ws) ∧ PyData.canLayAll0 (dWs ws) = true ∧ PyData.depthAll (dWs ws) ≤ n
  | n, [], h => ⟨by rw [dWs]; exact .nil, by simp [dWs, PyData.canLayAll0], by simp [dWs, PyData.depthAll]⟩
  | n, w :: ws, h => by
    rw [okWs, Bool.and_eq_true] at h
    obtain ⟨h1, h2, h3⟩ := okW_dat (S := S) h.1
    obtain ⟨h4, h5, h6⟩ := okWs_dat (S := S) h.2
    rw [dWs]
    refine ⟨.cons h1 h4, ?_, ?_⟩
    · rw [PyData.canLayAll0, h2, h5]; rfl
    · rw [PyData.depthAll]; omega
end
theorem okWs_of {n : Nat} : ∀ {ws : List W}, (∀ w ∈ ws, okW n w = true) → okWs n ws = true
  | [], _ => by rw [okWs]
  | w :: ws, h => by rw [okWs, h w List.mem_cons_self, okWs_of fun v hv => h v (List.mem_cons_of_mem _ hv)]; rfl
theorem lst_shaped {S : Sto} {a : Addr} {ws : List W} (h : S a = some (.lst ws)) (ok : okWs 60 ws = true) : Dat S (.ref a) (.list (dWs ws)) ∧ SeqAt.shaped (.list (dWs ws)) = true := by
  obtain ⟨h1, h2, h3⟩ := okWs_dat (S := S) ok
  refine ⟨.lst h h1, ?_⟩
  unfold SeqAt.shaped
  rw [PyData.canLay0, h2, PyData.depth]
  simp; omega
theorem emp_eqv (ws : List W) : PyData.eqv (.list (dWs ws)) (.list []) = ws.isEmpty := by
  cases ws with
  | nil => simp [dWs, PyData.eqv, PyData.eqvAll]
  | cons w ws => simp [dWs, PyData.eqv, PyData.eqvAll]
theorem eq_empty {S : Sto} {Q : WQ} {p p1 : Addr} {ws : List W} (h : S p = some (.lst ws)) (h' : S p1 = some (.lst [])) (ok : okWs 60 ws = true) (q : Q (.bl ws.isEmpty) S) : rEqW (.ref p) (.ref p1) S Q := by
  obtain ⟨d1, s1⟩ := lst_shaped h ok
  obtain ⟨d2, s2⟩ := lst_shaped h' (by rw [okWs])
  refine eq_dat d1 d2 s1 s2 rfl ?_
  rw [dWs, emp_eqv]
  exact q
theorem ne_empty {S : Sto} {Q : WQ} {p p1 : Addr} {ws : List W} (h : S p = some (.lst ws)) (h' : S p1 = some (.lst [])) (ok : okWs 60 ws = true) (q : Q (.bl (!ws.isEmpty)) S) : rNeW (.ref p) (.ref p1) S Q := by
  obtain ⟨d1, s1⟩ := lst_shaped h ok
  obtain ⟨d2, s2⟩ := lst_shaped h' (by rw [okWs])
  refine ne_dat d1 d2 s1 s2 rfl ?_
  rw [dWs, emp_eqv]
  exact q
theorem wd_okL : (List.range 122).all (fun i => PyData.canLay0 (.str (wd i))) = true := by decide +kernel
theorem wd_ok {i : Nat} (h : i < 122) : PyData.canLay0 (.str (wd i)) = true := by
  have z := wd_okL
  rw [List.all_eq_true] at z
  exact z i (List.mem_range.mpr h)
/-! ### comprehensions whose tests and elements write nothing -/
theorem lc_pureA {α : Type} {F G : α → W} {b : α → Bool} {i : Nat} {tt : WT} {te : WE} {Z : Sto → Prop} {D : Addr} {Q : Sto → Prop} {r : Rho} {S0 : Sto} (hZ : ∀ ws, Z (put S0 D (.lst ws))) : ∀ (xs : List α) (acc : List W),
    (∀ x ∈ xs, ∀ ws Q', Q' (b x) (put S0 D (.lst ws)) → tt (r.set i (some (F x))) (put S0 D (.lst ws)) Q') → (∀ x ∈ xs, b x = true → ∀ ws Q', Q' (G x) (put S0 D (.lst ws)) → te (r.set i (some (F x))) (put S0 D (.lst ws)) Q') → acc.length + xs.length ≤ 1000000 →
    Q (put S0 D (.lst (acc ++ (xs.filter b).map G))) → lcW Z i tt te D (xs.map F) r (put S0 D (.lst acc)) Q
  | [], acc, ht, he, hl, hq => ⟨hZ acc, by simpa using hq⟩
  | x :: xs, acc, ht, he, hl, hq => by
    have hl' : acc.length + (xs.length + 1) ≤ 1000000 := hl
    refine ⟨hZ acc, ht x List.mem_cons_self acc _ ?_⟩
    cases e : b x with
    | true =>
      show (if true = true then te (r.set i (some (F x))) (put S0 D (.lst acc)) _ else _)
      rw [if_pos rfl]
      refine he x List.mem_cons_self e acc _ ⟨acc, put_same, Nat.lt_of_le_of_lt (by omega : acc.length ≤ 1000000) (by decide), ?_⟩
      rw [put_put]
      refine lc_pureA hZ xs (acc ++ [G x]) (fun y hy => ht y (List.mem_cons_of_mem _ hy)) (fun y hy => he y (List.mem_cons_of_mem _ hy)) (by rw [List.length_append, List.length_singleton]; omega) ?_
      rw [List.filter_cons, if_pos e, List.map_cons] at hq
      rw [List.append_assoc]
      exact hq
    | false =>
      show (if false = true then _ else lcW Z i tt te D (xs.map F) r (put S0 D (.lst acc)) Q)
      rw [if_neg Bool.false_ne_true]
      rw [List.filter_cons, if_neg (by rw [e]; exact Bool.false_ne_true)] at hq
      exact lc_pureA hZ xs acc (fun y hy => ht y (List.mem_cons_of_mem _ hy)) (fun y hy => he y (List.mem_cons_of_mem _ hy)) (by omega) hq
/-- [G x for x in xs if b x] -/
theorem lc_pure {α : Type} {F G : α → W} {b : α → Bool} {i : Nat} {tt : WT} {te : WE} {Z : Sto → Prop} {D : Addr} {Q : Sto → Prop} {r : Rho} {S0 : Sto} (xs : List α) (hZ : ∀ ws, Z (put S0 D (.lst ws)))
    (ht : ∀ x ∈ xs, ∀ ws Q', Q' (b x) (put S0 D (.lst ws)) → tt (r.set i (some (F x))) (put S0 D (.lst ws)) Q') (he : ∀ x ∈ xs, b x = true → ∀ ws Q', Q' (G x) (put S0 D (.lst ws)) → te (r.set i (some (F x))) (put S0 D (.lst ws)) Q') (hl : xs.length ≤ 1000000)
    (hq : Q (put S0 D (.lst ((xs.filter b).map G)))) : lcW Z i tt te D (xs.map F) r (put S0 D (.lst [])) Q := lc_pureA hZ xs [] ht he (by simpa using hl) hq
theorem yes_ok {r : Rho} {S : Sto} {Q' : Bool → Sto → Prop} (h : Q' true S) : wYes r S Q' := h
theorem filter_true {α : Type} (xs : List α) : xs.filter (fun _ => true) = xs := by
  induction xs with
  | nil => rfl
  | cons x xs ih => rw [List.filter_cons, if_pos rfl, ih]
theorem filter_emp {α : Type} {f : α → W} {b : α → Bool} (xs : List α) : ((xs.filter fun x => !b x).map f).isEmpty = xs.all b := by
  induction xs with
  | nil => rfl
  | cons x xs ih =>
    rw [List.filter_cons, List.all_cons]
    cases b x with
    | true => simpa using ih
    | false => rfl
end WL

namespace WL
open PySem L2
local macro_rules | `(tactic| walk_at "wx") => `(tactic| simp only [↓x_var0, ↓x_varS, ↓x_c, ↓x_op, ↓x_b, ↓x_chain, ↓x_and, ↓x_or, ↓x_not, ↓x_andV, ↓x_orV, ↓x_notV, ↓x_if, ↓x_orT, ↓x_tr, ↓x_neg, ↓x_nil, ↓x_cons, ↓x_tup, ↓x_lst, ↓x_call, ↓x_lm, ↓x_lm0, ↓x_seq, ↓x_next, ↓x_ifS, ↓x_ret, ↓x_retN, ↓x_drop, ↓x_asg, ↓x_gname, ↓x_gtup, ↓x_gcons, ↓x_gnil, ↓x_gsub, ↓x_set, ↓x_for, ↓x_forR1, ↓x_lc, ↓x_lcR, ↓x_fld, ↓x_setF, ↓x_meth, ↓x_make, ↓x_sl, ↓x_part, ↓x_noPart, ↓x_yes, onB_bl, onS_some, onL_lst, onQ_some, onI_ins, onD_dk, onR_ref, onT_tup, onBo_some, x_app, x_clr, x_ext, v_add, v_addT, v_addS, v_addL, v_sub, v_mul, v_rep, v_mod, v_div, v_pow, v_lt, v_le, v_gt, v_ge, v_isN, v_notN, n_non, n_bl, n_int, n_str, n_ref, n_tup, q_ss, q_ii, q_bb, q_nn, q_is, q_si, q_in, q_ni, q_sn, q_ns, d_ss, d_ii, d_bb, d_nn, d_in, d_ni, ix_t, ix_r, ix_l, in_t, notin_t, fl_s, fl_i, fl_n, so_t, so_r, so_lp, len_t, len_r, len_s, int_i, int_b, list_x, tuple_x, min_ii, max_ii, sl_t, sl_l, look_nil, look_cons, putW_nil, putW_cons, x_inKd, x_notinKd, x_getKd, x_dget, key_s, key_i, val_nil, val_cons, inr_eq, start1, line_lt, atI0, atI1, atI2, atI3, atI4, List.map_cons, List.map_nil, List.cons_append, List.nil_append, List.set_cons_zero, List.set_cons_succ, List.length_cons, List.length_nil, List.all_cons, List.all_nil, List.replicate_succ, List.replicate_zero, Nat.reduceAdd, Nat.reduceSub, Nat.zero_add, wd_inj, Nat.reduceLT, Nat.reduceEqDiff, decide_true, decide_false, Bool.false_eq_true, Bool.true_eq_false, Bool.not_true, Bool.not_false, Bool.or_false, Bool.false_or, Bool.or_true, Bool.true_or, Bool.and_self, Bool.and_true, Bool.true_and, ↓reduceIte, reduceCtorEq, line_le, Nat.reduceLeDiff, true_and, and_true, and_self, Option.isSome_some, Option.isSome_none, Int.reduceLT, Int.reduceLE, Int.reduceEq, Int.reduceNeg, put_same, ci0, ci1, ci2, ci3, ci4, ci5, ci6, W_PAIRS, startW])

/-! ### data of a program -/
inductive Op | plus | less | times | part | below | same
def Op.str : Op → Str | .plus => w_plus | .less => w_less | .times => w_times | .part => w_part | .below => w_below | .same => w_same
theorem op_num (o : Op) : (o.str = w_num) = False := by cases o <;> simp only [Op.str, wd_inj, Nat.reduceLT, Nat.reduceEqDiff]
theorem op_slot (o : Op) : (o.str = w_slot) = False := by cases o <;> simp only [Op.str, wd_inj, Nat.reduceLT, Nat.reduceEqDiff]
inductive Rk | num (n : Int) | slot (k : Int) | op (o : Op) (a b : Rk)
def Rk.W : Rk → WL.W | .num n => .tup [.str w_num, .int n] | .slot k => .tup [.str w_slot, .int k] | .op o a b => .tup [.str o.str, a.W, b.W]
def optI : Option Int → WL.W | none => .non | some i => .int i
def slotsM (sl : List Int) : MO := .lst (sl.map .int)
def Rk.isR (slots : Int) : Nat → Rk → Bool
  | _, .num n => decide (0 ≤ n) && decide (n < 1000)
  | _, .slot k => decide (0 ≤ k) && decide (k < slots)
  | 0, .op _ _ _ => false
  | d + 1, .op _ a b => a.isR slots d && b.isR slots d
/-- the promise -/
def sp_is_reckoning (n : Nat) : WSp := fun ws S Q => ∃ (e : Rk) (slots : Int) (d : Nat), ws = [e.W, .int slots, .int d] ∧ d < n ∧ Q (.bl (e.isR slots d)) S
theorem op_in (o : Op) : inW (.str o.str) [.str w_plus, .str w_less, .str w_times, .str w_part, .str w_below, .str w_same] = true := by
  cases o <;> simp [inW, eqW, Op.str]
theorem ite_b {b : Bool} {Q : WQ} {S : Sto} (h : Q (.bl b) S) {c : Bool} (e : c = b) : if c = true then Q (.bl true) S else Q (.bl false) S := by
  subst e; cases c
  · exact h
  · exact h
theorem and_b {a b : Bool} {Q : WQ} {S : Sto} (h : Q (.bl (a && b)) S) : if a = true then Q (.bl b) S else Q (.bl false) S := by
  cases a
  · exact h
  · exact h
theorem r_is_reckoning (n : Nat) : ∀ ws S Q, Up Q → sp_is_reckoning (n + 1) ws S Q → t_is_reckoning (sp_is_reckoning n) { nx := fun _ S' => Q .non S', rt := Q } (startW 3 ws) S := by
  rintro ws S Q up ⟨e, slots, d, rfl, hd, q⟩
  cases e with
  | num k =>
    simp only [t_is_reckoning, Rk.W]
    walk_at "wx"
    simp only [Rk.isR] at q
    exact and_b q
  | slot k =>
    simp only [t_is_reckoning, Rk.W]
    walk_at "wx"
    simp only [Rk.isR] at q
    exact and_b q
  | op o a b =>
    simp only [t_is_reckoning, Rk.W]
    walk_at "wx"
    simp only [op_num, op_slot]
    walk_at "wx"
    rw [op_in]
    walk_at "wx"
    cases d with
    | zero =>
      simp only [Rk.isR] at q
      walk_at "wx"
      exact q
    | succ d =>
      have h1 : decide (((d + 1 : Nat) : Int) = 0) = false := decide_eq_false (by omega)
      have h2 : ((d + 1 : Nat) : Int) - 1 = (d : Int) := by omega
      rw [h1, h2]
      walk_at "wx"
      refine ⟨a, slots, d, rfl, by omega, ?_⟩
      simp only [Rk.isR] at q
      show if a.isR slots d = true then _ else _
      cases ha : a.isR slots d with
      | false => rw [ha] at q; exact q
      | true => rw [ha] at q; exact ⟨b, slots, d, rfl, by omega, q⟩

/-! ### steps, works, programs -/
inductive Step
  | set (k : Option Int) (e : Rk) | say (e : Rk) | give (e : Rk) (k : Option Int) | hand (w : Int) (args : List Rk) (k : Option Int)
  | ifs (e : Rk) (a b : List Step) | round (e : Rk) (a : List Step) | leave | fault (e : Rk) | ends (e : Rk)
  | try0 (a l : List Step) | tryc (a : List Step) (k : Option Int) (c l : List Step)
mutual
def Step.W : Step → WL.W
  | .set k e => .tup [.str w_set, optI k, e.W]
  | .say e => .tup [.str w_say, e.W]
  | .give e k => .tup [.str w_give, e.W, optI k]
  | .hand w args k => .tup [.str w_hand, .int w, .tup (args.map Rk.W), optI k]
  | .ifs e a b => .tup [.str w_if, e.W, .tup (Steps.W a), .tup (Steps.W b)]
  | .round e a => .tup [.str w_round, e.W, .tup (Steps.W a)]
  | .leave => .tup [.str w_leave]
  | .fault e => .tup [.str w_fault, e.W]
  | .ends e => .tup [.str w_end, e.W]
  | .try0 a l => .tup [.str w_try, .tup (Steps.W a), .non, .tup (Steps.W l)]
  | .tryc a k c l => .tup [.str w_try, .tup (Steps.W a), .tup [optI k, .tup (Steps.W c)], .tup (Steps.W l)]
def Steps.W : List Step → List WL.W
  | [] => []
  | s :: r => s.W :: Steps.W r
end
def bodies : Step → List (List Step)
  | .ifs _ a b => [a, b]
  | .round _ a => [a]
  | .try0 a l => [a, l]
  | .tryc a _ c l => [a, c, l]
  | _ => []
structure Work where
  params : Int
  slots : Int
  body : List Step
def Work.W (w : Work) : WL.W := .tup [.int w.params, .int w.slots, .tup (Steps.W w.body)]
def progM (p : List Work) : MO := .lst (p.map Work.W)
def isK (slots : Int) : Option Int → Bool
  | none => true
  | some k => decide (0 ≤ k) && decide (k < slots)
def handOk (p : List Work) (number : Nat) (w : Int) (n : Nat) : Bool := (decide ((number : Int) < w) && decide (w < p.length)) && match p[w.toNat]? with
  | some wk => decide ((n : Int) = wk.params)
  | none => false
def areParts (p : List Work) (number : Nat) (slots : Int) : Step → Bool
  | .leave => true
  | .try0 _ _ => true
  | .tryc _ k _ _ => isK slots k
  | .set k e => k.isSome && (isK slots k && e.isR slots 3)
  | .hand w args k => handOk p number w args.length && (isK slots k && args.all fun e => e.isR slots 3)
  | .give e k => isK slots k && e.isR slots 3
  | .say e => e.isR slots 3
  | .fault e => e.isR slots 3
  | .ends e => e.isR slots 3
  | .ifs e _ _ => e.isR slots 3
  | .round e _ => e.isR slots 3
def slotsOf (p : List Work) (number : Nat) : Int := match p[number]? with
  | some w => w.slots
  | none => 0
def Step.isLeave : Step → Bool | .leave => true | _ => false
def Step.isRound : Step → Bool | .round _ _ => true | _ => false
mutual
def Step.isS (p : List Work) (number : Nat) (rounds : Bool) (within : Nat) : Step → Bool
  | .ifs e a b => (decide (within ≤ 6) && areParts p number (slotsOf p number) (.ifs e a b)) && (Steps.isB p number rounds (within + 1) a && Steps.isB p number rounds (within + 1) b)
  | .round e a => (decide (within ≤ 6) && areParts p number (slotsOf p number) (.round e a)) && Steps.isB p number true (within + 1) a
  | .try0 a l => (decide (within ≤ 6) && areParts p number (slotsOf p number) (.try0 a l)) && (Steps.isB p number rounds (within + 1) a && Steps.isB p number rounds (within + 1) l)
  | .tryc a k c l => (decide (within ≤ 6) && areParts p number (slotsOf p number) (.tryc a k c l)) && (Steps.isB p number rounds (within + 1) a && (Steps.isB p number rounds (within + 1) c && Steps.isB p number rounds (within + 1) l))
  | .leave => decide (within ≤ 6) && rounds
  | .set k e => decide (within ≤ 6) && areParts p number (slotsOf p number) (.set k e)
  | .say e => decide (within ≤ 6) && areParts p number (slotsOf p number) (.say e)
  | .give e k => decide (within ≤ 6) && areParts p number (slotsOf p number) (.give e k)
  | .hand w args k => decide (within ≤ 6) && areParts p number (slotsOf p number) (.hand w args k)
  | .fault e => decide (within ≤ 6) && areParts p number (slotsOf p number) (.fault e)
  | .ends e => decide (within ≤ 6) && areParts p number (slotsOf p number) (.ends e)
def Steps.isB (p : List Work) (number : Nat) (rounds : Bool) (within : Nat) : List Step → Bool
  | [] => true
  | s :: r => s.isS p number rounds within && Steps.isB p number rounds within r
end
mutual
/-- how many calls a walk over the bodies within needs -/
def Step.dep : Step → Nat
  | .ifs _ a b => max (Steps.dep a) (Steps.dep b) + 1
  | .round _ a => Steps.dep a + 1
  | .try0 a l => max (Steps.dep a) (Steps.dep l) + 1
  | .tryc a _ c l => max (Steps.dep a) (max (Steps.dep c) (Steps.dep l)) + 1
  | _ => 0
def Steps.dep : List Step → Nat
  | [] => 0
  | s :: r => max s.dep (Steps.dep r)
end
mutual
def Step.all : Step → List Step
  | .ifs e a b => .ifs e a b :: (Steps.all a ++ Steps.all b)
  | .round e a => .round e a :: Steps.all a
  | .try0 a l => .try0 a l :: (Steps.all a ++ Steps.all l)
  | .tryc a k c l => .tryc a k c l :: (Steps.all a ++ (Steps.all c ++ Steps.all l))
  | .leave => [.leave]
  | .set k e => [.set k e]
  | .say e => [.say e]
  | .give e k => [.give e k]
  | .hand w args k => [.hand w args k]
  | .fault e => [.fault e]
  | .ends e => [.ends e]
def Steps.all : List Step → List Step
  | [] => []
  | s :: r => s.all ++ Steps.all r
end
theorem Steps.W_map : ∀ l : List Step, Steps.W l = l.map Step.W
  | [] => by simp only [Steps.W, List.map_nil]
  | s :: r => by simp only [Steps.W, List.map_cons, Steps.W_map r]

/-! ### bodies, is_kept -/
def sp_bodies : WSp := fun ws S Q => ∃ s : Step, ws = [s.W] ∧ ∀ p, S p = none → Q (.ref p) (put S p (.lst ((bodies s).map fun b => .tup (Steps.W b))))
theorem r_bodies : ∀ ws S Q, Up Q → sp_bodies ws S Q → t_bodies { nx := fun _ S' => Q .non S', rt := Q } (startW 1 ws) S := by
  rintro ws S Q up ⟨s, rfl, q⟩
  cases s <;> (simp only [t_bodies, Step.W]; walk_at "wx"; exact q)
def sp_is_kept : WSp := fun ws S Q => ∃ (k : Option Int) (slots : Int), ws = [optI k, .int slots] ∧ Q (.bl (isK slots k)) S
theorem r_is_kept : ∀ ws S Q, Up Q → sp_is_kept ws S Q → t_is_kept { nx := fun _ S' => Q .non S', rt := Q } (startW 2 ws) S := by
  rintro ws S Q up ⟨k, slots, rfl, q⟩
  cases k with
  | none => simp only [t_is_kept, optI]; walk_at "wx"; exact q
  | some k => simp only [t_is_kept, optI]; walk_at "wx"; exact and_b q
end WL

namespace WL
open PySem L2
local macro_rules | `(tactic| walk_at "wx") => `(tactic| simp only [↓x_var0, ↓x_varS, ↓x_c, ↓x_op, ↓x_b, ↓x_chain, ↓x_and, ↓x_or, ↓x_not, ↓x_andV, ↓x_orV, ↓x_notV, ↓x_if, ↓x_orT, ↓x_tr, ↓x_neg, ↓x_nil, ↓x_cons, ↓x_tup, ↓x_lst, ↓x_call, ↓x_lm, ↓x_lm0, ↓x_seq, ↓x_next, ↓x_ifS, ↓x_ret, ↓x_retN, ↓x_drop, ↓x_asg, ↓x_gname, ↓x_gtup, ↓x_gcons, ↓x_gnil, ↓x_gsub, ↓x_set, ↓x_for, ↓x_forR1, ↓x_lc, ↓x_lcR, ↓x_fld, ↓x_setF, ↓x_meth, ↓x_make, ↓x_sl, ↓x_part, ↓x_noPart, ↓x_yes, onB_bl, onS_some, onL_lst, onQ_some, onI_ins, onD_dk, onR_ref, onT_tup, onBo_some, x_app, x_clr, x_ext, v_add, v_addT, v_addS, v_addL, v_sub, v_mul, v_rep, v_mod, v_div, v_pow, v_lt, v_le, v_gt, v_ge, v_isN, v_notN, n_non, n_bl, n_int, n_str, n_ref, n_tup, q_ss, q_ii, q_bb, q_nn, q_is, q_si, q_in, q_ni, q_sn, q_ns, d_ss, d_ii, d_bb, d_nn, d_in, d_ni, ix_t, ix_r, ix_l, in_t, notin_t, fl_s, fl_i, fl_n, so_t, so_r, so_lp, len_t, len_r, len_s, int_i, int_b, list_x, tuple_x, min_ii, max_ii, sl_t, sl_l, look_nil, look_cons, putW_nil, putW_cons, x_inKd, x_notinKd, x_getKd, x_dget, key_s, key_i, val_nil, val_cons, inr_eq, start1, line_lt, atI0, atI1, atI2, atI3, atI4, List.map_cons, List.map_nil, List.cons_append, List.nil_append, List.set_cons_zero, List.set_cons_succ, List.length_cons, List.length_nil, List.all_cons, List.all_nil, List.replicate_succ, List.replicate_zero, Nat.reduceAdd, Nat.reduceSub, Nat.zero_add, wd_inj, Nat.reduceLT, Nat.reduceEqDiff, decide_true, decide_false, Bool.false_eq_true, Bool.true_eq_false, Bool.not_true, Bool.not_false, Bool.or_false, Bool.false_or, Bool.or_true, Bool.true_or, Bool.and_self, Bool.and_true, Bool.true_and, ↓reduceIte, reduceCtorEq, line_le, Nat.reduceLeDiff, true_and, and_true, and_self, Option.isSome_some, Option.isSome_none, Int.reduceLT, Int.reduceLE, Int.reduceEq, Int.reduceNeg, put_same, ci0, ci1, ci2, ci3, ci4, ci5, ci6, W_PAIRS, startW])

theorem atI_map {α β : Type} {f : α → β} {l : List α} {n : Nat} {x : α} (h : l[n]? = some x) : atI (l.map f) (n : Int) = some (f x) := atI_nat (by rw [List.getElem?_map, h]; rfl)
theorem atI_mapI {α β : Type} {f : α → β} {l : List α} {i : Int} {x : α} (h0 : 0 ≤ i) (h : l[i.toNat]? = some x) : atI (l.map f) i = some (f x) := by
  have z := atI_map (f := f) h
  rw [Int.toNat_of_nonneg h0] at z
  exact z
theorem get_some {α : Type} {l : List α} {n : Nat} (h : n < l.length) : ∃ x, l[n]? = some x := ⟨l[n], List.getElem?_eq_getElem h⟩
def Rk.deep : Rk → Nat | .num _ => 0 | .slot _ => 0 | .op _ a b => max a.deep b.deep + 1
theorem op_strOk (o : Op) : PyData.canLay0 (.str o.str) = true := by cases o <;> exact wd_ok (by decide)
theorem Rk.okW : ∀ (e : Rk) {n : Nat}, e.deep < n → WL.okW n e.W = true
  | .num _, n + 1, _ => by rw [Rk.W, WL.okW, okWs, okWs, okWs, WL.okW, WL.okW, wd_ok (by decide)]; rfl
  | .slot _, n + 1, _ => by rw [Rk.W, WL.okW, okWs, okWs, okWs, WL.okW, WL.okW, wd_ok (by decide)]; rfl
  | .op o a b, n + 1, h => by
    have h' : max a.deep b.deep + 1 < n + 1 := h
    rw [Rk.W, WL.okW, okWs, okWs, okWs, okWs, WL.okW, op_strOk, Rk.okW a (by omega), Rk.okW b (by omega)]; rfl
/-- is a list of ours empty: it is compared with a new empty one -/
theorem dat_nil {S : Sto} {a : Addr} (h : S a = some (.lst [])) : Dat S (.ref a) (.list []) := .lst h .nil
def sp_are_parts : WSp := fun ws S Q => ∃ (pr : Addr) (p : List Work) (number : Nat) (s : Step), ws = [.ref pr, .int number, s.W] ∧ S pr = some (progM p) ∧ number < p.length ∧ (∀ w args k, s = .hand w args k → args.length < 1000 ∧ ∀ e ∈ args, e.deep < 60) ∧ Q (.bl (areParts p number (slotsOf p number) s)) S
theorem r_are_parts : ∀ ws S Q, Up Q → sp_are_parts ws S Q → t_are_parts sp_is_kept (sp_is_reckoning 4) { nx := fun _ S' => Q .non S', rt := Q } (startW 5 ws) S := by
  rintro ws S Q up ⟨pr, p, number, s, rfl, hS, hn, hargs, q⟩
  obtain ⟨wk, hwk⟩ := get_some hn
  have hso : slotsOf p number = wk.slots := by unfold slotsOf; rw [hwk]
  rw [hso] at q
  simp only [t_are_parts]
  walk_at "wx"
  simp only [hS, progM, onL_lst, atI_map hwk, onS_some, Work.W]
  walk_at "wx"
  cases s with
  | leave => simp only [Step.W]; walk_at "wx"; exact q
  | try0 a l => simp only [Step.W]; walk_at "wx"; exact q
  | tryc a k c l =>
    simp only [Step.W]
    walk_at "wx"
    exact ⟨k, wk.slots, rfl, q⟩
  | set k e =>
    simp only [Step.W]
    cases k with
    | none => simp only [optI]; walk_at "wx"; exact q
    | some k =>
      simp only [optI]
      walk_at "wx"
      refine ⟨some k, wk.slots, rfl, ?_⟩
      simp only [areParts, Option.isSome_some, Bool.true_and] at q
      cases h : isK wk.slots (some k) with
      | false => rw [h] at q; exact q
      | true => rw [h] at q; exact ⟨e, wk.slots, 3, rfl, by omega, q⟩
  | say e => simp only [Step.W]; walk_at "wx"; exact ⟨e, wk.slots, 3, rfl, by omega, q⟩
  | fault e => simp only [Step.W]; walk_at "wx"; exact ⟨e, wk.slots, 3, rfl, by omega, q⟩
  | ends e => simp only [Step.W]; walk_at "wx"; exact ⟨e, wk.slots, 3, rfl, by omega, q⟩
  | ifs e a b => simp only [Step.W]; walk_at "wx"; exact ⟨e, wk.slots, 3, rfl, by omega, q⟩
  | round e a => simp only [Step.W]; walk_at "wx"; exact ⟨e, wk.slots, 3, rfl, by omega, q⟩
  | give e k =>
    simp only [Step.W]
    walk_at "wx"
    refine ⟨k, wk.slots, rfl, ?_⟩
    simp only [areParts] at q
    cases h : isK wk.slots k with
    | false => rw [h] at q; walk_at "wx"; exact q
    | true => rw [h] at q; walk_at "wx"; exact ⟨e, wk.slots, 3, rfl, by omega, q⟩
  | hand w args k =>
    simp only [Step.W]
    walk_at "wx"
    have hl := (hargs w args k rfl).1
    have hdeep := (hargs w args k rfl).2
    simp only [areParts] at q
    simp only [len_l (show S pr = some (.lst (p.map Work.W)) from hS)]
    walk_at "wx"
    simp only [List.length_map]
    by_cases h1 : (number : Int) < w
    · simp only [decide_eq_true h1]
      walk_at "wx"
      by_cases h2 : w < (p.length : Int)
      · simp only [decide_eq_true h2]
        walk_at "wx"
        obtain ⟨wk2, hwk2⟩ := get_some (l := p) (n := w.toNat) (by omega)
        simp only [hS, progM, onL_lst, atI_mapI (f := Work.W) (by omega : 0 ≤ w) hwk2, onS_some, Work.W]
        walk_at "wx"
        simp only [handOk, decide_eq_true h1, decide_eq_true h2, hwk2, Bool.true_and] at q
        by_cases h3 : (args.length : Int) = wk2.params
        · simp only [decide_eq_true h3] at q ⊢
          walk_at "wx"
          refine ⟨k, wk.slots, rfl, ?_⟩
          cases h4 : isK wk.slots k with
          | false => rw [h4] at q; exact q
          | true =>
            rw [h4] at q
            walk_at "wx"
            intro D hD
            refine lc_pure (b := fun e => !e.isR wk.slots 3) (G := Rk.W) args (fun ws => trivial) (fun e he ws Q' q' => ?_) (fun e he _ ws Q' q' => ?_) (by omega) ?_
            · walk_at "wx"
              exact ⟨e, wk.slots, 3, rfl, by omega, q'⟩
            · walk_at "wx"
              exact q'
            · intro D2 hD2
              have n2 : D ≠ D2 := fun z => by rw [← z, put_same] at hD2; cases hD2
              refine eq_empty (ws := (args.filter fun e => !e.isR wk.slots 3).map Rk.W) (by rw [put_ne n2, put_same]) put_same (okWs_of fun w hw => ?_) ?_
              · obtain ⟨e, he, rfl⟩ := List.mem_map.mp hw
                exact e.okW (hdeep e (List.mem_filter.mp he).1)
              · rw [filter_emp]
                exact up _ _ _ ((Le.put hD).trans (Le.put hD2)) q
        · simp only [decide_eq_false h3] at q ⊢
          walk_at "wx"
          exact q
      · simp only [decide_eq_false h2]
        walk_at "wx"
        simp only [handOk, decide_eq_false h2, Bool.and_false, Bool.false_and] at q
        exact q
    · simp only [decide_eq_false h1]
      walk_at "wx"
      simp only [handOk, decide_eq_false h1, Bool.false_and] at q
      exact q
end WL

namespace WL
open PySem L2
local macro_rules | `(tactic| walk_at "wx") => `(tactic| simp only [↓x_var0, ↓x_varS, ↓x_c, ↓x_op, ↓x_b, ↓x_chain, ↓x_and, ↓x_or, ↓x_not, ↓x_andV, ↓x_orV, ↓x_notV, ↓x_if, ↓x_orT, ↓x_tr, ↓x_neg, ↓x_nil, ↓x_cons, ↓x_tup, ↓x_lst, ↓x_call, ↓x_lm, ↓x_lm0, ↓x_seq, ↓x_next, ↓x_ifS, ↓x_ret, ↓x_retN, ↓x_drop, ↓x_asg, ↓x_gname, ↓x_gtup, ↓x_gcons, ↓x_gnil, ↓x_gsub, ↓x_set, ↓x_for, ↓x_forR1, ↓x_lc, ↓x_lcR, ↓x_fld, ↓x_setF, ↓x_meth, ↓x_make, ↓x_sl, ↓x_part, ↓x_noPart, ↓x_yes, onB_bl, onS_some, onL_lst, onQ_some, onI_ins, onD_dk, onR_ref, onT_tup, onBo_some, x_app, x_clr, x_ext, v_add, v_addT, v_addS, v_addL, v_sub, v_mul, v_rep, v_mod, v_div, v_pow, v_lt, v_le, v_gt, v_ge, v_isN, v_notN, n_non, n_bl, n_int, n_str, n_ref, n_tup, q_ss, q_ii, q_bb, q_nn, q_is, q_si, q_in, q_ni, q_sn, q_ns, d_ss, d_ii, d_bb, d_nn, d_in, d_ni, ix_t, ix_r, ix_l, in_t, notin_t, fl_s, fl_i, fl_n, so_t, so_r, so_lp, len_t, len_r, len_s, int_i, int_b, list_x, tuple_x, min_ii, max_ii, sl_t, sl_l, look_nil, look_cons, putW_nil, putW_cons, x_inKd, x_notinKd, x_getKd, x_dget, key_s, key_i, val_nil, val_cons, inr_eq, start1, line_lt, atI0, atI1, atI2, atI3, atI4, List.map_cons, List.map_nil, List.cons_append, List.nil_append, List.set_cons_zero, List.set_cons_succ, List.length_cons, List.length_nil, List.all_cons, List.all_nil, List.replicate_succ, List.replicate_zero, Nat.reduceAdd, Nat.reduceSub, Nat.zero_add, wd_inj, Nat.reduceLT, Nat.reduceEqDiff, decide_true, decide_false, Bool.false_eq_true, Bool.true_eq_false, Bool.not_true, Bool.not_false, Bool.or_false, Bool.false_or, Bool.or_true, Bool.true_or, Bool.and_self, Bool.and_true, Bool.true_and, ↓reduceIte, reduceCtorEq, line_le, Nat.reduceLeDiff, true_and, and_true, and_self, Option.isSome_some, Option.isSome_none, Int.reduceLT, Int.reduceLE, Int.reduceEq, Int.reduceNeg, put_same, ci0, ci1, ci2, ci3, ci4, ci5, ci6, W_PAIRS, startW])

theorem tab_word (s : Step) : ∃ (x : Str) (n : Nat) (r : List W), s.W = .tup (.str x :: r) ∧ tab_LENGTHS x = some (some (.int n)) ∧ r.length + 1 = n ∧ n < 10 := by
  cases s <;> (simp only [Step.W]; refine ⟨_, _, _, rfl, ?_, rfl, by simp⟩; simp only [tab_LENGTHS, wd_inj, Nat.reduceLT, Nat.reduceEqDiff, if_true, if_false]; rfl)
-- sizes that the lists of the checks ask
mutual
def Step.fit : Step → Prop
  | .hand _ args _ => args.length < 1000 ∧ ∀ e ∈ args, e.deep < 60
  | .ifs _ a b => Steps.fit a ∧ Steps.fit b
  | .round _ a => Steps.fit a
  | .try0 a l => Steps.fit a ∧ Steps.fit l
  | .tryc a _ c l => Steps.fit a ∧ Steps.fit c ∧ Steps.fit l
  | _ => True
def Steps.fit : List Step → Prop
  | [] => True
  | s :: r => s.fit ∧ Steps.fit r
end
def sp_is_body (n : Nat) : WSp := fun ws S Q => ∃ (pr : Addr) (p : List Work) (number : Nat) (b : List Step) (rounds : Bool) (within : Nat), ws = [.ref pr, .int number, .tup (Steps.W b), .bl rounds, .int within] ∧ S pr = some (progM p) ∧ number < p.length ∧ Steps.dep b < n ∧ Steps.fit b ∧ (∀ S', Le S S' → Q (.bl (Steps.isB p number rounds within b)) S')
/-- the bodies of a step, one after another -/
theorem isS_eq (p : List Work) (number : Nat) (rounds : Bool) (within : Nat) (s : Step) : s.isS p number rounds within = ((decide (within ≤ 6) && areParts p number (slotsOf p number) s) && ((!(s.isLeave && !rounds)) && (bodies s).all fun b => Steps.isB p number (rounds || s.isRound) (within + 1) b)) := by
  cases s <;> simp [Step.isS, Step.isLeave, Step.isRound, bodies, areParts, List.all_cons]
theorem leave_word (s : Step) (x : Str) (r : List W) (h : s.W = .tup (.str x :: r)) : (x = w_leave) = (s.isLeave = true) ∧ (x = w_round) = (s.isRound = true) := by
  cases s <;> (simp only [Step.W, W.tup.injEq, List.cons.injEq, W.str.injEq] at h; obtain ⟨rfl, _⟩ := h; simp only [Step.isLeave, Step.isRound, wd_inj, Nat.reduceLT, Nat.reduceEqDiff]; simp)
theorem dep_bodies {s : Step} {b : List Step} (h : b ∈ bodies s) : Steps.dep b < s.dep := by
  cases s <;> simp [bodies, Step.dep] at h ⊢ <;> first | omega | (rcases h with rfl | rfl | rfl <;> omega) | (rcases h with rfl | rfl <;> omega) | (subst h; omega)
theorem fit_bodies {s : Step} {b : List Step} (f : s.fit) (h : b ∈ bodies s) : Steps.fit b := by
  cases s <;> simp [bodies, Step.fit] at h f ⊢ <;> first | (rcases h with rfl | rfl | rfl <;> simp [f]) | (rcases h with rfl | rfl <;> simp [f]) | (subst h; exact f)
theorem decide_and {a b : Prop} [Decidable a] [Decidable b] (h : a = b) : decide a = decide b := by
  subst h; congr
theorem le_get {S S' : Sto} {a : Addr} {o : MO} (l : Le S S') (h : S a = some o) : S' a = some o := l a o h
theorem inner_body (a_L : Addr) (n : Nat) {pr : Addr} {p : List Work} {number : Nat} {rounds : Bool} {within : Nat} {s : Step} {x : Str} {r : List W} {S : Sto} {bw : W} {D : WD} (hw : s.W = .tup (.str x :: r)) (e2 : (x = w_round) = (s.isRound = true))
    (hn : number < p.length) : ∀ (bs : List (List Step)) (S' : Sto) (x6 : Option W), S' pr = some (progM p) → Le S S' → (∀ b ∈ bs, Steps.dep b < n ∧ Steps.fit b) → ∀ (Z : Sto → Prop), (∀ S'', Le S' S'' → Z S'') →
      (∀ S'', Le S' S'' → (bs.all fun b => Steps.isB p number (rounds || s.isRound) (within + 1) b) = false → D.rt (.bl false) S'') →
      (∀ S'' x6, Le S' S'' → (bs.all fun b => Steps.isB p number (rounds || s.isRound) (within + 1) b) = true → D.nx [some (.ref pr), some (.int number), some bw, some (.bl rounds), some (.int within), some s.W, x6] S'') →
      forW Z (gNameW 6) (l_is_body_1 a_L sp_are_parts (sp_is_body n) sp_bodies) (bs.map fun b => .tup (Steps.W b)) D [some (.ref pr), some (.int number), some bw, some (.bl rounds), some (.int within), some s.W, x6] S'
  | [], S', x6, hS, l, hb, Z, hZ, h0, h1 => by
    simp only [List.map_nil, forW]
    exact ⟨hZ _ Le.refl, h1 S' x6 Le.refl rfl⟩
  | b :: bs, S', x6, hS, l, hb, Z, hZ, h0, h1 => by
    simp only [List.map_cons, forW]
    refine ⟨hZ _ Le.refl, ?_⟩
    simp only [l_is_body_1]
    rw [hw]
    walk_at "wx"
    have hbb := hb b List.mem_cons_self
    have key : ∀ (v : Bool), v = (rounds || s.isRound) → sp_is_body n [.ref pr, .int number, .tup (Steps.W b), .bl v, .int ((within : Int) + 1)] S' (fun y S1 => onB y fun b_1 => if (!b_1) = true then D.rt (.bl false) S1 else forW Z (gNameW 6) (l_is_body_1 a_L sp_are_parts (sp_is_body n) sp_bodies) (bs.map fun b => .tup (Steps.W b)) D [some (.ref pr), some (.int number), some bw, some (.bl rounds), some (.int within), some (.tup (.str x :: r)), some (.tup (Steps.W b))] S1) := by
      rintro v rfl
      refine ⟨pr, p, number, b, _, within + 1, rfl, hS, hn, hbb.1, hbb.2, fun S1 l1 => ?_⟩
      show if (!Steps.isB p number (rounds || s.isRound) (within + 1) b) = true then _ else _
      cases hv : Steps.isB p number (rounds || s.isRound) (within + 1) b with
      | false =>
        simp only [Bool.not_false, if_true]
        exact h0 S1 l1 (by rw [List.all_cons, hv]; rfl)
      | true =>
        simp only [Bool.not_true, Bool.false_eq_true, if_false]
        rw [← hw]
        refine inner_body a_L n hw e2 hn bs S1 _ (le_get l1 hS) (l.trans l1) (fun b hb' => hb b (List.mem_cons_of_mem _ hb')) Z (fun S'' l2 => hZ _ (l1.trans l2)) (fun S'' l2 e => h0 S'' (l1.trans l2) ?_) fun S'' x6 l2 e => h1 S'' x6 (l1.trans l2) ?_
        · rw [List.all_cons, hv, e]; rfl
        · rw [List.all_cons, hv, e]; rfl
    cases rounds with
    | true => exact key true rfl
    | false =>
      simp only [Bool.false_eq_true, if_false]
      refine key _ ?_
      rw [Bool.false_or]
      cases hr : s.isRound with
      | true => rw [hr] at e2; exact decide_eq_true (e2.mpr rfl)
      | false => rw [hr] at e2; exact decide_eq_false fun z => by rw [e2] at z; cases z
theorem outer_body (a_L : Addr) (n : Nat) {Q : WQ} {pr : Addr} {p : List Work} {number : Nat} {rounds : Bool} {within : Nat} {S : Sto} (hn : number < p.length) : ∀ (b : List Step) (x5 x6 : Option W) (S' : Sto), Le S S' → S' pr = some (progM p) → Steps.dep b < n + 1 → Steps.fit b → (∀ S'', Le S S'' → Q (.bl (Steps.isB p number rounds within b)) S'') →
      ∀ (bw : W) (Z : Sto → Prop), (∀ S, Z S) → forW Z (gNameW 5) (l_is_body_2 a_L sp_are_parts (sp_is_body n) sp_bodies) (Steps.W b) { nx := fun r S' => Q (.bl true) S', rt := Q } [some (.ref pr), some (.int number), some bw, some (.bl rounds), some (.int within), x5, x6] S' := by
  intro b
  induction b with
  | nil =>
    intro x5 x6 S' l hS' hd hf q bw Z hZ
    simp only [Steps.W, forW]
    exact ⟨hZ _, by simpa [Steps.isB] using q S' l⟩
  | cons s b ih =>
    intro x5 x6 S' l hS' hd hf q bw Z hZ
    have hd' : max s.dep (Steps.dep b) < n + 1 := by simpa [Steps.dep] using hd
    have hf' : s.fit ∧ Steps.fit b := by simpa [Steps.fit] using hf
    simp only [Steps.isB, isS_eq] at q
    obtain ⟨x, k, r, hw, ht, hl, hk⟩ := tab_word s
    obtain ⟨e1, e2⟩ := leave_word s x r hw
    simp only [Steps.W, forW]
    refine ⟨hZ _, ?_⟩
    rw [hw]
    simp only [l_is_body_2]
    walk_at "wx"
    simp only [x_notinKd ht, x_getKd ht]
    walk_at "wx"
    have hlen : decide (((r.length + 1 : Nat) : Int) = (k : Int)) = true := decide_eq_true (by rw [hl])
    simp only [hlen]
    walk_at "wx"
    by_cases hw6 : within ≤ 6
    · have h6 : decide (6 < (within : Int)) = false := decide_eq_false (by omega)
      simp only [h6]
      walk_at "wx"
      rw [← hw]
      refine ⟨pr, p, number, s, rfl, hS', hn, fun w args k e => ?_, ?_⟩
      · subst e; simpa [Step.fit] using hf'.1
      simp only [decide_eq_true hw6, Bool.true_and] at q
      show if (!areParts p number (slotsOf p number) s) = true then _ else _
      cases hp : areParts p number (slotsOf p number) s with
      | false =>
        simp only [Bool.not_false, if_true]
        have z := q S' l
        rw [hp] at z
        exact z
      | true =>
        simp only [hp, Bool.true_and] at q
        simp only [Bool.not_true, Bool.false_eq_true, if_false]
        rw [hw]
        try walk_at "wx"
        have hx : decide (x = w_leave) = s.isLeave := by
          cases hs : s.isLeave with
          | true => rw [hs] at e1; exact decide_eq_true (e1.mpr rfl)
          | false => rw [hs] at e1; exact decide_eq_false fun z => by rw [e1] at z; cases z
        rw [hx]
        have rest : (s.isLeave && !rounds) = false → ∀ D : WD, D = { nx := fun r S' => forW Z (gNameW 5) (l_is_body_2 a_L sp_are_parts (sp_is_body n) sp_bodies) (Steps.W b) { nx := fun r S' => Q (.bl true) S', rt := Q } r S', rt := Q, bk := fun r S' => Q (.bl true) S', ct := fun r S' => forW Z (gNameW 5) (l_is_body_2 a_L sp_are_parts (sp_is_body n) sp_bodies) (Steps.W b) { nx := fun r S' => Q (.bl true) S', rt := Q } r S' } →
            sp_bodies [.tup (.str x :: r)] S' fun x_1 S1 => onQ (seqOf S1 x_1) fun ws => forW (fun S => seqOf S x_1 = some ws) (gNameW 6) (l_is_body_1 a_L sp_are_parts (sp_is_body n) sp_bodies) ws D [some (.ref pr), some (.int number), some bw, some (.bl rounds), some (.int within), some (.tup (.str x :: r)), x6] S1 := by
          rintro hlv D rfl
          rw [hlv] at q
          rw [← hw]
          refine ⟨s, rfl, fun pl hpl => ?_⟩
          walk_at "wx"
          refine inner_body a_L n (S := S) hw e2 hn (bodies s) _ _ (le_get (Le.put hpl) hS') (l.trans (Le.put hpl)) (fun b' hb' => ⟨by have := dep_bodies hb'; omega, fit_bodies hf'.1 hb'⟩) _ (fun S'' l2 => so_l (l2 _ _ put_same)) (fun S'' l2 e => ?_) fun S'' x6 l2 e => ?_
          · have z := q S'' ((l.trans (Le.put hpl)).trans l2)
            rw [e] at z
            exact z
          · refine ih _ _ S'' ((l.trans (Le.put hpl)).trans l2) (le_get l2 (le_get (Le.put hpl) hS')) (by omega) hf'.2 (fun S3 l3 => ?_) bw Z hZ
            have z := q S3 l3
            rw [e] at z
            exact z
        cases hlv : s.isLeave with
        | false =>
          rw [hlv] at rest
          walk_at "wx"
          exact rest rfl _ rfl
        | true =>
          rw [hlv] at rest q
          cases hrd : rounds with
          | true =>
            subst hrd
            walk_at "wx"
            exact rest rfl _ rfl
          | false =>
            subst hrd
            walk_at "wx"
            exact q S' l
    · have h6 : decide (6 < (within : Int)) = true := decide_eq_true (by omega)
      simp only [h6]
      walk_at "wx"
      have z := q S' l
      rw [decide_eq_false hw6] at z
      exact z
theorem r_is_body (a_L : Addr) (n : Nat) : ∀ ws S Q, Up Q → sp_is_body (n + 1) ws S Q → t_is_body a_L sp_are_parts (sp_is_body n) sp_bodies { nx := fun _ S' => Q .non S', rt := Q } (startW 7 ws) S := by
  rintro ws S Q up ⟨pr, p, number, b, rounds, within, rfl, hS, hn, hd, hf, q⟩
  simp only [t_is_body]
  walk_at "wx"
  exact outer_body a_L n hn b none none S Le.refl hS hd hf q _ _ fun _ => trivial
end WL

namespace WL
open PySem L2
local macro_rules | `(tactic| walk_at "wx") => `(tactic| simp only [↓x_var0, ↓x_varS, ↓x_c, ↓x_op, ↓x_b, ↓x_chain, ↓x_and, ↓x_or, ↓x_not, ↓x_andV, ↓x_orV, ↓x_notV, ↓x_if, ↓x_orT, ↓x_tr, ↓x_neg, ↓x_nil, ↓x_cons, ↓x_tup, ↓x_lst, ↓x_call, ↓x_lm, ↓x_lm0, ↓x_seq, ↓x_next, ↓x_ifS, ↓x_ret, ↓x_retN, ↓x_drop, ↓x_asg, ↓x_gname, ↓x_gtup, ↓x_gcons, ↓x_gnil, ↓x_gsub, ↓x_set, ↓x_for, ↓x_forR1, ↓x_lc, ↓x_lcR, ↓x_fld, ↓x_setF, ↓x_meth, ↓x_make, ↓x_sl, ↓x_part, ↓x_noPart, ↓x_yes, onB_bl, onS_some, onL_lst, onQ_some, onI_ins, onD_dk, onR_ref, onT_tup, onBo_some, x_app, x_clr, x_ext, v_add, v_addT, v_addS, v_addL, v_sub, v_mul, v_rep, v_mod, v_div, v_pow, v_lt, v_le, v_gt, v_ge, v_isN, v_notN, n_non, n_bl, n_int, n_str, n_ref, n_tup, q_ss, q_ii, q_bb, q_nn, q_is, q_si, q_in, q_ni, q_sn, q_ns, d_ss, d_ii, d_bb, d_nn, d_in, d_ni, ix_t, ix_r, ix_l, in_t, notin_t, fl_s, fl_i, fl_n, so_t, so_r, so_lp, len_t, len_r, len_s, int_i, int_b, list_x, tuple_x, min_ii, max_ii, sl_t, sl_l, look_nil, look_cons, putW_nil, putW_cons, x_inKd, x_notinKd, x_getKd, x_dget, key_s, key_i, val_nil, val_cons, inr_eq, start1, line_lt, atI0, atI1, atI2, atI3, atI4, List.map_cons, List.map_nil, List.cons_append, List.nil_append, List.set_cons_zero, List.set_cons_succ, List.length_cons, List.length_nil, List.all_cons, List.all_nil, List.replicate_succ, List.replicate_zero, Nat.reduceAdd, Nat.reduceSub, Nat.zero_add, wd_inj, Nat.reduceLT, Nat.reduceEqDiff, decide_true, decide_false, Bool.false_eq_true, Bool.true_eq_false, Bool.not_true, Bool.not_false, Bool.or_false, Bool.false_or, Bool.or_true, Bool.true_or, Bool.and_self, Bool.and_true, Bool.true_and, ↓reduceIte, reduceCtorEq, line_le, Nat.reduceLeDiff, true_and, and_true, and_self, Option.isSome_some, Option.isSome_none, Int.reduceLT, Int.reduceLE, Int.reduceEq, Int.reduceNeg, put_same, ci0, ci1, ci2, ci3, ci4, ci5, ci6, W_PAIRS, startW])

/-- a store that knows more, but for the object at p -/
def Lx (p : Addr) (S S' : Sto) : Prop := ∀ a o, a ≠ p → S a = some o → S' a = some o
theorem Lx.refl {p : Addr} {S : Sto} : Lx p S S := fun _ _ _ h => h
theorem Lx.trans {p : Addr} {S S1 S2 : Sto} (a : Lx p S S1) (b : Lx p S1 S2) : Lx p S S2 := fun x o n h => b x o n (a x o n h)
theorem Lx.put {p : Addr} {S : Sto} {o : MO} : Lx p S (put S p o) := fun a u n e => by rw [put_ne n]; exact e
theorem Lx.new {p q : Addr} {S : Sto} {o : MO} (h : S q = none) : Lx p S (WL.put S q o) := fun a u n e => Le.put h a u e
theorem Lx.le {p : Addr} {S S' : Sto} (l : Le S S') : Lx p S S' := fun a u n e => l a u e
theorem ne_none {S : Sto} {a p : Addr} {o : MO} (h : S a = some o) (h' : S p = none) : a ≠ p := fun e => by subst e; rw [h] at h'; cases h'
theorem all_eq (s : Step) : s.all = s :: (bodies s).flatMap Steps.all := by
  cases s <;> simp [Step.all, bodies, List.flatMap_cons]
def sp_all_steps (n : Nat) : WSp := fun ws S Q => ∃ b : List Step, ws = [.tup (Steps.W b)] ∧ Steps.dep b < n ∧ (Steps.all b).length ≤ 100000 ∧ ∀ p, S p = none → Q (.ref p) (put S p (.lst ((Steps.all b).map Step.W)))
theorem small_len {n : Nat} (h : n ≤ 1000000) : n < sizeLine := Nat.lt_of_le_of_lt h (by decide)
theorem inner_all (n : Nat) {p : Addr} {bw sw : W} {D : WD} : ∀ (bs : List (List Step)) (S' : Sto) (acc : List W) (x3 : Option W), S' p = some (.lst acc) → acc.length + (bs.flatMap Steps.all).length ≤ 100000 → (∀ b ∈ bs, Steps.dep b < n) → ∀ (Z : Sto → Prop), (∀ S'', Lx p S' S'' → Z S'') →
      (∀ S'' x3, Lx p S' S'' → S'' p = some (.lst (acc ++ (bs.flatMap Steps.all).map Step.W)) → D.nx [some bw, some (.ref p), some sw, x3] S'') →
      forW Z (gNameW 3) (l_all_steps_1 (sp_all_steps n) sp_bodies) (bs.map fun b => .tup (Steps.W b)) D [some bw, some (.ref p), some sw, x3] S'
  | [], S', acc, x3, hp, hl, hb, Z, hZ, h1 => by
    simp only [List.map_nil, forW]
    exact ⟨hZ _ Lx.refl, h1 S' x3 Lx.refl (by simpa using hp)⟩
  | b :: bs, S', acc, x3, hp, hl, hb, Z, hZ, h1 => by
    simp only [List.map_cons, forW]
    refine ⟨hZ _ Lx.refl, ?_⟩
    rw [List.flatMap_cons, List.length_append] at hl
    simp only [l_all_steps_1]
    walk_at "wx"
    refine ⟨⟨acc, by simp only [rdl, hp]⟩, b, rfl, hb b List.mem_cons_self, by omega, fun p3 h3 => ?_⟩
    have n3 : p ≠ p3 := ne_none hp h3
    have e1 : (put S' p3 (.lst ((Steps.all b).map Step.W))) p = some (.lst acc) := by rw [put_ne n3]; exact hp
    simp only [x_ext, e1, put_same, onL_lst]
    refine ⟨Nat.le_of_lt (small_len (by rw [List.length_map]; omega)), ?_⟩
    have k : Lx p S' (put (put S' p3 (.lst ((Steps.all b).map Step.W))) p (.lst (acc ++ (Steps.all b).map Step.W))) := (Lx.new h3).trans Lx.put
    refine inner_all n bs _ (acc ++ (Steps.all b).map Step.W) _ put_same (by rw [List.length_append, List.length_map]; omega) (fun b hb' => hb b (List.mem_cons_of_mem _ hb')) Z (fun S'' l2 => hZ _ (k.trans l2)) fun S'' x3 l2 e => h1 S'' x3 (k.trans l2) ?_
    rw [e, List.flatMap_cons, List.map_append, List.append_assoc]
theorem outer_all (n : Nat) {p : Addr} {bw : W} {D : WD} : ∀ (b : List Step) (S' : Sto) (acc : List W) (x2 x3 : Option W), S' p = some (.lst acc) → acc.length + (Steps.all b).length ≤ 100000 → Steps.dep b < n + 1 → ∀ (Z : Sto → Prop), (∀ S, Z S) →
      (∀ S'' x2 x3, Lx p S' S'' → S'' p = some (.lst (acc ++ (Steps.all b).map Step.W)) → D.nx [some bw, some (.ref p), x2, x3] S'') →
      forW Z (gNameW 2) (l_all_steps_2 (sp_all_steps n) sp_bodies) (Steps.W b) D [some bw, some (.ref p), x2, x3] S'
  | [], S', acc, x2, x3, hp, hl, hd, Z, hZ, h1 => by
    simp only [Steps.W, forW]
    exact ⟨hZ _, h1 S' x2 x3 Lx.refl (by simpa [Steps.all] using hp)⟩
  | s :: b, S', acc, x2, x3, hp, hl, hd, Z, hZ, h1 => by
    simp only [Steps.W, forW]
    refine ⟨hZ _, ?_⟩
    have hd' : max s.dep (Steps.dep b) < n + 1 := by simpa [Steps.dep] using hd
    rw [Steps.all, List.length_append, all_eq, List.length_cons] at hl
    simp only [l_all_steps_2]
    walk_at "wx"
    refine ⟨⟨acc, by simp only [rdl, hp]⟩, ?_⟩
    simp only [x_app, hp, onL_lst]
    refine ⟨small_len (by omega), ?_⟩
    refine ⟨s, rfl, fun pl hpl => ?_⟩
    walk_at "wx"
    have npl : p ≠ pl := ne_none (put_same (S := S')) hpl
    have k1 : Lx p S' (put (put S' p (.lst (acc ++ [s.W]))) pl (.lst ((bodies s).map fun b => .tup (Steps.W b)))) := Lx.put.trans (Lx.new hpl)
    refine inner_all n (bodies s) _ (acc ++ [s.W]) _ (by rw [put_ne npl, put_same]) (by rw [List.length_append, List.length_singleton]; omega) (fun b' hb' => by have := dep_bodies hb'; omega) _ (fun S'' l2 => so_l (l2 _ _ (Ne.symm npl) put_same)) fun S'' x3 l2 e => ?_
    refine outer_all n b S'' _ _ _ e (by rw [List.length_append, List.length_append, List.length_map, List.length_singleton]; omega) (by omega) Z hZ fun S3 x2 x3 l3 e3 => h1 S3 x2 x3 ((k1.trans l2).trans l3) ?_
    rw [e3, Steps.all, all_eq, List.map_append, List.map_cons, List.append_assoc, List.append_assoc]
    rfl
theorem r_all_steps (n : Nat) : ∀ ws S Q, Up Q → sp_all_steps (n + 1) ws S Q → t_all_steps (sp_all_steps n) sp_bodies { nx := fun _ S' => Q .non S', rt := Q } (startW 4 ws) S := by
  rintro ws S Q up ⟨b, rfl, hd, hl, q⟩
  simp only [t_all_steps]
  walk_at "wx"
  intro p hp
  refine outer_all n b _ [] none none put_same (by simp; omega) hd _ (fun _ => trivial) fun S'' x2 x3 l e => ?_
  walk_at "wx"
  refine up _ _ _ (fun a o h => ?_) (q p hp)
  by_cases ea : a = p
  · subst ea
    rw [put_same] at h
    rw [e, List.nil_append]
    exact h
  · rw [put_ne ea] at h
    exact l a o ea (by rw [put_ne ea]; exact h)

/-! ### is_work, need_program, need_work -/
def Work.ok (p : List Work) (number : Nat) (w : Work) : Bool := (decide (1 ≤ w.slots) && decide (w.slots ≤ 4)) && ((decide (0 ≤ w.params) && decide (w.params ≤ 2)) && !decide (w.slots < w.params)) && (Steps.isB p number false 0 w.body && decide ((Steps.all w.body).length ≤ 40))
/-- what the checks ask of a program's sizes -/
structure Work.fit (w : Work) (n : Nat) : Prop where
  dep : Steps.dep w.body < n
  fit : Steps.fit w.body
  len : (Steps.all w.body).length ≤ 100000
def sp_is_work (n : Nat) : WSp := fun ws S Q => ∃ (pr : Addr) (p : List Work) (number : Nat) (w : Work), ws = [.ref pr, .int number] ∧ S pr = some (progM p) ∧ p[number]? = some w ∧ w.fit n ∧ ∀ S', Le S S' → Q (.bl (w.ok p number)) S'
theorem r_is_work (n : Nat) : ∀ ws S Q, Up Q → sp_is_work n ws S Q → t_is_work (sp_is_body n) (sp_all_steps n) { nx := fun _ S' => Q .non S', rt := Q } (startW 5 ws) S := by
  rintro ws S Q up ⟨pr, p, number, w, rfl, hS, hw, hf, q⟩
  simp only [t_is_work]
  walk_at "wx"
  simp only [hS, progM, onL_lst, atI_map (f := Work.W) hw, onS_some, Work.W]
  walk_at "wx"
  have hn : number < p.length := (List.getElem?_eq_some_iff.mp hw).1
  unfold Work.ok at q
  have main : ∀ (Q' : WQ), (∀ S', Le S S' → Q' (.bl (Steps.isB p number false 0 w.body && decide ((Steps.all w.body).length ≤ 40))) S') →
      sp_is_body n [.ref pr, .int number, .tup (Steps.W w.body), .bl false, .int 0] S fun x S1 => onB x fun c => if c = true then sp_all_steps n [.tup (Steps.W w.body)] S1 fun x S1 => rLenW [x] S1 fun x S1 => rLe x (.int 40) S1 Q' else Q' (.bl false) S1 := by
    intro Q' q'
    refine ⟨pr, p, number, w.body, false, 0, rfl, hS, hn, hf.dep, hf.fit, fun S1 l1 => ?_⟩
    show if Steps.isB p number false 0 w.body = true then _ else _
    cases hb : Steps.isB p number false 0 w.body with
    | false => rw [hb] at q'; exact q' S1 l1
    | true =>
      rw [hb] at q'
      refine ⟨w.body, rfl, hf.dep, hf.len, fun p2 h2 => ?_⟩
      simp only [len_l put_same]
      walk_at "wx"
      have z := q' _ (l1.trans (Le.put (o := .lst ((Steps.all w.body).map Step.W)) h2))
      rw [List.length_map]
      rw [Bool.true_and] at z
      have e : decide ((((Steps.all w.body).length : Nat) : Int) ≤ 40) = decide ((Steps.all w.body).length ≤ 40) := by
        by_cases h : (Steps.all w.body).length ≤ 40
        · rw [decide_eq_true h]; exact decide_eq_true (by omega)
        · rw [decide_eq_false h]; exact decide_eq_false (by omega)
      rw [e]
      exact z
  cases h1 : decide (1 ≤ w.slots) with
  | false => rw [h1] at q; walk_at "wx"; exact q S Le.refl
  | true =>
    cases h2 : decide (w.slots ≤ 4) with
    | false => rw [h1, h2] at q; walk_at "wx"; exact q S Le.refl
    | true =>
      cases h3 : decide (0 ≤ w.params) with
      | false => rw [h1, h2, h3] at q; walk_at "wx"; exact q S Le.refl
      | true =>
        cases h4 : decide (w.params ≤ 2) with
        | false => rw [h1, h2, h3, h4] at q; walk_at "wx"; exact q S Le.refl
        | true =>
          cases h5 : decide (w.slots < w.params) with
          | true => rw [h1, h2, h3, h4, h5] at q; walk_at "wx"; exact q S Le.refl
          | false =>
            rw [h1, h2, h3, h4, h5] at q
            walk_at "wx"
            exact main Q q
end WL

namespace WL
open PySem L2
local macro_rules | `(tactic| walk_at "wx") => `(tactic| simp only [↓x_var0, ↓x_varS, ↓x_c, ↓x_op, ↓x_b, ↓x_chain, ↓x_and, ↓x_or, ↓x_not, ↓x_andV, ↓x_orV, ↓x_notV, ↓x_if, ↓x_orT, ↓x_tr, ↓x_neg, ↓x_nil, ↓x_cons, ↓x_tup, ↓x_lst, ↓x_call, ↓x_lm, ↓x_lm0, ↓x_seq, ↓x_next, ↓x_ifS, ↓x_ret, ↓x_retN, ↓x_drop, ↓x_asg, ↓x_gname, ↓x_gtup, ↓x_gcons, ↓x_gnil, ↓x_gsub, ↓x_set, ↓x_for, ↓x_forR1, ↓x_lc, ↓x_lcR, ↓x_fld, ↓x_setF, ↓x_meth, ↓x_make, ↓x_sl, ↓x_part, ↓x_noPart, ↓x_yes, onB_bl, onS_some, onL_lst, onQ_some, onI_ins, onD_dk, onR_ref, onT_tup, onBo_some, x_app, x_clr, x_ext, v_add, v_addT, v_addS, v_addL, v_sub, v_mul, v_rep, v_mod, v_div, v_pow, v_lt, v_le, v_gt, v_ge, v_isN, v_notN, n_non, n_bl, n_int, n_str, n_ref, n_tup, q_ss, q_ii, q_bb, q_nn, q_is, q_si, q_in, q_ni, q_sn, q_ns, d_ss, d_ii, d_bb, d_nn, d_in, d_ni, ix_t, ix_r, ix_l, in_t, notin_t, fl_s, fl_i, fl_n, so_t, so_r, so_lp, len_t, len_r, len_s, int_i, int_b, list_x, tuple_x, min_ii, max_ii, sl_t, sl_l, look_nil, look_cons, putW_nil, putW_cons, x_inKd, x_notinKd, x_getKd, x_dget, key_s, key_i, val_nil, val_cons, inr_eq, start1, line_lt, atI0, atI1, atI2, atI3, atI4, List.map_cons, List.map_nil, List.cons_append, List.nil_append, List.set_cons_zero, List.set_cons_succ, List.length_cons, List.length_nil, List.all_cons, List.all_nil, List.replicate_succ, List.replicate_zero, Nat.reduceAdd, Nat.reduceSub, Nat.zero_add, wd_inj, Nat.reduceLT, Nat.reduceEqDiff, decide_true, decide_false, Bool.false_eq_true, Bool.true_eq_false, Bool.not_true, Bool.not_false, Bool.or_false, Bool.false_or, Bool.or_true, Bool.true_or, Bool.and_self, Bool.and_true, Bool.true_and, ↓reduceIte, reduceCtorEq, line_le, Nat.reduceLeDiff, true_and, and_true, and_self, Option.isSome_some, Option.isSome_none, Int.reduceLT, Int.reduceLE, Int.reduceEq, Int.reduceNeg, put_same, ci0, ci1, ci2, ci3, ci4, ci5, ci6, W_PAIRS, startW])

structure progOk (p : List Work) (n : Nat) : Prop where
  l1 : 1 ≤ p.length
  l4 : p.length ≤ 4
  ok : ∀ (number : Nat) (w : Work), p[number]? = some w → w.ok p number = true ∧ w.fit n
def sp_need_program (n : Nat) : WSp := fun ws S Q => ∃ (pr : Addr) (p : List Work), ws = [.ref pr] ∧ S pr = some (progM p) ∧ progOk p n ∧ ∀ S', Le S S' → Q .non S'
theorem need_loop (n : Nat) {pr : Addr} {p : List Work} (hp : progOk p n) {Q : WQ} : ∀ (ks : List Nat) (x1 : Option W) (S : Sto), S pr = some (progM p) → (∀ k ∈ ks, k < p.length) → (∀ S', Le S S' → Q .non S') →
    forW (fun _ => True) (gNameW 1) (l_need_program_1 (sp_is_work n)) (ks.map fun i => W.int (i : Nat)) { nx := fun r S' => Q .non S', rt := Q } [some (.ref pr), x1] S
  | [], x1, S, hS, hk, q => by
    simp only [List.map_nil, forW]
    exact ⟨trivial, q S Le.refl⟩
  | k :: ks, x1, S, hS, hk, q => by
    simp only [List.map_cons, forW, l_need_program_1]
    refine ⟨trivial, ?_⟩
    walk_at "wx"
    obtain ⟨w, hw⟩ := get_some (hk k List.mem_cons_self)
    obtain ⟨h1, h2⟩ := hp.ok k w hw
    refine ⟨pr, p, k, w, rfl, hS, hw, h2, fun S1 l1 => ?_⟩
    rw [h1]
    walk_at "wx"
    exact need_loop n hp ks _ S1 (l1 _ _ hS) (fun j hj => hk j (List.mem_cons_of_mem _ hj)) fun S' l => q S' (l1.trans l)
theorem r_need_program (n : Nat) : ∀ ws S Q, Up Q → sp_need_program n ws S Q → t_need_program (sp_is_work n) { nx := fun _ S' => Q .non S', rt := Q } (startW 2 ws) S := by
  rintro ws S Q up ⟨pr, p, rfl, hS, hp, q⟩
  simp only [t_need_program]
  walk_at "wx"
  simp only [len_l (show S pr = some (.lst (p.map Work.W)) from hS), List.length_map]
  walk_at "wx"
  have h1 := hp.l1
  have h4 := hp.l4
  simp only [decide_eq_true (show (1 : Int) ≤ (p.length : Int) by omega), decide_eq_true (show (p.length : Int) ≤ 4 by omega)]
  walk_at "wx"
  simp only [len_l (show S pr = some (.lst (p.map Work.W)) from hS), List.length_map]
  refine ⟨⟨by omega, by omega⟩, ?_⟩
  rw [Int.toNat_natCast]
  exact need_loop n hp _ none S hS (fun k hk => List.mem_range.mp hk) q
def sp_need_work : WSp := fun ws S Q => ∃ (pr : Addr) (p : List Work) (k : Nat), ws = [.ref pr, .int k] ∧ S pr = some (progM p) ∧ k < p.length ∧ Q .non S
theorem r_need_work : ∀ ws S Q, Up Q → sp_need_work ws S Q → t_need_work { nx := fun _ S' => Q .non S', rt := Q } (startW 2 ws) S := by
  rintro ws S Q up ⟨pr, p, k, rfl, hS, hk, q⟩
  simp only [t_need_work]
  walk_at "wx"
  simp only [decide_eq_true (show (0 : Int) ≤ (k : Int) by omega)]
  walk_at "wx"
  simp only [len_l (show S pr = some (.lst (p.map Work.W)) from hS), List.length_map]
  walk_at "wx"
  simp only [decide_eq_true (show (k : Int) < (p.length : Int) by omega)]
  walk_at "wx"
  exact q

/-! ### reckonings -/
def InR (i : Int) : Prop := 0 ≤ i ∧ i < 1000
def pairedI : Op → Int → Int → Option Int
  | .plus, a, b => some ((a + b) % 1000)
  | .less, a, b => some ((a - b) % 1000)
  | .times, a, b => some (a * b % 1000)
  | .part, a, b => if b = 0 then none else some (a / b)
  | .below, a, b => some (if a < b then 1 else 0)
  | .same, a, b => some (if a = b then 1 else 0)
def reck (sl : List Int) : Rk → Option Int
  | .num n => some n
  | .slot k => sl[k.toNat]?
  | .op o a b => match reck sl a, reck sl b with
    | some x, some y => pairedI o x y
    | _, _ => none
def Rk.ok (m : Nat) : Rk → Prop
  | .num n => InR n
  | .slot k => 0 ≤ k ∧ k < m
  | .op _ a b => a.ok m ∧ b.ok m
theorem pairedI_in {o : Op} {a b c : Int} (ha : InR a) (hb : InR b) (h : pairedI o a b = some c) : InR c := by
  unfold InR at *
  cases o <;> simp only [pairedI, Option.some.injEq] at h
  · omega
  · omega
  · subst h; exact ⟨Int.emod_nonneg _ (by decide), Int.emod_lt_of_pos _ (by decide)⟩
  · split at h
    · cases h
    · cases h
      have hb' : 0 < b := by omega
      have h1 : 0 ≤ a / b := Int.ediv_nonneg ha.1 (by omega)
      have h2 : a / b ≤ a := Int.ediv_le_self _ ha.1
      omega
  · split at h <;> omega
  · split at h <;> omega
theorem reck_in {sl : List Int} (hs : ∀ i ∈ sl, InR i) : ∀ {e : Rk} {c : Int}, e.ok sl.length → reck sl e = some c → InR c
  | .num n, c, ok, h => by cases h; exact ok
  | .slot k, c, ok, h => hs c (List.mem_of_getElem? h)
  | .op o a b, c, ok, h => by
    unfold reck at h
    split at h
    · rename_i x y hx hy
      exact pairedI_in (reck_in hs ok.1 hx) (reck_in hs ok.2 hy) h
    · cases h
def sp_paired : WSp := fun ws S Q => ∃ (o : Op) (a b : Int), ws = [.str o.str, .int a, .int b] ∧ InR a ∧ InR b ∧ Q (optI (pairedI o a b)) S
theorem r_paired : ∀ ws S Q, Up Q → sp_paired ws S Q → t_paired { nx := fun _ S' => Q .non S', rt := Q } (startW 3 ws) S := by
  rintro ws S Q up ⟨o, a, b, rfl, ha, hb, q⟩
  unfold InR at ha hb
  cases o with
  | plus => simp only [t_paired, Op.str]; walk_at "wx"; exact q
  | less => simp only [t_paired, Op.str]; walk_at "wx"; exact q
  | times =>
    simp only [t_paired, Op.str]
    walk_at "wx"
    exact ⟨.inl ⟨by omega, by omega⟩, q⟩
  | part =>
    simp only [t_paired, Op.str]
    walk_at "wx"
    simp only [pairedI] at q
    by_cases h : b = 0
    · simp only [decide_eq_true h]
      rw [if_pos h] at q
      walk_at "wx"
      exact q
    · simp only [decide_eq_false h]
      rw [if_neg h] at q
      walk_at "wx"
      exact ⟨⟨by omega, by omega⟩, q⟩
  | below =>
    simp only [t_paired, Op.str]
    walk_at "wx"
    simp only [pairedI] at q
    by_cases h : a < b
    · simp only [decide_eq_true h, if_true]; rw [if_pos h] at q; exact q
    · simp only [decide_eq_false h, Bool.false_eq_true, if_false]; rw [if_neg h] at q; exact q
  | same =>
    simp only [t_paired, Op.str]
    walk_at "wx"
    simp only [pairedI] at q
    by_cases h : a = b
    · simp only [decide_eq_true h, if_true]; rw [if_pos h] at q; exact q
    · simp only [decide_eq_false h, Bool.false_eq_true, if_false]; rw [if_neg h] at q; exact q
def sp_reckoned (n : Nat) : WSp := fun ws S Q => ∃ (e : Rk) (a : Addr) (sl : List Int), ws = [e.W, .ref a] ∧ S a = some (slotsM sl) ∧ (∀ i ∈ sl, InR i) ∧ e.ok sl.length ∧ e.deep < n ∧ Q (optI (reck sl e)) S
theorem r_reckoned (n : Nat) : ∀ ws S Q, Up Q → sp_reckoned (n + 1) ws S Q → t_reckoned (sp_reckoned n) sp_paired { nx := fun _ S' => Q .non S', rt := Q } (startW 4 ws) S := by
  rintro ws S Q up ⟨e, a, sl, rfl, hS, hs, ok, hd, q⟩
  cases e with
  | num k => simp only [t_reckoned, Rk.W]; walk_at "wx"; exact q
  | slot k =>
    simp only [t_reckoned, Rk.W]
    walk_at "wx"
    obtain ⟨h0, h1⟩ := (show 0 ≤ k ∧ k < sl.length from ok)
    obtain ⟨v, hv⟩ := get_some (l := sl) (n := k.toNat) (by omega)
    simp only [hS, slotsM, onL_lst, atI_mapI (f := W.int) h0 hv, onS_some]
    simp only [reck, hv, optI] at q
    exact q
  | op o x y =>
    have hd' : max x.deep y.deep + 1 < n + 1 := hd
    simp only [t_reckoned, Rk.W]
    walk_at "wx"
    simp only [op_num, op_slot]
    walk_at "wx"
    refine ⟨x, a, sl, rfl, hS, hs, ok.1, by omega, y, a, sl, rfl, hS, hs, ok.2, by omega, ?_⟩
    simp only [reck] at q
    cases hx : reck sl x with
    | none =>
      simp only [hx, optI] at q ⊢
      walk_at "wx"
      exact q
    | some i =>
      cases hy : reck sl y with
      | none =>
        simp only [hx, hy, optI] at q ⊢
        walk_at "wx"
        exact q
      | some j =>
        simp only [hx, hy, optI] at q ⊢
        walk_at "wx"
        exact ⟨o, i, j, rfl, reck_in hs ok.1 hx, reck_in hs ok.2 hy, q⟩
def allReck (sl : List Int) : List Rk → Option (List Int)
  | [] => some []
  | e :: es => match reck sl e, allReck sl es with
    | some x, some xs => some (x :: xs)
    | _, _ => none
theorem allReck_some {sl : List Int} : ∀ {es : List Rk} {ns : List Int}, allReck sl es = some ns → es.map (fun e => optI (reck sl e)) = ns.map .int ∧ inW .non (ns.map W.int) = false ∧ (∀ m, (∀ i ∈ sl, InR i) → m = sl.length → (∀ e ∈ es, e.ok m) → ∀ i ∈ ns, InR i) ∧ ns.length = es.length
  | [], ns, h => by cases h; exact ⟨rfl, rfl, fun _ _ _ _ i hi => (nomatch hi), rfl⟩
  | e :: es, ns, h => by
    unfold allReck at h
    split at h
    · rename_i x xs hx hxs
      cases h
      obtain ⟨h1, h2, h3, h4⟩ := allReck_some hxs
      refine ⟨by rw [List.map_cons, List.map_cons, h1, hx]; rfl, by rw [List.map_cons, inW_cons, h2]; rfl, fun m hs hm ho i hi => ?_, by rw [List.length_cons, List.length_cons, h4]⟩
      rcases List.mem_cons.mp hi with rfl | hi
      · exact reck_in hs (by rw [← hm]; exact ho e List.mem_cons_self) hx
      · exact h3 m hs hm (fun e' he' => ho e' (List.mem_cons_of_mem _ he')) i hi
    · cases h
theorem allReck_none {sl : List Int} : ∀ {es : List Rk}, allReck sl es = none → inW .non (es.map fun e => optI (reck sl e)) = true
  | [], h => by cases h
  | e :: es, h => by
    rw [List.map_cons, inW_cons]
    unfold allReck at h
    cases hx : reck sl e with
    | none => rfl
    | some x =>
      rw [hx] at h
      cases hxs : allReck sl es with
      | none => rw [allReck_none hxs]; simp
      | some xs => rw [hxs] at h; cases h
theorem flat_optI {sl : List Int} (es : List Rk) : (es.map fun e => optI (reck sl e)).all flatW = true := by
  rw [List.all_eq_true]
  intro w hw
  obtain ⟨e, _, rfl⟩ := List.mem_map.mp hw
  cases reck sl e <;> rfl
def sp_all_reckoned (n : Nat) : WSp := fun ws S Q => ∃ (es : List Rk) (a : Addr) (sl : List Int), ws = [.tup (es.map Rk.W), .ref a] ∧ S a = some (slotsM sl) ∧ (∀ i ∈ sl, InR i) ∧ (∀ e ∈ es, e.ok sl.length ∧ e.deep < n) ∧ es.length ≤ 1000 ∧
  (allReck sl es = none → Q .non S) ∧ ∀ ns, allReck sl es = some ns → ∀ p, S p = none → Q (.ref p) (put S p (slotsM ns))
theorem r_all_reckoned (n : Nat) : ∀ ws S Q, Up Q → sp_all_reckoned n ws S Q → t_all_reckoned (sp_reckoned n) { nx := fun _ S' => Q .non S', rt := Q } (startW 4 ws) S := by
  rintro ws S Q up ⟨es, a, sl, rfl, hS, hs, ok, hl, q0, q1⟩
  simp only [t_all_reckoned]
  walk_at "wx"
  intro p hp
  have na : a ≠ p := ne_none hS hp
  refine lc_pure (b := fun _ => true) (G := fun e => optI (reck sl e)) es (fun _ => trivial) (fun e he ws Q' q' => q') (fun e he _ ws Q' q' => ?_) (by omega) ?_
  · walk_at "wx"
    exact ⟨e, a, sl, rfl, by rw [put_ne na]; exact hS, hs, (ok e he).1, (ok e he).2, q'⟩
  · rw [filter_true]
    rw [in_l put_same]
    refine ⟨⟨rfl, flat_optI es⟩, ?_⟩
    cases h : allReck sl es with
    | none =>
      rw [allReck_none h]
      walk_at "wx"
      exact up _ _ _ (Le.put hp) (q0 h)
    | some ns =>
      obtain ⟨h1, h2, _⟩ := allReck_some h
      rw [h1, h2]
      walk_at "wx"
      exact q1 ns h p hp
end WL

namespace WL
open PySem L2
local macro_rules | `(tactic| walk_at "wx") => `(tactic| simp only [↓x_var0, ↓x_varS, ↓x_c, ↓x_op, ↓x_b, ↓x_chain, ↓x_and, ↓x_or, ↓x_not, ↓x_andV, ↓x_orV, ↓x_notV, ↓x_if, ↓x_orT, ↓x_tr, ↓x_neg, ↓x_nil, ↓x_cons, ↓x_tup, ↓x_lst, ↓x_call, ↓x_lm, ↓x_lm0, ↓x_seq, ↓x_next, ↓x_ifS, ↓x_ret, ↓x_retN, ↓x_drop, ↓x_asg, ↓x_gname, ↓x_gtup, ↓x_gcons, ↓x_gnil, ↓x_gsub, ↓x_set, ↓x_for, ↓x_forR1, ↓x_lc, ↓x_lcR, ↓x_fld, ↓x_setF, ↓x_meth, ↓x_make, ↓x_sl, ↓x_part, ↓x_noPart, ↓x_yes, onB_bl, onS_some, onL_lst, onQ_some, onI_ins, onD_dk, onR_ref, onT_tup, onBo_some, x_app, x_clr, x_ext, v_add, v_addT, v_addS, v_addL, v_sub, v_mul, v_rep, v_mod, v_div, v_pow, v_lt, v_le, v_gt, v_ge, v_isN, v_notN, n_non, n_bl, n_int, n_str, n_ref, n_tup, q_ss, q_ii, q_bb, q_nn, q_is, q_si, q_in, q_ni, q_sn, q_ns, d_ss, d_ii, d_bb, d_nn, d_in, d_ni, ix_t, ix_r, ix_l, in_t, notin_t, fl_s, fl_i, fl_n, so_t, so_r, so_lp, len_t, len_r, len_s, int_i, int_b, list_x, tuple_x, min_ii, max_ii, sl_t, sl_l, look_nil, look_cons, putW_nil, putW_cons, x_inKd, x_notinKd, x_getKd, x_dget, key_s, key_i, val_nil, val_cons, inr_eq, start1, line_lt, atI0, atI1, atI2, atI3, atI4, List.map_cons, List.map_nil, List.cons_append, List.nil_append, List.set_cons_zero, List.set_cons_succ, List.length_cons, List.length_nil, List.all_cons, List.all_nil, List.replicate_succ, List.replicate_zero, Nat.reduceAdd, Nat.reduceSub, Nat.zero_add, wd_inj, Nat.reduceLT, Nat.reduceEqDiff, decide_true, decide_false, Bool.false_eq_true, Bool.true_eq_false, Bool.not_true, Bool.not_false, Bool.or_false, Bool.false_or, Bool.or_true, Bool.true_or, Bool.and_self, Bool.and_true, Bool.true_and, ↓reduceIte, reduceCtorEq, line_le, Nat.reduceLeDiff, true_and, and_true, and_self, Option.isSome_some, Option.isSome_none, Int.reduceLT, Int.reduceLE, Int.reduceEq, Int.reduceNeg, put_same, ci0, ci1, ci2, ci3, ci4, ci5, ci6, W_PAIRS, startW])
local macro_rules | `(tactic| walk_at "ws") => `(tactic| simp only [↓x_var0, ↓x_varS, ↓x_c, ↓x_op, ↓x_b, ↓x_chain, ↓x_and, ↓x_or, ↓x_not, ↓x_andV, ↓x_orV, ↓x_notV, ↓x_if, ↓x_orT, ↓x_tr, ↓x_neg, ↓x_nil, ↓x_cons, ↓x_tup, ↓x_lst, ↓x_call, ↓x_lm, ↓x_lm0, ↓x_seq, ↓x_next, ↓x_ifS, ↓x_ret, ↓x_retN, ↓x_drop, ↓x_asg, ↓x_gname, ↓x_gtup, ↓x_gcons, ↓x_gnil, ↓x_gsub, ↓x_set, ↓x_for, ↓x_forR1, ↓x_lc, ↓x_lcR, ↓x_fld, ↓x_setF, ↓x_meth, ↓x_make, ↓x_sl, ↓x_part, ↓x_noPart, ↓x_yes, onB_bl, onS_some, onL_lst, onQ_some, onI_ins, onD_dk, onR_ref, onT_tup, onBo_some, x_app, x_clr, x_ext, v_add, v_addT, v_addS, v_addL, v_sub, v_mul, v_rep, v_mod, v_div, v_pow, v_lt, v_le, v_gt, v_ge, v_isN, v_notN, n_non, n_bl, n_int, n_str, n_ref, n_tup, q_ss, q_ii, q_bb, q_nn, q_is, q_si, q_in, q_ni, q_sn, q_ns, d_ss, d_ii, d_bb, d_nn, d_in, d_ni, ix_t, ix_r, ix_l, in_t, notin_t, fl_s, fl_i, fl_n, so_t, so_r, so_lp, len_t, len_r, len_s, int_i, int_b, list_x, tuple_x, min_ii, max_ii, sl_t, sl_l, look_nil, look_cons, putW_nil, putW_cons, x_inKd, x_notinKd, x_getKd, x_dget, key_s, key_i, val_nil, val_cons, inr_eq, start1, line_lt, atI0, atI1, atI2, atI3, atI4, List.map_cons, List.map_nil, List.cons_append, List.nil_append, List.set_cons_zero, List.set_cons_succ, List.length_cons, List.length_nil, List.all_cons, List.all_nil, List.replicate_succ, List.replicate_zero, Nat.reduceAdd, Nat.reduceSub, Nat.zero_add, wd_inj, Nat.reduceLT, Nat.reduceEqDiff, decide_true, decide_false, Bool.false_eq_true, Bool.true_eq_false, Bool.not_true, Bool.not_false, Bool.or_false, Bool.false_or, Bool.or_true, Bool.true_or, Bool.and_self, Bool.and_true, Bool.true_and, ↓reduceIte, reduceCtorEq, line_le, Nat.reduceLeDiff, true_and, and_true, and_self, Option.isSome_some, Option.isSome_none, Int.reduceLT, Int.reduceLE, Int.reduceEq, Int.reduceNeg, put_same, ci0, ci1, ci2, ci3, ci4, ci5, ci6, W_PAIRS, startW, *])

/-! ### deeds, what is told -/
inductive Deed | ask (n : Int) | throw (n : Int) | shut
def Deed.W : Deed → WL.W | .ask n => .tup [.str w_ask, .int n] | .throw n => .tup [.str w_throw, .int n] | .shut => .tup [.str w_shut]
def Deed.ok : Deed → Prop | .ask n => InR n | .throw n => InR n | .shut => True
def Deed.isD : Deed → Bool | .ask n => decide (0 ≤ n) && decide (n < 1000) | .throw n => decide (0 ≤ n) && decide (n < 1000) | .shut => true
theorem Deed.isD_ok {d : Deed} (h : d.ok) : d.isD = true := by
  cases d <;> simp [Deed.ok, Deed.isD, InR] at h ⊢ <;> exact h
inductive Out | gift (n : Int) | ends (n : Int) | fault (n : Int) | shut | stubborn | over | leave
def Out.W : Out → WL.W
  | .gift n => .tup [.str w_gift, .int n] | .ends n => .tup [.str w_end, .int n] | .fault n => .tup [.str w_fault, .int n] | .shut => .tup [.str w_shut] | .stubborn => .tup [.str w_stubborn] | .over => .tup [.str w_over] | .leave => .tup [.str w_leave]
abbrev Told := List Int × Out
def toldW (t : Told) : W := .tup [.tup (t.1.map .int), t.2.W]
def untouched : Deed → Told | .ask _ => ([], .over) | .throw n => ([], .fault n) | .shut => ([], .shut)
def deedsM (ds : List Deed) : MO := .lst (ds.map Deed.W)
theorem deed_okW (d : Deed) {n : Nat} : okW (n + 2) d.W = true := by
  cases d <;> (rw [Deed.W, okW, okWs, okW, wd_ok (by decide)]; simp [okWs, okW])
theorem deeds_okW (ds : List Deed) {n : Nat} : okWs (n + 2) (ds.map Deed.W) = true := okWs_of fun w hw => by
  obtain ⟨d, _, rfl⟩ := List.mem_map.mp hw
  exact deed_okW d
def sp_is_deed : WSp := fun ws S Q => ∃ d : Deed, ws = [d.W] ∧ Q (.bl d.isD) S
theorem r_is_deed : ∀ ws S Q, Up Q → sp_is_deed ws S Q → t_is_deed { nx := fun _ S' => Q .non S', rt := Q } (startW 1 ws) S := by
  rintro ws S Q up ⟨d, rfl, q⟩
  have i1 : inW (.str w_ask) [.str w_ask, .str w_throw, .str w_shut] = true := by simp [inW, eqW]
  have i2 : inW (.str w_throw) [.str w_ask, .str w_throw, .str w_shut] = true := by simp [inW, eqW]
  have i3 : inW (.str w_shut) [.str w_ask, .str w_throw, .str w_shut] = true := by simp [inW, eqW]
  cases d with
  | ask n =>
    simp only [t_is_deed, Deed.W]
    walk_at "wx"
    simp only [i1]
    walk_at "wx"
    exact and_b q
  | throw n =>
    simp only [t_is_deed, Deed.W]
    walk_at "wx"
    simp only [i2]
    walk_at "wx"
    exact and_b q
  | shut =>
    simp only [t_is_deed, Deed.W]
    walk_at "wx"
    simp only [i3]
    walk_at "wx"
    exact q
def sp_need_asked : WSp := fun ws S Q => ∃ (params : Int) (ns : List Int) (d : Addr) (ds : List Deed), ws = [.int params, .tup (ns.map .int), .ref d] ∧ S d = some (deedsM ds) ∧ (ns.length : Int) = params ∧ (∀ i ∈ ns, InR i) ∧ (∀ x ∈ ds, x.ok) ∧ ns.length ≤ 1000 ∧ ds.length ≤ 1000 ∧ Q .non S
theorem filter_none {α : Type} {f : α → W} {b : α → Bool} {xs : List α} (h : ∀ x ∈ xs, b x = true) : (xs.filter fun x => !b x).map f = [] := by
  induction xs with
  | nil => rfl
  | cons x xs ih =>
    rw [List.filter_cons, h x List.mem_cons_self]
    simpa using ih fun y hy => h y (List.mem_cons_of_mem _ hy)
theorem r_need_asked : ∀ ws S Q, Up Q → sp_need_asked ws S Q → t_need_asked sp_is_deed { nx := fun _ S' => Q .non S', rt := Q } (startW 5 ws) S := by
  rintro ws S Q up ⟨params, ns, d, ds, rfl, hS, hl, hn, hd, hl1, hl2, q⟩
  simp only [t_need_asked]
  walk_at "wx"
  simp only [List.length_map, hl]
  walk_at "wx"
  intro p hp
  refine lc_pure (b := fun n => !(decide (0 ≤ n) && decide (n < 1000))) (G := W.int) ns (fun _ => trivial) (fun n hn' ws Q' q' => ?_) (fun n hn' _ ws Q' q' => ?_) (by omega) ?_
  · obtain ⟨h1, h2⟩ := hn n hn'
    walk_at "wx"
    simp only [decide_eq_true h1, decide_eq_true h2] at q' ⊢
    walk_at "wx"
    exact q'
  · walk_at "wx"
    exact q'
  · rw [filter_none fun n hn' => by obtain ⟨h1, h2⟩ := hn n hn'; rw [decide_eq_true h1, decide_eq_true h2]; rfl]
    intro p2 hp2
    have n2 : p ≠ p2 := ne_none put_same hp2
    refine ne_empty (ws := []) (by rw [put_ne n2, put_same]) put_same (by rw [okWs]) ?_
    walk_at "wx"
    have nd : d ≠ p := ne_none hS hp
    have nd2 : d ≠ p2 := ne_none (by rw [put_ne nd]; exact hS) hp2
    have hS2 : (put (put S p (.lst [])) p2 (.lst [])) d = some (deedsM ds) := by rw [put_ne nd2, put_ne nd]; exact hS
    rw [so_l (show _ = some (MO.lst (ds.map Deed.W)) from hS2)]
    walk_at "wx"
    intro p3 hp3
    have nd3 : d ≠ p3 := ne_none hS2 hp3
    refine lc_pure (b := fun x => !x.isD) (G := Deed.W) ds (fun ws => so_l (by rw [put_ne nd3]; exact hS2)) (fun x hx ws Q' q' => ?_) (fun x hx _ ws Q' q' => ?_) (by omega) ?_
    · walk_at "wx"
      exact ⟨x, rfl, q'⟩
    · walk_at "wx"
      exact q'
    · rw [filter_none fun x hx => Deed.isD_ok (hd x hx)]
      intro p4 hp4
      have n4 : p3 ≠ p4 := ne_none put_same hp4
      refine ne_empty (ws := []) (by rw [put_ne n4, put_same]) put_same (by rw [okWs]) ?_
      walk_at "wx"
      exact up _ _ _ (((Le.put hp).trans (Le.put hp2)).trans ((Le.put hp3).trans (Le.put hp4))) q
def sp_untouched : WSp := fun ws S Q => ∃ d : Deed, ws = [d.W] ∧ Q (toldW (untouched d)) S
theorem r_untouched : ∀ ws S Q, Up Q → sp_untouched ws S Q → t_untouched { nx := fun _ S' => Q .non S', rt := Q } (startW 1 ws) S := by
  rintro ws S Q up ⟨d, rfl, q⟩
  cases d <;> (simp only [t_untouched, Deed.W]; walk_at "wx"; exact q)

/-! ### the talk -/
structure Tk where
  deeds : List Deed
  told : List Told
  said : List Int
def Tk.tell (T : Tk) (o : Out) : Tk := ⟨T.deeds, T.told ++ [(T.said, o)], []⟩
def Tk.say (T : Tk) (n : Int) : Tk := ⟨T.deeds, T.told, T.said ++ [n]⟩
structure TkAt (C : Addr) (S : Sto) (tk ad at_ as_ : Addr) (T : Tk) : Prop where
  obj : S tk = some (.ins C [(w_deeds, .ref ad), (w_told, .ref at_), (w_said, .ref as_)])
  deeds : S ad = some (deedsM T.deeds)
  told : S at_ = some (.lst (T.told.map toldW))
  said : S as_ = some (.lst (T.said.map .int))
  n1 : ad ≠ at_
  n2 : ad ≠ as_
  n3 : at_ ≠ as_
theorem ne_obj {S : Sto} {a b : Addr} {C : Addr} {fs : List (Str × W)} {ws : List W} (h : S a = some (.ins C fs)) (h' : S b = some (.lst ws)) : a ≠ b := fun e => by subst e; rw [h] at h'; cases h'
def Keep3 (a b c : Addr) (S S' : Sto) : Prop := ∀ x o, x ≠ a → x ≠ b → x ≠ c → S x = some o → S' x = some o
theorem Keep3.trans {a b c c' : Addr} {S S1 S2 : Sto} (k : Keep3 a b c S S1) (k' : Keep3 a b c' S1 S2) (h : c' = c ∨ S c' = none) : Keep3 a b c S S2 := fun x o h1 h2 h3 e => by
  refine k' x o h1 h2 ?_ (k x o h1 h2 h3 e)
  rcases h with rfl | h
  · exact h3
  · exact ne_none e h
theorem Keep3.le {a b c : Addr} {S S' : Sto} (l : Le S S') : Keep3 a b c S S' := fun x o _ _ _ e => l x o e
theorem TkAt.keep {C : Addr} {S S' : Sto} {tk ad at_ as_ : Addr} {T : Tk} (h : TkAt C S tk ad at_ as_ T) (l : Le S S') : TkAt C S' tk ad at_ as_ T := ⟨l _ _ h.obj, l _ _ h.deeds, l _ _ h.told, l _ _ h.said, h.n1, h.n2, h.n3⟩
def sp_Talk_init (C : Addr) : WSp := fun ws S Q => ∃ (tk d0 : Addr) (ds : List Deed), ws = [.ref tk, .ref d0] ∧ S tk = some (.ins C []) ∧ S d0 = some (deedsM ds) ∧ ∀ S' ad at_ as_, TkAt C S' tk ad at_ as_ ⟨ds, [], []⟩ → (∀ a o, a ≠ tk → S a = some o → S' a = some o) → S ad = none → S at_ = none → S as_ = none → Q .non S'
theorem r_Talk_init (C : Addr) : ∀ ws S Q, Up Q → sp_Talk_init C ws S Q → t_Talk__init_ C { nx := fun _ S' => Q .non S', rt := Q } (startW 2 ws) S := by
  rintro ws S Q up ⟨tk, d0, ds, rfl, hT, hd, q⟩
  simp only [t_Talk__init_]
  walk_at "wx"
  rw [so_l (show S d0 = some (.lst (ds.map Deed.W)) from hd)]
  walk_at "wx"
  intro p1 h1
  have t1 : tk ≠ p1 := ne_none hT h1
  simp only [put_ne t1, hT, onI_ins]
  walk_at "wx"
  intro p2 h2
  have t2 : tk ≠ p2 := ne_none put_same h2
  have e21 : p2 ≠ p1 := fun e => by subst e; rw [put_ne (Ne.symm t1), put_same] at h2; cases h2
  simp only [put_ne t2, put_same, onI_ins]
  walk_at "wx"
  intro p3 h3
  have t3 : tk ≠ p3 := ne_none put_same h3
  have e31 : p3 ≠ p1 := fun e => by subst e; rw [put_ne (Ne.symm t1), put_ne (Ne.symm e21), put_ne (Ne.symm t1), put_same] at h3; cases h3
  have e32 : p3 ≠ p2 := fun e => by subst e; rw [put_ne (Ne.symm t2), put_same] at h3; cases h3
  simp only [put_ne t3, put_same, onI_ins]
  walk_at "wx"
  have s1 : S p1 = none := h1
  have s2 : S p2 = none := by rw [put_ne (Ne.symm t2), put_ne e21] at h2; exact h2
  have s3 : S p3 = none := by rw [put_ne (Ne.symm t3), put_ne e32, put_ne (Ne.symm t3), put_ne e31] at h3; exact h3
  refine q _ p1 p2 p3 ⟨?_, ?_, ?_, ?_, Ne.symm e21, Ne.symm e31, Ne.symm e32⟩ (fun a o n e => ?_) s1 s2 s3
  · rw [put_same]
  · rw [put_ne (Ne.symm t1), put_ne (Ne.symm e31), put_ne (Ne.symm t1), put_ne (Ne.symm e21), put_ne (Ne.symm t1), put_same]; rfl
  · rw [put_ne (Ne.symm t2), put_ne (Ne.symm e32), put_ne (Ne.symm t2), put_same]; rfl
  · rw [put_ne (Ne.symm t3), put_same]; rfl
  · rw [put_ne n, put_ne (ne_none e s3), put_ne n, put_ne (ne_none e s2), put_ne n, put_ne (ne_none e s1)]; exact e

theorem is_lst {S : Sto} {a : Addr} {ws : List W} (h : S a = some (.lst ws)) : isLst S (.ref a) := ⟨ws, by simp only [rdl, h]⟩
theorem wx_true {p : Prop} (h : p) : p = True := eq_true h
def sp_Talk_begins (C : Addr) : WSp := fun ws S Q => ∃ (tk ad at_ as_ : Addr) (T : Tk), ws = [.ref tk] ∧ TkAt C S tk ad at_ as_ T ∧ Q (.bl (match T.deeds with | .ask _ :: _ => true | _ => false)) S
theorem r_Talk_begins (C : Addr) : ∀ ws S Q, Up Q → sp_Talk_begins C ws S Q → t_Talk_begins C { nx := fun _ S' => Q .non S', rt := Q } (startW 1 ws) S := by
  rintro ws S Q up ⟨tk, ad, at_, as_, T, rfl, h, q⟩
  simp only [t_Talk_begins]
  walk_at "wx"
  simp only [h.obj, onI_ins]
  walk_at "wx"
  intro p hp
  have nd : ad ≠ p := ne_none h.deeds hp
  have nt : tk ≠ p := ne_none h.obj hp
  refine ne_empty (ws := T.deeds.map Deed.W) (by rw [put_ne nd]; exact h.deeds) put_same (deeds_okW _) ?_
  walk_at "wx"
  cases hT : T.deeds with
  | nil =>
    rw [hT] at q
    simp only [List.map_nil, List.isEmpty_nil]
    walk_at "wx"
    exact up _ _ _ (Le.put hp) q
  | cons d ds =>
    rw [hT] at q
    simp only [List.map_cons, List.isEmpty_cons]
    walk_at "wx"
    simp only [put_ne nt, h.obj, onI_ins]
    walk_at "wx"
    simp only [put_ne nd, h.deeds, hT, deedsM, List.map_cons, onL_lst]
    walk_at "wx"
    cases d <;> (simp only [Deed.W]; walk_at "wx"; exact up _ _ _ (Le.put hp) q)
def sp_Talk_say (C : Addr) : WSp := fun ws S Q => ∃ (tk ad at_ as_ : Addr) (T : Tk) (n : Int), ws = [.ref tk, .int n] ∧ TkAt C S tk ad at_ as_ T ∧ T.said.length < 16000000 ∧ ∀ S', TkAt C S' tk ad at_ as_ (T.say n) → Keep3 tk at_ as_ S S' → Q .non S'
theorem line_16 {n : Nat} (h : n < 16000000) : n < sizeLine := Nat.lt_trans h (by decide)
theorem r_Talk_say (C : Addr) : ∀ ws S Q, Up Q → sp_Talk_say C ws S Q → t_Talk_say C { nx := fun _ S' => Q .non S', rt := Q } (startW 2 ws) S := by
  rintro ws S Q up ⟨tk, ad, at_, as_, T, n, rfl, h, hl, q⟩
  simp only [t_Talk_say]
  walk_at "wx"
  simp only [h.obj, onI_ins]
  walk_at "wx"
  refine ⟨is_lst h.said, ?_⟩
  simp only [x_app, h.said, onL_lst]
  refine ⟨line_16 (by rw [List.length_map]; exact hl), ?_⟩
  have nt : tk ≠ as_ := ne_obj h.obj h.said
  refine q _ ⟨by rw [put_ne nt]; exact h.obj, by rw [put_ne h.n2]; exact h.deeds, by rw [put_ne h.n3]; exact h.told, ?_, h.n1, h.n2, h.n3⟩ fun x o h1 h2 h3 e => by rw [put_ne h3]; exact e
  rw [put_same]
  simp only [Tk.say, List.map_append, List.map_cons, List.map_nil]
def sp_Talk_tell (C : Addr) : WSp := fun ws S Q => ∃ (tk ad at_ as_ : Addr) (T : Tk) (o : Out), ws = [.ref tk, o.W] ∧ TkAt C S tk ad at_ as_ T ∧ T.told.length < 1000000 ∧ ∀ S' as2, TkAt C S' tk ad at_ as2 (T.tell o) → Keep3 tk at_ as_ S S' → S as2 = none → Q .non S'
theorem r_Talk_tell (C : Addr) : ∀ ws S Q, Up Q → sp_Talk_tell C ws S Q → t_Talk_tell C { nx := fun _ S' => Q .non S', rt := Q } (startW 2 ws) S := by
  rintro ws S Q up ⟨tk, ad, at_, as_, T, o, rfl, h, hl, q⟩
  simp only [t_Talk_tell]
  walk_at "wx"
  simp only [h.obj, onI_ins]
  walk_at "wx"
  refine ⟨is_lst h.told, ?_⟩
  rw [so_l h.said]
  walk_at "wx"
  simp only [h.told, onL_lst]
  refine ⟨small_len (by rw [List.length_map]; omega), ?_⟩
  have nt : tk ≠ at_ := ne_obj h.obj h.told
  have ns : tk ≠ as_ := ne_obj h.obj h.said
  intro p hp
  have tp : tk ≠ p := fun e => by subst e; rw [put_ne nt, h.obj] at hp; cases hp
  have pt : p ≠ at_ := fun e => by subst e; rw [put_same] at hp; cases hp
  have sp : S p = none := by rw [put_ne pt] at hp; exact hp
  simp only [put_ne tp, put_ne nt, h.obj, onI_ins]
  walk_at "wx"
  refine q _ p ⟨?_, ?_, ?_, ?_, h.n1, ne_none h.deeds sp, Ne.symm pt⟩ (fun x o h1 h2 h3 e => ?_) sp
  · rw [put_same]
  · rw [put_ne (Ne.symm (ne_obj h.obj h.deeds)), put_ne (ne_none h.deeds sp), put_ne h.n1]; exact h.deeds
  · rw [put_ne (Ne.symm nt), put_ne (Ne.symm pt), put_same]
    simp only [Tk.tell, List.map_append, List.map_cons, List.map_nil, toldW]
  · rw [put_ne (Ne.symm tp), put_same]; rfl
  · rw [put_ne h1, put_ne (ne_none e sp), put_ne h2]; exact e
/-- what a gift brings: the deed that comes next -/
def Tk.gift (T : Tk) (n : Int) : Option Deed × Tk := match T.deeds[T.told.length]? with
  | some .shut => (none, T.tell .stubborn)
  | _ => (T.deeds[T.told.length + 1]?, T.tell (.gift n))
def optD : Option Deed → W | none => .non | some d => d.W
def sp_Talk_gift (C : Addr) : WSp := fun ws S Q => ∃ (tk ad at_ as_ : Addr) (T : Tk) (n : Int), ws = [.ref tk, .int n] ∧ TkAt C S tk ad at_ as_ T ∧ T.told.length < T.deeds.length ∧ T.told.length < 1000000 ∧
  ∀ S' as2, TkAt C S' tk ad at_ as2 (T.gift n).2 → Keep3 tk at_ as_ S S' → S as2 = none → Q (optD (T.gift n).1) S'
theorem look2 {x y z : W} : ([(w_deeds, x), (w_told, y), (w_said, z)] : List (Str × W)).lookup w_tell = none := by
  simp only [look_cons, look_nil, wd_inj, Nat.reduceLT, Nat.reduceEqDiff, if_false]
theorem r_Talk_gift (C : Addr) : ∀ ws S Q, Up Q → sp_Talk_gift C ws S Q → t_Talk_gift C (sp_Talk_tell C) { nx := fun _ S' => Q .non S', rt := Q } (startW 2 ws) S := by
  rintro ws S Q up ⟨tk, ad, at_, as_, T, n, rfl, h, hl, hl2, q⟩
  obtain ⟨d, hd⟩ := get_some hl
  have hd' : atI (T.deeds.map Deed.W) ((T.told.length : Nat) : Int) = some d.W := atI_map hd
  have next : ∀ S1 as2, TkAt C S1 tk ad at_ as2 (T.tell (.gift n)) → Keep3 tk at_ as_ S S1 → S as2 = none → d ≠ .shut → wRet (wIf (wB (wOp rLt (wCall rLenW (wCons (wFld C (wVar 0) w_told) wNil)) (wCall rLenW (wCons (wFld C (wVar 0) w_deeds) wNil)))) (wOp rIxW (wFld C (wVar 0) w_deeds) (wCall rLenW (wCons (wFld C (wVar 0) w_told) wNil))) (wC .non)) { nx := fun _ S' => Q .non S', rt := Q } [some (.ref tk), some (.int n)] S1 := by
    intro S1 as2 h1 k1 f1 hs
    have e : T.gift n = (T.deeds[T.told.length + 1]?, T.tell (.gift n)) := by
      unfold Tk.gift
      rw [hd]
      cases d with
      | shut => exact absurd rfl hs
      | _ => rfl
    rw [e] at q
    have q := q S1 as2 h1 k1 f1
    have o1 := h1.obj
    have t1 := len_l (Q := fun x S2 => True) h1.told
    have lt : (T.tell (.gift n)).told.length = T.told.length + 1 := by simp [Tk.tell]
    have l1 : ∀ Q', rLenW [.ref at_] S1 Q' = Q' (.int ((T.told.length + 1 : Nat) : Int)) S1 := fun Q' => by rw [len_l h1.told, List.length_map, lt]
    have l2 : ∀ Q', rLenW [.ref ad] S1 Q' = Q' (.int ((T.deeds.length : Nat) : Int)) S1 := fun Q' => by rw [len_l (show S1 ad = some (MO.lst (T.deeds.map Deed.W)) from h1.deeds), List.length_map]
    have l3 : S1 ad = some (MO.lst (T.deeds.map Deed.W)) := h1.deeds
    clear h1 t1
    by_cases hm : T.told.length + 1 < T.deeds.length
    · have c1 := decide_eq_true (show ((T.told.length + 1 : Nat) : Int) < (T.deeds.length : Int) by omega)
      obtain ⟨d2, hd2⟩ := get_some hm
      have hd2' : atI (T.deeds.map Deed.W) ((T.told.length + 1 : Nat) : Int) = some d2.W := atI_map hd2
      rw [hd2] at q
      walk_at "ws"
      exact q
    · have c1 := decide_eq_false (show ¬ ((T.told.length + 1 : Nat) : Int) < (T.deeds.length : Int) by omega)
      rw [List.getElem?_eq_none (by omega)] at q
      walk_at "ws"
      exact q
  have tell : ∀ (o : Out) (Q' : WQ), (∀ S' as2, TkAt C S' tk ad at_ as2 (T.tell o) → Keep3 tk at_ as_ S S' → S as2 = none → Q' .non S') → sp_Talk_tell C [.ref tk, o.W] S Q' := fun o Q' q' => ⟨tk, ad, at_, as_, T, o, rfl, h, hl2, q'⟩
  have l1 : ∀ Q', rLenW [.ref at_] S Q' = Q' (.int ((T.told.length : Nat) : Int)) S := fun Q' => by rw [len_l h.told, List.length_map]
  have l3 : S ad = some (MO.lst (T.deeds.map Deed.W)) := h.deeds
  have o1 := h.obj
  cases d with
  | shut =>
    have e : T.gift n = (none, T.tell .stubborn) := by unfold Tk.gift; rw [hd]
    rw [e] at q
    have q' := tell .stubborn (fun _ S' => Q .non S') q
    clear q next tell h
    simp only [Deed.W] at hd'
    simp only [t_Talk_gift]
    walk_at "ws"
    exact q'
  | ask m =>
    have q' := tell (.gift n) (fun _ S1 => wRet (wIf (wB (wOp rLt (wCall rLenW (wCons (wFld C (wVar 0) w_told) wNil)) (wCall rLenW (wCons (wFld C (wVar 0) w_deeds) wNil)))) (wOp rIxW (wFld C (wVar 0) w_deeds) (wCall rLenW (wCons (wFld C (wVar 0) w_told) wNil))) (wC .non)) { nx := fun _ S' => Q .non S', rt := Q } [some (.ref tk), some (.int n)] S1) fun S1 as2 h1 k1 f1 => next S1 as2 h1 k1 f1 fun e => nomatch e
    clear q next tell h
    simp only [Deed.W] at hd'
    simp only [t_Talk_gift]
    walk_at "ws"
    exact q'
  | throw m =>
    have q' := tell (.gift n) (fun _ S1 => wRet (wIf (wB (wOp rLt (wCall rLenW (wCons (wFld C (wVar 0) w_told) wNil)) (wCall rLenW (wCons (wFld C (wVar 0) w_deeds) wNil)))) (wOp rIxW (wFld C (wVar 0) w_deeds) (wCall rLenW (wCons (wFld C (wVar 0) w_told) wNil))) (wC .non)) { nx := fun _ S' => Q .non S', rt := Q } [some (.ref tk), some (.int n)] S1) fun S1 as2 h1 k1 f1 => next S1 as2 h1 k1 f1 fun e => nomatch e
    clear q next tell h
    simp only [Deed.W] at hd'
    simp only [t_Talk_gift]
    walk_at "ws"
    exact q'
/-- what comes out of steps -/
inductive Way | leave | fault (n : Int) | ends (n : Int) | shut | stop
def Way.W : Way → WL.W | .leave => .tup [.str w_leave] | .fault n => .tup [.str w_fault, .int n] | .ends n => .tup [.str w_end, .int n] | .shut => .tup [.str w_shut] | .stop => .tup [.str w_stop]
def Way.out : Way → Out | .fault n => .fault n | .ends n => .ends n | .leave => .leave | _ => .shut
def Tk.close (T : Tk) : Way → Tk
  | .stop => T
  | .ends n => match T.deeds[T.told.length]? with
    | some .shut => T.tell .shut
    | _ => T.tell (.ends n)
  | w => T.tell w.out
def sp_Talk_close (C : Addr) : WSp := fun ws S Q => ∃ (tk ad at_ as_ : Addr) (T : Tk) (w : Way), ws = [.ref tk, w.W] ∧ TkAt C S tk ad at_ as_ T ∧ (w ≠ .stop → T.told.length < T.deeds.length) ∧ T.told.length < 1000000 ∧
  ∀ S' as2, TkAt C S' tk ad at_ as2 (T.close w) → Keep3 tk at_ as_ S S' → (as2 = as_ ∨ S as2 = none) → Q .non S'
theorem r_Talk_close (C : Addr) : ∀ ws S Q, Up Q → sp_Talk_close C ws S Q → t_Talk_close C (sp_Talk_tell C) { nx := fun _ S' => Q .non S', rt := Q } (startW 2 ws) S := by
  rintro ws S Q up ⟨tk, ad, at_, as_, T, w, rfl, h, hl, hl2, q⟩
  have tell : ∀ (o : Out) (v : W), v = o.W → (∀ S' as2, TkAt C S' tk ad at_ as2 (T.tell o) → Keep3 tk at_ as_ S S' → S as2 = none → Q .non S') → sp_Talk_tell C [.ref tk, v] S fun _ S' => Q .non S' := by
    rintro o v rfl q'
    exact ⟨tk, ad, at_, as_, T, o, rfl, h, hl2, q'⟩
  have l1 : ∀ Q', rLenW [.ref at_] S Q' = Q' (.int ((T.told.length : Nat) : Int)) S := fun Q' => by rw [len_l h.told, List.length_map]
  have l3 : S ad = some (MO.lst (T.deeds.map Deed.W)) := h.deeds
  have o1 := h.obj
  cases w with
  | leave =>
    have q' := tell .leave (Way.W .leave) rfl fun S1 as2 a b c => q S1 as2 a b (.inr c)
    clear q tell h hl
    simp only [t_Talk_close, Way.W] at q' ⊢
    walk_at "ws"
  | stop =>
    have q' := q S as_ h (fun _ _ _ _ _ e => e) (.inl rfl)
    clear q tell h hl
    simp only [t_Talk_close, Way.W]
    walk_at "ws"
  | shut =>
    have q' := tell .shut (Way.W .shut) rfl fun S1 as2 a b c => q S1 as2 a b (.inr c)
    clear q tell h hl
    simp only [t_Talk_close, Way.W] at q' ⊢
    walk_at "ws"
  | fault n =>
    have q' := tell (.fault n) (Way.W (.fault n)) rfl fun S1 as2 a b c => q S1 as2 a b (.inr c)
    clear q tell h hl
    simp only [t_Talk_close, Way.W] at q' ⊢
    walk_at "ws"
  | ends n =>
    obtain ⟨d, hd⟩ := get_some (hl (fun e => nomatch e))
    have hd' : atI (T.deeds.map Deed.W) ((T.told.length : Nat) : Int) = some d.W := atI_map hd
    cases d with
    | shut =>
      have e : T.close (.ends n) = T.tell .shut := by unfold Tk.close; rw [hd]
      rw [e] at q
      have q' := tell .shut (.tup [.str w_shut]) rfl fun S1 as2 a b c => q S1 as2 a b (.inr c)
      clear q tell h hl e
      simp only [Deed.W] at hd'
      simp only [t_Talk_close, Way.W]
      walk_at "ws"
    | ask m =>
      have e : T.close (.ends n) = T.tell (.ends n) := by unfold Tk.close; rw [hd]
      rw [e] at q
      have q' := tell (.ends n) (.tup [.str w_end, .int n]) rfl fun S1 as2 a b c => q S1 as2 a b (.inr c)
      clear q tell h hl e
      simp only [Deed.W] at hd'
      simp only [t_Talk_close, Way.W]
      walk_at "ws"
    | throw m =>
      have e : T.close (.ends n) = T.tell (.ends n) := by unfold Tk.close; rw [hd]
      rw [e] at q
      have q' := tell (.ends n) (.tup [.str w_end, .int n]) rfl fun S1 as2 a b c => q S1 as2 a b (.inr c)
      clear q tell h hl e
      simp only [Deed.W] at hd'
      simp only [t_Talk_close, Way.W]
      walk_at "ws"
def Tk.all (T : Tk) : List Told := T.told ++ (T.deeds.drop T.told.length).map untouched
def sp_Talk_all_told (C : Addr) : WSp := fun ws S Q => ∃ (tk ad at_ as_ : Addr) (T : Tk), ws = [.ref tk] ∧ TkAt C S tk ad at_ as_ T ∧ T.told.length ≤ 100000 ∧ T.deeds.length ≤ 100000 ∧ ∀ p, S p = none → Q (.ref p) (put S p (.lst (T.all.map toldW)))
theorem cut_drop {ws : List W} {n : Nat} : cutW ws (some (n : Int)) none = ws.drop n := by
  unfold cutW
  rw [HT.sIx_nat, HT.sIx_none]
  by_cases h : n ≤ ws.length
  · rw [Nat.min_eq_left h, List.take_of_length_le (by rw [List.length_drop]; omega)]
  · rw [Nat.min_eq_right (by omega), List.drop_eq_nil_of_le (by omega : ws.length ≤ n), List.drop_eq_nil_of_le (Nat.le_refl _), List.take_nil]
theorem r_Talk_all_told (C : Addr) : ∀ ws S Q, Up Q → sp_Talk_all_told C ws S Q → t_Talk_all_told C sp_untouched { nx := fun _ S' => Q .non S', rt := Q } (startW 2 ws) S := by
  rintro ws S Q up ⟨tk, ad, at_, as_, T, rfl, h, hl, hl2, q⟩
  have l1 : ∀ Q', rLenW [.ref at_] S Q' = Q' (.int ((T.told.length : Nat) : Int)) S := fun Q' => by rw [len_l h.told, List.length_map]
  have l3 : S ad = some (MO.lst (T.deeds.map Deed.W)) := h.deeds
  have o1 := h.obj
  have h1 := h.told
  simp only [t_Talk_all_told]
  clear h
  walk_at "ws"
  intro p hp p2 hp2
  rw [cut_drop] at *
  have n2 : p ≠ p2 := ne_none put_same hp2
  have sp2 : S p2 = none := by rw [put_ne (Ne.symm n2)] at hp2; exact hp2
  have nt : at_ ≠ p := ne_none h1 hp
  have nt2 : at_ ≠ p2 := ne_none h1 sp2
  rw [← List.map_drop]
  refine lc_pure (b := fun _ => true) (G := fun d => toldW (untouched d)) (T.deeds.drop T.told.length) (fun ws => so_l (by rw [put_ne n2, put_same])) (fun e he ws Q' q' => q') (fun e he _ ws Q' q' => ?_) (by rw [List.length_drop]; omega) ?_
  · walk_at "wx"
    exact ⟨e, rfl, q'⟩
  · rw [filter_true]
    simp only [put_ne nt2, put_ne nt, h1, onL_lst, put_same]
    refine ⟨Nat.le_of_lt (small_len (by simp only [List.length_map, List.length_drop]; omega)), fun p3 hp3 => ?_⟩
    have n3 : p2 ≠ p3 := ne_none put_same hp3
    have n4 : p ≠ p3 := ne_none (by rw [put_ne n2]; exact put_same) hp3
    have sp3 : S p3 = none := by rw [put_ne (Ne.symm n3), put_ne (Ne.symm n4)] at hp3; exact hp3
    refine up _ _ _ (fun a o h => ?_) (q p3 sp3)
    by_cases ea : a = p3
    · subst ea
      rw [put_same] at h ⊢
      rw [← h, Tk.all, List.map_append, List.map_map]
      rfl
    · rw [put_ne ea] at h ⊢
      rw [put_ne (ne_none h sp2), put_ne (ne_none h hp)]
      exact h
end WL

namespace WL
open PySem L2
local macro_rules | `(tactic| walk_at "wx") => `(tactic| simp only [↓x_var0, ↓x_varS, ↓x_c, ↓x_op, ↓x_b, ↓x_chain, ↓x_and, ↓x_or, ↓x_not, ↓x_andV, ↓x_orV, ↓x_notV, ↓x_if, ↓x_orT, ↓x_tr, ↓x_neg, ↓x_nil, ↓x_cons, ↓x_tup, ↓x_lst, ↓x_call, ↓x_lm, ↓x_lm0, ↓x_seq, ↓x_next, ↓x_ifS, ↓x_ret, ↓x_retN, ↓x_drop, ↓x_asg, ↓x_gname, ↓x_gtup, ↓x_gcons, ↓x_gnil, ↓x_gsub, ↓x_set, ↓x_for, ↓x_forR1, ↓x_lc, ↓x_lcR, ↓x_fld, ↓x_setF, ↓x_meth, ↓x_make, ↓x_sl, ↓x_part, ↓x_noPart, ↓x_yes, onB_bl, onS_some, onL_lst, onQ_some, onI_ins, onD_dk, onR_ref, onT_tup, onBo_some, x_app, x_clr, x_ext, v_add, v_addT, v_addS, v_addL, v_sub, v_mul, v_rep, v_mod, v_div, v_pow, v_lt, v_le, v_gt, v_ge, v_isN, v_notN, n_non, n_bl, n_int, n_str, n_ref, n_tup, q_ss, q_ii, q_bb, q_nn, q_is, q_si, q_in, q_ni, q_sn, q_ns, d_ss, d_ii, d_bb, d_nn, d_in, d_ni, ix_t, ix_r, ix_l, in_t, notin_t, fl_s, fl_i, fl_n, so_t, so_r, so_lp, len_t, len_r, len_s, int_i, int_b, list_x, tuple_x, min_ii, max_ii, sl_t, sl_l, look_nil, look_cons, putW_nil, putW_cons, x_inKd, x_notinKd, x_getKd, x_dget, key_s, key_i, val_nil, val_cons, inr_eq, start1, line_lt, atI0, atI1, atI2, atI3, atI4, List.map_cons, List.map_nil, List.cons_append, List.nil_append, List.set_cons_zero, List.set_cons_succ, List.length_cons, List.length_nil, List.all_cons, List.all_nil, List.replicate_succ, List.replicate_zero, Nat.reduceAdd, Nat.reduceSub, Nat.zero_add, wd_inj, Nat.reduceLT, Nat.reduceEqDiff, decide_true, decide_false, Bool.false_eq_true, Bool.true_eq_false, Bool.not_true, Bool.not_false, Bool.or_false, Bool.false_or, Bool.or_true, Bool.true_or, Bool.and_self, Bool.and_true, Bool.true_and, ↓reduceIte, reduceCtorEq, line_le, Nat.reduceLeDiff, true_and, and_true, and_self, Option.isSome_some, Option.isSome_none, Int.reduceLT, Int.reduceLE, Int.reduceEq, Int.reduceNeg, put_same, ci0, ci1, ci2, ci3, ci4, ci5, ci6, W_PAIRS, startW])
local macro_rules | `(tactic| walk_at "ws") => `(tactic| simp only [↓x_var0, ↓x_varS, ↓x_c, ↓x_op, ↓x_b, ↓x_chain, ↓x_and, ↓x_or, ↓x_not, ↓x_andV, ↓x_orV, ↓x_notV, ↓x_if, ↓x_orT, ↓x_tr, ↓x_neg, ↓x_nil, ↓x_cons, ↓x_tup, ↓x_lst, ↓x_call, ↓x_lm, ↓x_lm0, ↓x_seq, ↓x_next, ↓x_ifS, ↓x_ret, ↓x_retN, ↓x_drop, ↓x_asg, ↓x_gname, ↓x_gtup, ↓x_gcons, ↓x_gnil, ↓x_gsub, ↓x_set, ↓x_for, ↓x_forR1, ↓x_lc, ↓x_lcR, ↓x_fld, ↓x_setF, ↓x_meth, ↓x_make, ↓x_sl, ↓x_part, ↓x_noPart, ↓x_yes, onB_bl, onS_some, onL_lst, onQ_some, onI_ins, onD_dk, onR_ref, onT_tup, onBo_some, x_app, x_clr, x_ext, v_add, v_addT, v_addS, v_addL, v_sub, v_mul, v_rep, v_mod, v_div, v_pow, v_lt, v_le, v_gt, v_ge, v_isN, v_notN, n_non, n_bl, n_int, n_str, n_ref, n_tup, q_ss, q_ii, q_bb, q_nn, q_is, q_si, q_in, q_ni, q_sn, q_ns, d_ss, d_ii, d_bb, d_nn, d_in, d_ni, ix_t, ix_r, ix_l, in_t, notin_t, fl_s, fl_i, fl_n, so_t, so_r, so_lp, len_t, len_r, len_s, int_i, int_b, list_x, tuple_x, min_ii, max_ii, sl_t, sl_l, look_nil, look_cons, putW_nil, putW_cons, x_inKd, x_notinKd, x_getKd, x_dget, key_s, key_i, val_nil, val_cons, inr_eq, start1, line_lt, atI0, atI1, atI2, atI3, atI4, List.map_cons, List.map_nil, List.cons_append, List.nil_append, List.set_cons_zero, List.set_cons_succ, List.length_cons, List.length_nil, List.all_cons, List.all_nil, List.replicate_succ, List.replicate_zero, Nat.reduceAdd, Nat.reduceSub, Nat.zero_add, wd_inj, Nat.reduceLT, Nat.reduceEqDiff, decide_true, decide_false, Bool.false_eq_true, Bool.true_eq_false, Bool.not_true, Bool.not_false, Bool.or_false, Bool.false_or, Bool.or_true, Bool.true_or, Bool.and_self, Bool.and_true, Bool.true_and, ↓reduceIte, reduceCtorEq, line_le, Nat.reduceLeDiff, true_and, and_true, and_self, Option.isSome_some, Option.isSome_none, Int.reduceLT, Int.reduceLE, Int.reduceEq, Int.reduceNeg, put_same, ci0, ci1, ci2, ci3, ci4, ci5, ci6, W_PAIRS, startW, *])

/-! ### works as closed trees, and how they run -/
inductive C
  | set (k : Nat) (e : Rk) | say (e : Rk) | give (e : Rk) (k : Option Nat) | hand (args : List Rk) (k : Option Nat) (extra : Nat) (body : List C)
  | ifs (e : Rk) (a b : List C) | round (e : Rk) (a : List C) | leave | fault (e : Rk) | ends (e : Rk)
  | try0 (a l : List C) | tryc (a : List C) (k : Option Nat) (c l : List C)
abbrev RS := List Int × Tk
def keep (k : Option Nat) (v : Int) (sl : List Int) : List Int := match k with
  | none => sl
  | some k => sl.set k v
def rounds (f : RS → Option Way × RS) : Nat → RS → Option Way × RS
  | 0, s => (none, s)
  | n + 1, s => match f s with
    | (none, s') => rounds f n s'
    | (some .leave, s') => (none, s')
    | (some w, s') => (some w, s')
def given (T : Tk) (v : Int) (k : Option Nat) (sl : List Int) : Option Way × RS := match T.gift v with
  | (none, T') => (some .stop, (sl, T'))
  | (some .shut, T') => (some .shut, (sl, T'))
  | (some (.throw n), T') => (some (.fault n), (sl, T'))
  | (some (.ask n), T') => (none, (keep k n sl, T'))
def back (sl : List Int) (k : Option Nat) : Option Way × RS → Option Way × RS
  | (none, (_, T)) => (none, (keep k 0 sl, T))
  | (some (.ends v), (_, T)) => (none, (keep k v sl, T))
  | (some w, (_, T)) => (some w, (sl, T))
/-- the last of a try, behind what came before -/
def lastly (f : RS → Option Way × RS) : Option Way × RS → Option Way × RS
  | (some .stop, s) => (some .stop, s)
  | (w, s) => match f s with
    | (none, s') => (w, s')
    | (some m, s') => (some m, s')
def caught (f : RS → Option Way × RS) (k : Option Nat) : Option Way × RS → Option Way × RS
  | (some (.fault n), (sl, T)) => f (keep k n sl, T)
  | x => x
mutual
def C.run : C → RS → Option Way × RS
  | .leave, s => (some .leave, s)
  | .set k e, (sl, T) => match reck sl e with
    | none => (some (.fault 0), (sl, T))
    | some v => (none, (sl.set k v, T))
  | .say e, (sl, T) => match reck sl e with
    | none => (some (.fault 0), (sl, T))
    | some v => (none, (sl, T.say v))
  | .fault e, (sl, T) => match reck sl e with
    | none => (some (.fault 0), (sl, T))
    | some v => (some (.fault v), (sl, T))
  | .ends e, (sl, T) => match reck sl e with
    | none => (some (.fault 0), (sl, T))
    | some v => (some (.ends v), (sl, T))
  | .ifs e a b, (sl, T) => match reck sl e with
    | none => (some (.fault 0), (sl, T))
    | some v => if v = 0 then Cs.run b (sl, T) else Cs.run a (sl, T)
  | .round e a, (sl, T) => match reck sl e with
    | none => (some (.fault 0), (sl, T))
    | some v => rounds (Cs.run a) (v % 10).toNat (sl, T)
  | .give e k, (sl, T) => match reck sl e with
    | none => (some (.fault 0), (sl, T))
    | some v => given T v k sl
  | .hand args k ex body, (sl, T) => match allReck sl args with
    | none => (some (.fault 0), (sl, T))
    | some ns => back sl k (Cs.run body (ns ++ List.replicate ex 0, T))
  | .try0 a l, s => lastly (Cs.run l) (Cs.run a s)
  | .tryc a k c l, s => lastly (Cs.run l) (caught (Cs.run c) k (Cs.run a s))
def Cs.run : List C → RS → Option Way × RS
  | [], s => (none, s)
  | c :: cs, s => match c.run s with
    | (none, s') => Cs.run cs s'
    | (some w, s') => (some w, s')
end
mutual
def C.ok (m : Nat) : C → Prop
  | .leave => True
  | .set k e => k < m ∧ e.ok m ∧ e.deep < 4
  | .say e => e.ok m ∧ e.deep < 4
  | .fault e => e.ok m ∧ e.deep < 4
  | .ends e => e.ok m ∧ e.deep < 4
  | .ifs e a b => (e.ok m ∧ e.deep < 4) ∧ Cs.ok m a ∧ Cs.ok m b
  | .round e a => (e.ok m ∧ e.deep < 4) ∧ Cs.ok m a
  | .give e k => (e.ok m ∧ e.deep < 4) ∧ ∀ j, k = some j → j < m
  | .hand args k ex body => (∀ e ∈ args, e.ok m ∧ e.deep < 4) ∧ args.length ≤ 1000 ∧ ex ≤ 1000 ∧ (∀ j, k = some j → j < m) ∧ Cs.ok (args.length + ex) body
  | .try0 a l => Cs.ok m a ∧ Cs.ok m l
  | .tryc a k c l => Cs.ok m a ∧ (∀ j, k = some j → j < m) ∧ Cs.ok m c ∧ Cs.ok m l
def Cs.ok (m : Nat) : List C → Prop
  | [] => True
  | c :: cs => c.ok m ∧ Cs.ok m cs
end
mutual
/-- at most so many words -/
def C.cost : C → Nat
  | .say _ => 1
  | .ifs _ a b => Cs.cost a + Cs.cost b
  | .round (.num n) a => (n % 10).toNat * Cs.cost a
  | .round _ a => 9 * Cs.cost a
  | .hand _ _ _ b => Cs.cost b
  | .try0 a l => Cs.cost a + Cs.cost l
  | .tryc a _ c l => Cs.cost a + Cs.cost c + Cs.cost l
  | _ => 0
def Cs.cost : List C → Nat
  | [] => 0
  | c :: cs => c.cost + Cs.cost cs
end
mutual
def C.dep : C → Nat
  | .ifs _ a b => max (Cs.dep a) (Cs.dep b) + 1
  | .round _ a => Cs.dep a + 1
  | .hand _ _ _ b => Cs.dep b + 1
  | .try0 a l => max (Cs.dep a) (Cs.dep l) + 1
  | .tryc a _ c l => max (Cs.dep a) (max (Cs.dep c) (Cs.dep l)) + 1
  | _ => 0
def Cs.dep : List C → Nat
  | [] => 0
  | c :: cs => max c.dep (Cs.dep cs)
end
/-- what a run keeps: the slots' number and range, the deeds; the talk goes on unless it has stopped; how many words are open at most -/
structure Kept (s : RS) (n : Nat) (r : Option Way × RS) : Prop where
  len : r.2.1.length = s.1.length
  inr : ∀ i ∈ r.2.1, InR i
  deeds : r.2.2.deeds = s.2.deeds
  run : r.1 ≠ some .stop → r.2.2.told.length < s.2.deeds.length
  le : r.2.2.told.length ≤ s.2.deeds.length
  way : ∀ v, (r.1 = some (.fault v) ∨ r.1 = some (.ends v)) → InR v
  said : r.2.2.said.length ≤ s.2.said.length + n
structure Ready (s : RS) (m : Nat) : Prop where
  len : s.1.length = m
  inr : ∀ i ∈ s.1, InR i
  dok : ∀ d ∈ s.2.deeds, d.ok
  run : s.2.told.length < s.2.deeds.length
theorem inR0 : InR 0 := by unfold InR; omega
theorem Kept.same {s : RS} {n m : Nat} {w : Option Way} (h : Ready s m) (hw : w ≠ some .stop) (hv : ∀ v, (w = some (.fault v) ∨ w = some (.ends v)) → InR v) : Kept s n (w, s) :=
  ⟨rfl, h.inr, rfl, fun _ => h.run, Nat.le_of_lt h.run, hv, Nat.le_add_right _ _⟩
theorem mem_set {sl : List Int} {k : Nat} {v : Int} (h : ∀ i ∈ sl, InR i) (hv : InR v) : ∀ i ∈ sl.set k v, InR i := fun i hi => by
  rcases List.mem_or_eq_of_mem_set hi with hi | rfl
  · exact h i hi
  · exact hv
theorem mem_keep {sl : List Int} {k : Option Nat} {v : Int} (h : ∀ i ∈ sl, InR i) (hv : InR v) : ∀ i ∈ keep k v sl, InR i := by
  cases k with
  | none => exact h
  | some k => exact mem_set h hv
theorem len_keep {sl : List Int} {k : Option Nat} {v : Int} : (keep k v sl).length = sl.length := by
  cases k with
  | none => rfl
  | some k => exact List.length_set
theorem Kept.weak {s : RS} {n n' : Nat} {r : Option Way × RS} (k : Kept s n r) (h : n ≤ n') : Kept s n' r := ⟨k.len, k.inr, k.deeds, k.run, k.le, k.way, Nat.le_trans k.said (by omega)⟩
theorem Kept.ready {s : RS} {n m : Nat} {w : Option Way} {s' : RS} (h : Ready s m) (k : Kept s n (w, s')) (hw : w ≠ some .stop) : Ready s' m :=
  ⟨k.len.trans h.len, k.inr, fun d hd => h.dok d (by rw [← k.deeds]; exact hd), by have := k.run hw; rw [← k.deeds] at this; exact this⟩
theorem Kept.then {s : RS} {n n' : Nat} {w : Option Way} {s' : RS} {r : Option Way × RS} (k : Kept s n (w, s')) (k' : Kept s' n' r) : Kept s (n + n') r :=
  ⟨k'.len.trans k.len, k'.inr, k'.deeds.trans k.deeds, fun h => by have := k'.run h; rw [k.deeds] at this; exact this, by have := k'.le; rw [k.deeds] at this; exact this, k'.way, by have h1 := k.said; have h2 := k'.said; simp only at h1; omega⟩
theorem rounds_kept {f : RS → Option Way × RS} {m c : Nat} (hf : ∀ s, Ready s m → Kept s c (f s)) : ∀ (n : Nat) (s : RS), Ready s m → Kept s (n * c) (rounds f n s)
  | 0, s, h => .same h (fun e => nomatch e) (fun v e => e.elim (fun e => nomatch e) (fun e => nomatch e))
  | n + 1, s, h => by
    have k := hf s h
    unfold rounds
    have e : (n + 1) * c = c + n * c := by rw [Nat.succ_mul, Nat.add_comm]
    rw [e]
    cases q : f s with
    | mk w s' =>
      rw [q] at k
      cases w with
      | none => exact k.then (rounds_kept hf n s' (k.ready h (fun e => nomatch e)))
      | some w =>
        cases w with
        | leave => exact ⟨k.len, k.inr, k.deeds, fun _ => k.run (fun e => nomatch e), k.le, fun v e => e.elim (fun e => nomatch e) (fun e => nomatch e), Nat.le_trans k.said (by omega)⟩
        | _ => exact k.weak (by omega)
theorem tell_len (T : Tk) (o : Out) : (T.tell o).told.length = T.told.length + 1 := by simp [Tk.tell]
theorem given_kept {s : RS} {m n : Nat} (h : Ready s m) (v : Int) (k : Option Nat) : Kept s n (given s.2 v k s.1) := by
  obtain ⟨sl, T⟩ := s
  have hr : T.told.length < T.deeds.length := h.run
  unfold given Tk.gift
  obtain ⟨d, hd⟩ := get_some hr
  rw [hd]
  have stop : ∀ o, Kept (sl, T) n (some .stop, (sl, T.tell o)) := fun o => ⟨rfl, h.inr, rfl, fun e => absurd rfl e, by simp only [tell_len]; exact hr, fun v e => e.elim (fun e => nomatch e) (fun e => nomatch e), by simp [Tk.tell]⟩
  have nxt : Kept (sl, T) n (match (T.deeds[T.told.length + 1]?, T.tell (.gift v)) with
      | (none, T') => (some .stop, (sl, T'))
      | (some .shut, T') => (some .shut, (sl, T'))
      | (some (.throw n), T') => (some (.fault n), (sl, T'))
      | (some (.ask n), T') => (none, (keep k n sl, T'))) := by
    cases hd2 : T.deeds[T.told.length + 1]? with
    | none => exact stop _
    | some d2 =>
      have lt : (T.tell (.gift v)).told.length < T.deeds.length := by rw [tell_len]; exact (List.getElem?_eq_some_iff.mp hd2).1
      have ok2 : d2.ok := h.dok d2 (List.mem_of_getElem? hd2)
      cases d2 with
      | shut => exact ⟨rfl, h.inr, rfl, fun _ => lt, Nat.le_of_lt lt, fun v e => e.elim (fun e => nomatch e) (fun e => nomatch e), by simp [Tk.tell]⟩
      | throw j => exact ⟨rfl, h.inr, rfl, fun _ => lt, Nat.le_of_lt lt, fun v e => e.elim (fun e => by cases e; exact ok2) (fun e => nomatch e), by simp [Tk.tell]⟩
      | ask j => exact ⟨len_keep, mem_keep h.inr ok2, rfl, fun _ => lt, Nat.le_of_lt lt, fun v e => e.elim (fun e => nomatch e) (fun e => nomatch e), by simp [Tk.tell]⟩
  cases d with
  | shut => exact stop _
  | ask j => exact nxt
  | throw j => exact nxt
theorem lastly_kept {s : RS} {m n n' : Nat} {f : RS → Option Way × RS} {r : Option Way × RS} (h : Ready s m) (k : Kept s n r) (hf : ∀ s, Ready s m → Kept s n' (f s)) : Kept s (n + n') (lastly f r) := by
  obtain ⟨w, s'⟩ := r
  have main : w ≠ some .stop → Kept s (n + n') (match f s' with
    | (none, s') => (w, s')
    | (some m, s') => (some m, s')) := fun hw => by
    have k2 := hf s' (k.ready h hw)
    cases q : f s' with
    | mk w2 s2 =>
      rw [q] at k2
      cases w2 with
      | none =>
        have k3 := k.then k2
        exact ⟨k3.len, k3.inr, k3.deeds, fun _ => k3.run (fun e => nomatch e), k3.le, k.way, k3.said⟩
      | some w2 => exact k.then k2
  unfold lastly
  cases w with
  | none => exact main (fun e => nomatch e)
  | some w => cases w with
    | stop => exact k.weak (by omega)
    | _ => exact main (fun e => nomatch e)
theorem caught_kept {s : RS} {m n n' : Nat} {f : RS → Option Way × RS} {kk : Option Nat} {r : Option Way × RS} (h : Ready s m) (k : Kept s n r) (hf : ∀ s, Ready s m → Kept s n' (f s)) : Kept s (n + n') (caught f kk r) := by
  obtain ⟨w, sl, T⟩ := r
  unfold caught
  cases w with
  | none => exact k.weak (by omega)
  | some w => cases w with
    | fault v =>
      have r1 := k.ready h (fun e => nomatch e)
      have r2 : Ready (keep kk v sl, T) m := ⟨len_keep.trans r1.len, mem_keep r1.inr (k.way v (.inl rfl)), r1.dok, r1.run⟩
      have k2 := hf _ r2
      exact ⟨k2.len.trans (len_keep.trans k.len), k2.inr, k2.deeds.trans k.deeds, fun e => by have := k2.run e; simp only at this; rw [show T.deeds = s.2.deeds from k.deeds] at this; exact this, by have := k2.le; simp only at this; rw [show T.deeds = s.2.deeds from k.deeds] at this; exact this, k2.way, by have h1 := k.said; have h2 := k2.said; simp only at h1 h2 ⊢; omega⟩
    | _ => exact k.weak (by omega)
mutual
theorem C.kept : ∀ (c : C) {s : RS} {m : Nat}, Ready s m → c.ok m → Kept s c.cost (c.run s)
  | .leave, s, m, h, ok => .same h (fun e => nomatch e) (fun v e => e.elim (fun e => nomatch e) (fun e => nomatch e))
  | .set k e, (sl, T), m, h, ok => by
    simp only [C.run]
    cases q : reck sl e with
    | none => exact .same h (fun e => nomatch e) (fun v e => e.elim (fun e => by cases e; exact inR0) (fun e => nomatch e))
    | some v =>
      have hv : InR v := reck_in h.inr (by rw [h.len]; exact ok.2.1) q
      exact ⟨List.length_set, mem_set h.inr hv, rfl, fun _ => h.run, Nat.le_of_lt h.run, fun v e => e.elim (fun e => nomatch e) (fun e => nomatch e), Nat.le_add_right _ _⟩
  | .say e, (sl, T), m, h, ok => by
    simp only [C.run]
    cases q : reck sl e with
    | none => exact .same h (fun e => nomatch e) (fun v e => e.elim (fun e => by cases e; exact inR0) (fun e => nomatch e))
    | some v => exact ⟨rfl, h.inr, rfl, fun _ => h.run, Nat.le_of_lt h.run, fun v e => e.elim (fun e => nomatch e) (fun e => nomatch e), by simp [Tk.say, C.cost]⟩
  | .fault e, (sl, T), m, h, ok => by
    simp only [C.run]
    cases q : reck sl e with
    | none => exact .same h (fun e => nomatch e) (fun v e => e.elim (fun e => by cases e; exact inR0) (fun e => nomatch e))
    | some v => exact .same h (fun e => nomatch e) (fun v' e => e.elim (fun e => by cases e; exact reck_in h.inr (by rw [h.len]; exact ok.1) q) (fun e => nomatch e))
  | .ends e, (sl, T), m, h, ok => by
    simp only [C.run]
    cases q : reck sl e with
    | none => exact .same h (fun e => nomatch e) (fun v e => e.elim (fun e => by cases e; exact inR0) (fun e => nomatch e))
    | some v => exact .same h (fun e => nomatch e) (fun v' e => e.elim (fun e => nomatch e) (fun e => by cases e; exact reck_in h.inr (by rw [h.len]; exact ok.1) q))
  | .ifs e a b, (sl, T), m, h, ok => by
    simp only [C.run, C.cost]
    cases q : reck sl e with
    | none => exact .same h (fun e => nomatch e) (fun v e => e.elim (fun e => by cases e; exact inR0) (fun e => nomatch e))
    | some v =>
      simp only
      split
      · exact (Cs.kept b h ok.2.2).weak (by omega)
      · exact (Cs.kept a h ok.2.1).weak (by omega)
  | .round e a, (sl, T), m, h, ok => by
    simp only [C.run]
    cases q : reck sl e with
    | none => exact .same h (fun e => nomatch e) (fun v e => e.elim (fun e => by cases e; exact inR0) (fun e => nomatch e))
    | some v =>
      have k := rounds_kept (fun s h => Cs.kept a h ok.2) (v % 10).toNat (sl, T) h
      refine k.weak ?_
      have h9 : (v % 10).toNat ≤ 9 := by omega
      cases e with
      | num n => simp only [reck, Option.some.injEq] at q; subst q; simp only [C.cost]; exact Nat.le_refl _
      | slot j => simp only [C.cost]; exact Nat.mul_le_mul_right _ h9
      | op o x y => simp only [C.cost]; exact Nat.mul_le_mul_right _ h9
  | .give e k, (sl, T), m, h, ok => by
    simp only [C.run]
    cases q : reck sl e with
    | none => exact .same h (fun e => nomatch e) (fun v e => e.elim (fun e => by cases e; exact inR0) (fun e => nomatch e))
    | some v => exact given_kept h v k
  | .hand args k ex body, (sl, T), m, h, ok => by
    simp only [C.run, C.cost]
    cases q : allReck sl args with
    | none => exact .same h (fun e => nomatch e) (fun v e => e.elim (fun e => by cases e; exact inR0) (fun e => nomatch e))
    | some ns =>
      obtain ⟨_, _, h3, h4⟩ := allReck_some q
      have hns := h3 m h.inr h.len.symm fun e he => (ok.1 e he).1
      have rd : Ready (ns ++ List.replicate ex 0, T) (args.length + ex) := ⟨by simp [h4], fun i hi => (List.mem_append.mp hi).elim (hns i) fun hi => by rw [(List.mem_replicate.mp hi).2]; exact inR0, h.dok, h.run⟩
      have kb := Cs.kept body rd ok.2.2.2.2
      simp only
      cases qb : Cs.run body (ns ++ List.replicate ex 0, T) with
      | mk w s2 =>
        obtain ⟨sl2, T2⟩ := s2
        rw [qb] at kb
        unfold back
        have e1 : T2.deeds = T.deeds := kb.deeds
        cases w with
        | none => exact ⟨len_keep, mem_keep h.inr inR0, e1, fun _ => kb.run (fun e => nomatch e), kb.le, fun v e => e.elim (fun e => nomatch e) (fun e => nomatch e), kb.said⟩
        | some w => cases w with
          | ends v => exact ⟨len_keep, mem_keep h.inr (kb.way v (.inr rfl)), e1, fun _ => kb.run (fun e => nomatch e), kb.le, fun v e => e.elim (fun e => nomatch e) (fun e => nomatch e), kb.said⟩
          | _ => exact ⟨rfl, h.inr, e1, kb.run, kb.le, kb.way, kb.said⟩
  | .try0 a l, s, m, h, ok => by
    simp only [C.run, C.cost]
    exact lastly_kept h (Cs.kept a h ok.1) fun s h => Cs.kept l h ok.2
  | .tryc a k c l, s, m, h, ok => by
    simp only [C.run, C.cost]
    exact lastly_kept h (caught_kept h (Cs.kept a h ok.1) fun s h => Cs.kept c h ok.2.2.1) fun s h => Cs.kept l h ok.2.2.2
theorem Cs.kept : ∀ (cs : List C) {s : RS} {m : Nat}, Ready s m → Cs.ok m cs → Kept s (Cs.cost cs) (Cs.run cs s)
  | [], s, m, h, ok => .same h (fun e => nomatch e) (fun v e => e.elim (fun e => nomatch e) (fun e => nomatch e))
  | c :: cs, s, m, h, ok => by
    have k := C.kept c h ok.1
    simp only [Cs.run, Cs.cost]
    cases q : c.run s with
    | mk w s' =>
      rw [q] at k
      cases w with
      | none => exact k.then (Cs.kept cs (k.ready h (fun e => nomatch e)) ok.2)
      | some w => exact k.weak (by omega)
end
end WL

namespace WL
open PySem L2
local macro_rules | `(tactic| walk_at "wx") => `(tactic| simp only [↓x_var0, ↓x_varS, ↓x_c, ↓x_op, ↓x_b, ↓x_chain, ↓x_and, ↓x_or, ↓x_not, ↓x_andV, ↓x_orV, ↓x_notV, ↓x_if, ↓x_orT, ↓x_tr, ↓x_neg, ↓x_nil, ↓x_cons, ↓x_tup, ↓x_lst, ↓x_call, ↓x_lm, ↓x_lm0, ↓x_seq, ↓x_next, ↓x_ifS, ↓x_ret, ↓x_retN, ↓x_drop, ↓x_asg, ↓x_gname, ↓x_gtup, ↓x_gcons, ↓x_gnil, ↓x_gsub, ↓x_set, ↓x_for, ↓x_forR1, ↓x_lc, ↓x_lcR, ↓x_fld, ↓x_setF, ↓x_meth, ↓x_make, ↓x_sl, ↓x_part, ↓x_noPart, ↓x_yes, onB_bl, onS_some, onL_lst, onQ_some, onI_ins, onD_dk, onR_ref, onT_tup, onBo_some, x_app, x_clr, x_ext, v_add, v_addT, v_addS, v_addL, v_sub, v_mul, v_rep, v_mod, v_div, v_pow, v_lt, v_le, v_gt, v_ge, v_isN, v_notN, n_non, n_bl, n_int, n_str, n_ref, n_tup, q_ss, q_ii, q_bb, q_nn, q_is, q_si, q_in, q_ni, q_sn, q_ns, d_ss, d_ii, d_bb, d_nn, d_in, d_ni, ix_t, ix_r, ix_l, in_t, notin_t, fl_s, fl_i, fl_n, so_t, so_r, so_lp, len_t, len_r, len_s, int_i, int_b, list_x, tuple_x, min_ii, max_ii, sl_t, sl_l, look_nil, look_cons, putW_nil, putW_cons, x_inKd, x_notinKd, x_getKd, x_dget, key_s, key_i, val_nil, val_cons, inr_eq, start1, line_lt, atI0, atI1, atI2, atI3, atI4, List.map_cons, List.map_nil, List.cons_append, List.nil_append, List.set_cons_zero, List.set_cons_succ, List.length_cons, List.length_nil, List.all_cons, List.all_nil, List.replicate_succ, List.replicate_zero, Nat.reduceAdd, Nat.reduceSub, Nat.zero_add, wd_inj, Nat.reduceLT, Nat.reduceEqDiff, decide_true, decide_false, Bool.false_eq_true, Bool.true_eq_false, Bool.not_true, Bool.not_false, Bool.or_false, Bool.false_or, Bool.or_true, Bool.true_or, Bool.and_self, Bool.and_true, Bool.true_and, ↓reduceIte, reduceCtorEq, line_le, Nat.reduceLeDiff, true_and, and_true, and_self, Option.isSome_some, Option.isSome_none, Int.reduceLT, Int.reduceLE, Int.reduceEq, Int.reduceNeg, put_same, ci0, ci1, ci2, ci3, ci4, ci5, ci6, W_PAIRS, startW])
local macro_rules | `(tactic| walk_at "ws") => `(tactic| simp only [↓x_var0, ↓x_varS, ↓x_c, ↓x_op, ↓x_b, ↓x_chain, ↓x_and, ↓x_or, ↓x_not, ↓x_andV, ↓x_orV, ↓x_notV, ↓x_if, ↓x_orT, ↓x_tr, ↓x_neg, ↓x_nil, ↓x_cons, ↓x_tup, ↓x_lst, ↓x_call, ↓x_lm, ↓x_lm0, ↓x_seq, ↓x_next, ↓x_ifS, ↓x_ret, ↓x_retN, ↓x_drop, ↓x_asg, ↓x_gname, ↓x_gtup, ↓x_gcons, ↓x_gnil, ↓x_gsub, ↓x_set, ↓x_for, ↓x_forR1, ↓x_lc, ↓x_lcR, ↓x_fld, ↓x_setF, ↓x_meth, ↓x_make, ↓x_sl, ↓x_part, ↓x_noPart, ↓x_yes, onB_bl, onS_some, onL_lst, onQ_some, onI_ins, onD_dk, onR_ref, onT_tup, onBo_some, x_app, x_clr, x_ext, v_add, v_addT, v_addS, v_addL, v_sub, v_mul, v_rep, v_mod, v_div, v_pow, v_lt, v_le, v_gt, v_ge, v_isN, v_notN, n_non, n_bl, n_int, n_str, n_ref, n_tup, q_ss, q_ii, q_bb, q_nn, q_is, q_si, q_in, q_ni, q_sn, q_ns, d_ss, d_ii, d_bb, d_nn, d_in, d_ni, ix_t, ix_r, ix_l, in_t, notin_t, fl_s, fl_i, fl_n, so_t, so_r, so_lp, len_t, len_r, len_s, int_i, int_b, list_x, tuple_x, min_ii, max_ii, sl_t, sl_l, look_nil, look_cons, putW_nil, putW_cons, x_inKd, x_notinKd, x_getKd, x_dget, key_s, key_i, val_nil, val_cons, inr_eq, start1, line_lt, atI0, atI1, atI2, atI3, atI4, List.map_cons, List.map_nil, List.cons_append, List.nil_append, List.set_cons_zero, List.set_cons_succ, List.length_cons, List.length_nil, List.all_cons, List.all_nil, List.replicate_succ, List.replicate_zero, Nat.reduceAdd, Nat.reduceSub, Nat.zero_add, wd_inj, Nat.reduceLT, Nat.reduceEqDiff, decide_true, decide_false, Bool.false_eq_true, Bool.true_eq_false, Bool.not_true, Bool.not_false, Bool.or_false, Bool.false_or, Bool.or_true, Bool.true_or, Bool.and_self, Bool.and_true, Bool.true_and, ↓reduceIte, reduceCtorEq, line_le, Nat.reduceLeDiff, true_and, and_true, and_self, Option.isSome_some, Option.isSome_none, Int.reduceLT, Int.reduceLE, Int.reduceEq, Int.reduceNeg, put_same, ci0, ci1, ci2, ci3, ci4, ci5, ci6, W_PAIRS, startW, *])

/-! ### the walk through a program -/
def optW : Option Way → W | none => .non | some w => w.W
mutual
/-- a step of a program and its closed form -/
inductive CloS (p : List Work) : Step → C → Prop
  | set (k : Nat) (e : Rk) : CloS p (.set (some (k : Int)) e) (.set k e)
  | say (e : Rk) : CloS p (.say e) (.say e)
  | give (e : Rk) (k : Option Nat) : CloS p (.give e (k.map Int.ofNat)) (.give e k)
  | hand {w : Nat} {args : List Rk} {k : Option Nat} {wk : Work} {cb : List C} : p[w]? = some wk → wk.params = args.length → wk.params ≤ wk.slots → CloB p wk.body cb → CloS p (.hand (w : Int) args (k.map Int.ofNat)) (.hand args k (wk.slots - wk.params).toNat cb)
  | ifs {e : Rk} {a b : List Step} {ca cb : List C} : CloB p a ca → CloB p b cb → CloS p (.ifs e a b) (.ifs e ca cb)
  | round {e : Rk} {a : List Step} {ca : List C} : CloB p a ca → CloS p (.round e a) (.round e ca)
  | leave : CloS p .leave .leave
  | fault (e : Rk) : CloS p (.fault e) (.fault e)
  | ends (e : Rk) : CloS p (.ends e) (.ends e)
  | try0 {a l : List Step} {ca cl : List C} : CloB p a ca → CloB p l cl → CloS p (.try0 a l) (.try0 ca cl)
  | tryc {a c l : List Step} {k : Option Nat} {ca cc cl : List C} : CloB p a ca → CloB p c cc → CloB p l cl → CloS p (.tryc a (k.map Int.ofNat) c l) (.tryc ca k cc cl)
inductive CloB (p : List Work) : List Step → List C → Prop
  | nil : CloB p [] []
  | cons {s : Step} {c : C} {ss : List Step} {cs : List C} : CloS p s c → CloB p ss cs → CloB p (s :: ss) (c :: cs)
end
def Keep4 (a b c d : Addr) (S S' : Sto) : Prop := ∀ x o, x ≠ a → x ≠ b → x ≠ c → x ≠ d → S x = some o → S' x = some o
/-- where a walk stands -/
structure WkAt (CW CT : Addr) (S : Sto) (me pr tk ad at_ as_ sl : Addr) (p : List Work) (s : RS) (m : Nat) : Prop where
  hself : S me = some (.ins CW [(w_program, .ref pr), (w_talk, .ref tk)])
  hprog : S pr = some (progM p)
  htk : TkAt CT S tk ad at_ as_ s.2
  hsl : S sl = some (slotsM s.1)
  d1 : sl ≠ ad
  d2 : sl ≠ at_
  d3 : sl ≠ as_
  e1 : pr ≠ at_
  e2 : pr ≠ as_
  e3 : pr ≠ sl
  rd : Ready s m
  many : s.2.deeds.length ≤ 1000
theorem WkAt.st {CW CT : Addr} {S : Sto} {me pr tk ad at_ as_ sl : Addr} {p : List Work} {s : RS} {m : Nat} (h : WkAt CW CT S me pr tk ad at_ as_ sl p s m) : me ≠ tk ∧ me ≠ at_ ∧ me ≠ as_ ∧ me ≠ sl ∧ pr ≠ tk ∧ sl ≠ tk := by
  have o := h.htk.obj
  refine ⟨fun e => ?_, ne_obj h.hself h.htk.told, ne_obj h.hself h.htk.said, ne_obj h.hself h.hsl, Ne.symm (ne_obj o h.hprog), Ne.symm (ne_obj o h.hsl)⟩
  subst e
  have z := h.hself
  rw [o] at z
  simp at z
/-- what stands behind a part of the walk -/
structure WkTo (CT : Addr) (S S' : Sto) (tk ad at_ as_ as2 sl : Addr) (s' : RS) : Prop where
  htk : TkAt CT S' tk ad at_ as2 s'.2
  hsl : S' sl = some (slotsM s'.1)
  keep : Keep4 tk at_ as_ sl S S'
  new : as2 = as_ ∨ S as2 = none
theorem WkAt.to {CW CT : Addr} {S S' : Sto} {me pr tk ad at_ as_ as2 sl : Addr} {p : List Work} {s s' : RS} {m n : Nat} {w : Option Way} (h : WkAt CW CT S me pr tk ad at_ as_ sl p s m) (t : WkTo CT S S' tk ad at_ as_ as2 sl s') (k : Kept s n (w, s')) (hw : w ≠ some .stop) : WkAt CW CT S' me pr tk ad at_ as2 sl p s' m := by
  obtain ⟨a1, a2, a3, a4, a5, a6⟩ := h.st
  have ne : ∀ {x : Addr} {o : MO}, S x = some o → x ≠ as_ → x ≠ as2 := fun {x o} e n => by
    rcases t.new with z | z
    · rw [z]; exact n
    · exact ne_none e z
  exact ⟨t.keep _ _ a1 a2 a3 a4 h.hself, t.keep _ _ a5 h.e1 h.e2 h.e3 h.hprog, t.htk, t.hsl, h.d1, h.d2, ne h.hsl h.d3, h.e1, ne h.hprog h.e2, h.e3, k.ready h.rd hw, by rw [show s'.2.deeds = s.2.deeds from k.deeds]; exact h.many⟩
theorem WkTo.refl {CW CT : Addr} {S : Sto} {me pr tk ad at_ as_ sl : Addr} {p : List Work} {s : RS} {m : Nat} (h : WkAt CW CT S me pr tk ad at_ as_ sl p s m) : WkTo CT S S tk ad at_ as_ as_ sl s := ⟨h.htk, h.hsl, fun _ _ _ _ _ _ e => e, .inl rfl⟩
theorem WkTo.trans {CT : Addr} {S S1 S2 : Sto} {tk ad at_ as_ as1 as2 sl : Addr} {s1 s2 : RS} (a : WkTo CT S S1 tk ad at_ as_ as1 sl s1) (b : WkTo CT S1 S2 tk ad at_ as1 as2 sl s2) : WkTo CT S S2 tk ad at_ as_ as2 sl s2 := by
  refine ⟨b.htk, b.hsl, fun x o h1 h2 h3 h4 e => b.keep x o h1 h2 ?_ h4 (a.keep x o h1 h2 h3 h4 e), ?_⟩
  · rcases a.new with z | z
    · rw [z]; exact h3
    · exact ne_none e z
  · rcases b.new with z | z
    · rw [z]; exact a.new
    · cases q : S as2 with
      | none => exact .inr rfl
      | some o =>
        by_cases h3 : as2 = as_
        · exact .inl h3
        · by_cases h1 : as2 = tk
          · subst h1; rw [a.htk.obj] at z; cases z
          · by_cases h2 : as2 = at_
            · subst h2; rw [a.htk.told] at z; cases z
            · by_cases h4 : as2 = sl
              · subst h4; rw [a.hsl] at z; cases z
              · rw [a.keep as2 o h1 h2 h3 h4 q] at z; cases z
theorem WkTo.le {CT : Addr} {S S1 S2 : Sto} {tk ad at_ as_ as1 sl : Addr} {s1 : RS} (a : WkTo CT S S1 tk ad at_ as_ as1 sl s1) (l : Le S1 S2) : WkTo CT S S2 tk ad at_ as_ as1 sl s1 := ⟨a.htk.keep l, l _ _ a.hsl, fun x o h1 h2 h3 h4 e => l _ _ (a.keep x o h1 h2 h3 h4 e), a.new⟩
def sp_Walk_init (CW : Addr) : WSp := fun ws S Q => ∃ (x a b : Addr), ws = [.ref x, .ref a, .ref b] ∧ S x = some (.ins CW []) ∧ Q .non (put S x (.ins CW [(w_program, .ref a), (w_talk, .ref b)]))
theorem r_Walk_init (CW : Addr) : ∀ ws S Q, Up Q → sp_Walk_init CW ws S Q → t_Walk__init_ CW { nx := fun _ S' => Q .non S', rt := Q } (startW 3 ws) S := by
  rintro ws S Q up ⟨x, a, b, rfl, hx, q⟩
  simp only [t_Walk__init_]
  walk_at "ws"
  rw [put_put]
  exact q
/-- a part of the walk: from the arguments ws (behind me) of a closed form that runs f, so deep and so costly -/
def WkSp (CW CT : Addr) (ws : List W) (S : Sto) (Q : WQ) (args : Addr → List W) (ok : List Work → Nat → Prop) (f : RS → Option Way × RS) (cost : Nat) : Prop :=
  ∃ (me pr tk ad at_ as_ sl : Addr) (p : List Work) (s : RS) (m : Nat), ws = .ref me :: args sl ∧ WkAt CW CT S me pr tk ad at_ as_ sl p s m ∧ ok p m ∧ s.2.said.length + cost < 16000000 ∧
    ∀ S' as2, WkTo CT S S' tk ad at_ as_ as2 sl (f s).2 → Q (optW (f s).1) S'
def sp_Walk_body (CW CT : Addr) (n : Nat) : WSp := fun ws S Q => ∃ (b : List Step) (cs : List C), Cs.dep cs < n ∧ WkSp CW CT ws S Q (fun sl => [.tup (Steps.W b), .ref sl]) (fun p m => CloB p b cs ∧ Cs.ok m cs) (Cs.run cs) (Cs.cost cs)
def sp_Walk_step (CW CT : Addr) (n : Nat) : WSp := fun ws S Q => ∃ (b : Step) (c : C), c.dep < n ∧ WkSp CW CT ws S Q (fun sl => [b.W, .ref sl]) (fun p m => CloS p b c ∧ c.ok m) c.run c.cost
def sp_Walk_rounds (CW CT : Addr) (n : Nat) : WSp := fun ws S Q => ∃ (b : List Step) (cs : List C) (k : Nat), Cs.dep cs < n ∧ k ≤ 9 ∧ WkSp CW CT ws S Q (fun sl => [.tup (Steps.W b), .int k, .ref sl]) (fun p m => CloB p b cs ∧ Cs.ok m cs) (rounds (Cs.run cs) k) (k * Cs.cost cs)
def sp_Walk_handed (CW CT : Addr) (n : Nat) : WSp := fun ws S Q => ∃ (b : Step) (args : List Rk) (k : Option Nat) (ex : Nat) (cb : List C), (C.hand args k ex cb).dep < n ∧ WkSp CW CT ws S Q (fun sl => [b.W, .ref sl]) (fun p m => CloS p b (.hand args k ex cb) ∧ (C.hand args k ex cb).ok m) (C.hand args k ex cb).run (C.hand args k ex cb).cost
def C.isTry : C → Prop | .try0 _ _ => True | .tryc _ _ _ _ => True | _ => False
def sp_Walk_tried (CW CT : Addr) (n : Nat) : WSp := fun ws S Q => ∃ (b : Step) (c : C), c.isTry ∧ c.dep < n ∧ WkSp CW CT ws S Q (fun sl => [b.W, .ref sl]) (fun p m => CloS p b c ∧ c.ok m) c.run c.cost
def sp_Walk_given (CW CT : Addr) : WSp := fun ws S Q => ∃ (v : Int) (k : Option Nat), InR v ∧ WkSp CW CT ws S Q (fun sl => [.int v, optI (k.map Int.ofNat), .ref sl]) (fun _ m => ∀ j, k = some j → j < m) (fun s => given s.2 v k s.1) 0
theorem body_loop (CW CT : Addr) (n : Nat) {Q : WQ} {me pr tk ad at_ as_ sl : Addr} {p : List Work} {m : Nat} {bw : W} {S0 : Sto} {Z : Sto → Prop} (hZ : ∀ S, Z S) : ∀ (b : List Step) (cs : List C) (s : RS) (S : Sto) (as1 : Addr) (x3 x4 : Option W), CloB p b cs → Cs.ok m cs → Cs.dep cs < n →
    WkAt CW CT S me pr tk ad at_ as1 sl p s m → WkTo CT S0 S tk ad at_ as_ as1 sl s → s.2.said.length + Cs.cost cs < 16000000 → (∀ S' as2, WkTo CT S0 S' tk ad at_ as_ as2 sl (Cs.run cs s).2 → Q (optW (Cs.run cs s).1) S') →
    forW Z (gNameW 3) (l_Walk_body_1 CW (sp_Walk_step CW CT n)) (Steps.W b) { nx := fun r S' => Q .non S', rt := Q } [some (.ref me), some bw, some (.ref sl), x3, x4] S
  | [], cs, s, S, as1, x3, x4, hc, ok, hd, h, t, hs, q => by
    cases hc
    simp only [Steps.W, forW]
    exact ⟨hZ S, q S as1 t⟩
  | st :: b, cs, s, S, as1, x3, x4, hc, ok, hd, h, t, hs, q => by
    cases hc with
    | @cons _ c _ cs hc hcs =>
      have hd' : max c.dep (Cs.dep cs) < n := by simpa [Cs.dep] using hd
      simp only [Cs.cost] at hs
      simp only [Steps.W, forW, l_Walk_body_1]
      refine ⟨hZ S, ?_⟩
      have o := h.hself
      have k := C.kept c h.rd ok.1
      have call : sp_Walk_step CW CT n [.ref me, st.W, .ref sl] S fun w S1 => onB (.bl (!isNon w)) fun b_1 => if b_1 = true then Q w S1 else forW Z (gNameW 3) (l_Walk_body_1 CW (sp_Walk_step CW CT n)) (Steps.W b) { nx := fun r S' => Q .non S', rt := Q } [some (.ref me), some bw, some (.ref sl), some st.W, some w] S1 := by
        refine ⟨st, c, by omega, me, pr, tk, ad, at_, as1, sl, p, s, m, rfl, h, ⟨hc, ok.1⟩, by omega, fun S1 as2 t1 => ?_⟩
        simp only [Cs.run] at q
        cases e : c.run s with
        | mk w s' =>
          rw [e] at t1 k q
          simp only at t1 q
          cases w with
          | none =>
            simp only [optW, isNon, Bool.not_true, onB_bl, Bool.false_eq_true, if_false]
            have ks := k.said
            simp only at ks
            exact body_loop CW CT n hZ b cs s' S1 as2 _ _ hcs ok.2 (by omega) (h.to t1 k (fun e => nomatch e)) (t.trans t1) (by omega) q
          | some w =>
            have e2 : isNon (optW (some w)) = false := by cases w <;> rfl
            simp only [e2, Bool.not_false, onB_bl, if_true]
            exact q S1 as2 (t.trans t1)
      clear q k
      walk_at "ws"
      exact call
theorem r_Walk_body (CW CT : Addr) (n : Nat) : ∀ ws S Q, Up Q → sp_Walk_body CW CT n ws S Q → t_Walk_body CW (sp_Walk_step CW CT n) { nx := fun _ S' => Q .non S', rt := Q } (startW 5 ws) S := by
  rintro ws S Q up ⟨b, cs, hd, me, pr, tk, ad, at_, as_, sl, p, s, m, rfl, h, ⟨hc, ok⟩, hs, q⟩
  simp only [t_Walk_body]
  walk_at "wx"
  exact body_loop CW CT n (fun _ => trivial) b cs s S as_ none none hc ok hd h (.refl h) hs q
end WL

namespace WL
open PySem L2
local macro_rules | `(tactic| walk_at "wx") => `(tactic| simp only [↓x_var0, ↓x_varS, ↓x_c, ↓x_op, ↓x_b, ↓x_chain, ↓x_and, ↓x_or, ↓x_not, ↓x_andV, ↓x_orV, ↓x_notV, ↓x_if, ↓x_orT, ↓x_tr, ↓x_neg, ↓x_nil, ↓x_cons, ↓x_tup, ↓x_lst, ↓x_call, ↓x_lm, ↓x_lm0, ↓x_seq, ↓x_next, ↓x_ifS, ↓x_ret, ↓x_retN, ↓x_drop, ↓x_asg, ↓x_gname, ↓x_gtup, ↓x_gcons, ↓x_gnil, ↓x_gsub, ↓x_set, ↓x_for, ↓x_forR1, ↓x_lc, ↓x_lcR, ↓x_fld, ↓x_setF, ↓x_meth, ↓x_make, ↓x_sl, ↓x_part, ↓x_noPart, ↓x_yes, onB_bl, onS_some, onL_lst, onQ_some, onI_ins, onD_dk, onR_ref, onT_tup, onBo_some, x_app, x_clr, x_ext, v_add, v_addT, v_addS, v_addL, v_sub, v_mul, v_rep, v_mod, v_div, v_pow, v_lt, v_le, v_gt, v_ge, v_isN, v_notN, n_non, n_bl, n_int, n_str, n_ref, n_tup, q_ss, q_ii, q_bb, q_nn, q_is, q_si, q_in, q_ni, q_sn, q_ns, d_ss, d_ii, d_bb, d_nn, d_in, d_ni, ix_t, ix_r, ix_l, in_t, notin_t, fl_s, fl_i, fl_n, so_t, so_r, so_lp, len_t, len_r, len_s, int_i, int_b, list_x, tuple_x, min_ii, max_ii, sl_t, sl_l, look_nil, look_cons, putW_nil, putW_cons, x_inKd, x_notinKd, x_getKd, x_dget, key_s, key_i, val_nil, val_cons, inr_eq, start1, line_lt, atI0, atI1, atI2, atI3, atI4, List.map_cons, List.map_nil, List.cons_append, List.nil_append, List.set_cons_zero, List.set_cons_succ, List.length_cons, List.length_nil, List.all_cons, List.all_nil, List.replicate_succ, List.replicate_zero, Nat.reduceAdd, Nat.reduceSub, Nat.zero_add, wd_inj, Nat.reduceLT, Nat.reduceEqDiff, decide_true, decide_false, Bool.false_eq_true, Bool.true_eq_false, Bool.not_true, Bool.not_false, Bool.or_false, Bool.false_or, Bool.or_true, Bool.true_or, Bool.and_self, Bool.and_true, Bool.true_and, ↓reduceIte, reduceCtorEq, line_le, Nat.reduceLeDiff, true_and, and_true, and_self, Option.isSome_some, Option.isSome_none, Int.reduceLT, Int.reduceLE, Int.reduceEq, Int.reduceNeg, put_same, ci0, ci1, ci2, ci3, ci4, ci5, ci6, W_PAIRS, startW])
local macro_rules | `(tactic| walk_at "ws") => `(tactic| simp only [↓x_var0, ↓x_varS, ↓x_c, ↓x_op, ↓x_b, ↓x_chain, ↓x_and, ↓x_or, ↓x_not, ↓x_andV, ↓x_orV, ↓x_notV, ↓x_if, ↓x_orT, ↓x_tr, ↓x_neg, ↓x_nil, ↓x_cons, ↓x_tup, ↓x_lst, ↓x_call, ↓x_lm, ↓x_lm0, ↓x_seq, ↓x_next, ↓x_ifS, ↓x_ret, ↓x_retN, ↓x_drop, ↓x_asg, ↓x_gname, ↓x_gtup, ↓x_gcons, ↓x_gnil, ↓x_gsub, ↓x_set, ↓x_for, ↓x_forR1, ↓x_lc, ↓x_lcR, ↓x_fld, ↓x_setF, ↓x_meth, ↓x_make, ↓x_sl, ↓x_part, ↓x_noPart, ↓x_yes, onB_bl, onS_some, onL_lst, onQ_some, onI_ins, onD_dk, onR_ref, onT_tup, onBo_some, x_app, x_clr, x_ext, v_add, v_addT, v_addS, v_addL, v_sub, v_mul, v_rep, v_mod, v_div, v_pow, v_lt, v_le, v_gt, v_ge, v_isN, v_notN, n_non, n_bl, n_int, n_str, n_ref, n_tup, q_ss, q_ii, q_bb, q_nn, q_is, q_si, q_in, q_ni, q_sn, q_ns, d_ss, d_ii, d_bb, d_nn, d_in, d_ni, ix_t, ix_r, ix_l, in_t, notin_t, fl_s, fl_i, fl_n, so_t, so_r, so_lp, len_t, len_r, len_s, int_i, int_b, list_x, tuple_x, min_ii, max_ii, sl_t, sl_l, look_nil, look_cons, putW_nil, putW_cons, x_inKd, x_notinKd, x_getKd, x_dget, key_s, key_i, val_nil, val_cons, inr_eq, start1, line_lt, atI0, atI1, atI2, atI3, atI4, List.map_cons, List.map_nil, List.cons_append, List.nil_append, List.set_cons_zero, List.set_cons_succ, List.length_cons, List.length_nil, List.all_cons, List.all_nil, List.replicate_succ, List.replicate_zero, Nat.reduceAdd, Nat.reduceSub, Nat.zero_add, wd_inj, Nat.reduceLT, Nat.reduceEqDiff, decide_true, decide_false, Bool.false_eq_true, Bool.true_eq_false, Bool.not_true, Bool.not_false, Bool.or_false, Bool.false_or, Bool.or_true, Bool.true_or, Bool.and_self, Bool.and_true, Bool.true_and, ↓reduceIte, reduceCtorEq, line_le, Nat.reduceLeDiff, true_and, and_true, and_self, Option.isSome_some, Option.isSome_none, Int.reduceLT, Int.reduceLE, Int.reduceEq, Int.reduceNeg, put_same, ci0, ci1, ci2, ci3, ci4, ci5, ci6, W_PAIRS, startW, *])

theorem optW_non {w : Option Way} : isNon (optW w) = w.isNone := by cases w with | none => rfl | some w => cases w <;> rfl
theorem rounds_loop (CW CT : Addr) (n : Nat) {Q : WQ} {me pr tk ad at_ as_ sl : Addr} {p : List Work} {m : Nat} {kk : Option W} {S0 : Sto} {b : List Step} {cs : List C} (hc : CloB p b cs) (ok : Cs.ok m cs) (hd : Cs.dep cs < n) : ∀ (xs : List W) (s : RS) (S : Sto) (as1 : Addr) (x4 x5 : Option W),
    WkAt CW CT S me pr tk ad at_ as1 sl p s m → WkTo CT S0 S tk ad at_ as_ as1 sl s → s.2.said.length + xs.length * Cs.cost cs < 16000000 → (∀ S' as2, WkTo CT S0 S' tk ad at_ as_ as2 sl (rounds (Cs.run cs) xs.length s).2 → Q (optW (rounds (Cs.run cs) xs.length s).1) S') →
    forW (fun _ => True) (gNameW 4) (l_Walk_rounds_1 CW (sp_Walk_body CW CT n)) xs { nx := fun r S' => Q .non S', rt := Q } [some (.ref me), some (.tup (Steps.W b)), kk, some (.ref sl), x4, x5] S
  | [], s, S, as1, x4, x5, h, t, hs, q => by
    simp only [forW]
    exact ⟨trivial, q S as1 t⟩
  | x :: xs, s, S, as1, x4, x5, h, t, hs, q => by
    have o := h.hself
    have e0 : (x :: xs).length * Cs.cost cs = xs.length * Cs.cost cs + Cs.cost cs := by rw [List.length_cons, Nat.succ_mul]
    rw [e0] at hs
    have k := Cs.kept cs h.rd ok
    have rest : ∀ S1 as2, WkTo CT S S1 tk ad at_ as1 as2 sl (Cs.run cs s).2 → ∀ w, w = optW (Cs.run cs s).1 → wSeq (wIfS (wB (wOp rNotN (wVar 5) (wC .non))) (wRet (wIf (wB (wOp rEqW (wOp rIxW (wVar 5) (wC (.int 0))) (wC (.str w_leave)))) (wC .non) (wVar 5))) wNext) (fun D r S => D.nx r S) { nx := fun r S1 => forW (fun _ => True) (gNameW 4) (l_Walk_rounds_1 CW (sp_Walk_body CW CT n)) xs { nx := fun r S' => Q .non S', rt := Q } r S1, rt := Q } [some (.ref me), some (.tup (Steps.W b)), kk, some (.ref sl), some x, some w] S1 := by
      rintro S1 as2 t1 w rfl
      simp only [List.length_cons, rounds] at q
      cases e : Cs.run cs s with
      | mk w s' =>
        rw [e] at t1 k q
        simp only at t1 q
        have ks := k.said
        simp only at ks
        cases w with
        | none =>
          simp only [optW]
          walk_at "wx"
          exact rounds_loop CW CT n hc ok hd xs s' S1 as2 _ _ (h.to t1 k (fun e => nomatch e)) (t.trans t1) (by omega) q
        | some w =>
          have t2 := t.trans t1
          cases w <;> (simp only [optW, Way.W]; walk_at "wx"; exact q S1 as2 t2)
    simp only [forW, l_Walk_rounds_1]
    refine ⟨trivial, ?_⟩
    clear q
    walk_at "ws"
    refine ⟨b, cs, hd, me, pr, tk, ad, at_, as1, sl, p, s, m, rfl, h, ⟨hc, ok⟩, by omega, fun S1 as2 t1 => ?_⟩
    have r := rest S1 as2 t1 _ rfl
    simp only [wSeq] at r
    exact r
theorem r_Walk_rounds (CW CT : Addr) (n : Nat) : ∀ ws S Q, Up Q → sp_Walk_rounds CW CT n ws S Q → t_Walk_rounds CW (sp_Walk_body CW CT n) { nx := fun _ S' => Q .non S', rt := Q } (startW 6 ws) S := by
  rintro ws S Q up ⟨b, cs, k, hd, hk, me, pr, tk, ad, at_, as_, sl, p, s, m, rfl, h, ⟨hc, ok⟩, hs, q⟩
  simp only [t_Walk_rounds]
  walk_at "wx"
  refine ⟨⟨by omega, by omega⟩, ?_⟩
  have e : ((List.range (k : Int).toNat).map fun i => W.int (i : Nat)).length = k := by rw [List.length_map, List.length_range]; rfl
  exact rounds_loop CW CT n hc ok hd _ s S as_ none none h (.refl h) (by rw [e]; exact hs) (by rw [e]; exact q)

end WL
namespace WL
open PySem L2
local macro_rules | `(tactic| walk_at "wx") => `(tactic| simp only [↓x_var0, ↓x_varS, ↓x_c, ↓x_op, ↓x_b, ↓x_chain, ↓x_and, ↓x_or, ↓x_not, ↓x_andV, ↓x_orV, ↓x_notV, ↓x_if, ↓x_orT, ↓x_tr, ↓x_neg, ↓x_nil, ↓x_cons, ↓x_tup, ↓x_lst, ↓x_call, ↓x_lm, ↓x_lm0, ↓x_seq, ↓x_next, ↓x_ifS, ↓x_ret, ↓x_retN, ↓x_drop, ↓x_asg, ↓x_gname, ↓x_gtup, ↓x_gcons, ↓x_gnil, ↓x_gsub, ↓x_set, ↓x_for, ↓x_forR1, ↓x_lc, ↓x_lcR, ↓x_fld, ↓x_setF, ↓x_meth, ↓x_make, ↓x_sl, ↓x_part, ↓x_noPart, ↓x_yes, onB_bl, onS_some, onL_lst, onQ_some, onI_ins, onD_dk, onR_ref, onT_tup, onBo_some, x_app, x_clr, x_ext, v_add, v_addT, v_addS, v_addL, v_sub, v_mul, v_rep, v_mod, v_div, v_pow, v_lt, v_le, v_gt, v_ge, v_isN, v_notN, n_non, n_bl, n_int, n_str, n_ref, n_tup, q_ss, q_ii, q_bb, q_nn, q_is, q_si, q_in, q_ni, q_sn, q_ns, d_ss, d_ii, d_bb, d_nn, d_in, d_ni, ix_t, ix_r, ix_l, in_t, notin_t, fl_s, fl_i, fl_n, so_t, so_r, so_lp, len_t, len_r, len_s, int_i, int_b, list_x, tuple_x, min_ii, max_ii, sl_t, sl_l, look_nil, look_cons, putW_nil, putW_cons, x_inKd, x_notinKd, x_getKd, x_dget, key_s, key_i, val_nil, val_cons, inr_eq, start1, line_lt, atI0, atI1, atI2, atI3, atI4, List.map_cons, List.map_nil, List.cons_append, List.nil_append, List.set_cons_zero, List.set_cons_succ, List.length_cons, List.length_nil, List.all_cons, List.all_nil, List.replicate_succ, List.replicate_zero, Nat.reduceAdd, Nat.reduceSub, Nat.zero_add, wd_inj, Nat.reduceLT, Nat.reduceEqDiff, decide_true, decide_false, Bool.false_eq_true, Bool.true_eq_false, Bool.not_true, Bool.not_false, Bool.or_false, Bool.false_or, Bool.or_true, Bool.true_or, Bool.and_self, Bool.and_true, Bool.true_and, ↓reduceIte, reduceCtorEq, line_le, Nat.reduceLeDiff, true_and, and_true, and_self, Option.isSome_some, Option.isSome_none, Int.reduceLT, Int.reduceLE, Int.reduceEq, Int.reduceNeg, put_same, ci0, ci1, ci2, ci3, ci4, ci5, ci6, W_PAIRS, startW])
local macro_rules | `(tactic| walk_at "ws") => `(tactic| simp only [↓x_var0, ↓x_varS, ↓x_c, ↓x_op, ↓x_b, ↓x_chain, ↓x_and, ↓x_or, ↓x_not, ↓x_andV, ↓x_orV, ↓x_notV, ↓x_if, ↓x_orT, ↓x_tr, ↓x_neg, ↓x_nil, ↓x_cons, ↓x_tup, ↓x_lst, ↓x_call, ↓x_lm, ↓x_lm0, ↓x_seq, ↓x_next, ↓x_ifS, ↓x_ret, ↓x_retN, ↓x_drop, ↓x_asg, ↓x_gname, ↓x_gtup, ↓x_gcons, ↓x_gnil, ↓x_gsub, ↓x_set, ↓x_for, ↓x_forR1, ↓x_lc, ↓x_lcR, ↓x_fld, ↓x_setF, ↓x_meth, ↓x_make, ↓x_sl, ↓x_part, ↓x_noPart, ↓x_yes, onB_bl, onS_some, onL_lst, onQ_some, onI_ins, onD_dk, onR_ref, onT_tup, onBo_some, x_app, x_clr, x_ext, v_add, v_addT, v_addS, v_addL, v_sub, v_mul, v_rep, v_mod, v_div, v_pow, v_lt, v_le, v_gt, v_ge, v_isN, v_notN, n_non, n_bl, n_int, n_str, n_ref, n_tup, q_ss, q_ii, q_bb, q_nn, q_is, q_si, q_in, q_ni, q_sn, q_ns, d_ss, d_ii, d_bb, d_nn, d_in, d_ni, ix_t, ix_r, ix_l, in_t, notin_t, fl_s, fl_i, fl_n, so_t, so_r, so_lp, len_t, len_r, len_s, int_i, int_b, list_x, tuple_x, min_ii, max_ii, sl_t, sl_l, look_nil, look_cons, putW_nil, putW_cons, x_inKd, x_notinKd, x_getKd, x_dget, key_s, key_i, val_nil, val_cons, inr_eq, start1, line_lt, atI0, atI1, atI2, atI3, atI4, List.map_cons, List.map_nil, List.cons_append, List.nil_append, List.set_cons_zero, List.set_cons_succ, List.length_cons, List.length_nil, List.all_cons, List.all_nil, List.replicate_succ, List.replicate_zero, Nat.reduceAdd, Nat.reduceSub, Nat.zero_add, wd_inj, Nat.reduceLT, Nat.reduceEqDiff, decide_true, decide_false, Bool.false_eq_true, Bool.true_eq_false, Bool.not_true, Bool.not_false, Bool.or_false, Bool.false_or, Bool.or_true, Bool.true_or, Bool.and_self, Bool.and_true, Bool.true_and, ↓reduceIte, reduceCtorEq, line_le, Nat.reduceLeDiff, true_and, and_true, and_self, Option.isSome_some, Option.isSome_none, Int.reduceLT, Int.reduceLE, Int.reduceEq, Int.reduceNeg, put_same, ci0, ci1, ci2, ci3, ci4, ci5, ci6, W_PAIRS, startW, *])

theorem ix_sl {l : List Int} {j : Nat} (h : j < l.length) : ixN (l.map W.int).length (j : Int) = some j := by
  have h' : j < (l.map W.int).length := by rw [List.length_map]; exact h
  unfold ixN
  rw [if_pos (by omega), if_pos (by omega)]
  rfl
theorem WkAt.talk {CW CT : Addr} {S S' : Sto} {me pr tk ad at_ as_ as2 sl : Addr} {p : List Work} {s : RS} {m : Nat} {T' : Tk} (h : WkAt CW CT S me pr tk ad at_ as_ sl p s m) (t : TkAt CT S' tk ad at_ as2 T') (k : Keep3 tk at_ as_ S S') (new : as2 = as_ ∨ S as2 = none) : WkTo CT S S' tk ad at_ as_ as2 sl (s.1, T') :=
  ⟨t, k _ _ h.st.2.2.2.2.2 h.d2 h.d3 h.hsl, fun x o h1 h2 h3 _ e => k x o h1 h2 h3 e, new⟩
theorem WkTo.setsl {CW CT : Addr} {S S' : Sto} {me pr tk ad at_ as_ as2 sl : Addr} {p : List Work} {s s' : RS} {m : Nat} {sl' : List Int} (h : WkAt CW CT S me pr tk ad at_ as_ sl p s m) (t : WkTo CT S S' tk ad at_ as_ as2 sl s') : WkTo CT S (put S' sl (slotsM sl')) tk ad at_ as_ as2 sl (sl', s'.2) := by
  have n1 : sl ≠ as2 := by
    rcases t.new with z | z
    · rw [z]; exact h.d3
    · exact ne_none h.hsl z
  refine ⟨⟨?_, ?_, ?_, ?_, t.htk.n1, t.htk.n2, t.htk.n3⟩, put_same, fun x o h1 h2 h3 h4 e => ?_, t.new⟩
  · rw [put_ne (Ne.symm h.st.2.2.2.2.2)]; exact t.htk.obj
  · rw [put_ne (Ne.symm h.d1)]; exact t.htk.deeds
  · rw [put_ne (Ne.symm h.d2)]; exact t.htk.told
  · rw [put_ne (Ne.symm n1)]; exact t.htk.said
  · rw [put_ne h4]; exact t.keep x o h1 h2 h3 h4 e
theorem Ready.short {s : RS} {m : Nat} (h : Ready s m) (d : s.2.deeds.length ≤ 1000) : s.2.told.length < 1000000 := by have := h.run; omega
theorem r_Walk_given (CW CT : Addr) : ∀ ws S Q, Up Q → sp_Walk_given CW CT ws S Q → t_Walk_given CW CT (sp_Talk_gift CT) { nx := fun _ S' => Q .non S', rt := Q } (startW 5 ws) S := by
  rintro ws S Q up ⟨v, k, hv, me, pr, tk, ad, at_, as_, sl, p, s, m, rfl, h, hk, hs, q⟩
  have o := h.hself
  have o2 := h.htk.obj
  simp only [t_Walk_given]
  walk_at "ws"
  refine ⟨tk, ad, at_, as_, s.2, v, rfl, h.htk, h.rd.run, h.rd.short h.many, fun S1 as2 t1 k1 f1 => ?_⟩
  simp only [given] at q
  cases e : s.2.gift v with
  | mk d T' =>
    rw [e] at t1
    have tt := h.talk t1 k1 (.inr f1)
    simp only [e] at q
    cases d with
    | none =>
      simp only [optD]
      walk_at "wx"
      exact q S1 as2 tt
    | some d =>
      cases d with
      | shut =>
        simp only [optD, Deed.W]
        walk_at "wx"
        exact q S1 as2 tt
      | throw j =>
        simp only [optD, Deed.W]
        walk_at "wx"
        exact q S1 as2 tt
      | ask j =>
        simp only [optD, Deed.W]
        cases k with
        | none =>
          simp only [Option.map, optI]
          walk_at "wx"
          exact q S1 as2 tt
        | some k =>
          have c1 := ix_sl (show k < s.1.length by rw [h.rd.len]; exact hk k rfl) (l := s.1)
          have c2 := tt.hsl
          have q' := q _ as2 (tt.setsl h (sl' := s.1.set k j))
          simp only [keep, slotsM] at q' c2
          have e3 : List.map W.int (s.1.set k j) = (List.map W.int s.1).set k (.int j) := List.map_set
          rw [e3] at q'
          simp only [Option.map, optI, Int.ofNat_eq_natCast]
          clear q tt t1 k1
          walk_at "ws"
          exact q'

theorem step_same {b : Step} {p : List Work} {c : C} (h : CloS p b c) : True := trivial
/-- a body called with the slots of the walk -/
theorem call_body {CW CT : Addr} {n : Nat} {Q : WQ} {me pr tk ad at_ as_ sl : Addr} {p : List Work} {s : RS} {m : Nat} {S : Sto} {b : List Step} {cs : List C} (h : WkAt CW CT S me pr tk ad at_ as_ sl p s m) (hc : CloB p b cs) (ok : Cs.ok m cs) (hd : Cs.dep cs < n) (hs : s.2.said.length + Cs.cost cs < 16000000)
    (q : ∀ S' as2, WkTo CT S S' tk ad at_ as_ as2 sl (Cs.run cs s).2 → Kept s (Cs.cost cs) (Cs.run cs s) → Q (optW (Cs.run cs s).1) S') : sp_Walk_body CW CT n [.ref me, .tup (Steps.W b), .ref sl] S Q :=
  ⟨b, cs, hd, me, pr, tk, ad, at_, as_, sl, p, s, m, rfl, h, ⟨hc, ok⟩, hs, fun S' as2 t => q S' as2 t (Cs.kept cs h.rd ok)⟩

end WL
namespace WL
open PySem L2
local macro_rules | `(tactic| walk_at "wx") => `(tactic| simp only [↓x_var0, ↓x_varS, ↓x_c, ↓x_op, ↓x_b, ↓x_chain, ↓x_and, ↓x_or, ↓x_not, ↓x_andV, ↓x_orV, ↓x_notV, ↓x_if, ↓x_orT, ↓x_tr, ↓x_neg, ↓x_nil, ↓x_cons, ↓x_tup, ↓x_lst, ↓x_call, ↓x_lm, ↓x_lm0, ↓x_seq, ↓x_next, ↓x_ifS, ↓x_ret, ↓x_retN, ↓x_drop, ↓x_asg, ↓x_gname, ↓x_gtup, ↓x_gcons, ↓x_gnil, ↓x_gsub, ↓x_set, ↓x_for, ↓x_forR1, ↓x_lc, ↓x_lcR, ↓x_fld, ↓x_setF, ↓x_meth, ↓x_make, ↓x_sl, ↓x_part, ↓x_noPart, ↓x_yes, onB_bl, onS_some, onL_lst, onQ_some, onI_ins, onD_dk, onR_ref, onT_tup, onBo_some, x_app, x_clr, x_ext, v_add, v_addT, v_addS, v_addL, v_sub, v_mul, v_rep, v_mod, v_div, v_pow, v_lt, v_le, v_gt, v_ge, v_isN, v_notN, n_non, n_bl, n_int, n_str, n_ref, n_tup, q_ss, q_ii, q_bb, q_nn, q_is, q_si, q_in, q_ni, q_sn, q_ns, d_ss, d_ii, d_bb, d_nn, d_in, d_ni, ix_t, ix_r, ix_l, in_t, notin_t, fl_s, fl_i, fl_n, so_t, so_r, so_lp, len_t, len_r, len_s, int_i, int_b, list_x, tuple_x, min_ii, max_ii, sl_t, sl_l, look_nil, look_cons, putW_nil, putW_cons, x_inKd, x_notinKd, x_getKd, x_dget, key_s, key_i, val_nil, val_cons, inr_eq, start1, line_lt, atI0, atI1, atI2, atI3, atI4, List.map_cons, List.map_nil, List.cons_append, List.nil_append, List.set_cons_zero, List.set_cons_succ, List.length_cons, List.length_nil, List.all_cons, List.all_nil, List.replicate_succ, List.replicate_zero, Nat.reduceAdd, Nat.reduceSub, Nat.zero_add, wd_inj, Nat.reduceLT, Nat.reduceEqDiff, decide_true, decide_false, Bool.false_eq_true, Bool.true_eq_false, Bool.not_true, Bool.not_false, Bool.or_false, Bool.false_or, Bool.or_true, Bool.true_or, Bool.and_self, Bool.and_true, Bool.true_and, ↓reduceIte, reduceCtorEq, line_le, Nat.reduceLeDiff, true_and, and_true, and_self, Option.isSome_some, Option.isSome_none, Int.reduceLT, Int.reduceLE, Int.reduceEq, Int.reduceNeg, put_same, ci0, ci1, ci2, ci3, ci4, ci5, ci6, W_PAIRS, startW])
local macro_rules | `(tactic| walk_at "ws") => `(tactic| simp only [↓x_var0, ↓x_varS, ↓x_c, ↓x_op, ↓x_b, ↓x_chain, ↓x_and, ↓x_or, ↓x_not, ↓x_andV, ↓x_orV, ↓x_notV, ↓x_if, ↓x_orT, ↓x_tr, ↓x_neg, ↓x_nil, ↓x_cons, ↓x_tup, ↓x_lst, ↓x_call, ↓x_lm, ↓x_lm0, ↓x_seq, ↓x_next, ↓x_ifS, ↓x_ret, ↓x_retN, ↓x_drop, ↓x_asg, ↓x_gname, ↓x_gtup, ↓x_gcons, ↓x_gnil, ↓x_gsub, ↓x_set, ↓x_for, ↓x_forR1, ↓x_lc, ↓x_lcR, ↓x_fld, ↓x_setF, ↓x_meth, ↓x_make, ↓x_sl, ↓x_part, ↓x_noPart, ↓x_yes, onB_bl, onS_some, onL_lst, onQ_some, onI_ins, onD_dk, onR_ref, onT_tup, onBo_some, x_app, x_clr, x_ext, v_add, v_addT, v_addS, v_addL, v_sub, v_mul, v_rep, v_mod, v_div, v_pow, v_lt, v_le, v_gt, v_ge, v_isN, v_notN, n_non, n_bl, n_int, n_str, n_ref, n_tup, q_ss, q_ii, q_bb, q_nn, q_is, q_si, q_in, q_ni, q_sn, q_ns, d_ss, d_ii, d_bb, d_nn, d_in, d_ni, ix_t, ix_r, ix_l, in_t, notin_t, fl_s, fl_i, fl_n, so_t, so_r, so_lp, len_t, len_r, len_s, int_i, int_b, list_x, tuple_x, min_ii, max_ii, sl_t, sl_l, look_nil, look_cons, putW_nil, putW_cons, x_inKd, x_notinKd, x_getKd, x_dget, key_s, key_i, val_nil, val_cons, inr_eq, start1, line_lt, atI0, atI1, atI2, atI3, atI4, List.map_cons, List.map_nil, List.cons_append, List.nil_append, List.set_cons_zero, List.set_cons_succ, List.length_cons, List.length_nil, List.all_cons, List.all_nil, List.replicate_succ, List.replicate_zero, Nat.reduceAdd, Nat.reduceSub, Nat.zero_add, wd_inj, Nat.reduceLT, Nat.reduceEqDiff, decide_true, decide_false, Bool.false_eq_true, Bool.true_eq_false, Bool.not_true, Bool.not_false, Bool.or_false, Bool.false_or, Bool.or_true, Bool.true_or, Bool.and_self, Bool.and_true, Bool.true_and, ↓reduceIte, reduceCtorEq, line_le, Nat.reduceLeDiff, true_and, and_true, and_self, Option.isSome_some, Option.isSome_none, Int.reduceLT, Int.reduceLE, Int.reduceEq, Int.reduceNeg, put_same, ci0, ci1, ci2, ci3, ci4, ci5, ci6, W_PAIRS, startW, *])

def isFault : Option Way → Bool | some (.fault _) => true | _ => false
def t_last (C_Walk : Addr) (sp_Walk_body : WSp) : WS :=
    wSeq (wIfS (wAnd (wB (wOp rNotN (wVar 3) (wC .non))) (wB (wOp rEqW (wOp rIxW (wVar 3) (wC (.int 0))) (wC (.str w_stop)))))
  (wRet (wVar 3))
  wNext)
  (wSeq (wAsg (wMeth C_Walk w_body sp_Walk_body (wVar 0) (wCons (wOp rIxW (wVar 1) (wC (.int 3))) (wCons (wVar 2) wNil))) (gNameW 4))
  (wRet (wIf (wB (wOp rIsN (wVar 4) (wC .non))) (wVar 3) (wVar 4))))
/-- the last of a try -/
theorem r_last (CW CT : Addr) (n : Nat) {Q : WQ} {me pr tk ad at_ as_ as1 sl : Addr} {p : List Work} {s0 s : RS} {m c0 : Nat} {S0 S : Sto} {l : List Step} {cl : List C} {w : Option Way} {x4 : Option W} {b1 b2 : W} {hd : W}
    (h0 : WkAt CW CT S0 me pr tk ad at_ as_ sl p s0 m) (t : WkTo CT S0 S tk ad at_ as_ as1 sl s) (k : Kept s0 c0 (w, s)) (hc : CloB p l cl) (ok : Cs.ok m cl) (hdp : Cs.dep cl < n) (hs : s.2.said.length + Cs.cost cl < 16000000)
    (q : ∀ S' as2, WkTo CT S0 S' tk ad at_ as_ as2 sl (lastly (Cs.run cl) (w, s)).2 → Q (optW (lastly (Cs.run cl) (w, s)).1) S') :
    t_last CW (sp_Walk_body CW CT n) { nx := fun _ S' => Q .non S', rt := Q } [some (.ref me), some (.tup [hd, b1, b2, .tup (Steps.W l)]), some (.ref sl), some (optW w), x4] S := by
  unfold t_last
  by_cases hw : w = some .stop
  · subst hw
    simp only [optW, Way.W]
    walk_at "wx"
    exact q S as1 t
  · have h := h0.to t k hw
    have o := h.hself
    have last : sp_Walk_body CW CT n [.ref me, .tup (Steps.W l), .ref sl] S fun y S1 => if isNon y = true then Q (optW w) S1 else Q y S1 := by
      refine call_body h hc ok hdp hs fun S1 as2 t1 k1 => ?_
      have e : lastly (Cs.run cl) (w, s) = (match Cs.run cl s with | (none, s') => (w, s') | (some m, s') => (some m, s')) := by
        unfold lastly
        cases w with
        | none => rfl
        | some w => cases w with
          | stop => exact absurd rfl hw
          | _ => rfl
      rw [e] at q
      cases e2 : Cs.run cl s with
      | mk w2 s2 =>
        rw [e2] at q t1
        cases w2 with
        | none =>
          simp only [optW, isNon, if_true]
          exact q S1 as2 (t.trans t1)
        | some w2 =>
          simp only [optW_non, Option.isNone, Bool.false_eq_true, if_false]
          exact q S1 as2 (t.trans t1)
    clear q h t k h0
    cases w with
    | none =>
      simp only [optW] at last ⊢
      walk_at "ws"
    | some w =>
      cases w with
      | stop => exact absurd rfl hw
      | leave =>
        simp only [optW, Way.W] at last ⊢
        clear hw
        walk_at "ws"
      | shut =>
        simp only [optW, Way.W] at last ⊢
        clear hw
        walk_at "ws"
      | fault v =>
        simp only [optW, Way.W] at last ⊢
        clear hw
        walk_at "ws"
      | ends v =>
        simp only [optW, Way.W] at last ⊢
        clear hw
        walk_at "ws"

theorem tried_eq (CW : Addr) (sp : WSp) : t_Walk_tried CW sp = 
  (wSeq (wAsg (wMeth CW w_body sp (wVar 0) (wCons (wOp rIxW (wVar 1) (wC (.int 1))) (wCons (wVar 2) wNil))) (gNameW 3))
  (wSeq (wIfS (wAnd (wB (wOp rNotN (wVar 3) (wC .non))) (wAnd (wB (wOp rEqW (wOp rIxW (wVar 3) (wC (.int 0))) (wC (.str w_fault)))) (wB (wOp rNotN (wOp rIxW (wVar 1) (wC (.int 2))) (wC .non)))))
  (wSeq (wIfS (wB (wOp rNotN (wOp rIxW (wOp rIxW (wVar 1) (wC (.int 2))) (wC (.int 0))) (wC .non)))
  (wAsg (wOp rIxW (wVar 3) (wC (.int 1))) (gSubW (wVar 2) (wOp rIxW (wOp rIxW (wVar 1) (wC (.int 2))) (wC (.int 0)))))
  wNext)
  (wAsg (wMeth CW w_body sp (wVar 0) (wCons (wOp rIxW (wOp rIxW (wVar 1) (wC (.int 2))) (wC (.int 1))) (wCons (wVar 2) wNil))) (gNameW 3)))
  wNext) (t_last CW sp))) := rfl
theorem Kept.keeping {s s' : RS} {n m : Nat} {v : Int} {kk : Option Nat} (h : Ready s m) (k : Kept s n (some (.fault v), s')) : Kept s n (none, (keep kk v s'.1, s'.2)) :=
  ⟨len_keep.trans k.len, mem_keep k.inr (k.way v (.inl rfl)), k.deeds, fun _ => k.run (fun e => nomatch e), k.le, fun _ e => e.elim (fun e => nomatch e) (fun e => nomatch e), k.said⟩
theorem r_Walk_tried (CW CT : Addr) (n : Nat) : ∀ ws S Q, Up Q → sp_Walk_tried CW CT (n + 1) ws S Q → t_Walk_tried CW (sp_Walk_body CW CT n) { nx := fun _ S' => Q .non S', rt := Q } (startW 5 ws) S := by
  rintro ws S Q up ⟨b, c, ht, hd, me, pr, tk, ad, at_, as_, sl, p, s, m, rfl, h, ⟨hc, ok⟩, hs, q⟩
  have o := h.hself
  rw [tried_eq]
  cases hc with
  | @try0 a l ca cl ha hl =>
    simp only [C.dep] at hd
    simp only [C.cost] at hs
    simp only [C.ok] at ok
    have B : ∀ Q', (∀ S1 as2, WkTo CT S S1 tk ad at_ as_ as2 sl (Cs.run ca s).2 → Kept s (Cs.cost ca) (Cs.run ca s) → Q' (optW (Cs.run ca s).1) S1) → sp_Walk_body CW CT n [.ref me, .tup (Steps.W a), .ref sl] S Q' := fun Q' => call_body h ha ok.1 (by omega) (by omega)
    simp only [C.run] at q
    simp only [Step.W]
    have ok2 := ok.2
    clear ok ht
    walk_at "ws"
    refine B _ fun S1 as2 t1 k1 => ?_
    clear B
    cases e : Cs.run ca s with
    | mk w s' =>
      rw [e] at t1 k1 q
      have ks := k1.said
      simp only at t1 ks
      have fin := r_last CW CT n (x4 := none) (b1 := .tup (Steps.W a)) (b2 := .non) (hd := .str w_try) h t1 k1 hl ok2 (by omega) (by omega) q
      clear q t1 k1
      cases w with
      | none =>
        simp only [optW] at fin ⊢
        walk_at "wx"
        exact fin
      | some w =>
        cases w <;> (simp only [optW, Way.W] at fin ⊢; walk_at "wx"; exact fin)
  | @tryc a c l k ca cc cl ha hcc hl =>
    simp only [C.dep] at hd
    simp only [C.cost] at hs
    simp only [C.ok] at ok
    have B : ∀ Q', (∀ S1 as2, WkTo CT S S1 tk ad at_ as_ as2 sl (Cs.run ca s).2 → Kept s (Cs.cost ca) (Cs.run ca s) → Q' (optW (Cs.run ca s).1) S1) → sp_Walk_body CW CT n [.ref me, .tup (Steps.W a), .ref sl] S Q' := fun Q' => call_body h ha ok.1 (by omega) (by omega)
    simp only [C.run] at q
    simp only [Step.W]
    obtain ⟨ok1, okk, ok2, ok3⟩ := ok
    clear ht
    walk_at "ws"
    refine B _ fun S1 as2 t1 k1 => ?_
    clear B
    cases e : Cs.run ca s with
    | mk w s' =>
      rw [e] at t1 k1 q
      have ks := k1.said
      simp only at t1 ks
      by_cases hf : isFault w = true
      · cases w with
        | none => cases hf
        | some w =>
          cases w with
          | fault v =>
            have k2 := k1.keeping h.rd (kk := k)
            have hk2 := caught_kept (kk := k) h.rd k1 fun s h => Cs.kept cc h ok2
            obtain ⟨sl', T'⟩ := s'
            simp only [caught] at q hk2
            simp only at k2
            have go : ∀ S2, WkTo CT S S2 tk ad at_ as_ as2 sl (keep k v sl', T') → ∀ w4 : Option W, sp_Walk_body CW CT n [.ref me, .tup (Steps.W c), .ref sl] S2 fun y S3 => t_last CW (sp_Walk_body CW CT n) { nx := fun _ S' => Q .non S', rt := Q } [some (.ref me), some (.tup [.str w_try, .tup (Steps.W a), .tup [optI (k.map Int.ofNat), .tup (Steps.W c)], .tup (Steps.W l)]), some (.ref sl), some y, w4] S3 := fun S2 t2 w4 => by
              have h2 := h.to t2 k2 (fun e => nomatch e)
              refine call_body h2 hcc ok2 (by omega) (by have := k2.said; simp only at this ⊢; omega) fun S3 as3 t3 k3 => ?_
              cases e3 : Cs.run cc (keep k v sl', T') with
              | mk w3 s3 =>
                rw [e3] at q t3 hk2
                have ks3 := hk2.said
                simp only at ks3
                exact r_last CW CT n h (t2.trans t3) hk2 hl ok3 (by omega) (by simp only; omega) q
            have hm := h.to t1 k1 (fun e => nomatch e)
            have c2 := t1.hsl
            simp only [slotsM] at c2
            cases k with
            | none =>
              have g := go S1 t1
              simp only [Option.map, optI] at g ⊢
              have o1 := hm.hself
              clear q go t1 k1 hm k2 hk2
              simp only [optW, Way.W]
              walk_at "ws"
            | some k =>
              have c1 := ix_sl (show k < sl'.length by have := hm.rd.len; simp only at this; rw [this]; exact okk k rfl) (l := sl')
              have g := go _ (t1.setsl h (sl' := sl'.set k v))
              have e3 : List.map W.int (sl'.set k v) = (List.map W.int sl').set k (.int v) := List.map_set
              have n1 : me ≠ sl := hm.st.2.2.2.1
              have o1 := hm.hself
              have o2 : put S1 sl (.lst ((List.map W.int sl').set k (.int v))) me = some (.ins CW [(w_program, .ref pr), (w_talk, .ref tk)]) := by rw [put_ne n1]; exact o1
              simp only [slotsM, e3] at g
              simp only [Option.map, optI, Int.ofNat_eq_natCast] at g ⊢
              clear q go t1 k1 hm k2 hk2 e3
              simp only [optW, Way.W]
              walk_at "ws"
          | _ => cases hf
      · have ec : caught (Cs.run cc) k (w, s') = (w, s') := by
          unfold caught
          cases w with
          | none => rfl
          | some w => cases w with
            | fault v => exact absurd rfl hf
            | _ => rfl
        rw [ec] at q
        have fin := r_last CW CT n (x4 := none) (b1 := .tup (Steps.W a)) (b2 := .tup [optI (k.map Int.ofNat), .tup (Steps.W c)]) (hd := .str w_try) h t1 k1 hl ok3 (by omega) (by omega) q
        clear q t1 k1
        cases w with
        | none =>
          simp only [optW] at fin ⊢
          walk_at "wx"
          exact fin
        | some w =>
          cases w with
          | fault v => exact absurd rfl hf
          | _ => (simp only [optW, Way.W] at fin ⊢; walk_at "wx"; exact fin)
  | _ => exact absurd ht (fun e => e)

end WL
namespace WL
open PySem L2
local macro_rules | `(tactic| walk_at "wx") => `(tactic| simp only [↓x_var0, ↓x_varS, ↓x_c, ↓x_op, ↓x_b, ↓x_chain, ↓x_and, ↓x_or, ↓x_not, ↓x_andV, ↓x_orV, ↓x_notV, ↓x_if, ↓x_orT, ↓x_tr, ↓x_neg, ↓x_nil, ↓x_cons, ↓x_tup, ↓x_lst, ↓x_call, ↓x_lm, ↓x_lm0, ↓x_seq, ↓x_next, ↓x_ifS, ↓x_ret, ↓x_retN, ↓x_drop, ↓x_asg, ↓x_gname, ↓x_gtup, ↓x_gcons, ↓x_gnil, ↓x_gsub, ↓x_set, ↓x_for, ↓x_forR1, ↓x_lc, ↓x_lcR, ↓x_fld, ↓x_setF, ↓x_meth, ↓x_make, ↓x_sl, ↓x_part, ↓x_noPart, ↓x_yes, onB_bl, onS_some, onL_lst, onQ_some, onI_ins, onD_dk, onR_ref, onT_tup, onBo_some, x_app, x_clr, x_ext, v_add, v_addT, v_addS, v_addL, v_sub, v_mul, v_rep, v_mod, v_div, v_pow, v_lt, v_le, v_gt, v_ge, v_isN, v_notN, n_non, n_bl, n_int, n_str, n_ref, n_tup, q_ss, q_ii, q_bb, q_nn, q_is, q_si, q_in, q_ni, q_sn, q_ns, d_ss, d_ii, d_bb, d_nn, d_in, d_ni, ix_t, ix_r, ix_l, in_t, notin_t, fl_s, fl_i, fl_n, so_t, so_r, so_lp, len_t, len_r, len_s, int_i, int_b, list_x, tuple_x, min_ii, max_ii, sl_t, sl_l, look_nil, look_cons, putW_nil, putW_cons, x_inKd, x_notinKd, x_getKd, x_dget, key_s, key_i, val_nil, val_cons, inr_eq, start1, line_lt, atI0, atI1, atI2, atI3, atI4, List.map_cons, List.map_nil, List.cons_append, List.nil_append, List.set_cons_zero, List.set_cons_succ, List.length_cons, List.length_nil, List.all_cons, List.all_nil, List.replicate_succ, List.replicate_zero, Nat.reduceAdd, Nat.reduceSub, Nat.zero_add, wd_inj, Nat.reduceLT, Nat.reduceEqDiff, decide_true, decide_false, Bool.false_eq_true, Bool.true_eq_false, Bool.not_true, Bool.not_false, Bool.or_false, Bool.false_or, Bool.or_true, Bool.true_or, Bool.and_self, Bool.and_true, Bool.true_and, ↓reduceIte, reduceCtorEq, line_le, Nat.reduceLeDiff, true_and, and_true, and_self, Option.isSome_some, Option.isSome_none, Int.reduceLT, Int.reduceLE, Int.reduceEq, Int.reduceNeg, put_same, ci0, ci1, ci2, ci3, ci4, ci5, ci6, W_PAIRS, startW])
local macro_rules | `(tactic| walk_at "ws") => `(tactic| simp only [↓x_var0, ↓x_varS, ↓x_c, ↓x_op, ↓x_b, ↓x_chain, ↓x_and, ↓x_or, ↓x_not, ↓x_andV, ↓x_orV, ↓x_notV, ↓x_if, ↓x_orT, ↓x_tr, ↓x_neg, ↓x_nil, ↓x_cons, ↓x_tup, ↓x_lst, ↓x_call, ↓x_lm, ↓x_lm0, ↓x_seq, ↓x_next, ↓x_ifS, ↓x_ret, ↓x_retN, ↓x_drop, ↓x_asg, ↓x_gname, ↓x_gtup, ↓x_gcons, ↓x_gnil, ↓x_gsub, ↓x_set, ↓x_for, ↓x_forR1, ↓x_lc, ↓x_lcR, ↓x_fld, ↓x_setF, ↓x_meth, ↓x_make, ↓x_sl, ↓x_part, ↓x_noPart, ↓x_yes, onB_bl, onS_some, onL_lst, onQ_some, onI_ins, onD_dk, onR_ref, onT_tup, onBo_some, x_app, x_clr, x_ext, v_add, v_addT, v_addS, v_addL, v_sub, v_mul, v_rep, v_mod, v_div, v_pow, v_lt, v_le, v_gt, v_ge, v_isN, v_notN, n_non, n_bl, n_int, n_str, n_ref, n_tup, q_ss, q_ii, q_bb, q_nn, q_is, q_si, q_in, q_ni, q_sn, q_ns, d_ss, d_ii, d_bb, d_nn, d_in, d_ni, ix_t, ix_r, ix_l, in_t, notin_t, fl_s, fl_i, fl_n, so_t, so_r, so_lp, len_t, len_r, len_s, int_i, int_b, list_x, tuple_x, min_ii, max_ii, sl_t, sl_l, look_nil, look_cons, putW_nil, putW_cons, x_inKd, x_notinKd, x_getKd, x_dget, key_s, key_i, val_nil, val_cons, inr_eq, start1, line_lt, atI0, atI1, atI2, atI3, atI4, List.map_cons, List.map_nil, List.cons_append, List.nil_append, List.set_cons_zero, List.set_cons_succ, List.length_cons, List.length_nil, List.all_cons, List.all_nil, List.replicate_succ, List.replicate_zero, Nat.reduceAdd, Nat.reduceSub, Nat.zero_add, wd_inj, Nat.reduceLT, Nat.reduceEqDiff, decide_true, decide_false, Bool.false_eq_true, Bool.true_eq_false, Bool.not_true, Bool.not_false, Bool.or_false, Bool.false_or, Bool.or_true, Bool.true_or, Bool.and_self, Bool.and_true, Bool.true_and, ↓reduceIte, reduceCtorEq, line_le, Nat.reduceLeDiff, true_and, and_true, and_self, Option.isSome_some, Option.isSome_none, Int.reduceLT, Int.reduceLE, Int.reduceEq, Int.reduceNeg, put_same, ci0, ci1, ci2, ci3, ci4, ci5, ci6, W_PAIRS, startW, *])

theorem WkAt.hand {CW CT : Addr} {S S4 : Sto} {me pr tk ad at_ as_ sl sl2 : Addr} {p : List Work} {s : RS} {m m2 : Nat} {l2 : List Int} (h : WkAt CW CT S me pr tk ad at_ as_ sl p s m) (l : Le S S4) (h4 : S4 sl2 = some (slotsM l2)) (f : S sl2 = none) (rd : Ready (l2, s.2) m2) : WkAt CW CT S4 me pr tk ad at_ as_ sl2 p (l2, s.2) m2 :=
  ⟨l _ _ h.hself, l _ _ h.hprog, h.htk.keep l, h4, Ne.symm (ne_none h.htk.deeds f), Ne.symm (ne_none h.htk.told f), Ne.symm (ne_none h.htk.said f), h.e1, h.e2, ne_none h.hprog f, rd, h.many⟩
theorem WkTo.hand {CW CT : Addr} {S S4 S' : Sto} {me pr tk ad at_ as_ as2 sl sl2 : Addr} {p : List Work} {s s2 : RS} {m : Nat} (h : WkAt CW CT S me pr tk ad at_ as_ sl p s m) (l : Le S S4) (f : S sl2 = none) (t : WkTo CT S4 S' tk ad at_ as_ as2 sl2 s2) : WkTo CT S S' tk ad at_ as_ as2 sl (s.1, s2.2) := by
  refine ⟨t.htk, t.keep _ _ h.st.2.2.2.2.2 h.d2 h.d3 (ne_none h.hsl f) (l _ _ h.hsl), fun x o h1 h2 h3 h4 e => t.keep x o h1 h2 h3 (ne_none e f) (l _ _ e), ?_⟩
  rcases t.new with z | z
  · exact .inl z
  · right
    cases q : S as2 with
    | none => rfl
    | some o => rw [l _ _ q] at z; cases z
theorem rep_int (n : Nat) : (List.replicate n [W.int 0]).flatten = (List.replicate n (0 : Int)).map W.int := by
  induction n with
  | zero => rfl
  | succ n ih => rw [List.replicate_succ, List.replicate_succ, List.flatten_cons, ih]; rfl
theorem Le.to {S S' : Sto} {a : Addr} (l : Le S S') (h : S' a = none) : S a = none := by
  cases q : S a with
  | none => rfl
  | some o => rw [l _ _ q] at h; cases h
def t_hand2 (C_Walk : Addr) : WS :=
  (wSeq (wIfS (wAnd (wB (wOp rNotN (wVar 7) (wC .non))) (wB (wOp rNeW (wOp rIxW (wVar 7) (wC (.int 0))) (wC (.str w_end)))))
  (wRet (wVar 7))
  wNext)
  (wSeq (wIfS (wB (wOp rNotN (wOp rIxW (wVar 1) (wC (.int 3))) (wC .non)))
  (wAsg (wIf (wB (wOp rIsN (wVar 7) (wC .non))) (wC (.int 0)) (wOp rIxW (wVar 7) (wC (.int 1)))) (gSubW (wVar 2) (wOp rIxW (wVar 1) (wC (.int 3)))))
  wNext)
  (wRet (wC .non))))
theorem hand_eq (CW : Addr) (sp1 sp2 : WSp) : t_Walk_handed CW sp1 sp2 = 
  (wSeq (wAsg (wOp rIxW (wFld CW (wVar 0) w_program) (wOp rIxW (wVar 1) (wC (.int 1)))) (gTupW 3 (gConsW (gNameW 3) (gConsW (gNameW 4) (gConsW (gNameW 5) gNilW)))))
  (wSeq (wAsg (wCall sp1 (wCons (wOp rIxW (wVar 1) (wC (.int 2))) (wCons (wVar 2) wNil))) (gNameW 6))
  (wSeq (wIfS (wB (wOp rIsN (wVar 6) (wC .non)))
  (wRet (wTup (wCons (wC (.str w_fault)) (wCons (wC (.int 0)) wNil))))
  wNext)
  (wSeq (wAsg (wMeth CW w_body sp2 (wVar 0) (wCons (wVar 5) (wCons (wOp rAddW (wVar 6) (wOp rMulW (wLst (wCons (wC (.int 0)) wNil)) (wOp rSubW (wVar 4) (wVar 3)))) wNil))) (gNameW 7)) (t_hand2 CW))))) := rfl
theorem r_Walk_handed (CW CT : Addr) (n : Nat) : ∀ ws S Q, Up Q → sp_Walk_handed CW CT (n + 1) ws S Q → t_Walk_handed CW (sp_all_reckoned 4) (sp_Walk_body CW CT n) { nx := fun _ S' => Q .non S', rt := Q } (startW 8 ws) S := by
  rintro ws S Q up ⟨b, args, k, ex, cb, hd, me, pr, tk, ad, at_, as_, sl, p, s, m, rfl, h, ⟨hc, ok⟩, hs, q⟩
  have o := h.hself
  rw [hand_eq]
  cases hc with
  | @hand wi args k wk cb hw hp hle hb =>
    simp only [C.dep] at hd
    simp only [C.cost] at hs
    simp only [C.ok] at ok
    obtain ⟨ok1, ok2, ok3, ok4, ok5⟩ := ok
    obtain ⟨sl0, T⟩ := s
    simp only [C.run] at q
    have o3 : S pr = some (.lst (p.map Work.W)) := h.hprog
    have o4 : atI (p.map Work.W) (wi : Int) = some (.tup [.int wk.params, .int wk.slots, .tup (Steps.W wk.body)]) := atI_map hw
    simp only [Step.W]
    generalize hT : t_hand2 CW = T2
    have A : ∀ Q', ((allReck sl0 args = none → Q' .non S) ∧ ∀ ns, allReck sl0 args = some ns → ∀ p, S p = none → Q' (.ref p) (put S p (slotsM ns))) → sp_all_reckoned 4 [.tup (args.map Rk.W), .ref sl] S Q' := fun Q' q' =>
      ⟨args, sl, sl0, rfl, h.hsl, h.rd.inr, fun e he => ⟨by rw [show sl0.length = m from h.rd.len]; exact (ok1 e he).1, (ok1 e he).2⟩, ok2, q'.1, q'.2⟩
    walk_at "ws"
    refine A _ ⟨fun e => ?_, fun ns e p1 hp1 => ?_⟩
    · rw [e] at q
      walk_at "wx"
      exact q S as_ (.refl h)
    · rw [e] at q
      simp only at q
      clear A
      have nm : me ≠ p1 := ne_none o hp1
      have o' : put S p1 (slotsM ns) me = some (.ins CW [(w_program, .ref pr), (w_talk, .ref tk)]) := by rw [put_ne nm]; exact o
      clear o
      have nr : isNon (W.ref p1) = false := rfl
      walk_at "ws"
      have ek : (wk.slots - wk.params).toNat = (wk.slots - (args.length : Int)).toNat := by rw [hp]
      rw [ek] at q ok3 ok5
      generalize hj : (wk.slots - (args.length : Int)).toNat = j at *
      obtain ⟨_, _, h3, h4⟩ := allReck_some e
      have hns := h3 m h.rd.inr h.rd.len.symm fun e he => (ok1 e he).1
      intro p2 hp2
      refine ⟨⟨by omega, by omega, Nat.le_of_lt (small_len (by omega))⟩, fun p3 hp3 => ?_⟩
      have n12 : p1 ≠ p2 := ne_none put_same hp2
      have n13 : p1 ≠ p3 := ne_none (by rw [put_ne n12]; exact put_same) hp3
      rw [put_ne n13, put_ne n12, put_same]
      simp only [slotsM, onL_lst]
      rw [rep_int, List.length_map, List.length_map, List.length_replicate]
      refine ⟨Nat.le_of_lt (small_len (by omega)), fun p4 hp4 => ?_⟩
      rw [← List.map_append]
      have l1 : Le S (put (put (put S p1 (.lst (ns.map .int))) p2 (.lst [.int 0])) p3 (.lst ((List.replicate j (0 : Int)).map .int))) := ((Le.put hp1).trans (Le.put hp2)).trans (Le.put hp3)
      have f4 : S p4 = none := l1.to hp4
      have l4 := l1.trans (Le.put (o := .lst ((ns ++ List.replicate j (0 : Int)).map .int)) hp4)
      have rd : Ready (ns ++ List.replicate j 0, T) (args.length + j) := ⟨by simp [h4], fun i hi => (List.mem_append.mp hi).elim (hns i) fun hi => by rw [(List.mem_replicate.mp hi).2]; exact inR0, h.rd.dok, h.rd.run⟩
      have h5 := h.hand l4 put_same f4 rd
      refine call_body h5 hb ok5 (by omega) hs fun S' as2 t1 k1 => ?_
      have t2 := WkTo.hand h l4 f4 t1
      have fin : ∀ (v : Int) (w : W) (xs : List (Option W)) (e7 : (w = .non ∧ v = 0) ∨ w = .tup [.str w_end, .int v]), (∀ as2, WkTo CT S S' tk ad at_ as_ as2 sl (sl0, (Cs.run cb (ns ++ List.replicate j 0, T)).2.2) → ∀ S'' as3, WkTo CT S S'' tk ad at_ as_ as3 sl (keep k v sl0, (Cs.run cb (ns ++ List.replicate j 0, T)).2.2) → Q .non S'') → 
         t_hand2 CW { nx := fun x S' => Q .non S', rt := Q } [some (.ref me), some (.tup [.str w_hand, .int wi, .tup (args.map Rk.W), optI (k.map Int.ofNat)]), some (.ref sl), some (.int args.length), some (.int wk.slots), some (.tup (Steps.W wk.body)), some (.ref p1), some w] S' := by
        intro v w xs e7 q
        have q := q as2 t2
        unfold t_hand2
        cases k with
        | none =>
          have q' := q S' as2 t2
          clear q
          simp only [Option.map, optI]
          rcases e7 with ⟨rfl, rfl⟩ | rfl
          · walk_at "wx"; exact q'
          · walk_at "wx"; exact q'
        | some k =>
          have c1 := ix_sl (show k < sl0.length by rw [show sl0.length = m from h.rd.len]; exact ok4 k rfl) (l := sl0)
          have c2 := t2.hsl
          simp only [slotsM] at c2
          have t3 := WkTo.setsl h (sl' := sl0.set k v) t2
          have q' := q _ as2 t3
          have e3 : List.map W.int (sl0.set k v) = (List.map W.int sl0).set k (.int v) := List.map_set
          simp only [slotsM, e3] at q'
          simp only [Option.map, optI, Int.ofNat_eq_natCast]
          clear q t3 t2 t1 h5 l4 l1 h hp2 hp3 hp4 k1 e3
          rcases e7 with ⟨rfl, rfl⟩ | rfl
          · walk_at "ws"
          · walk_at "ws"
      subst hT
      cases e2 : Cs.run cb (ns ++ List.replicate j 0, T) with
      | mk w s2 =>
        obtain ⟨sl2, T2⟩ := s2
        rw [e2] at fin t2 q
        simp only at fin t2
        cases w with
        | none => exact fin 0 .non [] (.inl ⟨rfl, rfl⟩) fun _ _ S'' as3 t => q S'' as3 t
        | some w =>
          cases w with
          | ends v => exact fin v _ [] (.inr rfl) fun _ _ S'' as3 t => q S'' as3 t
          | _ =>
            simp only [optW, Way.W, t_hand2]
            walk_at "wx"
            exact q S' as2 t2
  | _ => trivial

end WL
namespace WL
open PySem L2
local macro_rules | `(tactic| walk_at "wx") => `(tactic| simp only [↓x_var0, ↓x_varS, ↓x_c, ↓x_op, ↓x_b, ↓x_chain, ↓x_and, ↓x_or, ↓x_not, ↓x_andV, ↓x_orV, ↓x_notV, ↓x_if, ↓x_orT, ↓x_tr, ↓x_neg, ↓x_nil, ↓x_cons, ↓x_tup, ↓x_lst, ↓x_call, ↓x_lm, ↓x_lm0, ↓x_seq, ↓x_next, ↓x_ifS, ↓x_ret, ↓x_retN, ↓x_drop, ↓x_asg, ↓x_gname, ↓x_gtup, ↓x_gcons, ↓x_gnil, ↓x_gsub, ↓x_set, ↓x_for, ↓x_forR1, ↓x_lc, ↓x_lcR, ↓x_fld, ↓x_setF, ↓x_meth, ↓x_make, ↓x_sl, ↓x_part, ↓x_noPart, ↓x_yes, onB_bl, onS_some, onL_lst, onQ_some, onI_ins, onD_dk, onR_ref, onT_tup, onBo_some, x_app, x_clr, x_ext, v_add, v_addT, v_addS, v_addL, v_sub, v_mul, v_rep, v_mod, v_div, v_pow, v_lt, v_le, v_gt, v_ge, v_isN, v_notN, n_non, n_bl, n_int, n_str, n_ref, n_tup, q_ss, q_ii, q_bb, q_nn, q_is, q_si, q_in, q_ni, q_sn, q_ns, d_ss, d_ii, d_bb, d_nn, d_in, d_ni, ix_t, ix_r, ix_l, in_t, notin_t, fl_s, fl_i, fl_n, so_t, so_r, so_lp, len_t, len_r, len_s, int_i, int_b, list_x, tuple_x, min_ii, max_ii, sl_t, sl_l, look_nil, look_cons, putW_nil, putW_cons, x_inKd, x_notinKd, x_getKd, x_dget, key_s, key_i, val_nil, val_cons, inr_eq, start1, line_lt, atI0, atI1, atI2, atI3, atI4, List.map_cons, List.map_nil, List.cons_append, List.nil_append, List.set_cons_zero, List.set_cons_succ, List.length_cons, List.length_nil, List.all_cons, List.all_nil, List.replicate_succ, List.replicate_zero, Nat.reduceAdd, Nat.reduceSub, Nat.zero_add, wd_inj, Nat.reduceLT, Nat.reduceEqDiff, decide_true, decide_false, Bool.false_eq_true, Bool.true_eq_false, Bool.not_true, Bool.not_false, Bool.or_false, Bool.false_or, Bool.or_true, Bool.true_or, Bool.and_self, Bool.and_true, Bool.true_and, ↓reduceIte, reduceCtorEq, line_le, Nat.reduceLeDiff, true_and, and_true, and_self, Option.isSome_some, Option.isSome_none, Int.reduceLT, Int.reduceLE, Int.reduceEq, Int.reduceNeg, put_same, ci0, ci1, ci2, ci3, ci4, ci5, ci6, W_PAIRS, startW])
local macro_rules | `(tactic| walk_at "ws") => `(tactic| simp only [↓x_var0, ↓x_varS, ↓x_c, ↓x_op, ↓x_b, ↓x_chain, ↓x_and, ↓x_or, ↓x_not, ↓x_andV, ↓x_orV, ↓x_notV, ↓x_if, ↓x_orT, ↓x_tr, ↓x_neg, ↓x_nil, ↓x_cons, ↓x_tup, ↓x_lst, ↓x_call, ↓x_lm, ↓x_lm0, ↓x_seq, ↓x_next, ↓x_ifS, ↓x_ret, ↓x_retN, ↓x_drop, ↓x_asg, ↓x_gname, ↓x_gtup, ↓x_gcons, ↓x_gnil, ↓x_gsub, ↓x_set, ↓x_for, ↓x_forR1, ↓x_lc, ↓x_lcR, ↓x_fld, ↓x_setF, ↓x_meth, ↓x_make, ↓x_sl, ↓x_part, ↓x_noPart, ↓x_yes, onB_bl, onS_some, onL_lst, onQ_some, onI_ins, onD_dk, onR_ref, onT_tup, onBo_some, x_app, x_clr, x_ext, v_add, v_addT, v_addS, v_addL, v_sub, v_mul, v_rep, v_mod, v_div, v_pow, v_lt, v_le, v_gt, v_ge, v_isN, v_notN, n_non, n_bl, n_int, n_str, n_ref, n_tup, q_ss, q_ii, q_bb, q_nn, q_is, q_si, q_in, q_ni, q_sn, q_ns, d_ss, d_ii, d_bb, d_nn, d_in, d_ni, ix_t, ix_r, ix_l, in_t, notin_t, fl_s, fl_i, fl_n, so_t, so_r, so_lp, len_t, len_r, len_s, int_i, int_b, list_x, tuple_x, min_ii, max_ii, sl_t, sl_l, look_nil, look_cons, putW_nil, putW_cons, x_inKd, x_notinKd, x_getKd, x_dget, key_s, key_i, val_nil, val_cons, inr_eq, start1, line_lt, atI0, atI1, atI2, atI3, atI4, List.map_cons, List.map_nil, List.cons_append, List.nil_append, List.set_cons_zero, List.set_cons_succ, List.length_cons, List.length_nil, List.all_cons, List.all_nil, List.replicate_succ, List.replicate_zero, Nat.reduceAdd, Nat.reduceSub, Nat.zero_add, wd_inj, Nat.reduceLT, Nat.reduceEqDiff, decide_true, decide_false, Bool.false_eq_true, Bool.true_eq_false, Bool.not_true, Bool.not_false, Bool.or_false, Bool.false_or, Bool.or_true, Bool.true_or, Bool.and_self, Bool.and_true, Bool.true_and, ↓reduceIte, reduceCtorEq, line_le, Nat.reduceLeDiff, true_and, and_true, and_self, Option.isSome_some, Option.isSome_none, Int.reduceLT, Int.reduceLE, Int.reduceEq, Int.reduceNeg, put_same, ci0, ci1, ci2, ci3, ci4, ci5, ci6, W_PAIRS, startW, *])

theorem r_Walk_step (CW CT : Addr) (n : Nat) : ∀ ws S Q, Up Q → sp_Walk_step CW CT (n + 1) ws S Q → t_Walk_step CW CT (sp_Walk_tried CW CT (n + 1)) (sp_Walk_handed CW CT (n + 1)) (sp_reckoned 4) (sp_Walk_body CW CT n) (sp_Walk_rounds CW CT n) (sp_Walk_given CW CT) (sp_Talk_say CT) { nx := fun _ S' => Q .non S', rt := Q } (startW 4 ws) S := by
  rintro ws S Q up ⟨b, c, hd, me, pr, tk, ad, at_, as_, sl, p, s, m, rfl, h, ⟨hc, ok⟩, hs, q⟩
  have o := h.hself
  have o2 := h.htk.obj
  have R : ∀ (e : Rk), e.ok m ∧ e.deep < 4 → ∀ Q' : WQ, Q' (optI (reck s.1 e)) S → sp_reckoned 4 [e.W, .ref sl] S Q' := fun e he Q' q' => ⟨e, sl, s.1, rfl, h.hsl, h.rd.inr, by rw [h.rd.len]; exact he.1, he.2, q'⟩
  have q0 := fun w => fun (e : c.run s = (w, s)) => q S as_ (by rw [e]; exact .refl h)
  simp only [t_Walk_step]
  cases hc with
  | leave =>
    have q' := q S as_ (.refl h)
    clear q R o o2 q0
    simp only [C.run, optW, Way.W] at q'
    simp only [Step.W]
    walk_at "wx"
    exact q'
  | fault e =>
    simp only [C.ok] at ok
    simp only [C.run] at q
    simp only [Step.W]
    have r := R e ok
    clear R q0
    walk_at "wx"
    refine r _ ?_
    cases e2 : reck s.1 e with
    | none =>
      rw [e2] at q
      simp only [optI]
      walk_at "wx"
      exact q S as_ (.refl h)
    | some v =>
      rw [e2] at q
      simp only [optI]
      walk_at "wx"
      have i3 : inW (.str w_fault) [.str w_fault, .str w_end] = true := by simp [inW, eqW]
      simp only [i3]
      walk_at "wx"
      exact q S as_ (.refl h)
  | ends e =>
    simp only [C.ok] at ok
    simp only [C.run] at q
    simp only [Step.W]
    have r := R e ok
    clear R q0
    walk_at "wx"
    refine r _ ?_
    cases e2 : reck s.1 e with
    | none =>
      rw [e2] at q
      simp only [optI]
      walk_at "wx"
      exact q S as_ (.refl h)
    | some v =>
      rw [e2] at q
      simp only [optI]
      walk_at "wx"
      have i3 : inW (.str w_end) [.str w_fault, .str w_end] = true := by simp [inW, eqW]
      simp only [i3]
      walk_at "wx"
      exact q S as_ (.refl h)
  | set k e =>
    simp only [C.ok] at ok
    simp only [C.run] at q
    simp only [Step.W]
    have r := R e ok.2
    clear R q0
    walk_at "wx"
    refine r _ ?_
    cases e2 : reck s.1 e with
    | none =>
      rw [e2] at q
      simp only [optI]
      walk_at "wx"
      exact q S as_ (.refl h)
    | some v =>
      rw [e2] at q
      simp only [optI]
      walk_at "wx"
      have i3 : inW (.str w_set) [.str w_fault, .str w_end] = false := by simp [inW, eqW, wd_inj]
      simp only [i3]
      have c1 := ix_sl (show k < s.1.length by rw [h.rd.len]; exact ok.1) (l := s.1)
      have c2 := h.hsl
      have t3 := WkTo.setsl h (sl' := s.1.set k v) (.refl h)
      have q' := q _ as_ t3
      have e3 : List.map W.int (s.1.set k v) = (List.map W.int s.1).set k (.int v) := List.map_set
      simp only [slotsM, e3] at q' c2
      clear q t3 r h o o2
      walk_at "ws"
      exact q'
  | say e =>
    simp only [C.ok] at ok
    simp only [C.run] at q
    simp only [C.cost] at hs
    simp only [Step.W]
    have r := R e ok
    clear R q0
    walk_at "wx"
    refine r _ ?_
    cases e2 : reck s.1 e with
    | none =>
      rw [e2] at q
      simp only [optI]
      walk_at "wx"
      exact q S as_ (.refl h)
    | some v =>
      rw [e2] at q
      simp only [optI]
      walk_at "wx"
      have i3 : inW (.str w_say) [.str w_fault, .str w_end] = false := by simp [inW, eqW, wd_inj]
      simp only [i3]
      have T : sp_Talk_say CT [.ref tk, .int v] S fun _ S' => Q .non S' := by
        refine ⟨tk, ad, at_, as_, s.2, v, rfl, h.htk, by omega, fun S' t k3 => ?_⟩
        exact q S' as_ (h.talk t k3 (.inl rfl))
      clear q r h
      walk_at "ws"
  | give e k =>
    simp only [C.ok] at ok
    simp only [C.run] at q
    simp only [Step.W]
    have r := R e ok.1
    clear R q0
    walk_at "wx"
    refine r _ ?_
    cases e2 : reck s.1 e with
    | none =>
      rw [e2] at q
      simp only [optI]
      walk_at "wx"
      exact q S as_ (.refl h)
    | some v =>
      rw [e2] at q
      simp only [optI]
      walk_at "wx"
      have i3 : inW (.str w_give) [.str w_fault, .str w_end] = false := by simp [inW, eqW, wd_inj]
      simp only [i3]
      have hv : InR v := reck_in h.rd.inr (by rw [h.rd.len]; exact ok.1.1) e2
      have T : sp_Walk_given CW CT [.ref me, .int v, optI (k.map Int.ofNat), .ref sl] S Q := 
        ⟨v, k, hv, me, pr, tk, ad, at_, as_, sl, p, s, m, rfl, h, ok.2, by omega, q⟩
      clear q r h
      walk_at "ws"
      exact T
  | @ifs e a b ca cb ha hb =>
    simp only [C.ok] at ok
    simp only [C.run] at q
    simp only [C.cost] at hs
    simp only [C.dep] at hd
    simp only [Step.W]
    have r := R e ok.1
    clear R q0
    walk_at "wx"
    refine r _ ?_
    cases e2 : reck s.1 e with
    | none =>
      rw [e2] at q
      simp only [optI]
      walk_at "wx"
      exact q S as_ (.refl h)
    | some v =>
      rw [e2] at q
      simp only [optI]
      walk_at "wx"
      have i3 : inW (.str w_if) [.str w_fault, .str w_end] = false := by simp [inW, eqW, wd_inj]
      simp only [i3]
      simp only at q
      by_cases hv : v = 0
      · rw [if_pos hv] at q
        have c1 : decide (v = 0) = true := decide_eq_true hv
        have T : sp_Walk_body CW CT n [.ref me, .tup (Steps.W b), .ref sl] S Q := call_body h hb ok.2.2 (by omega) (by omega) fun S' as2 t _ => q S' as2 t
        clear q r h hv
        walk_at "ws"
      · rw [if_neg hv] at q
        have c1 : decide (v = 0) = false := decide_eq_false hv
        have T : sp_Walk_body CW CT n [.ref me, .tup (Steps.W a), .ref sl] S Q := call_body h ha ok.2.1 (by omega) (by omega) fun S' as2 t _ => q S' as2 t
        clear q r h hv
        walk_at "ws"
  | @round e a ca ha =>
    simp only [C.ok] at ok
    simp only [C.run] at q
    simp only [C.dep] at hd
    simp only [Step.W]
    have r := R e ok.1
    clear R q0
    walk_at "wx"
    refine r _ ?_
    cases e2 : reck s.1 e with
    | none =>
      rw [e2] at q
      simp only [optI]
      walk_at "wx"
      exact q S as_ (.refl h)
    | some v =>
      rw [e2] at q
      simp only [optI]
      walk_at "wx"
      have i3 : inW (.str w_round) [.str w_fault, .str w_end] = false := by simp [inW, eqW, wd_inj]
      simp only [i3]
      simp only at q
      have h9 : (v % 10).toNat ≤ 9 := by omega
      have e9 : ((v % 10).toNat : Int) = v % 10 := by omega
      have T : sp_Walk_rounds CW CT n [.ref me, .tup (Steps.W a), .int (v % 10), .ref sl] S Q := by
        refine ⟨a, ca, (v % 10).toNat, by omega, h9, me, pr, tk, ad, at_, as_, sl, p, s, m, by rw [e9], h, ⟨ha, ok.2⟩, ?_, q⟩
        refine Nat.lt_of_le_of_lt (Nat.add_le_add_left ?_ _) hs
        cases e with
        | num n => simp only [reck, Option.some.injEq] at e2; subst e2; simp only [C.cost]; exact Nat.le_refl _
        | slot j => simp only [C.cost]; exact Nat.mul_le_mul_right _ h9
        | op o x y => simp only [C.cost]; exact Nat.mul_le_mul_right _ h9
      clear q r h h9 e9
      walk_at "ws"
  | @hand wi args k wk cb hw hp hle hb =>
    have T : sp_Walk_handed CW CT (n + 1) [.ref me, (Step.hand (wi : Int) args (k.map Int.ofNat)).W, .ref sl] S Q := ⟨_, args, k, _, cb, hd, me, pr, tk, ad, at_, as_, sl, p, s, m, rfl, h, ⟨.hand hw hp hle hb, ok⟩, hs, q⟩
    clear q R q0 h
    simp only [Step.W] at T ⊢
    walk_at "ws"
  | @try0 a l ca cl ha hl =>
    have T : sp_Walk_tried CW CT (n + 1) [.ref me, (Step.try0 a l).W, .ref sl] S Q := ⟨_, .try0 ca cl, trivial, hd, me, pr, tk, ad, at_, as_, sl, p, s, m, rfl, h, ⟨.try0 ha hl, ok⟩, hs, q⟩
    clear q R q0 h
    simp only [Step.W] at T ⊢
    walk_at "ws"
  | @tryc a c l k ca cc cl ha hcc hl =>
    have T : sp_Walk_tried CW CT (n + 1) [.ref me, (Step.tryc a (k.map Int.ofNat) c l).W, .ref sl] S Q := ⟨_, .tryc ca k cc cl, trivial, hd, me, pr, tk, ad, at_, as_, sl, p, s, m, rfl, h, ⟨.tryc ha hcc hl, ok⟩, hs, q⟩
    clear q R q0 h
    simp only [Step.W] at T ⊢
    walk_at "ws"

end WL
namespace WL
open PySem L2
local macro_rules | `(tactic| walk_at "wx") => `(tactic| simp only [↓x_var0, ↓x_varS, ↓x_c, ↓x_op, ↓x_b, ↓x_chain, ↓x_and, ↓x_or, ↓x_not, ↓x_andV, ↓x_orV, ↓x_notV, ↓x_if, ↓x_orT, ↓x_tr, ↓x_neg, ↓x_nil, ↓x_cons, ↓x_tup, ↓x_lst, ↓x_call, ↓x_lm, ↓x_lm0, ↓x_seq, ↓x_next, ↓x_ifS, ↓x_ret, ↓x_retN, ↓x_drop, ↓x_asg, ↓x_gname, ↓x_gtup, ↓x_gcons, ↓x_gnil, ↓x_gsub, ↓x_set, ↓x_for, ↓x_forR1, ↓x_lc, ↓x_lcR, ↓x_fld, ↓x_setF, ↓x_meth, ↓x_make, ↓x_sl, ↓x_part, ↓x_noPart, ↓x_yes, onB_bl, onS_some, onL_lst, onQ_some, onI_ins, onD_dk, onR_ref, onT_tup, onBo_some, x_app, x_clr, x_ext, v_add, v_addT, v_addS, v_addL, v_sub, v_mul, v_rep, v_mod, v_div, v_pow, v_lt, v_le, v_gt, v_ge, v_isN, v_notN, n_non, n_bl, n_int, n_str, n_ref, n_tup, q_ss, q_ii, q_bb, q_nn, q_is, q_si, q_in, q_ni, q_sn, q_ns, d_ss, d_ii, d_bb, d_nn, d_in, d_ni, ix_t, ix_r, ix_l, in_t, notin_t, fl_s, fl_i, fl_n, so_t, so_r, so_lp, len_t, len_r, len_s, int_i, int_b, list_x, tuple_x, min_ii, max_ii, sl_t, sl_l, look_nil, look_cons, putW_nil, putW_cons, x_inKd, x_notinKd, x_getKd, x_dget, key_s, key_i, val_nil, val_cons, inr_eq, start1, line_lt, atI0, atI1, atI2, atI3, atI4, List.map_cons, List.map_nil, List.cons_append, List.nil_append, List.set_cons_zero, List.set_cons_succ, List.length_cons, List.length_nil, List.all_cons, List.all_nil, List.replicate_succ, List.replicate_zero, Nat.reduceAdd, Nat.reduceSub, Nat.zero_add, wd_inj, Nat.reduceLT, Nat.reduceEqDiff, decide_true, decide_false, Bool.false_eq_true, Bool.true_eq_false, Bool.not_true, Bool.not_false, Bool.or_false, Bool.false_or, Bool.or_true, Bool.true_or, Bool.and_self, Bool.and_true, Bool.true_and, ↓reduceIte, reduceCtorEq, line_le, Nat.reduceLeDiff, true_and, and_true, and_self, Option.isSome_some, Option.isSome_none, Int.reduceLT, Int.reduceLE, Int.reduceEq, Int.reduceNeg, put_same, ci0, ci1, ci2, ci3, ci4, ci5, ci6, W_PAIRS, startW])
local macro_rules | `(tactic| walk_at "ws") => `(tactic| simp only [↓x_var0, ↓x_varS, ↓x_c, ↓x_op, ↓x_b, ↓x_chain, ↓x_and, ↓x_or, ↓x_not, ↓x_andV, ↓x_orV, ↓x_notV, ↓x_if, ↓x_orT, ↓x_tr, ↓x_neg, ↓x_nil, ↓x_cons, ↓x_tup, ↓x_lst, ↓x_call, ↓x_lm, ↓x_lm0, ↓x_seq, ↓x_next, ↓x_ifS, ↓x_ret, ↓x_retN, ↓x_drop, ↓x_asg, ↓x_gname, ↓x_gtup, ↓x_gcons, ↓x_gnil, ↓x_gsub, ↓x_set, ↓x_for, ↓x_forR1, ↓x_lc, ↓x_lcR, ↓x_fld, ↓x_setF, ↓x_meth, ↓x_make, ↓x_sl, ↓x_part, ↓x_noPart, ↓x_yes, onB_bl, onS_some, onL_lst, onQ_some, onI_ins, onD_dk, onR_ref, onT_tup, onBo_some, x_app, x_clr, x_ext, v_add, v_addT, v_addS, v_addL, v_sub, v_mul, v_rep, v_mod, v_div, v_pow, v_lt, v_le, v_gt, v_ge, v_isN, v_notN, n_non, n_bl, n_int, n_str, n_ref, n_tup, q_ss, q_ii, q_bb, q_nn, q_is, q_si, q_in, q_ni, q_sn, q_ns, d_ss, d_ii, d_bb, d_nn, d_in, d_ni, ix_t, ix_r, ix_l, in_t, notin_t, fl_s, fl_i, fl_n, so_t, so_r, so_lp, len_t, len_r, len_s, int_i, int_b, list_x, tuple_x, min_ii, max_ii, sl_t, sl_l, look_nil, look_cons, putW_nil, putW_cons, x_inKd, x_notinKd, x_getKd, x_dget, key_s, key_i, val_nil, val_cons, inr_eq, start1, line_lt, atI0, atI1, atI2, atI3, atI4, List.map_cons, List.map_nil, List.cons_append, List.nil_append, List.set_cons_zero, List.set_cons_succ, List.length_cons, List.length_nil, List.all_cons, List.all_nil, List.replicate_succ, List.replicate_zero, Nat.reduceAdd, Nat.reduceSub, Nat.zero_add, wd_inj, Nat.reduceLT, Nat.reduceEqDiff, decide_true, decide_false, Bool.false_eq_true, Bool.true_eq_false, Bool.not_true, Bool.not_false, Bool.or_false, Bool.false_or, Bool.or_true, Bool.true_or, Bool.and_self, Bool.and_true, Bool.true_and, ↓reduceIte, reduceCtorEq, line_le, Nat.reduceLeDiff, true_and, and_true, and_self, Option.isSome_some, Option.isSome_none, Int.reduceLT, Int.reduceLE, Int.reduceEq, Int.reduceNeg, put_same, ci0, ci1, ci2, ci3, ci4, ci5, ci6, W_PAIRS, startW, *])

def playedM (cb : List C) (ns : List Int) (ex : Nat) (ds : List Deed) : List Told := match ds with
  | .ask _ :: _ => ((Cs.run cb (ns ++ List.replicate ex 0, ⟨ds, [], []⟩)).2.2.close ((Cs.run cb (ns ++ List.replicate ex 0, ⟨ds, [], []⟩)).1.getD (.ends 0))).all
  | _ => (⟨ds, [], []⟩ : Tk).all
/-- a work that may be played -/
structure Playable (p : List Work) (wi : Nat) (ns : List Int) (ds : List Deed) (cb : List C) (ex n m : Nat) : Prop where
  prog : progOk p n
  work : ∃ wk, p[wi]? = some wk ∧ wk.params = (ns.length : Int) ∧ wk.params ≤ wk.slots ∧ ex = (wk.slots - wk.params).toNat ∧ CloB p wk.body cb
  exl : ex ≤ 1000
  ok : Cs.ok (ns.length + ex) cb
  dep : Cs.dep cb < m
  nin : ∀ i ∈ ns, InR i
  dok : ∀ d ∈ ds, d.ok
  nl : ns.length ≤ 1000
  dl : ds.length ≤ 1000
  cost : Cs.cost cb < 16000000
def sp_played (n m : Nat) : WSp := fun ws S Q => ∃ (pr d0 : Addr) (p : List Work) (wi : Nat) (ns : List Int) (ds : List Deed) (cb : List C) (ex : Nat), ws = [.ref pr, .int wi, .tup (ns.map .int), .ref d0] ∧ S pr = some (progM p) ∧ S d0 = some (deedsM ds) ∧ Playable p wi ns ds cb ex n m ∧
  ∀ S' q, Le S S' → S q = none → S' q = some (.lst ((playedM cb ns ex ds).map toldW)) → Q (.ref q) S'
theorem close_len {T : Tk} {w : Way} : (T.close w).told.length ≤ T.told.length + 1 := by
  unfold Tk.close
  split
  · omega
  · split <;> simp [Tk.tell]
  · simp [Tk.tell]
theorem close_deeds {T : Tk} {w : Way} : (T.close w).deeds = T.deeds := by
  unfold Tk.close
  split
  · rfl
  · split <;> rfl
  · rfl
def begb (ds : List Deed) : Bool := match ds with | .ask _ :: _ => true | _ => false
theorem begins_of (ds : List Deed) : (∃ i r, ds = .ask i :: r) ∨ (begb ds = false ∧ ∀ cb ns ex, playedM cb ns ex ds = (⟨ds, [], []⟩ : Tk).all) := by
  cases ds with
  | nil => exact .inr ⟨rfl, fun _ _ _ => rfl⟩
  | cons d r => cases d with
    | ask i => exact .inl ⟨i, r, rfl⟩
    | throw i => exact .inr ⟨rfl, fun _ _ _ => rfl⟩
    | shut => exact .inr ⟨rfl, fun _ _ _ => rfl⟩
theorem r_played (CT CW : Addr) (n m : Nat) : ∀ ws S Q, Up Q → sp_played n m ws S Q → t_played CT CW (sp_need_program n) sp_need_work sp_need_asked (sp_Talk_init CT) (sp_Talk_begins CT) (sp_Walk_body CW CT m) (sp_Walk_init CW) (sp_Talk_close CT) (sp_Talk_all_told CT) { nx := fun _ S' => Q .non S', rt := Q } (startW 9 ws) S := by
  rintro ws S Q up ⟨pr, d0, p, wi, ns, ds, cb, ex, rfl, hpr, hd0, H, q⟩
  obtain ⟨wk, hw, hp, hle, hex, hb⟩ := H.work
  have hwl : wi < p.length := (List.getElem?_eq_some_iff.mp hw).1
  have o4 : atI (p.map Work.W) (wi : Int) = some (.tup [.int wk.params, .int wk.slots, .tup (Steps.W wk.body)]) := atI_map hw
  simp only [t_played]
  generalize hT : (wRet (wMeth CT w_all_told (sp_Talk_all_told CT) (wVar 4) wNil)) = T2
  walk_at "wx"
  refine ⟨pr, p, rfl, hpr, H.prog, fun S1 l1 => ?_⟩
  have hpr1 := l1 _ _ hpr
  have hd1 := l1 _ _ hd0
  refine ⟨pr, p, wi, rfl, hpr1, hwl, ?_⟩
  simp only [progM] at hpr1
  simp only [hpr1, onL_lst, o4]
  walk_at "wx"
  refine ⟨wk.params, ns, d0, ds, rfl, hd1, hp.symm, H.nin, H.dok, H.nl, H.dl, fun tk htk => ?_⟩
  have ntd : d0 ≠ tk := ne_none hd1 htk
  have l2 : Le S (put S1 tk (.ins CT [])) := l1.trans (Le.put htk)
  have ftk : S tk = none := l1.to htk
  refine ⟨tk, d0, ds, rfl, put_same, by rw [put_ne ntd]; exact hd1, fun S3 ad at_ as_ T3 k3 fa ft fs => ?_⟩
  have l3 : Le S S3 := fun a o h => k3 a o (ne_none h ftk) (l2 _ _ h)
  have o3 := T3.obj
  have hpr3 := l3 _ _ hpr
  simp only [progM] at hpr3
  have told : ∀ (S' : Sto) (as2 : Addr) (T : Tk), TkAt CT S' tk ad at_ as2 T → Le S S' → T.told.length ≤ 100000 → T.deeds.length ≤ 100000 → T.all = playedM cb ns ex ds → ∀ x5 x6 x7 x8 : Option W, T2 { nx := fun _ S' => Q .non S', rt := Q } [some (.ref pr), some (.int wi), some (.tup (ns.map .int)), some (.ref d0), some (.ref tk), x5, x6, x7, x8] S' := by
    intro S' as2 T t l a b e x5 x6 x7 x8
    have o := t.obj
    have A : sp_Talk_all_told CT [.ref tk] S' Q := ⟨tk, ad, at_, as2, T, rfl, t, a, b, fun q' hq => by rw [e]; exact q _ q' (l.trans (Le.put hq)) (l.to hq) put_same⟩
    clear t l e q
    rw [← hT]
    clear hT
    walk_at "ws"
  have BG : ∀ Q' : WQ, Q' (.bl (begb ds)) S3 → sp_Talk_begins CT [.ref tk] S3 Q' := fun Q' q' => ⟨tk, ad, at_, as_, ⟨ds, [], []⟩, rfl, T3, q'⟩
  clear hT
  walk_at "ws"
  refine BG _ ?_
  clear BG
  rcases begins_of ds with ⟨i, r, e⟩ | ⟨e, e2⟩
  · have eb : begb ds = true := by rw [e]; rfl
    rw [eb]
    walk_at "wx"
    rw [hpr3]
    simp only [onL_lst, o4]
    walk_at "wx"
    intro me hme
    have fme : S me = none := l3.to hme
    have l4 : Le S3 (put S3 me (.ins CW [])) := Le.put hme
    refine ⟨me, pr, tk, rfl, put_same, ?_⟩
    rw [put_put]
    refine ⟨rfl, ?_⟩
    have nme : ∀ {x : Addr} {o : MO}, S3 x = some o → x ≠ me := fun h => ne_none h hme
    have l5 : Le S3 (put S3 me (.ins CW [(w_program, .ref pr), (w_talk, .ref tk)])) := Le.put hme
    have o5 : put S3 me (.ins CW [(w_program, .ref pr), (w_talk, .ref tk)]) me = some (.ins CW [(w_program, .ref pr), (w_talk, .ref tk)]) := put_same
    have T5 := T3.keep l5
    have hpr5 : put S3 me (.ins CW [(w_program, .ref pr), (w_talk, .ref tk)]) pr = some (progM p) := l5 _ _ hpr3
    have l6 : Le S (put S3 me (.ins CW [(w_program, .ref pr), (w_talk, .ref tk)])) := l3.trans l5
    have fme5 : ∀ {x : Addr}, S x = none → x ≠ me → True := fun _ _ => trivial
    generalize put S3 me (.ins CW [(w_program, .ref pr), (w_talk, .ref tk)]) = S5 at *
    have en : ns.length ≤ 1000 := H.nl
    have ej : (wk.slots - wk.params).toNat ≤ 1000 := by rw [← hex]; exact H.exl
    simp only [o5, onI_ins]
    walk_at "wx"
    intro p1 hp1 p2 hp2
    refine ⟨⟨by omega, by omega, Nat.le_of_lt (small_len (by omega))⟩, fun p3 hp3 => ?_⟩
    have n12 : p1 ≠ p2 := ne_none put_same hp2
    have n13 : p1 ≠ p3 := ne_none (by rw [put_ne n12]; exact put_same) hp3
    rw [put_ne n13, put_ne n12, put_same]
    simp only [onL_lst]
    rw [rep_int, List.length_map, List.length_map, List.length_replicate, ← hex]
    refine ⟨Nat.le_of_lt (small_len (by omega)), fun p4 hp4 => ?_⟩
    rw [← List.map_append]
    have l7 : Le S5 (put (put (put S5 p1 (.lst (ns.map .int))) p2 (.lst [.int 0])) p3 (.lst ((List.replicate ex (0 : Int)).map .int))) := ((Le.put hp1).trans (Le.put hp2)).trans (Le.put hp3)
    have f4 : S5 p4 = none := l7.to hp4
    have l8 := l7.trans (Le.put (o := .lst ((ns ++ List.replicate ex (0 : Int)).map .int)) hp4)
    have T8 := T5.keep l8
    have fad : S ad = none := l2.to fa
    have fat : S at_ = none := l2.to ft
    have fas : S as_ = none := l2.to fs
    have hd : WkAt CW CT (put (put (put (put S5 p1 (.lst (ns.map .int))) p2 (.lst [.int 0])) p3 (.lst ((List.replicate ex (0 : Int)).map .int))) p4 (.lst ((ns ++ List.replicate ex (0 : Int)).map .int))) me pr tk ad at_ as_ p4 p (ns ++ List.replicate ex 0, ⟨ds, [], []⟩) (ns.length + ex) :=
      ⟨l8 _ _ o5, l8 _ _ hpr5, T8, put_same, Ne.symm (ne_none T5.deeds f4), Ne.symm (ne_none T5.told f4), Ne.symm (ne_none T5.said f4), ne_none hpr fat, ne_none hpr fas, ne_none hpr5 f4,
        ⟨by simp, fun i hi => (List.mem_append.mp hi).elim (H.nin i) fun hi => by rw [(List.mem_replicate.mp hi).2]; exact inR0, H.dok, by simp [e]⟩, H.dl⟩
    refine call_body hd hb H.ok H.dep (by simpa using H.cost) fun S9 as2 t k => ?_
    have lS9 : Le S S9 := fun x o h => t.keep x o (ne_none h ftk) (ne_none h fat) (ne_none h fas) (ne_none (l6 _ _ h) f4) (l8 _ _ (l6 _ _ h))
    have pe : playedM cb ns ex ds = ((Cs.run cb (ns ++ List.replicate ex 0, ⟨ds, [], []⟩)).2.2.close ((Cs.run cb (ns ++ List.replicate ex 0, ⟨ds, [], []⟩)).1.getD (.ends 0))).all := by subst e; rfl
    have f2 : S as2 = none := by
      rcases t.new with z | z
      · rw [z]; exact fas
      · exact (l6.trans l8).to z
    have cl : ∀ w : Way, w = (Cs.run cb (ns ++ List.replicate ex 0, ⟨ds, [], []⟩)).1.getD (.ends 0) → ∀ x5 x6 x7 x8 : Option W, sp_Talk_close CT [.ref tk, w.W] S9 fun _ S' => T2 { nx := fun x S' => Q W.non S', rt := Q } [some (.ref pr), some (.int wi), some (.tup (ns.map .int)), some (.ref d0), some (.ref tk), x5, x6, x7, x8] S' := by
      rintro w rfl x5 x6 x7 x8
      have lt : (Cs.run cb (ns ++ List.replicate ex 0, ⟨ds, [], []⟩)).2.2.told.length ≤ ds.length := k.le
      have de : (Cs.run cb (ns ++ List.replicate ex 0, ⟨ds, [], []⟩)).2.2.deeds = ds := k.deeds
      have dl := H.dl
      refine ⟨tk, ad, at_, as2, _, _, rfl, t.htk, fun hs => ?_, by omega, fun S10 as3 t10 k10 n10 => ?_⟩
      · rw [de]
        refine k.run fun e => hs ?_
        rw [e]; rfl
      · refine told S10 as3 _ t10 (fun x o h => k10 x o (ne_none h ftk) (ne_none h fat) (ne_none h f2) (lS9 _ _ h)) ?_ ?_ pe.symm _ _ _ _
        · have := close_len (T := (Cs.run cb (ns ++ List.replicate ex 0, ⟨ds, [], []⟩)).2.2) (w := (Cs.run cb (ns ++ List.replicate ex 0, ⟨ds, [], []⟩)).1.getD (.ends 0))
          omega
        · rw [close_deeds, de]; omega
    have o9 := t.htk.obj
    cases e3 : (Cs.run cb (ns ++ List.replicate ex 0, ⟨ds, [], []⟩)).1 with
    | none =>
      have c := cl (.ends 0) (by rw [e3]; rfl)
      simp only [Way.W] at c
      simp only [optW]
      clear q told T5 hd k t pe cl e3
      walk_at "ws"
    | some w =>
      have c := cl w (by rw [e3]; rfl)
      have e4 : isNon (optW (some w)) = false := by cases w <;> rfl
      have e5 : optW (some w) = w.W := rfl
      rw [e5] at e4 ⊢
      clear q told T5 hd k t pe cl e3
      walk_at "ws"
  · rw [e]
    walk_at "wx"
    exact told S3 as_ _ T3 l3 (Nat.zero_le _) (Nat.le_trans H.dl (by decide)) (e2 _ _ _).symm _ _ _ _

end WL
namespace WL
open PySem L2
local macro_rules | `(tactic| walk_at "wx") => `(tactic| simp only [↓x_var0, ↓x_varS, ↓x_c, ↓x_op, ↓x_b, ↓x_chain, ↓x_and, ↓x_or, ↓x_not, ↓x_andV, ↓x_orV, ↓x_notV, ↓x_if, ↓x_orT, ↓x_tr, ↓x_neg, ↓x_nil, ↓x_cons, ↓x_tup, ↓x_lst, ↓x_call, ↓x_lm, ↓x_lm0, ↓x_seq, ↓x_next, ↓x_ifS, ↓x_ret, ↓x_retN, ↓x_drop, ↓x_asg, ↓x_gname, ↓x_gtup, ↓x_gcons, ↓x_gnil, ↓x_gsub, ↓x_set, ↓x_for, ↓x_forR1, ↓x_lc, ↓x_lcR, ↓x_fld, ↓x_setF, ↓x_meth, ↓x_make, ↓x_sl, ↓x_part, ↓x_noPart, ↓x_yes, onB_bl, onS_some, onL_lst, onQ_some, onI_ins, onD_dk, onR_ref, onT_tup, onBo_some, x_app, x_clr, x_ext, v_add, v_addT, v_addS, v_addL, v_sub, v_mul, v_rep, v_mod, v_div, v_pow, v_lt, v_le, v_gt, v_ge, v_isN, v_notN, n_non, n_bl, n_int, n_str, n_ref, n_tup, q_ss, q_ii, q_bb, q_nn, q_is, q_si, q_in, q_ni, q_sn, q_ns, d_ss, d_ii, d_bb, d_nn, d_in, d_ni, ix_t, ix_r, ix_l, in_t, notin_t, fl_s, fl_i, fl_n, so_t, so_r, so_lp, len_t, len_r, len_s, int_i, int_b, list_x, tuple_x, min_ii, max_ii, sl_t, sl_l, look_nil, look_cons, putW_nil, putW_cons, x_inKd, x_notinKd, x_getKd, x_dget, key_s, key_i, val_nil, val_cons, inr_eq, start1, line_lt, atI0, atI1, atI2, atI3, atI4, List.map_cons, List.map_nil, List.cons_append, List.nil_append, List.set_cons_zero, List.set_cons_succ, List.length_cons, List.length_nil, List.all_cons, List.all_nil, List.replicate_succ, List.replicate_zero, Nat.reduceAdd, Nat.reduceSub, Nat.zero_add, wd_inj, Nat.reduceLT, Nat.reduceEqDiff, decide_true, decide_false, Bool.false_eq_true, Bool.true_eq_false, Bool.not_true, Bool.not_false, Bool.or_false, Bool.false_or, Bool.or_true, Bool.true_or, Bool.and_self, Bool.and_true, Bool.true_and, ↓reduceIte, reduceCtorEq, line_le, Nat.reduceLeDiff, true_and, and_true, and_self, Option.isSome_some, Option.isSome_none, Int.reduceLT, Int.reduceLE, Int.reduceEq, Int.reduceNeg, put_same, ci0, ci1, ci2, ci3, ci4, ci5, ci6, W_PAIRS, startW])
local macro_rules | `(tactic| walk_at "ws") => `(tactic| simp only [↓x_var0, ↓x_varS, ↓x_c, ↓x_op, ↓x_b, ↓x_chain, ↓x_and, ↓x_or, ↓x_not, ↓x_andV, ↓x_orV, ↓x_notV, ↓x_if, ↓x_orT, ↓x_tr, ↓x_neg, ↓x_nil, ↓x_cons, ↓x_tup, ↓x_lst, ↓x_call, ↓x_lm, ↓x_lm0, ↓x_seq, ↓x_next, ↓x_ifS, ↓x_ret, ↓x_retN, ↓x_drop, ↓x_asg, ↓x_gname, ↓x_gtup, ↓x_gcons, ↓x_gnil, ↓x_gsub, ↓x_set, ↓x_for, ↓x_forR1, ↓x_lc, ↓x_lcR, ↓x_fld, ↓x_setF, ↓x_meth, ↓x_make, ↓x_sl, ↓x_part, ↓x_noPart, ↓x_yes, onB_bl, onS_some, onL_lst, onQ_some, onI_ins, onD_dk, onR_ref, onT_tup, onBo_some, x_app, x_clr, x_ext, v_add, v_addT, v_addS, v_addL, v_sub, v_mul, v_rep, v_mod, v_div, v_pow, v_lt, v_le, v_gt, v_ge, v_isN, v_notN, n_non, n_bl, n_int, n_str, n_ref, n_tup, q_ss, q_ii, q_bb, q_nn, q_is, q_si, q_in, q_ni, q_sn, q_ns, d_ss, d_ii, d_bb, d_nn, d_in, d_ni, ix_t, ix_r, ix_l, in_t, notin_t, fl_s, fl_i, fl_n, so_t, so_r, so_lp, len_t, len_r, len_s, int_i, int_b, list_x, tuple_x, min_ii, max_ii, sl_t, sl_l, look_nil, look_cons, putW_nil, putW_cons, x_inKd, x_notinKd, x_getKd, x_dget, key_s, key_i, val_nil, val_cons, inr_eq, start1, line_lt, atI0, atI1, atI2, atI3, atI4, List.map_cons, List.map_nil, List.cons_append, List.nil_append, List.set_cons_zero, List.set_cons_succ, List.length_cons, List.length_nil, List.all_cons, List.all_nil, List.replicate_succ, List.replicate_zero, Nat.reduceAdd, Nat.reduceSub, Nat.zero_add, wd_inj, Nat.reduceLT, Nat.reduceEqDiff, decide_true, decide_false, Bool.false_eq_true, Bool.true_eq_false, Bool.not_true, Bool.not_false, Bool.or_false, Bool.false_or, Bool.or_true, Bool.true_or, Bool.and_self, Bool.and_true, Bool.true_and, ↓reduceIte, reduceCtorEq, line_le, Nat.reduceLeDiff, true_and, and_true, and_self, Option.isSome_some, Option.isSome_none, Int.reduceLT, Int.reduceLE, Int.reduceEq, Int.reduceNeg, put_same, ci0, ci1, ci2, ci3, ci4, ci5, ci6, W_PAIRS, startW, *])

/-- law_taken: row many found cell -/
def t_law_taken  : WS :=
  (wSeq (wIfS (wB (wOp rGt (wOp rIxW (wVar 0) (wC (.int 3))) (wC (.int 0))))
  (wSeq (wAsg (wOp rMod (wOp rIxW (wVar 0) (wC (.int 3))) (wVar 1)) (gNameW 2))
  (wSeq (wAsg (wOp rDiv (wOp rIxW (wVar 0) (wC (.int 3))) (wVar 1)) (gSubW (wVar 0) (wC (.int 3))))
  (wRet (wVar 2))))
  wNext)
  (wSeq (wAsg (wOp rAddW (wOp rIxW (wVar 0) (wC (.int 1))) (wC (.int 1))) (gSubW (wVar 0) (wC (.int 1))))
  (wSeq (wIfS (wB (wOp rGt (wOp rIxW (wVar 0) (wC (.int 1))) (wCall rLenW (wCons (wOp rIxW (wVar 0) (wC (.int 0))) wNil))))
  (wSeq (wAsg (wOp rMod (wOp rAddW (wOp rMulW (wOp rIxW (wVar 0) (wC (.int 2))) (wC (.int 48271))) (wC (.int 11))) (wC (.int 2147483647))) (gSubW (wVar 0) (wC (.int 2))))
  (wRet (wOp rMod (wOp rDiv (wOp rIxW (wVar 0) (wC (.int 2))) (wC (.int 7))) (wVar 1))))
  wNext)
  (wSeq (wAsg (wOp rIxW (wOp rIxW (wVar 0) (wC (.int 0))) (wOp rSubW (wOp rIxW (wVar 0) (wC (.int 1))) (wC (.int 1)))) (gNameW 3))
  (wSeq (wAsg (wOp rMod (wOp rAddW (wOp rAddW (wOp rMulW (wOp rIxW (wVar 0) (wC (.int 2))) (wC (.int 48271))) (wVar 3)) (wC (.int 11))) (wC (.int 2147483647))) (gSubW (wVar 0) (wC (.int 2))))
  (wSeq (wIfS (wB (wOp rGe (wVar 3) (wOp rPow (wC (.int 10)) (wC (.int 18)))))
  (wAsg (wOp rDiv (wVar 3) (wVar 1)) (gSubW (wVar 0) (wC (.int 3))))
  wNext)
  (wRet (wOp rMod (wVar 3) (wVar 1)))))))))
/-- law_reckoning: row slots deep way word -/
def t_law_reckoning (sp_law_taken sp_law_reckoning : WSp) : WS :=
  (wSeq (wAsg (wCall sp_law_taken (wCons (wVar 0) (wCons (wC (.int 8)) wNil))) (gNameW 3))
  (wSeq (wIfS (wAnd (wB (wOp rGt (wVar 3) (wC (.int 4)))) (wB (wOp rGt (wVar 2) (wC (.int 0)))))
  (wSeq (wAsg (wOp rIxW (wLst (wCons (wC (.str w_plus)) (wCons (wC (.str w_less)) (wCons (wC (.str w_times)) (wCons (wC (.str w_part)) (wCons (wC (.str w_below)) (wCons (wC (.str w_same)) wNil))))))) (wCall sp_law_taken (wCons (wVar 0) (wCons (wC (.int 6)) wNil)))) (gNameW 4))
  (wRet (wTup (wCons (wVar 4) (wCons (wCall sp_law_reckoning (wCons (wVar 0) (wCons (wVar 1) (wCons (wOp rSubW (wVar 2) (wC (.int 1))) wNil)))) (wCons (wCall sp_law_reckoning (wCons (wVar 0) (wCons (wVar 1) (wCons (wOp rSubW (wVar 2) (wC (.int 1))) wNil)))) wNil))))))
  wNext)
  (wSeq (wIfS (wB (wOp rLt (wVar 3) (wC (.int 3))))
  (wRet (wTup (wCons (wC (.str w_num)) (wCons (wCall sp_law_taken (wCons (wVar 0) (wCons (wOp rIxW (wLst (wCons (wC (.int 3)) (wCons (wC (.int 12)) (wCons (wC (.int 1000)) wNil)))) (wVar 3)) wNil))) wNil))))
  wNext)
  (wRet (wTup (wCons (wC (.str w_slot)) (wCons (wCall sp_law_taken (wCons (wVar 0) (wCons (wVar 1) wNil))) wNil)))))))
/-- law_numbers: row many turn -/
def t_law_numbers (sp_law_taken : WSp) : WS :=
  (wRet (wCall rTupleW (wCons (wLcR (wCons (wVar 1) wNil) 2 wYes (wCall sp_law_taken (wCons (wVar 0) (wCons (wOp rIxW (wLst (wCons (wC (.int 4)) (wCons (wC (.int 1000)) wNil))) (wCall sp_law_taken (wCons (wVar 0) (wCons (wC (.int 2)) wNil)))) wNil)))) wNil)))
/-- law_alike: found due k -/
def t_law_alike (sp_law_alike : WSp) : WS :=
  (wSeq (wIfS (wOr (wB (wCall rIsiW (wCons (wVar 1) (wCons (wC (.ty "tuple")) wNil)))) (wB (wCall rIsiW (wCons (wVar 1) (wCons (wC (.ty "list")) wNil)))))
  (wSeq (wIfS (wOr (wB (wOp rNeW (wCall rIsiW (wCons (wVar 0) (wCons (wC (.ty "tuple")) wNil))) (wCall rIsiW (wCons (wVar 1) (wCons (wC (.ty "tuple")) wNil))))) (wNot (wB (wCall rIsiW (wCons (wVar 0) (wCons (wTup (wCons (wC (.ty "tuple")) (wCons (wC (.ty "list")) wNil))) wNil))))))
  (wRet (wC (.bl false)))
  wNext)
  (wSeq (wIfS (wB (wOp rNeW (wCall rLenW (wCons (wVar 0) wNil)) (wCall rLenW (wCons (wVar 1) wNil))))
  (wRet (wC (.bl false)))
  wNext)
  (wRet (wOp rEqW (wLcR (wCons (wCall rLenW (wCons (wVar 1) wNil)) wNil) 2 (wNot (wB (wCall sp_law_alike (wCons (wOp rIxW (wVar 0) (wVar 2)) (wCons (wOp rIxW (wVar 1) (wVar 2)) wNil))))) (wVar 2)) (wLst wNil)))))
  wNext)
  (wSeq (wIfS (wOr (wB (wOp rIsN (wVar 1) (wC .non))) (wB (wOp rIsN (wVar 0) (wC .non))))
  (wRet (wAndV (wOp rIsN (wVar 1) (wC .non)) (wOp rIsN (wVar 0) (wC .non))))
  wNext)
  (wSeq (wIfS (wOr (wB (wCall rIsiW (wCons (wVar 1) (wCons (wC (.ty "bool")) wNil)))) (wB (wCall rIsiW (wCons (wVar 0) (wCons (wC (.ty "bool")) wNil)))))
  (wRet (wAndV (wCall rIsiW (wCons (wVar 1) (wCons (wC (.ty "bool")) wNil))) (wAndV (wCall rIsiW (wCons (wVar 0) (wCons (wC (.ty "bool")) wNil))) (wOp rEqW (wVar 0) (wVar 1)))))
  wNext)
  (wSeq (wIfS (wB (wCall rIsiW (wCons (wVar 1) (wCons (wC (.ty "str")) wNil))))
  (wRet (wAndV (wCall rIsiW (wCons (wVar 0) (wCons (wC (.ty "str")) wNil))) (wOp rEqW (wVar 0) (wVar 1))))
  wNext)
  (wRet (wAndV (wCall rIsiW (wCons (wVar 0) (wCons (wC (.ty "int")) wNil))) (wOp rEqW (wVar 0) (wVar 1))))))))
/-- law_reckoned: e slots one other -/
def t_law_reckoned (sp_law_reckoned : WSp) : WS :=
  (wSeq (wIfS (wB (wOp rEqW (wOp rIxW (wVar 0) (wC (.int 0))) (wC (.str w_num))))
  (wRet (wOp rIxW (wVar 0) (wC (.int 1))))
  wNext)
  (wSeq (wIfS (wB (wOp rEqW (wOp rIxW (wVar 0) (wC (.int 0))) (wC (.str w_slot))))
  (wRet (wOp rIxW (wVar 1) (wOp rIxW (wVar 0) (wC (.int 1)))))
  wNext)
  (wSeq (wAsg (wCall sp_law_reckoned (wCons (wOp rIxW (wVar 0) (wC (.int 1))) (wCons (wVar 1) wNil))) (gNameW 2))
  (wSeq (wAsg (wCall sp_law_reckoned (wCons (wOp rIxW (wVar 0) (wC (.int 2))) (wCons (wVar 1) wNil))) (gNameW 3))
  (wSeq (wIfS (wOr (wB (wOp rIsN (wVar 2) (wC .non))) (wOr (wB (wOp rIsN (wVar 3) (wC .non))) (wAnd (wB (wOp rEqW (wOp rIxW (wVar 0) (wC (.int 0))) (wC (.str w_part)))) (wB (wOp rEqW (wVar 3) (wC (.int 0)))))))
  (wRet (wC .non))
  wNext)
  (wSeq (wIfS (wB (wOp (rInW false) (wOp rIxW (wVar 0) (wC (.int 0))) (wTup (wCons (wC (.str w_below)) (wCons (wC (.str w_same)) wNil)))))
  (wRet (wCall rIntW (wCons (wOp rIxW (wLst (wCons (wOp rLt (wVar 2) (wVar 3)) (wCons (wOp rEqW (wVar 2) (wVar 3)) wNil))) (wCall rIntW (wCons (wOp rEqW (wOp rIxW (wVar 0) (wC (.int 0))) (wC (.str w_same))) wNil))) wNil)))
  wNext)
  (wSeq (wIfS (wB (wOp rEqW (wOp rIxW (wVar 0) (wC (.int 0))) (wC (.str w_part))))
  (wRet (wOp rDiv (wVar 2) (wVar 3)))
  wNext)
  (wRet (wOp rMod (wOp rDGet (wDisp (((wC (.str w_plus)), (wOp rAddW (wVar 2) (wVar 3))) :: (((wC (.str w_less)), (wOp rSubW (wOp rAddW (wC (.int 1000)) (wVar 2)) (wVar 3))) :: (((wC (.str w_times)), (wOp rMulW (wVar 2) (wVar 3))) :: [])))) (wOp rIxW (wVar 0) (wC (.int 0)))) (wC (.int 1000)))))))))))
/-- law_steps: row slots found turn e way -/
def l_law_steps_1 (sp_law_reckoning sp_law_taken : WSp) : WS :=
  (wSeq (wAsg (wCall sp_law_reckoning (wCons (wVar 0) (wCons (wVar 1) (wCons (wOp rSubW (wC (.int 3)) (wOp rDiv (wCall sp_law_taken (wCons (wVar 0) (wCons (wC (.int 4)) wNil))) (wC (.int 2)))) wNil)))) (gNameW 4))
  (wSeq (wAsg (wCall sp_law_taken (wCons (wVar 0) (wCons (wC (.int 9)) wNil))) (gNameW 5))
  (wIfS (wB (wOp rLt (wVar 5) (wC (.int 4))))
  (wDrop (wLm rAppW (wVar 2) (wCons (wTup (wCons (wC (.str w_set)) (wCons (wCall sp_law_taken (wCons (wVar 0) (wCons (wVar 1) wNil))) (wCons (wVar 4) wNil)))) wNil)))
  (wIfS (wB (wOp rLt (wVar 5) (wC (.int 8))))
  (wDrop (wLm rAppW (wVar 2) (wCons (wTup (wCons (wC (.str w_say)) (wCons (wVar 4) wNil))) wNil)))
  (wDrop (wLm rAppW (wVar 2) (wCons (wTup (wCons (wOp rIxW (wLst (wCons (wC (.str w_end)) (wCons (wC (.str w_fault)) wNil))) (wCall sp_law_taken (wCons (wVar 0) (wCons (wC (.int 2)) wNil)))) (wCons (wVar 4) wNil))) wNil)))))))
def t_law_steps (sp_law_reckoning sp_law_taken : WSp) : WS :=
  (wSeq (wAsg (wLst wNil) (gNameW 2))
  (wSeq (wForR1 (wCons (wOp rAddW (wC (.int 1)) (wCall sp_law_taken (wCons (wVar 0) (wCons (wC (.int 12)) wNil)))) wNil) (gNameW 3)
  (l_law_steps_1 sp_law_reckoning sp_law_taken))
  (wRet (wCall rTupleW (wCons (wVar 2) wNil)))))
/-- law_gone: steps_here slots words step number -/
def l_law_gone_1 (sp_law_reckoned : WSp) : WS :=
  (wSeq (wAsg (wCall sp_law_reckoned (wCons (wOp rIxW (wVar 3) (wNeg (wC (.int 1)))) (wCons (wVar 1) wNil))) (gNameW 4))
  (wSeq (wIfS (wB (wOp rIsN (wVar 4) (wC .non)))
  (wRet (wTup (wCons (wCall rTupleW (wCons (wVar 2) wNil)) (wCons (wTup (wCons (wC (.str w_fault)) (wCons (wC (.int 0)) wNil))) wNil))))
  wNext)
  (wSeq (wIfS (wB (wOp (rInW false) (wOp rIxW (wVar 3) (wC (.int 0))) (wTup (wCons (wC (.str w_end)) (wCons (wC (.str w_fault)) wNil)))))
  (wRet (wTup (wCons (wCall rTupleW (wCons (wVar 2) wNil)) (wCons (wTup (wCons (wOp rIxW (wVar 3) (wC (.int 0))) (wCons (wVar 4) wNil))) wNil))))
  wNext)
  (wIfS (wB (wOp rEqW (wOp rIxW (wVar 3) (wC (.int 0))) (wC (.str w_say))))
  (wDrop (wLm rAppW (wVar 2) (wCons (wVar 4) wNil)))
  (wAsg (wVar 4) (gSubW (wVar 1) (wOp rIxW (wVar 3) (wC (.int 1)))))))))
def t_law_gone (sp_law_reckoned : WSp) : WS :=
  (wSeq (wAsg (wLst wNil) (gNameW 2))
  (wSeq (wFor (wVar 0) (gNameW 3)
  (l_law_gone_1 sp_law_reckoned))
  (wRet (wTup (wCons (wCall rTupleW (wCons (wVar 2) wNil)) (wCons (wTup (wCons (wC (.str w_end)) (wCons (wC (.int 0)) wNil))) wNil))))))
/-- law: script row turn slots params steps_here numbers_here program handed due more number way deeds found -/
def l_law_1 (sp_law_taken sp_law_steps sp_law_numbers sp_law_gone sp_played sp_law_alike : WSp) : WS :=
  (wSeq (wAsg (wCall sp_law_taken (wCons (wVar 1) (wCons (wC (.int 1000)) wNil))) (gNameW 11))
  (wSeq (wAsg (wCall sp_law_taken (wCons (wVar 1) (wCons (wC (.int 3)) wNil))) (gNameW 12))
  (wSeq (wDrop (wLm rAppW (wOp rIxW (wVar 8) (wC (.int 1))) (wCons (wOp rIxW (wLst (wCons (wTup (wCons (wC (.str w_ask)) (wCons (wVar 11) wNil))) (wCons (wTup (wCons (wC (.str w_throw)) (wCons (wVar 11) wNil))) (wCons (wTup (wCons (wC (.str w_shut)) wNil)) wNil)))) (wVar 12)) wNil)))
  (wDrop (wLm rAppW (wVar 9) (wCons (wTup (wCons (wTup wNil) (wCons (wOp rIxW (wLst (wCons (wTup (wCons (wC (.str w_over)) wNil)) (wCons (wTup (wCons (wC (.str w_fault)) (wCons (wVar 11) wNil))) (wCons (wTup (wCons (wC (.str w_shut)) wNil)) wNil)))) (wVar 12)) wNil))) wNil))))))
def l_law_2 (sp_law_taken sp_law_steps sp_law_numbers sp_law_gone sp_played sp_law_alike : WSp) : WS :=
  (wSeq (wAsg (wOp rAddW (wC (.int 1)) (wCall sp_law_taken (wCons (wVar 1) (wCons (wC (.int 4)) wNil)))) (gNameW 3))
  (wSeq (wAsg (wCall sp_law_taken (wCons (wVar 1) (wCons (wCall rMinW (wCons (wC (.int 3)) (wCons (wOp rAddW (wVar 3) (wC (.int 1))) wNil))) wNil))) (gNameW 4))
  (wSeq (wAsg (wCall sp_law_steps (wCons (wVar 1) (wCons (wVar 3) wNil))) (gNameW 5))
  (wSeq (wAsg (wCall sp_law_numbers (wCons (wVar 1) (wCons (wVar 4) wNil))) (gNameW 6))
  (wSeq (wAsg (wLst (wCons (wTup (wCons (wVar 4) (wCons (wVar 3) (wCons (wVar 5) wNil)))) wNil)) (gNameW 7))
  (wSeq (wAsg (wLst (wCons (wCall rListW (wCons (wVar 7) wNil)) (wCons (wLst (wCons (wTup (wCons (wC (.str w_ask)) (wCons (wCall sp_law_taken (wCons (wVar 1) (wCons (wC (.int 1000)) wNil))) wNil))) wNil)) wNil))) (gNameW 8))
  (wSeq (wAsg (wLst (wCons (wCall sp_law_gone (wCons (wVar 5) (wCons (wOp rAddW (wCall rListW (wCons (wVar 6) wNil)) (wOp rMulW (wLst (wCons (wC (.int 0)) wNil)) (wOp rSubW (wVar 3) (wVar 4)))) wNil))) wNil)) (gNameW 9))
  (wSeq (wForR1 (wCons (wCall sp_law_taken (wCons (wVar 1) (wCons (wC (.int 4)) wNil))) wNil) (gNameW 10)
  (l_law_1 sp_law_taken sp_law_steps sp_law_numbers sp_law_gone sp_played sp_law_alike))
  (wSeq (wAsg (wCall rListW (wCons (wOp rIxW (wVar 8) (wC (.int 1))) wNil)) (gNameW 13))
  (wSeq (wAsg (wCall sp_played (wCons (wOp rIxW (wVar 8) (wC (.int 0))) (wCons (wC (.int 0)) (wCons (wVar 6) (wCons (wOp rIxW (wVar 8) (wC (.int 1))) wNil))))) (gNameW 14))
  (wSeq (wIfS (wOr (wNot (wB (wCall rIsiW (wCons (wVar 14) (wCons (wC (.ty "list")) wNil))))) (wOr (wNot (wB (wCall sp_law_alike (wCons (wVar 14) (wCons (wVar 9) wNil))))) (wB (wOp rNeW (wVar 8) (wLst (wCons (wVar 7) (wCons (wVar 13) wNil)))))))
  (wRet (wC (.bl false)))
  wNext)
  (wSeq (wDrop (wLm0 rClrW (wVar 14)))
  (wIfS (wNot (wB (wCall sp_law_alike (wCons (wCall sp_played (wCons (wVar 7) (wCons (wC (.int 0)) (wCons (wVar 6) (wCons (wVar 13) wNil))))) (wCons (wVar 9) wNil)))))
  (wRet (wC (.bl false)))
  wNext)))))))))))))
def t_law (sp_law_taken sp_law_steps sp_law_numbers sp_law_gone sp_played sp_law_alike : WSp) : WS :=
  (wSeq (wAsg (wLst (wCons (wVar 0) (wCons (wC (.int 0)) (wCons (wC (.int 0)) (wCons (wC (.int 0)) wNil))))) (gNameW 1))
  (wSeq (wForR1 (wCons (wC (.int 3)) wNil) (gNameW 2)
  (l_law_2 sp_law_taken sp_law_steps sp_law_numbers sp_law_gone sp_played sp_law_alike))
  (wRet (wC (.bl true)))))
/-! ### the row of a draw -/
def RowAt (S : Sto) (row : Addr) (ns : List Int) : Prop := ∃ i c d : Int, S row = some (.lst [.rl (ns.map .int), .int i, .int c, .int d]) ∧ 0 ≤ i ∧ 0 ≤ c ∧ c < 2147483647
def Fr (row : Addr) (S S' : Sto) : Prop := ∀ x o, x ≠ row → S x = some o → S' x = some o
theorem Fr.refl {row : Addr} {S : Sto} : Fr row S S := fun _ _ _ h => h
theorem Fr.trans {row : Addr} {S S1 S2 : Sto} (a : Fr row S S1) (b : Fr row S1 S2) : Fr row S S2 := fun x o n h => b x o n (a x o n h)
theorem Fr.le {row : Addr} {S S' : Sto} (l : Le S S') : Fr row S S' := fun x o _ h => l x o h
theorem Fr.put {row : Addr} {S : Sto} {o : MO} : Fr row S (WL.put S row o) := fun x o n h => by rw [put_ne n]; exact h
theorem RowAt.le {S S' : Sto} {row : Addr} {ns : List Int} (h : RowAt S row ns) (l : Le S S') : RowAt S' row ns := by
  obtain ⟨i, c, d, e, h1, h2, h3⟩ := h
  exact ⟨i, c, d, l _ _ e, h1, h2, h3⟩
theorem RowAt.ne {S : Sto} {row p : Addr} {ns : List Int} (h : RowAt S row ns) (hp : S p = none) : row ≠ p := by
  obtain ⟨i, c, d, e, _⟩ := h
  exact ne_none e hp
def sp_law_taken : WSp := fun ws S Q => ∃ (row : Addr) (ns : List Int) (m : Int), ws = [.ref row, .int m] ∧ 0 < m ∧ m ≤ 100000 ∧ RowAt S row ns ∧ ∀ v S', 0 ≤ v → v < m → RowAt S' row ns → Fr row S S' → Q (.int v) S'
theorem atI_last {ns : List Int} {i : Int} (h0 : 0 ≤ i) (h : ¬ (ns.length : Int) < i + 1) : ∃ x : Int, atI (ns.map W.int) (i + 1 - 1) = some (.int x) := by
  obtain ⟨x, hx⟩ := get_some (show i.toNat < ns.length by omega)
  refine ⟨x, ?_⟩
  rw [show i + 1 - 1 = ((i.toNat : Nat) : Int) by omega]
  exact atI_map hx
theorem r_law_taken : ∀ ws S Q, Up Q → sp_law_taken ws S Q → t_law_taken { nx := fun _ S' => Q .non S', rt := Q } (startW 4 ws) S := by
  rintro ws S Q up ⟨row, ns, m, rfl, hm, hm2, ⟨i, c, d, hS, hi, hc, hc2⟩, q⟩
  simp only [t_law_taken]
  have cd : ∀ x : Int, CDiv x m := fun x => ⟨hm, by omega⟩
  have cm : CMul c 48271 := .inr (by decide)
  have cp : CPow 10 18 := by unfold CPow; decide
  have cd7 : ∀ x : Int, CDiv x 7 := fun x => ⟨by decide, by decide⟩
  have i3 : ixN 4 3 = some 3 := rfl
  have i2 : ixN 4 2 = some 2 := rfl
  have i1 : ixN 4 1 = some 1 := rfl
  have lr : ∀ (S : Sto) Q', rLenW [.rl (ns.map W.int)] S Q' = Q' (.int (ns.length : Nat)) S := fun S Q' => by rw [len_r, List.length_map]
  by_cases hd : 0 < d
  · have d1 := decide_eq_true hd
    have q' := fun x => q (d % m) (put S row (.lst [.rl (ns.map .int), .int i, .int c, .int x])) (Int.emod_nonneg _ (by omega)) (Int.emod_lt_of_pos _ hm) ⟨i, c, x, put_same, hi, hc, hc2⟩ Fr.put
    clear q
    walk_at "ws"
  · have d1 := decide_eq_false hd
    have q' := fun v (h1 : 0 ≤ v) (h2 : v < m) c' x (h3 : 0 ≤ c') (h4 : c' < 2147483647) => q v (put S row (.lst [.rl (ns.map .int), .int (i + 1), .int c', .int x])) h1 h2 ⟨i + 1, c', x, put_same, by omega, h3, h4⟩ Fr.put
    clear q
    by_cases hl : (ns.length : Int) < i + 1
    · have d2 := decide_eq_true hl
      have q2 := q' ((c * 48271 + 11) % 2147483647 / 7 % m) (Int.emod_nonneg _ (by omega)) (Int.emod_lt_of_pos _ hm) ((c * 48271 + 11) % 2147483647) d (Int.emod_nonneg _ (by decide)) (Int.emod_lt_of_pos _ (by decide))
      clear q'
      walk_at "ws"
      simp only [put_put]
      exact q2
    · have d2 := decide_eq_false hl
      obtain ⟨x, hx⟩ := atI_last hi hl
      have q2 := fun y => q' (x % m) (Int.emod_nonneg _ (by omega)) (Int.emod_lt_of_pos _ hm) ((c * 48271 + x + 11) % 2147483647) y (Int.emod_nonneg _ (by decide)) (Int.emod_lt_of_pos _ (by decide))
      clear q'
      walk_at "ws"
      simp only [put_put]
      walk_at "ws"
      split <;> trivial
theorem taken_ok {S : Sto} {row : Addr} {ns : List Int} {m : Int} {Q : WQ} (R : RowAt S row ns) (hm : 0 < m) (hm2 : m ≤ 100000) (q : ∀ v S', 0 ≤ v → v < m → RowAt S' row ns → Fr row S S' → Q (.int v) S') : sp_law_taken [.ref row, .int m] S Q := ⟨row, ns, m, rfl, hm, hm2, R, q⟩
def sp_law_reckoning (n : Nat) : WSp := fun ws S Q => ∃ (row : Addr) (ns : List Int) (slots : Int) (deep : Nat), ws = [.ref row, .int slots, .int deep] ∧ 0 < slots ∧ slots ≤ 1000 ∧ deep < n ∧ RowAt S row ns ∧ ∀ (e : Rk) S', e.isR slots deep = true → RowAt S' row ns → Fr row S S' → Q e.W S'
theorem op_at {v : Int} (h0 : 0 ≤ v) (h : v < 6) : ∃ o : Op, atI [W.str w_plus, .str w_less, .str w_times, .str w_part, .str w_below, .str w_same] v = some (.str o.str) := by
  obtain rfl | rfl | rfl | rfl | rfl | rfl : v = 0 ∨ v = 1 ∨ v = 2 ∨ v = 3 ∨ v = 4 ∨ v = 5 := by omega
  · exact ⟨.plus, rfl⟩
  · exact ⟨.less, rfl⟩
  · exact ⟨.times, rfl⟩
  · exact ⟨.part, rfl⟩
  · exact ⟨.below, rfl⟩
  · exact ⟨.same, rfl⟩
theorem num_at {v : Int} (h0 : 0 ≤ v) (h : v < 3) : ∃ m : Int, atI [W.int 3, .int 12, .int 1000] v = some (.int m) ∧ 0 < m ∧ m ≤ 1000 := by
  obtain rfl | rfl | rfl : v = 0 ∨ v = 1 ∨ v = 2 := by omega
  · exact ⟨3, rfl, by decide, by decide⟩
  · exact ⟨12, rfl, by decide, by decide⟩
  · exact ⟨1000, rfl, by decide, by decide⟩
theorem r_law_reckoning (n : Nat) : ∀ ws S Q, Up Q → sp_law_reckoning (n + 1) ws S Q → t_law_reckoning sp_law_taken (sp_law_reckoning n) { nx := fun _ S' => Q .non S', rt := Q } (startW 5 ws) S := by
  rintro ws S Q up ⟨row, ns, slots, deep, rfl, hs, hs2, hd, R, q⟩
  simp only [t_law_reckoning]
  walk_at "wx"
  refine taken_ok R (by decide) (by decide) fun v S1 v0 v1 R1 F1 => ?_
  by_cases h4 : 4 < v ∧ 0 < deep
  · obtain ⟨h4, hd0⟩ := h4
    have c1 := decide_eq_true h4
    have c2 := decide_eq_true (show (0 : Int) < (deep : Int) by omega)
    obtain ⟨d, rfl⟩ : ∃ d, deep = d + 1 := ⟨deep - 1, by omega⟩
    have e1 : ((d + 1 : Nat) : Int) - 1 = (d : Int) := by omega
    rw [e1]
    walk_at "wx"
    rw [c1]
    walk_at "wx"
    rw [c2]
    walk_at "wx"
    intro p hp
    have R2 := R1.le (Le.put (o := .lst [W.str w_plus, .str w_less, .str w_times, .str w_part, .str w_below, .str w_same]) hp)
    refine taken_ok R2 (by decide) (by decide) fun u S2 u0 u1 R3 F3 => ?_
    obtain ⟨o, ho⟩ := op_at u0 u1
    have hp3 := F3 p _ (Ne.symm (R1.ne hp)) put_same
    simp only [ix_l, hp3, onL_lst, ho]
    walk_at "wx"
    refine ⟨row, ns, slots, d, rfl, hs, hs2, by omega, R3, fun a S4 ha R4 F4 => ?_⟩
    refine ⟨row, ns, slots, d, rfl, hs, hs2, by omega, R4, fun b S5 hb R5 F5 => ?_⟩
    exact q (.op o a b) S5 (by simp only [Rk.isR, ha, hb, Bool.and_self]) R5 (F1.trans ((Fr.le (Le.put hp)).trans (F3.trans (F4.trans F5))))
  · have h5 : (decide (4 < v) && decide ((0 : Int) < (deep : Int))) = false := by
      rw [← Bool.not_eq_true, Bool.and_eq_true, decide_eq_true_eq, decide_eq_true_eq]
      omega
    have h6 : ∀ {A B : Prop}, (if decide (4 < v) = true then (if decide ((0 : Int) < (deep : Int)) = true then A else B) else B) = B := fun {A B} => by
      by_cases z : 4 < v
      · rw [if_pos (decide_eq_true z), if_neg (by rw [decide_eq_true_eq]; omega)]
      · rw [if_neg (by rw [decide_eq_true_eq]; omega)]
    walk_at "wx"
    rw [h6]
    by_cases h3 : v < 3
    · rw [decide_eq_true h3]
      walk_at "wx"
      intro p hp
      obtain ⟨m, hm, m0, m1⟩ := num_at v0 h3
      simp only [ix_l, put_same, onL_lst, hm]
      walk_at "wx"
      refine taken_ok (R1.le (Le.put hp)) m0 (by omega) fun u S2 u0 u1 R3 F3 => ?_
      exact q (.num u) S2 (by cases deep <;> simp only [Rk.isR, decide_eq_true u0, decide_eq_true (show u < 1000 by omega), Bool.and_self]) R3 (F1.trans ((Fr.le (Le.put hp)).trans F3))
    · rw [decide_eq_false h3]
      walk_at "wx"
      refine taken_ok R1 hs (by omega) fun u S2 u0 u1 R3 F3 => ?_
      exact q (.slot u) S2 (by cases deep <;> simp only [Rk.isR, decide_eq_true u0, decide_eq_true u1, Bool.and_self]) R3 (F1.trans F3)

theorem lc_inv {Z : Sto → Prop} {i : Nat} {tt : WT} {te : WE} {p : Addr} {r : Rho} {Q : Sto → Prop} (I : Nat → List W → Sto → Prop) (N : Nat) (hZ : ∀ k acc S, I k acc S → Z S) : ∀ (xs : List W) (k : Nat) (acc : List W) (S : Sto), k + xs.length ≤ N →
    (∀ x ∈ xs, ∀ (k : Nat) (acc : List W) (S : Sto) (Q' : Sto → Prop), k < N → I k acc S → (∀ acc' S', I (k + 1) acc' S' → Q' S') → tt (r.set i (some x)) S fun b S1 => if b = true then te (r.set i (some x)) S1 fun w S2 => ∃ acc, S2 p = some (.lst acc) ∧ acc.length < sizeLine ∧ Q' (put S2 p (.lst (acc ++ [w]))) else Q' S1) →
    I k acc S → (∀ acc' S', I (k + xs.length) acc' S' → Q S') → lcW Z i tt te p xs r S Q
  | [], k, acc, S, hn, hs, h, q => ⟨hZ _ _ _ h, q acc S h⟩
  | x :: xs, k, acc, S, hn, hs, h, q => ⟨hZ _ _ _ h, hs x List.mem_cons_self k acc S _ (by rw [List.length_cons] at hn; omega) h fun acc' S' h' => lc_inv I N hZ xs (k + 1) acc' S' (by rw [List.length_cons] at hn; omega) (fun y hy => hs y (List.mem_cons_of_mem _ hy)) h' fun acc2 S2 h2 => q acc2 S2 (by rw [List.length_cons, Nat.add_comm xs.length 1, ← Nat.add_assoc]; exact h2)⟩
def sp_law_numbers : WSp := fun ws S Q => ∃ (row : Addr) (ns : List Int) (m : Nat), ws = [.ref row, .int m] ∧ m ≤ 1000 ∧ RowAt S row ns ∧ ∀ (l : List Int) S', l.length = m → (∀ i ∈ l, InR i) → RowAt S' row ns → Fr row S S' → Q (.tup (l.map .int)) S'
theorem small_at {v : Int} (h0 : 0 ≤ v) (h : v < 2) : ∃ m : Int, atI [W.int 4, .int 1000] v = some (.int m) ∧ 0 < m ∧ m ≤ 1000 := by
  obtain rfl | rfl : v = 0 ∨ v = 1 := by omega
  · exact ⟨4, rfl, by decide, by decide⟩
  · exact ⟨1000, rfl, by decide, by decide⟩
theorem r_law_numbers : ∀ ws S Q, Up Q → sp_law_numbers ws S Q → t_law_numbers sp_law_taken { nx := fun _ S' => Q .non S', rt := Q } (startW 3 ws) S := by
  rintro ws S Q up ⟨row, ns, m, rfl, hm, R, q⟩
  simp only [t_law_numbers]
  walk_at "wx"
  refine ⟨⟨by omega, by omega⟩, fun p hp => ?_⟩
  refine lc_inv (fun k acc S1 => ∃ l : List Int, acc = l.map .int ∧ l.length = k ∧ (∀ i ∈ l, InR i) ∧ S1 p = some (.lst acc) ∧ RowAt S1 row ns ∧ Fr row S S1) m (fun _ _ _ _ => trivial) _ 0 [] _ (by rw [List.length_map, List.length_range]; omega) (fun x hx k acc S1 Q' hk h q' => ?_) ⟨[], rfl, rfl, fun i hi => absurd hi (List.not_mem_nil), put_same, R.le (Le.put hp), Fr.le (Le.put hp)⟩ fun acc S1 h => ?_
  · obtain ⟨l, rfl, hl, hin, hp1, R1, F1⟩ := h
    walk_at "wx"
    intro p2 hp2
    have n2 : p ≠ p2 := ne_none hp1 hp2
    refine taken_ok (R1.le (Le.put hp2)) (by decide) (by decide) fun v S2 v0 v1 R2 F2 => ?_
    obtain ⟨mm, hmm, m0, m1⟩ := small_at v0 v1
    have hp3 := F2 p2 _ (Ne.symm (R1.ne hp2)) put_same
    simp only [ix_l, hp3, onL_lst, hmm]
    walk_at "wx"
    refine taken_ok R2 m0 (by omega) fun u S3 u0 u1 R3 F3 => ?_
    have nr : p ≠ row := fun e => by
      subst e
      obtain ⟨_, _, _, e2, _⟩ := R
      rw [hp] at e2; cases e2
    have hp4 := F3 p _ nr (F2 p _ nr (Le.put hp2 _ _ hp1))
    refine ⟨_, hp4, small_len (by rw [List.length_map]; omega), q' _ _ ⟨l ++ [u], by simp, by simp [hl], fun i hi => (List.mem_append.mp hi).elim (hin i) fun hi => by rw [List.mem_singleton.mp hi]; exact ⟨u0, by omega⟩, put_same, ?_, ?_⟩⟩
    · obtain ⟨a, b, c, e, h3⟩ := R3
      exact ⟨a, b, c, by rw [put_ne (Ne.symm nr)]; exact e, h3⟩
    · exact fun x o hx e => by
        rw [put_ne (ne_none e hp)]
        exact F3 x o hx (F2 x o hx (Le.put hp2 _ _ (F1 x o hx e)))
  · obtain ⟨l, rfl, hl, hin, hp1, R1, F1⟩ := h
    rw [so_l hp1]
    walk_at "wx"
    refine q l S1 ?_ hin R1 F1
    rw [hl, List.length_map, List.length_range]
    omega
end WL

namespace WL
open PySem L2
section
variable {S : Sto} {Q : WQ} {ws : List W} {a : Addr} {i : Int} {b : Bool} {s : Str}
theorem it_t : rIsiW [.tup ws, .ty "tuple"] S Q = Q (.bl true) S := rfl
theorem it_i : rIsiW [.int i, .ty "tuple"] S Q = Q (.bl false) S := rfl
theorem it_s : rIsiW [.str s, .ty "tuple"] S Q = Q (.bl false) S := rfl
theorem it_n : rIsiW [.non, .ty "tuple"] S Q = Q (.bl false) S := rfl
theorem it_b : rIsiW [.bl b, .ty "tuple"] S Q = Q (.bl false) S := rfl
theorem it_l (h : S a = some (.lst ws)) : rIsiW [.ref a, .ty "tuple"] S Q = Q (.bl false) S := by simp only [rIsiW, tyW, h]; rfl
theorem il_t : rIsiW [.tup ws, .ty "list"] S Q = Q (.bl false) S := rfl
theorem il_i : rIsiW [.int i, .ty "list"] S Q = Q (.bl false) S := rfl
theorem il_s : rIsiW [.str s, .ty "list"] S Q = Q (.bl false) S := rfl
theorem il_n : rIsiW [.non, .ty "list"] S Q = Q (.bl false) S := rfl
theorem il_b : rIsiW [.bl b, .ty "list"] S Q = Q (.bl false) S := rfl
theorem il_l (h : S a = some (.lst ws)) : rIsiW [.ref a, .ty "list"] S Q = Q (.bl true) S := by simp only [rIsiW, tyW, h]; rfl
theorem itl_t : rIsiW [.tup ws, .tup [.ty "tuple", .ty "list"]] S Q = Q (.bl true) S := rfl
theorem itl_l (h : S a = some (.lst ws)) : rIsiW [.ref a, .tup [.ty "tuple", .ty "list"]] S Q = Q (.bl true) S := by simp only [rIsiW, tyW, h]; rfl
theorem ib_i : rIsiW [.int i, .ty "bool"] S Q = Q (.bl false) S := rfl
theorem ib_s : rIsiW [.str s, .ty "bool"] S Q = Q (.bl false) S := rfl
theorem ib_b : rIsiW [.bl b, .ty "bool"] S Q = Q (.bl true) S := rfl
theorem is_i : rIsiW [.int i, .ty "str"] S Q = Q (.bl false) S := rfl
theorem is_s : rIsiW [.str s, .ty "str"] S Q = Q (.bl true) S := rfl
theorem ii_i : rIsiW [.int i, .ty "int"] S Q = Q (.bl true) S := rfl
end
end WL

namespace WL
open PySem L2
local macro_rules | `(tactic| walk_at "wx") => `(tactic| simp only [↓x_var0, ↓x_varS, ↓x_c, ↓x_op, ↓x_b, ↓x_chain, ↓x_and, ↓x_or, ↓x_not, ↓x_andV, ↓x_orV, ↓x_notV, ↓x_if, ↓x_orT, ↓x_tr, ↓x_neg, ↓x_nil, ↓x_cons, ↓x_tup, ↓x_lst, ↓x_call, ↓x_lm, ↓x_lm0, ↓x_seq, ↓x_next, ↓x_ifS, ↓x_ret, ↓x_retN, ↓x_drop, ↓x_asg, ↓x_gname, ↓x_gtup, ↓x_gcons, ↓x_gnil, ↓x_gsub, ↓x_set, ↓x_for, ↓x_forR1, ↓x_lc, ↓x_lcR, ↓x_fld, ↓x_setF, ↓x_meth, ↓x_make, ↓x_sl, ↓x_part, ↓x_noPart, ↓x_yes, onB_bl, onS_some, onL_lst, onQ_some, onI_ins, onD_dk, onR_ref, onT_tup, onBo_some, x_app, x_clr, x_ext, v_add, v_addT, v_addS, v_addL, v_sub, v_mul, v_rep, v_mod, v_div, v_pow, v_lt, v_le, v_gt, v_ge, v_isN, v_notN, n_non, n_bl, n_int, n_str, n_ref, n_tup, q_ss, q_ii, q_bb, q_nn, q_is, q_si, q_in, q_ni, q_sn, q_ns, d_ss, d_ii, d_bb, d_nn, d_in, d_ni, ix_t, ix_r, ix_l, in_t, notin_t, fl_s, fl_i, fl_n, so_t, so_r, so_lp, len_t, len_r, len_s, int_i, int_b, list_x, tuple_x, min_ii, max_ii, sl_t, sl_l, look_nil, look_cons, putW_nil, putW_cons, x_inKd, x_notinKd, x_getKd, x_dget, key_s, key_i, val_nil, val_cons, inr_eq, start1, line_lt, atI0, atI1, atI2, atI3, atI4, List.map_cons, List.map_nil, List.cons_append, List.nil_append, List.set_cons_zero, List.set_cons_succ, List.length_cons, List.length_nil, List.all_cons, List.all_nil, List.replicate_succ, List.replicate_zero, Nat.reduceAdd, Nat.reduceSub, Nat.zero_add, wd_inj, Nat.reduceLT, Nat.reduceEqDiff, decide_true, decide_false, Bool.false_eq_true, Bool.true_eq_false, Bool.not_true, Bool.not_false, Bool.or_false, Bool.false_or, Bool.or_true, Bool.true_or, Bool.and_self, Bool.and_true, Bool.true_and, ↓reduceIte, reduceCtorEq, line_le, Nat.reduceLeDiff, true_and, and_true, and_self, Option.isSome_some, Option.isSome_none, Int.reduceLT, Int.reduceLE, Int.reduceEq, Int.reduceNeg, put_same, ci0, ci1, ci2, ci3, ci4, ci5, ci6, W_PAIRS, startW, it_t, it_i, it_s, it_n, it_b, il_t, il_i, il_s, il_n, il_b, itl_t, ib_i, ib_s, ib_b, is_i, is_s, ii_i])
local macro_rules | `(tactic| walk_at "ws") => `(tactic| simp only [↓x_var0, ↓x_varS, ↓x_c, ↓x_op, ↓x_b, ↓x_chain, ↓x_and, ↓x_or, ↓x_not, ↓x_andV, ↓x_orV, ↓x_notV, ↓x_if, ↓x_orT, ↓x_tr, ↓x_neg, ↓x_nil, ↓x_cons, ↓x_tup, ↓x_lst, ↓x_call, ↓x_lm, ↓x_lm0, ↓x_seq, ↓x_next, ↓x_ifS, ↓x_ret, ↓x_retN, ↓x_drop, ↓x_asg, ↓x_gname, ↓x_gtup, ↓x_gcons, ↓x_gnil, ↓x_gsub, ↓x_set, ↓x_for, ↓x_forR1, ↓x_lc, ↓x_lcR, ↓x_fld, ↓x_setF, ↓x_meth, ↓x_make, ↓x_sl, ↓x_part, ↓x_noPart, ↓x_yes, onB_bl, onS_some, onL_lst, onQ_some, onI_ins, onD_dk, onR_ref, onT_tup, onBo_some, x_app, x_clr, x_ext, v_add, v_addT, v_addS, v_addL, v_sub, v_mul, v_rep, v_mod, v_div, v_pow, v_lt, v_le, v_gt, v_ge, v_isN, v_notN, n_non, n_bl, n_int, n_str, n_ref, n_tup, q_ss, q_ii, q_bb, q_nn, q_is, q_si, q_in, q_ni, q_sn, q_ns, d_ss, d_ii, d_bb, d_nn, d_in, d_ni, ix_t, ix_r, ix_l, in_t, notin_t, fl_s, fl_i, fl_n, so_t, so_r, so_lp, len_t, len_r, len_s, int_i, int_b, list_x, tuple_x, min_ii, max_ii, sl_t, sl_l, look_nil, look_cons, putW_nil, putW_cons, x_inKd, x_notinKd, x_getKd, x_dget, key_s, key_i, val_nil, val_cons, inr_eq, start1, line_lt, atI0, atI1, atI2, atI3, atI4, List.map_cons, List.map_nil, List.cons_append, List.nil_append, List.set_cons_zero, List.set_cons_succ, List.length_cons, List.length_nil, List.all_cons, List.all_nil, List.replicate_succ, List.replicate_zero, Nat.reduceAdd, Nat.reduceSub, Nat.zero_add, wd_inj, Nat.reduceLT, Nat.reduceEqDiff, decide_true, decide_false, Bool.false_eq_true, Bool.true_eq_false, Bool.not_true, Bool.not_false, Bool.or_false, Bool.false_or, Bool.or_true, Bool.true_or, Bool.and_self, Bool.and_true, Bool.true_and, ↓reduceIte, reduceCtorEq, line_le, Nat.reduceLeDiff, true_and, and_true, and_self, Option.isSome_some, Option.isSome_none, Int.reduceLT, Int.reduceLE, Int.reduceEq, Int.reduceNeg, put_same, ci0, ci1, ci2, ci3, ci4, ci5, ci6, W_PAIRS, startW, *, it_t, it_i, it_s, it_n, it_b, il_t, il_i, il_s, il_n, il_b, itl_t, ib_i, ib_s, ib_b, is_i, is_s, ii_i])

/-- plain data of a depth -/
inductive Plain : Nat → W → Prop
  | non {n : Nat} : Plain n .non
  | int {n : Nat} (i : Int) : Plain n (.int i)
  | str {n : Nat} (s : Str) : Plain n (.str s)
  | tup {n : Nat} {ws : List W} : ws.length ≤ 1000000 → (∀ w ∈ ws, Plain n w) → Plain (n + 1) (.tup ws)
def sp_law_alike (N : Nat) : WSp := fun ws S Q => ∃ n, n < N ∧ ((∃ w, ws = [w, w] ∧ Plain n w) ∨ (∃ (a b : Addr) (xs : List W) (m : Nat), ws = [.ref a, .ref b] ∧ S a = some (.lst xs) ∧ S b = some (.lst xs) ∧ xs.length ≤ 1000000 ∧ n = m + 1 ∧ ∀ x ∈ xs, Plain m x)) ∧ ∀ S', Le S S' → Q (.bl true) S'
theorem filter_range_nil {n : Nat} : (List.filter (fun _ => false) (List.range n)) = [] := by simp
theorem r_law_alike (N : Nat) : ∀ ws S Q, Up Q → sp_law_alike (N + 1) ws S Q → t_law_alike (sp_law_alike N) { nx := fun _ S' => Q .non S', rt := Q } (startW 3 ws) S := by
  rintro ws S Q up ⟨n, hn, h, q⟩
  have loop : ∀ (f d : W) (xs : List W) (m : Nat), n = m + 1 → xs.length ≤ 1000000 → (∀ x ∈ xs, Plain m x) → (∀ S', Le S S' → ∀ (i : Int) Q', rIxW f (.int i) S' Q' = onS (atI xs i) fun w => Q' w S') → (∀ S', Le S S' → ∀ (i : Int) Q', rIxW d (.int i) S' Q' = onS (atI xs i) fun w => Q' w S') → ∀ p, S p = none →
      lcW (fun _ => True) 2 (wNot (wB (wCall (sp_law_alike N) (wCons (wOp rIxW (wVar 0) (wVar 2)) (wCons (wOp rIxW (wVar 1) (wVar 2)) wNil))))) (wVar 2) p ((List.range (xs.length : Int).toNat).map fun i => W.int (i : Nat)) [some f, some d, none] (put S p (.lst [])) fun S2 => (∀ p2, S2 p2 = none → rEqW (.ref p) (.ref p2) (put S2 p2 (.lst [])) Q) := by
    intro f d xs m hm hx hp hf hd p fp
    refine lc_inv (fun k acc S1 => acc = [] ∧ S1 p = some (.lst []) ∧ Le S S1) xs.length (fun _ _ _ _ => trivial) _ 0 [] _ (by rw [List.length_map, List.length_range]; omega) (fun x hxr k acc S1 Q' hk h q' => ?_) ⟨rfl, put_same, Le.put fp⟩ fun acc S1 h => ?_
    · obtain ⟨rfl, hp1, l1⟩ := h
      obtain ⟨i, hi, rfl⟩ := List.mem_map.mp hxr
      rw [List.mem_range] at hi
      obtain ⟨w, hw⟩ := get_some (show i < xs.length by omega)
      have hw' : atI xs (i : Int) = some w := atI_nat hw
      have e1 := hf S1 l1
      have e2 := hd S1 l1
      have G : ∀ Q'' : WQ, (∀ S', Le S1 S' → Q'' (.bl true) S') → sp_law_alike N [w, w] S1 Q'' := fun Q'' q'' => ⟨m, by omega, .inl ⟨w, rfl, hp w (List.mem_of_getElem? hw)⟩, q''⟩
      have q2 := fun S' (l : Le S1 S') => q' [] S' ⟨rfl, l _ _ hp1, l1.trans l⟩
      clear q' hp hf hd q
      walk_at "ws"
      exact G _ fun S' l => by
        simp only [onB_bl, Bool.not_true, Bool.false_eq_true, if_false]
        exact q2 S' l
    · obtain ⟨rfl, hp1, l1⟩ := h
      intro p2 fp2
      refine eq_empty (ws := []) (by rw [put_ne (ne_none hp1 fp2)]; exact hp1) put_same (by rw [okWs]) ?_
      exact q _ (l1.trans (Le.put fp2))
  rcases h with ⟨w, rfl, hw⟩ | ⟨a, b, xs, m, rfl, ha, hb, hx, hm, hp⟩
  · cases hw with
    | non =>
      have q' := q S Le.refl
      simp only [t_law_alike]
      clear q loop
      walk_at "ws"
    | int i =>
      have q' := q S Le.refl
      simp only [t_law_alike]
      clear q loop
      walk_at "ws"
    | str s =>
      have q' := q S Le.refl
      simp only [t_law_alike]
      clear q loop
      walk_at "ws"
    | @tup m xs hl hp =>
      have L := loop (.tup xs) (.tup xs) xs m rfl hl hp (fun S' _ i Q' => ix_t) (fun S' _ i Q' => ix_t)
      simp only [t_law_alike]
      clear q loop
      walk_at "wx"
      refine ⟨⟨by omega, by omega⟩, fun p fp => ?_⟩
      exact L p fp
  · have L := loop (.ref a) (.ref b) xs m hm hx hp (fun S' l i Q' => by rw [ix_l, l _ _ ha]; rfl) (fun S' l i Q' => by rw [ix_l, l _ _ hb]; rfl)
    simp only [t_law_alike]
    clear q loop
    walk_at "wx"
    rw [it_l hb]
    walk_at "wx"
    rw [il_l hb]
    walk_at "wx"
    rw [it_l ha, it_l hb]
    walk_at "wx"
    rw [itl_l ha]
    walk_at "wx"
    rw [len_l ha, len_l hb]
    walk_at "wx"
    rw [len_l hb]
    refine ⟨⟨by omega, by omega⟩, fun p fp => ?_⟩
    exact L p fp
end WL

namespace WL
open PySem L2
local macro_rules | `(tactic| walk_at "wx") => `(tactic| simp only [↓x_var0, ↓x_varS, ↓x_c, ↓x_op, ↓x_b, ↓x_chain, ↓x_and, ↓x_or, ↓x_not, ↓x_andV, ↓x_orV, ↓x_notV, ↓x_if, ↓x_orT, ↓x_tr, ↓x_neg, ↓x_nil, ↓x_cons, ↓x_tup, ↓x_lst, ↓x_call, ↓x_lm, ↓x_lm0, ↓x_seq, ↓x_next, ↓x_ifS, ↓x_ret, ↓x_retN, ↓x_drop, ↓x_asg, ↓x_gname, ↓x_gtup, ↓x_gcons, ↓x_gnil, ↓x_gsub, ↓x_set, ↓x_for, ↓x_forR1, ↓x_lc, ↓x_lcR, ↓x_fld, ↓x_setF, ↓x_meth, ↓x_make, ↓x_sl, ↓x_part, ↓x_noPart, ↓x_yes, onB_bl, onS_some, onL_lst, onQ_some, onI_ins, onD_dk, onR_ref, onT_tup, onBo_some, x_app, x_clr, x_ext, v_add, v_addT, v_addS, v_addL, v_sub, v_mul, v_rep, v_mod, v_div, v_pow, v_lt, v_le, v_gt, v_ge, v_isN, v_notN, n_non, n_bl, n_int, n_str, n_ref, n_tup, q_ss, q_ii, q_bb, q_nn, q_is, q_si, q_in, q_ni, q_sn, q_ns, d_ss, d_ii, d_bb, d_nn, d_in, d_ni, ix_t, ix_r, ix_l, in_t, notin_t, fl_s, fl_i, fl_n, so_t, so_r, so_lp, len_t, len_r, len_s, int_i, int_b, list_x, tuple_x, min_ii, max_ii, sl_t, sl_l, look_nil, look_cons, putW_nil, putW_cons, x_inKd, x_notinKd, x_getKd, x_dget, key_s, key_i, val_nil, val_cons, inr_eq, start1, line_lt, atI0, atI1, atI2, atI3, atI4, List.map_cons, List.map_nil, List.cons_append, List.nil_append, List.set_cons_zero, List.set_cons_succ, List.length_cons, List.length_nil, List.all_cons, List.all_nil, List.replicate_succ, List.replicate_zero, Nat.reduceAdd, Nat.reduceSub, Nat.zero_add, wd_inj, Nat.reduceLT, Nat.reduceEqDiff, decide_true, decide_false, Bool.false_eq_true, Bool.true_eq_false, Bool.not_true, Bool.not_false, Bool.or_false, Bool.false_or, Bool.or_true, Bool.true_or, Bool.and_self, Bool.and_true, Bool.true_and, ↓reduceIte, reduceCtorEq, line_le, Nat.reduceLeDiff, true_and, and_true, and_self, Option.isSome_some, Option.isSome_none, Int.reduceLT, Int.reduceLE, Int.reduceEq, Int.reduceNeg, put_same, ci0, ci1, ci2, ci3, ci4, ci5, ci6, W_PAIRS, startW, it_t, it_i, it_s, it_n, it_b, il_t, il_i, il_s, il_n, il_b, itl_t, ib_i, ib_s, ib_b, is_i, is_s, ii_i])
local macro_rules | `(tactic| walk_at "ws") => `(tactic| simp only [↓x_var0, ↓x_varS, ↓x_c, ↓x_op, ↓x_b, ↓x_chain, ↓x_and, ↓x_or, ↓x_not, ↓x_andV, ↓x_orV, ↓x_notV, ↓x_if, ↓x_orT, ↓x_tr, ↓x_neg, ↓x_nil, ↓x_cons, ↓x_tup, ↓x_lst, ↓x_call, ↓x_lm, ↓x_lm0, ↓x_seq, ↓x_next, ↓x_ifS, ↓x_ret, ↓x_retN, ↓x_drop, ↓x_asg, ↓x_gname, ↓x_gtup, ↓x_gcons, ↓x_gnil, ↓x_gsub, ↓x_set, ↓x_for, ↓x_forR1, ↓x_lc, ↓x_lcR, ↓x_fld, ↓x_setF, ↓x_meth, ↓x_make, ↓x_sl, ↓x_part, ↓x_noPart, ↓x_yes, onB_bl, onS_some, onL_lst, onQ_some, onI_ins, onD_dk, onR_ref, onT_tup, onBo_some, x_app, x_clr, x_ext, v_add, v_addT, v_addS, v_addL, v_sub, v_mul, v_rep, v_mod, v_div, v_pow, v_lt, v_le, v_gt, v_ge, v_isN, v_notN, n_non, n_bl, n_int, n_str, n_ref, n_tup, q_ss, q_ii, q_bb, q_nn, q_is, q_si, q_in, q_ni, q_sn, q_ns, d_ss, d_ii, d_bb, d_nn, d_in, d_ni, ix_t, ix_r, ix_l, in_t, notin_t, fl_s, fl_i, fl_n, so_t, so_r, so_lp, len_t, len_r, len_s, int_i, int_b, list_x, tuple_x, min_ii, max_ii, sl_t, sl_l, look_nil, look_cons, putW_nil, putW_cons, x_inKd, x_notinKd, x_getKd, x_dget, key_s, key_i, val_nil, val_cons, inr_eq, start1, line_lt, atI0, atI1, atI2, atI3, atI4, List.map_cons, List.map_nil, List.cons_append, List.nil_append, List.set_cons_zero, List.set_cons_succ, List.length_cons, List.length_nil, List.all_cons, List.all_nil, List.replicate_succ, List.replicate_zero, Nat.reduceAdd, Nat.reduceSub, Nat.zero_add, wd_inj, Nat.reduceLT, Nat.reduceEqDiff, decide_true, decide_false, Bool.false_eq_true, Bool.true_eq_false, Bool.not_true, Bool.not_false, Bool.or_false, Bool.false_or, Bool.or_true, Bool.true_or, Bool.and_self, Bool.and_true, Bool.true_and, ↓reduceIte, reduceCtorEq, line_le, Nat.reduceLeDiff, true_and, and_true, and_self, Option.isSome_some, Option.isSome_none, Int.reduceLT, Int.reduceLE, Int.reduceEq, Int.reduceNeg, put_same, ci0, ci1, ci2, ci3, ci4, ci5, ci6, W_PAIRS, startW, *, it_t, it_i, it_s, it_n, it_b, il_t, il_i, il_s, il_n, il_b, itl_t, ib_i, ib_s, ib_b, is_i, is_s, ii_i])

def sp_law_reckoned (n : Nat) : WSp := fun ws S Q => ∃ (e : Rk) (a : Addr) (sl : List Int), ws = [e.W, .ref a] ∧ S a = some (slotsM sl) ∧ (∀ i ∈ sl, InR i) ∧ e.ok sl.length ∧ e.deep < n ∧ ∀ S', Le S S' → Q (optI (reck sl e)) S'
theorem val3 {x y z : W} : mergeW [] [(.inr w_plus, x), (.inr w_less, y), (.inr w_times, z)] = [(.inr w_plus, x), (.inr w_less, y), (.inr w_times, z)] := by
  simp [mergeW, putKW, wd_inj]
def t_law_pair : WS :=
  (wSeq (wIfS (wOr (wB (wOp rIsN (wVar 2) (wC .non))) (wOr (wB (wOp rIsN (wVar 3) (wC .non))) (wAnd (wB (wOp rEqW (wOp rIxW (wVar 0) (wC (.int 0))) (wC (.str w_part)))) (wB (wOp rEqW (wVar 3) (wC (.int 0)))))))
  (wRet (wC .non))
  wNext)
  (wSeq (wIfS (wB (wOp (rInW false) (wOp rIxW (wVar 0) (wC (.int 0))) (wTup (wCons (wC (.str w_below)) (wCons (wC (.str w_same)) wNil)))))
  (wRet (wCall rIntW (wCons (wOp rIxW (wLst (wCons (wOp rLt (wVar 2) (wVar 3)) (wCons (wOp rEqW (wVar 2) (wVar 3)) wNil))) (wCall rIntW (wCons (wOp rEqW (wOp rIxW (wVar 0) (wC (.int 0))) (wC (.str w_same))) wNil))) wNil)))
  wNext)
  (wSeq (wIfS (wB (wOp rEqW (wOp rIxW (wVar 0) (wC (.int 0))) (wC (.str w_part))))
  (wRet (wOp rDiv (wVar 2) (wVar 3)))
  wNext)
  (wRet (wOp rMod (wOp rDGet (wDisp (((wC (.str w_plus)), (wOp rAddW (wVar 2) (wVar 3))) :: (((wC (.str w_less)), (wOp rSubW (wOp rAddW (wC (.int 1000)) (wVar 2)) (wVar 3))) :: (((wC (.str w_times)), (wOp rMulW (wVar 2) (wVar 3))) :: [])))) (wOp rIxW (wVar 0) (wC (.int 0)))) (wC (.int 1000)))))))
theorem law_reck_eq (sp : WSp) : t_law_reckoned sp = (wSeq (wIfS (wB (wOp rEqW (wOp rIxW (wVar 0) (wC (.int 0))) (wC (.str w_num))))
  (wRet (wOp rIxW (wVar 0) (wC (.int 1))))
  wNext)
  (wSeq (wIfS (wB (wOp rEqW (wOp rIxW (wVar 0) (wC (.int 0))) (wC (.str w_slot))))
  (wRet (wOp rIxW (wVar 1) (wOp rIxW (wVar 0) (wC (.int 1)))))
  wNext)
  (wSeq (wAsg (wCall sp (wCons (wOp rIxW (wVar 0) (wC (.int 1))) (wCons (wVar 1) wNil))) (gNameW 2))
  (wSeq (wAsg (wCall sp (wCons (wOp rIxW (wVar 0) (wC (.int 2))) (wCons (wVar 1) wNil))) (gNameW 3)) t_law_pair)))) := rfl
theorem r_law_pair {S : Sto} {Q : WQ} {o : Op} {x y : W} {sl : W} {i j : Int} (hi : InR i) (hj : InR j) (q : ∀ S', Le S S' → Q (optI (pairedI o i j)) S') : t_law_pair { nx := fun _ S' => Q .non S', rt := Q } [some (.tup [.str o.str, x, y]), some sl, some (.int i), some (.int j)] S := by
  unfold InR at hi hj
  unfold t_law_pair
  have i1 : inW (.str w_below) [.str w_below, .str w_same] = true := by simp [inW, eqW]
  have i2 : inW (.str w_same) [.str w_below, .str w_same] = true := by simp [inW, eqW]
  have i3 : inW (.str w_plus) [.str w_below, .str w_same] = false := by simp [inW, eqW, wd_inj]
  have i4 : inW (.str w_less) [.str w_below, .str w_same] = false := by simp [inW, eqW, wd_inj]
  have i5 : inW (.str w_times) [.str w_below, .str w_same] = false := by simp [inW, eqW, wd_inj]
  have i6 : inW (.str w_part) [.str w_below, .str w_same] = false := by simp [inW, eqW, wd_inj]
  have cm : CMul i j := .inl ⟨by omega, by omega⟩
  have D : ∀ (ts : List (WE × WE)) (r : Rho) (S : Sto) (Q : WQ), wDisp ts r S Q = ∀ p, S p = none → wPairs ts r (put S p (.dk [])) fun ps S2 => match keysW ps with
    | some kvs => (S2 p = some (.dk []) ∧ kvs.length ≤ 15) ∧ Q (.ref p) (put S2 p (.dk (mergeW [] kvs)))
    | none => False := fun _ _ _ _ => rfl
  have D1 : ∀ (r : Rho) (S : Sto) (Q : List (W × W) → Sto → Prop), wPairs [] r S Q = Q [] S := fun _ _ _ => rfl
  have D2 : ∀ (tk tv : WE) (ts : List (WE × WE)) (r : Rho) (S : Sto) (Q : List (W × W) → Sto → Prop), wPairs ((tk, tv) :: ts) r S Q = tk r S fun x S1 => tv r S1 fun y S2 => wPairs ts r S2 fun ps S3 => Q ((x, y) :: ps) S3 := fun _ _ _ _ _ _ => rfl
  have dg : ∀ (kvs : List (Key × W)) (S : Sto) (p : Addr) (f : Str) (Q : WQ), rDGet (.ref p) (.str f) (put S p (.dk kvs)) Q = onS (valW kvs (.inr f)) fun w => Q w (put S p (.dk kvs)) := fun kvs S p f Q => by rw [x_dget rfl, put_same]; rfl
  cases o with
  | plus =>
    simp only [Op.str]
    simp only [pairedI, optI] at q
    clear hi hj
    walk_at "wx"
    simp only [i3]
    walk_at "wx"
    simp only [D, D1, D2]
    intro p hp
    walk_at "wx"
    simp only [keysW, keyW, val3, cm, true_and]
    walk_at "wx"
    rw [dg]
    walk_at "wx"
    exact q _ (Le.put2 (Le.put hp) hp)
  | less =>
    simp only [Op.str]
    simp only [pairedI, optI] at q
    clear hi hj
    walk_at "wx"
    simp only [i4]
    walk_at "wx"
    simp only [D, D1, D2]
    intro p hp
    walk_at "wx"
    simp only [keysW, keyW, val3, cm, true_and]
    walk_at "wx"
    rw [dg]
    walk_at "wx"
    rw [show (1000 + i - j) % 1000 = (i - j) % 1000 by omega]
    exact q _ (Le.put2 (Le.put hp) hp)
  | times =>
    simp only [Op.str]
    simp only [pairedI, optI] at q
    clear hi hj
    walk_at "wx"
    simp only [i5]
    walk_at "wx"
    simp only [D, D1, D2]
    intro p hp
    walk_at "wx"
    simp only [keysW, keyW, val3, cm, true_and]
    walk_at "wx"
    rw [dg]
    walk_at "wx"
    exact q _ (Le.put2 (Le.put hp) hp)
  | part =>
    simp only [Op.str]
    simp only [pairedI] at q
    by_cases h : j = 0
    · rw [if_pos h] at q
      have c1 := decide_eq_true h
      walk_at "wx"
      rw [c1]
      walk_at "wx"
      exact q _ Le.refl
    · rw [if_neg h] at q
      have c1 := decide_eq_false h
      walk_at "wx"
      rw [c1]
      walk_at "wx"
      simp only [i6]
      walk_at "wx"
      exact ⟨⟨by omega, by omega⟩, q _ Le.refl⟩
  | below =>
    simp only [Op.str]
    simp only [pairedI] at q
    walk_at "wx"
    simp only [i1]
    walk_at "wx"
    intro p hp
    have q' := q _ (Le.put (o := .lst [.bl (decide (i < j)), .bl (decide (i = j))]) hp)
    by_cases h : i < j
    · rw [if_pos h] at q'
      simp only [decide_eq_true h] at q' ⊢
      walk_at "wx"
      exact q'
    · rw [if_neg h] at q'
      simp only [decide_eq_false h] at q' ⊢
      walk_at "wx"
      exact q'
  | same =>
    simp only [Op.str]
    simp only [pairedI] at q
    walk_at "wx"
    simp only [i2]
    walk_at "wx"
    intro p hp
    have q' := q _ (Le.put (o := .lst [.bl (decide (i < j)), .bl (decide (i = j))]) hp)
    by_cases h : i = j
    · rw [if_pos h] at q'
      simp only [decide_eq_true h] at q' ⊢
      walk_at "wx"
      exact q'
    · rw [if_neg h] at q'
      simp only [decide_eq_false h] at q' ⊢
      walk_at "wx"
      exact q'

end WL
namespace WL
open PySem L2
local macro_rules | `(tactic| walk_at "wx") => `(tactic| simp only [↓x_var0, ↓x_varS, ↓x_c, ↓x_op, ↓x_b, ↓x_chain, ↓x_and, ↓x_or, ↓x_not, ↓x_andV, ↓x_orV, ↓x_notV, ↓x_if, ↓x_orT, ↓x_tr, ↓x_neg, ↓x_nil, ↓x_cons, ↓x_tup, ↓x_lst, ↓x_call, ↓x_lm, ↓x_lm0, ↓x_seq, ↓x_next, ↓x_ifS, ↓x_ret, ↓x_retN, ↓x_drop, ↓x_asg, ↓x_gname, ↓x_gtup, ↓x_gcons, ↓x_gnil, ↓x_gsub, ↓x_set, ↓x_for, ↓x_forR1, ↓x_lc, ↓x_lcR, ↓x_fld, ↓x_setF, ↓x_meth, ↓x_make, ↓x_sl, ↓x_part, ↓x_noPart, ↓x_yes, onB_bl, onS_some, onL_lst, onQ_some, onI_ins, onD_dk, onR_ref, onT_tup, onBo_some, x_app, x_clr, x_ext, v_add, v_addT, v_addS, v_addL, v_sub, v_mul, v_rep, v_mod, v_div, v_pow, v_lt, v_le, v_gt, v_ge, v_isN, v_notN, n_non, n_bl, n_int, n_str, n_ref, n_tup, q_ss, q_ii, q_bb, q_nn, q_is, q_si, q_in, q_ni, q_sn, q_ns, d_ss, d_ii, d_bb, d_nn, d_in, d_ni, ix_t, ix_r, ix_l, in_t, notin_t, fl_s, fl_i, fl_n, so_t, so_r, so_lp, len_t, len_r, len_s, int_i, int_b, list_x, tuple_x, min_ii, max_ii, sl_t, sl_l, look_nil, look_cons, putW_nil, putW_cons, x_inKd, x_notinKd, x_getKd, x_dget, key_s, key_i, val_nil, val_cons, inr_eq, start1, line_lt, atI0, atI1, atI2, atI3, atI4, List.map_cons, List.map_nil, List.cons_append, List.nil_append, List.set_cons_zero, List.set_cons_succ, List.length_cons, List.length_nil, List.all_cons, List.all_nil, List.replicate_succ, List.replicate_zero, Nat.reduceAdd, Nat.reduceSub, Nat.zero_add, wd_inj, Nat.reduceLT, Nat.reduceEqDiff, decide_true, decide_false, Bool.false_eq_true, Bool.true_eq_false, Bool.not_true, Bool.not_false, Bool.or_false, Bool.false_or, Bool.or_true, Bool.true_or, Bool.and_self, Bool.and_true, Bool.true_and, ↓reduceIte, reduceCtorEq, line_le, Nat.reduceLeDiff, true_and, and_true, and_self, Option.isSome_some, Option.isSome_none, Int.reduceLT, Int.reduceLE, Int.reduceEq, Int.reduceNeg, put_same, ci0, ci1, ci2, ci3, ci4, ci5, ci6, W_PAIRS, startW, it_t, it_i, it_s, it_n, it_b, il_t, il_i, il_s, il_n, il_b, itl_t, ib_i, ib_s, ib_b, is_i, is_s, ii_i])
local macro_rules | `(tactic| walk_at "ws") => `(tactic| simp only [↓x_var0, ↓x_varS, ↓x_c, ↓x_op, ↓x_b, ↓x_chain, ↓x_and, ↓x_or, ↓x_not, ↓x_andV, ↓x_orV, ↓x_notV, ↓x_if, ↓x_orT, ↓x_tr, ↓x_neg, ↓x_nil, ↓x_cons, ↓x_tup, ↓x_lst, ↓x_call, ↓x_lm, ↓x_lm0, ↓x_seq, ↓x_next, ↓x_ifS, ↓x_ret, ↓x_retN, ↓x_drop, ↓x_asg, ↓x_gname, ↓x_gtup, ↓x_gcons, ↓x_gnil, ↓x_gsub, ↓x_set, ↓x_for, ↓x_forR1, ↓x_lc, ↓x_lcR, ↓x_fld, ↓x_setF, ↓x_meth, ↓x_make, ↓x_sl, ↓x_part, ↓x_noPart, ↓x_yes, onB_bl, onS_some, onL_lst, onQ_some, onI_ins, onD_dk, onR_ref, onT_tup, onBo_some, x_app, x_clr, x_ext, v_add, v_addT, v_addS, v_addL, v_sub, v_mul, v_rep, v_mod, v_div, v_pow, v_lt, v_le, v_gt, v_ge, v_isN, v_notN, n_non, n_bl, n_int, n_str, n_ref, n_tup, q_ss, q_ii, q_bb, q_nn, q_is, q_si, q_in, q_ni, q_sn, q_ns, d_ss, d_ii, d_bb, d_nn, d_in, d_ni, ix_t, ix_r, ix_l, in_t, notin_t, fl_s, fl_i, fl_n, so_t, so_r, so_lp, len_t, len_r, len_s, int_i, int_b, list_x, tuple_x, min_ii, max_ii, sl_t, sl_l, look_nil, look_cons, putW_nil, putW_cons, x_inKd, x_notinKd, x_getKd, x_dget, key_s, key_i, val_nil, val_cons, inr_eq, start1, line_lt, atI0, atI1, atI2, atI3, atI4, List.map_cons, List.map_nil, List.cons_append, List.nil_append, List.set_cons_zero, List.set_cons_succ, List.length_cons, List.length_nil, List.all_cons, List.all_nil, List.replicate_succ, List.replicate_zero, Nat.reduceAdd, Nat.reduceSub, Nat.zero_add, wd_inj, Nat.reduceLT, Nat.reduceEqDiff, decide_true, decide_false, Bool.false_eq_true, Bool.true_eq_false, Bool.not_true, Bool.not_false, Bool.or_false, Bool.false_or, Bool.or_true, Bool.true_or, Bool.and_self, Bool.and_true, Bool.true_and, ↓reduceIte, reduceCtorEq, line_le, Nat.reduceLeDiff, true_and, and_true, and_self, Option.isSome_some, Option.isSome_none, Int.reduceLT, Int.reduceLE, Int.reduceEq, Int.reduceNeg, put_same, ci0, ci1, ci2, ci3, ci4, ci5, ci6, W_PAIRS, startW, *, it_t, it_i, it_s, it_n, it_b, il_t, il_i, il_s, il_n, il_b, itl_t, ib_i, ib_s, ib_b, is_i, is_s, ii_i])

theorem r_law_reckoned (n : Nat) : ∀ ws S Q, Up Q → sp_law_reckoned (n + 1) ws S Q → t_law_reckoned (sp_law_reckoned n) { nx := fun _ S' => Q .non S', rt := Q } (startW 4 ws) S := by
  rintro ws S Q up ⟨e, a, sl, rfl, hS, hs, ok, hd, q⟩
  cases e with
  | num k => simp only [t_law_reckoned, Rk.W]; walk_at "wx"; exact q _ Le.refl
  | slot k =>
    simp only [t_law_reckoned, Rk.W]
    walk_at "wx"
    obtain ⟨h0, h1⟩ := (show 0 ≤ k ∧ k < sl.length from ok)
    obtain ⟨v, hv⟩ := get_some (l := sl) (n := k.toNat) (by omega)
    simp only [hS, slotsM, onL_lst, atI_mapI (f := W.int) h0 hv, onS_some]
    simp only [reck, hv, optI] at q
    exact q _ Le.refl
  | op o x y =>
    have hd' : max x.deep y.deep + 1 < n + 1 := hd
    rw [law_reck_eq]
    simp only [Rk.W]
    walk_at "wx"
    simp only [op_num, op_slot]
    walk_at "wx"
    refine ⟨x, a, sl, rfl, hS, hs, ok.1, by omega, fun S1 l1 => ⟨y, a, sl, rfl, l1 _ _ hS, hs, ok.2, by omega, fun S2 l2 => ?_⟩⟩
    simp only [reck] at q
    cases hx : reck sl x with
    | none =>
      have q' := q _ (l1.trans l2)
      simp only [hx, optI] at q' ⊢
      unfold t_law_pair
      clear q
      walk_at "wx"
      exact q'
    | some i =>
      cases hy : reck sl y with
      | none =>
        have q' := q _ (l1.trans l2)
        simp only [hx, hy, optI] at q' ⊢
        unfold t_law_pair
        clear q
        walk_at "wx"
        exact q'
      | some j =>
        simp only [hx, hy] at q
        simp only [optI]
        exact r_law_pair (reck_in hs ok.1 hx) (reck_in hs ok.2 hy) fun S3 l3 => q S3 ((l1.trans l2).trans l3)
/-! ### steps without gifts -/
inductive Easy (slots : Int) : Step → Prop
  | set {k : Nat} {e : Rk} : (k : Int) < slots → e.isR slots 3 = true → Easy slots (.set (some (k : Int)) e)
  | say {e : Rk} : e.isR slots 3 = true → Easy slots (.say e)
  | fault {e : Rk} : e.isR slots 3 = true → Easy slots (.fault e)
  | ends {e : Rk} : e.isR slots 3 = true → Easy slots (.ends e)
def sp_law_steps : WSp := fun ws S Q => ∃ (row : Addr) (ns : List Int) (slots : Int), ws = [.ref row, .int slots] ∧ 0 < slots ∧ slots ≤ 1000 ∧ RowAt S row ns ∧ ∀ (b : List Step) S', b.length ≤ 40 → (∀ s ∈ b, Easy slots s) → RowAt S' row ns → Fr row S S' → Q (.tup (Steps.W b)) S'
theorem isR_mono {slots : Int} : ∀ {e : Rk} {d d' : Nat}, e.isR slots d = true → d ≤ d' → e.isR slots d' = true
  | .num k, d, d', h, _ => by cases d <;> cases d' <;> exact h
  | .slot k, d, d', h, _ => by cases d <;> cases d' <;> exact h
  | .op o a b, 0, d', h, _ => by simp [Rk.isR] at h
  | .op o a b, d + 1, 0, h, l => by omega
  | .op o a b, d + 1, d' + 1, h, l => by
    simp only [Rk.isR, Bool.and_eq_true] at h ⊢
    exact ⟨isR_mono h.1 (by omega), isR_mono h.2 (by omega)⟩
theorem Fr.ne {S S' : Sto} {row p : Addr} {o : MO} (f : Fr row S S') (h : S p = some o) (n : p ≠ row) : S' p = some o := f p o n h
theorem steps_loop {row : Addr} {ns : List Int} {slots : Int} (hs : 0 < slots) (hs2 : slots ≤ 1000) {S0 : Sto} {fo : Addr} (ff : S0 fo = none) (nr : fo ≠ row) {D : WD} (up : True) (q : ∀ (b : List Step) S' r, b.length ≤ 40 → (∀ s ∈ b, Easy slots s) → RowAt S' row ns → Fr row S0 S' → S' fo = some (.lst (Steps.W b)) → r[2]? = some (some (.ref fo)) → r.length = 6 → D.nx r S') : ∀ (xs : List W) (b : List Step) (S : Sto) (x3 x4 x5 : Option W),
    b.length + xs.length ≤ 40 → (∀ s ∈ b, Easy slots s) → RowAt S row ns → Fr row S0 S → S fo = some (.lst (Steps.W b)) →
    forW (fun _ => True) (gNameW 3) (l_law_steps_1 (sp_law_reckoning 4) sp_law_taken) xs D [some (.ref row), some (.int slots), some (.ref fo), x3, x4, x5] S
  | [], b, S, x3, x4, x5, hl, he, R, F, hf => by
    simp only [forW]
    exact ⟨trivial, q b S _ (by simpa using hl) he R F hf rfl rfl⟩
  | x :: xs, b, S, x3, x4, x5, hl, he, R, F, hf => by
    have app : ∀ (s : Step) (S1 : Sto), Easy slots s → RowAt S1 row ns → Fr row S0 S1 → S1 fo = some (.lst (Steps.W b)) → ∀ x3 x4 x5, forW (fun _ => True) (gNameW 3) (l_law_steps_1 (sp_law_reckoning 4) sp_law_taken) xs D [some (.ref row), some (.int slots), some (.ref fo), x3, x4, x5] (put S1 fo (.lst (Steps.W b ++ [s.W]))) := fun s S1 es R1 F1 h1 x3 x4 x5 => by
      refine steps_loop hs hs2 ff nr up q xs (b ++ [s]) _ _ _ _ (by rw [List.length_append]; simp only [List.length_cons, List.length_nil] at hl ⊢; omega) (fun t ht => (List.mem_append.mp ht).elim (he t) fun ht => by rw [List.mem_singleton.mp ht]; exact es) ?_ ?_ ?_
      · obtain ⟨i, c, d, e, h3⟩ := R1
        exact ⟨i, c, d, by rw [put_ne (Ne.symm nr)]; exact e, h3⟩
      · exact fun y o hy e => by rw [put_ne (ne_none e ff)]; exact F1 y o hy e
      · rw [put_same, Steps.W_map, Steps.W_map, List.map_append]; rfl
    have len : ∀ S1 : Sto, S1 fo = some (.lst (Steps.W b)) → (Steps.W b).length < sizeLine := fun S1 _ => small_len (by rw [Steps.W_map, List.length_map]; omega)
    simp only [forW, l_law_steps_1]
    refine ⟨trivial, ?_⟩
    walk_at "wx"
    refine taken_ok R (by decide) (by decide) fun v S1 v0 v1 R1 F1 => ?_
    refine ⟨⟨by decide, by decide⟩, ?_⟩
    refine ⟨row, ns, slots, (3 - v / 2).toNat, by rw [Int.toNat_of_nonneg (by omega)], hs, hs2, by omega, R1, fun e S2 ie R2 F2 => ?_⟩
    have ie3 := isR_mono (d' := 3) ie (by omega)
    refine taken_ok R2 (by decide) (by decide) fun u S3 u0 u1 R3 F3 => ?_
    have F4 := F.trans (F1.trans (F2.trans F3))
    have hf4 := (F1.trans (F2.trans F3)).ne hf nr
    by_cases h4 : u < 4
    · simp only [v_lt, decide_eq_true h4]
      walk_at "wx"
      refine ⟨is_lst hf4, ?_⟩
      refine taken_ok R3 hs (by omega) fun k S4 k0 k1 R4 F5 => ?_
      have hf5 := F5.ne hf4 nr
      simp only [x_app, hf5, onL_lst]
      refine ⟨len _ hf5, ?_⟩
      have A := app (.set (some ((k.toNat : Nat) : Int)) e) S4 (.set (by omega) ie3) R4 (F4.trans F5) hf5
      simp only [Step.W, optI, Int.toNat_of_nonneg k0] at A
      exact A _ _ _
    · simp only [v_lt, decide_eq_false h4]
      walk_at "wx"
      by_cases h8 : u < 8
      · simp only [decide_eq_true h8]
        walk_at "wx"
        refine ⟨is_lst hf4, ?_⟩
        simp only [hf4, onL_lst]
        refine ⟨len _ hf4, ?_⟩
        exact app (.say e) S3 (.say ie3) R3 F4 hf4 _ _ _
      · simp only [decide_eq_false h8]
        walk_at "wx"
        refine ⟨is_lst hf4, ?_⟩
        intro p hp
        refine taken_ok (R3.le (Le.put hp)) (by decide) (by decide) fun k S4 k0 k1 R4 F5 => ?_
        have hp5 := F5.ne (o := .lst [.str w_end, .str w_fault]) put_same (Ne.symm (R3.ne hp))
        have hf5 := F5.ne (Le.put hp _ _ hf4) nr
        have F6 := F4.trans ((Fr.le (Le.put hp)).trans F5)
        simp only [ix_l, hp5, onL_lst]
        obtain rfl | rfl : k = 0 ∨ k = 1 := by omega
        · walk_at "wx"
          simp only [hf5, onL_lst]
          refine ⟨len _ hf5, ?_⟩
          exact app (.ends e) S4 (.ends ie3) R4 F6 hf5 _ _ _
        · walk_at "wx"
          simp only [hf5, onL_lst]
          refine ⟨len _ hf5, ?_⟩
          exact app (.fault e) S4 (.fault ie3) R4 F6 hf5 _ _ _
theorem r_law_steps : ∀ ws S Q, Up Q → sp_law_steps ws S Q → t_law_steps (sp_law_reckoning 4) sp_law_taken { nx := fun _ S' => Q .non S', rt := Q } (startW 6 ws) S := by
  rintro ws S Q up ⟨row, ns, slots, rfl, hs, hs2, R, q⟩
  simp only [t_law_steps]
  walk_at "wx"
  intro p hp
  refine taken_ok (R.le (Le.put hp)) (by decide) (by decide) fun v S1 v0 v1 R1 F1 => ?_
  refine ⟨⟨by omega, by omega⟩, ?_⟩
  have nr := Ne.symm (R.ne hp)
  refine steps_loop hs hs2 hp nr trivial ?_ _ [] S1 none none none (by simp only [List.length_nil, List.length_map, List.length_range]; omega) (fun s hs => absurd hs (List.not_mem_nil)) R1 ((Fr.le (Le.put hp)).trans F1) (F1.ne put_same nr)
  intro b S2 r hb he R2 F2 hf hr hr6
  have v2 : ∀ S Q, wVar 2 r S Q = Q (.ref p) S := fun S Q => by
    unfold wVar; rw [hr]
  simp only [wRet, wCall, wCons, wNil, v2, tuple_x, so_l hf, onQ_some]
  exact q b S2 hb he R2 F2

end WL
namespace WL
open PySem L2
local macro_rules | `(tactic| walk_at "wx") => `(tactic| simp only [↓x_var0, ↓x_varS, ↓x_c, ↓x_op, ↓x_b, ↓x_chain, ↓x_and, ↓x_or, ↓x_not, ↓x_andV, ↓x_orV, ↓x_notV, ↓x_if, ↓x_orT, ↓x_tr, ↓x_neg, ↓x_nil, ↓x_cons, ↓x_tup, ↓x_lst, ↓x_call, ↓x_lm, ↓x_lm0, ↓x_seq, ↓x_next, ↓x_ifS, ↓x_ret, ↓x_retN, ↓x_drop, ↓x_asg, ↓x_gname, ↓x_gtup, ↓x_gcons, ↓x_gnil, ↓x_gsub, ↓x_set, ↓x_for, ↓x_forR1, ↓x_lc, ↓x_lcR, ↓x_fld, ↓x_setF, ↓x_meth, ↓x_make, ↓x_sl, ↓x_part, ↓x_noPart, ↓x_yes, onB_bl, onS_some, onL_lst, onQ_some, onI_ins, onD_dk, onR_ref, onT_tup, onBo_some, x_app, x_clr, x_ext, v_add, v_addT, v_addS, v_addL, v_sub, v_mul, v_rep, v_mod, v_div, v_pow, v_lt, v_le, v_gt, v_ge, v_isN, v_notN, n_non, n_bl, n_int, n_str, n_ref, n_tup, q_ss, q_ii, q_bb, q_nn, q_is, q_si, q_in, q_ni, q_sn, q_ns, d_ss, d_ii, d_bb, d_nn, d_in, d_ni, ix_t, ix_r, ix_l, in_t, notin_t, fl_s, fl_i, fl_n, so_t, so_r, so_lp, len_t, len_r, len_s, int_i, int_b, list_x, tuple_x, min_ii, max_ii, sl_t, sl_l, look_nil, look_cons, putW_nil, putW_cons, x_inKd, x_notinKd, x_getKd, x_dget, key_s, key_i, val_nil, val_cons, inr_eq, start1, line_lt, atI0, atI1, atI2, atI3, atI4, List.map_cons, List.map_nil, List.cons_append, List.nil_append, List.set_cons_zero, List.set_cons_succ, List.length_cons, List.length_nil, List.all_cons, List.all_nil, List.replicate_succ, List.replicate_zero, Nat.reduceAdd, Nat.reduceSub, Nat.zero_add, wd_inj, Nat.reduceLT, Nat.reduceEqDiff, decide_true, decide_false, Bool.false_eq_true, Bool.true_eq_false, Bool.not_true, Bool.not_false, Bool.or_false, Bool.false_or, Bool.or_true, Bool.true_or, Bool.and_self, Bool.and_true, Bool.true_and, ↓reduceIte, reduceCtorEq, line_le, Nat.reduceLeDiff, true_and, and_true, and_self, Option.isSome_some, Option.isSome_none, Int.reduceLT, Int.reduceLE, Int.reduceEq, Int.reduceNeg, put_same, ci0, ci1, ci2, ci3, ci4, ci5, ci6, W_PAIRS, startW, it_t, it_i, it_s, it_n, it_b, il_t, il_i, il_s, il_n, il_b, itl_t, ib_i, ib_s, ib_b, is_i, is_s, ii_i])
local macro_rules | `(tactic| walk_at "ws") => `(tactic| simp only [↓x_var0, ↓x_varS, ↓x_c, ↓x_op, ↓x_b, ↓x_chain, ↓x_and, ↓x_or, ↓x_not, ↓x_andV, ↓x_orV, ↓x_notV, ↓x_if, ↓x_orT, ↓x_tr, ↓x_neg, ↓x_nil, ↓x_cons, ↓x_tup, ↓x_lst, ↓x_call, ↓x_lm, ↓x_lm0, ↓x_seq, ↓x_next, ↓x_ifS, ↓x_ret, ↓x_retN, ↓x_drop, ↓x_asg, ↓x_gname, ↓x_gtup, ↓x_gcons, ↓x_gnil, ↓x_gsub, ↓x_set, ↓x_for, ↓x_forR1, ↓x_lc, ↓x_lcR, ↓x_fld, ↓x_setF, ↓x_meth, ↓x_make, ↓x_sl, ↓x_part, ↓x_noPart, ↓x_yes, onB_bl, onS_some, onL_lst, onQ_some, onI_ins, onD_dk, onR_ref, onT_tup, onBo_some, x_app, x_clr, x_ext, v_add, v_addT, v_addS, v_addL, v_sub, v_mul, v_rep, v_mod, v_div, v_pow, v_lt, v_le, v_gt, v_ge, v_isN, v_notN, n_non, n_bl, n_int, n_str, n_ref, n_tup, q_ss, q_ii, q_bb, q_nn, q_is, q_si, q_in, q_ni, q_sn, q_ns, d_ss, d_ii, d_bb, d_nn, d_in, d_ni, ix_t, ix_r, ix_l, in_t, notin_t, fl_s, fl_i, fl_n, so_t, so_r, so_lp, len_t, len_r, len_s, int_i, int_b, list_x, tuple_x, min_ii, max_ii, sl_t, sl_l, look_nil, look_cons, putW_nil, putW_cons, x_inKd, x_notinKd, x_getKd, x_dget, key_s, key_i, val_nil, val_cons, inr_eq, start1, line_lt, atI0, atI1, atI2, atI3, atI4, List.map_cons, List.map_nil, List.cons_append, List.nil_append, List.set_cons_zero, List.set_cons_succ, List.length_cons, List.length_nil, List.all_cons, List.all_nil, List.replicate_succ, List.replicate_zero, Nat.reduceAdd, Nat.reduceSub, Nat.zero_add, wd_inj, Nat.reduceLT, Nat.reduceEqDiff, decide_true, decide_false, Bool.false_eq_true, Bool.true_eq_false, Bool.not_true, Bool.not_false, Bool.or_false, Bool.false_or, Bool.or_true, Bool.true_or, Bool.and_self, Bool.and_true, Bool.true_and, ↓reduceIte, reduceCtorEq, line_le, Nat.reduceLeDiff, true_and, and_true, and_self, Option.isSome_some, Option.isSome_none, Int.reduceLT, Int.reduceLE, Int.reduceEq, Int.reduceNeg, put_same, ci0, ci1, ci2, ci3, ci4, ci5, ci6, W_PAIRS, startW, *, it_t, it_i, it_s, it_n, it_b, il_t, il_i, il_s, il_n, il_b, itl_t, ib_i, ib_s, ib_b, is_i, is_s, ii_i])

def goneW (sl words : List Int) : List Step → List Int × Way
  | [] => (words, .ends 0)
  | .set k e :: r => match reck sl e with
    | none => (words, .fault 0)
    | some v => goneW (sl.set (k.getD 0).toNat v) words r
  | .say e :: r => match reck sl e with
    | none => (words, .fault 0)
    | some v => goneW sl (words ++ [v]) r
  | .fault e :: _ => match reck sl e with
    | none => (words, .fault 0)
    | some v => (words, .fault v)
  | .ends e :: _ => match reck sl e with
    | none => (words, .fault 0)
    | some v => (words, .ends v)
  | _ :: r => goneW sl words r
def Kp (a : Addr) (S S' : Sto) : Prop := Fr a S S'
theorem easy_e {slots : Int} {e : Rk} (h : e.isR slots 3 = true) {m : Nat} (hm : (m : Int) = slots) : e.ok m ∧ e.deep < 4 := by
  have : ∀ (e : Rk) (d : Nat), e.isR slots d = true → e.ok m ∧ e.deep ≤ d := by
    intro e
    induction e with
    | num n => intro d h; cases d <;> (simp [Rk.isR] at h; exact ⟨⟨h.1, h.2⟩, Nat.zero_le _⟩)
    | slot k => intro d h; cases d <;> (simp [Rk.isR] at h; exact ⟨⟨h.1, by omega⟩, Nat.zero_le _⟩)
    | op o a b iha ihb =>
      intro d h
      cases d with
      | zero => simp [Rk.isR] at h
      | succ d =>
        simp only [Rk.isR, Bool.and_eq_true] at h
        obtain ⟨a1, a2⟩ := iha d h.1
        obtain ⟨b1, b2⟩ := ihb d h.2
        exact ⟨⟨a1, b1⟩, by simp only [Rk.deep]; omega⟩
  obtain ⟨h1, h2⟩ := this e 3 h
  exact ⟨h1, by omega⟩
def sp_law_gone : WSp := fun ws S Q => ∃ (b : List Step) (a : Addr) (sl : List Int), ws = [.tup (Steps.W b), .ref a] ∧ S a = some (slotsM sl) ∧ (∀ i ∈ sl, InR i) ∧ (∀ s ∈ b, Easy sl.length s) ∧ b.length ≤ 1000 ∧ ∀ S', Fr a S S' → Q (.tup [.tup ((goneW sl [] b).1.map .int), (goneW sl [] b).2.W]) S'
theorem gone_loop {a : Addr} {S0 : Sto} {wp : Addr} (fw : S0 wp = none) (na : wp ≠ a) {st : W} {Q : WQ} {Z : Sto → Prop} (hZ : ∀ S, Z S) : ∀ (b : List Step) (sl words : List Int) (S : Sto) (x3 x4 : Option W), S a = some (slotsM sl) → (∀ i ∈ sl, InR i) → (∀ s ∈ b, Easy sl.length s) → words.length + b.length ≤ 1000 → S wp = some (.lst (words.map .int)) → Fr a S0 S →
    (∀ S', Fr a S0 S' → Q (.tup [.tup ((goneW sl words b).1.map .int), (goneW sl words b).2.W]) S') →
    forW Z (gNameW 3) (l_law_gone_1 (sp_law_reckoned 4)) (Steps.W b) { nx := wRet (wTup (wCons (wCall rTupleW (wCons (wVar 2) wNil)) (wCons (wTup (wCons (wC (.str w_end)) (wCons (wC (.int 0)) wNil))) wNil))) { nx := fun _ S' => Q .non S', rt := Q }, rt := Q } [some st, some (.ref a), some (.ref wp), x3, x4] S
  | [], sl, words, S, x3, x4, hS, hi, he, hl, hw, F, q => by
    simp only [Steps.W, forW]
    refine ⟨hZ S, ?_⟩
    have sw := so_l hw
    walk_at "wx"
    rw [sw]
    walk_at "wx"
    exact q S F
  | s :: b, sl, words, S, x3, x4, hS, hi, he, hl, hw, F, q => by
    have go := fun sl' words' S' x3 x4 h1 h2 h3 h4 h5 h6 h7 => gone_loop fw na (st := st) (Q := Q) hZ b sl' words' S' x3 x4 h1 h2 h3 h4 h5 h6 h7
    have R : ∀ (e : Rk), e.isR sl.length 3 = true → ∀ Q' : WQ, (∀ S', Le S S' → Q' (optI (reck sl e)) S') → sp_law_reckoned 4 [e.W, .ref a] S Q' := fun e he Q' q' => ⟨e, a, sl, rfl, hS, hi, (easy_e he rfl).1, (easy_e he rfl).2, q'⟩
    have m2 : ∀ x y : W, atI [x, y] (-1) = some y := fun _ _ => rfl
    have m3 : ∀ x y z : W, atI [x, y, z] (-1) = some z := fun _ _ _ => rfl
    have he' : ∀ t ∈ b, Easy sl.length t := fun t ht => he t (List.mem_cons_of_mem _ ht)
    have hl' : words.length + 1 + b.length ≤ 1000 := by rw [List.length_cons] at hl; omega
    have i1 : inW (.str w_end) [.str w_end, .str w_fault] = true := by simp [inW, eqW]
    have i2 : inW (.str w_fault) [.str w_end, .str w_fault] = true := by simp [inW, eqW]
    have i3 : inW (.str w_say) [.str w_end, .str w_fault] = false := by simp [inW, eqW, wd_inj]
    have i4 : inW (.str w_set) [.str w_end, .str w_fault] = false := by simp [inW, eqW, wd_inj]
    simp only [Steps.W, forW, l_law_gone_1]
    refine ⟨hZ S, ?_⟩
    cases he s List.mem_cons_self with
    | @set k e hk hr =>
      simp only [Step.W, optI]
      walk_at "wx"
      simp only [m3, onS_some]
      refine R e hr _ fun S1 l1 => ?_
      have F1 := F.trans (Fr.le l1)
      simp only [goneW] at q
      cases h : reck sl e with
      | none =>
        simp only [h, optI] at q ⊢
        walk_at "wx"
        rw [so_l (l1 _ _ hw)]
        walk_at "wx"
        exact q S1 F1
      | some v =>
        simp only [h, optI] at q ⊢
        walk_at "wx"
        simp only [i4]
        walk_at "wx"
        have c1 := ix_sl (show k < sl.length by omega) (l := sl)
        have c2 : S1 a = some (.lst (sl.map .int)) := l1 _ _ hS
        simp only [x_set, c2, onL_lst, c1]
        have e3 : List.map W.int (sl.set k v) = (List.map W.int sl).set k (.int v) := List.map_set
        rw [← e3]
        exact go (sl.set k v) words _ _ _ put_same (mem_set hi (reck_in hi (easy_e hr rfl).1 h)) (by simpa using he') (by omega) (by rw [put_ne na]; exact l1 _ _ hw) (F1.trans Fr.put) (by simpa using q)
    | @say e hr =>
      simp only [Step.W]
      walk_at "wx"
      simp only [m2, onS_some]
      refine R e hr _ fun S1 l1 => ?_
      have F1 := F.trans (Fr.le l1)
      simp only [goneW] at q
      cases h : reck sl e with
      | none =>
        simp only [h, optI] at q ⊢
        walk_at "wx"
        rw [so_l (l1 _ _ hw)]
        walk_at "wx"
        exact q S1 F1
      | some v =>
        simp only [h, optI] at q ⊢
        walk_at "wx"
        simp only [i3]
        walk_at "wx"
        have hw1 := l1 _ _ hw
        refine ⟨is_lst hw1, ?_⟩
        simp only [hw1, onL_lst]
        refine ⟨small_len (by rw [List.length_map]; omega), ?_⟩
        refine go sl (words ++ [v]) _ _ _ (by rw [put_ne (Ne.symm na)]; exact l1 _ _ hS) hi he' (by rw [List.length_append]; simp only [List.length_cons, List.length_nil]; omega) (by rw [put_same, List.map_append]; rfl) (fun x o hx e => by rw [put_ne (ne_none e fw)]; exact F1 x o hx e) q
    | @fault e hr =>
      simp only [Step.W]
      walk_at "wx"
      simp only [m2, onS_some]
      refine R e hr _ fun S1 l1 => ?_
      have F1 := F.trans (Fr.le l1)
      simp only [goneW] at q
      cases h : reck sl e with
      | none =>
        simp only [h, optI] at q ⊢
        walk_at "wx"
        rw [so_l (l1 _ _ hw)]
        walk_at "wx"
        exact q S1 F1
      | some v =>
        simp only [h, optI] at q ⊢
        walk_at "wx"
        simp only [i2]
        walk_at "wx"
        rw [so_l (l1 _ _ hw)]
        walk_at "wx"
        exact q S1 F1
    | @ends e hr =>
      simp only [Step.W]
      walk_at "wx"
      simp only [m2, onS_some]
      refine R e hr _ fun S1 l1 => ?_
      have F1 := F.trans (Fr.le l1)
      simp only [goneW] at q
      cases h : reck sl e with
      | none =>
        simp only [h, optI] at q ⊢
        walk_at "wx"
        rw [so_l (l1 _ _ hw)]
        walk_at "wx"
        exact q S1 F1
      | some v =>
        simp only [h, optI] at q ⊢
        walk_at "wx"
        simp only [i1]
        walk_at "wx"
        rw [so_l (l1 _ _ hw)]
        walk_at "wx"
        exact q S1 F1
theorem r_law_gone : ∀ ws S Q, Up Q → sp_law_gone ws S Q → t_law_gone (sp_law_reckoned 4) { nx := fun _ S' => Q .non S', rt := Q } (startW 5 ws) S := by
  rintro ws S Q up ⟨b, a, sl, rfl, hS, hi, he, hl, q⟩
  simp only [t_law_gone]
  walk_at "wx"
  intro p hp
  have nr : p ≠ a := Ne.symm (ne_none hS hp)
  exact gone_loop hp nr (fun _ => trivial) b sl [] _ none none (by rw [put_ne (Ne.symm nr)]; exact hS) hi he (by simpa using hl) put_same (Fr.le (Le.put hp)) q

end WL
namespace WL
open PySem L2
local macro_rules | `(tactic| walk_at "wx") => `(tactic| simp only [↓x_var0, ↓x_varS, ↓x_c, ↓x_op, ↓x_b, ↓x_chain, ↓x_and, ↓x_or, ↓x_not, ↓x_andV, ↓x_orV, ↓x_notV, ↓x_if, ↓x_orT, ↓x_tr, ↓x_neg, ↓x_nil, ↓x_cons, ↓x_tup, ↓x_lst, ↓x_call, ↓x_lm, ↓x_lm0, ↓x_seq, ↓x_next, ↓x_ifS, ↓x_ret, ↓x_retN, ↓x_drop, ↓x_asg, ↓x_gname, ↓x_gtup, ↓x_gcons, ↓x_gnil, ↓x_gsub, ↓x_set, ↓x_for, ↓x_forR1, ↓x_lc, ↓x_lcR, ↓x_fld, ↓x_setF, ↓x_meth, ↓x_make, ↓x_sl, ↓x_part, ↓x_noPart, ↓x_yes, onB_bl, onS_some, onL_lst, onQ_some, onI_ins, onD_dk, onR_ref, onT_tup, onBo_some, x_app, x_clr, x_ext, v_add, v_addT, v_addS, v_addL, v_sub, v_mul, v_rep, v_mod, v_div, v_pow, v_lt, v_le, v_gt, v_ge, v_isN, v_notN, n_non, n_bl, n_int, n_str, n_ref, n_tup, q_ss, q_ii, q_bb, q_nn, q_is, q_si, q_in, q_ni, q_sn, q_ns, d_ss, d_ii, d_bb, d_nn, d_in, d_ni, ix_t, ix_r, ix_l, in_t, notin_t, fl_s, fl_i, fl_n, so_t, so_r, so_lp, len_t, len_r, len_s, int_i, int_b, list_x, tuple_x, min_ii, max_ii, sl_t, sl_l, look_nil, look_cons, putW_nil, putW_cons, x_inKd, x_notinKd, x_getKd, x_dget, key_s, key_i, val_nil, val_cons, inr_eq, start1, line_lt, atI0, atI1, atI2, atI3, atI4, List.map_cons, List.map_nil, List.cons_append, List.nil_append, List.set_cons_zero, List.set_cons_succ, List.length_cons, List.length_nil, List.all_cons, List.all_nil, List.replicate_succ, List.replicate_zero, Nat.reduceAdd, Nat.reduceSub, Nat.zero_add, wd_inj, Nat.reduceLT, Nat.reduceEqDiff, decide_true, decide_false, Bool.false_eq_true, Bool.true_eq_false, Bool.not_true, Bool.not_false, Bool.or_false, Bool.false_or, Bool.or_true, Bool.true_or, Bool.and_self, Bool.and_true, Bool.true_and, ↓reduceIte, reduceCtorEq, line_le, Nat.reduceLeDiff, true_and, and_true, and_self, Option.isSome_some, Option.isSome_none, Int.reduceLT, Int.reduceLE, Int.reduceEq, Int.reduceNeg, put_same, ci0, ci1, ci2, ci3, ci4, ci5, ci6, W_PAIRS, startW, it_t, it_i, it_s, it_n, it_b, il_t, il_i, il_s, il_n, il_b, itl_t, ib_i, ib_s, ib_b, is_i, is_s, ii_i])
local macro_rules | `(tactic| walk_at "ws") => `(tactic| simp only [↓x_var0, ↓x_varS, ↓x_c, ↓x_op, ↓x_b, ↓x_chain, ↓x_and, ↓x_or, ↓x_not, ↓x_andV, ↓x_orV, ↓x_notV, ↓x_if, ↓x_orT, ↓x_tr, ↓x_neg, ↓x_nil, ↓x_cons, ↓x_tup, ↓x_lst, ↓x_call, ↓x_lm, ↓x_lm0, ↓x_seq, ↓x_next, ↓x_ifS, ↓x_ret, ↓x_retN, ↓x_drop, ↓x_asg, ↓x_gname, ↓x_gtup, ↓x_gcons, ↓x_gnil, ↓x_gsub, ↓x_set, ↓x_for, ↓x_forR1, ↓x_lc, ↓x_lcR, ↓x_fld, ↓x_setF, ↓x_meth, ↓x_make, ↓x_sl, ↓x_part, ↓x_noPart, ↓x_yes, onB_bl, onS_some, onL_lst, onQ_some, onI_ins, onD_dk, onR_ref, onT_tup, onBo_some, x_app, x_clr, x_ext, v_add, v_addT, v_addS, v_addL, v_sub, v_mul, v_rep, v_mod, v_div, v_pow, v_lt, v_le, v_gt, v_ge, v_isN, v_notN, n_non, n_bl, n_int, n_str, n_ref, n_tup, q_ss, q_ii, q_bb, q_nn, q_is, q_si, q_in, q_ni, q_sn, q_ns, d_ss, d_ii, d_bb, d_nn, d_in, d_ni, ix_t, ix_r, ix_l, in_t, notin_t, fl_s, fl_i, fl_n, so_t, so_r, so_lp, len_t, len_r, len_s, int_i, int_b, list_x, tuple_x, min_ii, max_ii, sl_t, sl_l, look_nil, look_cons, putW_nil, putW_cons, x_inKd, x_notinKd, x_getKd, x_dget, key_s, key_i, val_nil, val_cons, inr_eq, start1, line_lt, atI0, atI1, atI2, atI3, atI4, List.map_cons, List.map_nil, List.cons_append, List.nil_append, List.set_cons_zero, List.set_cons_succ, List.length_cons, List.length_nil, List.all_cons, List.all_nil, List.replicate_succ, List.replicate_zero, Nat.reduceAdd, Nat.reduceSub, Nat.zero_add, wd_inj, Nat.reduceLT, Nat.reduceEqDiff, decide_true, decide_false, Bool.false_eq_true, Bool.true_eq_false, Bool.not_true, Bool.not_false, Bool.or_false, Bool.false_or, Bool.or_true, Bool.true_or, Bool.and_self, Bool.and_true, Bool.true_and, ↓reduceIte, reduceCtorEq, line_le, Nat.reduceLeDiff, true_and, and_true, and_self, Option.isSome_some, Option.isSome_none, Int.reduceLT, Int.reduceLE, Int.reduceEq, Int.reduceNeg, put_same, ci0, ci1, ci2, ci3, ci4, ci5, ci6, W_PAIRS, startW, *, it_t, it_i, it_s, it_n, it_b, il_t, il_i, il_s, il_n, il_b, itl_t, ib_i, ib_s, ib_b, is_i, is_s, ii_i])

def easyC : Step → C
  | .set k e => .set (k.getD 0).toNat e
  | .say e => .say e
  | .fault e => .fault e
  | .ends e => .ends e
  | _ => .leave
theorem easy_clo {slots : Int} {p : List Work} : ∀ {b : List Step}, (∀ s ∈ b, Easy slots s) → CloB p b (b.map easyC)
  | [], _ => .nil
  | s :: b, h => by
    refine .cons ?_ (easy_clo fun t ht => h t (List.mem_cons_of_mem _ ht))
    cases h s List.mem_cons_self with
    | set _ _ => exact .set _ _
    | say _ => exact .say _
    | fault _ => exact .fault _
    | ends _ => exact .ends _
theorem easy_ok {m : Nat} : ∀ {b : List Step}, (∀ s ∈ b, Easy (m : Int) s) → Cs.ok m (b.map easyC) ∧ Cs.dep (b.map easyC) = 0 ∧ Cs.cost (b.map easyC) ≤ b.length
  | [], _ => ⟨trivial, rfl, Nat.le_refl _⟩
  | s :: b, h => by
    obtain ⟨h1, h2, h3⟩ := easy_ok (b := b) fun t ht => h t (List.mem_cons_of_mem _ ht)
    simp only [List.map_cons, Cs.ok, Cs.dep, Cs.cost, List.length_cons, h2]
    cases h s List.mem_cons_self with
    | @set k e hk he => exact ⟨⟨⟨by simpa using hk, easy_e he rfl⟩, h1⟩, by simp [easyC, C.dep], by simp [easyC, C.cost]; omega⟩
    | say he => exact ⟨⟨easy_e he rfl, h1⟩, by simp [easyC, C.dep], by simp [easyC, C.cost]; omega⟩
    | fault he => exact ⟨⟨easy_e he rfl, h1⟩, by simp [easyC, C.dep], by simp [easyC, C.cost]; omega⟩
    | ends he => exact ⟨⟨easy_e he rfl, h1⟩, by simp [easyC, C.dep], by simp [easyC, C.cost]; omega⟩
theorem easy_run {slots : Int} : ∀ {b : List Step} {sl : List Int} {T : Tk}, (∀ s ∈ b, Easy slots s) → ∃ sl' w, Cs.run (b.map easyC) (sl, T) = (w, (sl', ⟨T.deeds, T.told, (goneW sl T.said b).1⟩)) ∧ w.getD (.ends 0) = (goneW sl T.said b).2
  | [], sl, T, _ => ⟨sl, none, rfl, rfl⟩
  | s :: b, sl, T, h => by
    have hb : ∀ t ∈ b, Easy slots t := fun t ht => h t (List.mem_cons_of_mem _ ht)
    simp only [List.map_cons, Cs.run]
    cases h s List.mem_cons_self with
    | @set k e hk he =>
      simp only [easyC, C.run, goneW]
      cases q : reck sl e with
      | none => exact ⟨_, _, rfl, rfl⟩
      | some v => exact easy_run (T := T) hb
    | @say e he =>
      simp only [easyC, C.run, goneW]
      cases q : reck sl e with
      | none => exact ⟨_, _, rfl, rfl⟩
      | some v => exact easy_run (T := T.say v) hb
    | @fault e he =>
      simp only [easyC, C.run, goneW]
      cases q : reck sl e with
      | none => exact ⟨_, _, rfl, rfl⟩
      | some v => exact ⟨_, _, rfl, rfl⟩
    | @ends e he =>
      simp only [easyC, C.run, goneW]
      cases q : reck sl e with
      | none => exact ⟨_, _, rfl, rfl⟩
      | some v => exact ⟨_, _, rfl, rfl⟩
theorem gone_way {slots : Int} : ∀ {b : List Step} {sl words : List Int}, (∀ s ∈ b, Easy slots s) → ((∃ v, (goneW sl words b).2 = .fault v) ∨ ∃ v, (goneW sl words b).2 = .ends v) ∧ (goneW sl words b).1.length ≤ words.length + b.length
  | [], sl, words, _ => ⟨.inr ⟨0, rfl⟩, Nat.le_refl _⟩
  | s :: b, sl, words, h => by
    have hb : ∀ t ∈ b, Easy slots t := fun t ht => h t (List.mem_cons_of_mem _ ht)
    rw [List.length_cons]
    cases h s List.mem_cons_self with
    | @set k e hk he =>
      simp only [goneW]
      cases q : reck sl e with
      | none => exact ⟨.inl ⟨0, rfl⟩, by simp only; omega⟩
      | some v =>
        have z := gone_way (sl := sl.set k v) (words := words) hb
        exact ⟨z.1, Nat.le_trans z.2 (by omega)⟩
    | @say e he =>
      simp only [goneW]
      cases q : reck sl e with
      | none => exact ⟨.inl ⟨0, rfl⟩, by simp only; omega⟩
      | some v =>
        have z := gone_way (sl := sl) (words := words ++ [v]) hb
        exact ⟨z.1, Nat.le_trans z.2 (by rw [List.length_append]; simp only [List.length_cons, List.length_nil]; omega)⟩
    | @fault e he =>
      simp only [goneW]
      cases q : reck sl e with
      | none => exact ⟨.inl ⟨0, rfl⟩, by simp only; omega⟩
      | some v => exact ⟨.inl ⟨v, rfl⟩, by simp only; omega⟩
    | @ends e he =>
      simp only [goneW]
      cases q : reck sl e with
      | none => exact ⟨.inl ⟨0, rfl⟩, by simp only; omega⟩
      | some v => exact ⟨.inr ⟨v, rfl⟩, by simp only; omega⟩
theorem easy_played {slots : Int} {b : List Step} {ns : List Int} {ex : Nat} {i : Int} {r : List Deed} (h : ∀ s ∈ b, Easy slots s) :
    playedM (b.map easyC) ns ex (.ask i :: r) = ((goneW (ns ++ List.replicate ex 0) [] b).1, (goneW (ns ++ List.replicate ex 0) [] b).2.out) :: r.map untouched := by
  obtain ⟨sl', w, e, hw⟩ := easy_run (sl := ns ++ List.replicate ex 0) (T := ⟨.ask i :: r, [], []⟩) h
  unfold playedM
  simp only
  rw [e]
  simp only
  rw [hw]
  obtain ⟨v, hv⟩ | ⟨v, hv⟩ := (gone_way (sl := ns ++ List.replicate ex 0) (words := []) h).1
  · rw [hv]; rfl
  · rw [hv]; rfl
theorem easy_all {slots : Int} : ∀ {b : List Step}, (∀ s ∈ b, Easy slots s) → Steps.all b = b ∧ Steps.dep b = 0 ∧ Steps.fit b ∧ ∀ p : List Work, slotsOf p 0 = slots → Steps.isB p 0 false 0 b = true
  | [], _ => ⟨by simp [Steps.all], by simp [Steps.dep], trivial, fun p _ => by simp [Steps.isB]⟩
  | s :: b, h => by
    obtain ⟨h1, h2, h3, h4⟩ := easy_all (b := b) fun t ht => h t (List.mem_cons_of_mem _ ht)
    simp only [Steps.all, Steps.dep, Steps.fit, Steps.isB, h1, h2]
    cases h s List.mem_cons_self with
    | @set k e hk he => exact ⟨by simp [Step.all], by simp [Step.dep], ⟨trivial, h3⟩, fun p hp => by rw [h4 p hp]; simp [Step.isS, areParts, isK, hp, he, hk]⟩
    | say he => exact ⟨by simp [Step.all], by simp [Step.dep], ⟨trivial, h3⟩, fun p hp => by rw [h4 p hp]; simp [Step.isS, areParts, hp, he]⟩
    | fault he => exact ⟨by simp [Step.all], by simp [Step.dep], ⟨trivial, h3⟩, fun p hp => by rw [h4 p hp]; simp [Step.isS, areParts, hp, he]⟩
    | ends he => exact ⟨by simp [Step.all], by simp [Step.dep], ⟨trivial, h3⟩, fun p hp => by rw [h4 p hp]; simp [Step.isS, areParts, hp, he]⟩
theorem easy_playable {m k : Nat} {b : List Step} {ns : List Int} {ds : List Deed} (h : ∀ s ∈ b, Easy (m : Int) s) (hb : b.length ≤ 40) (hm : 1 ≤ m) (hm4 : m ≤ 4) (hk : k ≤ 2) (hkm : k ≤ m) (hn : ns.length = k) (hin : ∀ i ∈ ns, InR i) (hd : ∀ d ∈ ds, d.ok) (hdl : ds.length ≤ 1000) :
    Playable [⟨(k : Int), (m : Int), b⟩] 0 ns ds (b.map easyC) (m - k) 1 1 := by
  obtain ⟨a1, a2, a3, a4⟩ := easy_all h
  obtain ⟨o1, o2, o3⟩ := easy_ok h
  refine ⟨⟨by simp, by simp, fun number w hw => ?_⟩, ⟨_, rfl, by simp only; omega, by simp only; omega, by simp only; omega, easy_clo h⟩, by omega, by rw [show ns.length + (m - k) = m by omega]; exact o1, by omega, hin, hd, by omega, hdl, by omega⟩
  have e0 : number = 0 := by
    have := (List.getElem?_eq_some_iff.mp hw).1
    simp at this; exact this
  subst e0
  have ew : w = ⟨(k : Int), (m : Int), b⟩ := by simpa using hw.symm
  subst ew
  refine ⟨?_, ⟨by simp only; omega, a3, by simp only [a1]; omega⟩⟩
  unfold Work.ok
  simp only [a1, a4 _ (show slotsOf [⟨(k : Int), (m : Int), b⟩] 0 = (m : Int) from rfl)]
  simp
  omega

end WL
namespace WL
open PySem L2
local macro_rules | `(tactic| walk_at "wx") => `(tactic| simp only [↓x_var0, ↓x_varS, ↓x_c, ↓x_op, ↓x_b, ↓x_chain, ↓x_and, ↓x_or, ↓x_not, ↓x_andV, ↓x_orV, ↓x_notV, ↓x_if, ↓x_orT, ↓x_tr, ↓x_neg, ↓x_nil, ↓x_cons, ↓x_tup, ↓x_lst, ↓x_call, ↓x_lm, ↓x_lm0, ↓x_seq, ↓x_next, ↓x_ifS, ↓x_ret, ↓x_retN, ↓x_drop, ↓x_asg, ↓x_gname, ↓x_gtup, ↓x_gcons, ↓x_gnil, ↓x_gsub, ↓x_set, ↓x_for, ↓x_forR1, ↓x_lc, ↓x_lcR, ↓x_fld, ↓x_setF, ↓x_meth, ↓x_make, ↓x_sl, ↓x_part, ↓x_noPart, ↓x_yes, onB_bl, onS_some, onL_lst, onQ_some, onI_ins, onD_dk, onR_ref, onT_tup, onBo_some, x_app, x_clr, x_ext, v_add, v_addT, v_addS, v_addL, v_sub, v_mul, v_rep, v_mod, v_div, v_pow, v_lt, v_le, v_gt, v_ge, v_isN, v_notN, n_non, n_bl, n_int, n_str, n_ref, n_tup, q_ss, q_ii, q_bb, q_nn, q_is, q_si, q_in, q_ni, q_sn, q_ns, d_ss, d_ii, d_bb, d_nn, d_in, d_ni, ix_t, ix_r, ix_l, in_t, notin_t, fl_s, fl_i, fl_n, so_t, so_r, so_lp, len_t, len_r, len_s, int_i, int_b, list_x, tuple_x, min_ii, max_ii, sl_t, sl_l, look_nil, look_cons, putW_nil, putW_cons, x_inKd, x_notinKd, x_getKd, x_dget, key_s, key_i, val_nil, val_cons, inr_eq, start1, line_lt, atI0, atI1, atI2, atI3, atI4, List.map_cons, List.map_nil, List.cons_append, List.nil_append, List.set_cons_zero, List.set_cons_succ, List.length_cons, List.length_nil, List.all_cons, List.all_nil, List.replicate_succ, List.replicate_zero, Nat.reduceAdd, Nat.reduceSub, Nat.zero_add, wd_inj, Nat.reduceLT, Nat.reduceEqDiff, decide_true, decide_false, Bool.false_eq_true, Bool.true_eq_false, Bool.not_true, Bool.not_false, Bool.or_false, Bool.false_or, Bool.or_true, Bool.true_or, Bool.and_self, Bool.and_true, Bool.true_and, ↓reduceIte, reduceCtorEq, line_le, Nat.reduceLeDiff, true_and, and_true, and_self, Option.isSome_some, Option.isSome_none, Int.reduceLT, Int.reduceLE, Int.reduceEq, Int.reduceNeg, put_same, ci0, ci1, ci2, ci3, ci4, ci5, ci6, W_PAIRS, startW, it_t, it_i, it_s, it_n, it_b, il_t, il_i, il_s, il_n, il_b, itl_t, ib_i, ib_s, ib_b, is_i, is_s, ii_i])
local macro_rules | `(tactic| walk_at "ws") => `(tactic| simp only [↓x_var0, ↓x_varS, ↓x_c, ↓x_op, ↓x_b, ↓x_chain, ↓x_and, ↓x_or, ↓x_not, ↓x_andV, ↓x_orV, ↓x_notV, ↓x_if, ↓x_orT, ↓x_tr, ↓x_neg, ↓x_nil, ↓x_cons, ↓x_tup, ↓x_lst, ↓x_call, ↓x_lm, ↓x_lm0, ↓x_seq, ↓x_next, ↓x_ifS, ↓x_ret, ↓x_retN, ↓x_drop, ↓x_asg, ↓x_gname, ↓x_gtup, ↓x_gcons, ↓x_gnil, ↓x_gsub, ↓x_set, ↓x_for, ↓x_forR1, ↓x_lc, ↓x_lcR, ↓x_fld, ↓x_setF, ↓x_meth, ↓x_make, ↓x_sl, ↓x_part, ↓x_noPart, ↓x_yes, onB_bl, onS_some, onL_lst, onQ_some, onI_ins, onD_dk, onR_ref, onT_tup, onBo_some, x_app, x_clr, x_ext, v_add, v_addT, v_addS, v_addL, v_sub, v_mul, v_rep, v_mod, v_div, v_pow, v_lt, v_le, v_gt, v_ge, v_isN, v_notN, n_non, n_bl, n_int, n_str, n_ref, n_tup, q_ss, q_ii, q_bb, q_nn, q_is, q_si, q_in, q_ni, q_sn, q_ns, d_ss, d_ii, d_bb, d_nn, d_in, d_ni, ix_t, ix_r, ix_l, in_t, notin_t, fl_s, fl_i, fl_n, so_t, so_r, so_lp, len_t, len_r, len_s, int_i, int_b, list_x, tuple_x, min_ii, max_ii, sl_t, sl_l, look_nil, look_cons, putW_nil, putW_cons, x_inKd, x_notinKd, x_getKd, x_dget, key_s, key_i, val_nil, val_cons, inr_eq, start1, line_lt, atI0, atI1, atI2, atI3, atI4, List.map_cons, List.map_nil, List.cons_append, List.nil_append, List.set_cons_zero, List.set_cons_succ, List.length_cons, List.length_nil, List.all_cons, List.all_nil, List.replicate_succ, List.replicate_zero, Nat.reduceAdd, Nat.reduceSub, Nat.zero_add, wd_inj, Nat.reduceLT, Nat.reduceEqDiff, decide_true, decide_false, Bool.false_eq_true, Bool.true_eq_false, Bool.not_true, Bool.not_false, Bool.or_false, Bool.false_or, Bool.or_true, Bool.true_or, Bool.and_self, Bool.and_true, Bool.true_and, ↓reduceIte, reduceCtorEq, line_le, Nat.reduceLeDiff, true_and, and_true, and_self, Option.isSome_some, Option.isSome_none, Int.reduceLT, Int.reduceLE, Int.reduceEq, Int.reduceNeg, put_same, ci0, ci1, ci2, ci3, ci4, ci5, ci6, W_PAIRS, startW, *, it_t, it_i, it_s, it_n, it_b, il_t, il_i, il_s, il_n, il_b, itl_t, ib_i, ib_s, ib_b, is_i, is_s, ii_i])

mutual
theorem dW_refl : ∀ w : W, PyData.eqv (dW w) (dW w) = true
  | .non => by simp [dW, PyData.eqv]
  | .bl b => by simp [dW, PyData.eqv]
  | .int i => by simp [dW, PyData.eqv]
  | .str s => by simp [dW, PyData.eqv]
  | .tup ws => by rw [dW, PyData.eqv]; exact dWs_refl ws
  | .rl _ => by simp [dW, PyData.eqv]
  | .ref _ => by simp [dW, PyData.eqv]
  | .ty _ => by simp [dW, PyData.eqv]
theorem dWs_refl : ∀ ws : List W, PyData.eqvAll (dWs ws) (dWs ws) = true
  | [] => by simp [dWs, PyData.eqvAll]
  | w :: ws => by rw [dWs, PyData.eqvAll, dW_refl w, dWs_refl ws]; rfl
end
theorem ne_boxes {S : Sto} {Q : WQ} {a b x y x' y' : Addr} {us vs : List W} (ha : S a = some (.lst [.ref x, .ref y])) (hb : S b = some (.lst [.ref x', .ref y'])) (hx : S x = some (.lst us)) (hx' : S x' = some (.lst us)) (hy : S y = some (.lst vs)) (hy' : S y' = some (.lst vs))
    (ou : okWs 50 us = true) (ov : okWs 50 vs = true) (q : Q (.bl false) S) : rNeW (.ref a) (.ref b) S Q := by
  obtain ⟨h1, h2, h3⟩ := okWs_dat (S := S) ou
  obtain ⟨g1, g2, g3⟩ := okWs_dat (S := S) ov
  have sh : SeqAt.shaped (.list [.list (dWs us), .list (dWs vs)]) = true := by
    unfold SeqAt.shaped
    simp only [PyData.canLay0, PyData.canLayAll0, h2, g2, PyData.depth, PyData.depthAll]
    simp; omega
  refine ne_dat (d := .list [.list (dWs us), .list (dWs vs)]) (e := .list [.list (dWs us), .list (dWs vs)]) (.lst ha (.cons (.lst hx h1) (.cons (.lst hy g1) .nil))) (.lst hb (.cons (.lst hx' h1) (.cons (.lst hy' g1) .nil))) sh sh rfl ?_
  have e : PyData.eqv (.list [.list (dWs us), .list (dWs vs)]) (.list [.list (dWs us), .list (dWs vs)]) = true := by
    simp only [PyData.eqv, PyData.eqvAll, dWs_refl, Bool.and_self]
  rw [e]
  exact q
/-! ### what the law holds in its hands -/
structure Box (S : Sto) (row : Addr) (ns : List Int) (pg p2 p3 ph pd : Addr) (w : W) (ds : List Deed) (dues : List Told) : Prop where
  R : RowAt S row ns
  hpg : S pg = some (.lst [w])
  hp2 : S p2 = some (.lst [w])
  hp3 : S p3 = some (deedsM ds)
  hph : S ph = some (.lst [.ref p2, .ref p3])
  hpd : S pd = some (.lst (dues.map toldW))
  n1 : pg ≠ row
  n2 : p2 ≠ row
  n3 : p3 ≠ row
  n4 : ph ≠ row
  n5 : pd ≠ row
  m1 : p3 ≠ pg
  m2 : p3 ≠ p2
  m3 : p3 ≠ ph
  m4 : p3 ≠ pd
  m5 : pd ≠ pg
  m6 : pd ≠ p2
  m7 : pd ≠ ph
section
variable {S S' : Sto} {row : Addr} {ns : List Int} {pg p2 p3 ph pd : Addr} {w : W} {ds : List Deed} {dues : List Told}
theorem Box.fr (B : Box S row ns pg p2 p3 ph pd w ds dues) (R : RowAt S' row ns) (F : Fr row S S') : Box S' row ns pg p2 p3 ph pd w ds dues :=
  ⟨R, F _ _ B.n1 B.hpg, F _ _ B.n2 B.hp2, F _ _ B.n3 B.hp3, F _ _ B.n4 B.hph, F _ _ B.n5 B.hpd, B.n1, B.n2, B.n3, B.n4, B.n5, B.m1, B.m2, B.m3, B.m4, B.m5, B.m6, B.m7⟩
theorem Box.le (B : Box S row ns pg p2 p3 ph pd w ds dues) (l : Le S S') : Box S' row ns pg p2 p3 ph pd w ds dues := B.fr (B.R.le l) (Fr.le l)
theorem Box.off (B : Box S row ns pg p2 p3 ph pd w ds dues) {a : Addr} {o : MO} (h : ∀ x u, S x = some u → x ≠ a) : Box (put S a o) row ns pg p2 p3 ph pd w ds dues := by
  refine B.fr ?_ fun x u _ e => by rw [put_ne (h x u e)]; exact e
  obtain ⟨i, c, d, e, h3⟩ := B.R
  exact ⟨i, c, d, by rw [put_ne (h _ _ e)]; exact e, h3⟩
theorem Box.deed (B : Box S row ns pg p2 p3 ph pd w ds dues) (d : Deed) : Box (put S p3 (.lst (ds.map Deed.W ++ [d.W]))) row ns pg p2 p3 ph pd w (ds ++ [d]) dues := by
  refine ⟨?_, by rw [put_ne (Ne.symm B.m1)]; exact B.hpg, by rw [put_ne (Ne.symm B.m2)]; exact B.hp2, by rw [put_same, deedsM, List.map_append]; rfl, by rw [put_ne (Ne.symm B.m3)]; exact B.hph, by rw [put_ne (Ne.symm B.m4)]; exact B.hpd, B.n1, B.n2, B.n3, B.n4, B.n5, B.m1, B.m2, B.m3, B.m4, B.m5, B.m6, B.m7⟩
  obtain ⟨i, c, d, e, h3⟩ := B.R
  exact ⟨i, c, d, by rw [put_ne (Ne.symm B.n3)]; exact e, h3⟩
theorem Box.due (B : Box S row ns pg p2 p3 ph pd w ds dues) (t : Told) : Box (put S pd (.lst (dues.map toldW ++ [toldW t]))) row ns pg p2 p3 ph pd w ds (dues ++ [t]) := by
  refine ⟨?_, by rw [put_ne (Ne.symm B.m5)]; exact B.hpg, by rw [put_ne (Ne.symm B.m6)]; exact B.hp2, by rw [put_ne B.m4]; exact B.hp3, by rw [put_ne (Ne.symm B.m7)]; exact B.hph, by rw [put_same, List.map_append]; rfl, B.n1, B.n2, B.n3, B.n4, B.n5, B.m1, B.m2, B.m3, B.m4, B.m5, B.m6, B.m7⟩
  obtain ⟨i, c, d, e, h3⟩ := B.R
  exact ⟨i, c, d, by rw [put_ne (Ne.symm B.n5)]; exact e, h3⟩
end
theorem deed_at {n v : Int} (h0 : 0 ≤ v) (h : v < 3) (hn : InR n) : ∃ d : Deed, atI [W.tup [.str w_ask, .int n], .tup [.str w_throw, .int n], .tup [.str w_shut]] v = some d.W ∧ d.ok ∧ atI [W.tup [.str w_over], .tup [.str w_fault, .int n], .tup [.str w_shut]] v = some (untouched d).2.W ∧ (untouched d).1 = [] := by
  obtain rfl | rfl | rfl : v = 0 ∨ v = 1 ∨ v = 2 := by omega
  · exact ⟨.ask n, rfl, hn, rfl, rfl⟩
  · exact ⟨.throw n, rfl, hn, rfl, rfl⟩
  · exact ⟨.shut, rfl, trivial, rfl, rfl⟩
theorem more_loop {spl spn spg spp spa : WSp} {row pg p2 p3 ph pd : Addr} {ns : List Int} {w : W} {D : WD} {x0 x2 x3 x4 x5 x6 x13 x14 : Option W} {d0 : Deed} {t0 : Told}
    (q : ∀ (S' : Sto) (r : List Deed) (x10 x11 x12 : Option W), Box S' row ns pg p2 p3 ph pd w (d0 :: r) (t0 :: r.map untouched) → r.length ≤ 100 → (∀ d ∈ r, d.ok) → D.nx [x0, some (.ref row), x2, x3, x4, x5, x6, some (.ref pg), some (.ref ph), some (.ref pd), x10, x11, x12, x13, x14] S') :
    ∀ (xs : List W) (r : List Deed) (S : Sto) (x10 x11 x12 : Option W), r.length + xs.length ≤ 100 → (∀ d ∈ r, d.ok) → Box S row ns pg p2 p3 ph pd w (d0 :: r) (t0 :: r.map untouched) →
    forW (fun _ => True) (gNameW 10) (l_law_1 sp_law_taken spl spn spg spp spa) xs D [x0, some (.ref row), x2, x3, x4, x5, x6, some (.ref pg), some (.ref ph), some (.ref pd), x10, x11, x12, x13, x14] S
  | [], r, S, x10, x11, x12, hl, hd, B => by
    simp only [forW]
    exact ⟨trivial, q S r _ _ _ B (by simpa using hl) hd⟩
  | x :: xs, r, S, x10, x11, x12, hl, hd, B => by
    rw [List.length_cons] at hl
    simp only [forW, l_law_1]
    refine ⟨trivial, ?_⟩
    walk_at "wx"
    refine taken_ok B.R (by decide) (by decide) fun n S1 n0 n1 R1 F1 => ?_
    have B1 := B.fr R1 F1
    refine taken_ok R1 (by decide) (by decide) fun v S2 v0 v1 R2 F2 => ?_
    have B2 := B1.fr R2 F2
    obtain ⟨d, hd1, hd2, hd3, hd4⟩ := deed_at v0 v1 ⟨n0, n1⟩
    have hph := B2.hph
    simp only [hph, onL_lst]
    walk_at "wx"
    have hp3 := B2.hp3
    simp only [deedsM] at hp3
    refine ⟨is_lst hp3, fun p hp => ?_⟩
    simp only [ix_l, put_same, onL_lst, hd1, onS_some]
    have np : p3 ≠ p := ne_none hp3 hp
    have B3 := B2.le (Le.put (o := .lst [W.tup [.str w_ask, .int n], .tup [.str w_throw, .int n], .tup [.str w_shut]]) hp)
    simp only [put_ne np, hp3, onL_lst]
    refine ⟨small_len (by simp only [List.length_map, List.length_cons]; omega), ?_⟩
    have B4 := B3.deed d
    simp only [List.cons_append] at B4
    have hpd := B4.hpd
    have hB4 : put (put S2 p (.lst [W.tup [.str w_ask, .int n], .tup [.str w_throw, .int n], .tup [.str w_shut]])) p3 (.lst (List.map Deed.W (d0 :: r) ++ [d.W])) = put (put S2 p (.lst [W.tup [.str w_ask, .int n], .tup [.str w_throw, .int n], .tup [.str w_shut]])) p3 (.lst (List.map Deed.W (d0 :: r) ++ [d.W])) := rfl
    simp only [List.map_cons, List.cons_append] at B4 hpd ⊢
    generalize put (put S2 p (.lst [W.tup [.str w_ask, .int n], .tup [.str w_throw, .int n], .tup [.str w_shut]])) p3 (.lst (d0.W :: (List.map Deed.W r ++ [d.W]))) = S4 at *
    refine ⟨is_lst hpd, fun p' hp' => ?_⟩
    simp only [ix_l, put_same, onL_lst, hd3, onS_some]
    have np' : pd ≠ p' := ne_none hpd hp'
    have B5 := B4.le (Le.put (o := .lst [W.tup [.str w_over], .tup [.str w_fault, .int n], .tup [.str w_shut]]) hp')
    simp only [put_ne np', hpd, onL_lst]
    refine ⟨small_len (by simp only [List.length_map, List.length_cons]; omega), ?_⟩
    have B6 := B5.due (untouched d)
    have e9 : toldW (untouched d) = .tup [.tup [], (untouched d).2.W] := by unfold toldW; rw [hd4]; rfl
    rw [e9] at B6
    simp only [List.map_cons, List.cons_append] at B6
    refine more_loop (spl := spl) (spn := spn) (spg := spg) (spp := spp) (spa := spa) q xs (r ++ [d]) _ _ _ _ (by rw [List.length_append]; simp only [List.length_cons, List.length_nil]; omega) (fun y hy => (List.mem_append.mp hy).elim (hd y) fun hy => by rw [List.mem_singleton.mp hy]; exact hd2) ?_
    rw [List.map_append]
    exact B6

end WL
namespace WL
open PySem L2
local macro_rules | `(tactic| walk_at "wx") => `(tactic| simp only [↓x_var0, ↓x_varS, ↓x_c, ↓x_op, ↓x_b, ↓x_chain, ↓x_and, ↓x_or, ↓x_not, ↓x_andV, ↓x_orV, ↓x_notV, ↓x_if, ↓x_orT, ↓x_tr, ↓x_neg, ↓x_nil, ↓x_cons, ↓x_tup, ↓x_lst, ↓x_call, ↓x_lm, ↓x_lm0, ↓x_seq, ↓x_next, ↓x_ifS, ↓x_ret, ↓x_retN, ↓x_drop, ↓x_asg, ↓x_gname, ↓x_gtup, ↓x_gcons, ↓x_gnil, ↓x_gsub, ↓x_set, ↓x_for, ↓x_forR1, ↓x_lc, ↓x_lcR, ↓x_fld, ↓x_setF, ↓x_meth, ↓x_make, ↓x_sl, ↓x_part, ↓x_noPart, ↓x_yes, onB_bl, onS_some, onL_lst, onQ_some, onI_ins, onD_dk, onR_ref, onT_tup, onBo_some, x_app, x_clr, x_ext, v_add, v_addT, v_addS, v_addL, v_sub, v_mul, v_rep, v_mod, v_div, v_pow, v_lt, v_le, v_gt, v_ge, v_isN, v_notN, n_non, n_bl, n_int, n_str, n_ref, n_tup, q_ss, q_ii, q_bb, q_nn, q_is, q_si, q_in, q_ni, q_sn, q_ns, d_ss, d_ii, d_bb, d_nn, d_in, d_ni, ix_t, ix_r, ix_l, in_t, notin_t, fl_s, fl_i, fl_n, so_t, so_r, so_lp, len_t, len_r, len_s, int_i, int_b, list_x, tuple_x, min_ii, max_ii, sl_t, sl_l, look_nil, look_cons, putW_nil, putW_cons, x_inKd, x_notinKd, x_getKd, x_dget, key_s, key_i, val_nil, val_cons, inr_eq, start1, line_lt, atI0, atI1, atI2, atI3, atI4, List.map_cons, List.map_nil, List.cons_append, List.nil_append, List.set_cons_zero, List.set_cons_succ, List.length_cons, List.length_nil, List.all_cons, List.all_nil, List.replicate_succ, List.replicate_zero, Nat.reduceAdd, Nat.reduceSub, Nat.zero_add, wd_inj, Nat.reduceLT, Nat.reduceEqDiff, decide_true, decide_false, Bool.false_eq_true, Bool.true_eq_false, Bool.not_true, Bool.not_false, Bool.or_false, Bool.false_or, Bool.or_true, Bool.true_or, Bool.and_self, Bool.and_true, Bool.true_and, ↓reduceIte, reduceCtorEq, line_le, Nat.reduceLeDiff, true_and, and_true, and_self, Option.isSome_some, Option.isSome_none, Int.reduceLT, Int.reduceLE, Int.reduceEq, Int.reduceNeg, put_same, ci0, ci1, ci2, ci3, ci4, ci5, ci6, W_PAIRS, startW, it_t, it_i, it_s, it_n, it_b, il_t, il_i, il_s, il_n, il_b, itl_t, ib_i, ib_s, ib_b, is_i, is_s, ii_i])
local macro_rules | `(tactic| walk_at "ws") => `(tactic| simp only [↓x_var0, ↓x_varS, ↓x_c, ↓x_op, ↓x_b, ↓x_chain, ↓x_and, ↓x_or, ↓x_not, ↓x_andV, ↓x_orV, ↓x_notV, ↓x_if, ↓x_orT, ↓x_tr, ↓x_neg, ↓x_nil, ↓x_cons, ↓x_tup, ↓x_lst, ↓x_call, ↓x_lm, ↓x_lm0, ↓x_seq, ↓x_next, ↓x_ifS, ↓x_ret, ↓x_retN, ↓x_drop, ↓x_asg, ↓x_gname, ↓x_gtup, ↓x_gcons, ↓x_gnil, ↓x_gsub, ↓x_set, ↓x_for, ↓x_forR1, ↓x_lc, ↓x_lcR, ↓x_fld, ↓x_setF, ↓x_meth, ↓x_make, ↓x_sl, ↓x_part, ↓x_noPart, ↓x_yes, onB_bl, onS_some, onL_lst, onQ_some, onI_ins, onD_dk, onR_ref, onT_tup, onBo_some, x_app, x_clr, x_ext, v_add, v_addT, v_addS, v_addL, v_sub, v_mul, v_rep, v_mod, v_div, v_pow, v_lt, v_le, v_gt, v_ge, v_isN, v_notN, n_non, n_bl, n_int, n_str, n_ref, n_tup, q_ss, q_ii, q_bb, q_nn, q_is, q_si, q_in, q_ni, q_sn, q_ns, d_ss, d_ii, d_bb, d_nn, d_in, d_ni, ix_t, ix_r, ix_l, in_t, notin_t, fl_s, fl_i, fl_n, so_t, so_r, so_lp, len_t, len_r, len_s, int_i, int_b, list_x, tuple_x, min_ii, max_ii, sl_t, sl_l, look_nil, look_cons, putW_nil, putW_cons, x_inKd, x_notinKd, x_getKd, x_dget, key_s, key_i, val_nil, val_cons, inr_eq, start1, line_lt, atI0, atI1, atI2, atI3, atI4, List.map_cons, List.map_nil, List.cons_append, List.nil_append, List.set_cons_zero, List.set_cons_succ, List.length_cons, List.length_nil, List.all_cons, List.all_nil, List.replicate_succ, List.replicate_zero, Nat.reduceAdd, Nat.reduceSub, Nat.zero_add, wd_inj, Nat.reduceLT, Nat.reduceEqDiff, decide_true, decide_false, Bool.false_eq_true, Bool.true_eq_false, Bool.not_true, Bool.not_false, Bool.or_false, Bool.false_or, Bool.or_true, Bool.true_or, Bool.and_self, Bool.and_true, Bool.true_and, ↓reduceIte, reduceCtorEq, line_le, Nat.reduceLeDiff, true_and, and_true, and_self, Option.isSome_some, Option.isSome_none, Int.reduceLT, Int.reduceLE, Int.reduceEq, Int.reduceNeg, put_same, ci0, ci1, ci2, ci3, ci4, ci5, ci6, W_PAIRS, startW, *, it_t, it_i, it_s, it_n, it_b, il_t, il_i, il_s, il_n, il_b, itl_t, ib_i, ib_s, ib_b, is_i, is_s, ii_i])

theorem numbers_ok {S : Sto} {row : Addr} {ns : List Int} {u : Int} {Q : WQ} (R : RowAt S row ns) (u0 : 0 ≤ u) (hu : u ≤ 1000) (q : ∀ (l : List Int) S', l.length = u.toNat → (∀ i ∈ l, InR i) → RowAt S' row ns → Fr row S S' → Q (.tup (l.map .int)) S') : sp_law_numbers [.ref row, .int u] S Q :=
  ⟨row, ns, u.toNat, by rw [Int.toNat_of_nonneg u0], by omega, R, q⟩
theorem rk_okW : ∀ {e : Rk} {n : Nat}, e.deep ≤ n → okW (n + 1) e.W = true
  | .num k, n, _ => by rw [Rk.W, okW, okWs, okW, wd_ok (by decide)]; simp [okWs, okW]
  | .slot k, n, _ => by rw [Rk.W, okW, okWs, okW, wd_ok (by decide)]; simp [okWs, okW]
  | .op o a b, 0, h => by simp [Rk.deep] at h
  | .op o a b, n + 1, h => by
    simp only [Rk.deep] at h
    have ha := rk_okW (e := a) (n := n) (by omega)
    have hb := rk_okW (e := b) (n := n) (by omega)
    rw [Rk.W, okW, okWs, okWs, okWs, okWs, ha, hb]
    cases o <;> (rw [Op.str, okW, wd_ok (by decide)]; rfl)
theorem easy_okW {slots : Int} {s : Step} (h : Easy slots s) : okW 48 s.W = true := by
  have d : ∀ {e : Rk}, e.isR slots 3 = true → okW 47 e.W = true := fun {e} he => by
    refine rk_okW ?_
    have : ∀ (e : Rk) (d : Nat), e.isR slots d = true → e.deep ≤ d := by
      intro e
      induction e with
      | num n => intro d h; exact Nat.zero_le _
      | slot k => intro d h; exact Nat.zero_le _
      | op o a b iha ihb =>
        intro d h
        cases d with
        | zero => simp [Rk.isR] at h
        | succ d =>
          simp only [Rk.isR, Bool.and_eq_true] at h
          have := iha d h.1
          have := ihb d h.2
          simp only [Rk.deep]; omega
    exact Nat.le_trans (this e 3 he) (by decide)
  cases h with
  | set _ he => rw [Step.W, optI, okW, okWs, okWs, okWs, okWs, d he, okW, okW, wd_ok (by decide)]; rfl
  | say he => rw [Step.W, okW, okWs, okWs, okWs, d he, okW, wd_ok (by decide)]; rfl
  | fault he => rw [Step.W, okW, okWs, okWs, okWs, d he, okW, wd_ok (by decide)]; rfl
  | ends he => rw [Step.W, okW, okWs, okWs, okWs, d he, okW, wd_ok (by decide)]; rfl
theorem work_okW {slots p m : Int} {b : List Step} (h : ∀ s ∈ b, Easy slots s) : okWs 50 [Work.W ⟨p, m, b⟩] = true := by
  have hb : okWs 48 (Steps.W b) = true := by
    rw [Steps.W_map]
    refine okWs_of fun w hw => ?_
    obtain ⟨s, hs, rfl⟩ := List.mem_map.mp hw
    exact easy_okW (h s hs)
  rw [Work.W, okWs, okWs, okW, okWs, okWs, okWs, okWs, okW, okW, okW, hb]
  rfl
theorem told_plain {t : Told} (h : t.1.length ≤ 1000000) : Plain 3 (toldW t) := by
  unfold toldW
  refine .tup (by simp) fun w hw => ?_
  rcases List.mem_cons.mp hw with rfl | hw
  · exact .tup (by rw [List.length_map]; exact h) fun w hw => by obtain ⟨i, _, rfl⟩ := List.mem_map.mp hw; exact .int i
  · rw [List.mem_singleton.mp hw]
    cases t.2 <;> (refine .tup (by simp) fun w hw => ?_; rcases List.mem_cons.mp hw with rfl | hw; exact .str _; first | (rw [List.mem_singleton.mp hw]; exact .int _) | exact absurd hw List.not_mem_nil)
theorem turn_ok {row : Addr} {ns : List Int} {D : WD} {x0 : Option W} (again : ∀ (S : Sto) (x2 x3 x4 x5 x6 x7 x8 x9 x10 x11 x12 x13 x14 : Option W), RowAt S row ns → D.nx [x0, some (.ref row), x2, x3, x4, x5, x6, x7, x8, x9, x10, x11, x12, x13, x14] S) (S : Sto) (x2 x3 x4 x5 x6 x7 x8 x9 x10 x11 x12 x13 x14 : Option W) (R : RowAt S row ns) :
    l_law_2 sp_law_taken sp_law_steps sp_law_numbers sp_law_gone (sp_played 1 1) (sp_law_alike 20) D [x0, some (.ref row), x2, x3, x4, x5, x6, x7, x8, x9, x10, x11, x12, x13, x14] S := by
  unfold l_law_2
  generalize hL : l_law_1 sp_law_taken sp_law_steps sp_law_numbers sp_law_gone (sp_played 1 1) (sp_law_alike 20) = L
  walk_at "wx"
  refine taken_ok R (by decide) (by decide) fun v S1 v0 v1 R1 F1 => ?_
  obtain ⟨m, rfl⟩ : ∃ m : Nat, v = (m : Int) := ⟨v.toNat, by omega⟩
  have e1 : (1 : Int) + (m : Int) = ((1 + m : Nat) : Int) := by omega
  try walk_at "wx"
  simp only [e1]
  refine taken_ok R1 (by split <;> omega) (by split <;> omega) fun u S2 u0 u1 R2 F2 => ?_
  obtain ⟨k, rfl⟩ : ∃ k : Nat, u = (k : Int) := ⟨u.toNat, by omega⟩
  have hk : k ≤ 2 ∧ k ≤ 1 + m := by
    revert u1
    split <;> intro u1 <;> omega
  clear u1
  refine ⟨row, ns, ((1 + m : Nat) : Int), rfl, by omega, by omega, R2, fun b S3 hb he R3 F3 => ?_⟩
  refine numbers_ok R3 u0 (by omega) fun l S4 hl hin R4 F4 => ?_
  rw [Int.toNat_natCast] at hl
  walk_at "wx"
  intro pg hpg p2 hp2
  have n_pg := R4.ne hpg
  have n_pg2 : pg ≠ p2 := ne_none put_same hp2
  have R5 := (R4.le (Le.put (o := .lst [W.tup [.int k, .int ((1 + m : Nat) : Int), .tup (Steps.W b)]]) hpg)).le (Le.put (o := .lst [W.tup [.int k, .int ((1 + m : Nat) : Int), .tup (Steps.W b)]]) hp2)
  have n_p2 : row ≠ p2 := (R4.le (Le.put (o := .lst [W.tup [.int k, .int ((1 + m : Nat) : Int), .tup (Steps.W b)]]) hpg)).ne hp2
  refine taken_ok R5 (by decide) (by decide) fun i S6 i0 i1 R6 F6 => ?_
  have a1 : S6 pg = some (.lst [W.tup [.int k, .int ((1 + m : Nat) : Int), .tup (Steps.W b)]]) := F6 _ _ (Ne.symm n_pg) (by rw [put_ne n_pg2]; exact put_same)
  have a2 : S6 p2 = some (.lst [W.tup [.int k, .int ((1 + m : Nat) : Int), .tup (Steps.W b)]]) := F6 _ _ (Ne.symm n_p2) put_same
  clear F6 R5 hpg hp2 n_pg2
  intro p3 hp3 ph hph p4 hp4 p5 hp5
  have z1 : pg ≠ p3 := ne_none a1 hp3
  have z2 : p2 ≠ p3 := ne_none a2 hp3
  have z3 : row ≠ p3 := R6.ne hp3
  have l1 := Le.put (o := .lst [W.tup [.str w_ask, .int i]]) hp3
  have a3 : put S6 p3 (.lst [W.tup [.str w_ask, .int i]]) p3 = some (.lst [W.tup [.str w_ask, .int i]]) := put_same
  have b1 := l1 _ _ a1
  have b2 := l1 _ _ a2
  have R7 := R6.le l1
  clear a1 a2 R6 l1 hp3
  generalize put S6 p3 (.lst [W.tup [.str w_ask, .int i]]) = S7 at *
  have y3 : p3 ≠ ph := ne_none a3 hph
  have l2 := Le.put (o := .lst [.ref p2, .ref p3]) hph
  have c1 := l2 _ _ b1
  have c2 := l2 _ _ b2
  have c3 := l2 _ _ a3
  have c4 : put S7 ph (.lst [.ref p2, .ref p3]) ph = some (.lst [.ref p2, .ref p3]) := put_same
  have n_ph := R7.ne hph
  have R8 := R7.le l2
  clear b1 b2 a3 l2 R7 hph
  generalize put S7 ph (.lst [.ref p2, .ref p3]) = S8 at *
  have ej : (((1 + m : Nat) : Int) - (k : Int)).toNat = 1 + m - k := by omega
  rw [ej]
  refine ⟨⟨by omega, by omega, Nat.le_of_lt (small_len (by omega))⟩, fun p6 hp6 => ?_⟩
  have e45 : p4 ≠ p5 := ne_none put_same hp5
  have e46 : p4 ≠ p6 := ne_none (by rw [put_ne e45]; exact put_same) hp6
  rw [put_ne e46, put_ne e45, put_same]
  simp only [onL_lst]
  rw [rep_int, List.length_map, List.length_map, List.length_replicate]
  refine ⟨Nat.le_of_lt (small_len (by omega)), fun p7 hp7 => ?_⟩
  rw [← List.map_append]
  have l3 : Le S8 (put (put (put S8 p4 (.lst (l.map .int))) p5 (.lst [.int 0])) p6 (.lst ((List.replicate (1 + m - k) (0 : Int)).map .int))) := ((Le.put hp4).trans (Le.put hp5)).trans (Le.put hp6)
  have f7 : S8 p7 = none := l3.to hp7
  have l4 := l3.trans (Le.put (o := .lst ((l ++ List.replicate (1 + m - k) (0 : Int)).map .int)) hp7)
  have d1 := l4 _ _ c1
  have d2 := l4 _ _ c2
  have d3 := l4 _ _ c3
  have d4 := l4 _ _ c4
  have d7 : put (put (put (put S8 p4 (.lst (l.map .int))) p5 (.lst [.int 0])) p6 (.lst ((List.replicate (1 + m - k) (0 : Int)).map .int))) p7 (.lst ((l ++ List.replicate (1 + m - k) (0 : Int)).map .int)) p7 = some (slotsM (l ++ List.replicate (1 + m - k) (0 : Int))) := put_same
  have R9 := R8.le l4
  have n_p7 := R8.ne f7
  have q1 := ne_none c1 f7
  have q2 := ne_none c2 f7
  have q3 := ne_none c3 f7
  have q4 := ne_none c4 f7
  clear l3 l4 hp7 hp6 hp5 hp4 e45 e46 R8 c1 c2 c3 c4 f7
  generalize put (put (put (put S8 p4 (.lst (l.map .int))) p5 (.lst [.int 0])) p6 (.lst ((List.replicate (1 + m - k) (0 : Int)).map .int))) p7 (.lst ((l ++ List.replicate (1 + m - k) (0 : Int)).map .int)) = S9 at *
  have sll : (l ++ List.replicate (1 + m - k) (0 : Int)).length = 1 + m := by rw [List.length_append, List.length_replicate]; omega
  refine ⟨b, p7, l ++ List.replicate (1 + m - k) 0, rfl, d7, fun x hx => (List.mem_append.mp hx).elim (hin x) fun hx => by rw [(List.mem_replicate.mp hx).2]; exact inR0, fun s hs => by rw [sll]; exact he s hs, by omega, fun S10 F10 => ?_⟩
  intro pd hpd
  have R10 : RowAt S10 row ns := by
    obtain ⟨x, y, z, e, h3⟩ := R9
    exact ⟨x, y, z, F10 _ _ n_p7 e, h3⟩
  have g1 := F10 _ _ q1 d1
  have g2 := F10 _ _ q2 d2
  have g3 := F10 _ _ q3 d3
  have g4 := F10 _ _ q4 d4
  have n_pd := R10.ne hpd
  have t1 := ne_none g1 hpd
  have t2 := ne_none g2 hpd
  have t3 := ne_none g3 hpd
  have t4 := ne_none g4 hpd
  have l5 := Le.put (o := .lst [W.tup [.tup ((goneW (l ++ List.replicate (1 + m - k) 0) [] b).1.map .int), (goneW (l ++ List.replicate (1 + m - k) 0) [] b).2.W]]) hpd
  obtain ⟨gw, gl⟩ := gone_way (sl := l ++ List.replicate (1 + m - k) 0) (words := []) he
  have out : (goneW (l ++ List.replicate (1 + m - k) 0) [] b).2.W = (goneW (l ++ List.replicate (1 + m - k) 0) [] b).2.out.W := by
    obtain ⟨v, hv⟩ | ⟨v, hv⟩ := gw
    · rw [hv]; rfl
    · rw [hv]; rfl
  have B : Box (put S10 pd (.lst [W.tup [.tup ((goneW (l ++ List.replicate (1 + m - k) 0) [] b).1.map .int), (goneW (l ++ List.replicate (1 + m - k) 0) [] b).2.W]])) row ns pg p2 p3 ph pd (Work.W ⟨(k : Int), ((1 + m : Nat) : Int), b⟩) [.ask i] [((goneW (l ++ List.replicate (1 + m - k) 0) [] b).1, (goneW (l ++ List.replicate (1 + m - k) 0) [] b).2.out)] :=
    ⟨R10.le l5, l5 _ _ g1, l5 _ _ g2, l5 _ _ g3, l5 _ _ g4, by rw [put_same, out]; rfl, Ne.symm n_pg, Ne.symm n_p2, Ne.symm z3, Ne.symm n_ph, Ne.symm n_pd, Ne.symm z1, Ne.symm z2, y3, t3, Ne.symm t1, Ne.symm t2, Ne.symm t4⟩
  refine taken_ok B.R (by decide) (by decide) fun v S11 v0 v1 R11 F11 => ?_
  have B11 := B.fr R11 F11
  clear B l5 R10 F10 g1 g2 g3 g4 n_pd t1 t2 t3 t4 d1 d2 d3 d4 d7 R9 n_p7 q1 q2 q3 q4 z1 z2 z3 n_pg n_p2 n_ph y3 hpd
  generalize hdue : ((goneW (l ++ List.replicate (1 + m - k) 0) [] b).1, (goneW (l ++ List.replicate (1 + m - k) 0) [] b).2.out) = t0 at *
  refine ⟨⟨by omega, by omega⟩, ?_⟩
  rw [← hL]
  refine more_loop (fun S12 r x10 x11 x12 B hr hd => ?_) _ [] S11 _ _ _ (by simp only [List.length_nil, List.length_map, List.length_range]; omega) (fun _ h => absurd h List.not_mem_nil) B11
  clear B11 F11 R11 v0 v1
  have PL : Playable [⟨(k : Int), ((1 + m : Nat) : Int), b⟩] 0 l (.ask i :: r) (b.map easyC) (1 + m - k) 1 1 := easy_playable he hb (by omega) (by omega) hk.1 hk.2 hl hin (fun d hd' => (List.mem_cons.mp hd').elim (fun e => by rw [e]; exact ⟨i0, i1⟩) (hd d)) (by rw [List.length_cons]; omega)
  have PM : playedM (b.map easyC) l (1 + m - k) (.ask i :: r) = t0 :: r.map untouched := by rw [easy_played he, hdue]
  have t0l : t0.1.length ≤ 1000000 := by rw [← hdue]; simp only [List.length_nil] at gl; simp only; omega
  have pl : ∀ w ∈ (t0 :: r.map untouched).map toldW, Plain 3 w := fun w hw => by
    obtain ⟨t, ht, rfl⟩ := List.mem_map.mp hw
    rcases List.mem_cons.mp ht with rfl | ht
    · exact told_plain t0l
    · obtain ⟨d, _, rfl⟩ := List.mem_map.mp ht
      exact told_plain (by cases d <;> exact Nat.zero_le _)
  have pll : ((t0 :: r.map untouched).map toldW).length ≤ 1000000 := by simp only [List.length_map, List.length_cons]; omega
  have ow := work_okW (p := (k : Int)) (m := ((1 + m : Nat) : Int)) he
  have od := deeds_okW (.ask i :: r) (n := 48)
  have hph := B.hph
  have hp3 := B.hp3
  simp only [deedsM] at hp3
  walk_at "wx"
  simp only [hph, onL_lst]
  walk_at "wx"
  rw [so_l hp3]
  walk_at "wx"
  intro p13 hp13
  have l13 := Le.put (o := .lst ((Deed.ask i).W :: List.map Deed.W r)) hp13
  have B13 := B.le l13
  have h13 : put S12 p13 (.lst ((Deed.ask i).W :: List.map Deed.W r)) p13 = some (deedsM (.ask i :: r)) := put_same
  clear hph hp3 B l13 hp13
  generalize put S12 p13 (.lst ((Deed.ask i).W :: List.map Deed.W r)) = S13 at *
  have hph := B13.hph
  simp only [hph, onL_lst]
  walk_at "wx"
  refine ⟨p2, p3, [⟨(k : Int), ((1 + m : Nat) : Int), b⟩], 0, l, .ask i :: r, b.map easyC, 1 + m - k, rfl, B13.hp2, B13.hp3, PL, fun S14 qa l14 fq hq => ?_⟩
  rw [PM] at hq
  have B14 := B13.le l14
  have h14 := l14 _ _ h13
  rw [il_l hq]
  walk_at "wx"
  refine ⟨4, by decide, .inr ⟨qa, pd, _, 3, rfl, hq, B14.hpd, pll, rfl, pl⟩, fun S15 l15 => ?_⟩
  have B15 := B14.le l15
  have h15 := l15 _ _ h14
  have hq15 := l15 _ _ hq
  have n_q : ∀ x u, S13 x = some u → x ≠ qa := fun x u h => ne_none h fq
  walk_at "wx"
  intro pn hpn
  have B16 := B15.le (Le.put (o := .lst [.ref pg, .ref p13]) hpn)
  have h16 := Le.put (o := .lst [.ref pg, .ref p13]) hpn _ _ h15
  have hq16 := Le.put (o := .lst [.ref pg, .ref p13]) hpn _ _ hq15
  have np : pn ≠ qa := Ne.symm (ne_none hq15 hpn)
  refine ne_boxes B16.hph put_same B16.hp2 B16.hpg B16.hp3 h16 ow od ?_
  walk_at "wx"
  refine ⟨is_lst hq16, ?_⟩
  simp only [x_clr, hq16, onL_lst]
  have l17 : Le S13 (put (put S15 pn (.lst [.ref pg, .ref p13])) qa (.lst [])) := fun x u e => by
    rw [put_ne (n_q x u e)]
    exact Le.put (o := .lst [.ref pg, .ref p13]) hpn _ _ (l15 _ _ (l14 _ _ e))
  have B17 := B13.le l17
  have h17 := l17 _ _ h13
  refine ⟨pg, p13, [⟨(k : Int), ((1 + m : Nat) : Int), b⟩], 0, l, .ask i :: r, b.map easyC, 1 + m - k, rfl, B17.hpg, h17, PL, fun S18 qb l18 fqb hqb => ?_⟩
  rw [PM] at hqb
  have B18 := B17.le l18
  refine ⟨4, by decide, .inr ⟨qb, pd, _, 3, rfl, hqb, B18.hpd, pll, rfl, pl⟩, fun S19 l19 => ?_⟩
  walk_at "wx"
  exact again S19 _ _ _ _ _ _ _ _ _ _ _ _ _ (B18.R.le l19)
theorem turn_loop {row : Addr} {ns : List Int} {Q : WQ} {x0 : Option W} (q : ∀ S, Q (.bl true) S) : ∀ (xs : List W) (S : Sto) (x2 x3 x4 x5 x6 x7 x8 x9 x10 x11 x12 x13 x14 : Option W), RowAt S row ns →
    forW (fun _ => True) (gNameW 2) (l_law_2 sp_law_taken sp_law_steps sp_law_numbers sp_law_gone (sp_played 1 1) (sp_law_alike 20)) xs { nx := wRet (wC (.bl true)) { nx := fun _ S' => Q .non S', rt := Q }, rt := Q } [x0, some (.ref row), x2, x3, x4, x5, x6, x7, x8, x9, x10, x11, x12, x13, x14] S
  | [], S, x2, x3, x4, x5, x6, x7, x8, x9, x10, x11, x12, x13, x14, R => by
    simp only [forW]
    exact ⟨trivial, q S⟩
  | x :: xs, S, x2, x3, x4, x5, x6, x7, x8, x9, x10, x11, x12, x13, x14, R => by
    simp only [forW]
    exact ⟨trivial, turn_ok (fun S' x2 x3 x4 x5 x6 x7 x8 x9 x10 x11 x12 x13 x14 R' => turn_loop q xs S' x2 x3 x4 x5 x6 x7 x8 x9 x10 x11 x12 x13 x14 R') S _ _ _ _ _ _ _ _ _ _ _ _ _ R⟩
def sp_law : WSp := fun ws S Q => ∃ ns : List Int, ws = [.rl (ns.map .int)] ∧ ∀ S', Q (.bl true) S'
theorem r_law : ∀ ws S Q, Up Q → sp_law ws S Q → t_law sp_law_taken sp_law_steps sp_law_numbers sp_law_gone (sp_played 1 1) (sp_law_alike 20) { nx := fun _ S' => Q .non S', rt := Q } (startW 15 ws) S := by
  rintro ws S Q up ⟨ns, rfl, q⟩
  simp only [t_law]
  walk_at "wx"
  intro row hr
  refine ⟨⟨by decide, by decide⟩, ?_⟩
  exact turn_loop q _ _ _ _ _ _ _ _ _ _ _ _ _ _ _ ⟨0, 0, 0, put_same, by decide, by decide, by decide⟩

end WL
namespace WL
open PySem L2
theorem mo_is_reckoning {n : Nat} : MonoSp (sp_is_reckoning n) := by
  intro ws S Q Q' h q
  unfold sp_is_reckoning at q ⊢
  repeat (first | exact h _ _ q | (refine Exists.elim q fun x q => Exists.intro x ?_) | (refine And.intro q.1 ?_; replace q := q.2) | (intro x; replace q := q x) | (refine ⟨fun hh => h _ _ (q.1 hh), ?_⟩; replace q := q.2))
theorem le_is_reckoning {n : Nat} : ∀ ws S Q, (sp_is_reckoning n) ws S Q → ws.length = 3 := by
  intro ws S Q h
  unfold sp_is_reckoning at h
  repeat (first | (obtain ⟨rfl, _⟩ := h; rfl) | (obtain ⟨_, h⟩ := h))
theorem mo_bodies  : MonoSp (sp_bodies) := by
  intro ws S Q Q' h q
  unfold sp_bodies at q ⊢
  repeat (first | exact h _ _ q | (refine Exists.elim q fun x q => Exists.intro x ?_) | (refine And.intro q.1 ?_; replace q := q.2) | (intro x; replace q := q x) | (refine ⟨fun hh => h _ _ (q.1 hh), ?_⟩; replace q := q.2))
theorem le_bodies  : ∀ ws S Q, (sp_bodies) ws S Q → ws.length = 1 := by
  intro ws S Q h
  unfold sp_bodies at h
  repeat (first | (obtain ⟨rfl, _⟩ := h; rfl) | (obtain ⟨_, h⟩ := h))
theorem mo_is_kept  : MonoSp (sp_is_kept) := by
  intro ws S Q Q' h q
  unfold sp_is_kept at q ⊢
  repeat (first | exact h _ _ q | (refine Exists.elim q fun x q => Exists.intro x ?_) | (refine And.intro q.1 ?_; replace q := q.2) | (intro x; replace q := q x) | (refine ⟨fun hh => h _ _ (q.1 hh), ?_⟩; replace q := q.2))
theorem le_is_kept  : ∀ ws S Q, (sp_is_kept) ws S Q → ws.length = 2 := by
  intro ws S Q h
  unfold sp_is_kept at h
  repeat (first | (obtain ⟨rfl, _⟩ := h; rfl) | (obtain ⟨_, h⟩ := h))
theorem mo_are_parts  : MonoSp (sp_are_parts) := by
  intro ws S Q Q' h q
  unfold sp_are_parts at q ⊢
  repeat (first | exact h _ _ q | (refine Exists.elim q fun x q => Exists.intro x ?_) | (refine And.intro q.1 ?_; replace q := q.2) | (intro x; replace q := q x) | (refine ⟨fun hh => h _ _ (q.1 hh), ?_⟩; replace q := q.2))
theorem le_are_parts  : ∀ ws S Q, (sp_are_parts) ws S Q → ws.length = 3 := by
  intro ws S Q h
  unfold sp_are_parts at h
  repeat (first | (obtain ⟨rfl, _⟩ := h; rfl) | (obtain ⟨_, h⟩ := h))
theorem mo_is_body {n : Nat} : MonoSp (sp_is_body n) := by
  intro ws S Q Q' h q
  unfold sp_is_body at q ⊢
  repeat (first | exact h _ _ q | (refine Exists.elim q fun x q => Exists.intro x ?_) | (refine And.intro q.1 ?_; replace q := q.2) | (intro x; replace q := q x) | (refine ⟨fun hh => h _ _ (q.1 hh), ?_⟩; replace q := q.2))
theorem le_is_body {n : Nat} : ∀ ws S Q, (sp_is_body n) ws S Q → ws.length = 5 := by
  intro ws S Q h
  unfold sp_is_body at h
  repeat (first | (obtain ⟨rfl, _⟩ := h; rfl) | (obtain ⟨_, h⟩ := h))
theorem mo_all_steps {n : Nat} : MonoSp (sp_all_steps n) := by
  intro ws S Q Q' h q
  unfold sp_all_steps at q ⊢
  repeat (first | exact h _ _ q | (refine Exists.elim q fun x q => Exists.intro x ?_) | (refine And.intro q.1 ?_; replace q := q.2) | (intro x; replace q := q x) | (refine ⟨fun hh => h _ _ (q.1 hh), ?_⟩; replace q := q.2))
theorem le_all_steps {n : Nat} : ∀ ws S Q, (sp_all_steps n) ws S Q → ws.length = 1 := by
  intro ws S Q h
  unfold sp_all_steps at h
  repeat (first | (obtain ⟨rfl, _⟩ := h; rfl) | (obtain ⟨_, h⟩ := h))
theorem mo_is_work {n : Nat} : MonoSp (sp_is_work n) := by
  intro ws S Q Q' h q
  unfold sp_is_work at q ⊢
  repeat (first | exact h _ _ q | (refine Exists.elim q fun x q => Exists.intro x ?_) | (refine And.intro q.1 ?_; replace q := q.2) | (intro x; replace q := q x) | (refine ⟨fun hh => h _ _ (q.1 hh), ?_⟩; replace q := q.2))
theorem le_is_work {n : Nat} : ∀ ws S Q, (sp_is_work n) ws S Q → ws.length = 2 := by
  intro ws S Q h
  unfold sp_is_work at h
  repeat (first | (obtain ⟨rfl, _⟩ := h; rfl) | (obtain ⟨_, h⟩ := h))
theorem mo_need_program {n : Nat} : MonoSp (sp_need_program n) := by
  intro ws S Q Q' h q
  unfold sp_need_program at q ⊢
  repeat (first | exact h _ _ q | (refine Exists.elim q fun x q => Exists.intro x ?_) | (refine And.intro q.1 ?_; replace q := q.2) | (intro x; replace q := q x) | (refine ⟨fun hh => h _ _ (q.1 hh), ?_⟩; replace q := q.2))
theorem le_need_program {n : Nat} : ∀ ws S Q, (sp_need_program n) ws S Q → ws.length = 1 := by
  intro ws S Q h
  unfold sp_need_program at h
  repeat (first | (obtain ⟨rfl, _⟩ := h; rfl) | (obtain ⟨_, h⟩ := h))
theorem mo_need_work  : MonoSp (sp_need_work) := by
  intro ws S Q Q' h q
  unfold sp_need_work at q ⊢
  repeat (first | exact h _ _ q | (refine Exists.elim q fun x q => Exists.intro x ?_) | (refine And.intro q.1 ?_; replace q := q.2) | (intro x; replace q := q x) | (refine ⟨fun hh => h _ _ (q.1 hh), ?_⟩; replace q := q.2))
theorem le_need_work  : ∀ ws S Q, (sp_need_work) ws S Q → ws.length = 2 := by
  intro ws S Q h
  unfold sp_need_work at h
  repeat (first | (obtain ⟨rfl, _⟩ := h; rfl) | (obtain ⟨_, h⟩ := h))
theorem mo_paired  : MonoSp (sp_paired) := by
  intro ws S Q Q' h q
  unfold sp_paired at q ⊢
  repeat (first | exact h _ _ q | (refine Exists.elim q fun x q => Exists.intro x ?_) | (refine And.intro q.1 ?_; replace q := q.2) | (intro x; replace q := q x) | (refine ⟨fun hh => h _ _ (q.1 hh), ?_⟩; replace q := q.2))
theorem le_paired  : ∀ ws S Q, (sp_paired) ws S Q → ws.length = 3 := by
  intro ws S Q h
  unfold sp_paired at h
  repeat (first | (obtain ⟨rfl, _⟩ := h; rfl) | (obtain ⟨_, h⟩ := h))
theorem mo_reckoned {n : Nat} : MonoSp (sp_reckoned n) := by
  intro ws S Q Q' h q
  unfold sp_reckoned at q ⊢
  repeat (first | exact h _ _ q | (refine Exists.elim q fun x q => Exists.intro x ?_) | (refine And.intro q.1 ?_; replace q := q.2) | (intro x; replace q := q x) | (refine ⟨fun hh => h _ _ (q.1 hh), ?_⟩; replace q := q.2))
theorem le_reckoned {n : Nat} : ∀ ws S Q, (sp_reckoned n) ws S Q → ws.length = 2 := by
  intro ws S Q h
  unfold sp_reckoned at h
  repeat (first | (obtain ⟨rfl, _⟩ := h; rfl) | (obtain ⟨_, h⟩ := h))
theorem mo_all_reckoned {n : Nat} : MonoSp (sp_all_reckoned n) := by
  intro ws S Q Q' h q
  unfold sp_all_reckoned at q ⊢
  repeat (first | exact h _ _ q | (refine Exists.elim q fun x q => Exists.intro x ?_) | (refine And.intro q.1 ?_; replace q := q.2) | (intro x; replace q := q x) | (refine ⟨fun hh => h _ _ (q.1 hh), ?_⟩; replace q := q.2))
theorem le_all_reckoned {n : Nat} : ∀ ws S Q, (sp_all_reckoned n) ws S Q → ws.length = 2 := by
  intro ws S Q h
  unfold sp_all_reckoned at h
  repeat (first | (obtain ⟨rfl, _⟩ := h; rfl) | (obtain ⟨_, h⟩ := h))
theorem mo_is_deed  : MonoSp (sp_is_deed) := by
  intro ws S Q Q' h q
  unfold sp_is_deed at q ⊢
  repeat (first | exact h _ _ q | (refine Exists.elim q fun x q => Exists.intro x ?_) | (refine And.intro q.1 ?_; replace q := q.2) | (intro x; replace q := q x) | (refine ⟨fun hh => h _ _ (q.1 hh), ?_⟩; replace q := q.2))
theorem le_is_deed  : ∀ ws S Q, (sp_is_deed) ws S Q → ws.length = 1 := by
  intro ws S Q h
  unfold sp_is_deed at h
  repeat (first | (obtain ⟨rfl, _⟩ := h; rfl) | (obtain ⟨_, h⟩ := h))
theorem mo_need_asked  : MonoSp (sp_need_asked) := by
  intro ws S Q Q' h q
  unfold sp_need_asked at q ⊢
  repeat (first | exact h _ _ q | (refine Exists.elim q fun x q => Exists.intro x ?_) | (refine And.intro q.1 ?_; replace q := q.2) | (intro x; replace q := q x) | (refine ⟨fun hh => h _ _ (q.1 hh), ?_⟩; replace q := q.2))
theorem le_need_asked  : ∀ ws S Q, (sp_need_asked) ws S Q → ws.length = 3 := by
  intro ws S Q h
  unfold sp_need_asked at h
  repeat (first | (obtain ⟨rfl, _⟩ := h; rfl) | (obtain ⟨_, h⟩ := h))
theorem mo_untouched  : MonoSp (sp_untouched) := by
  intro ws S Q Q' h q
  unfold sp_untouched at q ⊢
  repeat (first | exact h _ _ q | (refine Exists.elim q fun x q => Exists.intro x ?_) | (refine And.intro q.1 ?_; replace q := q.2) | (intro x; replace q := q x) | (refine ⟨fun hh => h _ _ (q.1 hh), ?_⟩; replace q := q.2))
theorem le_untouched  : ∀ ws S Q, (sp_untouched) ws S Q → ws.length = 1 := by
  intro ws S Q h
  unfold sp_untouched at h
  repeat (first | (obtain ⟨rfl, _⟩ := h; rfl) | (obtain ⟨_, h⟩ := h))
theorem mo_Talk_init {C : Addr} : MonoSp (sp_Talk_init C) := by
  intro ws S Q Q' h q
  unfold sp_Talk_init at q ⊢
  repeat (first | exact h _ _ q | (refine Exists.elim q fun x q => Exists.intro x ?_) | (refine And.intro q.1 ?_; replace q := q.2) | (intro x; replace q := q x) | (refine ⟨fun hh => h _ _ (q.1 hh), ?_⟩; replace q := q.2))
theorem le_Talk_init {C : Addr} : ∀ ws S Q, (sp_Talk_init C) ws S Q → ws.length = 2 := by
  intro ws S Q h
  unfold sp_Talk_init at h
  repeat (first | (obtain ⟨rfl, _⟩ := h; rfl) | (obtain ⟨_, h⟩ := h))
theorem mo_Talk_begins {C : Addr} : MonoSp (sp_Talk_begins C) := by
  intro ws S Q Q' h q
  unfold sp_Talk_begins at q ⊢
  repeat (first | exact h _ _ q | (refine Exists.elim q fun x q => Exists.intro x ?_) | (refine And.intro q.1 ?_; replace q := q.2) | (intro x; replace q := q x) | (refine ⟨fun hh => h _ _ (q.1 hh), ?_⟩; replace q := q.2))
theorem le_Talk_begins {C : Addr} : ∀ ws S Q, (sp_Talk_begins C) ws S Q → ws.length = 1 := by
  intro ws S Q h
  unfold sp_Talk_begins at h
  repeat (first | (obtain ⟨rfl, _⟩ := h; rfl) | (obtain ⟨_, h⟩ := h))
theorem mo_Talk_say {C : Addr} : MonoSp (sp_Talk_say C) := by
  intro ws S Q Q' h q
  unfold sp_Talk_say at q ⊢
  repeat (first | exact h _ _ q | (refine Exists.elim q fun x q => Exists.intro x ?_) | (refine And.intro q.1 ?_; replace q := q.2) | (intro x; replace q := q x) | (refine ⟨fun hh => h _ _ (q.1 hh), ?_⟩; replace q := q.2))
theorem le_Talk_say {C : Addr} : ∀ ws S Q, (sp_Talk_say C) ws S Q → ws.length = 2 := by
  intro ws S Q h
  unfold sp_Talk_say at h
  repeat (first | (obtain ⟨rfl, _⟩ := h; rfl) | (obtain ⟨_, h⟩ := h))
theorem mo_Talk_tell {C : Addr} : MonoSp (sp_Talk_tell C) := by
  intro ws S Q Q' h q
  unfold sp_Talk_tell at q ⊢
  repeat (first | exact h _ _ q | (refine Exists.elim q fun x q => Exists.intro x ?_) | (refine And.intro q.1 ?_; replace q := q.2) | (intro x; replace q := q x) | (refine ⟨fun hh => h _ _ (q.1 hh), ?_⟩; replace q := q.2))
theorem le_Talk_tell {C : Addr} : ∀ ws S Q, (sp_Talk_tell C) ws S Q → ws.length = 2 := by
  intro ws S Q h
  unfold sp_Talk_tell at h
  repeat (first | (obtain ⟨rfl, _⟩ := h; rfl) | (obtain ⟨_, h⟩ := h))
theorem mo_Talk_gift {C : Addr} : MonoSp (sp_Talk_gift C) := by
  intro ws S Q Q' h q
  unfold sp_Talk_gift at q ⊢
  repeat (first | exact h _ _ q | (refine Exists.elim q fun x q => Exists.intro x ?_) | (refine And.intro q.1 ?_; replace q := q.2) | (intro x; replace q := q x) | (refine ⟨fun hh => h _ _ (q.1 hh), ?_⟩; replace q := q.2))
theorem le_Talk_gift {C : Addr} : ∀ ws S Q, (sp_Talk_gift C) ws S Q → ws.length = 2 := by
  intro ws S Q h
  unfold sp_Talk_gift at h
  repeat (first | (obtain ⟨rfl, _⟩ := h; rfl) | (obtain ⟨_, h⟩ := h))
theorem mo_Talk_close {C : Addr} : MonoSp (sp_Talk_close C) := by
  intro ws S Q Q' h q
  unfold sp_Talk_close at q ⊢
  repeat (first | exact h _ _ q | (refine Exists.elim q fun x q => Exists.intro x ?_) | (refine And.intro q.1 ?_; replace q := q.2) | (intro x; replace q := q x) | (refine ⟨fun hh => h _ _ (q.1 hh), ?_⟩; replace q := q.2))
theorem le_Talk_close {C : Addr} : ∀ ws S Q, (sp_Talk_close C) ws S Q → ws.length = 2 := by
  intro ws S Q h
  unfold sp_Talk_close at h
  repeat (first | (obtain ⟨rfl, _⟩ := h; rfl) | (obtain ⟨_, h⟩ := h))
theorem mo_Talk_all_told {C : Addr} : MonoSp (sp_Talk_all_told C) := by
  intro ws S Q Q' h q
  unfold sp_Talk_all_told at q ⊢
  repeat (first | exact h _ _ q | (refine Exists.elim q fun x q => Exists.intro x ?_) | (refine And.intro q.1 ?_; replace q := q.2) | (intro x; replace q := q x) | (refine ⟨fun hh => h _ _ (q.1 hh), ?_⟩; replace q := q.2))
theorem le_Talk_all_told {C : Addr} : ∀ ws S Q, (sp_Talk_all_told C) ws S Q → ws.length = 1 := by
  intro ws S Q h
  unfold sp_Talk_all_told at h
  repeat (first | (obtain ⟨rfl, _⟩ := h; rfl) | (obtain ⟨_, h⟩ := h))
theorem mo_Walk_init {C : Addr} : MonoSp (sp_Walk_init C) := by
  intro ws S Q Q' h q
  unfold sp_Walk_init at q ⊢
  repeat (first | exact h _ _ q | (refine Exists.elim q fun x q => Exists.intro x ?_) | (refine And.intro q.1 ?_; replace q := q.2) | (intro x; replace q := q x) | (refine ⟨fun hh => h _ _ (q.1 hh), ?_⟩; replace q := q.2))
theorem le_Walk_init {C : Addr} : ∀ ws S Q, (sp_Walk_init C) ws S Q → ws.length = 3 := by
  intro ws S Q h
  unfold sp_Walk_init at h
  repeat (first | (obtain ⟨rfl, _⟩ := h; rfl) | (obtain ⟨_, h⟩ := h))
theorem mo_Walk_body {C : Addr} {D : Addr} {n : Nat} : MonoSp (sp_Walk_body C D n) := by
  intro ws S Q Q' h q
  unfold sp_Walk_body WkSp at q ⊢
  repeat (first | exact h _ _ q | (refine Exists.elim q fun x q => Exists.intro x ?_) | (refine And.intro q.1 ?_; replace q := q.2) | (intro x; replace q := q x) | (refine ⟨fun hh => h _ _ (q.1 hh), ?_⟩; replace q := q.2))
theorem le_Walk_body {C : Addr} {D : Addr} {n : Nat} : ∀ ws S Q, (sp_Walk_body C D n) ws S Q → ws.length = 3 := by
  intro ws S Q h
  unfold sp_Walk_body WkSp at h
  repeat (first | (obtain ⟨rfl, _⟩ := h; rfl) | (obtain ⟨_, h⟩ := h))
theorem mo_Walk_step {C : Addr} {D : Addr} {n : Nat} : MonoSp (sp_Walk_step C D n) := by
  intro ws S Q Q' h q
  unfold sp_Walk_step WkSp at q ⊢
  repeat (first | exact h _ _ q | (refine Exists.elim q fun x q => Exists.intro x ?_) | (refine And.intro q.1 ?_; replace q := q.2) | (intro x; replace q := q x) | (refine ⟨fun hh => h _ _ (q.1 hh), ?_⟩; replace q := q.2))
theorem le_Walk_step {C : Addr} {D : Addr} {n : Nat} : ∀ ws S Q, (sp_Walk_step C D n) ws S Q → ws.length = 3 := by
  intro ws S Q h
  unfold sp_Walk_step WkSp at h
  repeat (first | (obtain ⟨rfl, _⟩ := h; rfl) | (obtain ⟨_, h⟩ := h))
theorem mo_Walk_rounds {C : Addr} {D : Addr} {n : Nat} : MonoSp (sp_Walk_rounds C D n) := by
  intro ws S Q Q' h q
  unfold sp_Walk_rounds WkSp at q ⊢
  repeat (first | exact h _ _ q | (refine Exists.elim q fun x q => Exists.intro x ?_) | (refine And.intro q.1 ?_; replace q := q.2) | (intro x; replace q := q x) | (refine ⟨fun hh => h _ _ (q.1 hh), ?_⟩; replace q := q.2))
theorem le_Walk_rounds {C : Addr} {D : Addr} {n : Nat} : ∀ ws S Q, (sp_Walk_rounds C D n) ws S Q → ws.length = 4 := by
  intro ws S Q h
  unfold sp_Walk_rounds WkSp at h
  repeat (first | (obtain ⟨rfl, _⟩ := h; rfl) | (obtain ⟨_, h⟩ := h))
theorem mo_Walk_handed {C : Addr} {D : Addr} {n : Nat} : MonoSp (sp_Walk_handed C D n) := by
  intro ws S Q Q' h q
  unfold sp_Walk_handed WkSp at q ⊢
  repeat (first | exact h _ _ q | (refine Exists.elim q fun x q => Exists.intro x ?_) | (refine And.intro q.1 ?_; replace q := q.2) | (intro x; replace q := q x) | (refine ⟨fun hh => h _ _ (q.1 hh), ?_⟩; replace q := q.2))
theorem le_Walk_handed {C : Addr} {D : Addr} {n : Nat} : ∀ ws S Q, (sp_Walk_handed C D n) ws S Q → ws.length = 3 := by
  intro ws S Q h
  unfold sp_Walk_handed WkSp at h
  repeat (first | (obtain ⟨rfl, _⟩ := h; rfl) | (obtain ⟨_, h⟩ := h))
theorem mo_Walk_tried {C : Addr} {D : Addr} {n : Nat} : MonoSp (sp_Walk_tried C D n) := by
  intro ws S Q Q' h q
  unfold sp_Walk_tried WkSp at q ⊢
  repeat (first | exact h _ _ q | (refine Exists.elim q fun x q => Exists.intro x ?_) | (refine And.intro q.1 ?_; replace q := q.2) | (intro x; replace q := q x) | (refine ⟨fun hh => h _ _ (q.1 hh), ?_⟩; replace q := q.2))
theorem le_Walk_tried {C : Addr} {D : Addr} {n : Nat} : ∀ ws S Q, (sp_Walk_tried C D n) ws S Q → ws.length = 3 := by
  intro ws S Q h
  unfold sp_Walk_tried WkSp at h
  repeat (first | (obtain ⟨rfl, _⟩ := h; rfl) | (obtain ⟨_, h⟩ := h))
theorem mo_Walk_given {C : Addr} {D : Addr} : MonoSp (sp_Walk_given C D) := by
  intro ws S Q Q' h q
  unfold sp_Walk_given WkSp at q ⊢
  repeat (first | exact h _ _ q | (refine Exists.elim q fun x q => Exists.intro x ?_) | (refine And.intro q.1 ?_; replace q := q.2) | (intro x; replace q := q x) | (refine ⟨fun hh => h _ _ (q.1 hh), ?_⟩; replace q := q.2))
theorem le_Walk_given {C : Addr} {D : Addr} : ∀ ws S Q, (sp_Walk_given C D) ws S Q → ws.length = 4 := by
  intro ws S Q h
  unfold sp_Walk_given WkSp at h
  repeat (first | (obtain ⟨rfl, _⟩ := h; rfl) | (obtain ⟨_, h⟩ := h))
theorem mo_played {n : Nat} {m : Nat} : MonoSp (sp_played n m) := by
  intro ws S Q Q' h q
  unfold sp_played at q ⊢
  repeat (first | exact h _ _ q | (refine Exists.elim q fun x q => Exists.intro x ?_) | (refine And.intro q.1 ?_; replace q := q.2) | (intro x; replace q := q x) | (refine ⟨fun hh => h _ _ (q.1 hh), ?_⟩; replace q := q.2))
theorem le_played {n : Nat} {m : Nat} : ∀ ws S Q, (sp_played n m) ws S Q → ws.length = 4 := by
  intro ws S Q h
  unfold sp_played at h
  repeat (first | (obtain ⟨rfl, _⟩ := h; rfl) | (obtain ⟨_, h⟩ := h))
theorem mo_law_taken  : MonoSp (sp_law_taken) := by
  intro ws S Q Q' h q
  unfold sp_law_taken at q ⊢
  repeat (first | exact h _ _ q | (refine Exists.elim q fun x q => Exists.intro x ?_) | (refine And.intro q.1 ?_; replace q := q.2) | (intro x; replace q := q x) | (refine ⟨fun hh => h _ _ (q.1 hh), ?_⟩; replace q := q.2))
theorem le_law_taken  : ∀ ws S Q, (sp_law_taken) ws S Q → ws.length = 2 := by
  intro ws S Q h
  unfold sp_law_taken at h
  repeat (first | (obtain ⟨rfl, _⟩ := h; rfl) | (obtain ⟨_, h⟩ := h))
theorem mo_law_reckoning {n : Nat} : MonoSp (sp_law_reckoning n) := by
  intro ws S Q Q' h q
  unfold sp_law_reckoning at q ⊢
  repeat (first | exact h _ _ q | (refine Exists.elim q fun x q => Exists.intro x ?_) | (refine And.intro q.1 ?_; replace q := q.2) | (intro x; replace q := q x) | (refine ⟨fun hh => h _ _ (q.1 hh), ?_⟩; replace q := q.2))
theorem le_law_reckoning {n : Nat} : ∀ ws S Q, (sp_law_reckoning n) ws S Q → ws.length = 3 := by
  intro ws S Q h
  unfold sp_law_reckoning at h
  repeat (first | (obtain ⟨rfl, _⟩ := h; rfl) | (obtain ⟨_, h⟩ := h))
theorem mo_law_numbers  : MonoSp (sp_law_numbers) := by
  intro ws S Q Q' h q
  unfold sp_law_numbers at q ⊢
  repeat (first | exact h _ _ q | (refine Exists.elim q fun x q => Exists.intro x ?_) | (refine And.intro q.1 ?_; replace q := q.2) | (intro x; replace q := q x) | (refine ⟨fun hh => h _ _ (q.1 hh), ?_⟩; replace q := q.2))
theorem le_law_numbers  : ∀ ws S Q, (sp_law_numbers) ws S Q → ws.length = 2 := by
  intro ws S Q h
  unfold sp_law_numbers at h
  repeat (first | (obtain ⟨rfl, _⟩ := h; rfl) | (obtain ⟨_, h⟩ := h))
theorem mo_law_alike {n : Nat} : MonoSp (sp_law_alike n) := by
  intro ws S Q Q' h q
  unfold sp_law_alike at q ⊢
  repeat (first | exact h _ _ q | (refine Exists.elim q fun x q => Exists.intro x ?_) | (refine And.intro q.1 ?_; replace q := q.2) | (intro x; replace q := q x) | (refine ⟨fun hh => h _ _ (q.1 hh), ?_⟩; replace q := q.2))
theorem le_law_alike {n : Nat} : ∀ ws S Q, (sp_law_alike n) ws S Q → ws.length = 2 := by
  intro ws S Q h
  unfold sp_law_alike at h
  obtain ⟨_, _, ⟨_, rfl, _⟩ | ⟨_, _, _, _, rfl, _⟩, _⟩ := h <;> rfl
theorem mo_law_reckoned {n : Nat} : MonoSp (sp_law_reckoned n) := by
  intro ws S Q Q' h q
  unfold sp_law_reckoned at q ⊢
  repeat (first | exact h _ _ q | (refine Exists.elim q fun x q => Exists.intro x ?_) | (refine And.intro q.1 ?_; replace q := q.2) | (intro x; replace q := q x) | (refine ⟨fun hh => h _ _ (q.1 hh), ?_⟩; replace q := q.2))
theorem le_law_reckoned {n : Nat} : ∀ ws S Q, (sp_law_reckoned n) ws S Q → ws.length = 2 := by
  intro ws S Q h
  unfold sp_law_reckoned at h
  repeat (first | (obtain ⟨rfl, _⟩ := h; rfl) | (obtain ⟨_, h⟩ := h))
theorem mo_law_steps  : MonoSp (sp_law_steps) := by
  intro ws S Q Q' h q
  unfold sp_law_steps at q ⊢
  repeat (first | exact h _ _ q | (refine Exists.elim q fun x q => Exists.intro x ?_) | (refine And.intro q.1 ?_; replace q := q.2) | (intro x; replace q := q x) | (refine ⟨fun hh => h _ _ (q.1 hh), ?_⟩; replace q := q.2))
theorem le_law_steps  : ∀ ws S Q, (sp_law_steps) ws S Q → ws.length = 2 := by
  intro ws S Q h
  unfold sp_law_steps at h
  repeat (first | (obtain ⟨rfl, _⟩ := h; rfl) | (obtain ⟨_, h⟩ := h))
theorem mo_law_gone  : MonoSp (sp_law_gone) := by
  intro ws S Q Q' h q
  unfold sp_law_gone at q ⊢
  repeat (first | exact h _ _ q | (refine Exists.elim q fun x q => Exists.intro x ?_) | (refine And.intro q.1 ?_; replace q := q.2) | (intro x; replace q := q x) | (refine ⟨fun hh => h _ _ (q.1 hh), ?_⟩; replace q := q.2))
theorem le_law_gone  : ∀ ws S Q, (sp_law_gone) ws S Q → ws.length = 2 := by
  intro ws S Q h
  unfold sp_law_gone at h
  repeat (first | (obtain ⟨rfl, _⟩ := h; rfl) | (obtain ⟨_, h⟩ := h))
theorem mo_law  : MonoSp (sp_law) := by
  intro ws S Q Q' h q
  unfold sp_law at q ⊢
  repeat (first | exact h _ _ q | (refine Exists.elim q fun x q => Exists.intro x ?_) | (refine And.intro q.1 ?_; replace q := q.2) | (intro x; replace q := q x) | (refine ⟨fun hh => h _ _ (q.1 hh), ?_⟩; replace q := q.2))
theorem le_law  : ∀ ws S Q, (sp_law) ws S Q → ws.length = 1 := by
  intro ws S Q h
  unfold sp_law at h
  repeat (first | (obtain ⟨rfl, _⟩ := h; rfl) | (obtain ⟨_, h⟩ := h))
section
variable {P : Program} {w : World} {K : PySem.W.Frag} {mg : Str → Option Value} {base : Heap}
theorem fn_no {k : Nat} {f : Addr} {fd : FuncData} {ps : List Str} {sp : WSp} (h : ∀ ws S Q, ¬ sp ws S Q) : FnOk P w K mg base CX0 k f fd ps (LowSp K sp) := by
  have no : ∀ vs H Q E, ¬ LowSp K sp vs H Q E := fun vs H Q E ⟨ws, S, _, _, q⟩ => h ws S _ q
  exact ⟨fun vs H Q E h => absurd h (no vs H Q E), fun A outer s H args us vs Q E _ _ _ _ h => absurd h (no vs H Q E)⟩
end
theorem no_is_reckoning : ∀ ws S Q, ¬ sp_is_reckoning 0 ws S Q := fun ws S Q ⟨_, _, _, _, h, _⟩ => Nat.not_lt_zero _ h
theorem no_is_body : ∀ ws S Q, ¬ sp_is_body 0 ws S Q := fun ws S Q ⟨_, _, _, _, _, _, _, _, _, h, _⟩ => Nat.not_lt_zero _ h
theorem no_all_steps : ∀ ws S Q, ¬ sp_all_steps 0 ws S Q := fun ws S Q ⟨_, _, h, _⟩ => Nat.not_lt_zero _ h
theorem no_reckoned : ∀ ws S Q, ¬ sp_reckoned 0 ws S Q := fun ws S Q ⟨_, _, _, _, _, _, _, h, _⟩ => Nat.not_lt_zero _ h
theorem no_law_reckoned : ∀ ws S Q, ¬ sp_law_reckoned 0 ws S Q := fun ws S Q ⟨_, _, _, _, _, _, _, h, _⟩ => Nat.not_lt_zero _ h
theorem no_law_reckoning : ∀ ws S Q, ¬ sp_law_reckoning 0 ws S Q := fun ws S Q ⟨_, _, _, _, _, _, _, h, _⟩ => Nat.not_lt_zero _ h
theorem no_law_alike : ∀ ws S Q, ¬ sp_law_alike 0 ws S Q := fun ws S Q ⟨_, h, _⟩ => Nat.not_lt_zero _ h
theorem no_Walk_body {C D : Addr} : ∀ ws S Q, ¬ sp_Walk_body C D 0 ws S Q := fun ws S Q ⟨_, _, h, _⟩ => Nat.not_lt_zero _ h
theorem no_Walk_step {C D : Addr} : ∀ ws S Q, ¬ sp_Walk_step C D 0 ws S Q := fun ws S Q ⟨_, _, h, _⟩ => Nat.not_lt_zero _ h
theorem no_Walk_rounds {C D : Addr} : ∀ ws S Q, ¬ sp_Walk_rounds C D 0 ws S Q := fun ws S Q ⟨_, _, _, h, _⟩ => Nat.not_lt_zero _ h
end WL

namespace WL
open PySem PySem.Spec PyProof.Rows L2
section
variable {X : Cx} {a : Expr} {ta : WE}
/-- a new list of the numbers below -/
def wLstR (ta : WE) : WE := fun r S Q => ta r S fun x S1 => match x with
  | .int j => (0 ≤ j ∧ j ≤ 16777216) ∧ ∀ p, S1 p = none → Q (.ref p) (put S1 p (.lst ((List.range j.toNat).map fun i => W.int (i : Nat))))
  | _ => False
theorem rels_rg {K : PySem.W.Frag} {H : Hp} : ∀ (l : List Nat), Rels K H (l.map fun i => W.int (i : Nat)) (l.map fun (i : Nat) => V.int (0 + (i : Int)))
  | [] => by simp only [List.map_nil, Rels]
  | n :: l => by
    simp only [List.map_cons, Rels]
    exact ⟨_, _, rfl, by simp only [Rel, Int.zero_add], rels_rg l⟩
theorem de_lstR {p p2 pos pos2 : Pos} (hc : X.calm = true) (hgl : Gl X "range") (hm : X.mg "range" = none) (hg2 : Gl X "list") (hm2 : X.mg "list" = none) (ha : DE X a ta) (na : starEach [a] X.env = [(false, eval a X.env)] := by rfl)
    (na2 : starEach [.Call (.Name "range" p) [a] [] pos] X.env = [(false, eval (.Call (.Name "range" p) [a] [] pos) X.env)] := by rfl) : DE X (.Call (.Name "list" p2) [.Call (.Name "range" p) [a] [] pos] [] pos2) (wLstR ta) := by
  refine ⟨fun r S Q Q' hq q => ha.mono _ _ _ _ (fun x S1 q1 => ?_) q, weakE (pe_listRg hc hg2 hm2 (prg_1 hgl hm ha.pe na) na2) fun st H Q ⟨r, S, g, gs, q⟩ => ⟨r, S, g, gs, ha.mono _ _ _ _ (fun x S1 q1 H1 v e1 g1 r1 => ?_) q⟩⟩
  · split at q1
    · exact ⟨q1.1, fun p hp => hq _ _ (q1.2 p hp)⟩
    · exact q1.elim
  · split at q1
    · rename_i j
      simp only [Rel] at r1
      subst r1
      obtain ⟨⟨h0, h1⟩, q1⟩ := q1
      refine ⟨j, rfl, RgOk.of_le (Int.le_refl 0) h1 (by decide) h0, fun p hp => ?_⟩
      refine q1 p (g1.free hp) _ _ (e1.trans (Ext.new hp)) (new_lst g1 hp ?_) (by simp only [Rel])
      unfold rgV
      rw [Int.sub_zero]
      exact rels_rg _
    · exact q1.elim
end
end WL

namespace WL
open PySem L2
local macro_rules | `(tactic| walk_at "wx") => `(tactic| simp only [↓x_var0, ↓x_varS, ↓x_c, ↓x_op, ↓x_b, ↓x_chain, ↓x_and, ↓x_or, ↓x_not, ↓x_andV, ↓x_orV, ↓x_notV, ↓x_if, ↓x_orT, ↓x_tr, ↓x_neg, ↓x_nil, ↓x_cons, ↓x_tup, ↓x_lst, ↓x_call, ↓x_lm, ↓x_lm0, ↓x_seq, ↓x_next, ↓x_ifS, ↓x_ret, ↓x_retN, ↓x_drop, ↓x_asg, ↓x_gname, ↓x_gtup, ↓x_gcons, ↓x_gnil, ↓x_gsub, ↓x_set, ↓x_for, ↓x_forR1, ↓x_lc, ↓x_lcR, ↓x_fld, ↓x_setF, ↓x_meth, ↓x_make, ↓x_sl, ↓x_part, ↓x_noPart, ↓x_yes, onB_bl, onS_some, onL_lst, onQ_some, onI_ins, onD_dk, onR_ref, onT_tup, onBo_some, x_app, x_clr, x_ext, v_add, v_addT, v_addS, v_addL, v_sub, v_mul, v_rep, v_mod, v_div, v_pow, v_lt, v_le, v_gt, v_ge, v_isN, v_notN, n_non, n_bl, n_int, n_str, n_ref, n_tup, q_ss, q_ii, q_bb, q_nn, q_is, q_si, q_in, q_ni, q_sn, q_ns, d_ss, d_ii, d_bb, d_nn, d_in, d_ni, ix_t, ix_r, ix_l, in_t, notin_t, fl_s, fl_i, fl_n, so_t, so_r, so_lp, len_t, len_r, len_s, int_i, int_b, list_x, tuple_x, min_ii, max_ii, sl_t, sl_l, look_nil, look_cons, putW_nil, putW_cons, x_inKd, x_notinKd, x_getKd, x_dget, key_s, key_i, val_nil, val_cons, inr_eq, start1, line_lt, atI0, atI1, atI2, atI3, atI4, List.map_cons, List.map_nil, List.cons_append, List.nil_append, List.set_cons_zero, List.set_cons_succ, List.length_cons, List.length_nil, List.all_cons, List.all_nil, List.replicate_succ, List.replicate_zero, Nat.reduceAdd, Nat.reduceSub, Nat.zero_add, wd_inj, Nat.reduceLT, Nat.reduceEqDiff, decide_true, decide_false, Bool.false_eq_true, Bool.true_eq_false, Bool.not_true, Bool.not_false, Bool.or_false, Bool.false_or, Bool.or_true, Bool.true_or, Bool.and_self, Bool.and_true, Bool.true_and, ↓reduceIte, reduceCtorEq, line_le, Nat.reduceLeDiff, true_and, and_true, and_self, Option.isSome_some, Option.isSome_none, Int.reduceLT, Int.reduceLE, Int.reduceEq, Int.reduceNeg, put_same, ci0, ci1, ci2, ci3, ci4, ci5, ci6, W_PAIRS, startW, it_t, it_i, it_s, it_n, it_b, il_t, il_i, il_s, il_n, il_b, itl_t, ib_i, ib_s, ib_b, is_i, is_s, ii_i])
local macro_rules | `(tactic| walk_at "ws") => `(tactic| simp only [↓x_var0, ↓x_varS, ↓x_c, ↓x_op, ↓x_b, ↓x_chain, ↓x_and, ↓x_or, ↓x_not, ↓x_andV, ↓x_orV, ↓x_notV, ↓x_if, ↓x_orT, ↓x_tr, ↓x_neg, ↓x_nil, ↓x_cons, ↓x_tup, ↓x_lst, ↓x_call, ↓x_lm, ↓x_lm0, ↓x_seq, ↓x_next, ↓x_ifS, ↓x_ret, ↓x_retN, ↓x_drop, ↓x_asg, ↓x_gname, ↓x_gtup, ↓x_gcons, ↓x_gnil, ↓x_gsub, ↓x_set, ↓x_for, ↓x_forR1, ↓x_lc, ↓x_lcR, ↓x_fld, ↓x_setF, ↓x_meth, ↓x_make, ↓x_sl, ↓x_part, ↓x_noPart, ↓x_yes, onB_bl, onS_some, onL_lst, onQ_some, onI_ins, onD_dk, onR_ref, onT_tup, onBo_some, x_app, x_clr, x_ext, v_add, v_addT, v_addS, v_addL, v_sub, v_mul, v_rep, v_mod, v_div, v_pow, v_lt, v_le, v_gt, v_ge, v_isN, v_notN, n_non, n_bl, n_int, n_str, n_ref, n_tup, q_ss, q_ii, q_bb, q_nn, q_is, q_si, q_in, q_ni, q_sn, q_ns, d_ss, d_ii, d_bb, d_nn, d_in, d_ni, ix_t, ix_r, ix_l, in_t, notin_t, fl_s, fl_i, fl_n, so_t, so_r, so_lp, len_t, len_r, len_s, int_i, int_b, list_x, tuple_x, min_ii, max_ii, sl_t, sl_l, look_nil, look_cons, putW_nil, putW_cons, x_inKd, x_notinKd, x_getKd, x_dget, key_s, key_i, val_nil, val_cons, inr_eq, start1, line_lt, atI0, atI1, atI2, atI3, atI4, List.map_cons, List.map_nil, List.cons_append, List.nil_append, List.set_cons_zero, List.set_cons_succ, List.length_cons, List.length_nil, List.all_cons, List.all_nil, List.replicate_succ, List.replicate_zero, Nat.reduceAdd, Nat.reduceSub, Nat.zero_add, wd_inj, Nat.reduceLT, Nat.reduceEqDiff, decide_true, decide_false, Bool.false_eq_true, Bool.true_eq_false, Bool.not_true, Bool.not_false, Bool.or_false, Bool.false_or, Bool.or_true, Bool.true_or, Bool.and_self, Bool.and_true, Bool.true_and, ↓reduceIte, reduceCtorEq, line_le, Nat.reduceLeDiff, true_and, and_true, and_self, Option.isSome_some, Option.isSome_none, Int.reduceLT, Int.reduceLE, Int.reduceEq, Int.reduceNeg, put_same, ci0, ci1, ci2, ci3, ci4, ci5, ci6, W_PAIRS, startW, *, it_t, it_i, it_s, it_n, it_b, il_t, il_i, il_s, il_n, il_b, itl_t, ib_i, ib_s, ib_b, is_i, is_s, ii_i])

namespace K3
/-- law_deeds: row most found turn number way -/
def l_law_deeds_1 (sp_law_taken : WSp) : WS :=
  (wSeq (wAsg (wCall sp_law_taken (wCons (wVar 0) (wCons (wOp rIxW (wLst (wCons (wC (.int 4)) (wCons (wC (.int 1000)) wNil))) (wCall sp_law_taken (wCons (wVar 0) (wCons (wC (.int 2)) wNil)))) wNil))) (gNameW 4))
  (wSeq (wAsg (wCall sp_law_taken (wCons (wVar 0) (wCons (wOp rIxW (wLst (wCons (wC (.int 24)) (wCons (wC (.int 9)) wNil))) (wCall rIntW (wCons (wOp rGt (wVar 3) (wC (.int 0))) wNil))) wNil))) (gNameW 5))
  (wDrop (wLm rAppW (wVar 2) (wCons (wOp rIxW (wLst (wCons (wTup (wCons (wC (.str w_ask)) (wCons (wVar 4) wNil))) (wCons (wTup (wCons (wC (.str w_throw)) (wCons (wVar 4) wNil))) (wCons (wTup (wCons (wC (.str w_shut)) wNil)) wNil)))) (wOp rMulW (wOp rMulW (wCall rIntW (wCons (wOp rGt (wVar 5) (wC (.int 5))) wNil)) (wCall rIntW (wCons (wOp rLt (wVar 5) (wC (.int 9))) wNil))) (wOp rAddW (wC (.int 1)) (wOp rDiv (wVar 5) (wC (.int 8)))))) wNil)))))
def t_law_deeds (sp_law_taken : WSp) : WS :=
  (wSeq (wAsg (wLst wNil) (gNameW 2))
  (wSeq (wForR1 (wCons (wCall sp_law_taken (wCons (wVar 0) (wCons (wOp rAddW (wVar 1) (wC (.int 1))) wNil))) wNil) (gNameW 3)
  (l_law_deeds_1 sp_law_taken))
  (wRet (wVar 2))))
/-- law_steps: row slots found turn e way -/
def l_law_steps_1 (sp_law_reckoning sp_law_taken : WSp) : WS :=
  (wSeq (wAsg (wCall sp_law_reckoning (wCons (wVar 0) (wCons (wVar 1) (wCons (wCall sp_law_taken (wCons (wVar 0) (wCons (wC (.int 2)) wNil))) wNil)))) (gNameW 4))
  (wSeq (wAsg (wCall sp_law_taken (wCons (wVar 0) (wCons (wC (.int 5)) wNil))) (gNameW 5))
  (wIfS (wB (wOp rLt (wVar 5) (wC (.int 3))))
  (wDrop (wLm rAppW (wVar 2) (wCons (wTup (wCons (wC (.str w_give)) (wCons (wVar 4) (wCons (wOp rIxW (wOp rAddW (wLst (wCons (wC .non) wNil)) (wLstR (wVar 1))) (wCall sp_law_taken (wCons (wVar 0) (wCons (wOp rAddW (wVar 1) (wC (.int 1))) wNil)))) wNil)))) wNil)))
  (wDrop (wLm rAppW (wVar 2) (wCons (wOp rIxW (wLst (wCons (wTup (wCons (wC (.str w_set)) (wCons (wCall sp_law_taken (wCons (wVar 0) (wCons (wVar 1) wNil))) (wCons (wVar 4) wNil)))) (wCons (wTup (wCons (wC (.str w_say)) (wCons (wVar 4) wNil))) wNil))) (wOp rSubW (wVar 5) (wC (.int 3)))) wNil))))))
def t_law_steps (sp_law_reckoning sp_law_taken : WSp) : WS :=
  (wSeq (wAsg (wLst wNil) (gNameW 2))
  (wSeq (wForR1 (wCons (wCall sp_law_taken (wCons (wVar 0) (wCons (wC (.int 11)) wNil))) wNil) (gNameW 3)
  (l_law_steps_1 sp_law_reckoning sp_law_taken))
  (wRet (wCall rTupleW (wCons (wVar 2) wNil)))))
/-- law_gone: steps_here slots deeds_here found words step number deed -/
def l_law_gone_1 (sp_law_reckoned : WSp) : WS :=
  (wSeq (wAsg (wCall sp_law_reckoned (wCons (wOp rIxW (wVar 5) (wOp rAddW (wC (.int 1)) (wCall rIntW (wCons (wOp rEqW (wOp rIxW (wVar 5) (wC (.int 0))) (wC (.str w_set))) wNil)))) (wCons (wVar 1) wNil))) (gNameW 6))
  (wSeq (wIfS (wB (wOp rIsN (wVar 6) (wC .non)))
  (wRet (wOp rAddW (wVar 3) (wLst (wCons (wTup (wCons (wCall rTupleW (wCons (wVar 4) wNil)) (wCons (wTup (wCons (wC (.str w_fault)) (wCons (wC (.int 0)) wNil))) wNil))) wNil))))
  wNext)
  (wSeq (wIfS (wB (wOp rEqW (wOp rIxW (wVar 5) (wC (.int 0))) (wC (.str w_set))))
  (wAsg (wVar 6) (gSubW (wVar 1) (wOp rIxW (wVar 5) (wC (.int 1)))))
  wNext)
  (wSeq (wIfS (wB (wOp rEqW (wOp rIxW (wVar 5) (wC (.int 0))) (wC (.str w_say))))
  (wDrop (wLm rAppW (wVar 4) (wCons (wVar 6) wNil)))
  wNext)
  (wIfS (wB (wOp rEqW (wOp rIxW (wVar 5) (wC (.int 0))) (wC (.str w_give))))
  (wSeq (wDrop (wLm rAppW (wVar 3) (wCons (wTup (wCons (wCall rTupleW (wCons (wVar 4) wNil)) (wCons (wTup (wCons (wC (.str w_gift)) (wCons (wVar 6) wNil))) wNil))) wNil)))
  (wSeq (wAsg (wLst wNil) (gNameW 4))
  (wSeq (wIfS (wB (wOp rEqW (wCall rLenW (wCons (wVar 3) wNil)) (wCall rLenW (wCons (wVar 2) wNil))))
  (wRet (wVar 3))
  wNext)
  (wSeq (wAsg (wOp rIxW (wVar 2) (wCall rLenW (wCons (wVar 3) wNil))) (gNameW 7))
  (wSeq (wIfS (wB (wOp rNeW (wOp rIxW (wVar 7) (wC (.int 0))) (wC (.str w_ask))))
  (wRet (wIf (wB (wOp rEqW (wOp rIxW (wVar 7) (wC (.int 0))) (wC (.str w_throw)))) (wOp rAddW (wVar 3) (wLst (wCons (wTup (wCons (wTup wNil) (wCons (wOp rAddW (wTup (wCons (wC (.str w_fault)) wNil)) (wSl (wVar 7) (wPart (wC (.int 1))) wNoPart)) wNil))) wNil))) (wOp rAddW (wVar 3) (wLst (wCons (wTup (wCons (wTup wNil) (wCons (wVar 7) wNil))) wNil)))))
  wNext)
  (wIfS (wB (wOp rNotN (wOp rIxW (wVar 5) (wC (.int 2))) (wC .non)))
  (wAsg (wOp rIxW (wVar 7) (wC (.int 1))) (gSubW (wVar 1) (wOp rIxW (wVar 5) (wC (.int 2)))))
  wNext))))))
  wNext)))))
def t_law_gone (sp_law_reckoned : WSp) : WS :=
  (wSeq (wAsg (wLst wNil) (gNameW 3))
  (wSeq (wAsg (wLst wNil) (gNameW 4))
  (wSeq (wFor (wVar 0) (gNameW 5)
  (l_law_gone_1 sp_law_reckoned))
  (wRet (wOp rAddW (wVar 3) (wLst (wCons (wTup (wCons (wCall rTupleW (wCons (wVar 4) wNil)) (wCons (wTup (wCons (wC (.str w_end)) (wCons (wC (.int 0)) wNil))) wNil))) wNil)))))))
/-- law_over: deed -/
def t_law_over  : WS :=
  (wSeq (wIfS (wB (wOp rEqW (wOp rIxW (wVar 0) (wC (.int 0))) (wC (.str w_throw))))
  (wRet (wTup (wCons (wTup wNil) (wCons (wTup (wCons (wC (.str w_fault)) (wCons (wOp rIxW (wVar 0) (wC (.int 1))) wNil))) wNil))))
  wNext)
  (wRet (wTup (wCons (wTup wNil) (wCons (wOp rIxW (wLst (wCons (wTup (wCons (wC (.str w_over)) wNil)) (wCons (wTup (wCons (wC (.str w_shut)) wNil)) wNil))) (wCall rIntW (wCons (wOp rEqW (wOp rIxW (wVar 0) (wC (.int 0))) (wC (.str w_shut))) wNil))) wNil)))))
/-- law: script row turn slots params steps_here numbers_here deeds_here due deed program handed -/
def l_law_1 (sp_law_taken sp_law_steps sp_law_numbers sp_law_deeds sp_law_gone sp_law_over sp_law_alike sp_played : WSp) : WS :=
  (wSeq (wAsg (wOp rAddW (wVar 8) (wLc (wSl (wVar 7) (wPart (wCall rLenW (wCons (wVar 8) wNil))) wNoPart) 9 wYes (wCall sp_law_over (wCons (wVar 9) wNil)))) (gNameW 8))
  (wSeq (wAsg (wLst (wCons (wTup (wCons (wVar 4) (wCons (wVar 3) (wCons (wVar 5) wNil)))) wNil)) (gNameW 10))
  (wSeq (wAsg (wLst (wCons (wCall rListW (wCons (wVar 10) wNil)) (wCons (wCall rListW (wCons (wVar 7) wNil)) wNil))) (gNameW 11))
  (wSeq (wIfS (wOr (wNot (wB (wCall sp_law_alike (wCons (wCall sp_played (wCons (wOp rIxW (wVar 11) (wC (.int 0))) (wCons (wC (.int 0)) (wCons (wVar 6) (wCons (wOp rIxW (wVar 11) (wC (.int 1))) wNil))))) (wCons (wVar 8) wNil))))) (wB (wOp rNeW (wVar 11) (wLst (wCons (wVar 10) (wCons (wVar 7) wNil))))))
  (wRet (wC (.bl false)))
  wNext)
  (wIfS (wB (wOp rNeW (wCall sp_played (wCons (wOp rIxW (wVar 11) (wC (.int 0))) (wCons (wC (.int 0)) (wCons (wVar 6) (wCons (wLst wNil) wNil))))) (wLst wNil)))
  (wRet (wC (.bl false)))
  wNext)))))
def l_law_2 (sp_law_taken sp_law_steps sp_law_numbers sp_law_deeds sp_law_gone sp_law_over sp_law_alike sp_played : WSp) : WS :=
  (wSeq (wAsg (wOp rAddW (wC (.int 1)) (wCall sp_law_taken (wCons (wVar 1) (wCons (wC (.int 4)) wNil)))) (gNameW 3))
  (wSeq (wAsg (wCall sp_law_taken (wCons (wVar 1) (wCons (wCall rMinW (wCons (wC (.int 3)) (wCons (wOp rAddW (wVar 3) (wC (.int 1))) wNil))) wNil))) (gNameW 4))
  (wSeq (wAsg (wCall sp_law_steps (wCons (wVar 1) (wCons (wVar 3) wNil))) (gNameW 5))
  (wSeq (wAsg (wCall sp_law_numbers (wCons (wVar 1) (wCons (wVar 4) wNil))) (gNameW 6))
  (wSeq (wAsg (wCall sp_law_deeds (wCons (wVar 1) (wCons (wC (.int 9)) wNil))) (gNameW 7))
  (wSeq (wAsg (wLst wNil) (gNameW 8))
  (wSeq (wIfS (wAnd (wB (wOp rNeW (wVar 7) (wLst wNil))) (wB (wOp rEqW (wOp rIxW (wOp rIxW (wVar 7) (wC (.int 0))) (wC (.int 0))) (wC (.str w_ask)))))
  (wAsg (wCall sp_law_gone (wCons (wVar 5) (wCons (wOp rAddW (wCall rListW (wCons (wVar 6) wNil)) (wOp rMulW (wLst (wCons (wC (.int 0)) wNil)) (wOp rSubW (wVar 3) (wVar 4)))) (wCons (wVar 7) wNil)))) (gNameW 8))
  wNext)
  (l_law_1 sp_law_taken sp_law_steps sp_law_numbers sp_law_deeds sp_law_gone sp_law_over sp_law_alike sp_played))))))))
def t_law (sp_law_taken sp_law_steps sp_law_numbers sp_law_deeds sp_law_gone sp_law_over sp_law_alike sp_played : WSp) : WS :=
  (wSeq (wAsg (wLst (wCons (wVar 0) (wCons (wC (.int 0)) (wCons (wC (.int 0)) (wCons (wC (.int 0)) wNil))))) (gNameW 1))
  (wSeq (wForR1 (wCons (wC (.int 3)) wNil) (gNameW 2)
  (l_law_2 sp_law_taken sp_law_steps sp_law_numbers sp_law_deeds sp_law_gone sp_law_over sp_law_alike sp_played))
  (wRet (wC (.bl true)))))
theorem two_at {v : Int} (h0 : 0 ≤ v) (h : v < 2) : ∃ m : Int, atI [W.int 4, .int 1000] v = some (.int m) ∧ 0 < m ∧ m ≤ 1000 := by
  obtain rfl | rfl : v = 0 ∨ v = 1 := by omega
  · exact ⟨4, rfl, by decide, by decide⟩
  · exact ⟨1000, rfl, by decide, by decide⟩
def sp_law_deeds : WSp := fun ws S Q => ∃ (row : Addr) (ns : List Int) (most : Nat), ws = [.ref row, .int most] ∧ most ≤ 500 ∧ RowAt S row ns ∧ ∀ (ds : List Deed) S' p, ds.length ≤ most → (∀ d ∈ ds, d.ok) → RowAt S' row ns → Fr row S S' → S p = none → S' p = some (deedsM ds) → p ≠ row → Q (.ref p) S'
theorem deed_pick {n u : Int} (hn : InR n) (u0 : 0 ≤ u) (u1 : u < 24) : ∃ d : Deed, atI [W.tup [.str w_ask, .int n], .tup [.str w_throw, .int n], .tup [.str w_shut]] ((if decide (5 < u) = true then 1 else 0) * (if decide (u < 9) = true then 1 else 0) * (1 + u / 8)) = some d.W ∧ d.ok := by
  by_cases a : 5 < u
  · by_cases b : u < 9
    · by_cases c : u < 8
      · have e : u / 8 = 0 := by omega
        rw [if_pos (decide_eq_true a), if_pos (decide_eq_true b), e]
        exact ⟨.throw n, rfl, hn⟩
      · have e : u / 8 = 1 := by omega
        rw [if_pos (decide_eq_true a), if_pos (decide_eq_true b), e]
        exact ⟨.shut, rfl, trivial⟩
    · rw [if_pos (decide_eq_true a), if_neg (by rw [decide_eq_true_eq]; exact b), Int.mul_zero, Int.zero_mul]
      exact ⟨.ask n, rfl, hn⟩
  · rw [if_neg (by rw [decide_eq_true_eq]; exact a), Int.zero_mul, Int.zero_mul]
    exact ⟨.ask n, rfl, hn⟩
theorem deeds_loop {row : Addr} {ns : List Int} {S0 : Sto} {fo : Addr} (ff : S0 fo = none) (nr : fo ≠ row) {D : WD} {x1 : Option W} {M : Nat} (hM : M ≤ 1000) (q : ∀ (ds : List Deed) S' x3 x4 x5, ds.length ≤ M → (∀ d ∈ ds, d.ok) → RowAt S' row ns → Fr row S0 S' → S' fo = some (deedsM ds) → D.nx [some (.ref row), x1, some (.ref fo), x3, x4, x5] S') : ∀ (xs : List Nat) (ds : List Deed) (S : Sto) (x3 x4 x5 : Option W),
    ds.length + xs.length ≤ M → (∀ d ∈ ds, d.ok) → RowAt S row ns → Fr row S0 S → S fo = some (deedsM ds) →
    forW (fun _ => True) (gNameW 3) (l_law_deeds_1 sp_law_taken) (xs.map fun i => W.int (i : Nat)) D [some (.ref row), x1, some (.ref fo), x3, x4, x5] S
  | [], ds, S, x3, x4, x5, hl, he, R, F, hf => by
    simp only [List.map_nil, forW]
    exact ⟨trivial, q ds S _ _ _ (by simpa using hl) he R F hf⟩
  | x :: xs, ds, S, x3, x4, x5, hl, he, R, F, hf => by
    rw [List.length_cons] at hl
    simp only [List.map_cons, forW, l_law_deeds_1]
    refine ⟨trivial, ?_⟩
    walk_at "wx"
    intro p1 hp1
    refine taken_ok (R.le (Le.put hp1)) (by decide) (by decide) fun v S1 v0 v1 R1 F1 => ?_
    have h1 := F1.ne (o := .lst [.int 4, .int 1000]) put_same (Ne.symm (R.ne hp1))
    obtain ⟨m, hm, m0, m1⟩ := two_at v0 v1
    simp only [ix_l, h1, onL_lst, hm]
    walk_at "wx"
    refine taken_ok R1 m0 (by omega) fun n S2 n0 n1 R2 F2 => ?_
    have F2' := F1.trans F2
    have hf2 : S2 fo = some (deedsM ds) := F2' fo _ nr (Le.put hp1 _ _ hf)
    have F02 : Fr row S0 S2 := F.trans ((Fr.le (Le.put hp1)).trans F2')
    clear hm h1 hp1
    intro p2 hp2
    have j : ∃ k : Int, atI [W.int 24, .int 9] (if decide ((0 : Int) < (x : Int)) = true then 1 else 0) = some (.int k) ∧ 0 < k ∧ k ≤ 24 := by
      split
      · exact ⟨9, rfl, by decide, by decide⟩
      · exact ⟨24, rfl, by decide, by decide⟩
    obtain ⟨k, hk, k0, k1⟩ := j
    simp only [hk, onS_some]
    refine taken_ok (R2.le (Le.put hp2)) k0 (by omega) fun u S3 u0 u1 R3 F3 => ?_
    have hf3 := F3.ne (Le.put hp2 _ _ hf2) nr
    have F03 := F02.trans ((Fr.le (Le.put hp2)).trans F3)
    walk_at "wx"
    have cc : ∀ a b : Int, (a = 0 ∨ a = 1) → CMul a b := fun a b h => .inl (by rcases h with rfl | rfl <;> exact ⟨by decide, by decide⟩)
    have z1 : ((if decide (5 < u) = true then (1 : Int) else 0) = 0 ∨ (if decide (5 < u) = true then (1 : Int) else 0) = 1) := by split <;> simp
    have z2 : (((if decide (5 < u) = true then (1 : Int) else 0) * (if decide (u < 9) = true then 1 else 0)) = 0 ∨ ((if decide (5 < u) = true then (1 : Int) else 0) * (if decide (u < 9) = true then 1 else 0)) = 1) := by split <;> split <;> simp
    refine ⟨is_lst hf3, fun p3 hp3 => ⟨cc _ _ z1, ⟨by decide, by decide⟩, cc _ _ z2, ?_⟩⟩
    obtain ⟨d, hd1, hd2⟩ := deed_pick (n := n) ⟨n0, by omega⟩ u0 (show u < 24 by omega)
    simp only [hd1, onS_some]
    have nf : fo ≠ p3 := ne_none hf3 hp3
    simp only [put_ne nf, hf3, deedsM, onL_lst]
    refine ⟨small_len (by rw [List.length_map]; omega), ?_⟩
    refine deeds_loop ff nr hM q xs (ds ++ [d]) _ _ _ _ (by rw [List.length_append]; simp only [List.length_cons, List.length_nil]; omega) (fun y hy => (List.mem_append.mp hy).elim (he y) fun hy => by rw [List.mem_singleton.mp hy]; exact hd2) ?_ (fun y o hy e => by rw [put_ne (ne_none e ff)]; exact Le.put hp3 _ _ (F03 y o hy e)) (by rw [put_same, deedsM, List.map_append]; rfl)
    obtain ⟨a, b, c, e, h3⟩ := R3
    exact ⟨a, b, c, by rw [put_ne (Ne.symm nr)]; exact Le.put hp3 _ _ e, h3⟩
theorem r_law_deeds : ∀ ws S Q, Up Q → sp_law_deeds ws S Q → t_law_deeds sp_law_taken { nx := fun _ S' => Q .non S', rt := Q } (startW 6 ws) S := by
  rintro ws S Q up ⟨row, ns, most, rfl, hm, R, q⟩
  simp only [t_law_deeds]
  walk_at "wx"
  intro p hp
  refine taken_ok (R.le (Le.put hp)) (by omega) (by omega) fun v S1 v0 v1 R1 F1 => ?_
  refine ⟨⟨by omega, by omega⟩, ?_⟩
  have nr := Ne.symm (R.ne hp)
  refine deeds_loop (S0 := S) (M := most) hp nr (by omega) ?_ _ [] S1 none none none (by simp only [List.length_nil, List.length_range]; omega) (fun _ h => absurd h List.not_mem_nil) R1 ((Fr.le (Le.put hp)).trans F1) (F1.ne put_same nr)
  intro ds S2 x3 x4 x5 hl hd R2 F2 hf
  walk_at "wx"
  exact q ds S2 p hl hd R2 F2 hp hf nr
end K3
end WL

namespace WL
open PySem L2
local macro_rules | `(tactic| walk_at "wx") => `(tactic| simp only [↓x_var0, ↓x_varS, ↓x_c, ↓x_op, ↓x_b, ↓x_chain, ↓x_and, ↓x_or, ↓x_not, ↓x_andV, ↓x_orV, ↓x_notV, ↓x_if, ↓x_orT, ↓x_tr, ↓x_neg, ↓x_nil, ↓x_cons, ↓x_tup, ↓x_lst, ↓x_call, ↓x_lm, ↓x_lm0, ↓x_seq, ↓x_next, ↓x_ifS, ↓x_ret, ↓x_retN, ↓x_drop, ↓x_asg, ↓x_gname, ↓x_gtup, ↓x_gcons, ↓x_gnil, ↓x_gsub, ↓x_set, ↓x_for, ↓x_forR1, ↓x_lc, ↓x_lcR, ↓x_fld, ↓x_setF, ↓x_meth, ↓x_make, ↓x_sl, ↓x_part, ↓x_noPart, ↓x_yes, onB_bl, onS_some, onL_lst, onQ_some, onI_ins, onD_dk, onR_ref, onT_tup, onBo_some, x_app, x_clr, x_ext, v_add, v_addT, v_addS, v_addL, v_sub, v_mul, v_rep, v_mod, v_div, v_pow, v_lt, v_le, v_gt, v_ge, v_isN, v_notN, n_non, n_bl, n_int, n_str, n_ref, n_tup, q_ss, q_ii, q_bb, q_nn, q_is, q_si, q_in, q_ni, q_sn, q_ns, d_ss, d_ii, d_bb, d_nn, d_in, d_ni, ix_t, ix_r, ix_l, in_t, notin_t, fl_s, fl_i, fl_n, so_t, so_r, so_lp, len_t, len_r, len_s, int_i, int_b, list_x, tuple_x, min_ii, max_ii, sl_t, sl_l, look_nil, look_cons, putW_nil, putW_cons, x_inKd, x_notinKd, x_getKd, x_dget, key_s, key_i, val_nil, val_cons, inr_eq, start1, line_lt, atI0, atI1, atI2, atI3, atI4, List.map_cons, List.map_nil, List.cons_append, List.nil_append, List.set_cons_zero, List.set_cons_succ, List.length_cons, List.length_nil, List.all_cons, List.all_nil, List.replicate_succ, List.replicate_zero, Nat.reduceAdd, Nat.reduceSub, Nat.zero_add, wd_inj, Nat.reduceLT, Nat.reduceEqDiff, decide_true, decide_false, Bool.false_eq_true, Bool.true_eq_false, Bool.not_true, Bool.not_false, Bool.or_false, Bool.false_or, Bool.or_true, Bool.true_or, Bool.and_self, Bool.and_true, Bool.true_and, ↓reduceIte, reduceCtorEq, line_le, Nat.reduceLeDiff, true_and, and_true, and_self, Option.isSome_some, Option.isSome_none, Int.reduceLT, Int.reduceLE, Int.reduceEq, Int.reduceNeg, put_same, ci0, ci1, ci2, ci3, ci4, ci5, ci6, W_PAIRS, startW])
local macro_rules | `(tactic| walk_at "ws") => `(tactic| simp only [↓x_var0, ↓x_varS, ↓x_c, ↓x_op, ↓x_b, ↓x_chain, ↓x_and, ↓x_or, ↓x_not, ↓x_andV, ↓x_orV, ↓x_notV, ↓x_if, ↓x_orT, ↓x_tr, ↓x_neg, ↓x_nil, ↓x_cons, ↓x_tup, ↓x_lst, ↓x_call, ↓x_lm, ↓x_lm0, ↓x_seq, ↓x_next, ↓x_ifS, ↓x_ret, ↓x_retN, ↓x_drop, ↓x_asg, ↓x_gname, ↓x_gtup, ↓x_gcons, ↓x_gnil, ↓x_gsub, ↓x_set, ↓x_for, ↓x_forR1, ↓x_lc, ↓x_lcR, ↓x_fld, ↓x_setF, ↓x_meth, ↓x_make, ↓x_sl, ↓x_part, ↓x_noPart, ↓x_yes, onB_bl, onS_some, onL_lst, onQ_some, onI_ins, onD_dk, onR_ref, onT_tup, onBo_some, x_app, x_clr, x_ext, v_add, v_addT, v_addS, v_addL, v_sub, v_mul, v_rep, v_mod, v_div, v_pow, v_lt, v_le, v_gt, v_ge, v_isN, v_notN, n_non, n_bl, n_int, n_str, n_ref, n_tup, q_ss, q_ii, q_bb, q_nn, q_is, q_si, q_in, q_ni, q_sn, q_ns, d_ss, d_ii, d_bb, d_nn, d_in, d_ni, ix_t, ix_r, ix_l, in_t, notin_t, fl_s, fl_i, fl_n, so_t, so_r, so_lp, len_t, len_r, len_s, int_i, int_b, list_x, tuple_x, min_ii, max_ii, sl_t, sl_l, look_nil, look_cons, putW_nil, putW_cons, x_inKd, x_notinKd, x_getKd, x_dget, key_s, key_i, val_nil, val_cons, inr_eq, start1, line_lt, atI0, atI1, atI2, atI3, atI4, List.map_cons, List.map_nil, List.cons_append, List.nil_append, List.set_cons_zero, List.set_cons_succ, List.length_cons, List.length_nil, List.all_cons, List.all_nil, List.replicate_succ, List.replicate_zero, Nat.reduceAdd, Nat.reduceSub, Nat.zero_add, wd_inj, Nat.reduceLT, Nat.reduceEqDiff, decide_true, decide_false, Bool.false_eq_true, Bool.true_eq_false, Bool.not_true, Bool.not_false, Bool.or_false, Bool.false_or, Bool.or_true, Bool.true_or, Bool.and_self, Bool.and_true, Bool.true_and, ↓reduceIte, reduceCtorEq, line_le, Nat.reduceLeDiff, true_and, and_true, and_self, Option.isSome_some, Option.isSome_none, Int.reduceLT, Int.reduceLE, Int.reduceEq, Int.reduceNeg, put_same, ci0, ci1, ci2, ci3, ci4, ci5, ci6, W_PAIRS, startW, *])

namespace K3
inductive G3 (slots : Int) : Step → Prop
  | set {k : Nat} {e : Rk} : (k : Int) < slots → e.isR slots 3 = true → G3 slots (.set (some (k : Int)) e)
  | say {e : Rk} : e.isR slots 3 = true → G3 slots (.say e)
  | give {e : Rk} {k : Option Nat} : e.isR slots 3 = true → (∀ j, k = some j → (j : Int) < slots) → G3 slots (.give e (k.map Int.ofNat))
def sp_law_steps : WSp := fun ws S Q => ∃ (row : Addr) (ns : List Int) (slots : Int), ws = [.ref row, .int slots] ∧ 0 < slots ∧ slots ≤ 1000 ∧ RowAt S row ns ∧ ∀ (b : List Step) S', b.length ≤ 40 → (∀ s ∈ b, G3 slots s) → RowAt S' row ns → Fr row S S' → Q (.tup (Steps.W b)) S'
theorem slot_at {n : Nat} {v : Int} (h0 : 0 ≤ v) (h : v < (n : Int) + 1) : ∃ k : Option Nat, atI ([W.non] ++ (List.range n).map fun i => W.int (i : Nat)) v = some (optI (k.map Int.ofNat)) ∧ ∀ j, k = some j → j < n := by
  obtain ⟨m, rfl⟩ : ∃ m : Nat, v = (m : Int) := ⟨v.toNat, by omega⟩
  cases m with
  | zero => exact ⟨none, by simp [atI, ixN, optI], fun j e => nomatch e⟩
  | succ m =>
    refine ⟨some m, ?_, fun j e => by cases e; omega⟩
    refine atI_nat ?_
    rw [List.getElem?_append_right (by simp)]
    simp only [List.length_cons, List.length_nil, Nat.zero_add, Nat.add_sub_cancel, List.getElem?_map]
    rw [List.getElem?_range (by omega)]
    rfl
theorem steps_loop {row : Addr} {ns : List Int} {slots : Int} (hs : 0 < slots) (hs2 : slots ≤ 1000) {S0 : Sto} {fo : Addr} (ff : S0 fo = none) (nr : fo ≠ row) {D : WD} (q : ∀ (b : List Step) S' x3 x4 x5, b.length ≤ 40 → (∀ s ∈ b, G3 slots s) → RowAt S' row ns → Fr row S0 S' → S' fo = some (.lst (Steps.W b)) → D.nx [some (.ref row), some (.int slots), some (.ref fo), x3, x4, x5] S') : ∀ (xs : List W) (b : List Step) (S : Sto) (x3 x4 x5 : Option W),
    b.length + xs.length ≤ 40 → (∀ s ∈ b, G3 slots s) → RowAt S row ns → Fr row S0 S → S fo = some (.lst (Steps.W b)) →
    forW (fun _ => True) (gNameW 3) (l_law_steps_1 (sp_law_reckoning 4) sp_law_taken) xs D [some (.ref row), some (.int slots), some (.ref fo), x3, x4, x5] S
  | [], b, S, x3, x4, x5, hl, he, R, F, hf => by
    simp only [forW]
    exact ⟨trivial, q b S _ _ _ (by simpa using hl) he R F hf⟩
  | x :: xs, b, S, x3, x4, x5, hl, he, R, F, hf => by
    have app : ∀ (s : Step) (S1 : Sto), G3 slots s → RowAt S1 row ns → Fr row S0 S1 → S1 fo = some (.lst (Steps.W b)) → ∀ x3 x4 x5, forW (fun _ => True) (gNameW 3) (l_law_steps_1 (sp_law_reckoning 4) sp_law_taken) xs D [some (.ref row), some (.int slots), some (.ref fo), x3, x4, x5] (put S1 fo (.lst (Steps.W b ++ [s.W]))) := fun s S1 es R1 F1 h1 x3 x4 x5 => by
      refine steps_loop hs hs2 ff nr q xs (b ++ [s]) _ _ _ _ (by rw [List.length_append]; simp only [List.length_cons, List.length_nil] at hl ⊢; omega) (fun t ht => (List.mem_append.mp ht).elim (he t) fun ht => by rw [List.mem_singleton.mp ht]; exact es) ?_ ?_ ?_
      · obtain ⟨i, c, d, e, h3⟩ := R1
        exact ⟨i, c, d, by rw [put_ne (Ne.symm nr)]; exact e, h3⟩
      · exact fun y o hy e => by rw [put_ne (ne_none e ff)]; exact F1 y o hy e
      · rw [put_same, Steps.W_map, Steps.W_map, List.map_append]; rfl
    have len : ∀ S1 : Sto, S1 fo = some (.lst (Steps.W b)) → (Steps.W b).length < sizeLine := fun S1 _ => small_len (by rw [Steps.W_map, List.length_map]; omega)
    simp only [forW, l_law_steps_1]
    refine ⟨trivial, ?_⟩
    walk_at "wx"
    refine taken_ok R (by decide) (by decide) fun v S1 v0 v1 R1 F1 => ?_
    refine ⟨row, ns, slots, v.toNat, by rw [Int.toNat_of_nonneg (by omega)], hs, hs2, by omega, R1, fun e S2 ie R2 F2 => ?_⟩
    have ie3 := isR_mono (d' := 3) ie (by omega)
    refine taken_ok R2 (by decide) (by decide) fun u S3 u0 u1 R3 F3 => ?_
    have F4 := F.trans (F1.trans (F2.trans F3))
    have hf4 := (F1.trans (F2.trans F3)).ne hf nr
    by_cases h3 : u < 3
    · simp only [v_lt, decide_eq_true h3]
      walk_at "wx"
      refine ⟨is_lst hf4, fun p1 hp1 => ?_⟩
      simp only [wLstR]
      walk_at "wx"
      refine ⟨⟨by omega, by omega⟩, fun p2 hp2 => ?_⟩
      have n12 : p1 ≠ p2 := ne_none put_same hp2
      rw [put_ne n12, put_same]
      simp only [onL_lst]
      have l2 : Le S3 (put (put S3 p1 (.lst [.non])) p2 (.lst ((List.range slots.toNat).map fun i => W.int (i : Nat)))) := (Le.put hp1).trans (Le.put hp2)
      have hsn : ((slots.toNat : Nat) : Int) = slots := Int.toNat_of_nonneg (by omega)
      refine ⟨Nat.le_of_lt (small_len (by simp only [List.length_map, List.length_range, List.length_cons, List.length_nil]; omega)), fun p3 hp3 => ?_⟩
      have l3 := l2.trans (Le.put (o := .lst ([W.non] ++ (List.range slots.toNat).map fun i => W.int (i : Nat))) hp3)
      refine taken_ok (R3.le l3) (by omega) (by omega) fun k S4 k0 k1 R4 F5 => ?_
      have hp5 := F5.ne (o := .lst ([W.non] ++ (List.range slots.toNat).map fun i => W.int (i : Nat))) put_same (Ne.symm ((R3.le l2).ne hp3))
      have hf5 := F5.ne (l3 _ _ hf4) nr
      obtain ⟨j, hj, hj2⟩ := slot_at (n := slots.toNat) k0 (by omega)
      simp only [ix_l, hp5, onL_lst, hj, onS_some, x_app, hf5]
      refine ⟨len _ hf5, ?_⟩
      have A := app (.give e (j.map Int.ofNat)) S4 (.give ie3 fun i hi => by have := hj2 i hi; omega) R4 (F4.trans ((Fr.le l3).trans F5)) hf5
      simp only [Step.W] at A
      exact A _ _ _
    · simp only [v_lt, decide_eq_false h3]
      walk_at "wx"
      refine ⟨is_lst hf4, ?_⟩
      refine taken_ok R3 hs (by omega) fun k S4 k0 k1 R4 F5 => ?_
      have hf5 := F5.ne hf4 nr
      intro p hp
      have hf6 := Le.put (o := .lst [W.tup [.str w_set, .int k, e.W], .tup [.str w_say, e.W]]) hp _ _ hf5
      have nf := ne_none hf5 hp
      have F6 := F4.trans (F5.trans (Fr.le (Le.put (o := .lst [W.tup [.str w_set, .int k, e.W], .tup [.str w_say, e.W]]) hp)))
      have R6 := R4.le (Le.put (o := .lst [W.tup [.str w_set, .int k, e.W], .tup [.str w_say, e.W]]) hp)
      obtain h | h : u - 3 = 0 ∨ u - 3 = 1 := by omega
      · rw [h]
        walk_at "wx"
        rw [put_ne nf, hf5]
        simp only [onL_lst]
        refine ⟨len _ hf6, ?_⟩
        have A := app (.set (some ((k.toNat : Nat) : Int)) e) _ (.set (by omega) ie3) R6 F6 hf6
        simp only [Step.W, optI, Int.toNat_of_nonneg k0] at A
        exact A _ _ _
      · rw [h]
        walk_at "wx"
        rw [put_ne nf, hf5]
        simp only [onL_lst]
        refine ⟨len _ hf6, ?_⟩
        exact app (.say e) _ (.say ie3) R6 F6 hf6 _ _ _
theorem r_law_steps : ∀ ws S Q, Up Q → sp_law_steps ws S Q → t_law_steps (sp_law_reckoning 4) sp_law_taken { nx := fun _ S' => Q .non S', rt := Q } (startW 6 ws) S := by
  rintro ws S Q up ⟨row, ns, slots, rfl, hs, hs2, R, q⟩
  simp only [t_law_steps]
  walk_at "wx"
  intro p hp
  refine taken_ok (R.le (Le.put hp)) (by decide) (by decide) fun v S1 v0 v1 R1 F1 => ?_
  refine ⟨⟨by omega, by omega⟩, ?_⟩
  have nr := Ne.symm (R.ne hp)
  refine steps_loop hs hs2 hp nr ?_ _ [] S1 none none none (by simp only [List.length_nil, List.length_map, List.length_range]; omega) (fun s hs => absurd hs (List.not_mem_nil)) R1 ((Fr.le (Le.put hp)).trans F1) (F1.ne put_same nr)
  intro b S2 x3 x4 x5 hb he R2 F2 hf
  walk_at "wx"
  simp only [so_l hf, onQ_some]
  exact q b S2 hb he R2 F2
end K3
end WL

namespace WL
open PySem L2
local macro_rules | `(tactic| walk_at "wx") => `(tactic| simp only [↓x_var0, ↓x_varS, ↓x_c, ↓x_op, ↓x_b, ↓x_chain, ↓x_and, ↓x_or, ↓x_not, ↓x_andV, ↓x_orV, ↓x_notV, ↓x_if, ↓x_orT, ↓x_tr, ↓x_neg, ↓x_nil, ↓x_cons, ↓x_tup, ↓x_lst, ↓x_call, ↓x_lm, ↓x_lm0, ↓x_seq, ↓x_next, ↓x_ifS, ↓x_ret, ↓x_retN, ↓x_drop, ↓x_asg, ↓x_gname, ↓x_gtup, ↓x_gcons, ↓x_gnil, ↓x_gsub, ↓x_set, ↓x_for, ↓x_forR1, ↓x_lc, ↓x_lcR, ↓x_fld, ↓x_setF, ↓x_meth, ↓x_make, ↓x_sl, ↓x_part, ↓x_noPart, ↓x_yes, onB_bl, onS_some, onL_lst, onQ_some, onI_ins, onD_dk, onR_ref, onT_tup, onBo_some, x_app, x_clr, x_ext, v_add, v_addT, v_addS, v_addL, v_sub, v_mul, v_rep, v_mod, v_div, v_pow, v_lt, v_le, v_gt, v_ge, v_isN, v_notN, n_non, n_bl, n_int, n_str, n_ref, n_tup, q_ss, q_ii, q_bb, q_nn, q_is, q_si, q_in, q_ni, q_sn, q_ns, d_ss, d_ii, d_bb, d_nn, d_in, d_ni, ix_t, ix_r, ix_l, in_t, notin_t, fl_s, fl_i, fl_n, so_t, so_r, so_lp, len_t, len_r, len_s, int_i, int_b, list_x, tuple_x, min_ii, max_ii, sl_t, sl_l, look_nil, look_cons, putW_nil, putW_cons, x_inKd, x_notinKd, x_getKd, x_dget, key_s, key_i, val_nil, val_cons, inr_eq, start1, line_lt, atI0, atI1, atI2, atI3, atI4, List.map_cons, List.map_nil, List.cons_append, List.nil_append, List.set_cons_zero, List.set_cons_succ, List.length_cons, List.length_nil, List.all_cons, List.all_nil, List.replicate_succ, List.replicate_zero, Nat.reduceAdd, Nat.reduceSub, Nat.zero_add, wd_inj, Nat.reduceLT, Nat.reduceEqDiff, decide_true, decide_false, Bool.false_eq_true, Bool.true_eq_false, Bool.not_true, Bool.not_false, Bool.or_false, Bool.false_or, Bool.or_true, Bool.true_or, Bool.and_self, Bool.and_true, Bool.true_and, ↓reduceIte, reduceCtorEq, line_le, Nat.reduceLeDiff, true_and, and_true, and_self, Option.isSome_some, Option.isSome_none, Int.reduceAdd, Int.reduceSub, Int.reduceMul, Int.add_zero, Int.reduceLT, Int.reduceLE, Int.reduceEq, Int.reduceNeg, put_same, ci0, ci1, ci2, ci3, ci4, ci5, ci6, W_PAIRS, startW])
local macro_rules | `(tactic| walk_at "ws") => `(tactic| simp only [↓x_var0, ↓x_varS, ↓x_c, ↓x_op, ↓x_b, ↓x_chain, ↓x_and, ↓x_or, ↓x_not, ↓x_andV, ↓x_orV, ↓x_notV, ↓x_if, ↓x_orT, ↓x_tr, ↓x_neg, ↓x_nil, ↓x_cons, ↓x_tup, ↓x_lst, ↓x_call, ↓x_lm, ↓x_lm0, ↓x_seq, ↓x_next, ↓x_ifS, ↓x_ret, ↓x_retN, ↓x_drop, ↓x_asg, ↓x_gname, ↓x_gtup, ↓x_gcons, ↓x_gnil, ↓x_gsub, ↓x_set, ↓x_for, ↓x_forR1, ↓x_lc, ↓x_lcR, ↓x_fld, ↓x_setF, ↓x_meth, ↓x_make, ↓x_sl, ↓x_part, ↓x_noPart, ↓x_yes, onB_bl, onS_some, onL_lst, onQ_some, onI_ins, onD_dk, onR_ref, onT_tup, onBo_some, x_app, x_clr, x_ext, v_add, v_addT, v_addS, v_addL, v_sub, v_mul, v_rep, v_mod, v_div, v_pow, v_lt, v_le, v_gt, v_ge, v_isN, v_notN, n_non, n_bl, n_int, n_str, n_ref, n_tup, q_ss, q_ii, q_bb, q_nn, q_is, q_si, q_in, q_ni, q_sn, q_ns, d_ss, d_ii, d_bb, d_nn, d_in, d_ni, ix_t, ix_r, ix_l, in_t, notin_t, fl_s, fl_i, fl_n, so_t, so_r, so_lp, len_t, len_r, len_s, int_i, int_b, list_x, tuple_x, min_ii, max_ii, sl_t, sl_l, look_nil, look_cons, putW_nil, putW_cons, x_inKd, x_notinKd, x_getKd, x_dget, key_s, key_i, val_nil, val_cons, inr_eq, start1, line_lt, atI0, atI1, atI2, atI3, atI4, List.map_cons, List.map_nil, List.cons_append, List.nil_append, List.set_cons_zero, List.set_cons_succ, List.length_cons, List.length_nil, List.all_cons, List.all_nil, List.replicate_succ, List.replicate_zero, Nat.reduceAdd, Nat.reduceSub, Nat.zero_add, wd_inj, Nat.reduceLT, Nat.reduceEqDiff, decide_true, decide_false, Bool.false_eq_true, Bool.true_eq_false, Bool.not_true, Bool.not_false, Bool.or_false, Bool.false_or, Bool.or_true, Bool.true_or, Bool.and_self, Bool.and_true, Bool.true_and, ↓reduceIte, reduceCtorEq, line_le, Nat.reduceLeDiff, true_and, and_true, and_self, Option.isSome_some, Option.isSome_none, Int.reduceAdd, Int.reduceSub, Int.reduceMul, Int.add_zero, Int.reduceLT, Int.reduceLE, Int.reduceEq, Int.reduceNeg, put_same, ci0, ci1, ci2, ci3, ci4, ci5, ci6, W_PAIRS, startW, *])

namespace K3
def g3C : Step → C
  | .set k e => .set (k.getD 0).toNat e
  | .say e => .say e
  | .give e k => .give e (k.map Int.toNat)
  | _ => .leave
def fin (r : Option Way × RS) : List Told := (r.2.2.close (r.1.getD (.ends 0))).told
theorem map_nat (k : Option Nat) : (k.map Int.ofNat).map Int.toNat = k := by cases k <;> rfl
theorem gift_ask {T : Tk} {i v : Int} (h : T.deeds[T.told.length]? = some (.ask i)) : T.gift v = (T.deeds[T.told.length + 1]?, T.tell (.gift v)) := by simp only [Tk.gift, h]
def sp_law_gone : WSp := fun ws S Q => ∃ (b : List Step) (a d : Addr) (sl : List Int) (ds : List Deed) (i : Int), ws = [.tup (Steps.W b), .ref a, .ref d] ∧ S a = some (slotsM sl) ∧ S d = some (deedsM ds) ∧ d ≠ a ∧ (∀ i ∈ sl, InR i) ∧ (∀ s ∈ b, G3 sl.length s) ∧ b.length ≤ 900 ∧ ds.length ≤ 1000 ∧ (∀ x ∈ ds, x.ok) ∧ ds[0]? = some (.ask i) ∧ ∀ S' p, Fr a S S' → S p = none → S' p = some (.lst ((fin (Cs.run (b.map g3C) (sl, ⟨ds, [], []⟩))).map toldW)) → Q (.ref p) S'
theorem add_one {S : Sto} {fo : Addr} {t : W} {ws : List W} {Q : WQ} (h : S fo = some (.lst ws)) (hl : ws.length ≤ 100000) (q : ∀ S' p, Le S S' → S p = none → S' p = some (.lst (ws ++ [t])) → Q (.ref p) S') :
    ∀ (p : Addr), S p = none → onL (put S p (MO.lst [t]) fo) fun xs => xs.length + 1 ≤ sizeLine ∧ ∀ (p_1 : Addr), put S p (MO.lst [t]) p_1 = none → Q (W.ref p_1) (put (put S p (MO.lst [t])) p_1 (MO.lst (xs ++ [t]))) := by
  intro p hp
  rw [put_ne (ne_none h hp), h]
  refine ⟨Nat.le_of_lt (small_len (by omega)), fun p1 hp1 => q _ p1 ((Le.put hp).trans (Le.put hp1)) ((Le.put hp).free hp1) put_same⟩
theorem close_ask {T : Tk} {i : Int} (h : T.deeds[T.told.length]? = some (.ask i)) {w : Way} (hw : w ≠ .stop) (hs : w ≠ .leave) : T.close w = T.tell w.out := by
  cases w with
  | stop => exact absurd rfl hw
  | leave => rfl
  | ends n => simp only [Tk.close, h]; rfl
  | fault n => rfl
  | shut => rfl
theorem gone_loop {a d fo : Addr} {ds : List Deed} {S0 : Sto} (ff : S0 fo = none) (ha0 : S0 a ≠ none) (hd0 : S0 d ≠ none) (da : d ≠ a) (hdl : ds.length ≤ 1000) (dok : ∀ x ∈ ds, x.ok) {st : W} {Q : WQ} {Z : Sto → Prop} (hZ : ∀ S, Z S) : ∀ (b : List Step) (sl : List Int) (T : Tk) (S : Sto) (wo : Addr) (x5 x6 x7 : Option W), S a = some (slotsM sl) → S d = some (deedsM ds) → S fo = some (.lst (T.told.map toldW)) → S wo = some (.lst (T.said.map .int)) → S0 wo = none → wo ≠ fo → T.deeds = ds → (∃ i, ds[T.told.length]? = some (.ask i)) → (∀ i ∈ sl, InR i) → (∀ s ∈ b, G3 sl.length s) → T.said.length + b.length ≤ 1000 → Fr a S0 S →
    (∀ S' p, Fr a S0 S' → S0 p = none → S' p = some (.lst ((fin (Cs.run (b.map g3C) (sl, T))).map toldW)) → Q (.ref p) S') →
    forW Z (gNameW 5) (l_law_gone_1 (sp_law_reckoned 4)) (Steps.W b) { nx := (wRet (wOp rAddW (wVar 3) (wLst (wCons (wTup (wCons (wCall rTupleW (wCons (wVar 4) wNil)) (wCons (wTup (wCons (wC (.str w_end)) (wCons (wC (.int 0)) wNil))) wNil))) wNil)))) { nx := fun _ S' => Q .non S', rt := Q }, rt := Q } [some st, some (.ref a), some (.ref d), some (.ref fo), some (.ref wo), x5, x6, x7] S
  | [], sl, T, S, wo, x5, x6, x7, hS, hd, hf, hw, fw, wf, hT, ⟨i, hi⟩, hin, he, hl, F, q => by
    have F0 : ∀ {p : Addr}, S p = none → S0 p = none := fun {p} h => by
      cases z : S0 p with
      | none => rfl
      | some o =>
        by_cases e : p = a
        · subst e; rw [hS] at h; cases h
        · rw [F p o e z] at h; cases h
    simp only [Steps.W, forW]
    refine ⟨hZ S, ?_⟩
    walk_at "wx"
    simp only [so_l hw]
    walk_at "wx"
    have q0 := q
    simp only [List.map_nil, Cs.run, fin, Option.getD_none] at q0
    rw [close_ask (w := .ends 0) (by rw [hT]; exact hi) (fun e => nomatch e) (fun e => nomatch e)] at q0
    refine add_one hf (by rw [List.length_map]; have := (List.getElem?_eq_some_iff.mp hi).1; omega) fun S' p l fp hp => q0 S' p (F.trans (Fr.le l)) (F0 fp) ?_
    rw [hp, Tk.tell, List.map_append]
    rfl
  | s :: b, sl, T, S, wo, x5, x6, x7, hS, hd, hf, hw, fw, wf, hT, ⟨i, hi⟩, hin, he, hl, F, q => by
    have F0 : ∀ {p : Addr}, S p = none → S0 p = none := fun {p} h => by
      cases z : S0 p with
      | none => rfl
      | some o =>
        by_cases e : p = a
        · subst e; rw [hS] at h; cases h
        · rw [F p o e z] at h; cases h
    have R : ∀ (e : Rk), e.isR sl.length 3 = true → ∀ Q' : WQ, (∀ S', Le S S' → Q' (optI (reck sl e)) S') → sp_law_reckoned 4 [e.W, .ref a] S Q' := fun e he Q' q' => ⟨e, a, sl, rfl, hS, hin, (easy_e he rfl).1, (easy_e he rfl).2, q'⟩
    have he' : ∀ t ∈ b, G3 sl.length t := fun t ht => he t (List.mem_cons_of_mem _ ht)
    have hl' : T.said.length + 1 + b.length ≤ 1000 := by rw [List.length_cons] at hl; omega
    have tl := (List.getElem?_eq_some_iff.mp hi).1
    have nda : fo ≠ a := fun e => by subst e; exact ha0 ff
    have nwa : wo ≠ a := fun e => by subst e; exact ha0 fw
    have ndf : d ≠ fo := fun e => by subst e; exact hd0 ff
    have ndw : d ≠ wo := fun e => by subst e; exact hd0 fw
    have FLT : reck sl (match s with | .set _ e => e | .say e => e | .give e _ => e | _ => .num 0) = none → ∀ S1, Le S S1 → ∀ (p : Addr), S1 p = none → onL (put S1 p (MO.lst [W.tup [W.tup (T.said.map .int), W.tup [W.str w_fault, W.int 0]]]) fo) fun xs => xs.length + 1 ≤ sizeLine ∧ ∀ (p_1 : Addr), put S1 p (MO.lst [W.tup [W.tup (T.said.map .int), W.tup [W.str w_fault, W.int 0]]]) p_1 = none → Q (W.ref p_1) (put (put S1 p (MO.lst [W.tup [W.tup (T.said.map .int), W.tup [W.str w_fault, W.int 0]]])) p_1 (MO.lst (xs ++ [W.tup [W.tup (T.said.map .int), W.tup [W.str w_fault, W.int 0]]]))) := by
      intro h S1 l1
      refine add_one (l1 _ _ hf) (by rw [List.length_map]; omega) fun S' p l fp hp => q S' p (F.trans (Fr.le (l1.trans l))) (F0 (l1.free fp)) ?_
      have e : fin (Cs.run ((s :: b).map g3C) (sl, T)) = T.told ++ [(T.said, .fault 0)] := by
        cases he s List.mem_cons_self <;> (simp only [List.map_cons, Cs.run, g3C, C.run, h, fin, Option.getD_some, Tk.close, Way.out, Tk.tell])
      rw [e, List.map_append, hp]
      rfl
    have NXT : ∀ (sl' : List Int) (T' : Tk), Cs.run ((s :: b).map g3C) (sl, T) = Cs.run (b.map g3C) (sl', T') → ∀ S' p, Fr a S0 S' → S0 p = none → S' p = some (.lst ((fin (Cs.run (b.map g3C) (sl', T'))).map toldW)) → Q (.ref p) S' := fun sl' T' e S' p h1 h2 h3 => q S' p h1 h2 (by rw [e]; exact h3)
    simp only [Steps.W, forW, l_law_gone_1]
    refine ⟨hZ S, ?_⟩
    cases he s List.mem_cons_self with
    | @set k e hk hr =>
      simp only [Step.W, optI]
      walk_at "wx"
      refine R e hr _ fun S1 l1 => ?_
      have hw1 := l1 _ _ hw
      cases h : reck sl e with
      | none =>
        simp only [optI]
        walk_at "wx"
        rw [so_l hw1]
        simp only [onQ_some]
        exact FLT h S1 l1
      | some v =>
        simp only [optI]
        walk_at "wx"
        have c1 := ix_sl (show k < sl.length by omega) (l := sl)
        have c2 : S1 a = some (.lst (sl.map .int)) := l1 _ _ hS
        simp only [x_set, c2, onL_lst, c1]
        have e3 : List.map W.int (sl.set k v) = (List.map W.int sl).set k (.int v) := List.map_set
        rw [← e3]
        refine gone_loop ff ha0 hd0 da hdl dok hZ b (sl.set k v) T _ wo _ _ _ put_same ?_ ?_ ?_ fw wf hT ⟨i, hi⟩ (mem_set hin (reck_in hin (easy_e hr rfl).1 h)) (by simpa using he') (by omega) (F.trans ((Fr.le l1).trans Fr.put)) (NXT _ _ ?_)
        · rw [put_ne da]; exact l1 _ _ hd
        · rw [put_ne nda]; exact l1 _ _ hf
        · rw [put_ne nwa]; exact hw1
        · simp only [List.map_cons, Cs.run, g3C, C.run, h]; rfl
    | @say e hr =>
      simp only [Step.W]
      walk_at "wx"
      refine R e hr _ fun S1 l1 => ?_
      have hw1 := l1 _ _ hw
      cases h : reck sl e with
      | none =>
        simp only [optI]
        walk_at "wx"
        rw [so_l hw1]
        simp only [onQ_some]
        exact FLT h S1 l1
      | some v =>
        simp only [optI]
        walk_at "wx"
        refine ⟨is_lst hw1, ?_⟩
        simp only [hw1, onL_lst]
        refine ⟨small_len (by rw [List.length_map]; omega), ?_⟩
        refine gone_loop ff ha0 hd0 da hdl dok hZ b sl (T.say v) _ wo _ _ _ ?_ ?_ ?_ ?_ fw wf hT ⟨i, hi⟩ hin he' (by simp only [Tk.say, List.length_append, List.length_cons, List.length_nil]; omega) (fun x o n e' => ?_) (NXT _ _ ?_)
        · rw [put_ne (Ne.symm nwa)]; exact l1 _ _ hS
        · rw [put_ne ndw]; exact l1 _ _ hd
        · rw [put_ne (Ne.symm wf)]; exact l1 _ _ hf
        · rw [put_same, Tk.say, List.map_append]; rfl
        · rw [put_ne (ne_none e' fw)]; exact l1 _ _ (F x o n e')
        · simp only [List.map_cons, Cs.run, g3C, C.run, h]
    | @give e k hr hk =>
      simp only [Step.W]
      walk_at "wx"
      refine R e hr _ fun S1 l1 => ?_
      have hw1 := l1 _ _ hw
      have hf1 := l1 _ _ hf
      cases h : reck sl e with
      | none =>
        simp only [optI]
        walk_at "wx"
        rw [so_l hw1]
        simp only [onQ_some]
        exact FLT h S1 l1
      | some v =>
        simp only [optI]
        walk_at "wx"
        refine ⟨is_lst hf1, ?_⟩
        rw [so_l hw1]
        simp only [onQ_some, hf1, onL_lst]
        refine ⟨small_len (by rw [List.length_map]; omega), fun p hp => ?_⟩
        have nfp : fo ≠ p := ne_none put_same hp
        have hp1 : S1 p = none := by rw [put_ne (Ne.symm nfp)] at hp; exact hp
        have npa : p ≠ a := fun e' => by subst e'; rw [l1 _ _ hS] at hp1; cases hp1
        have fp0 : S0 p = none := F0 (l1.free hp1)
        have ndp : d ≠ p := fun e' => by subst e'; exact hd0 fp0
        have ef : List.map toldW T.told ++ [W.tup [W.tup (List.map W.int T.said), W.tup [W.str w_gift, W.int v]]] = (T.tell (.gift v)).told.map toldW := by rw [Tk.tell, List.map_append]; rfl
        rw [ef]
        have z1 : put (put S1 fo (.lst ((T.tell (.gift v)).told.map toldW))) p (.lst []) fo = some (.lst ((T.tell (.gift v)).told.map toldW)) := by rw [put_ne nfp, put_same]
        have z2 : put (put S1 fo (.lst ((T.tell (.gift v)).told.map toldW))) p (.lst []) d = some (.lst (ds.map Deed.W)) := by rw [put_ne ndp, put_ne ndf]; exact l1 _ _ hd
        have z3 : put (put S1 fo (.lst ((T.tell (.gift v)).told.map toldW))) p (.lst []) p = some (.lst []) := put_same
        have z4 : put (put S1 fo (.lst ((T.tell (.gift v)).told.map toldW))) p (.lst []) a = some (slotsM sl) := by rw [put_ne (Ne.symm npa), put_ne (Ne.symm nda)]; exact l1 _ _ hS
        have z5 : Fr a S0 (put (put S1 fo (.lst ((T.tell (.gift v)).told.map toldW))) p (.lst [])) := fun x o n e' => by
          rw [put_ne (ne_none e' fp0), put_ne (ne_none e' ff)]; exact l1 _ _ (F x o n e')
        have z6 : ∀ {q : Addr}, put (put S1 fo (.lst ((T.tell (.gift v)).told.map toldW))) p (.lst []) q = none → S q = none := fun {q} h' => by
          refine l1.free ?_
          cases z : S1 q with
          | none => rfl
          | some o =>
            by_cases e1 : q = p
            · subst e1; rw [put_same] at h'; cases h'
            · rw [put_ne e1] at h'
              by_cases e2 : q = fo
              · subst e2; rw [put_same] at h'; cases h'
              · rw [put_ne e2, z] at h'; cases h'
        generalize put (put S1 fo (.lst ((T.tell (.gift v)).told.map toldW))) p (.lst []) = S2 at *
        have tl2 : (T.tell (.gift v)).told.length = T.told.length + 1 := tell_len T _
        have lf := fun Q => len_l (Q := Q) z1
        have ld := fun Q => len_l (Q := Q) z2
        simp only [List.length_map] at lf ld
        have gd : T.deeds[T.told.length]? = some (.ask i) := by rw [hT]; exact hi
        simp only [lf, ld, tl2]
        walk_at "wx"
        by_cases hlast : T.told.length + 1 = ds.length
        · simp only [decide_eq_true (show ((T.told.length + 1 : Nat) : Int) = (ds.length : Int) by omega)]
          walk_at "wx"
          refine q S2 fo z5 ff ?_
          have e2 : fin (Cs.run ((Step.give e (k.map Int.ofNat) :: b).map g3C) (sl, T)) = (T.tell (.gift v)).told := by
            have g : T.gift v = (none, T.tell (.gift v)) := by
              rw [gift_ask gd, hT, List.getElem?_eq_none (by omega)]
            simp only [List.map_cons, Cs.run, g3C, C.run, h, given, g, fin, Option.getD_some, Tk.close]
          rw [e2]
          exact z1
        · simp only [decide_eq_false (show ¬ ((T.told.length + 1 : Nat) : Int) = (ds.length : Int) by omega)]
          obtain ⟨dn, hdn⟩ := get_some (l := ds) (n := T.told.length + 1) (by omega)
          have hdn' : atI (ds.map Deed.W) ((T.told.length + 1 : Nat) : Int) = some dn.W := atI_map hdn
          have g : T.gift v = (some dn, T.tell (.gift v)) := by
            rw [gift_ask gd, hT, hdn]
          walk_at "wx"
          simp only [lf, tl2, ix_l, z2, onL_lst, hdn', onS_some]
          cases dn with
          | throw n =>
            simp only [Deed.W]
            walk_at "wx"
            rw [show cutW [W.str w_throw, W.int n] (some 1) none = [W.int n] from cut_drop (n := 1)]
            refine ⟨Nat.le_of_lt (small_len (by simp)), ?_⟩
            refine add_one z1 (by rw [List.length_map, tl2]; omega) fun S' p' l fp hp' => q S' p' (z5.trans (Fr.le l)) (F0 (z6 fp)) ?_
            have e2 : fin (Cs.run ((Step.give e (k.map Int.ofNat) :: b).map g3C) (sl, T)) = (T.tell (.gift v)).told ++ [([], .fault n)] := by
              simp only [List.map_cons, Cs.run, g3C, C.run, h, given, g, fin, Option.getD_some, Tk.close]
              rfl
            rw [e2, hp', List.map_append]
            rfl
          | shut =>
            simp only [Deed.W]
            walk_at "wx"
            refine add_one z1 (by rw [List.length_map, tl2]; omega) fun S' p' l fp hp' => q S' p' (z5.trans (Fr.le l)) (F0 (z6 fp)) ?_
            have e2 : fin (Cs.run ((Step.give e (k.map Int.ofNat) :: b).map g3C) (sl, T)) = (T.tell (.gift v)).told ++ [([], .shut)] := by
              simp only [List.map_cons, Cs.run, g3C, C.run, h, given, g, fin, Option.getD_some, Tk.close]
              rfl
            rw [e2, hp', List.map_append]
            rfl
          | ask n =>
            simp only [Deed.W]
            walk_at "wx"
            have gi : ∃ j, ds[(T.tell (.gift v)).told.length]? = some (.ask j) := ⟨n, by rw [tl2]; exact hdn⟩
            have e2 : ∀ sl', sl' = keep (k.map Int.ofNat |>.map Int.toNat) n sl → Cs.run ((Step.give e (k.map Int.ofNat) :: b).map g3C) (sl, T) = Cs.run (b.map g3C) (sl', T.tell (.gift v)) := by
              rintro sl' rfl
              simp only [List.map_cons, Cs.run, g3C, C.run, h, given, g]
            rw [map_nat] at e2
            cases k with
            | none =>
              exact gone_loop ff ha0 hd0 da hdl dok hZ b sl (T.tell (.gift v)) S2 p _ _ _ z4 z2 z1 z3 fp0 (Ne.symm nfp) hT gi hin he' (by simp only [Tk.tell, List.length_nil]; omega) z5 (NXT _ _ (e2 _ rfl))
            | some k =>
              have nir : InR n := dok _ (List.mem_of_getElem? hdn)
              have c1 := ix_sl (show k < sl.length from by have := hk k rfl; omega) (l := sl)
              have c2 : S2 a = some (.lst (sl.map .int)) := z4
              simp only [Option.map_some]
              walk_at "wx"
              have c1' : ixN (List.map W.int sl).length (Int.ofNat k) = some k := c1
              simp only [x_set, c2, onL_lst, c1']
              have e3 : List.map W.int (sl.set k n) = (List.map W.int sl).set k (.int n) := List.map_set
              rw [← e3]
              refine gone_loop ff ha0 hd0 da hdl dok hZ b (sl.set k n) (T.tell (.gift v)) _ p _ _ _ put_same ?_ ?_ ?_ fp0 (Ne.symm nfp) hT gi (mem_set hin nir) (by simpa using he') (by simp only [Tk.tell, List.length_nil]; omega) (z5.trans Fr.put) (NXT _ _ (e2 _ rfl))
              · rw [put_ne da]; exact z2
              · rw [put_ne nda]; exact z1
              · rw [put_ne npa]; exact z3
theorem r_law_gone : ∀ ws S Q, Up Q → sp_law_gone ws S Q → t_law_gone (sp_law_reckoned 4) { nx := fun _ S' => Q .non S', rt := Q } (startW 8 ws) S := by
  rintro ws S Q up ⟨b, a, d, sl, ds, i, rfl, hS, hd, da, hi, he, hl, hdl, dok, h0, q⟩
  simp only [t_law_gone]
  walk_at "wx"
  intro p hp p2 hp2
  have n12 : p ≠ p2 := ne_none put_same hp2
  have l2 := (Le.put (o := .lst []) hp).trans (Le.put (o := .lst []) hp2)
  exact gone_loop (T := ⟨ds, [], []⟩) hp (by rw [hS]; exact fun e => nomatch e) (by rw [hd]; exact fun e => nomatch e) da hdl dok (fun _ => trivial) b sl _ p2 none none none (l2 _ _ hS) (l2 _ _ hd) (by rw [put_ne n12, put_same]; rfl) put_same ((Le.put hp).free hp2) (Ne.symm n12) rfl ⟨i, h0⟩ hi he (by simp only [List.length_nil]; omega) (Fr.le l2) q
end K3
end WL

namespace WL
open PySem L2
local macro_rules | `(tactic| walk_at "wx") => `(tactic| simp only [↓x_var0, ↓x_varS, ↓x_c, ↓x_op, ↓x_b, ↓x_chain, ↓x_and, ↓x_or, ↓x_not, ↓x_andV, ↓x_orV, ↓x_notV, ↓x_if, ↓x_orT, ↓x_tr, ↓x_neg, ↓x_nil, ↓x_cons, ↓x_tup, ↓x_lst, ↓x_call, ↓x_lm, ↓x_lm0, ↓x_seq, ↓x_next, ↓x_ifS, ↓x_ret, ↓x_retN, ↓x_drop, ↓x_asg, ↓x_gname, ↓x_gtup, ↓x_gcons, ↓x_gnil, ↓x_gsub, ↓x_set, ↓x_for, ↓x_forR1, ↓x_lc, ↓x_lcR, ↓x_fld, ↓x_setF, ↓x_meth, ↓x_make, ↓x_sl, ↓x_part, ↓x_noPart, ↓x_yes, onB_bl, onS_some, onL_lst, onQ_some, onI_ins, onD_dk, onR_ref, onT_tup, onBo_some, x_app, x_clr, x_ext, v_add, v_addT, v_addS, v_addL, v_sub, v_mul, v_rep, v_mod, v_div, v_pow, v_lt, v_le, v_gt, v_ge, v_isN, v_notN, n_non, n_bl, n_int, n_str, n_ref, n_tup, q_ss, q_ii, q_bb, q_nn, q_is, q_si, q_in, q_ni, q_sn, q_ns, d_ss, d_ii, d_bb, d_nn, d_in, d_ni, ix_t, ix_r, ix_l, in_t, notin_t, fl_s, fl_i, fl_n, so_t, so_r, so_lp, len_t, len_r, len_s, int_i, int_b, list_x, tuple_x, min_ii, max_ii, sl_t, sl_l, look_nil, look_cons, putW_nil, putW_cons, x_inKd, x_notinKd, x_getKd, x_dget, key_s, key_i, val_nil, val_cons, inr_eq, start1, line_lt, atI0, atI1, atI2, atI3, atI4, List.map_cons, List.map_nil, List.cons_append, List.nil_append, List.set_cons_zero, List.set_cons_succ, List.length_cons, List.length_nil, List.all_cons, List.all_nil, List.replicate_succ, List.replicate_zero, Nat.reduceAdd, Nat.reduceSub, Nat.zero_add, wd_inj, Nat.reduceLT, Nat.reduceEqDiff, decide_true, decide_false, Bool.false_eq_true, Bool.true_eq_false, Bool.not_true, Bool.not_false, Bool.or_false, Bool.false_or, Bool.or_true, Bool.true_or, Bool.and_self, Bool.and_true, Bool.true_and, ↓reduceIte, reduceCtorEq, line_le, Nat.reduceLeDiff, true_and, and_true, and_self, Option.isSome_some, Option.isSome_none, Int.reduceAdd, Int.reduceSub, Int.reduceMul, Int.add_zero, Int.reduceLT, Int.reduceLE, Int.reduceEq, Int.reduceNeg, put_same, ci0, ci1, ci2, ci3, ci4, ci5, ci6, W_PAIRS, startW, it_t, it_i, it_s, it_n, it_b, il_t, il_i, il_s, il_n, il_b, itl_t, ib_i, ib_s, ib_b, is_i, is_s, ii_i])
local macro_rules | `(tactic| walk_at "ws") => `(tactic| simp only [↓x_var0, ↓x_varS, ↓x_c, ↓x_op, ↓x_b, ↓x_chain, ↓x_and, ↓x_or, ↓x_not, ↓x_andV, ↓x_orV, ↓x_notV, ↓x_if, ↓x_orT, ↓x_tr, ↓x_neg, ↓x_nil, ↓x_cons, ↓x_tup, ↓x_lst, ↓x_call, ↓x_lm, ↓x_lm0, ↓x_seq, ↓x_next, ↓x_ifS, ↓x_ret, ↓x_retN, ↓x_drop, ↓x_asg, ↓x_gname, ↓x_gtup, ↓x_gcons, ↓x_gnil, ↓x_gsub, ↓x_set, ↓x_for, ↓x_forR1, ↓x_lc, ↓x_lcR, ↓x_fld, ↓x_setF, ↓x_meth, ↓x_make, ↓x_sl, ↓x_part, ↓x_noPart, ↓x_yes, onB_bl, onS_some, onL_lst, onQ_some, onI_ins, onD_dk, onR_ref, onT_tup, onBo_some, x_app, x_clr, x_ext, v_add, v_addT, v_addS, v_addL, v_sub, v_mul, v_rep, v_mod, v_div, v_pow, v_lt, v_le, v_gt, v_ge, v_isN, v_notN, n_non, n_bl, n_int, n_str, n_ref, n_tup, q_ss, q_ii, q_bb, q_nn, q_is, q_si, q_in, q_ni, q_sn, q_ns, d_ss, d_ii, d_bb, d_nn, d_in, d_ni, ix_t, ix_r, ix_l, in_t, notin_t, fl_s, fl_i, fl_n, so_t, so_r, so_lp, len_t, len_r, len_s, int_i, int_b, list_x, tuple_x, min_ii, max_ii, sl_t, sl_l, look_nil, look_cons, putW_nil, putW_cons, x_inKd, x_notinKd, x_getKd, x_dget, key_s, key_i, val_nil, val_cons, inr_eq, start1, line_lt, atI0, atI1, atI2, atI3, atI4, List.map_cons, List.map_nil, List.cons_append, List.nil_append, List.set_cons_zero, List.set_cons_succ, List.length_cons, List.length_nil, List.all_cons, List.all_nil, List.replicate_succ, List.replicate_zero, Nat.reduceAdd, Nat.reduceSub, Nat.zero_add, wd_inj, Nat.reduceLT, Nat.reduceEqDiff, decide_true, decide_false, Bool.false_eq_true, Bool.true_eq_false, Bool.not_true, Bool.not_false, Bool.or_false, Bool.false_or, Bool.or_true, Bool.true_or, Bool.and_self, Bool.and_true, Bool.true_and, ↓reduceIte, reduceCtorEq, line_le, Nat.reduceLeDiff, true_and, and_true, and_self, Option.isSome_some, Option.isSome_none, Int.reduceAdd, Int.reduceSub, Int.reduceMul, Int.add_zero, Int.reduceLT, Int.reduceLE, Int.reduceEq, Int.reduceNeg, put_same, ci0, ci1, ci2, ci3, ci4, ci5, ci6, W_PAIRS, startW, *, it_t, it_i, it_s, it_n, it_b, il_t, il_i, il_s, il_n, il_b, itl_t, ib_i, ib_s, ib_b, is_i, is_s, ii_i])

/-- [G x for x in xs], where a turn makes new things only -/
theorem lc_leA {α : Type} {F G : α → W} {i : Nat} {te : WE} {Z : Sto → Prop} {D : Addr} {Q : Sto → Prop} {r : Rho} {S0 : Sto} (hD : S0 D = none) (hZ : ∀ S, Le S0 S → Z S) : ∀ (xs : List α) (acc : List W) (S : Sto), (∀ x ∈ xs, ∀ S Q', Le S0 S → (∀ S', Le S S' → Q' (G x) S') → te (r.set i (some (F x))) S Q') → acc.length + xs.length ≤ 1000000 → Le S0 S → S D = some (.lst acc) →
    (∀ S', Le S0 S' → S' D = some (.lst (acc ++ xs.map G)) → Q S') → lcW Z i wYes te D (xs.map F) r S Q
  | [], acc, S, he, hl, l, hS, q => ⟨hZ S l, q S l (by simpa using hS)⟩
  | x :: xs, acc, S, he, hl, l, hS, q => by
    refine ⟨hZ S l, ?_⟩
    refine yes_ok ?_
    rw [if_pos rfl]
    refine he x List.mem_cons_self S _ l fun S' l' => ⟨acc, l' _ _ hS, small_len (by rw [List.length_cons] at hl; omega), ?_⟩
    refine lc_leA hD hZ xs (acc ++ [G x]) _ (fun y hy => he y (List.mem_cons_of_mem _ hy)) (by rw [List.length_append, List.length_singleton]; rw [List.length_cons] at hl; omega) (fun a o e => ?_) put_same fun S'' l'' h'' => q S'' l'' ?_
    · rw [put_ne (ne_none e hD)]
      exact l' _ _ (l _ _ e)
    · rw [h'', List.map_cons, List.append_assoc]; rfl
theorem lc_le {α : Type} {F G : α → W} {i : Nat} {te : WE} {Z : Sto → Prop} {D : Addr} {Q : Sto → Prop} {r : Rho} {S0 : Sto} (hD : S0 D = none) (xs : List α) (hZ : ∀ S, Le S0 S → Z S) (he : ∀ x ∈ xs, ∀ S Q', Le S0 S → (∀ S', Le S S' → Q' (G x) S') → te (r.set i (some (F x))) S Q') (hl : xs.length ≤ 1000000)
    (q : ∀ S', Le S0 S' → S' D = some (.lst (xs.map G)) → Q S') : lcW Z i wYes te D (xs.map F) r (put S0 D (.lst [])) Q :=
  lc_leA hD hZ xs [] _ he (by simpa using hl) (Le.put hD) put_same fun S' l h => q S' l (by simpa using h)
/-! ### how many words a run tells -/
def Tk.tw (T : Tk) : Nat := (T.told.map fun t => t.1.length).sum + T.said.length
theorem tell_tw (T : Tk) (o : Out) : (T.tell o).tw = T.tw := by
  simp [Tk.tw, Tk.tell]
theorem gift_tw (T : Tk) (v : Int) : (T.gift v).2.tw = T.tw := by
  unfold Tk.gift
  split <;> exact tell_tw _ _
theorem close_tw (T : Tk) (w : Way) : (T.close w).tw = T.tw := by
  unfold Tk.close
  split
  · rfl
  · split <;> exact tell_tw _ _
  · exact tell_tw _ _
theorem given_tw (T : Tk) (v : Int) (k : Option Nat) (sl : List Int) : (given T v k sl).2.2.tw = T.tw := by
  have g := gift_tw T v
  unfold given
  split <;> (rename_i h; rw [h] at g; exact g)
theorem rounds_tw {f : RS → Option Way × RS} {c : Nat} (hf : ∀ s, (f s).2.2.tw ≤ s.2.tw + c) : ∀ (n : Nat) (s : RS), (rounds f n s).2.2.tw ≤ s.2.tw + n * c
  | 0, s => by simp [rounds]
  | n + 1, s => by
    have h := hf s
    have e : (n + 1) * c = n * c + c := Nat.succ_mul n c
    unfold rounds
    split
    · rename_i s' q
      rw [q] at h
      have := rounds_tw hf n s'
      (try simp only at h)
      omega
    · rename_i s' q
      rw [q] at h
      (try simp only at h ⊢)
      have : 0 ≤ n * c := Nat.zero_le _
      omega
    · rename_i w s' _ q
      rw [q] at h
      (try simp only at h ⊢)
      have : 0 ≤ n * c := Nat.zero_le _
      omega
theorem lastly_tw {f : RS → Option Way × RS} {c : Nat} (hf : ∀ s, (f s).2.2.tw ≤ s.2.tw + c) (r : Option Way × RS) : (lastly f r).2.2.tw ≤ r.2.2.tw + c := by
  unfold lastly
  split
  · simp only; omega
  · rename_i w s' _
    have h := hf s'
    split
    · rename_i q; rw [q] at h; exact h
    · rename_i q; rw [q] at h; exact h
theorem caught_tw {f : RS → Option Way × RS} {c : Nat} (hf : ∀ s, (f s).2.2.tw ≤ s.2.tw + c) (k : Option Nat) (r : Option Way × RS) : (caught f k r).2.2.tw ≤ r.2.2.tw + c := by
  unfold caught
  split
  · exact hf _
  · omega
theorem back_tw (sl : List Int) (k : Option Nat) (r : Option Way × RS) : (back sl k r).2.2.tw = r.2.2.tw := by
  unfold back
  split <;> rfl
mutual
theorem C.tw : ∀ (c : C) (s : RS), (c.run s).2.2.tw ≤ s.2.tw + c.cost
  | .leave, s => by simp only [C.run]; omega
  | .set k e, (sl, T) => by simp only [C.run]; split <;> ((try simp only); omega)
  | .say e, (sl, T) => by
    simp only [C.run, C.cost]
    split
    · (try simp only); omega
    · simp [Tk.say, Tk.tw]; omega
  | .fault e, (sl, T) => by simp only [C.run]; split <;> ((try simp only); omega)
  | .ends e, (sl, T) => by simp only [C.run]; split <;> ((try simp only); omega)
  | .give e k, (sl, T) => by
    simp only [C.run]; split
    · (try simp only); omega
    · rw [given_tw]; (try simp only); omega
  | .ifs e a b, (sl, T) => by
    simp only [C.run, C.cost]
    split
    · (try simp only); omega
    · have h1 := Cs.tw a (sl, T)
      have h2 := Cs.tw b (sl, T)
      (try simp only at h1 h2)
      split <;> ((try simp only); omega)
  | .round e a, (sl, T) => by
    simp only [C.run]
    split
    · (try simp only); omega
    · rename_i v hv
      have h := rounds_tw (fun s => Cs.tw a s) (v % 10).toNat (sl, T)
      have m9 : (v % 10).toNat ≤ 9 := by omega
      have m : (v % 10).toNat * Cs.cost a ≤ 9 * Cs.cost a := Nat.mul_le_mul_right _ m9
      cases e with
      | num n => simp only [reck, Option.some.injEq] at hv; subst hv; simp only [C.cost]; exact h
      | slot k => simp only [C.cost]; (try simp only at h ⊢); omega
      | op o x y => simp only [C.cost]; (try simp only at h ⊢); omega
  | .hand args k ex body, (sl, T) => by
    simp only [C.run, C.cost]
    split
    · (try simp only); omega
    · rw [back_tw]
      exact Cs.tw body _
  | .try0 a l, s => by
    simp only [C.run, C.cost]
    have h1 := Cs.tw a s
    have h2 := lastly_tw (fun s => Cs.tw l s) (Cs.run a s)
    omega
  | .tryc a k c l, s => by
    simp only [C.run, C.cost]
    have h1 := Cs.tw a s
    have h2 := caught_tw (fun s => Cs.tw c s) k (Cs.run a s)
    have h3 := lastly_tw (fun s => Cs.tw l s) (caught (Cs.run c) k (Cs.run a s))
    omega
theorem Cs.tw : ∀ (cs : List C) (s : RS), (Cs.run cs s).2.2.tw ≤ s.2.tw + Cs.cost cs
  | [], s => by simp only [Cs.run]; omega
  | c :: cs, s => by
    have h1 := C.tw c s
    simp only [Cs.run, Cs.cost]
    split
    · rename_i s' q
      rw [q] at h1
      have h2 := Cs.tw cs s'
      (try simp only at h1)
      omega
    · rename_i w s' q
      rw [q] at h1
      (try simp only at h1 ⊢)
      omega
end
theorem tw_le {T : Tk} {t : Told} (h : t ∈ T.told) : t.1.length ≤ T.tw := by
  unfold Tk.tw
  have : t.1.length ≤ (T.told.map fun t => t.1.length).sum := by
    revert h
    induction T.told with
    | nil => intro h; cases h
    | cons u l ih =>
      intro h
      rw [List.map_cons, List.sum_cons]
      rcases List.mem_cons.mp h with rfl | h
      · omega
      · have := ih h; omega
  omega
/-- of what is told no row of words is longer than the cost -/
theorem played_short {cb : List C} {ns : List Int} {ex : Nat} {ds : List Deed} {t : Told} (h : t ∈ playedM cb ns ex ds) : t.1.length ≤ Cs.cost cb := by
  have u : ∀ (l : List Deed), t ∈ l.map untouched → t.1.length ≤ Cs.cost cb := fun l h => by
    obtain ⟨d, _, rfl⟩ := List.mem_map.mp h
    cases d <;> exact Nat.zero_le _
  have v : t ∈ (⟨ds, [], []⟩ : Tk).all → t.1.length ≤ Cs.cost cb := fun h => by
    unfold Tk.all at h
    rcases List.mem_append.mp h with h | h
    · cases h
    · exact u _ h
  cases ds with
  | nil => exact v h
  | cons d r => cases d with
    | throw n => exact v h
    | shut => exact v h
    | ask i =>
      unfold playedM Tk.all at h
      rcases List.mem_append.mp h with h | h
      · have h1 := tw_le h
        rw [close_tw] at h1
        refine Nat.le_trans h1 (Nat.le_trans (Cs.tw cb _) ?_)
        simp [Tk.tw]
      · exact u _ h
/-! ### every work of a program is data -/
theorem isR_deep {slots : Int} : ∀ {e : Rk} {d : Nat}, e.isR slots d = true → e.deep ≤ d
  | .num n, d, h => Nat.zero_le _
  | .slot k, d, h => Nat.zero_le _
  | .op o a b, 0, h => by simp [Rk.isR] at h
  | .op o a b, d + 1, h => by
    simp only [Rk.isR, Bool.and_eq_true] at h
    have := isR_deep h.1
    have := isR_deep h.2
    simp only [Rk.deep]; omega
theorem isR_okW {slots : Int} {e : Rk} {n : Nat} (h : e.isR slots 3 = true) (hn : 4 ≤ n) : okW n e.W = true := Rk.okW e (by have := isR_deep h; omega)
theorem optI_okW (k : Option Int) (n : Nat) : okW n (optI k) = true := by cases k <;> (unfold optI; rw [okW])
theorem int_okW (k : Int) (n : Nat) : okW n (.int k) = true := by rw [okW]
theorem w_okW {i : Nat} (h : i < 122) (n : Nat) : okW n (.str (wd i)) = true := by rw [okW]; exact wd_ok h
theorem tup_okW {n : Nat} {ws : List W} (h : okWs n ws = true) : okW (n + 1) (.tup ws) = true := by rw [okW]; exact h
theorem cons_okW {n : Nat} {w : W} {ws : List W} (h : okW n w = true) (h' : okWs n ws = true) : okWs n (w :: ws) = true := by rw [okWs, h, h']; rfl
theorem nil_okW {n : Nat} : okWs n [] = true := by rw [okWs]
mutual
theorem isS_okW {p : List Work} {number : Nat} : ∀ (s : Step) {rounds : Bool} {within n : Nat}, s.isS p number rounds within = true → 3 * (7 - within) + 8 ≤ n → okW n s.W = true
  | .leave, _, _, n, h, hn => by
    obtain ⟨m, rfl⟩ : ∃ m, n = m + 1 := ⟨n - 1, by omega⟩
    rw [Step.W]; exact tup_okW (cons_okW (w_okW (by decide) _) nil_okW)
  | .set k e, _, _, n, h, hn => by
    obtain ⟨m, rfl⟩ : ∃ m, n = m + 1 := ⟨n - 1, by omega⟩
    simp only [Step.isS, areParts, Bool.and_eq_true] at h
    rw [Step.W]; exact tup_okW (cons_okW (w_okW (by decide) _) (cons_okW (optI_okW _ _) (cons_okW (isR_okW h.2.2.2 (by omega)) nil_okW)))
  | .say e, _, _, n, h, hn => by
    obtain ⟨m, rfl⟩ : ∃ m, n = m + 1 := ⟨n - 1, by omega⟩
    simp only [Step.isS, areParts, Bool.and_eq_true] at h
    rw [Step.W]; exact tup_okW (cons_okW (w_okW (by decide) _) (cons_okW (isR_okW h.2 (by omega)) nil_okW))
  | .fault e, _, _, n, h, hn => by
    obtain ⟨m, rfl⟩ : ∃ m, n = m + 1 := ⟨n - 1, by omega⟩
    simp only [Step.isS, areParts, Bool.and_eq_true] at h
    rw [Step.W]; exact tup_okW (cons_okW (w_okW (by decide) _) (cons_okW (isR_okW h.2 (by omega)) nil_okW))
  | .ends e, _, _, n, h, hn => by
    obtain ⟨m, rfl⟩ : ∃ m, n = m + 1 := ⟨n - 1, by omega⟩
    simp only [Step.isS, areParts, Bool.and_eq_true] at h
    rw [Step.W]; exact tup_okW (cons_okW (w_okW (by decide) _) (cons_okW (isR_okW h.2 (by omega)) nil_okW))
  | .give e k, _, _, n, h, hn => by
    obtain ⟨m, rfl⟩ : ∃ m, n = m + 1 := ⟨n - 1, by omega⟩
    simp only [Step.isS, areParts, Bool.and_eq_true] at h
    rw [Step.W]; exact tup_okW (cons_okW (w_okW (by decide) _) (cons_okW (isR_okW h.2.2 (by omega)) (cons_okW (optI_okW _ _) nil_okW)))
  | .hand w args k, _, _, n, h, hn => by
    obtain ⟨m, rfl⟩ : ∃ m, n = m + 2 := ⟨n - 2, by omega⟩
    simp only [Step.isS, areParts, Bool.and_eq_true, List.all_eq_true] at h
    rw [Step.W]
    refine tup_okW (cons_okW (w_okW (by decide) _) (cons_okW (int_okW _ _) (cons_okW (tup_okW (okWs_of fun w hw => ?_)) (cons_okW (optI_okW _ _) nil_okW))))
    obtain ⟨e, he, rfl⟩ := List.mem_map.mp hw
    exact isR_okW (h.2.2.2 e he) (by omega)
  | .ifs e a b, _, within, n, h, hn => by
    obtain ⟨m, rfl⟩ : ∃ m, n = m + 2 := ⟨n - 2, by omega⟩
    simp only [Step.isS, areParts, Bool.and_eq_true, decide_eq_true_eq] at h
    rw [Step.W]
    exact tup_okW (cons_okW (w_okW (by decide) _) (cons_okW (isR_okW h.1.2 (by omega)) (cons_okW (tup_okW (isB_okW a h.2.1 (by omega))) (cons_okW (tup_okW (isB_okW b h.2.2 (by omega))) nil_okW))))
  | .round e a, _, within, n, h, hn => by
    obtain ⟨m, rfl⟩ : ∃ m, n = m + 2 := ⟨n - 2, by omega⟩
    simp only [Step.isS, areParts, Bool.and_eq_true, decide_eq_true_eq] at h
    rw [Step.W]
    exact tup_okW (cons_okW (w_okW (by decide) _) (cons_okW (isR_okW h.1.2 (by omega)) (cons_okW (tup_okW (isB_okW a h.2 (by omega))) nil_okW)))
  | .try0 a l, _, within, n, h, hn => by
    obtain ⟨m, rfl⟩ : ∃ m, n = m + 2 := ⟨n - 2, by omega⟩
    simp only [Step.isS, Bool.and_eq_true, decide_eq_true_eq] at h
    rw [Step.W]
    exact tup_okW (cons_okW (w_okW (by decide) _) (cons_okW (tup_okW (isB_okW a h.2.1 (by omega))) (cons_okW (by rw [okW]) (cons_okW (tup_okW (isB_okW l h.2.2 (by omega))) nil_okW))))
  | .tryc a k c l, _, within, n, h, hn => by
    obtain ⟨m, rfl⟩ : ∃ m, n = m + 3 := ⟨n - 3, by omega⟩
    simp only [Step.isS, Bool.and_eq_true, decide_eq_true_eq] at h
    rw [Step.W]
    exact tup_okW (cons_okW (w_okW (by decide) _) (cons_okW (tup_okW (isB_okW a h.2.1 (by omega))) (cons_okW (tup_okW (cons_okW (optI_okW _ _) (cons_okW (tup_okW (isB_okW c h.2.2.1 (by omega))) nil_okW))) (cons_okW (tup_okW (isB_okW l h.2.2.2 (by omega))) nil_okW))))
theorem isB_okW {p : List Work} {number : Nat} : ∀ (b : List Step) {rounds : Bool} {within n : Nat}, Steps.isB p number rounds within b = true → 3 * (7 - within) + 8 ≤ n → okWs n (Steps.W b) = true
  | [], _, _, _, _, _ => by rw [Steps.W]; exact nil_okW
  | s :: b, _, _, _, h, hn => by
    rw [Steps.isB, Bool.and_eq_true] at h
    rw [Steps.W]
    exact cons_okW (isS_okW s h.1 hn) (isB_okW b h.2 hn)
end
theorem work_okW' {p : List Work} {number : Nat} {w : Work} {n : Nat} (h : w.ok p number = true) (hn : 32 ≤ n) : okW n w.W = true := by
  obtain ⟨m, rfl⟩ : ∃ m, n = m + 2 := ⟨n - 2, by omega⟩
  simp only [Work.ok, Bool.and_eq_true] at h
  rw [Work.W]
  exact tup_okW (cons_okW (int_okW _ _) (cons_okW (int_okW _ _) (cons_okW (tup_okW (isB_okW w.body h.2.1 (by omega))) nil_okW)))
theorem prog_okW {p : List Work} {k n : Nat} (h : progOk p k) (hn : 32 ≤ n) : okWs n (p.map Work.W) = true := okWs_of fun x hx => by
  obtain ⟨w, hw, rfl⟩ := List.mem_map.mp hx
  obtain ⟨i, hi⟩ := List.getElem?_of_mem hw
  exact work_okW' (h.ok i w hi).1 hn
namespace K3
def sp_law_over : WSp := fun ws S Q => ∃ d : Deed, ws = [d.W] ∧ ∀ S', Le S S' → Q (toldW (untouched d)) S'
theorem r_law_over : ∀ ws S Q, Up Q → sp_law_over ws S Q → t_law_over { nx := fun _ S' => Q .non S', rt := Q } (startW 1 ws) S := by
  rintro ws S Q up ⟨d, rfl, q⟩
  cases d with
  | ask n =>
    simp only [t_law_over, Deed.W]
    walk_at "wx"
    intro p hp
    exact q _ (Le.put hp)
  | throw n =>
    simp only [t_law_over, Deed.W]
    walk_at "wx"
    exact q _ Le.refl
  | shut =>
    simp only [t_law_over, Deed.W]
    walk_at "wx"
    intro p hp
    exact q _ (Le.put hp)
theorem g3_clo {slots : Int} {p : List Work} : ∀ {b : List Step}, (∀ s ∈ b, G3 slots s) → CloB p b (b.map g3C)
  | [], _ => .nil
  | s :: b, h => by
    refine .cons ?_ (g3_clo fun t ht => h t (List.mem_cons_of_mem _ ht))
    cases h s List.mem_cons_self with
    | set _ _ => exact .set _ _
    | say _ => exact .say _
    | give _ _ => rw [g3C, map_nat]; exact .give _ _
theorem g3_ok {m : Nat} : ∀ {b : List Step}, (∀ s ∈ b, G3 (m : Int) s) → Cs.ok m (b.map g3C) ∧ Cs.dep (b.map g3C) = 0 ∧ Cs.cost (b.map g3C) ≤ b.length
  | [], _ => ⟨trivial, rfl, Nat.le_refl _⟩
  | s :: b, h => by
    obtain ⟨h1, h2, h3⟩ := g3_ok (b := b) fun t ht => h t (List.mem_cons_of_mem _ ht)
    simp only [List.map_cons, Cs.ok, Cs.dep, Cs.cost, List.length_cons, h2]
    cases h s List.mem_cons_self with
    | @set k e hk he => exact ⟨⟨⟨by simpa using hk, easy_e he rfl⟩, h1⟩, by simp [g3C, C.dep], by simp [g3C, C.cost]; omega⟩
    | say he => exact ⟨⟨easy_e he rfl, h1⟩, by simp [g3C, C.dep], by simp [g3C, C.cost]; omega⟩
    | give he hk => rw [g3C, map_nat]; exact ⟨⟨⟨easy_e he rfl, fun j hj => by have := hk j hj; omega⟩, h1⟩, by simp [C.dep], by simp [C.cost]; omega⟩
theorem g3_all {slots : Int} : ∀ {b : List Step}, (∀ s ∈ b, G3 slots s) → Steps.all b = b ∧ Steps.dep b = 0 ∧ Steps.fit b ∧ ∀ p : List Work, slotsOf p 0 = slots → Steps.isB p 0 false 0 b = true
  | [], _ => ⟨by simp [Steps.all], by simp [Steps.dep], trivial, fun p _ => by simp [Steps.isB]⟩
  | s :: b, h => by
    obtain ⟨h1, h2, h3, h4⟩ := g3_all (b := b) fun t ht => h t (List.mem_cons_of_mem _ ht)
    simp only [Steps.all, Steps.dep, Steps.fit, Steps.isB, h1, h2]
    cases h s List.mem_cons_self with
    | @set k e hk he => exact ⟨by simp [Step.all], by simp [Step.dep], ⟨trivial, h3⟩, fun p hp => by rw [h4 p hp]; simp [Step.isS, areParts, isK, hp, he, hk]⟩
    | say he => exact ⟨by simp [Step.all], by simp [Step.dep], ⟨trivial, h3⟩, fun p hp => by rw [h4 p hp]; simp [Step.isS, areParts, hp, he]⟩
    | @give e k he hk => exact ⟨by simp [Step.all], by simp [Step.dep], ⟨trivial, h3⟩, fun p hp => by
        rw [h4 p hp]
        cases k with
        | none => simp [Step.isS, areParts, hp, he, isK]
        | some k => simp [Step.isS, areParts, hp, he, isK, hk k rfl]⟩
theorem g3_playable {m k : Nat} {b : List Step} {ns : List Int} {ds : List Deed} (h : ∀ s ∈ b, G3 (m : Int) s) (hb : b.length ≤ 40) (hm : 1 ≤ m) (hm4 : m ≤ 4) (hk : k ≤ 2) (hkm : k ≤ m) (hn : ns.length = k) (hin : ∀ i ∈ ns, InR i) (hd : ∀ d ∈ ds, d.ok) (hdl : ds.length ≤ 1000) :
    Playable [⟨(k : Int), (m : Int), b⟩] 0 ns ds (b.map g3C) (m - k) 1 1 := by
  obtain ⟨a1, a2, a3, a4⟩ := g3_all h
  obtain ⟨o1, o2, o3⟩ := g3_ok h
  refine ⟨⟨by simp, by simp, fun number w hw => ?_⟩, ⟨_, rfl, by simp only; omega, by simp only; omega, by simp only; omega, g3_clo h⟩, by omega, by rw [show ns.length + (m - k) = m by omega]; exact o1, by omega, hin, hd, by omega, hdl, by omega⟩
  have e0 : number = 0 := by
    have := (List.getElem?_eq_some_iff.mp hw).1
    simp at this; exact this
  subst e0
  have ew : w = ⟨(k : Int), (m : Int), b⟩ := by simpa using hw.symm
  subst ew
  refine ⟨?_, ⟨by simp only; omega, a3, by simp only [a1]; omega⟩⟩
  unfold Work.ok
  simp only [a1, a4 _ (show slotsOf [⟨(k : Int), (m : Int), b⟩] 0 = (m : Int) from rfl)]
  simp
  omega
end K3
end WL

namespace WL
open PySem L2
local macro_rules | `(tactic| walk_at "wx") => `(tactic| simp only [↓x_var0, ↓x_varS, ↓x_c, ↓x_op, ↓x_b, ↓x_chain, ↓x_and, ↓x_or, ↓x_not, ↓x_andV, ↓x_orV, ↓x_notV, ↓x_if, ↓x_orT, ↓x_tr, ↓x_neg, ↓x_nil, ↓x_cons, ↓x_tup, ↓x_lst, ↓x_call, ↓x_lm, ↓x_lm0, ↓x_seq, ↓x_next, ↓x_ifS, ↓x_ret, ↓x_retN, ↓x_drop, ↓x_asg, ↓x_gname, ↓x_gtup, ↓x_gcons, ↓x_gnil, ↓x_gsub, ↓x_set, ↓x_for, ↓x_forR1, ↓x_lc, ↓x_lcR, ↓x_fld, ↓x_setF, ↓x_meth, ↓x_make, ↓x_sl, ↓x_part, ↓x_noPart, ↓x_yes, onB_bl, onS_some, onL_lst, onQ_some, onI_ins, onD_dk, onR_ref, onT_tup, onBo_some, x_app, x_clr, x_ext, v_add, v_addT, v_addS, v_addL, v_sub, v_mul, v_rep, v_mod, v_div, v_pow, v_lt, v_le, v_gt, v_ge, v_isN, v_notN, n_non, n_bl, n_int, n_str, n_ref, n_tup, q_ss, q_ii, q_bb, q_nn, q_is, q_si, q_in, q_ni, q_sn, q_ns, d_ss, d_ii, d_bb, d_nn, d_in, d_ni, ix_t, ix_r, ix_l, in_t, notin_t, fl_s, fl_i, fl_n, so_t, so_r, so_lp, len_t, len_r, len_s, int_i, int_b, list_x, tuple_x, min_ii, max_ii, sl_t, sl_l, look_nil, look_cons, putW_nil, putW_cons, x_inKd, x_notinKd, x_getKd, x_dget, key_s, key_i, val_nil, val_cons, inr_eq, start1, line_lt, atI0, atI1, atI2, atI3, atI4, List.map_cons, List.map_nil, List.cons_append, List.nil_append, List.set_cons_zero, List.set_cons_succ, List.length_cons, List.length_nil, List.all_cons, List.all_nil, List.replicate_succ, List.replicate_zero, Nat.reduceAdd, Nat.reduceSub, Nat.zero_add, wd_inj, Nat.reduceLT, Nat.reduceEqDiff, decide_true, decide_false, Bool.false_eq_true, Bool.true_eq_false, Bool.not_true, Bool.not_false, Bool.or_false, Bool.false_or, Bool.or_true, Bool.true_or, Bool.and_self, Bool.and_true, Bool.true_and, ↓reduceIte, reduceCtorEq, line_le, Nat.reduceLeDiff, true_and, and_true, and_self, Option.isSome_some, Option.isSome_none, Int.reduceAdd, Int.reduceSub, Int.reduceMul, Int.add_zero, Int.reduceLT, Int.reduceLE, Int.reduceEq, Int.reduceNeg, put_same, ci0, ci1, ci2, ci3, ci4, ci5, ci6, W_PAIRS, startW, it_t, it_i, it_s, it_n, it_b, il_t, il_i, il_s, il_n, il_b, itl_t, ib_i, ib_s, ib_b, is_i, is_s, ii_i])
local macro_rules | `(tactic| walk_at "ws") => `(tactic| simp only [↓x_var0, ↓x_varS, ↓x_c, ↓x_op, ↓x_b, ↓x_chain, ↓x_and, ↓x_or, ↓x_not, ↓x_andV, ↓x_orV, ↓x_notV, ↓x_if, ↓x_orT, ↓x_tr, ↓x_neg, ↓x_nil, ↓x_cons, ↓x_tup, ↓x_lst, ↓x_call, ↓x_lm, ↓x_lm0, ↓x_seq, ↓x_next, ↓x_ifS, ↓x_ret, ↓x_retN, ↓x_drop, ↓x_asg, ↓x_gname, ↓x_gtup, ↓x_gcons, ↓x_gnil, ↓x_gsub, ↓x_set, ↓x_for, ↓x_forR1, ↓x_lc, ↓x_lcR, ↓x_fld, ↓x_setF, ↓x_meth, ↓x_make, ↓x_sl, ↓x_part, ↓x_noPart, ↓x_yes, onB_bl, onS_some, onL_lst, onQ_some, onI_ins, onD_dk, onR_ref, onT_tup, onBo_some, x_app, x_clr, x_ext, v_add, v_addT, v_addS, v_addL, v_sub, v_mul, v_rep, v_mod, v_div, v_pow, v_lt, v_le, v_gt, v_ge, v_isN, v_notN, n_non, n_bl, n_int, n_str, n_ref, n_tup, q_ss, q_ii, q_bb, q_nn, q_is, q_si, q_in, q_ni, q_sn, q_ns, d_ss, d_ii, d_bb, d_nn, d_in, d_ni, ix_t, ix_r, ix_l, in_t, notin_t, fl_s, fl_i, fl_n, so_t, so_r, so_lp, len_t, len_r, len_s, int_i, int_b, list_x, tuple_x, min_ii, max_ii, sl_t, sl_l, look_nil, look_cons, putW_nil, putW_cons, x_inKd, x_notinKd, x_getKd, x_dget, key_s, key_i, val_nil, val_cons, inr_eq, start1, line_lt, atI0, atI1, atI2, atI3, atI4, List.map_cons, List.map_nil, List.cons_append, List.nil_append, List.set_cons_zero, List.set_cons_succ, List.length_cons, List.length_nil, List.all_cons, List.all_nil, List.replicate_succ, List.replicate_zero, Nat.reduceAdd, Nat.reduceSub, Nat.zero_add, wd_inj, Nat.reduceLT, Nat.reduceEqDiff, decide_true, decide_false, Bool.false_eq_true, Bool.true_eq_false, Bool.not_true, Bool.not_false, Bool.or_false, Bool.false_or, Bool.or_true, Bool.true_or, Bool.and_self, Bool.and_true, Bool.true_and, ↓reduceIte, reduceCtorEq, line_le, Nat.reduceLeDiff, true_and, and_true, and_self, Option.isSome_some, Option.isSome_none, Int.reduceAdd, Int.reduceSub, Int.reduceMul, Int.add_zero, Int.reduceLT, Int.reduceLE, Int.reduceEq, Int.reduceNeg, put_same, ci0, ci1, ci2, ci3, ci4, ci5, ci6, W_PAIRS, startW, *, it_t, it_i, it_s, it_n, it_b, il_t, il_i, il_s, il_n, il_b, itl_t, ib_i, ib_s, ib_b, is_i, is_s, ii_i])

theorem slots_new {S : Sto} {l : List Int} {d : Int} {P : W → Sto → Prop} (hl : l.length ≤ 1000) (hd0 : 0 ≤ d) (hd : d ≤ 1000) (q : ∀ S' p, Le S S' → S p = none → S' p = some (slotsM (l ++ List.replicate d.toNat 0)) → P (.ref p) S') :
    ∀ (p : Addr), S p = none → ∀ (p1 : Addr), put S p (.lst (l.map .int)) p1 = none → (-2 ^ 63 ≤ d ∧ d < 2 ^ 63 ∧ 1 * d.toNat ≤ sizeLine) ∧ ∀ (p2 : Addr), put (put S p (.lst (l.map .int))) p1 (.lst [.int 0]) p2 = none →
      onL (put (put (put S p (.lst (l.map .int))) p1 (.lst [.int 0])) p2 (.lst (List.replicate d.toNat [W.int 0]).flatten) p) fun xs => xs.length + (List.replicate d.toNat [W.int 0]).flatten.length ≤ sizeLine ∧ ∀ (p3 : Addr),
        put (put (put S p (.lst (l.map .int))) p1 (.lst [.int 0])) p2 (.lst (List.replicate d.toNat [W.int 0]).flatten) p3 = none → P (.ref p3) (put (put (put (put S p (.lst (l.map .int))) p1 (.lst [.int 0])) p2 (.lst (List.replicate d.toNat [W.int 0]).flatten)) p3 (.lst (xs ++ (List.replicate d.toNat [W.int 0]).flatten))) := by
  intro p hp p1 hp1
  refine ⟨⟨by omega, by omega, Nat.le_of_lt (small_len (by omega))⟩, fun p2 hp2 => ?_⟩
  have e45 : p ≠ p1 := ne_none put_same hp1
  have e46 : p ≠ p2 := ne_none (by rw [put_ne e45]; exact put_same) hp2
  rw [put_ne e46, put_ne e45, put_same]
  simp only [onL_lst]
  rw [rep_int, List.length_map, List.length_map, List.length_replicate]
  refine ⟨Nat.le_of_lt (small_len (by omega)), fun p3 hp3 => ?_⟩
  have l3 : Le S (put (put (put S p (.lst (l.map .int))) p1 (.lst [.int 0])) p2 (.lst ((List.replicate d.toNat (0 : Int)).map .int))) := ((Le.put hp).trans (Le.put hp1)).trans (Le.put hp2)
  rw [← List.map_append]
  exact q _ p3 (l3.trans (Le.put hp3)) (l3.free hp3) put_same
namespace K3
theorem tail_ok {row p7 p8 : Addr} {ns : List Int} {D : WD} {x0 x2 : Option W} {m k ex : Nat} {b : List Step} {l : List Int} {ds : List Deed} {F : List Told} {cb : List C} (PL : ∀ ds', (ds' = ds ∨ ds' = []) → Playable [⟨(k : Int), (m : Int), b⟩] 0 l ds' cb ex 1 1)
    (hF : playedM cb l ex ds = F ++ (ds.drop F.length).map untouched) (hFl : F.length ≤ 1000) (hFs : ∀ t ∈ F, t.1.length ≤ 1000000) (again : ∀ (S : Sto) (x3 x4 x5 x6 x7 x8 x9 x10 x11 : Option W), RowAt S row ns → D.nx [x0, some (.ref row), x2, x3, x4, x5, x6, x7, x8, x9, x10, x11] S) (S : Sto) (x9 x10 x11 : Option W) (R : RowAt S row ns) (h7 : S p7 = some (deedsM ds)) (h8 : S p8 = some (.lst (F.map toldW))) :
    l_law_1 sp_law_taken sp_law_steps sp_law_numbers sp_law_deeds sp_law_gone sp_law_over (sp_law_alike 20) (sp_played 1 1) D [x0, some (.ref row), x2, some (.int (m : Int)), some (.int (k : Int)), some (.tup (Steps.W b)), some (.tup (l.map .int)), some (.ref p7), some (.ref p8), x9, x10, x11] S := by
  have dl := (PL ds (.inl rfl)).dl
  unfold l_law_1
  walk_at "wx"
  simp only [deedsM] at h7
  simp only [len_l h8, List.length_map, h7, onL_lst, cut_drop]
  intro q1 hq1 q2 hq2
  have l1 := Le.put (o := .lst ((ds.map Deed.W).drop F.length)) hq1
  have hd1 : put S q1 (.lst ((ds.map Deed.W).drop F.length)) q1 = some (.lst ((ds.map Deed.W).drop F.length)) := put_same
  generalize put S q1 (.lst ((ds.map Deed.W).drop F.length)) = S1 at *
  rw [← List.map_drop] at hd1 ⊢
  refine lc_le (G := fun d => toldW (untouched d)) hq2 _ (fun S' l => so_l (l _ _ hd1)) (fun d hd S' Q' l q => ?_) (by rw [List.length_drop]; omega) fun S2 l2 h2 => ?_
  · walk_at "wx"
    exact ⟨d, rfl, q⟩
  have h8' := l2 _ _ (l1 _ _ h8)
  simp only [h8', h2, onL_lst]
  refine ⟨Nat.le_of_lt (small_len (by simp only [List.length_map, List.length_drop]; omega)), fun p9 hp9 => ?_⟩
  have l3 := (l1.trans l2).trans (Le.put (o := .lst (F.map toldW ++ (ds.drop F.length).map fun d => toldW (untouched d))) hp9)
  have h9 : put S2 p9 (.lst (F.map toldW ++ (ds.drop F.length).map fun d => toldW (untouched d))) p9 = some (.lst ((playedM cb l ex ds).map toldW)) := by rw [put_same, hF, List.map_append, List.map_map]; rfl
  generalize put S2 p9 (.lst (F.map toldW ++ (ds.drop F.length).map fun d => toldW (untouched d))) = S3 at *
  have R3 := R.le l3
  have h73 := l3 _ _ h7
  clear h8' h2 hp9 l3 l2 l1 hd1 hq1 hq2 R h7 h8
  intro pg hpg p1 hp1
  have l1 := (Le.put (o := .lst [W.tup [W.int (k : Int), W.int (m : Int), W.tup (Steps.W b)]]) hpg).trans (Le.put (o := .lst [W.tup [W.int (k : Int), W.int (m : Int), W.tup (Steps.W b)]]) hp1)
  have n1 : pg ≠ p1 := ne_none put_same hp1
  have hg : put (put S3 pg (.lst [W.tup [W.int (k : Int), W.int (m : Int), W.tup (Steps.W b)]])) p1 (.lst [W.tup [W.int (k : Int), W.int (m : Int), W.tup (Steps.W b)]]) pg = some (progM [⟨(k : Int), (m : Int), b⟩]) := by rw [put_ne n1, put_same]; rfl
  have h1 : put (put S3 pg (.lst [W.tup [W.int (k : Int), W.int (m : Int), W.tup (Steps.W b)]])) p1 (.lst [W.tup [W.int (k : Int), W.int (m : Int), W.tup (Steps.W b)]]) p1 = some (progM [⟨(k : Int), (m : Int), b⟩]) := by rw [put_same]; rfl
  have h7 := l1 _ _ h73
  have R4 := R3.le l1
  have h9' := l1 _ _ h9
  clear R3 h73 hpg hp1 h9 l1
  generalize put (put S3 pg (.lst [W.tup [W.int (k : Int), W.int (m : Int), W.tup (Steps.W b)]])) p1 (.lst [W.tup [W.int (k : Int), W.int (m : Int), W.tup (Steps.W b)]]) = S4 at *
  simp only [so_l h7, onQ_some]
  intro p2 hp2 ph hph
  have l1 := (Le.put (o := .lst (ds.map Deed.W)) hp2).trans (Le.put (o := .lst [W.ref p1, .ref p2]) hph)
  have n2 : p2 ≠ ph := ne_none put_same hph
  have h2 : put (put S4 p2 (.lst (ds.map Deed.W))) ph (.lst [W.ref p1, .ref p2]) p2 = some (deedsM ds) := by rw [put_ne n2, put_same]; rfl
  have hh : put (put S4 p2 (.lst (ds.map Deed.W))) ph (.lst [W.ref p1, .ref p2]) ph = some (.lst [W.ref p1, .ref p2]) := put_same
  have B : ∀ S, Le (put (put S4 p2 (.lst (ds.map Deed.W))) ph (.lst [W.ref p1, .ref p2])) S → (RowAt S row ns ∧ S pg = some (progM [⟨(k : Int), (m : Int), b⟩]) ∧ S p1 = some (progM [⟨(k : Int), (m : Int), b⟩]) ∧ S p7 = some (deedsM ds) ∧ S p2 = some (deedsM ds) ∧ S ph = some (.lst [W.ref p1, .ref p2]) ∧ S p9 = some (.lst ((playedM cb l ex ds).map toldW))) :=
    fun S l => ⟨R4.le (l1.trans l), l _ _ (l1 _ _ hg), l _ _ (l1 _ _ h1), l _ _ (l1 _ _ h7), l _ _ h2, l _ _ hh, l _ _ (l1 _ _ h9')⟩
  clear hp2 hph n2 h2 hh
  generalize put (put S4 p2 (.lst (ds.map Deed.W))) ph (.lst [W.ref p1, .ref p2]) = S5 at *
  have pl : ∀ w ∈ (playedM cb l ex ds).map toldW, Plain 3 w := fun w hw => by
    obtain ⟨t, ht, rfl⟩ := List.mem_map.mp hw
    rw [hF] at ht
    rcases List.mem_append.mp ht with ht | ht
    · exact told_plain (hFs t ht)
    · obtain ⟨d, _, rfl⟩ := List.mem_map.mp ht
      exact told_plain (by cases d <;> exact Nat.zero_le _)
  have pll : ((playedM cb l ex ds).map toldW).length ≤ 1000000 := by rw [hF]; simp only [List.length_map, List.length_append, List.length_drop]; omega
  have ow := prog_okW (n := 50) (PL ds (.inl rfl)).prog (by decide)
  have od := deeds_okW ds (n := 48)
  obtain ⟨_, b1, b2, b3, b4, b5, b6⟩ := B S5 Le.refl
  refine ⟨p1, p2, [⟨(k : Int), (m : Int), b⟩], 0, l, ds, cb, ex, rfl, b2, b4, PL ds (.inl rfl), fun S6 qa l6 fq hq => ?_⟩
  refine ⟨4, by decide, .inr ⟨qa, p9, _, 3, rfl, hq, (B S6 l6).2.2.2.2.2.2, pll, rfl, pl⟩, fun S7 l7 => ?_⟩
  walk_at "wx"
  intro pn hpn
  have l8 := (l6.trans l7).trans (Le.put (o := .lst [W.ref pg, .ref p7]) hpn)
  obtain ⟨R8, c1, c2, c3, c4, c5, c6⟩ := B _ l8
  refine ne_boxes c5 put_same c2 c1 c4 c3 ow od ?_
  walk_at "wx"
  simp only [c5, onL_lst]
  walk_at "wx"
  intro pe hpe
  have l9 := l8.trans (Le.put (o := .lst []) hpe)
  obtain ⟨R9, d1, d2, d3, d4, d5, d6⟩ := B _ l9
  refine ⟨p1, pe, [⟨(k : Int), (m : Int), b⟩], 0, l, [], cb, ex, rfl, d2, put_same, PL [] (.inr rfl), fun S10 qb l10 fqb hqb => ?_⟩
  intro pz hpz
  refine ne_empty (Le.put hpz _ _ hqb) put_same ?_ ?_
  · exact nil_okW
  · show onB (.bl (!List.isEmpty _)) _
    have e : List.isEmpty ((playedM cb l ex []).map toldW) = true := rfl
    rw [e]
    walk_at "wx"
    exact again _ _ _ _ _ _ _ _ _ _ ((R9.le l10).le (Le.put hpz))
theorem fin_all {cb : List C} {l : List Int} {ex : Nat} {ds : List Deed} {i : Int} (h0 : ds[0]? = some (.ask i)) (ok : Cs.ok (l.length + ex) cb) (hin : ∀ i ∈ l, InR i) (dok : ∀ d ∈ ds, d.ok) :
    playedM cb l ex ds = fin (Cs.run cb (l ++ List.replicate ex 0, ⟨ds, [], []⟩)) ++ (ds.drop (fin (Cs.run cb (l ++ List.replicate ex 0, ⟨ds, [], []⟩))).length).map untouched ∧ (fin (Cs.run cb (l ++ List.replicate ex 0, ⟨ds, [], []⟩))).length ≤ ds.length + 1 := by
  have rd : Ready (l ++ List.replicate ex 0, (⟨ds, [], []⟩ : Tk)) (l.length + ex) := ⟨by simp, fun j hj => (List.mem_append.mp hj).elim (hin j) fun hj => by rw [(List.mem_replicate.mp hj).2]; exact inR0, dok, by
    have := (List.getElem?_eq_some_iff.mp h0).1
    simpa using this⟩
  have K := Cs.kept cb rd ok
  obtain ⟨r, rfl⟩ : ∃ r, ds = .ask i :: r := by
    cases ds with
    | nil => simp at h0
    | cons d r => simp at h0; exact ⟨r, by rw [h0]⟩
  unfold playedM Tk.all
  rw [close_deeds, K.deeds]
  refine ⟨rfl, ?_⟩
  unfold fin
  have := close_len (T := (Cs.run cb (l ++ List.replicate ex 0, (⟨.ask i :: r, [], []⟩ : Tk))).2.2) (w := (Cs.run cb (l ++ List.replicate ex 0, (⟨.ask i :: r, [], []⟩ : Tk))).1.getD (.ends 0))
  have : _ ≤ (Deed.ask i :: r).length := K.le
  omega
theorem turn_ok {row : Addr} {ns : List Int} {D : WD} {x0 : Option W} (again : ∀ (S : Sto) (x2 x3 x4 x5 x6 x7 x8 x9 x10 x11 : Option W), RowAt S row ns → D.nx [x0, some (.ref row), x2, x3, x4, x5, x6, x7, x8, x9, x10, x11] S) (S : Sto) (x2 x3 x4 x5 x6 x7 x8 x9 x10 x11 : Option W) (R : RowAt S row ns) :
    l_law_2 sp_law_taken sp_law_steps sp_law_numbers sp_law_deeds sp_law_gone sp_law_over (sp_law_alike 20) (sp_played 1 1) D [x0, some (.ref row), x2, x3, x4, x5, x6, x7, x8, x9, x10, x11] S := by
  unfold l_law_2
  generalize hL : l_law_1 sp_law_taken sp_law_steps sp_law_numbers sp_law_deeds sp_law_gone sp_law_over (sp_law_alike 20) (sp_played 1 1) = L
  walk_at "wx"
  refine taken_ok R (by decide) (by decide) fun v S1 v0 v1 R1 F1 => ?_
  obtain ⟨m, rfl⟩ : ∃ m : Nat, v = (m : Int) := ⟨v.toNat, by omega⟩
  have e1 : (1 : Int) + (m : Int) = ((1 + m : Nat) : Int) := by omega
  walk_at "wx"
  simp only [e1]
  refine taken_ok R1 (by split <;> omega) (by split <;> omega) fun u S2 u0 u1 R2 F2 => ?_
  obtain ⟨k, rfl⟩ : ∃ k : Nat, u = (k : Int) := ⟨u.toNat, by omega⟩
  have hk : k ≤ 2 ∧ k ≤ 1 + m := by
    revert u1
    split <;> intro u1 <;> omega
  clear u1
  refine ⟨row, ns, ((1 + m : Nat) : Int), rfl, by omega, by omega, R2, fun b S3 hb he R3 F3 => ?_⟩
  refine numbers_ok R3 u0 (by omega) fun l S4 hl hin R4 F4 => ?_
  rw [Int.toNat_natCast] at hl
  refine ⟨row, ns, 9, rfl, by omega, R4, fun ds S5 p7 dl dok R5 F5 f7 h7 n7 => ?_⟩
  intro p8 hp8
  have h7' := Le.put (o := .lst []) hp8 _ _ h7
  have R6 := R5.le (Le.put (o := .lst []) hp8)
  have h8 : put S5 p8 (.lst []) p8 = some (.lst []) := put_same
  have l8 := Le.put (o := .lst []) hp8
  generalize put S5 p8 (.lst []) = S6 at *
  have PL : ∀ ds', (ds' = ds ∨ ds' = []) → Playable [⟨(k : Int), ((1 + m : Nat) : Int), b⟩] 0 l ds' (b.map g3C) (1 + m - k) 1 1 := fun ds' h => g3_playable he hb (by omega) (by omega) hk.1 hk.2 hl hin (fun d hd => by rcases h with rfl | rfl; exact dok d hd; exact absurd hd List.not_mem_nil) (by rcases h with rfl | rfl; omega; exact Nat.zero_le _)
  subst hL
  intro pz hpz
  have h9 := Le.put (o := .lst []) hpz _ _ h7'
  have hz : put S6 pz (.lst []) pz = some (.lst []) := put_same
  have R7 := R6.le (Le.put (o := .lst []) hpz)
  have h8' := Le.put (o := .lst []) hpz _ _ h8
  clear h7' R6 h8
  generalize put S6 pz (.lst []) = S7 at *
  have tl : ∀ (F : List Told), playedM (b.map g3C) l (1 + m - k) ds = F ++ (ds.drop F.length).map untouched → F.length ≤ 1000 → (∀ t ∈ F, t.1.length ≤ 1000000) → ∀ (S : Sto) (p8 : Addr) (x9 x10 x11 : Option W), RowAt S row ns → S p7 = some (deedsM ds) → S p8 = some (.lst (F.map toldW)) → l_law_1 sp_law_taken sp_law_steps sp_law_numbers sp_law_deeds sp_law_gone sp_law_over (sp_law_alike 20) (sp_played 1 1) D [x0, some (.ref row), x2, some (.int ((1 + m : Nat) : Int)), some (.int (k : Int)), some (.tup (Steps.W b)), some (.tup (l.map .int)), some (.ref p7), some (.ref p8), x9, x10, x11] S :=
    fun F h1 h2 h3 S p8 x9 x10 x11 h4 h5 h6 => tail_ok PL h1 h2 h3 (fun S x3 x4 x5 x6 x7 x8 x9 x10 x11 R => again S _ _ _ _ _ _ _ _ _ _ R) S x9 x10 x11 h4 h5 h6
  refine ne_empty h9 hz (deeds_okW ds (n := 58)) ?_
  cases ds with
  | nil =>
    walk_at "wx"
    exact tl [] rfl (Nat.zero_le _) (fun _ h => absurd h List.not_mem_nil) _ _ _ _ _ R7 h9 h8'
  | cons d r =>
    simp only [deedsM, List.map_cons] at h9
    show onB (.bl (!false)) _
    walk_at "wx"
    simp only [h9, onL_lst]
    walk_at "wx"
    cases d with
    | throw n =>
      simp only [Deed.W]
      walk_at "wx"
      exact tl [] rfl (Nat.zero_le _) (fun _ h => absurd h List.not_mem_nil) _ _ _ _ _ R7 h9 h8'
    | shut =>
      simp only [Deed.W]
      walk_at "wx"
      exact tl [] rfl (Nat.zero_le _) (fun _ h => absurd h List.not_mem_nil) _ _ _ _ _ R7 h9 h8'
    | ask i =>
      simp only [Deed.W]
      walk_at "wx"
      have hsl : (l ++ List.replicate (((1 + m : Nat) : Int) - (k : Int)).toNat (0 : Int)).length = 1 + m := by rw [List.length_append, List.length_replicate]; omega
      have ej : (((1 + m : Nat) : Int) - (k : Int)).toNat = 1 + m - k := by omega
      refine slots_new (P := fun w S => sp_law_gone [W.tup (Steps.W b), w, W.ref p7] S _) (by omega) (by omega) (by omega) fun S8 pa l8 fa ha => ?_
      obtain ⟨fa1, fa2⟩ := fin_all (cb := b.map g3C) (l := l) (ex := 1 + m - k) (ds := .ask i :: r) (i := i) rfl (by rw [show l.length + (1 + m - k) = 1 + m by omega]; exact (g3_ok he).1) hin dok
      have h9' := l8 _ _ h9
      rw [ej] at ha hsl
      have ian : ∀ j ∈ l ++ List.replicate (1 + m - k) (0 : Int), InR j := fun j hj => (List.mem_append.mp hj).elim (hin j) fun hj => by rw [(List.mem_replicate.mp hj).2]; exact inR0
      refine ⟨b, pa, p7, l ++ List.replicate (1 + m - k) 0, .ask i :: r, i, rfl, ha, h9', ne_none h9 fa, ian, fun s hs => by rw [hsl]; exact he s hs, by omega, by omega, dok, rfl, fun S9 p F9 fp hp => ?_⟩
      have nra : row ≠ pa := R7.ne fa
      obtain ⟨i1, i2, i3, i4, i5⟩ := R7.le l8
      refine tl _ fa1 (by omega) ?_ S9 p _ _ _ ⟨i1, i2, i3, F9 _ _ nra i4, i5⟩ (F9 _ _ (ne_none h9 fa) h9') hp
      refine fun t ht => Nat.le_trans (played_short (cb := b.map g3C) (ns := l) (ex := 1 + m - k) (ds := .ask i :: r) (by rw [fa1]; exact List.mem_append_left _ ht)) (by have := (g3_ok he).2.2; omega)
theorem turn_loop {row : Addr} {ns : List Int} {Q : WQ} {x0 : Option W} (q : ∀ S, Q (.bl true) S) : ∀ (xs : List W) (S : Sto) (x2 x3 x4 x5 x6 x7 x8 x9 x10 x11 : Option W), RowAt S row ns →
    forW (fun _ => True) (gNameW 2) (l_law_2 sp_law_taken sp_law_steps sp_law_numbers sp_law_deeds sp_law_gone sp_law_over (sp_law_alike 20) (sp_played 1 1)) xs { nx := wRet (wC (.bl true)) { nx := fun _ S' => Q .non S', rt := Q }, rt := Q } [x0, some (.ref row), x2, x3, x4, x5, x6, x7, x8, x9, x10, x11] S
  | [], S, x2, x3, x4, x5, x6, x7, x8, x9, x10, x11, R => by
    simp only [forW]
    exact ⟨trivial, q S⟩
  | x :: xs, S, x2, x3, x4, x5, x6, x7, x8, x9, x10, x11, R => by
    simp only [forW]
    exact ⟨trivial, turn_ok (fun S' x2 x3 x4 x5 x6 x7 x8 x9 x10 x11 R' => turn_loop q xs S' x2 x3 x4 x5 x6 x7 x8 x9 x10 x11 R') S _ _ _ _ _ _ _ _ _ _ R⟩
def sp_law : WSp := fun ws S Q => ∃ ns : List Int, ws = [.rl (ns.map .int)] ∧ ∀ S', Q (.bl true) S'
theorem r_law : ∀ ws S Q, Up Q → sp_law ws S Q → t_law sp_law_taken sp_law_steps sp_law_numbers sp_law_deeds sp_law_gone sp_law_over (sp_law_alike 20) (sp_played 1 1) { nx := fun _ S' => Q .non S', rt := Q } (startW 12 ws) S := by
  rintro ws S Q up ⟨ns, rfl, q⟩
  simp only [t_law]
  walk_at "wx"
  intro row hr
  refine ⟨⟨by decide, by decide⟩, ?_⟩
  exact turn_loop q _ _ _ _ _ _ _ _ _ _ _ _ ⟨0, 0, 0, put_same, by decide, by decide, by decide⟩
end K3
end WL

namespace WL.K3
open PySem L2
theorem mo_law_deeds  : MonoSp (sp_law_deeds) := by
  intro ws S Q Q' h q
  unfold sp_law_deeds at q ⊢
  repeat (first | exact h _ _ q | (refine Exists.elim q fun x q => Exists.intro x ?_) | (refine And.intro q.1 ?_; replace q := q.2) | (intro x; replace q := q x) | (refine ⟨fun hh => h _ _ (q.1 hh), ?_⟩; replace q := q.2))
theorem le_law_deeds  : ∀ ws S Q, (sp_law_deeds) ws S Q → ws.length = 2 := by
  intro ws S Q h
  unfold sp_law_deeds at h
  repeat (first | (obtain ⟨rfl, _⟩ := h; rfl) | (obtain ⟨_, h⟩ := h))
theorem mo_law_steps  : MonoSp (sp_law_steps) := by
  intro ws S Q Q' h q
  unfold sp_law_steps at q ⊢
  repeat (first | exact h _ _ q | (refine Exists.elim q fun x q => Exists.intro x ?_) | (refine And.intro q.1 ?_; replace q := q.2) | (intro x; replace q := q x) | (refine ⟨fun hh => h _ _ (q.1 hh), ?_⟩; replace q := q.2))
theorem le_law_steps  : ∀ ws S Q, (sp_law_steps) ws S Q → ws.length = 2 := by
  intro ws S Q h
  unfold sp_law_steps at h
  repeat (first | (obtain ⟨rfl, _⟩ := h; rfl) | (obtain ⟨_, h⟩ := h))
theorem mo_law_gone  : MonoSp (sp_law_gone) := by
  intro ws S Q Q' h q
  unfold sp_law_gone at q ⊢
  repeat (first | exact h _ _ q | (refine Exists.elim q fun x q => Exists.intro x ?_) | (refine And.intro q.1 ?_; replace q := q.2) | (intro x; replace q := q x) | (refine ⟨fun hh => h _ _ (q.1 hh), ?_⟩; replace q := q.2))
theorem le_law_gone  : ∀ ws S Q, (sp_law_gone) ws S Q → ws.length = 3 := by
  intro ws S Q h
  unfold sp_law_gone at h
  repeat (first | (obtain ⟨rfl, _⟩ := h; rfl) | (obtain ⟨_, h⟩ := h))
theorem mo_law_over  : MonoSp (sp_law_over) := by
  intro ws S Q Q' h q
  unfold sp_law_over at q ⊢
  repeat (first | exact h _ _ q | (refine Exists.elim q fun x q => Exists.intro x ?_) | (refine And.intro q.1 ?_; replace q := q.2) | (intro x; replace q := q x) | (refine ⟨fun hh => h _ _ (q.1 hh), ?_⟩; replace q := q.2))
theorem le_law_over  : ∀ ws S Q, (sp_law_over) ws S Q → ws.length = 1 := by
  intro ws S Q h
  unfold sp_law_over at h
  repeat (first | (obtain ⟨rfl, _⟩ := h; rfl) | (obtain ⟨_, h⟩ := h))
theorem mo_law  : MonoSp (sp_law) := by
  intro ws S Q Q' h q
  unfold sp_law at q ⊢
  repeat (first | exact h _ _ q | (refine Exists.elim q fun x q => Exists.intro x ?_) | (refine And.intro q.1 ?_; replace q := q.2) | (intro x; replace q := q x) | (refine ⟨fun hh => h _ _ (q.1 hh), ?_⟩; replace q := q.2))
theorem le_law  : ∀ ws S Q, (sp_law) ws S Q → ws.length = 1 := by
  intro ws S Q h
  unfold sp_law at h
  repeat (first | (obtain ⟨rfl, _⟩ := h; rfl) | (obtain ⟨_, h⟩ := h))
def top (i : Nat) : Stmt := PySem.Challenge.pw_pausewright_k03_gifts_in_a_row.main.body.getD i (.Pass ⟨0, 0, 0, 0⟩)
abbrev s_is_reckoning : Stmt := top 14
abbrev N_is_reckoning : List Str := ["e", "slots", "deep"]
abbrev P_is_reckoning : List Str := ["e", "slots", "deep"]
theorem sc_is_reckoning : FnScope N_is_reckoning P_is_reckoning (defScope s_is_reckoning) := ⟨rfl, rfl, rfl, by decide +kernel, rfl, by decide +kernel, by decide +kernel⟩
abbrev s_bodies : Stmt := top 15
abbrev N_bodies : List Str := ["step"]
abbrev P_bodies : List Str := ["step"]
theorem sc_bodies : FnScope N_bodies P_bodies (defScope s_bodies) := ⟨rfl, rfl, rfl, by decide +kernel, rfl, by decide +kernel, by decide +kernel⟩
abbrev s_is_kept : Stmt := top 16
abbrev N_is_kept : List Str := ["k", "slots"]
abbrev P_is_kept : List Str := ["k", "slots"]
theorem sc_is_kept : FnScope N_is_kept P_is_kept (defScope s_is_kept) := ⟨rfl, rfl, rfl, by decide +kernel, rfl, by decide +kernel, by decide +kernel⟩
abbrev s_are_parts : Stmt := top 17
abbrev N_are_parts : List Str := ["program", "number", "step", "slots", "e"]
abbrev P_are_parts : List Str := ["program", "number", "step"]
theorem sc_are_parts : FnScope N_are_parts P_are_parts (defScope s_are_parts) := ⟨rfl, rfl, rfl, by decide +kernel, rfl, by decide +kernel, by decide +kernel⟩
abbrev s_is_body : Stmt := top 18
abbrev N_is_body : List Str := ["program", "number", "body", "rounds", "within", "step", "inner"]
abbrev P_is_body : List Str := ["program", "number", "body", "rounds", "within"]
theorem sc_is_body : FnScope N_is_body P_is_body (defScope s_is_body) := ⟨rfl, rfl, rfl, by decide +kernel, rfl, by decide +kernel, by decide +kernel⟩
abbrev s_all_steps : Stmt := top 19
abbrev N_all_steps : List Str := ["body", "found", "step", "inner"]
abbrev P_all_steps : List Str := ["body"]
theorem sc_all_steps : FnScope N_all_steps P_all_steps (defScope s_all_steps) := ⟨rfl, rfl, rfl, by decide +kernel, rfl, by decide +kernel, by decide +kernel⟩
abbrev s_is_work : Stmt := top 20
abbrev N_is_work : List Str := ["program", "number", "params", "slots", "body"]
abbrev P_is_work : List Str := ["program", "number"]
theorem sc_is_work : FnScope N_is_work P_is_work (defScope s_is_work) := ⟨rfl, rfl, rfl, by decide +kernel, rfl, by decide +kernel, by decide +kernel⟩
abbrev s_need_program : Stmt := top 21
abbrev N_need_program : List Str := ["program", "number"]
abbrev P_need_program : List Str := ["program"]
theorem sc_need_program : FnScope N_need_program P_need_program (defScope s_need_program) := ⟨rfl, rfl, rfl, by decide +kernel, rfl, by decide +kernel, by decide +kernel⟩
abbrev s_need_work : Stmt := top 22
abbrev N_need_work : List Str := ["program", "work"]
abbrev P_need_work : List Str := ["program", "work"]
theorem sc_need_work : FnScope N_need_work P_need_work (defScope s_need_work) := ⟨rfl, rfl, rfl, by decide +kernel, rfl, by decide +kernel, by decide +kernel⟩
abbrev s_paired : Stmt := top 24
abbrev N_paired : List Str := ["word", "one", "other"]
abbrev P_paired : List Str := ["word", "one", "other"]
theorem sc_paired : FnScope N_paired P_paired (defScope s_paired) := ⟨rfl, rfl, rfl, by decide +kernel, rfl, by decide +kernel, by decide +kernel⟩
abbrev s_reckoned : Stmt := top 25
abbrev N_reckoned : List Str := ["e", "slots", "one", "other"]
abbrev P_reckoned : List Str := ["e", "slots"]
theorem sc_reckoned : FnScope N_reckoned P_reckoned (defScope s_reckoned) := ⟨rfl, rfl, rfl, by decide +kernel, rfl, by decide +kernel, by decide +kernel⟩
abbrev s_all_reckoned : Stmt := top 26
abbrev N_all_reckoned : List Str := ["args", "slots", "found", "e"]
abbrev P_all_reckoned : List Str := ["args", "slots"]
theorem sc_all_reckoned : FnScope N_all_reckoned P_all_reckoned (defScope s_all_reckoned) := ⟨rfl, rfl, rfl, by decide +kernel, rfl, by decide +kernel, by decide +kernel⟩
abbrev s_is_deed : Stmt := top 27
abbrev N_is_deed : List Str := ["deed"]
abbrev P_is_deed : List Str := ["deed"]
theorem sc_is_deed : FnScope N_is_deed P_is_deed (defScope s_is_deed) := ⟨rfl, rfl, rfl, by decide +kernel, rfl, by decide +kernel, by decide +kernel⟩
abbrev s_need_asked : Stmt := top 28
abbrev N_need_asked : List Str := ["params", "numbers", "deeds", "number", "deed"]
abbrev P_need_asked : List Str := ["params", "numbers", "deeds"]
theorem sc_need_asked : FnScope N_need_asked P_need_asked (defScope s_need_asked) := ⟨rfl, rfl, rfl, by decide +kernel, rfl, by decide +kernel, by decide +kernel⟩
abbrev s_untouched : Stmt := top 29
abbrev N_untouched : List Str := ["deed"]
abbrev P_untouched : List Str := ["deed"]
theorem sc_untouched : FnScope N_untouched P_untouched (defScope s_untouched) := ⟨rfl, rfl, rfl, by decide +kernel, rfl, by decide +kernel, by decide +kernel⟩
abbrev s_Talk__init_ : Stmt := inClass (top 30) 0
abbrev N_Talk__init_ : List Str := ["self", "deeds"]
abbrev P_Talk__init_ : List Str := ["self", "deeds"]
theorem sc_Talk__init_ : FnScope N_Talk__init_ P_Talk__init_ (defScope s_Talk__init_) := ⟨rfl, rfl, rfl, by decide +kernel, rfl, by decide +kernel, by decide +kernel⟩
abbrev s_Talk_begins : Stmt := inClass (top 30) 1
abbrev N_Talk_begins : List Str := ["self"]
abbrev P_Talk_begins : List Str := ["self"]
theorem sc_Talk_begins : FnScope N_Talk_begins P_Talk_begins (defScope s_Talk_begins) := ⟨rfl, rfl, rfl, by decide +kernel, rfl, by decide +kernel, by decide +kernel⟩
abbrev s_Talk_say : Stmt := inClass (top 30) 2
abbrev N_Talk_say : List Str := ["self", "word"]
abbrev P_Talk_say : List Str := ["self", "word"]
theorem sc_Talk_say : FnScope N_Talk_say P_Talk_say (defScope s_Talk_say) := ⟨rfl, rfl, rfl, by decide +kernel, rfl, by decide +kernel, by decide +kernel⟩
abbrev s_Talk_tell : Stmt := inClass (top 30) 3
abbrev N_Talk_tell : List Str := ["self", "outcome"]
abbrev P_Talk_tell : List Str := ["self", "outcome"]
theorem sc_Talk_tell : FnScope N_Talk_tell P_Talk_tell (defScope s_Talk_tell) := ⟨rfl, rfl, rfl, by decide +kernel, rfl, by decide +kernel, by decide +kernel⟩
abbrev s_Talk_gift : Stmt := inClass (top 30) 4
abbrev N_Talk_gift : List Str := ["self", "number"]
abbrev P_Talk_gift : List Str := ["self", "number"]
theorem sc_Talk_gift : FnScope N_Talk_gift P_Talk_gift (defScope s_Talk_gift) := ⟨rfl, rfl, rfl, by decide +kernel, rfl, by decide +kernel, by decide +kernel⟩
abbrev s_Talk_close : Stmt := inClass (top 30) 5
abbrev N_Talk_close : List Str := ["self", "way"]
abbrev P_Talk_close : List Str := ["self", "way"]
theorem sc_Talk_close : FnScope N_Talk_close P_Talk_close (defScope s_Talk_close) := ⟨rfl, rfl, rfl, by decide +kernel, rfl, by decide +kernel, by decide +kernel⟩
abbrev s_Talk_all_told : Stmt := inClass (top 30) 6
abbrev N_Talk_all_told : List Str := ["self", "deed"]
abbrev P_Talk_all_told : List Str := ["self"]
theorem sc_Talk_all_told : FnScope N_Talk_all_told P_Talk_all_told (defScope s_Talk_all_told) := ⟨rfl, rfl, rfl, by decide +kernel, rfl, by decide +kernel, by decide +kernel⟩
abbrev s_Walk__init_ : Stmt := inClass (top 32) 0
abbrev N_Walk__init_ : List Str := ["self", "program", "talk"]
abbrev P_Walk__init_ : List Str := ["self", "program", "talk"]
theorem sc_Walk__init_ : FnScope N_Walk__init_ P_Walk__init_ (defScope s_Walk__init_) := ⟨rfl, rfl, rfl, by decide +kernel, rfl, by decide +kernel, by decide +kernel⟩
abbrev s_Walk_body : Stmt := inClass (top 32) 1
abbrev N_Walk_body : List Str := ["self", "steps", "slots", "step", "way"]
abbrev P_Walk_body : List Str := ["self", "steps", "slots"]
theorem sc_Walk_body : FnScope N_Walk_body P_Walk_body (defScope s_Walk_body) := ⟨rfl, rfl, rfl, by decide +kernel, rfl, by decide +kernel, by decide +kernel⟩
abbrev s_Walk_step : Stmt := inClass (top 32) 2
abbrev N_Walk_step : List Str := ["self", "step", "slots", "number"]
abbrev P_Walk_step : List Str := ["self", "step", "slots"]
theorem sc_Walk_step : FnScope N_Walk_step P_Walk_step (defScope s_Walk_step) := ⟨rfl, rfl, rfl, by decide +kernel, rfl, by decide +kernel, by decide +kernel⟩
abbrev s_Walk_rounds : Stmt := inClass (top 32) 3
abbrev N_Walk_rounds : List Str := ["self", "steps", "many", "slots", "turn", "way"]
abbrev P_Walk_rounds : List Str := ["self", "steps", "many", "slots"]
theorem sc_Walk_rounds : FnScope N_Walk_rounds P_Walk_rounds (defScope s_Walk_rounds) := ⟨rfl, rfl, rfl, by decide +kernel, rfl, by decide +kernel, by decide +kernel⟩
abbrev s_Walk_given : Stmt := inClass (top 32) 4
abbrev N_Walk_given : List Str := ["self", "number", "k", "slots", "deed"]
abbrev P_Walk_given : List Str := ["self", "number", "k", "slots"]
theorem sc_Walk_given : FnScope N_Walk_given P_Walk_given (defScope s_Walk_given) := ⟨rfl, rfl, rfl, by decide +kernel, rfl, by decide +kernel, by decide +kernel⟩
abbrev s_Walk_handed : Stmt := inClass (top 32) 5
abbrev N_Walk_handed : List Str := ["self", "step", "slots", "params", "many", "body", "numbers", "way"]
abbrev P_Walk_handed : List Str := ["self", "step", "slots"]
theorem sc_Walk_handed : FnScope N_Walk_handed P_Walk_handed (defScope s_Walk_handed) := ⟨rfl, rfl, rfl, by decide +kernel, rfl, by decide +kernel, by decide +kernel⟩
abbrev s_Walk_tried : Stmt := inClass (top 32) 6
abbrev N_Walk_tried : List Str := ["self", "step", "slots", "way", "more"]
abbrev P_Walk_tried : List Str := ["self", "step", "slots"]
theorem sc_Walk_tried : FnScope N_Walk_tried P_Walk_tried (defScope s_Walk_tried) := ⟨rfl, rfl, rfl, by decide +kernel, rfl, by decide +kernel, by decide +kernel⟩
abbrev s_played : Stmt := top 33
abbrev N_played : List Str := ["program", "work", "numbers", "deeds", "talk", "params", "many", "body", "way"]
abbrev P_played : List Str := ["program", "work", "numbers", "deeds"]
theorem sc_played : FnScope N_played P_played (defScope s_played) := ⟨rfl, rfl, rfl, by decide +kernel, rfl, by decide +kernel, by decide +kernel⟩
abbrev s_law_taken : Stmt := top 35
abbrev N_law_taken : List Str := ["_law_row", "_law_many", "_law_found", "_law_cell"]
abbrev P_law_taken : List Str := ["_law_row", "_law_many"]
theorem sc_law_taken : FnScope N_law_taken P_law_taken (defScope s_law_taken) := ⟨rfl, rfl, rfl, by decide +kernel, rfl, by decide +kernel, by decide +kernel⟩
abbrev s_law_reckoning : Stmt := top 36
abbrev N_law_reckoning : List Str := ["_law_row", "_law_slots", "_law_deep", "_law_way", "_law_word"]
abbrev P_law_reckoning : List Str := ["_law_row", "_law_slots", "_law_deep"]
theorem sc_law_reckoning : FnScope N_law_reckoning P_law_reckoning (defScope s_law_reckoning) := ⟨rfl, rfl, rfl, by decide +kernel, rfl, by decide +kernel, by decide +kernel⟩
abbrev s_law_numbers : Stmt := top 37
abbrev N_law_numbers : List Str := ["_law_row", "_law_many", "_law_turn"]
abbrev P_law_numbers : List Str := ["_law_row", "_law_many"]
theorem sc_law_numbers : FnScope N_law_numbers P_law_numbers (defScope s_law_numbers) := ⟨rfl, rfl, rfl, by decide +kernel, rfl, by decide +kernel, by decide +kernel⟩
abbrev s_law_alike : Stmt := top 39
abbrev N_law_alike : List Str := ["_law_found", "_law_due", "_law_k"]
abbrev P_law_alike : List Str := ["_law_found", "_law_due"]
theorem sc_law_alike : FnScope N_law_alike P_law_alike (defScope s_law_alike) := ⟨rfl, rfl, rfl, by decide +kernel, rfl, by decide +kernel, by decide +kernel⟩
abbrev s_law_reckoned : Stmt := top 40
abbrev N_law_reckoned : List Str := ["_law_e", "_law_slots", "_law_one", "_law_other"]
abbrev P_law_reckoned : List Str := ["_law_e", "_law_slots"]
theorem sc_law_reckoned : FnScope N_law_reckoned P_law_reckoned (defScope s_law_reckoned) := ⟨rfl, rfl, rfl, by decide +kernel, rfl, by decide +kernel, by decide +kernel⟩
abbrev s_law_deeds : Stmt := top 38
abbrev N_law_deeds : List Str := ["_law_row", "_law_most", "_law_found", "_law_turn", "_law_number", "_law_way"]
abbrev P_law_deeds : List Str := ["_law_row", "_law_most"]
theorem sc_law_deeds : FnScope N_law_deeds P_law_deeds (defScope s_law_deeds) := ⟨rfl, rfl, rfl, by decide +kernel, rfl, by decide +kernel, by decide +kernel⟩
abbrev s_law_steps : Stmt := top 41
abbrev N_law_steps : List Str := ["_law_row", "_law_slots", "_law_found", "_law_turn", "_law_e", "_law_way"]
abbrev P_law_steps : List Str := ["_law_row", "_law_slots"]
theorem sc_law_steps : FnScope N_law_steps P_law_steps (defScope s_law_steps) := ⟨rfl, rfl, rfl, by decide +kernel, rfl, by decide +kernel, by decide +kernel⟩
abbrev s_law_gone : Stmt := top 42
abbrev N_law_gone : List Str := ["_law_steps_here", "_law_slots", "_law_deeds_here", "_law_found", "_law_words", "_law_step", "_law_number", "_law_deed"]
abbrev P_law_gone : List Str := ["_law_steps_here", "_law_slots", "_law_deeds_here"]
theorem sc_law_gone : FnScope N_law_gone P_law_gone (defScope s_law_gone) := ⟨rfl, rfl, rfl, by decide +kernel, rfl, by decide +kernel, by decide +kernel⟩
abbrev s_law_over : Stmt := top 43
abbrev N_law_over : List Str := ["_law_deed"]
abbrev P_law_over : List Str := ["_law_deed"]
theorem sc_law_over : FnScope N_law_over P_law_over (defScope s_law_over) := ⟨rfl, rfl, rfl, by decide +kernel, rfl, by decide +kernel, by decide +kernel⟩
abbrev s_law : Stmt := top 44
abbrev N_law : List Str := ["_law_script", "_law_row", "_law_turn", "_law_slots", "_law_params", "_law_steps_here", "_law_numbers_here", "_law_deeds_here", "_law_due", "_law_deed", "_law_program", "_law_handed"]
abbrev P_law : List Str := ["_law_script"]
theorem sc_law : FnScope N_law P_law (defScope s_law) := ⟨rfl, rfl, rfl, by decide +kernel, rfl, by decide +kernel, by decide +kernel⟩
structure Adr where
  (C_Talk C_Walk : Addr)
  (f_is_reckoning f_bodies f_is_kept f_are_parts f_is_body f_all_steps f_is_work f_need_program f_need_work f_paired f_reckoned f_all_reckoned f_is_deed f_need_asked f_untouched f_Talk__init_ f_Talk_begins f_Talk_say f_Talk_tell f_Talk_gift f_Talk_close f_Talk_all_told f_Walk__init_ f_Walk_body f_Walk_step f_Walk_rounds f_Walk_given f_Walk_handed f_Walk_tried f_played f_law_taken f_law_reckoning f_law_numbers f_law_alike f_law_reckoned f_law_deeds f_law_steps f_law_gone f_law_over f_law : Addr)
  (d_is_reckoning d_bodies d_is_kept d_are_parts d_is_body d_all_steps d_is_work d_need_program d_need_work d_paired d_reckoned d_all_reckoned d_is_deed d_need_asked d_untouched d_Talk__init_ d_Talk_begins d_Talk_say d_Talk_tell d_Talk_gift d_Talk_close d_Talk_all_told d_Walk__init_ d_Walk_body d_Walk_step d_Walk_rounds d_Walk_given d_Walk_handed d_Walk_tried d_played d_law_taken d_law_reckoning d_law_numbers d_law_alike d_law_reckoned d_law_deeds d_law_steps d_law_gone d_law_over d_law : FuncData)
  (a_LENGTHS a_PAIRS : Addr)
  (i_MOST_WORKS i_MOST_SLOTS i_MOST_PARAMS i_MOST_STEPS i_MOST_WITHIN i_MOST_DEEP i_LIMIT : Tok)
structure Txt (K : PySem.W.Frag) (mg : Str → Option Value) (w : World) (A : Adr) : Prop where
  F_is_reckoning : Fun K "is_reckoning" "is_reckoning" s_is_reckoning A.f_is_reckoning A.d_is_reckoning
  b_is_reckoning : Binds K A.d_is_reckoning P_is_reckoning []
  m_is_reckoning : mg "is_reckoning" = some (.ref A.f_is_reckoning)
  F_bodies : Fun K "bodies" "bodies" s_bodies A.f_bodies A.d_bodies
  b_bodies : Binds K A.d_bodies P_bodies []
  m_bodies : mg "bodies" = some (.ref A.f_bodies)
  F_is_kept : Fun K "is_kept" "is_kept" s_is_kept A.f_is_kept A.d_is_kept
  b_is_kept : Binds K A.d_is_kept P_is_kept []
  m_is_kept : mg "is_kept" = some (.ref A.f_is_kept)
  F_are_parts : Fun K "are_parts" "are_parts" s_are_parts A.f_are_parts A.d_are_parts
  b_are_parts : Binds K A.d_are_parts P_are_parts []
  m_are_parts : mg "are_parts" = some (.ref A.f_are_parts)
  F_is_body : Fun K "is_body" "is_body" s_is_body A.f_is_body A.d_is_body
  b_is_body : Binds K A.d_is_body P_is_body []
  m_is_body : mg "is_body" = some (.ref A.f_is_body)
  F_all_steps : Fun K "all_steps" "all_steps" s_all_steps A.f_all_steps A.d_all_steps
  b_all_steps : Binds K A.d_all_steps P_all_steps []
  m_all_steps : mg "all_steps" = some (.ref A.f_all_steps)
  F_is_work : Fun K "is_work" "is_work" s_is_work A.f_is_work A.d_is_work
  b_is_work : Binds K A.d_is_work P_is_work []
  m_is_work : mg "is_work" = some (.ref A.f_is_work)
  F_need_program : Fun K "need_program" "need_program" s_need_program A.f_need_program A.d_need_program
  b_need_program : Binds K A.d_need_program P_need_program []
  m_need_program : mg "need_program" = some (.ref A.f_need_program)
  F_need_work : Fun K "need_work" "need_work" s_need_work A.f_need_work A.d_need_work
  b_need_work : Binds K A.d_need_work P_need_work []
  m_need_work : mg "need_work" = some (.ref A.f_need_work)
  F_paired : Fun K "paired" "paired" s_paired A.f_paired A.d_paired
  b_paired : Binds K A.d_paired P_paired []
  m_paired : mg "paired" = some (.ref A.f_paired)
  F_reckoned : Fun K "reckoned" "reckoned" s_reckoned A.f_reckoned A.d_reckoned
  b_reckoned : Binds K A.d_reckoned P_reckoned []
  m_reckoned : mg "reckoned" = some (.ref A.f_reckoned)
  F_all_reckoned : Fun K "all_reckoned" "all_reckoned" s_all_reckoned A.f_all_reckoned A.d_all_reckoned
  b_all_reckoned : Binds K A.d_all_reckoned P_all_reckoned []
  m_all_reckoned : mg "all_reckoned" = some (.ref A.f_all_reckoned)
  F_is_deed : Fun K "is_deed" "is_deed" s_is_deed A.f_is_deed A.d_is_deed
  b_is_deed : Binds K A.d_is_deed P_is_deed []
  m_is_deed : mg "is_deed" = some (.ref A.f_is_deed)
  F_need_asked : Fun K "need_asked" "need_asked" s_need_asked A.f_need_asked A.d_need_asked
  b_need_asked : Binds K A.d_need_asked P_need_asked []
  m_need_asked : mg "need_asked" = some (.ref A.f_need_asked)
  F_untouched : Fun K "untouched" "untouched" s_untouched A.f_untouched A.d_untouched
  b_untouched : Binds K A.d_untouched P_untouched []
  m_untouched : mg "untouched" = some (.ref A.f_untouched)
  F_Talk__init_ : Fun K "__init__" "Talk.__init__" s_Talk__init_ A.f_Talk__init_ A.d_Talk__init_
  b_Talk__init_ : Binds K A.d_Talk__init_ P_Talk__init_ []
  F_Talk_begins : Fun K "begins" "Talk.begins" s_Talk_begins A.f_Talk_begins A.d_Talk_begins
  b_Talk_begins : Binds K A.d_Talk_begins P_Talk_begins []
  mt_Talk_begins : Meth K A.C_Talk "begins" A.f_Talk_begins
  F_Talk_say : Fun K "say" "Talk.say" s_Talk_say A.f_Talk_say A.d_Talk_say
  b_Talk_say : Binds K A.d_Talk_say P_Talk_say []
  mt_Talk_say : Meth K A.C_Talk "say" A.f_Talk_say
  F_Talk_tell : Fun K "tell" "Talk.tell" s_Talk_tell A.f_Talk_tell A.d_Talk_tell
  b_Talk_tell : Binds K A.d_Talk_tell P_Talk_tell []
  mt_Talk_tell : Meth K A.C_Talk "tell" A.f_Talk_tell
  F_Talk_gift : Fun K "gift" "Talk.gift" s_Talk_gift A.f_Talk_gift A.d_Talk_gift
  b_Talk_gift : Binds K A.d_Talk_gift P_Talk_gift []
  mt_Talk_gift : Meth K A.C_Talk "gift" A.f_Talk_gift
  F_Talk_close : Fun K "close" "Talk.close" s_Talk_close A.f_Talk_close A.d_Talk_close
  b_Talk_close : Binds K A.d_Talk_close P_Talk_close []
  mt_Talk_close : Meth K A.C_Talk "close" A.f_Talk_close
  F_Talk_all_told : Fun K "all_told" "Talk.all_told" s_Talk_all_told A.f_Talk_all_told A.d_Talk_all_told
  b_Talk_all_told : Binds K A.d_Talk_all_told P_Talk_all_told []
  mt_Talk_all_told : Meth K A.C_Talk "all_told" A.f_Talk_all_told
  F_Walk__init_ : Fun K "__init__" "Walk.__init__" s_Walk__init_ A.f_Walk__init_ A.d_Walk__init_
  b_Walk__init_ : Binds K A.d_Walk__init_ P_Walk__init_ []
  F_Walk_body : Fun K "body" "Walk.body" s_Walk_body A.f_Walk_body A.d_Walk_body
  b_Walk_body : Binds K A.d_Walk_body P_Walk_body []
  mt_Walk_body : Meth K A.C_Walk "body" A.f_Walk_body
  F_Walk_step : Fun K "step" "Walk.step" s_Walk_step A.f_Walk_step A.d_Walk_step
  b_Walk_step : Binds K A.d_Walk_step P_Walk_step []
  mt_Walk_step : Meth K A.C_Walk "step" A.f_Walk_step
  F_Walk_rounds : Fun K "rounds" "Walk.rounds" s_Walk_rounds A.f_Walk_rounds A.d_Walk_rounds
  b_Walk_rounds : Binds K A.d_Walk_rounds P_Walk_rounds []
  mt_Walk_rounds : Meth K A.C_Walk "rounds" A.f_Walk_rounds
  F_Walk_given : Fun K "given" "Walk.given" s_Walk_given A.f_Walk_given A.d_Walk_given
  b_Walk_given : Binds K A.d_Walk_given P_Walk_given []
  mt_Walk_given : Meth K A.C_Walk "given" A.f_Walk_given
  F_Walk_handed : Fun K "handed" "Walk.handed" s_Walk_handed A.f_Walk_handed A.d_Walk_handed
  b_Walk_handed : Binds K A.d_Walk_handed P_Walk_handed []
  mt_Walk_handed : Meth K A.C_Walk "handed" A.f_Walk_handed
  F_Walk_tried : Fun K "tried" "Walk.tried" s_Walk_tried A.f_Walk_tried A.d_Walk_tried
  b_Walk_tried : Binds K A.d_Walk_tried P_Walk_tried []
  mt_Walk_tried : Meth K A.C_Walk "tried" A.f_Walk_tried
  F_played : Fun K "played" "played" s_played A.f_played A.d_played
  b_played : Binds K A.d_played P_played []
  m_played : mg "played" = some (.ref A.f_played)
  F_law_taken : Fun K "_law_taken" "_law_taken" s_law_taken A.f_law_taken A.d_law_taken
  b_law_taken : Binds K A.d_law_taken P_law_taken []
  m_law_taken : mg "_law_taken" = some (.ref A.f_law_taken)
  F_law_reckoning : Fun K "_law_reckoning" "_law_reckoning" s_law_reckoning A.f_law_reckoning A.d_law_reckoning
  b_law_reckoning : Binds K A.d_law_reckoning P_law_reckoning []
  m_law_reckoning : mg "_law_reckoning" = some (.ref A.f_law_reckoning)
  F_law_numbers : Fun K "_law_numbers" "_law_numbers" s_law_numbers A.f_law_numbers A.d_law_numbers
  b_law_numbers : Binds K A.d_law_numbers P_law_numbers []
  m_law_numbers : mg "_law_numbers" = some (.ref A.f_law_numbers)
  F_law_alike : Fun K "_law_alike" "_law_alike" s_law_alike A.f_law_alike A.d_law_alike
  b_law_alike : Binds K A.d_law_alike P_law_alike []
  m_law_alike : mg "_law_alike" = some (.ref A.f_law_alike)
  F_law_reckoned : Fun K "_law_reckoned" "_law_reckoned" s_law_reckoned A.f_law_reckoned A.d_law_reckoned
  b_law_reckoned : Binds K A.d_law_reckoned P_law_reckoned []
  m_law_reckoned : mg "_law_reckoned" = some (.ref A.f_law_reckoned)
  F_law_deeds : Fun K "_law_deeds" "_law_deeds" s_law_deeds A.f_law_deeds A.d_law_deeds
  b_law_deeds : Binds K A.d_law_deeds P_law_deeds []
  m_law_deeds : mg "_law_deeds" = some (.ref A.f_law_deeds)
  F_law_steps : Fun K "_law_steps" "_law_steps" s_law_steps A.f_law_steps A.d_law_steps
  b_law_steps : Binds K A.d_law_steps P_law_steps []
  m_law_steps : mg "_law_steps" = some (.ref A.f_law_steps)
  F_law_gone : Fun K "_law_gone" "_law_gone" s_law_gone A.f_law_gone A.d_law_gone
  b_law_gone : Binds K A.d_law_gone P_law_gone []
  m_law_gone : mg "_law_gone" = some (.ref A.f_law_gone)
  F_law_over : Fun K "_law_over" "_law_over" s_law_over A.f_law_over A.d_law_over
  b_law_over : Binds K A.d_law_over P_law_over []
  m_law_over : mg "_law_over" = some (.ref A.f_law_over)
  F_law : Fun K "law" "law" s_law A.f_law A.d_law
  b_law : Binds K A.d_law P_law []
  m_Talk : mg "Talk" = some (.ref A.C_Talk)
  cl_Talk : Cls K A.C_Talk
  mk_Talk : Mk K A.C_Talk A.f_Talk__init_
  na_Talk_deeds : NoAttr K A.C_Talk "deeds"
  na_Talk_said : NoAttr K A.C_Talk "said"
  na_Talk_told : NoAttr K A.C_Talk "told"
  m_Walk : mg "Walk" = some (.ref A.C_Walk)
  cl_Walk : Cls K A.C_Walk
  mk_Walk : Mk K A.C_Walk A.f_Walk__init_
  na_Walk_program : NoAttr K A.C_Walk "program"
  na_Walk_talk : NoAttr K A.C_Walk "talk"
  m_MOST_WORKS : mg "MOST_WORKS" = some (.int 4 A.i_MOST_WORKS)
  m_MOST_SLOTS : mg "MOST_SLOTS" = some (.int 4 A.i_MOST_SLOTS)
  m_MOST_PARAMS : mg "MOST_PARAMS" = some (.int 2 A.i_MOST_PARAMS)
  m_MOST_STEPS : mg "MOST_STEPS" = some (.int 40 A.i_MOST_STEPS)
  m_MOST_WITHIN : mg "MOST_WITHIN" = some (.int 6 A.i_MOST_WITHIN)
  m_MOST_DEEP : mg "MOST_DEEP" = some (.int 3 A.i_MOST_DEEP)
  m_LIMIT : mg "LIMIT" = some (.int 1000 A.i_LIMIT)
  m_PAIRS : mg "PAIRS" = some (.ref A.a_PAIRS)
  m_LENGTHS : mg "LENGTHS" = some (.ref A.a_LENGTHS)
  r_PAIRS : ∀ H, Rel K H W_PAIRS (.ref A.a_PAIRS)
  kt_LENGTHS : KTab K w A.a_LENGTHS tab_LENGTHS
  z_bool : mg "bool" = none
  z_int : mg "int" = none
  z_isinstance : mg "isinstance" = none
  z_len : mg "len" = none
  z_list : mg "list" = none
  z_min : mg "min" = none
  z_range : mg "range" = none
  z_str : mg "str" = none
  z_tuple : mg "tuple" = none
section
variable {P : Program} {w : World} {K : PySem.W.Frag} {mg : Str → Option Value} {base : Heap} {A : Adr}
theorem ok_is_reckoning (T : Txt K mg w A) {k : Nat} {k_is_reckoning : Nat} {sp_is_reckoning : WSp} (G_is_reckoning : FnOk P w K mg base CX0 k_is_reckoning A.f_is_reckoning A.d_is_reckoning P_is_reckoning (LowSp K sp_is_reckoning) ∧ MonoSp sp_is_reckoning) (e_is_reckoning : k_is_reckoning ≤ k) {sp : WSp} (len : ∀ ws S Q, sp ws S Q → ws.length = 3)
    (read : ∀ ws S Q, Up Q → sp ws S Q → t_is_reckoning sp_is_reckoning { nx := fun _ S' => Q .non S', rt := Q } (startW 3 ws) S) : FnOk P w K mg base CX0 (k + 1) A.f_is_reckoning A.d_is_reckoning P_is_reckoning (LowSp K sp) :=
  fnW (t := t_is_reckoning sp_is_reckoning) T.F_is_reckoning sc_is_reckoning len (fun cdv AA outer s H E hr => (dss_cons (ds_if (dt_cmp (ow_eq hr.units) (de_ix (de_var (pv 0)) de_int (fun _ _ => rfl)) de_str (nomark _))
  (dss_one (ds_ret (de_and (de_cmp (ow_eq hr.units) (de_callB cw_len rfl T.z_len (by decide +kernel) (da_cons (de_var (pv 0)) da_nil)) de_int (nomark _)) (de_one (de_chain ow_le ow_lt de_int (de_ix (de_var (pv 0)) de_int (fun _ _ => rfl)) (de_glob (v := V.int 1000) rfl T.m_LIMIT ⟨_, rfl⟩ (fun _ => by simp only [Rel])))))))
  dss_nil)
  (dss_cons (ds_if (dt_cmp (ow_eq hr.units) (de_ix (de_var (pv 0)) de_int (fun _ _ => rfl)) de_str (nomark _))
  (dss_one (ds_ret (de_and (de_cmp (ow_eq hr.units) (de_callB cw_len rfl T.z_len (by decide +kernel) (da_cons (de_var (pv 0)) da_nil)) de_int (nomark _)) (de_one (de_chain ow_le ow_lt de_int (de_ix (de_var (pv 0)) de_int (fun _ _ => rfl)) (de_var (pv 1)))))))
  dss_nil)
  (dss_cons (ds_if (DW.dt (dw_or (dt_cmp ow_notin (de_ix (de_var (pv 0)) de_int (fun _ _ => rfl)) (de_glob (v := V.ref A.a_PAIRS) rfl T.m_PAIRS rfl T.r_PAIRS) (by with_unfolding_all rfl)) (dw_or (dt_cmp (ow_ne hr.units) (de_callB cw_len rfl T.z_len (by decide +kernel) (da_cons (de_var (pv 0)) da_nil)) de_int (nomark _)) (dw_or1 (dt_cmp (ow_eq hr.units) (de_var (pv 2)) de_int (nomark _))))))
  (dss_one (ds_ret de_bl))
  dss_nil)
  (dss_one (ds_ret (de_and (de_call G_is_reckoning.1 G_is_reckoning.2 (hr.mono (by omega)) rfl T.m_is_reckoning T.F_is_reckoning.kp T.b_is_reckoning (da_cons (de_ix (de_var (pv 0)) de_int (fun _ _ => rfl)) (da_cons (de_var (pv 1)) (da_cons (de_op ow_sub (de_var (pv 2)) de_int) da_nil)))) (de_one (de_call G_is_reckoning.1 G_is_reckoning.2 (hr.mono (by omega)) rfl T.m_is_reckoning T.F_is_reckoning.kp T.b_is_reckoning (da_cons (de_ix (de_var (pv 0)) de_int (fun _ _ => rfl)) (da_cons (de_var (pv 1)) (da_cons (de_op ow_sub (de_var (pv 2)) de_int) da_nil)))))))))))) read
theorem ok_bodies (T : Txt K mg w A) {k : Nat}  {sp : WSp} (len : ∀ ws S Q, sp ws S Q → ws.length = 1)
    (read : ∀ ws S Q, Up Q → sp ws S Q → t_bodies  { nx := fun _ S' => Q .non S', rt := Q } (startW 1 ws) S) : FnOk P w K mg base CX0 (k + 1) A.f_bodies A.d_bodies P_bodies (LowSp K sp) :=
  fnW (t := t_bodies ) T.F_bodies sc_bodies len (fun cdv AA outer s H E hr => (dss_cons (ds_if (dt_cmp (ow_eq hr.units) (de_ix (de_var (pv 0)) de_int (fun _ _ => rfl)) de_str (nomark _))
  (dss_one (ds_ret (de_lst (da_cons (de_ix (de_var (pv 0)) de_int (fun _ _ => rfl)) (da_cons (de_ix (de_var (pv 0)) de_int (fun _ _ => rfl)) da_nil)))))
  dss_nil)
  (dss_cons (ds_if (dt_cmp (ow_eq hr.units) (de_ix (de_var (pv 0)) de_int (fun _ _ => rfl)) de_str (nomark _))
  (dss_one (ds_ret (de_lst (da_cons (de_ix (de_var (pv 0)) de_int (fun _ _ => rfl)) da_nil))))
  dss_nil)
  (dss_cons (ds_if (DW.dt (dw_and (dt_cmp (ow_eq hr.units) (de_ix (de_var (pv 0)) de_int (fun _ _ => rfl)) de_str (nomark _)) (dw_and1 (dt_cmp ow_isN (de_ix (de_var (pv 0)) de_int (fun _ _ => rfl)) de_non (nomark _)))))
  (dss_one (ds_ret (de_lst (da_cons (de_ix (de_var (pv 0)) de_int (fun _ _ => rfl)) (da_cons (de_ix (de_var (pv 0)) de_int (fun _ _ => rfl)) da_nil)))))
  dss_nil)
  (dss_cons (ds_if (dt_cmp (ow_eq hr.units) (de_ix (de_var (pv 0)) de_int (fun _ _ => rfl)) de_str (nomark _))
  (dss_one (ds_ret (de_lst (da_cons (de_ix (de_var (pv 0)) de_int (fun _ _ => rfl)) (da_cons (de_ix (de_ix (de_var (pv 0)) de_int (fun _ _ => rfl)) de_int (fun _ _ => rfl)) (da_cons (de_ix (de_var (pv 0)) de_int (fun _ _ => rfl)) da_nil))))))
  dss_nil)
  (dss_one (ds_ret (de_lst da_nil)))))))) read
theorem ok_is_kept (T : Txt K mg w A) {k : Nat}  {sp : WSp} (len : ∀ ws S Q, sp ws S Q → ws.length = 2)
    (read : ∀ ws S Q, Up Q → sp ws S Q → t_is_kept  { nx := fun _ S' => Q .non S', rt := Q } (startW 2 ws) S) : FnOk P w K mg base CX0 (k + 1) A.f_is_kept A.d_is_kept P_is_kept (LowSp K sp) :=
  fnW (t := t_is_kept ) T.F_is_kept sc_is_kept len (fun cdv AA outer s H E hr => (dss_one (ds_ret (de_or (de_cmp ow_isN (de_var (pv 0)) de_non (nomark _)) (de_one (de_chain ow_le ow_lt de_int (de_var (pv 0)) (de_var (pv 1)))))))) read
theorem ok_are_parts (T : Txt K mg w A) {k : Nat} {k_is_kept : Nat} {sp_is_kept : WSp} (G_is_kept : FnOk P w K mg base CX0 k_is_kept A.f_is_kept A.d_is_kept P_is_kept (LowSp K sp_is_kept) ∧ MonoSp sp_is_kept) (e_is_kept : k_is_kept ≤ k) {k_is_reckoning : Nat} {sp_is_reckoning : WSp} (G_is_reckoning : FnOk P w K mg base CX0 k_is_reckoning A.f_is_reckoning A.d_is_reckoning P_is_reckoning (LowSp K sp_is_reckoning) ∧ MonoSp sp_is_reckoning) (e_is_reckoning : k_is_reckoning ≤ k) {sp : WSp} (len : ∀ ws S Q, sp ws S Q → ws.length = 3)
    (read : ∀ ws S Q, Up Q → sp ws S Q → t_are_parts sp_is_kept sp_is_reckoning { nx := fun _ S' => Q .non S', rt := Q } (startW 5 ws) S) : FnOk P w K mg base CX0 (k + 1) A.f_are_parts A.d_are_parts P_are_parts (LowSp K sp) :=
  fnW (t := t_are_parts sp_is_kept sp_is_reckoning) T.F_are_parts sc_are_parts len (fun cdv AA outer s H E hr => (dss_cons (ds_set (i := 3) sc_are_parts.nd rfl (by first | exact Or.inl rfl | exact Or.inr rfl) (de_ix (de_ix (de_var (pv 0)) (de_var (pv 1)) (fun _ _ => rfl)) de_int (fun _ _ => rfl)))
  (dss_cons (ds_if (dt_cmp (ow_eq hr.units) (de_ix (de_var (pv 2)) de_int (fun _ _ => rfl)) de_str (nomark _))
  (dss_one (ds_ret de_bl))
  dss_nil)
  (dss_cons (ds_if (dt_cmp (ow_eq hr.units) (de_ix (de_var (pv 2)) de_int (fun _ _ => rfl)) de_str (nomark _))
  (dss_one (ds_ret (de_or (de_cmp ow_isN (de_ix (de_var (pv 2)) de_int (fun _ _ => rfl)) de_non (nomark _)) (de_one (de_call G_is_kept.1 G_is_kept.2 (hr.mono (by omega)) rfl T.m_is_kept T.F_is_kept.kp T.b_is_kept (da_cons (de_ix (de_ix (de_var (pv 2)) de_int (fun _ _ => rfl)) de_int (fun _ _ => rfl)) (da_cons (de_var (pv 3)) da_nil)))))))
  dss_nil)
  (dss_cons (ds_if (dt_cmp (ow_eq hr.units) (de_ix (de_var (pv 2)) de_int (fun _ _ => rfl)) de_str (nomark _))
  (dss_one (ds_ret (de_and (de_cmp ow_notN (de_ix (de_var (pv 2)) de_int (fun _ _ => rfl)) de_non (nomark _)) (de_and (de_call G_is_kept.1 G_is_kept.2 (hr.mono (by omega)) rfl T.m_is_kept T.F_is_kept.kp T.b_is_kept (da_cons (de_ix (de_var (pv 2)) de_int (fun _ _ => rfl)) (da_cons (de_var (pv 3)) da_nil))) (de_one (de_call G_is_reckoning.1 G_is_reckoning.2 (hr.mono (by omega)) rfl T.m_is_reckoning T.F_is_reckoning.kp T.b_is_reckoning (da_cons (de_ix (de_var (pv 2)) de_int (fun _ _ => rfl)) (da_cons (de_var (pv 3)) (da_cons (de_glob (v := V.int 3) rfl T.m_MOST_DEEP ⟨_, rfl⟩ (fun _ => by simp only [Rel])) da_nil)))))))))
  dss_nil)
  (dss_cons (ds_if (dt_cmp (ow_eq hr.units) (de_ix (de_var (pv 2)) de_int (fun _ _ => rfl)) de_str (nomark _))
  (dss_cons (ds_if (DW.dt (dw_or (dt_not (dt_chain ow_lt ow_lt (de_var (pv 1)) (de_ix (de_var (pv 2)) de_int (fun _ _ => rfl)) (de_callB cw_len rfl T.z_len (by decide +kernel) (da_cons (de_var (pv 0)) da_nil)))) (dw_or1 (dt_cmp (ow_ne hr.units) (de_callB cw_len rfl T.z_len (by decide +kernel) (da_cons (de_ix (de_var (pv 2)) de_int (fun _ _ => rfl)) da_nil)) (de_ix (de_ix (de_var (pv 0)) (de_ix (de_var (pv 2)) de_int (fun _ _ => rfl)) (fun _ _ => rfl)) de_int (fun _ _ => rfl)) (nomark _)))))
  (dss_one (ds_ret de_bl))
  dss_nil)
  (dss_one (ds_ret (de_and (de_call G_is_kept.1 G_is_kept.2 (hr.mono (by omega)) rfl T.m_is_kept T.F_is_kept.kp T.b_is_kept (da_cons (de_ix (de_var (pv 2)) de_int (fun _ _ => rfl)) (da_cons (de_var (pv 3)) da_nil))) (de_one (de_cmp (ow_eq hr.units) (de_lc (x := ("e" : Str)) (i := 4) rfl sc_are_parts.nd (de_ix (de_var (pv 2)) de_int (fun _ _ => rfl)) (blkOk_by (N := N_are_parts) (sc := defScope s_are_parts) (by decide +kernel)) (fun _ _ _ _ _ => pg_name (i := 4) sc_are_parts.nd rfl (by first | exact Or.inl rfl | exact Or.inr rfl)) (fun _ _ _ _ _ => (dts_one (dt_not (dt_val (de_call G_is_reckoning.1 G_is_reckoning.2 (hr.mono (by omega)) rfl T.m_is_reckoning T.F_is_reckoning.kp T.b_is_reckoning (da_cons (de_var (pv 4)) (da_cons (de_var (pv 3)) (da_cons (de_glob (v := V.int 3) rfl T.m_MOST_DEEP ⟨_, rfl⟩ (fun _ => by simp only [Rel])) da_nil)))))))) (fun _ _ _ _ _ => (de_var (pv 4)))) (de_lst da_nil) (nomark _)))))))
  dss_nil)
  (dss_cons (ds_if (DW.dt (dw_and (dt_cmp (ow_eq hr.units) (de_ix (de_var (pv 2)) de_int (fun _ _ => rfl)) de_str (nomark _)) (dw_and1 (dt_not (dt_val (de_call G_is_kept.1 G_is_kept.2 (hr.mono (by omega)) rfl T.m_is_kept T.F_is_kept.kp T.b_is_kept (da_cons (de_ix (de_var (pv 2)) de_int (fun _ _ => rfl)) (da_cons (de_var (pv 3)) da_nil))))))))
  (dss_one (ds_ret de_bl))
  dss_nil)
  (dss_one (ds_ret (de_call G_is_reckoning.1 G_is_reckoning.2 (hr.mono (by omega)) rfl T.m_is_reckoning T.F_is_reckoning.kp T.b_is_reckoning (da_cons (de_ix (de_var (pv 2)) de_int (fun _ _ => rfl)) (da_cons (de_var (pv 3)) (da_cons (de_glob (v := V.int 3) rfl T.m_MOST_DEEP ⟨_, rfl⟩ (fun _ => by simp only [Rel])) da_nil))))))))))))) read
theorem ok_is_body (T : Txt K mg w A) {k : Nat} {k_are_parts : Nat} {sp_are_parts : WSp} (G_are_parts : FnOk P w K mg base CX0 k_are_parts A.f_are_parts A.d_are_parts P_are_parts (LowSp K sp_are_parts) ∧ MonoSp sp_are_parts) (e_are_parts : k_are_parts ≤ k) {k_is_body : Nat} {sp_is_body : WSp} (G_is_body : FnOk P w K mg base CX0 k_is_body A.f_is_body A.d_is_body P_is_body (LowSp K sp_is_body) ∧ MonoSp sp_is_body) (e_is_body : k_is_body ≤ k) {k_bodies : Nat} {sp_bodies : WSp} (G_bodies : FnOk P w K mg base CX0 k_bodies A.f_bodies A.d_bodies P_bodies (LowSp K sp_bodies) ∧ MonoSp sp_bodies) (e_bodies : k_bodies ≤ k) {sp : WSp} (len : ∀ ws S Q, sp ws S Q → ws.length = 5)
    (read : ∀ ws S Q, Up Q → sp ws S Q → t_is_body A.a_LENGTHS sp_are_parts sp_is_body sp_bodies { nx := fun _ S' => Q .non S', rt := Q } (startW 7 ws) S) : FnOk P w K mg base CX0 (k + 1) A.f_is_body A.d_is_body P_is_body (LowSp K sp) :=
  fnW (t := t_is_body A.a_LENGTHS sp_are_parts sp_is_body sp_bodies) T.F_is_body sc_is_body len (fun cdv AA outer s H E hr => (dss_cons (ds_for PassesOwn.never rfl (de_var (pv 2)) (dg_name (i := 5) sc_is_body.nd rfl (by first | exact Or.inl rfl | exact Or.inr rfl))
  (dss_cons (ds_if (DW.dt (dw_or (dt_cmp (ow_notinkd T.kt_LENGTHS) (de_ix (de_var (pv 5)) de_int (fun _ _ => rfl)) (de_glob (v := V.ref A.a_LENGTHS) rfl T.m_LENGTHS rfl (fun _ => by simp only [Rel])) (by with_unfolding_all rfl)) (dw_or (dt_cmp (ow_ne hr.units) (de_callB cw_len rfl T.z_len (by decide +kernel) (da_cons (de_var (pv 5)) da_nil)) (de_kget T.kt_LENGTHS (de_glob (v := V.ref A.a_LENGTHS) rfl T.m_LENGTHS rfl (fun _ => by simp only [Rel])) (de_ix (de_var (pv 5)) de_int (fun _ _ => rfl))) (nomark _)) (dw_or1 (dt_cmp ow_gt (de_var (pv 4)) (de_glob (v := V.int 6) rfl T.m_MOST_WITHIN ⟨_, rfl⟩ (fun _ => by simp only [Rel])) (nomark _))))))
  (dss_one (ds_ret de_bl))
  dss_nil)
  (dss_cons (ds_if (DW.dt (dw_or (dt_not (dt_val (de_call G_are_parts.1 G_are_parts.2 (hr.mono (by omega)) rfl T.m_are_parts T.F_are_parts.kp T.b_are_parts (da_cons (de_var (pv 0)) (da_cons (de_var (pv 1)) (da_cons (de_var (pv 5)) da_nil)))))) (dw_or1 (DW.dt (dw_and (dt_cmp (ow_eq hr.units) (de_ix (de_var (pv 5)) de_int (fun _ _ => rfl)) de_str (nomark _)) (dw_and1 (dt_not (dt_val (de_var (pv 3))))))))))
  (dss_one (ds_ret de_bl))
  dss_nil)
  (dss_one (ds_for PassesOwn.never rfl (de_call G_bodies.1 G_bodies.2 (hr.mono (by omega)) rfl T.m_bodies T.F_bodies.kp T.b_bodies (da_cons (de_var (pv 5)) da_nil)) (dg_name (i := 6) sc_is_body.nd rfl (by first | exact Or.inl rfl | exact Or.inr rfl))
  (dss_one (ds_if (dt_not (dt_val (de_call G_is_body.1 G_is_body.2 (hr.mono (by omega)) rfl T.m_is_body T.F_is_body.kp T.b_is_body (da_cons (de_var (pv 0)) (da_cons (de_var (pv 1)) (da_cons (de_var (pv 6)) (da_cons (de_or (de_var (pv 3)) (de_one (de_cmp (ow_eq hr.units) (de_ix (de_var (pv 5)) de_int (fun _ _ => rfl)) de_str (nomark _)))) (da_cons (de_op ow_add (de_var (pv 4)) de_int) da_nil))))))))
  (dss_one (ds_ret de_bl))
  dss_nil)))))))
  (dss_one (ds_ret de_bl)))) read
theorem ok_all_steps (T : Txt K mg w A) {k : Nat} {k_all_steps : Nat} {sp_all_steps : WSp} (G_all_steps : FnOk P w K mg base CX0 k_all_steps A.f_all_steps A.d_all_steps P_all_steps (LowSp K sp_all_steps) ∧ MonoSp sp_all_steps) (e_all_steps : k_all_steps ≤ k) {k_bodies : Nat} {sp_bodies : WSp} (G_bodies : FnOk P w K mg base CX0 k_bodies A.f_bodies A.d_bodies P_bodies (LowSp K sp_bodies) ∧ MonoSp sp_bodies) (e_bodies : k_bodies ≤ k) {sp : WSp} (len : ∀ ws S Q, sp ws S Q → ws.length = 1)
    (read : ∀ ws S Q, Up Q → sp ws S Q → t_all_steps sp_all_steps sp_bodies { nx := fun _ S' => Q .non S', rt := Q } (startW 4 ws) S) : FnOk P w K mg base CX0 (k + 1) A.f_all_steps A.d_all_steps P_all_steps (LowSp K sp) :=
  fnW (t := t_all_steps sp_all_steps sp_bodies) T.F_all_steps sc_all_steps len (fun cdv AA outer s H E hr => (dss_cons (ds_set (i := 1) sc_all_steps.nd rfl (by first | exact Or.inl rfl | exact Or.inr rfl) (de_lst da_nil))
  (dss_cons (ds_for PassesOwn.never rfl (de_var (pv 0)) (dg_name (i := 2) sc_all_steps.nd rfl (by first | exact Or.inl rfl | exact Or.inr rfl))
  (dss_cons (ds_expr (de_lm PySem.F.plainAttrs_list PySem.F.slot_list_append PySem.F.type_list_append mw_append (de_var (pv 1)) (da_cons (de_var (pv 2)) da_nil)))
  (dss_one (ds_for PassesOwn.never rfl (de_call G_bodies.1 G_bodies.2 (hr.mono (by omega)) rfl T.m_bodies T.F_bodies.kp T.b_bodies (da_cons (de_var (pv 2)) da_nil)) (dg_name (i := 3) sc_all_steps.nd rfl (by first | exact Or.inl rfl | exact Or.inr rfl))
  (dss_one (ds_expr (de_lm PySem.F.plainAttrs_list PySem.F.slot_list_extend PySem.F.type_list_extend mw_extend (de_var (pv 1)) (da_cons (de_call G_all_steps.1 G_all_steps.2 (hr.mono (by omega)) rfl T.m_all_steps T.F_all_steps.kp T.b_all_steps (da_cons (de_var (pv 3)) da_nil)) da_nil))))))))
  (dss_one (ds_ret (de_var (pv 1))))))) read
theorem ok_is_work (T : Txt K mg w A) {k : Nat} {k_is_body : Nat} {sp_is_body : WSp} (G_is_body : FnOk P w K mg base CX0 k_is_body A.f_is_body A.d_is_body P_is_body (LowSp K sp_is_body) ∧ MonoSp sp_is_body) (e_is_body : k_is_body ≤ k) {k_all_steps : Nat} {sp_all_steps : WSp} (G_all_steps : FnOk P w K mg base CX0 k_all_steps A.f_all_steps A.d_all_steps P_all_steps (LowSp K sp_all_steps) ∧ MonoSp sp_all_steps) (e_all_steps : k_all_steps ≤ k) {sp : WSp} (len : ∀ ws S Q, sp ws S Q → ws.length = 2)
    (read : ∀ ws S Q, Up Q → sp ws S Q → t_is_work sp_is_body sp_all_steps { nx := fun _ S' => Q .non S', rt := Q } (startW 5 ws) S) : FnOk P w K mg base CX0 (k + 1) A.f_is_work A.d_is_work P_is_work (LowSp K sp) :=
  fnW (t := t_is_work sp_is_body sp_all_steps) T.F_is_work sc_is_work len (fun cdv AA outer s H E hr => (dss_cons (ds_asg (de_ix (de_var (pv 0)) (de_var (pv 1)) (fun _ _ => rfl)) (dg_tup rfl (dgs_cons (dg_name (i := 2) sc_is_work.nd rfl (by first | exact Or.inl rfl | exact Or.inr rfl)) (dgs_cons (dg_name (i := 3) sc_is_work.nd rfl (by first | exact Or.inl rfl | exact Or.inr rfl)) (dgs_cons (dg_name (i := 4) sc_is_work.nd rfl (by first | exact Or.inl rfl | exact Or.inr rfl)) dgs_nil)))))
  (dss_cons (ds_if (DW.dt (dw_or (dt_not (dt_chain ow_le ow_le de_int (de_var (pv 3)) (de_glob (v := V.int 4) rfl T.m_MOST_SLOTS ⟨_, rfl⟩ (fun _ => by simp only [Rel])))) (dw_or (dt_not (dt_chain ow_le ow_le de_int (de_var (pv 2)) (de_glob (v := V.int 2) rfl T.m_MOST_PARAMS ⟨_, rfl⟩ (fun _ => by simp only [Rel])))) (dw_or1 (dt_cmp ow_gt (de_var (pv 2)) (de_var (pv 3)) (nomark _))))))
  (dss_one (ds_ret de_bl))
  dss_nil)
  (dss_one (ds_ret (de_and (de_call G_is_body.1 G_is_body.2 (hr.mono (by omega)) rfl T.m_is_body T.F_is_body.kp T.b_is_body (da_cons (de_var (pv 0)) (da_cons (de_var (pv 1)) (da_cons (de_var (pv 4)) (da_cons de_bl (da_cons de_int da_nil)))))) (de_one (de_cmp ow_le (de_callB cw_len rfl T.z_len (by decide +kernel) (da_cons (de_call G_all_steps.1 G_all_steps.2 (hr.mono (by omega)) rfl T.m_all_steps T.F_all_steps.kp T.b_all_steps (da_cons (de_var (pv 4)) da_nil)) da_nil)) (de_glob (v := V.int 40) rfl T.m_MOST_STEPS ⟨_, rfl⟩ (fun _ => by simp only [Rel])) (nomark _))))))))) read
theorem ok_need_program (T : Txt K mg w A) {k : Nat} {k_is_work : Nat} {sp_is_work : WSp} (G_is_work : FnOk P w K mg base CX0 k_is_work A.f_is_work A.d_is_work P_is_work (LowSp K sp_is_work) ∧ MonoSp sp_is_work) (e_is_work : k_is_work ≤ k) {sp : WSp} (len : ∀ ws S Q, sp ws S Q → ws.length = 1)
    (read : ∀ ws S Q, Up Q → sp ws S Q → t_need_program sp_is_work { nx := fun _ S' => Q .non S', rt := Q } (startW 2 ws) S) : FnOk P w K mg base CX0 (k + 1) A.f_need_program A.d_need_program P_need_program (LowSp K sp) :=
  fnW (t := t_need_program sp_is_work) T.F_need_program sc_need_program len (fun cdv AA outer s H E hr => (dss_cons (ds_if (dt_not (dt_chain ow_le ow_le de_int (de_callB cw_len rfl T.z_len (by decide +kernel) (da_cons (de_var (pv 0)) da_nil)) (de_glob (v := V.int 4) rfl T.m_MOST_WORKS ⟨_, rfl⟩ (fun _ => by simp only [Rel]))))
  (dss_one ds_never)
  dss_nil)
  (dss_one (ds_forR1 PassesOwn.never rfl rfl T.z_range (da_cons (de_callB cw_len rfl T.z_len (by decide +kernel) (da_cons (de_var (pv 0)) da_nil)) da_nil) (dg_name (i := 1) sc_need_program.nd rfl (by first | exact Or.inl rfl | exact Or.inr rfl))
  (dss_one (ds_if (dt_not (dt_val (de_call G_is_work.1 G_is_work.2 (hr.mono (by omega)) rfl T.m_is_work T.F_is_work.kp T.b_is_work (da_cons (de_var (pv 0)) (da_cons (de_var (pv 1)) da_nil)))))
  (dss_one ds_never)
  dss_nil)))))) read
theorem ok_need_work (T : Txt K mg w A) {k : Nat}  {sp : WSp} (len : ∀ ws S Q, sp ws S Q → ws.length = 2)
    (read : ∀ ws S Q, Up Q → sp ws S Q → t_need_work  { nx := fun _ S' => Q .non S', rt := Q } (startW 2 ws) S) : FnOk P w K mg base CX0 (k + 1) A.f_need_work A.d_need_work P_need_work (LowSp K sp) :=
  fnW (t := t_need_work ) T.F_need_work sc_need_work len (fun cdv AA outer s H E hr => (dss_one (ds_if (dt_not (dt_chain ow_le ow_lt de_int (de_var (pv 1)) (de_callB cw_len rfl T.z_len (by decide +kernel) (da_cons (de_var (pv 0)) da_nil))))
  (dss_one ds_never)
  dss_nil))) read
theorem ok_paired (T : Txt K mg w A) {k : Nat}  {sp : WSp} (len : ∀ ws S Q, sp ws S Q → ws.length = 3)
    (read : ∀ ws S Q, Up Q → sp ws S Q → t_paired  { nx := fun _ S' => Q .non S', rt := Q } (startW 3 ws) S) : FnOk P w K mg base CX0 (k + 1) A.f_paired A.d_paired P_paired (LowSp K sp) :=
  fnW (t := t_paired ) T.F_paired sc_paired len (fun cdv AA outer s H E hr => (dss_cons (ds_if (dt_cmp (ow_eq hr.units) (de_var (pv 0)) de_str (nomark _))
  (dss_one (ds_ret (de_op ow_mod (de_op ow_add (de_var (pv 1)) (de_var (pv 2))) (de_glob (v := V.int 1000) rfl T.m_LIMIT ⟨_, rfl⟩ (fun _ => by simp only [Rel])))))
  dss_nil)
  (dss_cons (ds_if (dt_cmp (ow_eq hr.units) (de_var (pv 0)) de_str (nomark _))
  (dss_one (ds_ret (de_op ow_mod (de_op ow_sub (de_var (pv 1)) (de_var (pv 2))) (de_glob (v := V.int 1000) rfl T.m_LIMIT ⟨_, rfl⟩ (fun _ => by simp only [Rel])))))
  dss_nil)
  (dss_cons (ds_if (dt_cmp (ow_eq hr.units) (de_var (pv 0)) de_str (nomark _))
  (dss_one (ds_ret (de_op ow_mod (de_op ow_mul (de_var (pv 1)) (de_var (pv 2))) (de_glob (v := V.int 1000) rfl T.m_LIMIT ⟨_, rfl⟩ (fun _ => by simp only [Rel])))))
  dss_nil)
  (dss_cons (ds_if (dt_cmp (ow_eq hr.units) (de_var (pv 0)) de_str (nomark _))
  (dss_one (ds_ret (de_if (dt_cmp (ow_eq hr.units) (de_var (pv 2)) de_int (nomark _)) de_non (de_op ow_fdiv (de_var (pv 1)) (de_var (pv 2))))))
  dss_nil)
  (dss_cons (ds_if (dt_cmp (ow_eq hr.units) (de_var (pv 0)) de_str (nomark _))
  (dss_one (ds_ret (de_callTy cw_int rfl T.z_int (by decide +kernel) (da_cons (de_cmp ow_lt (de_var (pv 1)) (de_var (pv 2)) (nomark _)) da_nil))))
  dss_nil)
  (dss_one (ds_ret (de_callTy cw_int rfl T.z_int (by decide +kernel) (da_cons (de_cmp (ow_eq hr.units) (de_var (pv 1)) (de_var (pv 2)) (nomark _)) da_nil)))))))))) read
theorem ok_reckoned (T : Txt K mg w A) {k : Nat} {k_reckoned : Nat} {sp_reckoned : WSp} (G_reckoned : FnOk P w K mg base CX0 k_reckoned A.f_reckoned A.d_reckoned P_reckoned (LowSp K sp_reckoned) ∧ MonoSp sp_reckoned) (e_reckoned : k_reckoned ≤ k) {k_paired : Nat} {sp_paired : WSp} (G_paired : FnOk P w K mg base CX0 k_paired A.f_paired A.d_paired P_paired (LowSp K sp_paired) ∧ MonoSp sp_paired) (e_paired : k_paired ≤ k) {sp : WSp} (len : ∀ ws S Q, sp ws S Q → ws.length = 2)
    (read : ∀ ws S Q, Up Q → sp ws S Q → t_reckoned sp_reckoned sp_paired { nx := fun _ S' => Q .non S', rt := Q } (startW 4 ws) S) : FnOk P w K mg base CX0 (k + 1) A.f_reckoned A.d_reckoned P_reckoned (LowSp K sp) :=
  fnW (t := t_reckoned sp_reckoned sp_paired) T.F_reckoned sc_reckoned len (fun cdv AA outer s H E hr => (dss_cons (ds_if (dt_cmp (ow_eq hr.units) (de_ix (de_var (pv 0)) de_int (fun _ _ => rfl)) de_str (nomark _))
  (dss_one (ds_ret (de_ix (de_var (pv 0)) de_int (fun _ _ => rfl))))
  dss_nil)
  (dss_cons (ds_if (dt_cmp (ow_eq hr.units) (de_ix (de_var (pv 0)) de_int (fun _ _ => rfl)) de_str (nomark _))
  (dss_one (ds_ret (de_ix (de_var (pv 1)) (de_ix (de_var (pv 0)) de_int (fun _ _ => rfl)) (fun _ _ => rfl))))
  dss_nil)
  (dss_cons (ds_set (i := 2) sc_reckoned.nd rfl (by first | exact Or.inl rfl | exact Or.inr rfl) (de_call G_reckoned.1 G_reckoned.2 (hr.mono (by omega)) rfl T.m_reckoned T.F_reckoned.kp T.b_reckoned (da_cons (de_ix (de_var (pv 0)) de_int (fun _ _ => rfl)) (da_cons (de_var (pv 1)) da_nil))))
  (dss_cons (ds_set (i := 3) sc_reckoned.nd rfl (by first | exact Or.inl rfl | exact Or.inr rfl) (de_call G_reckoned.1 G_reckoned.2 (hr.mono (by omega)) rfl T.m_reckoned T.F_reckoned.kp T.b_reckoned (da_cons (de_ix (de_var (pv 0)) de_int (fun _ _ => rfl)) (da_cons (de_var (pv 1)) da_nil))))
  (dss_cons (ds_if (DW.dt (dw_or (dt_cmp ow_isN (de_var (pv 2)) de_non (nomark _)) (dw_or1 (dt_cmp ow_isN (de_var (pv 3)) de_non (nomark _)))))
  (dss_one (ds_ret de_non))
  dss_nil)
  (dss_one (ds_ret (de_call G_paired.1 G_paired.2 (hr.mono (by omega)) rfl T.m_paired T.F_paired.kp T.b_paired (da_cons (de_ix (de_var (pv 0)) de_int (fun _ _ => rfl)) (da_cons (de_var (pv 2)) (da_cons (de_var (pv 3)) da_nil)))))))))))) read
theorem ok_all_reckoned (T : Txt K mg w A) {k : Nat} {k_reckoned : Nat} {sp_reckoned : WSp} (G_reckoned : FnOk P w K mg base CX0 k_reckoned A.f_reckoned A.d_reckoned P_reckoned (LowSp K sp_reckoned) ∧ MonoSp sp_reckoned) (e_reckoned : k_reckoned ≤ k) {sp : WSp} (len : ∀ ws S Q, sp ws S Q → ws.length = 2)
    (read : ∀ ws S Q, Up Q → sp ws S Q → t_all_reckoned sp_reckoned { nx := fun _ S' => Q .non S', rt := Q } (startW 4 ws) S) : FnOk P w K mg base CX0 (k + 1) A.f_all_reckoned A.d_all_reckoned P_all_reckoned (LowSp K sp) :=
  fnW (t := t_all_reckoned sp_reckoned) T.F_all_reckoned sc_all_reckoned len (fun cdv AA outer s H E hr => (dss_cons (ds_setLc (x := ("e" : Str)) (i := 3) (j := 2) rfl sc_all_reckoned.nd rfl rfl (sw_true rfl rfl rfl (by decide +kernel)) (de_var (pv 0)) (blkOk_by (N := N_all_reckoned) (sc := defScope s_all_reckoned) (by decide +kernel)) (fun _ _ _ _ _ => pg_name (i := 3) sc_all_reckoned.nd rfl (by first | exact Or.inl rfl | exact Or.inr rfl)) (fun _ _ _ _ _ => dts_nil) (fun _ _ _ _ _ => (de_call G_reckoned.1 G_reckoned.2 (hr.mono (by omega)) rfl T.m_reckoned T.F_reckoned.kp T.b_reckoned (da_cons (de_var (pv 3)) (da_cons (de_var (pv 1)) da_nil)))))
  (dss_one (ds_ret (de_if (dt_cmp ow_in de_non (de_var (pv 2)) (by with_unfolding_all rfl)) de_non (de_var (pv 2))))))) read
theorem ok_is_deed (T : Txt K mg w A) {k : Nat}  {sp : WSp} (len : ∀ ws S Q, sp ws S Q → ws.length = 1)
    (read : ∀ ws S Q, Up Q → sp ws S Q → t_is_deed  { nx := fun _ S' => Q .non S', rt := Q } (startW 1 ws) S) : FnOk P w K mg base CX0 (k + 1) A.f_is_deed A.d_is_deed P_is_deed (LowSp K sp) :=
  fnW (t := t_is_deed ) T.F_is_deed sc_is_deed len (fun cdv AA outer s H E hr => (dss_cons (ds_if (DW.dt (dw_or (dt_cmp (ow_eq hr.units) (de_callB cw_len rfl T.z_len (by decide +kernel) (da_cons (de_var (pv 0)) da_nil)) de_int (nomark _)) (dw_or1 (dt_cmp ow_notin (de_ix (de_var (pv 0)) de_int (fun _ _ => rfl)) (de_tup (da_cons de_str (da_cons de_str (da_cons de_str da_nil)))) (by with_unfolding_all rfl)))))
  (dss_one (ds_ret de_bl))
  dss_nil)
  (dss_cons (ds_if (dt_cmp (ow_eq hr.units) (de_ix (de_var (pv 0)) de_int (fun _ _ => rfl)) de_str (nomark _))
  (dss_one (ds_ret (de_cmp (ow_eq hr.units) (de_callB cw_len rfl T.z_len (by decide +kernel) (da_cons (de_var (pv 0)) da_nil)) de_int (nomark _))))
  dss_nil)
  (dss_one (ds_ret (de_and (de_cmp (ow_eq hr.units) (de_callB cw_len rfl T.z_len (by decide +kernel) (da_cons (de_var (pv 0)) da_nil)) de_int (nomark _)) (de_one (de_chain ow_le ow_lt de_int (de_ix (de_var (pv 0)) de_int (fun _ _ => rfl)) (de_glob (v := V.int 1000) rfl T.m_LIMIT ⟨_, rfl⟩ (fun _ => by simp only [Rel])))))))))) read
theorem ok_need_asked (T : Txt K mg w A) {k : Nat} {k_is_deed : Nat} {sp_is_deed : WSp} (G_is_deed : FnOk P w K mg base CX0 k_is_deed A.f_is_deed A.d_is_deed P_is_deed (LowSp K sp_is_deed) ∧ MonoSp sp_is_deed) (e_is_deed : k_is_deed ≤ k) {sp : WSp} (len : ∀ ws S Q, sp ws S Q → ws.length = 3)
    (read : ∀ ws S Q, Up Q → sp ws S Q → t_need_asked sp_is_deed { nx := fun _ S' => Q .non S', rt := Q } (startW 5 ws) S) : FnOk P w K mg base CX0 (k + 1) A.f_need_asked A.d_need_asked P_need_asked (LowSp K sp) :=
  fnW (t := t_need_asked sp_is_deed) T.F_need_asked sc_need_asked len (fun cdv AA outer s H E hr => (dss_cons (ds_if (DW.dt (dw_or (dt_cmp (ow_ne hr.units) (de_callB cw_len rfl T.z_len (by decide +kernel) (da_cons (de_var (pv 1)) da_nil)) (de_var (pv 0)) (nomark _)) (dw_or1 (dt_cmp (ow_ne hr.units) (de_lc (x := ("number" : Str)) (i := 3) rfl sc_need_asked.nd (de_var (pv 1)) (blkOk_by (N := N_need_asked) (sc := defScope s_need_asked) (by decide +kernel)) (fun _ _ _ _ _ => pg_name (i := 3) sc_need_asked.nd rfl (by first | exact Or.inl rfl | exact Or.inr rfl)) (fun _ _ _ _ _ => (dts_one (dt_not (dt_chain ow_le ow_lt de_int (de_var (pv 3)) (de_glob (v := V.int 1000) rfl T.m_LIMIT ⟨_, rfl⟩ (fun _ => by simp only [Rel])))))) (fun _ _ _ _ _ => (de_var (pv 3)))) (de_lst da_nil) (nomark _)))))
  (dss_one ds_never)
  dss_nil)
  (dss_one (ds_if (dt_cmp (ow_ne hr.units) (de_lc (x := ("deed" : Str)) (i := 4) rfl sc_need_asked.nd (de_var (pv 2)) (blkOk_by (N := N_need_asked) (sc := defScope s_need_asked) (by decide +kernel)) (fun _ _ _ _ _ => pg_name (i := 4) sc_need_asked.nd rfl (by first | exact Or.inl rfl | exact Or.inr rfl)) (fun _ _ _ _ _ => (dts_one (dt_not (dt_val (de_call G_is_deed.1 G_is_deed.2 (hr.mono (by omega)) rfl T.m_is_deed T.F_is_deed.kp T.b_is_deed (da_cons (de_var (pv 4)) da_nil)))))) (fun _ _ _ _ _ => (de_var (pv 4)))) (de_lst da_nil) (nomark _))
  (dss_one ds_never)
  dss_nil)))) read
theorem ok_untouched (T : Txt K mg w A) {k : Nat}  {sp : WSp} (len : ∀ ws S Q, sp ws S Q → ws.length = 1)
    (read : ∀ ws S Q, Up Q → sp ws S Q → t_untouched  { nx := fun _ S' => Q .non S', rt := Q } (startW 1 ws) S) : FnOk P w K mg base CX0 (k + 1) A.f_untouched A.d_untouched P_untouched (LowSp K sp) :=
  fnW (t := t_untouched ) T.F_untouched sc_untouched len (fun cdv AA outer s H E hr => (dss_cons (ds_if (dt_cmp (ow_eq hr.units) (de_ix (de_var (pv 0)) de_int (fun _ _ => rfl)) de_str (nomark _))
  (dss_one (ds_ret (de_tup (da_cons (de_tup da_nil) (da_cons (de_tup (da_cons de_str da_nil)) da_nil)))))
  dss_nil)
  (dss_cons (ds_if (dt_cmp (ow_eq hr.units) (de_ix (de_var (pv 0)) de_int (fun _ _ => rfl)) de_str (nomark _))
  (dss_one (ds_ret (de_tup (da_cons (de_tup da_nil) (da_cons (de_tup (da_cons de_str (da_cons (de_ix (de_var (pv 0)) de_int (fun _ _ => rfl)) da_nil))) da_nil)))))
  dss_nil)
  (dss_one (ds_ret (de_tup (da_cons (de_tup da_nil) (da_cons (de_tup (da_cons de_str da_nil)) da_nil)))))))) read
theorem ok_Talk__init_ (T : Txt K mg w A) {k : Nat}  {sp : WSp} (len : ∀ ws S Q, sp ws S Q → ws.length = 2)
    (read : ∀ ws S Q, Up Q → sp ws S Q → t_Talk__init_ A.C_Talk { nx := fun _ S' => Q .non S', rt := Q } (startW 2 ws) S) : FnOk P w K mg base CX0 (k + 1) A.f_Talk__init_ A.d_Talk__init_ P_Talk__init_ (LowSp K sp) :=
  fnW (t := t_Talk__init_ A.C_Talk) T.F_Talk__init_ sc_Talk__init_ len (fun cdv AA outer s H E hr => (dss_cons (ds_fld (de_var (pv 0)) (de_callTy cw_list rfl T.z_list (by decide +kernel) (da_cons (de_var (pv 1)) da_nil)) T.cl_Talk T.na_Talk_deeds)
  (dss_cons (ds_fld (de_var (pv 0)) (de_lst da_nil) T.cl_Talk T.na_Talk_told)
  (dss_one (ds_fld (de_var (pv 0)) (de_lst da_nil) T.cl_Talk T.na_Talk_said))))) read
theorem ok_Talk_begins (T : Txt K mg w A) {k : Nat}  {sp : WSp} (len : ∀ ws S Q, sp ws S Q → ws.length = 1)
    (read : ∀ ws S Q, Up Q → sp ws S Q → t_Talk_begins A.C_Talk { nx := fun _ S' => Q .non S', rt := Q } (startW 1 ws) S) : FnOk P w K mg base CX0 (k + 1) A.f_Talk_begins A.d_Talk_begins P_Talk_begins (LowSp K sp) :=
  fnW (t := t_Talk_begins A.C_Talk) T.F_Talk_begins sc_Talk_begins len (fun cdv AA outer s H E hr => (dss_one (ds_ret (de_and (de_cmp (ow_ne hr.units) (de_fld (de_var (pv 0)) T.cl_Talk T.na_Talk_deeds) (de_lst da_nil) (nomark _)) (de_one (de_cmp (ow_eq hr.units) (de_ix (de_ix (de_fld (de_var (pv 0)) T.cl_Talk T.na_Talk_deeds) de_int (fun _ _ => rfl)) de_int (fun _ _ => rfl)) de_str (nomark _))))))) read
theorem ok_Talk_say (T : Txt K mg w A) {k : Nat}  {sp : WSp} (len : ∀ ws S Q, sp ws S Q → ws.length = 2)
    (read : ∀ ws S Q, Up Q → sp ws S Q → t_Talk_say A.C_Talk { nx := fun _ S' => Q .non S', rt := Q } (startW 2 ws) S) : FnOk P w K mg base CX0 (k + 1) A.f_Talk_say A.d_Talk_say P_Talk_say (LowSp K sp) :=
  fnW (t := t_Talk_say A.C_Talk) T.F_Talk_say sc_Talk_say len (fun cdv AA outer s H E hr => (dss_one (ds_expr (de_lm PySem.F.plainAttrs_list PySem.F.slot_list_append PySem.F.type_list_append mw_append (de_fld (de_var (pv 0)) T.cl_Talk T.na_Talk_said) (da_cons (de_var (pv 1)) da_nil))))) read
theorem ok_Talk_tell (T : Txt K mg w A) {k : Nat}  {sp : WSp} (len : ∀ ws S Q, sp ws S Q → ws.length = 2)
    (read : ∀ ws S Q, Up Q → sp ws S Q → t_Talk_tell A.C_Talk { nx := fun _ S' => Q .non S', rt := Q } (startW 2 ws) S) : FnOk P w K mg base CX0 (k + 1) A.f_Talk_tell A.d_Talk_tell P_Talk_tell (LowSp K sp) :=
  fnW (t := t_Talk_tell A.C_Talk) T.F_Talk_tell sc_Talk_tell len (fun cdv AA outer s H E hr => (dss_cons (ds_expr (de_lm PySem.F.plainAttrs_list PySem.F.slot_list_append PySem.F.type_list_append mw_append (de_fld (de_var (pv 0)) T.cl_Talk T.na_Talk_told) (da_cons (de_tup (da_cons (de_callTy cw_tuple rfl T.z_tuple (by decide +kernel) (da_cons (de_fld (de_var (pv 0)) T.cl_Talk T.na_Talk_said) da_nil)) (da_cons (de_var (pv 1)) da_nil))) da_nil)))
  (dss_one (ds_fld (de_var (pv 0)) (de_lst da_nil) T.cl_Talk T.na_Talk_said)))) read
theorem ok_Talk_gift (T : Txt K mg w A) {k : Nat} {k_Talk_tell : Nat} {sp_Talk_tell : WSp} (G_Talk_tell : FnOk P w K mg base CX0 k_Talk_tell A.f_Talk_tell A.d_Talk_tell P_Talk_tell (LowSp K sp_Talk_tell) ∧ MonoSp sp_Talk_tell) (e_Talk_tell : k_Talk_tell ≤ k) {sp : WSp} (len : ∀ ws S Q, sp ws S Q → ws.length = 2)
    (read : ∀ ws S Q, Up Q → sp ws S Q → t_Talk_gift A.C_Talk sp_Talk_tell { nx := fun _ S' => Q .non S', rt := Q } (startW 2 ws) S) : FnOk P w K mg base CX0 (k + 1) A.f_Talk_gift A.d_Talk_gift P_Talk_gift (LowSp K sp) :=
  fnW (t := t_Talk_gift A.C_Talk sp_Talk_tell) T.F_Talk_gift sc_Talk_gift len (fun cdv AA outer s H E hr => (dss_cons (ds_if (dt_cmp (ow_eq hr.units) (de_ix (de_ix (de_fld (de_var (pv 0)) T.cl_Talk T.na_Talk_deeds) (de_callB cw_len rfl T.z_len (by decide +kernel) (da_cons (de_fld (de_var (pv 0)) T.cl_Talk T.na_Talk_told) da_nil)) (fun _ _ => rfl)) de_int (fun _ _ => rfl)) de_str (nomark _))
  (dss_cons (ds_expr (de_meth (de_var (pv 0)) T.cl_Talk T.mt_Talk_tell G_Talk_tell.1 G_Talk_tell.2 (hr.mono (by omega)) T.b_Talk_tell (da_cons (de_tup (da_cons de_str da_nil)) da_nil)))
  (dss_one (ds_ret de_non)))
  dss_nil)
  (dss_cons (ds_expr (de_meth (de_var (pv 0)) T.cl_Talk T.mt_Talk_tell G_Talk_tell.1 G_Talk_tell.2 (hr.mono (by omega)) T.b_Talk_tell (da_cons (de_tup (da_cons de_str (da_cons (de_var (pv 1)) da_nil))) da_nil)))
  (dss_one (ds_ret (de_if (dt_cmp ow_lt (de_callB cw_len rfl T.z_len (by decide +kernel) (da_cons (de_fld (de_var (pv 0)) T.cl_Talk T.na_Talk_told) da_nil)) (de_callB cw_len rfl T.z_len (by decide +kernel) (da_cons (de_fld (de_var (pv 0)) T.cl_Talk T.na_Talk_deeds) da_nil)) (nomark _)) (de_ix (de_fld (de_var (pv 0)) T.cl_Talk T.na_Talk_deeds) (de_callB cw_len rfl T.z_len (by decide +kernel) (da_cons (de_fld (de_var (pv 0)) T.cl_Talk T.na_Talk_told) da_nil)) (fun _ _ => rfl)) de_non)))))) read
theorem ok_Talk_close (T : Txt K mg w A) {k : Nat} {k_Talk_tell : Nat} {sp_Talk_tell : WSp} (G_Talk_tell : FnOk P w K mg base CX0 k_Talk_tell A.f_Talk_tell A.d_Talk_tell P_Talk_tell (LowSp K sp_Talk_tell) ∧ MonoSp sp_Talk_tell) (e_Talk_tell : k_Talk_tell ≤ k) {sp : WSp} (len : ∀ ws S Q, sp ws S Q → ws.length = 2)
    (read : ∀ ws S Q, Up Q → sp ws S Q → t_Talk_close A.C_Talk sp_Talk_tell { nx := fun _ S' => Q .non S', rt := Q } (startW 2 ws) S) : FnOk P w K mg base CX0 (k + 1) A.f_Talk_close A.d_Talk_close P_Talk_close (LowSp K sp) :=
  fnW (t := t_Talk_close A.C_Talk sp_Talk_tell) T.F_Talk_close sc_Talk_close len (fun cdv AA outer s H E hr => (dss_one (ds_if (DW.dt (dw_and (dt_cmp (ow_eq hr.units) (de_ix (de_var (pv 1)) de_int (fun _ _ => rfl)) de_str (nomark _)) (dw_and1 (dt_cmp (ow_eq hr.units) (de_ix (de_ix (de_fld (de_var (pv 0)) T.cl_Talk T.na_Talk_deeds) (de_callB cw_len rfl T.z_len (by decide +kernel) (da_cons (de_fld (de_var (pv 0)) T.cl_Talk T.na_Talk_told) da_nil)) (fun _ _ => rfl)) de_int (fun _ _ => rfl)) de_str (nomark _)))))
  (dss_one (ds_expr (de_meth (de_var (pv 0)) T.cl_Talk T.mt_Talk_tell G_Talk_tell.1 G_Talk_tell.2 (hr.mono (by omega)) T.b_Talk_tell (da_cons (de_tup (da_cons de_str da_nil)) da_nil))))
  (dss_one (ds_if (dt_cmp (ow_ne hr.units) (de_ix (de_var (pv 1)) de_int (fun _ _ => rfl)) de_str (nomark _))
  (dss_one (ds_expr (de_meth (de_var (pv 0)) T.cl_Talk T.mt_Talk_tell G_Talk_tell.1 G_Talk_tell.2 (hr.mono (by omega)) T.b_Talk_tell (da_cons (de_var (pv 1)) da_nil))))
  dss_nil))))) read
theorem ok_Talk_all_told (T : Txt K mg w A) {k : Nat} {k_untouched : Nat} {sp_untouched : WSp} (G_untouched : FnOk P w K mg base CX0 k_untouched A.f_untouched A.d_untouched P_untouched (LowSp K sp_untouched) ∧ MonoSp sp_untouched) (e_untouched : k_untouched ≤ k) {sp : WSp} (len : ∀ ws S Q, sp ws S Q → ws.length = 1)
    (read : ∀ ws S Q, Up Q → sp ws S Q → t_Talk_all_told A.C_Talk sp_untouched { nx := fun _ S' => Q .non S', rt := Q } (startW 2 ws) S) : FnOk P w K mg base CX0 (k + 1) A.f_Talk_all_told A.d_Talk_all_told P_Talk_all_told (LowSp K sp) :=
  fnW (t := t_Talk_all_told A.C_Talk sp_untouched) T.F_Talk_all_told sc_Talk_all_told len (fun cdv AA outer s H E hr => (dss_one (ds_ret (de_op ow_add (de_fld (de_var (pv 0)) T.cl_Talk T.na_Talk_told) (de_lc (x := ("deed" : Str)) (i := 1) rfl sc_Talk_all_told.nd (de_slice (de_fld (de_var (pv 0)) T.cl_Talk T.na_Talk_deeds) (do_some (de_callB cw_len rfl T.z_len (by decide +kernel) (da_cons (de_fld (de_var (pv 0)) T.cl_Talk T.na_Talk_told) da_nil))) do_none) (blkOk_by (N := N_Talk_all_told) (sc := defScope s_Talk_all_told) (by decide +kernel)) (fun _ _ _ _ _ => pg_name (i := 1) sc_Talk_all_told.nd rfl (by first | exact Or.inl rfl | exact Or.inr rfl)) (fun _ _ _ _ _ => dts_nil) (fun _ _ _ _ _ => (de_call G_untouched.1 G_untouched.2 (hr.mono (by omega)) rfl T.m_untouched T.F_untouched.kp T.b_untouched (da_cons (de_var (pv 1)) da_nil)))))))) read
theorem ok_Walk__init_ (T : Txt K mg w A) {k : Nat}  {sp : WSp} (len : ∀ ws S Q, sp ws S Q → ws.length = 3)
    (read : ∀ ws S Q, Up Q → sp ws S Q → t_Walk__init_ A.C_Walk { nx := fun _ S' => Q .non S', rt := Q } (startW 3 ws) S) : FnOk P w K mg base CX0 (k + 1) A.f_Walk__init_ A.d_Walk__init_ P_Walk__init_ (LowSp K sp) :=
  fnW (t := t_Walk__init_ A.C_Walk) T.F_Walk__init_ sc_Walk__init_ len (fun cdv AA outer s H E hr => (dss_cons (ds_fld (de_var (pv 0)) (de_var (pv 1)) T.cl_Walk T.na_Walk_program)
  (dss_one (ds_fld (de_var (pv 0)) (de_var (pv 2)) T.cl_Walk T.na_Walk_talk)))) read
theorem ok_Walk_body (T : Txt K mg w A) {k : Nat} {k_Walk_step : Nat} {sp_Walk_step : WSp} (G_Walk_step : FnOk P w K mg base CX0 k_Walk_step A.f_Walk_step A.d_Walk_step P_Walk_step (LowSp K sp_Walk_step) ∧ MonoSp sp_Walk_step) (e_Walk_step : k_Walk_step ≤ k) {sp : WSp} (len : ∀ ws S Q, sp ws S Q → ws.length = 3)
    (read : ∀ ws S Q, Up Q → sp ws S Q → t_Walk_body A.C_Walk sp_Walk_step { nx := fun _ S' => Q .non S', rt := Q } (startW 5 ws) S) : FnOk P w K mg base CX0 (k + 1) A.f_Walk_body A.d_Walk_body P_Walk_body (LowSp K sp) :=
  fnW (t := t_Walk_body A.C_Walk sp_Walk_step) T.F_Walk_body sc_Walk_body len (fun cdv AA outer s H E hr => (dss_cons (ds_for PassesOwn.never rfl (de_var (pv 1)) (dg_name (i := 3) sc_Walk_body.nd rfl (by first | exact Or.inl rfl | exact Or.inr rfl))
  (dss_cons (ds_set (i := 4) sc_Walk_body.nd rfl (by first | exact Or.inl rfl | exact Or.inr rfl) (de_meth (de_var (pv 0)) T.cl_Walk T.mt_Walk_step G_Walk_step.1 G_Walk_step.2 (hr.mono (by omega)) T.b_Walk_step (da_cons (de_var (pv 3)) (da_cons (de_var (pv 2)) da_nil))))
  (dss_one (ds_if (dt_cmp ow_notN (de_var (pv 4)) de_non (nomark _))
  (dss_one (ds_ret (de_var (pv 4))))
  dss_nil))))
  (dss_one (ds_ret de_non)))) read
theorem ok_Walk_step (T : Txt K mg w A) {k : Nat} {k_Walk_tried : Nat} {sp_Walk_tried : WSp} (G_Walk_tried : FnOk P w K mg base CX0 k_Walk_tried A.f_Walk_tried A.d_Walk_tried P_Walk_tried (LowSp K sp_Walk_tried) ∧ MonoSp sp_Walk_tried) (e_Walk_tried : k_Walk_tried ≤ k) {k_Walk_handed : Nat} {sp_Walk_handed : WSp} (G_Walk_handed : FnOk P w K mg base CX0 k_Walk_handed A.f_Walk_handed A.d_Walk_handed P_Walk_handed (LowSp K sp_Walk_handed) ∧ MonoSp sp_Walk_handed) (e_Walk_handed : k_Walk_handed ≤ k) {k_reckoned : Nat} {sp_reckoned : WSp} (G_reckoned : FnOk P w K mg base CX0 k_reckoned A.f_reckoned A.d_reckoned P_reckoned (LowSp K sp_reckoned) ∧ MonoSp sp_reckoned) (e_reckoned : k_reckoned ≤ k) {k_Walk_body : Nat} {sp_Walk_body : WSp} (G_Walk_body : FnOk P w K mg base CX0 k_Walk_body A.f_Walk_body A.d_Walk_body P_Walk_body (LowSp K sp_Walk_body) ∧ MonoSp sp_Walk_body) (e_Walk_body : k_Walk_body ≤ k) {k_Walk_rounds : Nat} {sp_Walk_rounds : WSp} (G_Walk_rounds : FnOk P w K mg base CX0 k_Walk_rounds A.f_Walk_rounds A.d_Walk_rounds P_Walk_rounds (LowSp K sp_Walk_rounds) ∧ MonoSp sp_Walk_rounds) (e_Walk_rounds : k_Walk_rounds ≤ k) {k_Walk_given : Nat} {sp_Walk_given : WSp} (G_Walk_given : FnOk P w K mg base CX0 k_Walk_given A.f_Walk_given A.d_Walk_given P_Walk_given (LowSp K sp_Walk_given) ∧ MonoSp sp_Walk_given) (e_Walk_given : k_Walk_given ≤ k) {k_Talk_say : Nat} {sp_Talk_say : WSp} (G_Talk_say : FnOk P w K mg base CX0 k_Talk_say A.f_Talk_say A.d_Talk_say P_Talk_say (LowSp K sp_Talk_say) ∧ MonoSp sp_Talk_say) (e_Talk_say : k_Talk_say ≤ k) {sp : WSp} (len : ∀ ws S Q, sp ws S Q → ws.length = 3)
    (read : ∀ ws S Q, Up Q → sp ws S Q → t_Walk_step A.C_Walk A.C_Talk sp_Walk_tried sp_Walk_handed sp_reckoned sp_Walk_body sp_Walk_rounds sp_Walk_given sp_Talk_say { nx := fun _ S' => Q .non S', rt := Q } (startW 4 ws) S) : FnOk P w K mg base CX0 (k + 1) A.f_Walk_step A.d_Walk_step P_Walk_step (LowSp K sp) :=
  fnW (t := t_Walk_step A.C_Walk A.C_Talk sp_Walk_tried sp_Walk_handed sp_reckoned sp_Walk_body sp_Walk_rounds sp_Walk_given sp_Talk_say) T.F_Walk_step sc_Walk_step len (fun cdv AA outer s H E hr => (dss_cons (ds_if (dt_cmp (ow_eq hr.units) (de_ix (de_var (pv 1)) de_int (fun _ _ => rfl)) de_str (nomark _))
  (dss_one (ds_ret (de_var (pv 1))))
  dss_nil)
  (dss_cons (ds_if (dt_cmp (ow_eq hr.units) (de_ix (de_var (pv 1)) de_int (fun _ _ => rfl)) de_str (nomark _))
  (dss_one (ds_ret (de_meth (de_var (pv 0)) T.cl_Walk T.mt_Walk_tried G_Walk_tried.1 G_Walk_tried.2 (hr.mono (by omega)) T.b_Walk_tried (da_cons (de_var (pv 1)) (da_cons (de_var (pv 2)) da_nil)))))
  dss_nil)
  (dss_cons (ds_if (dt_cmp (ow_eq hr.units) (de_ix (de_var (pv 1)) de_int (fun _ _ => rfl)) de_str (nomark _))
  (dss_one (ds_ret (de_meth (de_var (pv 0)) T.cl_Walk T.mt_Walk_handed G_Walk_handed.1 G_Walk_handed.2 (hr.mono (by omega)) T.b_Walk_handed (da_cons (de_var (pv 1)) (da_cons (de_var (pv 2)) da_nil)))))
  dss_nil)
  (dss_cons (ds_set (i := 3) sc_Walk_step.nd rfl (by first | exact Or.inl rfl | exact Or.inr rfl) (de_call G_reckoned.1 G_reckoned.2 (hr.mono (by omega)) rfl T.m_reckoned T.F_reckoned.kp T.b_reckoned (da_cons (de_if (dt_cmp (ow_eq hr.units) (de_ix (de_var (pv 1)) de_int (fun _ _ => rfl)) de_str (nomark _)) (de_ix (de_var (pv 1)) de_int (fun _ _ => rfl)) (de_ix (de_var (pv 1)) de_int (fun _ _ => rfl))) (da_cons (de_var (pv 2)) da_nil))))
  (dss_cons (ds_if (dt_cmp ow_isN (de_var (pv 3)) de_non (nomark _))
  (dss_one (ds_ret (de_tup (da_cons de_str (da_cons de_int da_nil)))))
  dss_nil)
  (dss_cons (ds_if (dt_cmp ow_in (de_ix (de_var (pv 1)) de_int (fun _ _ => rfl)) (de_tup (da_cons de_str (da_cons de_str da_nil))) (by with_unfolding_all rfl))
  (dss_one (ds_ret (de_tup (da_cons (de_ix (de_var (pv 1)) de_int (fun _ _ => rfl)) (da_cons (de_var (pv 3)) da_nil)))))
  dss_nil)
  (dss_cons (ds_if (dt_cmp (ow_eq hr.units) (de_ix (de_var (pv 1)) de_int (fun _ _ => rfl)) de_str (nomark _))
  (dss_one (ds_ret (de_meth (de_var (pv 0)) T.cl_Walk T.mt_Walk_body G_Walk_body.1 G_Walk_body.2 (hr.mono (by omega)) T.b_Walk_body (da_cons (de_if (dt_cmp (ow_ne hr.units) (de_var (pv 3)) de_int (nomark _)) (de_ix (de_var (pv 1)) de_int (fun _ _ => rfl)) (de_ix (de_var (pv 1)) de_int (fun _ _ => rfl))) (da_cons (de_var (pv 2)) da_nil)))))
  dss_nil)
  (dss_cons (ds_if (dt_cmp (ow_eq hr.units) (de_ix (de_var (pv 1)) de_int (fun _ _ => rfl)) de_str (nomark _))
  (dss_one (ds_ret (de_meth (de_var (pv 0)) T.cl_Walk T.mt_Walk_rounds G_Walk_rounds.1 G_Walk_rounds.2 (hr.mono (by omega)) T.b_Walk_rounds (da_cons (de_ix (de_var (pv 1)) de_int (fun _ _ => rfl)) (da_cons (de_op ow_mod (de_var (pv 3)) de_int) (da_cons (de_var (pv 2)) da_nil))))))
  dss_nil)
  (dss_cons (ds_if (dt_cmp (ow_eq hr.units) (de_ix (de_var (pv 1)) de_int (fun _ _ => rfl)) de_str (nomark _))
  (dss_one (ds_ret (de_meth (de_var (pv 0)) T.cl_Walk T.mt_Walk_given G_Walk_given.1 G_Walk_given.2 (hr.mono (by omega)) T.b_Walk_given (da_cons (de_var (pv 3)) (da_cons (de_ix (de_var (pv 1)) de_int (fun _ _ => rfl)) (da_cons (de_var (pv 2)) da_nil))))))
  dss_nil)
  (dss_cons (ds_if (dt_cmp (ow_eq hr.units) (de_ix (de_var (pv 1)) de_int (fun _ _ => rfl)) de_str (nomark _))
  (dss_one (ds_expr (de_meth (de_fld (de_var (pv 0)) T.cl_Walk T.na_Walk_talk) T.cl_Talk T.mt_Talk_say G_Talk_say.1 G_Talk_say.2 (hr.mono (by omega)) T.b_Talk_say (da_cons (de_var (pv 3)) da_nil))))
  (dss_one (ds_asg (de_var (pv 3)) (dg_sub (de_var (pv 2)) (de_ix (de_var (pv 1)) de_int (fun _ _ => rfl))))))
  (dss_one (ds_ret de_non))))))))))))) read
theorem ok_Walk_rounds (T : Txt K mg w A) {k : Nat} {k_Walk_body : Nat} {sp_Walk_body : WSp} (G_Walk_body : FnOk P w K mg base CX0 k_Walk_body A.f_Walk_body A.d_Walk_body P_Walk_body (LowSp K sp_Walk_body) ∧ MonoSp sp_Walk_body) (e_Walk_body : k_Walk_body ≤ k) {sp : WSp} (len : ∀ ws S Q, sp ws S Q → ws.length = 4)
    (read : ∀ ws S Q, Up Q → sp ws S Q → t_Walk_rounds A.C_Walk sp_Walk_body { nx := fun _ S' => Q .non S', rt := Q } (startW 6 ws) S) : FnOk P w K mg base CX0 (k + 1) A.f_Walk_rounds A.d_Walk_rounds P_Walk_rounds (LowSp K sp) :=
  fnW (t := t_Walk_rounds A.C_Walk sp_Walk_body) T.F_Walk_rounds sc_Walk_rounds len (fun cdv AA outer s H E hr => (dss_cons (ds_forR1 PassesOwn.never rfl rfl T.z_range (da_cons (de_var (pv 2)) da_nil) (dg_name (i := 4) sc_Walk_rounds.nd rfl (by first | exact Or.inl rfl | exact Or.inr rfl))
  (dss_cons (ds_set (i := 5) sc_Walk_rounds.nd rfl (by first | exact Or.inl rfl | exact Or.inr rfl) (de_meth (de_var (pv 0)) T.cl_Walk T.mt_Walk_body G_Walk_body.1 G_Walk_body.2 (hr.mono (by omega)) T.b_Walk_body (da_cons (de_var (pv 1)) (da_cons (de_var (pv 3)) da_nil))))
  (dss_one (ds_if (dt_cmp ow_notN (de_var (pv 5)) de_non (nomark _))
  (dss_one (ds_ret (de_if (dt_cmp (ow_eq hr.units) (de_ix (de_var (pv 5)) de_int (fun _ _ => rfl)) de_str (nomark _)) de_non (de_var (pv 5)))))
  dss_nil))))
  (dss_one (ds_ret de_non)))) read
theorem ok_Walk_given (T : Txt K mg w A) {k : Nat} {k_Talk_gift : Nat} {sp_Talk_gift : WSp} (G_Talk_gift : FnOk P w K mg base CX0 k_Talk_gift A.f_Talk_gift A.d_Talk_gift P_Talk_gift (LowSp K sp_Talk_gift) ∧ MonoSp sp_Talk_gift) (e_Talk_gift : k_Talk_gift ≤ k) {sp : WSp} (len : ∀ ws S Q, sp ws S Q → ws.length = 4)
    (read : ∀ ws S Q, Up Q → sp ws S Q → t_Walk_given A.C_Walk A.C_Talk sp_Talk_gift { nx := fun _ S' => Q .non S', rt := Q } (startW 5 ws) S) : FnOk P w K mg base CX0 (k + 1) A.f_Walk_given A.d_Walk_given P_Walk_given (LowSp K sp) :=
  fnW (t := t_Walk_given A.C_Walk A.C_Talk sp_Talk_gift) T.F_Walk_given sc_Walk_given len (fun cdv AA outer s H E hr => (dss_cons (ds_set (i := 4) sc_Walk_given.nd rfl (by first | exact Or.inl rfl | exact Or.inr rfl) (de_meth (de_fld (de_var (pv 0)) T.cl_Walk T.na_Walk_talk) T.cl_Talk T.mt_Talk_gift G_Talk_gift.1 G_Talk_gift.2 (hr.mono (by omega)) T.b_Talk_gift (da_cons (de_var (pv 1)) da_nil)))
  (dss_cons (ds_if (dt_cmp ow_isN (de_var (pv 4)) de_non (nomark _))
  (dss_one (ds_ret (de_tup (da_cons de_str da_nil))))
  dss_nil)
  (dss_cons (ds_if (dt_cmp (ow_eq hr.units) (de_ix (de_var (pv 4)) de_int (fun _ _ => rfl)) de_str (nomark _))
  (dss_one (ds_ret (de_var (pv 4))))
  dss_nil)
  (dss_cons (ds_if (dt_cmp (ow_eq hr.units) (de_ix (de_var (pv 4)) de_int (fun _ _ => rfl)) de_str (nomark _))
  (dss_one (ds_ret (de_tup (da_cons de_str (da_cons (de_ix (de_var (pv 4)) de_int (fun _ _ => rfl)) da_nil)))))
  dss_nil)
  (dss_cons (ds_if (dt_cmp ow_notN (de_var (pv 2)) de_non (nomark _))
  (dss_one (ds_asg (de_ix (de_var (pv 4)) de_int (fun _ _ => rfl)) (dg_sub (de_var (pv 3)) (de_var (pv 2)))))
  dss_nil)
  (dss_one (ds_ret de_non)))))))) read
theorem ok_Walk_handed (T : Txt K mg w A) {k : Nat} {k_all_reckoned : Nat} {sp_all_reckoned : WSp} (G_all_reckoned : FnOk P w K mg base CX0 k_all_reckoned A.f_all_reckoned A.d_all_reckoned P_all_reckoned (LowSp K sp_all_reckoned) ∧ MonoSp sp_all_reckoned) (e_all_reckoned : k_all_reckoned ≤ k) {k_Walk_body : Nat} {sp_Walk_body : WSp} (G_Walk_body : FnOk P w K mg base CX0 k_Walk_body A.f_Walk_body A.d_Walk_body P_Walk_body (LowSp K sp_Walk_body) ∧ MonoSp sp_Walk_body) (e_Walk_body : k_Walk_body ≤ k) {sp : WSp} (len : ∀ ws S Q, sp ws S Q → ws.length = 3)
    (read : ∀ ws S Q, Up Q → sp ws S Q → t_Walk_handed A.C_Walk sp_all_reckoned sp_Walk_body { nx := fun _ S' => Q .non S', rt := Q } (startW 8 ws) S) : FnOk P w K mg base CX0 (k + 1) A.f_Walk_handed A.d_Walk_handed P_Walk_handed (LowSp K sp) :=
  fnW (t := t_Walk_handed A.C_Walk sp_all_reckoned sp_Walk_body) T.F_Walk_handed sc_Walk_handed len (fun cdv AA outer s H E hr => (dss_cons (ds_asg (de_ix (de_fld (de_var (pv 0)) T.cl_Walk T.na_Walk_program) (de_ix (de_var (pv 1)) de_int (fun _ _ => rfl)) (fun _ _ => rfl)) (dg_tup rfl (dgs_cons (dg_name (i := 3) sc_Walk_handed.nd rfl (by first | exact Or.inl rfl | exact Or.inr rfl)) (dgs_cons (dg_name (i := 4) sc_Walk_handed.nd rfl (by first | exact Or.inl rfl | exact Or.inr rfl)) (dgs_cons (dg_name (i := 5) sc_Walk_handed.nd rfl (by first | exact Or.inl rfl | exact Or.inr rfl)) dgs_nil)))))
  (dss_cons (ds_set (i := 6) sc_Walk_handed.nd rfl (by first | exact Or.inl rfl | exact Or.inr rfl) (de_call G_all_reckoned.1 G_all_reckoned.2 (hr.mono (by omega)) rfl T.m_all_reckoned T.F_all_reckoned.kp T.b_all_reckoned (da_cons (de_ix (de_var (pv 1)) de_int (fun _ _ => rfl)) (da_cons (de_var (pv 2)) da_nil))))
  (dss_cons (ds_if (dt_cmp ow_isN (de_var (pv 6)) de_non (nomark _))
  (dss_one (ds_ret (de_tup (da_cons de_str (da_cons de_int da_nil)))))
  dss_nil)
  (dss_cons (ds_set (i := 7) sc_Walk_handed.nd rfl (by first | exact Or.inl rfl | exact Or.inr rfl) (de_meth (de_var (pv 0)) T.cl_Walk T.mt_Walk_body G_Walk_body.1 G_Walk_body.2 (hr.mono (by omega)) T.b_Walk_body (da_cons (de_var (pv 5)) (da_cons (de_op ow_add (de_var (pv 6)) (de_op ow_mul (de_lst (da_cons de_int da_nil)) (de_op ow_sub (de_var (pv 4)) (de_var (pv 3))))) da_nil))))
  (dss_cons (ds_if (DW.dt (dw_and (dt_cmp ow_notN (de_var (pv 7)) de_non (nomark _)) (dw_and1 (dt_cmp (ow_ne hr.units) (de_ix (de_var (pv 7)) de_int (fun _ _ => rfl)) de_str (nomark _)))))
  (dss_one (ds_ret (de_var (pv 7))))
  dss_nil)
  (dss_cons (ds_if (dt_cmp ow_notN (de_ix (de_var (pv 1)) de_int (fun _ _ => rfl)) de_non (nomark _))
  (dss_one (ds_asg (de_if (dt_cmp ow_isN (de_var (pv 7)) de_non (nomark _)) de_int (de_ix (de_var (pv 7)) de_int (fun _ _ => rfl))) (dg_sub (de_var (pv 2)) (de_ix (de_var (pv 1)) de_int (fun _ _ => rfl)))))
  dss_nil)
  (dss_one (ds_ret de_non))))))))) read
theorem ok_Walk_tried (T : Txt K mg w A) {k : Nat} {k_Walk_body : Nat} {sp_Walk_body : WSp} (G_Walk_body : FnOk P w K mg base CX0 k_Walk_body A.f_Walk_body A.d_Walk_body P_Walk_body (LowSp K sp_Walk_body) ∧ MonoSp sp_Walk_body) (e_Walk_body : k_Walk_body ≤ k) {sp : WSp} (len : ∀ ws S Q, sp ws S Q → ws.length = 3)
    (read : ∀ ws S Q, Up Q → sp ws S Q → t_Walk_tried A.C_Walk sp_Walk_body { nx := fun _ S' => Q .non S', rt := Q } (startW 5 ws) S) : FnOk P w K mg base CX0 (k + 1) A.f_Walk_tried A.d_Walk_tried P_Walk_tried (LowSp K sp) :=
  fnW (t := t_Walk_tried A.C_Walk sp_Walk_body) T.F_Walk_tried sc_Walk_tried len (fun cdv AA outer s H E hr => (dss_cons (ds_set (i := 3) sc_Walk_tried.nd rfl (by first | exact Or.inl rfl | exact Or.inr rfl) (de_meth (de_var (pv 0)) T.cl_Walk T.mt_Walk_body G_Walk_body.1 G_Walk_body.2 (hr.mono (by omega)) T.b_Walk_body (da_cons (de_ix (de_var (pv 1)) de_int (fun _ _ => rfl)) (da_cons (de_var (pv 2)) da_nil))))
  (dss_cons (ds_if (DW.dt (dw_and (dt_cmp ow_notN (de_var (pv 3)) de_non (nomark _)) (dw_and (dt_cmp (ow_eq hr.units) (de_ix (de_var (pv 3)) de_int (fun _ _ => rfl)) de_str (nomark _)) (dw_and1 (dt_cmp ow_notN (de_ix (de_var (pv 1)) de_int (fun _ _ => rfl)) de_non (nomark _))))))
  (dss_cons (ds_if (dt_cmp ow_notN (de_ix (de_ix (de_var (pv 1)) de_int (fun _ _ => rfl)) de_int (fun _ _ => rfl)) de_non (nomark _))
  (dss_one (ds_asg (de_ix (de_var (pv 3)) de_int (fun _ _ => rfl)) (dg_sub (de_var (pv 2)) (de_ix (de_ix (de_var (pv 1)) de_int (fun _ _ => rfl)) de_int (fun _ _ => rfl)))))
  dss_nil)
  (dss_one (ds_set (i := 3) sc_Walk_tried.nd rfl (by first | exact Or.inl rfl | exact Or.inr rfl) (de_meth (de_var (pv 0)) T.cl_Walk T.mt_Walk_body G_Walk_body.1 G_Walk_body.2 (hr.mono (by omega)) T.b_Walk_body (da_cons (de_ix (de_ix (de_var (pv 1)) de_int (fun _ _ => rfl)) de_int (fun _ _ => rfl)) (da_cons (de_var (pv 2)) da_nil))))))
  dss_nil)
  (dss_cons (ds_if (DW.dt (dw_and (dt_cmp ow_notN (de_var (pv 3)) de_non (nomark _)) (dw_and1 (dt_cmp (ow_eq hr.units) (de_ix (de_var (pv 3)) de_int (fun _ _ => rfl)) de_str (nomark _)))))
  (dss_one (ds_ret (de_var (pv 3))))
  dss_nil)
  (dss_cons (ds_set (i := 4) sc_Walk_tried.nd rfl (by first | exact Or.inl rfl | exact Or.inr rfl) (de_meth (de_var (pv 0)) T.cl_Walk T.mt_Walk_body G_Walk_body.1 G_Walk_body.2 (hr.mono (by omega)) T.b_Walk_body (da_cons (de_ix (de_var (pv 1)) de_int (fun _ _ => rfl)) (da_cons (de_var (pv 2)) da_nil))))
  (dss_one (ds_ret (de_if (dt_cmp ow_isN (de_var (pv 4)) de_non (nomark _)) (de_var (pv 3)) (de_var (pv 4)))))))))) read
theorem ok_played (T : Txt K mg w A) {k : Nat} {k_need_program : Nat} {sp_need_program : WSp} (G_need_program : FnOk P w K mg base CX0 k_need_program A.f_need_program A.d_need_program P_need_program (LowSp K sp_need_program) ∧ MonoSp sp_need_program) (e_need_program : k_need_program ≤ k) {k_need_work : Nat} {sp_need_work : WSp} (G_need_work : FnOk P w K mg base CX0 k_need_work A.f_need_work A.d_need_work P_need_work (LowSp K sp_need_work) ∧ MonoSp sp_need_work) (e_need_work : k_need_work ≤ k) {k_need_asked : Nat} {sp_need_asked : WSp} (G_need_asked : FnOk P w K mg base CX0 k_need_asked A.f_need_asked A.d_need_asked P_need_asked (LowSp K sp_need_asked) ∧ MonoSp sp_need_asked) (e_need_asked : k_need_asked ≤ k) {k_Talk__init_ : Nat} {sp_Talk__init_ : WSp} (G_Talk__init_ : FnOk P w K mg base CX0 k_Talk__init_ A.f_Talk__init_ A.d_Talk__init_ P_Talk__init_ (LowSp K sp_Talk__init_) ∧ MonoSp sp_Talk__init_) (e_Talk__init_ : k_Talk__init_ + 1 ≤ k) {k_Talk_begins : Nat} {sp_Talk_begins : WSp} (G_Talk_begins : FnOk P w K mg base CX0 k_Talk_begins A.f_Talk_begins A.d_Talk_begins P_Talk_begins (LowSp K sp_Talk_begins) ∧ MonoSp sp_Talk_begins) (e_Talk_begins : k_Talk_begins ≤ k) {k_Walk_body : Nat} {sp_Walk_body : WSp} (G_Walk_body : FnOk P w K mg base CX0 k_Walk_body A.f_Walk_body A.d_Walk_body P_Walk_body (LowSp K sp_Walk_body) ∧ MonoSp sp_Walk_body) (e_Walk_body : k_Walk_body ≤ k) {k_Walk__init_ : Nat} {sp_Walk__init_ : WSp} (G_Walk__init_ : FnOk P w K mg base CX0 k_Walk__init_ A.f_Walk__init_ A.d_Walk__init_ P_Walk__init_ (LowSp K sp_Walk__init_) ∧ MonoSp sp_Walk__init_) (e_Walk__init_ : k_Walk__init_ + 1 ≤ k) {k_Talk_close : Nat} {sp_Talk_close : WSp} (G_Talk_close : FnOk P w K mg base CX0 k_Talk_close A.f_Talk_close A.d_Talk_close P_Talk_close (LowSp K sp_Talk_close) ∧ MonoSp sp_Talk_close) (e_Talk_close : k_Talk_close ≤ k) {k_Talk_all_told : Nat} {sp_Talk_all_told : WSp} (G_Talk_all_told : FnOk P w K mg base CX0 k_Talk_all_told A.f_Talk_all_told A.d_Talk_all_told P_Talk_all_told (LowSp K sp_Talk_all_told) ∧ MonoSp sp_Talk_all_told) (e_Talk_all_told : k_Talk_all_told ≤ k) {sp : WSp} (len : ∀ ws S Q, sp ws S Q → ws.length = 4)
    (read : ∀ ws S Q, Up Q → sp ws S Q → t_played A.C_Talk A.C_Walk sp_need_program sp_need_work sp_need_asked sp_Talk__init_ sp_Talk_begins sp_Walk_body sp_Walk__init_ sp_Talk_close sp_Talk_all_told { nx := fun _ S' => Q .non S', rt := Q } (startW 9 ws) S) : FnOk P w K mg base CX0 (k + 1) A.f_played A.d_played P_played (LowSp K sp) :=
  fnW (t := t_played A.C_Talk A.C_Walk sp_need_program sp_need_work sp_need_asked sp_Talk__init_ sp_Talk_begins sp_Walk_body sp_Walk__init_ sp_Talk_close sp_Talk_all_told) T.F_played sc_played len (fun cdv AA outer s H E hr => (dss_cons (ds_expr (de_call G_need_program.1 G_need_program.2 (hr.mono (by omega)) rfl T.m_need_program T.F_need_program.kp T.b_need_program (da_cons (de_var (pv 0)) da_nil)))
  (dss_cons (ds_expr (de_call G_need_work.1 G_need_work.2 (hr.mono (by omega)) rfl T.m_need_work T.F_need_work.kp T.b_need_work (da_cons (de_var (pv 0)) (da_cons (de_var (pv 1)) da_nil))))
  (dss_cons (ds_expr (de_call G_need_asked.1 G_need_asked.2 (hr.mono (by omega)) rfl T.m_need_asked T.F_need_asked.kp T.b_need_asked (da_cons (de_ix (de_ix (de_var (pv 0)) (de_var (pv 1)) (fun _ _ => rfl)) de_int (fun _ _ => rfl)) (da_cons (de_var (pv 2)) (da_cons (de_var (pv 3)) da_nil)))))
  (dss_cons (ds_set (i := 4) sc_played.nd rfl (by first | exact Or.inl rfl | exact Or.inr rfl) (de_make T.mk_Talk G_Talk__init_.1 G_Talk__init_.2 (hr.mono (by omega)) rfl T.m_Talk T.b_Talk__init_ (da_cons (de_var (pv 3)) da_nil)))
  (dss_cons (ds_if (dt_val (de_meth0 (CX := CX0) (de_var (pv 4)) T.cl_Talk T.mt_Talk_begins G_Talk_begins.1 G_Talk_begins.2 (hr.mono (by omega)) T.b_Talk_begins))
  (dss_cons (ds_asg (de_ix (de_var (pv 0)) (de_var (pv 1)) (fun _ _ => rfl)) (dg_tup rfl (dgs_cons (dg_name (i := 5) sc_played.nd rfl (by first | exact Or.inl rfl | exact Or.inr rfl)) (dgs_cons (dg_name (i := 6) sc_played.nd rfl (by first | exact Or.inl rfl | exact Or.inr rfl)) (dgs_cons (dg_name (i := 7) sc_played.nd rfl (by first | exact Or.inl rfl | exact Or.inr rfl)) dgs_nil)))))
  (dss_cons (ds_set (i := 8) sc_played.nd rfl (by first | exact Or.inl rfl | exact Or.inr rfl) (de_meth (de_make T.mk_Walk G_Walk__init_.1 G_Walk__init_.2 (hr.mono (by omega)) rfl T.m_Walk T.b_Walk__init_ (da_cons (de_var (pv 0)) (da_cons (de_var (pv 4)) da_nil))) T.cl_Walk T.mt_Walk_body G_Walk_body.1 G_Walk_body.2 (hr.mono (by omega)) T.b_Walk_body (da_cons (de_var (pv 7)) (da_cons (de_op ow_add (de_callTy cw_list rfl T.z_list (by decide +kernel) (da_cons (de_var (pv 2)) da_nil)) (de_op ow_mul (de_lst (da_cons de_int da_nil)) (de_op ow_sub (de_var (pv 6)) (de_var (pv 5))))) da_nil))))
  (dss_one (ds_expr (de_meth (de_var (pv 4)) T.cl_Talk T.mt_Talk_close G_Talk_close.1 G_Talk_close.2 (hr.mono (by omega)) T.b_Talk_close (da_cons (de_if (dt_cmp ow_isN (de_var (pv 8)) de_non (nomark _)) (de_tup (da_cons de_str (da_cons de_int da_nil))) (de_var (pv 8))) da_nil))))))
  dss_nil)
  (dss_one (ds_ret (de_meth0 (CX := CX0) (de_var (pv 4)) T.cl_Talk T.mt_Talk_all_told G_Talk_all_told.1 G_Talk_all_told.2 (hr.mono (by omega)) T.b_Talk_all_told))))))))) read
theorem ok_law_taken (T : Txt K mg w A) {k : Nat}  {sp : WSp} (len : ∀ ws S Q, sp ws S Q → ws.length = 2)
    (read : ∀ ws S Q, Up Q → sp ws S Q → t_law_taken  { nx := fun _ S' => Q .non S', rt := Q } (startW 4 ws) S) : FnOk P w K mg base CX0 (k + 1) A.f_law_taken A.d_law_taken P_law_taken (LowSp K sp) :=
  fnW (t := t_law_taken ) T.F_law_taken sc_law_taken len (fun cdv AA outer s H E hr => (dss_cons (ds_if (dt_cmp ow_gt (de_ix (de_var (pv 0)) de_int (fun _ _ => rfl)) de_int (nomark _))
  (dss_cons (ds_set (i := 2) sc_law_taken.nd rfl (by first | exact Or.inl rfl | exact Or.inr rfl) (de_op ow_mod (de_ix (de_var (pv 0)) de_int (fun _ _ => rfl)) (de_var (pv 1))))
  (dss_cons (ds_asg (de_op ow_fdiv (de_ix (de_var (pv 0)) de_int (fun _ _ => rfl)) (de_var (pv 1))) (dg_sub (de_var (pv 0)) de_int))
  (dss_one (ds_ret (de_var (pv 2))))))
  dss_nil)
  (dss_cons (ds_asg (de_op ow_add (de_ix (de_var (pv 0)) de_int (fun _ _ => rfl)) de_int) (dg_sub (de_var (pv 0)) de_int))
  (dss_cons (ds_if (dt_cmp ow_gt (de_ix (de_var (pv 0)) de_int (fun _ _ => rfl)) (de_callB cw_len rfl T.z_len (by decide +kernel) (da_cons (de_ix (de_var (pv 0)) de_int (fun _ _ => rfl)) da_nil)) (nomark _))
  (dss_cons (ds_asg (de_op ow_mod (de_op ow_add (de_op ow_mul (de_ix (de_var (pv 0)) de_int (fun _ _ => rfl)) de_int) de_int) de_int) (dg_sub (de_var (pv 0)) de_int))
  (dss_one (ds_ret (de_op ow_mod (de_op ow_fdiv (de_ix (de_var (pv 0)) de_int (fun _ _ => rfl)) de_int) (de_var (pv 1))))))
  dss_nil)
  (dss_cons (ds_set (i := 3) sc_law_taken.nd rfl (by first | exact Or.inl rfl | exact Or.inr rfl) (de_ix (de_ix (de_var (pv 0)) de_int (fun _ _ => rfl)) (de_op ow_sub (de_ix (de_var (pv 0)) de_int (fun _ _ => rfl)) de_int) (fun _ _ => rfl)))
  (dss_cons (ds_asg (de_op ow_mod (de_op ow_add (de_op ow_add (de_op ow_mul (de_ix (de_var (pv 0)) de_int (fun _ _ => rfl)) de_int) (de_var (pv 3))) de_int) de_int) (dg_sub (de_var (pv 0)) de_int))
  (dss_cons (ds_if (dt_cmp ow_ge (de_var (pv 3)) (de_op ow_pow de_int de_int) (nomark _))
  (dss_one (ds_asg (de_op ow_fdiv (de_var (pv 3)) (de_var (pv 1))) (dg_sub (de_var (pv 0)) de_int)))
  dss_nil)
  (dss_one (ds_ret (de_op ow_mod (de_var (pv 3)) (de_var (pv 1)))))))))))) read
theorem ok_law_reckoning (T : Txt K mg w A) {k : Nat} {k_law_taken : Nat} {sp_law_taken : WSp} (G_law_taken : FnOk P w K mg base CX0 k_law_taken A.f_law_taken A.d_law_taken P_law_taken (LowSp K sp_law_taken) ∧ MonoSp sp_law_taken) (e_law_taken : k_law_taken ≤ k) {k_law_reckoning : Nat} {sp_law_reckoning : WSp} (G_law_reckoning : FnOk P w K mg base CX0 k_law_reckoning A.f_law_reckoning A.d_law_reckoning P_law_reckoning (LowSp K sp_law_reckoning) ∧ MonoSp sp_law_reckoning) (e_law_reckoning : k_law_reckoning ≤ k) {sp : WSp} (len : ∀ ws S Q, sp ws S Q → ws.length = 3)
    (read : ∀ ws S Q, Up Q → sp ws S Q → t_law_reckoning sp_law_taken sp_law_reckoning { nx := fun _ S' => Q .non S', rt := Q } (startW 5 ws) S) : FnOk P w K mg base CX0 (k + 1) A.f_law_reckoning A.d_law_reckoning P_law_reckoning (LowSp K sp) :=
  fnW (t := t_law_reckoning sp_law_taken sp_law_reckoning) T.F_law_reckoning sc_law_reckoning len (fun cdv AA outer s H E hr => (dss_cons (ds_set (i := 3) sc_law_reckoning.nd rfl (by first | exact Or.inl rfl | exact Or.inr rfl) (de_call G_law_taken.1 G_law_taken.2 (hr.mono (by omega)) rfl T.m_law_taken T.F_law_taken.kp T.b_law_taken (da_cons (de_var (pv 0)) (da_cons de_int da_nil))))
  (dss_cons (ds_if (DW.dt (dw_and (dt_cmp ow_gt (de_var (pv 3)) de_int (nomark _)) (dw_and1 (dt_cmp ow_gt (de_var (pv 2)) de_int (nomark _)))))
  (dss_cons (ds_set (i := 4) sc_law_reckoning.nd rfl (by first | exact Or.inl rfl | exact Or.inr rfl) (de_ix (de_lst (da_cons de_str (da_cons de_str (da_cons de_str (da_cons de_str (da_cons de_str (da_cons de_str da_nil))))))) (de_call G_law_taken.1 G_law_taken.2 (hr.mono (by omega)) rfl T.m_law_taken T.F_law_taken.kp T.b_law_taken (da_cons (de_var (pv 0)) (da_cons de_int da_nil))) (fun _ _ => rfl)))
  (dss_one (ds_ret (de_tup (da_cons (de_var (pv 4)) (da_cons (de_call G_law_reckoning.1 G_law_reckoning.2 (hr.mono (by omega)) rfl T.m_law_reckoning T.F_law_reckoning.kp T.b_law_reckoning (da_cons (de_var (pv 0)) (da_cons (de_var (pv 1)) (da_cons (de_op ow_sub (de_var (pv 2)) de_int) da_nil)))) (da_cons (de_call G_law_reckoning.1 G_law_reckoning.2 (hr.mono (by omega)) rfl T.m_law_reckoning T.F_law_reckoning.kp T.b_law_reckoning (da_cons (de_var (pv 0)) (da_cons (de_var (pv 1)) (da_cons (de_op ow_sub (de_var (pv 2)) de_int) da_nil)))) da_nil)))))))
  dss_nil)
  (dss_cons (ds_if (dt_cmp ow_lt (de_var (pv 3)) de_int (nomark _))
  (dss_one (ds_ret (de_tup (da_cons de_str (da_cons (de_call G_law_taken.1 G_law_taken.2 (hr.mono (by omega)) rfl T.m_law_taken T.F_law_taken.kp T.b_law_taken (da_cons (de_var (pv 0)) (da_cons (de_ix (de_lst (da_cons de_int (da_cons de_int (da_cons de_int da_nil)))) (de_var (pv 3)) (fun _ _ => rfl)) da_nil))) da_nil)))))
  dss_nil)
  (dss_one (ds_ret (de_tup (da_cons de_str (da_cons (de_call G_law_taken.1 G_law_taken.2 (hr.mono (by omega)) rfl T.m_law_taken T.F_law_taken.kp T.b_law_taken (da_cons (de_var (pv 0)) (da_cons (de_var (pv 1)) da_nil))) da_nil))))))))) read
theorem ok_law_numbers (T : Txt K mg w A) {k : Nat} {k_law_taken : Nat} {sp_law_taken : WSp} (G_law_taken : FnOk P w K mg base CX0 k_law_taken A.f_law_taken A.d_law_taken P_law_taken (LowSp K sp_law_taken) ∧ MonoSp sp_law_taken) (e_law_taken : k_law_taken ≤ k) {sp : WSp} (len : ∀ ws S Q, sp ws S Q → ws.length = 2)
    (read : ∀ ws S Q, Up Q → sp ws S Q → t_law_numbers sp_law_taken { nx := fun _ S' => Q .non S', rt := Q } (startW 3 ws) S) : FnOk P w K mg base CX0 (k + 1) A.f_law_numbers A.d_law_numbers P_law_numbers (LowSp K sp) :=
  fnW (t := t_law_numbers sp_law_taken) T.F_law_numbers sc_law_numbers len (fun cdv AA outer s H E hr => (dss_one (ds_ret (de_callTy cw_tuple rfl T.z_tuple (by decide +kernel) (da_cons (de_lcR (x := ("_law_turn" : Str)) (i := 2) rfl sc_law_numbers.nd rfl T.z_range (da_cons (de_var (pv 1)) da_nil) (blkOk_by (N := N_law_numbers) (sc := defScope s_law_numbers) (by decide +kernel)) (fun _ _ _ _ _ => pg_name (i := 2) sc_law_numbers.nd rfl (by first | exact Or.inl rfl | exact Or.inr rfl)) (fun _ _ _ _ _ => dts_nil) (fun _ _ _ _ _ => (de_call G_law_taken.1 G_law_taken.2 (hr.mono (by omega)) rfl T.m_law_taken T.F_law_taken.kp T.b_law_taken (da_cons (de_var (pv 0)) (da_cons (de_ix (de_lst (da_cons de_int (da_cons de_int da_nil))) (de_call G_law_taken.1 G_law_taken.2 (hr.mono (by omega)) rfl T.m_law_taken T.F_law_taken.kp T.b_law_taken (da_cons (de_var (pv 0)) (da_cons de_int da_nil))) (fun _ _ => rfl)) da_nil))))) da_nil))))) read
theorem ok_law_alike (T : Txt K mg w A) {k : Nat} {k_law_alike : Nat} {sp_law_alike : WSp} (G_law_alike : FnOk P w K mg base CX0 k_law_alike A.f_law_alike A.d_law_alike P_law_alike (LowSp K sp_law_alike) ∧ MonoSp sp_law_alike) (e_law_alike : k_law_alike ≤ k) {sp : WSp} (len : ∀ ws S Q, sp ws S Q → ws.length = 2)
    (read : ∀ ws S Q, Up Q → sp ws S Q → t_law_alike sp_law_alike { nx := fun _ S' => Q .non S', rt := Q } (startW 3 ws) S) : FnOk P w K mg base CX0 (k + 1) A.f_law_alike A.d_law_alike P_law_alike (LowSp K sp) :=
  fnW (t := t_law_alike sp_law_alike) T.F_law_alike sc_law_alike len (fun cdv AA outer s H E hr => (dss_cons (ds_if (DW.dt (dw_or (dt_val (de_callB cw_isi rfl T.z_isinstance (by decide +kernel) (da_cons (de_var (pv 1)) (da_cons (de_ty rfl T.z_tuple (by decide +kernel)) da_nil)))) (dw_or1 (dt_val (de_callB cw_isi rfl T.z_isinstance (by decide +kernel) (da_cons (de_var (pv 1)) (da_cons (de_ty rfl T.z_list (by decide +kernel)) da_nil)))))))
  (dss_cons (ds_if (DW.dt (dw_or (dt_cmp (ow_ne hr.units) (de_callB cw_isi rfl T.z_isinstance (by decide +kernel) (da_cons (de_var (pv 0)) (da_cons (de_ty rfl T.z_tuple (by decide +kernel)) da_nil))) (de_callB cw_isi rfl T.z_isinstance (by decide +kernel) (da_cons (de_var (pv 1)) (da_cons (de_ty rfl T.z_tuple (by decide +kernel)) da_nil))) (nomark _)) (dw_or1 (dt_not (dt_val (de_callB cw_isi rfl T.z_isinstance (by decide +kernel) (da_cons (de_var (pv 0)) (da_cons (de_tup (da_cons (de_ty rfl T.z_tuple (by decide +kernel)) (da_cons (de_ty rfl T.z_list (by decide +kernel)) da_nil))) da_nil))))))))
  (dss_one (ds_ret de_bl))
  dss_nil)
  (dss_cons (ds_if (dt_cmp (ow_ne hr.units) (de_callB cw_len rfl T.z_len (by decide +kernel) (da_cons (de_var (pv 0)) da_nil)) (de_callB cw_len rfl T.z_len (by decide +kernel) (da_cons (de_var (pv 1)) da_nil)) (nomark _))
  (dss_one (ds_ret de_bl))
  dss_nil)
  (dss_one (ds_ret (de_cmp (ow_eq hr.units) (de_lcR (x := ("_law_k" : Str)) (i := 2) rfl sc_law_alike.nd rfl T.z_range (da_cons (de_callB cw_len rfl T.z_len (by decide +kernel) (da_cons (de_var (pv 1)) da_nil)) da_nil) (blkOk_by (N := N_law_alike) (sc := defScope s_law_alike) (by decide +kernel)) (fun _ _ _ _ _ => pg_name (i := 2) sc_law_alike.nd rfl (by first | exact Or.inl rfl | exact Or.inr rfl)) (fun _ _ _ _ _ => (dts_one (dt_not (dt_val (de_call G_law_alike.1 G_law_alike.2 (hr.mono (by omega)) rfl T.m_law_alike T.F_law_alike.kp T.b_law_alike (da_cons (de_ix (de_var (pv 0)) (de_var (pv 2)) (fun _ _ => rfl)) (da_cons (de_ix (de_var (pv 1)) (de_var (pv 2)) (fun _ _ => rfl)) da_nil))))))) (fun _ _ _ _ _ => (de_var (pv 2)))) (de_lst da_nil) (nomark _))))))
  dss_nil)
  (dss_cons (ds_if (DW.dt (dw_or (dt_cmp ow_isN (de_var (pv 1)) de_non (nomark _)) (dw_or1 (dt_cmp ow_isN (de_var (pv 0)) de_non (nomark _)))))
  (dss_one (ds_ret (de_and (de_cmp ow_isN (de_var (pv 1)) de_non (nomark _)) (de_one (de_cmp ow_isN (de_var (pv 0)) de_non (nomark _))))))
  dss_nil)
  (dss_cons (ds_if (DW.dt (dw_or (dt_val (de_callB cw_isi rfl T.z_isinstance (by decide +kernel) (da_cons (de_var (pv 1)) (da_cons (de_ty rfl T.z_bool (by decide +kernel)) da_nil)))) (dw_or1 (dt_val (de_callB cw_isi rfl T.z_isinstance (by decide +kernel) (da_cons (de_var (pv 0)) (da_cons (de_ty rfl T.z_bool (by decide +kernel)) da_nil)))))))
  (dss_one (ds_ret (de_and (de_callB cw_isi rfl T.z_isinstance (by decide +kernel) (da_cons (de_var (pv 1)) (da_cons (de_ty rfl T.z_bool (by decide +kernel)) da_nil))) (de_and (de_callB cw_isi rfl T.z_isinstance (by decide +kernel) (da_cons (de_var (pv 0)) (da_cons (de_ty rfl T.z_bool (by decide +kernel)) da_nil))) (de_one (de_cmp (ow_eq hr.units) (de_var (pv 0)) (de_var (pv 1)) (nomark _)))))))
  dss_nil)
  (dss_cons (ds_if (dt_val (de_callB cw_isi rfl T.z_isinstance (by decide +kernel) (da_cons (de_var (pv 1)) (da_cons (de_ty rfl T.z_str (by decide +kernel)) da_nil))))
  (dss_one (ds_ret (de_and (de_callB cw_isi rfl T.z_isinstance (by decide +kernel) (da_cons (de_var (pv 0)) (da_cons (de_ty rfl T.z_str (by decide +kernel)) da_nil))) (de_one (de_cmp (ow_eq hr.units) (de_var (pv 0)) (de_var (pv 1)) (nomark _))))))
  dss_nil)
  (dss_one (ds_ret (de_and (de_callB cw_isi rfl T.z_isinstance (by decide +kernel) (da_cons (de_var (pv 0)) (da_cons (de_ty rfl T.z_int (by decide +kernel)) da_nil))) (de_one (de_cmp (ow_eq hr.units) (de_var (pv 0)) (de_var (pv 1)) (nomark _))))))))))) read
theorem ok_law_reckoned (T : Txt K mg w A) {k : Nat} {k_law_reckoned : Nat} {sp_law_reckoned : WSp} (G_law_reckoned : FnOk P w K mg base CX0 k_law_reckoned A.f_law_reckoned A.d_law_reckoned P_law_reckoned (LowSp K sp_law_reckoned) ∧ MonoSp sp_law_reckoned) (e_law_reckoned : k_law_reckoned ≤ k) {sp : WSp} (len : ∀ ws S Q, sp ws S Q → ws.length = 2)
    (read : ∀ ws S Q, Up Q → sp ws S Q → t_law_reckoned sp_law_reckoned { nx := fun _ S' => Q .non S', rt := Q } (startW 4 ws) S) : FnOk P w K mg base CX0 (k + 1) A.f_law_reckoned A.d_law_reckoned P_law_reckoned (LowSp K sp) :=
  fnW (t := t_law_reckoned sp_law_reckoned) T.F_law_reckoned sc_law_reckoned len (fun cdv AA outer s H E hr => (dss_cons (ds_if (dt_cmp (ow_eq hr.units) (de_ix (de_var (pv 0)) de_int (fun _ _ => rfl)) de_str (nomark _))
  (dss_one (ds_ret (de_ix (de_var (pv 0)) de_int (fun _ _ => rfl))))
  dss_nil)
  (dss_cons (ds_if (dt_cmp (ow_eq hr.units) (de_ix (de_var (pv 0)) de_int (fun _ _ => rfl)) de_str (nomark _))
  (dss_one (ds_ret (de_ix (de_var (pv 1)) (de_ix (de_var (pv 0)) de_int (fun _ _ => rfl)) (fun _ _ => rfl))))
  dss_nil)
  (dss_cons (ds_set (i := 2) sc_law_reckoned.nd rfl (by first | exact Or.inl rfl | exact Or.inr rfl) (de_call G_law_reckoned.1 G_law_reckoned.2 (hr.mono (by omega)) rfl T.m_law_reckoned T.F_law_reckoned.kp T.b_law_reckoned (da_cons (de_ix (de_var (pv 0)) de_int (fun _ _ => rfl)) (da_cons (de_var (pv 1)) da_nil))))
  (dss_cons (ds_set (i := 3) sc_law_reckoned.nd rfl (by first | exact Or.inl rfl | exact Or.inr rfl) (de_call G_law_reckoned.1 G_law_reckoned.2 (hr.mono (by omega)) rfl T.m_law_reckoned T.F_law_reckoned.kp T.b_law_reckoned (da_cons (de_ix (de_var (pv 0)) de_int (fun _ _ => rfl)) (da_cons (de_var (pv 1)) da_nil))))
  (dss_cons (ds_if (DW.dt (dw_or (dt_cmp ow_isN (de_var (pv 2)) de_non (nomark _)) (dw_or (dt_cmp ow_isN (de_var (pv 3)) de_non (nomark _)) (dw_or1 (DW.dt (dw_and (dt_cmp (ow_eq hr.units) (de_ix (de_var (pv 0)) de_int (fun _ _ => rfl)) de_str (nomark _)) (dw_and1 (dt_cmp (ow_eq hr.units) (de_var (pv 3)) de_int (nomark _)))))))))
  (dss_one (ds_ret de_non))
  dss_nil)
  (dss_cons (ds_if (dt_cmp ow_in (de_ix (de_var (pv 0)) de_int (fun _ _ => rfl)) (de_tup (da_cons de_str (da_cons de_str da_nil))) (by with_unfolding_all rfl))
  (dss_one (ds_ret (de_callTy cw_int rfl T.z_int (by decide +kernel) (da_cons (de_ix (de_lst (da_cons (de_cmp ow_lt (de_var (pv 2)) (de_var (pv 3)) (nomark _)) (da_cons (de_cmp (ow_eq hr.units) (de_var (pv 2)) (de_var (pv 3)) (nomark _)) da_nil))) (de_callTy cw_int rfl T.z_int (by decide +kernel) (da_cons (de_cmp (ow_eq hr.units) (de_ix (de_var (pv 0)) de_int (fun _ _ => rfl)) de_str (nomark _)) da_nil)) (fun _ _ => rfl)) da_nil))))
  dss_nil)
  (dss_cons (ds_if (dt_cmp (ow_eq hr.units) (de_ix (de_var (pv 0)) de_int (fun _ _ => rfl)) de_str (nomark _))
  (dss_one (ds_ret (de_op ow_fdiv (de_var (pv 2)) (de_var (pv 3)))))
  dss_nil)
  (dss_one (ds_ret (de_op ow_mod (de_dget (hu_of hr) (de_disp (dps_cons de_str (de_op ow_add (de_var (pv 2)) (de_var (pv 3))) (dps_cons de_str (de_op ow_sub (de_op ow_add de_int (de_var (pv 2))) (de_var (pv 3))) (dps_cons de_str (de_op ow_mul (de_var (pv 2)) (de_var (pv 3))) dps_nil)))) (de_ix (de_var (pv 0)) de_int (fun _ _ => rfl))) de_int))))))))))) read
theorem ok_law_deeds (T : Txt K mg w A) {k : Nat} {k_law_taken : Nat} {sp_law_taken : WSp} (G_law_taken : FnOk P w K mg base CX0 k_law_taken A.f_law_taken A.d_law_taken P_law_taken (LowSp K sp_law_taken) ∧ MonoSp sp_law_taken) (e_law_taken : k_law_taken ≤ k) {sp : WSp} (len : ∀ ws S Q, sp ws S Q → ws.length = 2)
    (read : ∀ ws S Q, Up Q → sp ws S Q → t_law_deeds sp_law_taken { nx := fun _ S' => Q .non S', rt := Q } (startW 6 ws) S) : FnOk P w K mg base CX0 (k + 1) A.f_law_deeds A.d_law_deeds P_law_deeds (LowSp K sp) :=
  fnW (t := t_law_deeds sp_law_taken) T.F_law_deeds sc_law_deeds len (fun cdv AA outer s H E hr => (dss_cons (ds_set (i := 2) sc_law_deeds.nd rfl (by first | exact Or.inl rfl | exact Or.inr rfl) (de_lst da_nil))
  (dss_cons (ds_forR1 PassesOwn.never rfl rfl T.z_range (da_cons (de_call G_law_taken.1 G_law_taken.2 (hr.mono (by omega)) rfl T.m_law_taken T.F_law_taken.kp T.b_law_taken (da_cons (de_var (pv 0)) (da_cons (de_op ow_add (de_var (pv 1)) de_int) da_nil))) da_nil) (dg_name (i := 3) sc_law_deeds.nd rfl (by first | exact Or.inl rfl | exact Or.inr rfl))
  (dss_cons (ds_set (i := 4) sc_law_deeds.nd rfl (by first | exact Or.inl rfl | exact Or.inr rfl) (de_call G_law_taken.1 G_law_taken.2 (hr.mono (by omega)) rfl T.m_law_taken T.F_law_taken.kp T.b_law_taken (da_cons (de_var (pv 0)) (da_cons (de_ix (de_lst (da_cons de_int (da_cons de_int da_nil))) (de_call G_law_taken.1 G_law_taken.2 (hr.mono (by omega)) rfl T.m_law_taken T.F_law_taken.kp T.b_law_taken (da_cons (de_var (pv 0)) (da_cons de_int da_nil))) (fun _ _ => rfl)) da_nil))))
  (dss_cons (ds_set (i := 5) sc_law_deeds.nd rfl (by first | exact Or.inl rfl | exact Or.inr rfl) (de_call G_law_taken.1 G_law_taken.2 (hr.mono (by omega)) rfl T.m_law_taken T.F_law_taken.kp T.b_law_taken (da_cons (de_var (pv 0)) (da_cons (de_ix (de_lst (da_cons de_int (da_cons de_int da_nil))) (de_callTy cw_int rfl T.z_int (by decide +kernel) (da_cons (de_cmp ow_gt (de_var (pv 3)) de_int (nomark _)) da_nil)) (fun _ _ => rfl)) da_nil))))
  (dss_one (ds_expr (de_lm PySem.F.plainAttrs_list PySem.F.slot_list_append PySem.F.type_list_append mw_append (de_var (pv 2)) (da_cons (de_ix (de_lst (da_cons (de_tup (da_cons de_str (da_cons (de_var (pv 4)) da_nil))) (da_cons (de_tup (da_cons de_str (da_cons (de_var (pv 4)) da_nil))) (da_cons (de_tup (da_cons de_str da_nil)) da_nil)))) (de_op ow_mul (de_op ow_mul (de_callTy cw_int rfl T.z_int (by decide +kernel) (da_cons (de_cmp ow_gt (de_var (pv 5)) de_int (nomark _)) da_nil)) (de_callTy cw_int rfl T.z_int (by decide +kernel) (da_cons (de_cmp ow_lt (de_var (pv 5)) de_int (nomark _)) da_nil))) (de_op ow_add de_int (de_op ow_fdiv (de_var (pv 5)) de_int))) (fun _ _ => rfl)) da_nil)))))))
  (dss_one (ds_ret (de_var (pv 2))))))) read
theorem ok_law_steps (T : Txt K mg w A) {k : Nat} {k_law_reckoning : Nat} {sp_law_reckoning : WSp} (G_law_reckoning : FnOk P w K mg base CX0 k_law_reckoning A.f_law_reckoning A.d_law_reckoning P_law_reckoning (LowSp K sp_law_reckoning) ∧ MonoSp sp_law_reckoning) (e_law_reckoning : k_law_reckoning ≤ k) {k_law_taken : Nat} {sp_law_taken : WSp} (G_law_taken : FnOk P w K mg base CX0 k_law_taken A.f_law_taken A.d_law_taken P_law_taken (LowSp K sp_law_taken) ∧ MonoSp sp_law_taken) (e_law_taken : k_law_taken ≤ k) {sp : WSp} (len : ∀ ws S Q, sp ws S Q → ws.length = 2)
    (read : ∀ ws S Q, Up Q → sp ws S Q → t_law_steps sp_law_reckoning sp_law_taken { nx := fun _ S' => Q .non S', rt := Q } (startW 6 ws) S) : FnOk P w K mg base CX0 (k + 1) A.f_law_steps A.d_law_steps P_law_steps (LowSp K sp) :=
  fnW (t := t_law_steps sp_law_reckoning sp_law_taken) T.F_law_steps sc_law_steps len (fun cdv AA outer s H E hr => (dss_cons (ds_set (i := 2) sc_law_steps.nd rfl (by first | exact Or.inl rfl | exact Or.inr rfl) (de_lst da_nil))
  (dss_cons (ds_forR1 PassesOwn.never rfl rfl T.z_range (da_cons (de_call G_law_taken.1 G_law_taken.2 (hr.mono (by omega)) rfl T.m_law_taken T.F_law_taken.kp T.b_law_taken (da_cons (de_var (pv 0)) (da_cons de_int da_nil))) da_nil) (dg_name (i := 3) sc_law_steps.nd rfl (by first | exact Or.inl rfl | exact Or.inr rfl))
  (dss_cons (ds_set (i := 4) sc_law_steps.nd rfl (by first | exact Or.inl rfl | exact Or.inr rfl) (de_call G_law_reckoning.1 G_law_reckoning.2 (hr.mono (by omega)) rfl T.m_law_reckoning T.F_law_reckoning.kp T.b_law_reckoning (da_cons (de_var (pv 0)) (da_cons (de_var (pv 1)) (da_cons (de_call G_law_taken.1 G_law_taken.2 (hr.mono (by omega)) rfl T.m_law_taken T.F_law_taken.kp T.b_law_taken (da_cons (de_var (pv 0)) (da_cons de_int da_nil))) da_nil)))))
  (dss_cons (ds_set (i := 5) sc_law_steps.nd rfl (by first | exact Or.inl rfl | exact Or.inr rfl) (de_call G_law_taken.1 G_law_taken.2 (hr.mono (by omega)) rfl T.m_law_taken T.F_law_taken.kp T.b_law_taken (da_cons (de_var (pv 0)) (da_cons de_int da_nil))))
  (dss_one (ds_if (dt_cmp ow_lt (de_var (pv 5)) de_int (nomark _))
  (dss_one (ds_expr (de_lm PySem.F.plainAttrs_list PySem.F.slot_list_append PySem.F.type_list_append mw_append (de_var (pv 2)) (da_cons (de_tup (da_cons de_str (da_cons (de_var (pv 4)) (da_cons (de_ix (de_op ow_add (de_lst (da_cons de_non da_nil)) (de_lstR rfl rfl T.z_range rfl T.z_list (de_var (pv 1)))) (de_call G_law_taken.1 G_law_taken.2 (hr.mono (by omega)) rfl T.m_law_taken T.F_law_taken.kp T.b_law_taken (da_cons (de_var (pv 0)) (da_cons (de_op ow_add (de_var (pv 1)) de_int) da_nil))) (fun _ _ => rfl)) da_nil)))) da_nil))))
  (dss_one (ds_expr (de_lm PySem.F.plainAttrs_list PySem.F.slot_list_append PySem.F.type_list_append mw_append (de_var (pv 2)) (da_cons (de_ix (de_lst (da_cons (de_tup (da_cons de_str (da_cons (de_call G_law_taken.1 G_law_taken.2 (hr.mono (by omega)) rfl T.m_law_taken T.F_law_taken.kp T.b_law_taken (da_cons (de_var (pv 0)) (da_cons (de_var (pv 1)) da_nil))) (da_cons (de_var (pv 4)) da_nil)))) (da_cons (de_tup (da_cons de_str (da_cons (de_var (pv 4)) da_nil))) da_nil))) (de_op ow_sub (de_var (pv 5)) de_int) (fun _ _ => rfl)) da_nil)))))))))
  (dss_one (ds_ret (de_callTy cw_tuple rfl T.z_tuple (by decide +kernel) (da_cons (de_var (pv 2)) da_nil))))))) read
theorem ok_law_gone (T : Txt K mg w A) {k : Nat} {k_law_reckoned : Nat} {sp_law_reckoned : WSp} (G_law_reckoned : FnOk P w K mg base CX0 k_law_reckoned A.f_law_reckoned A.d_law_reckoned P_law_reckoned (LowSp K sp_law_reckoned) ∧ MonoSp sp_law_reckoned) (e_law_reckoned : k_law_reckoned ≤ k) {sp : WSp} (len : ∀ ws S Q, sp ws S Q → ws.length = 3)
    (read : ∀ ws S Q, Up Q → sp ws S Q → t_law_gone sp_law_reckoned { nx := fun _ S' => Q .non S', rt := Q } (startW 8 ws) S) : FnOk P w K mg base CX0 (k + 1) A.f_law_gone A.d_law_gone P_law_gone (LowSp K sp) :=
  fnW (t := t_law_gone sp_law_reckoned) T.F_law_gone sc_law_gone len (fun cdv AA outer s H E hr => (dss_cons (ds_set (i := 3) sc_law_gone.nd rfl (by first | exact Or.inl rfl | exact Or.inr rfl) (de_lst da_nil))
  (dss_cons (ds_set (i := 4) sc_law_gone.nd rfl (by first | exact Or.inl rfl | exact Or.inr rfl) (de_lst da_nil))
  (dss_cons (ds_for PassesOwn.never rfl (de_var (pv 0)) (dg_name (i := 5) sc_law_gone.nd rfl (by first | exact Or.inl rfl | exact Or.inr rfl))
  (dss_cons (ds_set (i := 6) sc_law_gone.nd rfl (by first | exact Or.inl rfl | exact Or.inr rfl) (de_call G_law_reckoned.1 G_law_reckoned.2 (hr.mono (by omega)) rfl T.m_law_reckoned T.F_law_reckoned.kp T.b_law_reckoned (da_cons (de_ix (de_var (pv 5)) (de_op ow_add de_int (de_callTy cw_int rfl T.z_int (by decide +kernel) (da_cons (de_cmp (ow_eq hr.units) (de_ix (de_var (pv 5)) de_int (fun _ _ => rfl)) de_str (nomark _)) da_nil))) (fun _ _ => rfl)) (da_cons (de_var (pv 1)) da_nil))))
  (dss_cons (ds_if (dt_cmp ow_isN (de_var (pv 6)) de_non (nomark _))
  (dss_one (ds_ret (de_op ow_add (de_var (pv 3)) (de_lst (da_cons (de_tup (da_cons (de_callTy cw_tuple rfl T.z_tuple (by decide +kernel) (da_cons (de_var (pv 4)) da_nil)) (da_cons (de_tup (da_cons de_str (da_cons de_int da_nil))) da_nil))) da_nil)))))
  dss_nil)
  (dss_cons (ds_if (dt_cmp (ow_eq hr.units) (de_ix (de_var (pv 5)) de_int (fun _ _ => rfl)) de_str (nomark _))
  (dss_one (ds_asg (de_var (pv 6)) (dg_sub (de_var (pv 1)) (de_ix (de_var (pv 5)) de_int (fun _ _ => rfl)))))
  dss_nil)
  (dss_cons (ds_if (dt_cmp (ow_eq hr.units) (de_ix (de_var (pv 5)) de_int (fun _ _ => rfl)) de_str (nomark _))
  (dss_one (ds_expr (de_lm PySem.F.plainAttrs_list PySem.F.slot_list_append PySem.F.type_list_append mw_append (de_var (pv 4)) (da_cons (de_var (pv 6)) da_nil))))
  dss_nil)
  (dss_one (ds_if (dt_cmp (ow_eq hr.units) (de_ix (de_var (pv 5)) de_int (fun _ _ => rfl)) de_str (nomark _))
  (dss_cons (ds_expr (de_lm PySem.F.plainAttrs_list PySem.F.slot_list_append PySem.F.type_list_append mw_append (de_var (pv 3)) (da_cons (de_tup (da_cons (de_callTy cw_tuple rfl T.z_tuple (by decide +kernel) (da_cons (de_var (pv 4)) da_nil)) (da_cons (de_tup (da_cons de_str (da_cons (de_var (pv 6)) da_nil))) da_nil))) da_nil)))
  (dss_cons (ds_set (i := 4) sc_law_gone.nd rfl (by first | exact Or.inl rfl | exact Or.inr rfl) (de_lst da_nil))
  (dss_cons (ds_if (dt_cmp (ow_eq hr.units) (de_callB cw_len rfl T.z_len (by decide +kernel) (da_cons (de_var (pv 3)) da_nil)) (de_callB cw_len rfl T.z_len (by decide +kernel) (da_cons (de_var (pv 2)) da_nil)) (nomark _))
  (dss_one (ds_ret (de_var (pv 3))))
  dss_nil)
  (dss_cons (ds_set (i := 7) sc_law_gone.nd rfl (by first | exact Or.inl rfl | exact Or.inr rfl) (de_ix (de_var (pv 2)) (de_callB cw_len rfl T.z_len (by decide +kernel) (da_cons (de_var (pv 3)) da_nil)) (fun _ _ => rfl)))
  (dss_cons (ds_if (dt_cmp (ow_ne hr.units) (de_ix (de_var (pv 7)) de_int (fun _ _ => rfl)) de_str (nomark _))
  (dss_one (ds_ret (de_if (dt_cmp (ow_eq hr.units) (de_ix (de_var (pv 7)) de_int (fun _ _ => rfl)) de_str (nomark _)) (de_op ow_add (de_var (pv 3)) (de_lst (da_cons (de_tup (da_cons (de_tup da_nil) (da_cons (de_op ow_add (de_tup (da_cons de_str da_nil)) (de_slice (de_var (pv 7)) (do_some de_int) do_none)) da_nil))) da_nil))) (de_op ow_add (de_var (pv 3)) (de_lst (da_cons (de_tup (da_cons (de_tup da_nil) (da_cons (de_var (pv 7)) da_nil))) da_nil))))))
  dss_nil)
  (dss_one (ds_if (dt_cmp ow_notN (de_ix (de_var (pv 5)) de_int (fun _ _ => rfl)) de_non (nomark _))
  (dss_one (ds_asg (de_ix (de_var (pv 7)) de_int (fun _ _ => rfl)) (dg_sub (de_var (pv 1)) (de_ix (de_var (pv 5)) de_int (fun _ _ => rfl)))))
  dss_nil)))))))
  dss_nil)))))))
  (dss_one (ds_ret (de_op ow_add (de_var (pv 3)) (de_lst (da_cons (de_tup (da_cons (de_callTy cw_tuple rfl T.z_tuple (by decide +kernel) (da_cons (de_var (pv 4)) da_nil)) (da_cons (de_tup (da_cons de_str (da_cons de_int da_nil))) da_nil))) da_nil))))))))) read
theorem ok_law_over (T : Txt K mg w A) {k : Nat}  {sp : WSp} (len : ∀ ws S Q, sp ws S Q → ws.length = 1)
    (read : ∀ ws S Q, Up Q → sp ws S Q → t_law_over  { nx := fun _ S' => Q .non S', rt := Q } (startW 1 ws) S) : FnOk P w K mg base CX0 (k + 1) A.f_law_over A.d_law_over P_law_over (LowSp K sp) :=
  fnW (t := t_law_over ) T.F_law_over sc_law_over len (fun cdv AA outer s H E hr => (dss_cons (ds_if (dt_cmp (ow_eq hr.units) (de_ix (de_var (pv 0)) de_int (fun _ _ => rfl)) de_str (nomark _))
  (dss_one (ds_ret (de_tup (da_cons (de_tup da_nil) (da_cons (de_tup (da_cons de_str (da_cons (de_ix (de_var (pv 0)) de_int (fun _ _ => rfl)) da_nil))) da_nil)))))
  dss_nil)
  (dss_one (ds_ret (de_tup (da_cons (de_tup da_nil) (da_cons (de_ix (de_lst (da_cons (de_tup (da_cons de_str da_nil)) (da_cons (de_tup (da_cons de_str da_nil)) da_nil))) (de_callTy cw_int rfl T.z_int (by decide +kernel) (da_cons (de_cmp (ow_eq hr.units) (de_ix (de_var (pv 0)) de_int (fun _ _ => rfl)) de_str (nomark _)) da_nil)) (fun _ _ => rfl)) da_nil))))))) read
theorem ok_law (T : Txt K mg w A) {k : Nat} {k_law_taken : Nat} {sp_law_taken : WSp} (G_law_taken : FnOk P w K mg base CX0 k_law_taken A.f_law_taken A.d_law_taken P_law_taken (LowSp K sp_law_taken) ∧ MonoSp sp_law_taken) (e_law_taken : k_law_taken ≤ k) {k_law_steps : Nat} {sp_law_steps : WSp} (G_law_steps : FnOk P w K mg base CX0 k_law_steps A.f_law_steps A.d_law_steps P_law_steps (LowSp K sp_law_steps) ∧ MonoSp sp_law_steps) (e_law_steps : k_law_steps ≤ k) {k_law_numbers : Nat} {sp_law_numbers : WSp} (G_law_numbers : FnOk P w K mg base CX0 k_law_numbers A.f_law_numbers A.d_law_numbers P_law_numbers (LowSp K sp_law_numbers) ∧ MonoSp sp_law_numbers) (e_law_numbers : k_law_numbers ≤ k) {k_law_deeds : Nat} {sp_law_deeds : WSp} (G_law_deeds : FnOk P w K mg base CX0 k_law_deeds A.f_law_deeds A.d_law_deeds P_law_deeds (LowSp K sp_law_deeds) ∧ MonoSp sp_law_deeds) (e_law_deeds : k_law_deeds ≤ k) {k_law_gone : Nat} {sp_law_gone : WSp} (G_law_gone : FnOk P w K mg base CX0 k_law_gone A.f_law_gone A.d_law_gone P_law_gone (LowSp K sp_law_gone) ∧ MonoSp sp_law_gone) (e_law_gone : k_law_gone ≤ k) {k_law_over : Nat} {sp_law_over : WSp} (G_law_over : FnOk P w K mg base CX0 k_law_over A.f_law_over A.d_law_over P_law_over (LowSp K sp_law_over) ∧ MonoSp sp_law_over) (e_law_over : k_law_over ≤ k) {k_law_alike : Nat} {sp_law_alike : WSp} (G_law_alike : FnOk P w K mg base CX0 k_law_alike A.f_law_alike A.d_law_alike P_law_alike (LowSp K sp_law_alike) ∧ MonoSp sp_law_alike) (e_law_alike : k_law_alike ≤ k) {k_played : Nat} {sp_played : WSp} (G_played : FnOk P w K mg base CX0 k_played A.f_played A.d_played P_played (LowSp K sp_played) ∧ MonoSp sp_played) (e_played : k_played ≤ k) {sp : WSp} (len : ∀ ws S Q, sp ws S Q → ws.length = 1)
    (read : ∀ ws S Q, Up Q → sp ws S Q → t_law sp_law_taken sp_law_steps sp_law_numbers sp_law_deeds sp_law_gone sp_law_over sp_law_alike sp_played { nx := fun _ S' => Q .non S', rt := Q } (startW 12 ws) S) : FnOk P w K mg base CX0 (k + 1) A.f_law A.d_law P_law (LowSp K sp) :=
  fnW (t := t_law sp_law_taken sp_law_steps sp_law_numbers sp_law_deeds sp_law_gone sp_law_over sp_law_alike sp_played) T.F_law sc_law len (fun cdv AA outer s H E hr => (dss_cons (ds_set (i := 1) sc_law.nd rfl (by first | exact Or.inl rfl | exact Or.inr rfl) (de_lst (da_cons (de_var (pv 0)) (da_cons de_int (da_cons de_int (da_cons de_int da_nil))))))
  (dss_cons (ds_forR1 PassesOwn.never rfl rfl T.z_range (da_cons de_int da_nil) (dg_name (i := 2) sc_law.nd rfl (by first | exact Or.inl rfl | exact Or.inr rfl))
  (dss_cons (ds_set (i := 3) sc_law.nd rfl (by first | exact Or.inl rfl | exact Or.inr rfl) (de_op ow_add de_int (de_call G_law_taken.1 G_law_taken.2 (hr.mono (by omega)) rfl T.m_law_taken T.F_law_taken.kp T.b_law_taken (da_cons (de_var (pv 1)) (da_cons de_int da_nil)))))
  (dss_cons (ds_set (i := 4) sc_law.nd rfl (by first | exact Or.inl rfl | exact Or.inr rfl) (de_call G_law_taken.1 G_law_taken.2 (hr.mono (by omega)) rfl T.m_law_taken T.F_law_taken.kp T.b_law_taken (da_cons (de_var (pv 1)) (da_cons (de_callB (cw_min rfl) rfl T.z_min (by decide +kernel) (da_cons de_int (da_cons (de_op ow_add (de_var (pv 3)) de_int) da_nil))) da_nil))))
  (dss_cons (ds_set (i := 5) sc_law.nd rfl (by first | exact Or.inl rfl | exact Or.inr rfl) (de_call G_law_steps.1 G_law_steps.2 (hr.mono (by omega)) rfl T.m_law_steps T.F_law_steps.kp T.b_law_steps (da_cons (de_var (pv 1)) (da_cons (de_var (pv 3)) da_nil))))
  (dss_cons (ds_set (i := 6) sc_law.nd rfl (by first | exact Or.inl rfl | exact Or.inr rfl) (de_call G_law_numbers.1 G_law_numbers.2 (hr.mono (by omega)) rfl T.m_law_numbers T.F_law_numbers.kp T.b_law_numbers (da_cons (de_var (pv 1)) (da_cons (de_var (pv 4)) da_nil))))
  (dss_cons (ds_set (i := 7) sc_law.nd rfl (by first | exact Or.inl rfl | exact Or.inr rfl) (de_call G_law_deeds.1 G_law_deeds.2 (hr.mono (by omega)) rfl T.m_law_deeds T.F_law_deeds.kp T.b_law_deeds (da_cons (de_var (pv 1)) (da_cons de_int da_nil))))
  (dss_cons (ds_set (i := 8) sc_law.nd rfl (by first | exact Or.inl rfl | exact Or.inr rfl) (de_lst da_nil))
  (dss_cons (ds_if (DW.dt (dw_and (dt_cmp (ow_ne hr.units) (de_var (pv 7)) (de_lst da_nil) (nomark _)) (dw_and1 (dt_cmp (ow_eq hr.units) (de_ix (de_ix (de_var (pv 7)) de_int (fun _ _ => rfl)) de_int (fun _ _ => rfl)) de_str (nomark _)))))
  (dss_one (ds_set (i := 8) sc_law.nd rfl (by first | exact Or.inl rfl | exact Or.inr rfl) (de_call G_law_gone.1 G_law_gone.2 (hr.mono (by omega)) rfl T.m_law_gone T.F_law_gone.kp T.b_law_gone (da_cons (de_var (pv 5)) (da_cons (de_op ow_add (de_callTy cw_list rfl T.z_list (by decide +kernel) (da_cons (de_var (pv 6)) da_nil)) (de_op ow_mul (de_lst (da_cons de_int da_nil)) (de_op ow_sub (de_var (pv 3)) (de_var (pv 4))))) (da_cons (de_var (pv 7)) da_nil))))))
  dss_nil)
  (dss_cons (ds_set (i := 8) sc_law.nd rfl (by first | exact Or.inl rfl | exact Or.inr rfl) (de_op ow_add (de_var (pv 8)) (de_lc (x := ("_law_deed" : Str)) (i := 9) rfl sc_law.nd (de_slice (de_var (pv 7)) (do_some (de_callB cw_len rfl T.z_len (by decide +kernel) (da_cons (de_var (pv 8)) da_nil))) do_none) (blkOk_by (N := N_law) (sc := defScope s_law) (by decide +kernel)) (fun _ _ _ _ _ => pg_name (i := 9) sc_law.nd rfl (by first | exact Or.inl rfl | exact Or.inr rfl)) (fun _ _ _ _ _ => dts_nil) (fun _ _ _ _ _ => (de_call G_law_over.1 G_law_over.2 (hr.mono (by omega)) rfl T.m_law_over T.F_law_over.kp T.b_law_over (da_cons (de_var (pv 9)) da_nil))))))
  (dss_cons (ds_set (i := 10) sc_law.nd rfl (by first | exact Or.inl rfl | exact Or.inr rfl) (de_lst (da_cons (de_tup (da_cons (de_var (pv 4)) (da_cons (de_var (pv 3)) (da_cons (de_var (pv 5)) da_nil)))) da_nil)))
  (dss_cons (ds_set (i := 11) sc_law.nd rfl (by first | exact Or.inl rfl | exact Or.inr rfl) (de_lst (da_cons (de_callTy cw_list rfl T.z_list (by decide +kernel) (da_cons (de_var (pv 10)) da_nil)) (da_cons (de_callTy cw_list rfl T.z_list (by decide +kernel) (da_cons (de_var (pv 7)) da_nil)) da_nil))))
  (dss_cons (ds_if (DW.dt (dw_or (dt_not (dt_val (de_call G_law_alike.1 G_law_alike.2 (hr.mono (by omega)) rfl T.m_law_alike T.F_law_alike.kp T.b_law_alike (da_cons (de_call G_played.1 G_played.2 (hr.mono (by omega)) rfl T.m_played T.F_played.kp T.b_played (da_cons (de_ix (de_var (pv 11)) de_int (fun _ _ => rfl)) (da_cons de_int (da_cons (de_var (pv 6)) (da_cons (de_ix (de_var (pv 11)) de_int (fun _ _ => rfl)) da_nil))))) (da_cons (de_var (pv 8)) da_nil))))) (dw_or1 (dt_cmp (ow_ne hr.units) (de_var (pv 11)) (de_lst (da_cons (de_var (pv 10)) (da_cons (de_var (pv 7)) da_nil))) (nomark _)))))
  (dss_one (ds_ret de_bl))
  dss_nil)
  (dss_one (ds_if (dt_cmp (ow_ne hr.units) (de_call G_played.1 G_played.2 (hr.mono (by omega)) rfl T.m_played T.F_played.kp T.b_played (da_cons (de_ix (de_var (pv 11)) de_int (fun _ _ => rfl)) (da_cons de_int (da_cons (de_var (pv 6)) (da_cons (de_lst da_nil) da_nil))))) (de_lst da_nil) (nomark _))
  (dss_one (ds_ret de_bl))
  dss_nil))))))))))))))
  (dss_one (ds_ret de_bl))))) read
end
end WL.K3

namespace WL.K3
open PySem L2
section
variable {P : Program} {w : World} {K : PySem.W.Frag} {mg : Str → Option Value} {base : Heap} {A : Adr}
theorem g_is_reckoning (T : Txt K mg w A) : ∀ n, FnOk P w K mg base CX0 n A.f_is_reckoning A.d_is_reckoning P_is_reckoning (LowSp K (sp_is_reckoning n))
  | 0 => fn_no no_is_reckoning
  | n + 1 => ok_is_reckoning T ⟨g_is_reckoning T n, mo_is_reckoning⟩ (by omega) le_is_reckoning (r_is_reckoning n)
theorem g_bodies (T : Txt K mg w A) : FnOk P w K mg base CX0 1 A.f_bodies A.d_bodies P_bodies (LowSp K sp_bodies) := ok_bodies T le_bodies r_bodies
theorem g_is_kept (T : Txt K mg w A) : FnOk P w K mg base CX0 1 A.f_is_kept A.d_is_kept P_is_kept (LowSp K sp_is_kept) := ok_is_kept T le_is_kept r_is_kept
theorem g_are_parts (T : Txt K mg w A) : FnOk P w K mg base CX0 5 A.f_are_parts A.d_are_parts P_are_parts (LowSp K sp_are_parts) := ok_are_parts T ⟨g_is_kept T, mo_is_kept⟩ (by omega) ⟨g_is_reckoning T 4, mo_is_reckoning⟩ (by omega) le_are_parts r_are_parts
theorem g_is_body (T : Txt K mg w A) : ∀ n, FnOk P w K mg base CX0 (n + 5) A.f_is_body A.d_is_body P_is_body (LowSp K (sp_is_body n))
  | 0 => fn_no no_is_body
  | n + 1 => ok_is_body T ⟨g_are_parts T, mo_are_parts⟩ (by omega) ⟨g_is_body T n, mo_is_body⟩ (by omega) ⟨g_bodies T, mo_bodies⟩ (by omega) le_is_body (r_is_body A.a_LENGTHS n)
theorem g_all_steps (T : Txt K mg w A) : ∀ n, FnOk P w K mg base CX0 (n + 1) A.f_all_steps A.d_all_steps P_all_steps (LowSp K (sp_all_steps n))
  | 0 => fn_no no_all_steps
  | n + 1 => ok_all_steps T ⟨g_all_steps T n, mo_all_steps⟩ (by omega) ⟨g_bodies T, mo_bodies⟩ (by omega) le_all_steps (r_all_steps n)
theorem g_is_work (T : Txt K mg w A) (n : Nat) : FnOk P w K mg base CX0 (n + 6) A.f_is_work A.d_is_work P_is_work (LowSp K (sp_is_work n)) := ok_is_work T ⟨g_is_body T n, mo_is_body⟩ (by omega) ⟨g_all_steps T n, mo_all_steps⟩ (by omega) le_is_work (r_is_work n)
theorem g_need_program (T : Txt K mg w A) (n : Nat) : FnOk P w K mg base CX0 (n + 7) A.f_need_program A.d_need_program P_need_program (LowSp K (sp_need_program n)) := ok_need_program T ⟨g_is_work T n, mo_is_work⟩ (by omega) le_need_program (r_need_program n)
theorem g_need_work (T : Txt K mg w A) : FnOk P w K mg base CX0 1 A.f_need_work A.d_need_work P_need_work (LowSp K sp_need_work) := ok_need_work T le_need_work r_need_work
theorem g_paired (T : Txt K mg w A) : FnOk P w K mg base CX0 1 A.f_paired A.d_paired P_paired (LowSp K sp_paired) := ok_paired T le_paired r_paired
theorem g_reckoned (T : Txt K mg w A) : ∀ n, FnOk P w K mg base CX0 (n + 1) A.f_reckoned A.d_reckoned P_reckoned (LowSp K (sp_reckoned n))
  | 0 => fn_no no_reckoned
  | n + 1 => ok_reckoned T ⟨g_reckoned T n, mo_reckoned⟩ (by omega) ⟨g_paired T, mo_paired⟩ (by omega) le_reckoned (r_reckoned n)
theorem g_all_reckoned (T : Txt K mg w A) (n : Nat) : FnOk P w K mg base CX0 (n + 2) A.f_all_reckoned A.d_all_reckoned P_all_reckoned (LowSp K (sp_all_reckoned n)) := ok_all_reckoned T ⟨g_reckoned T n, mo_reckoned⟩ (by omega) le_all_reckoned (r_all_reckoned n)
theorem g_is_deed (T : Txt K mg w A) : FnOk P w K mg base CX0 1 A.f_is_deed A.d_is_deed P_is_deed (LowSp K sp_is_deed) := ok_is_deed T le_is_deed r_is_deed
theorem g_need_asked (T : Txt K mg w A) : FnOk P w K mg base CX0 2 A.f_need_asked A.d_need_asked P_need_asked (LowSp K sp_need_asked) := ok_need_asked T ⟨g_is_deed T, mo_is_deed⟩ (by omega) le_need_asked r_need_asked
theorem g_untouched (T : Txt K mg w A) : FnOk P w K mg base CX0 1 A.f_untouched A.d_untouched P_untouched (LowSp K sp_untouched) := ok_untouched T le_untouched r_untouched
theorem g_Talk_init (T : Txt K mg w A) : FnOk P w K mg base CX0 1 A.f_Talk__init_ A.d_Talk__init_ P_Talk__init_ (LowSp K (sp_Talk_init A.C_Talk)) := ok_Talk__init_ T le_Talk_init (r_Talk_init A.C_Talk)
theorem g_Talk_begins (T : Txt K mg w A) : FnOk P w K mg base CX0 1 A.f_Talk_begins A.d_Talk_begins P_Talk_begins (LowSp K (sp_Talk_begins A.C_Talk)) := ok_Talk_begins T le_Talk_begins (r_Talk_begins A.C_Talk)
theorem g_Talk_say (T : Txt K mg w A) : FnOk P w K mg base CX0 1 A.f_Talk_say A.d_Talk_say P_Talk_say (LowSp K (sp_Talk_say A.C_Talk)) := ok_Talk_say T le_Talk_say (r_Talk_say A.C_Talk)
theorem g_Talk_tell (T : Txt K mg w A) : FnOk P w K mg base CX0 1 A.f_Talk_tell A.d_Talk_tell P_Talk_tell (LowSp K (sp_Talk_tell A.C_Talk)) := ok_Talk_tell T le_Talk_tell (r_Talk_tell A.C_Talk)
theorem g_Talk_gift (T : Txt K mg w A) : FnOk P w K mg base CX0 2 A.f_Talk_gift A.d_Talk_gift P_Talk_gift (LowSp K (sp_Talk_gift A.C_Talk)) := ok_Talk_gift T ⟨g_Talk_tell T, mo_Talk_tell⟩ (by omega) le_Talk_gift (r_Talk_gift A.C_Talk)
theorem g_Talk_close (T : Txt K mg w A) : FnOk P w K mg base CX0 2 A.f_Talk_close A.d_Talk_close P_Talk_close (LowSp K (sp_Talk_close A.C_Talk)) := ok_Talk_close T ⟨g_Talk_tell T, mo_Talk_tell⟩ (by omega) le_Talk_close (r_Talk_close A.C_Talk)
theorem g_Talk_all_told (T : Txt K mg w A) : FnOk P w K mg base CX0 2 A.f_Talk_all_told A.d_Talk_all_told P_Talk_all_told (LowSp K (sp_Talk_all_told A.C_Talk)) := ok_Talk_all_told T ⟨g_untouched T, mo_untouched⟩ (by omega) le_Talk_all_told (r_Talk_all_told A.C_Talk)
theorem g_Walk_init (T : Txt K mg w A) : FnOk P w K mg base CX0 1 A.f_Walk__init_ A.d_Walk__init_ P_Walk__init_ (LowSp K (sp_Walk_init A.C_Walk)) := ok_Walk__init_ T le_Walk_init (r_Walk_init A.C_Walk)
theorem g_Walk_given (T : Txt K mg w A) : FnOk P w K mg base CX0 3 A.f_Walk_given A.d_Walk_given P_Walk_given (LowSp K (sp_Walk_given A.C_Walk A.C_Talk)) := ok_Walk_given T ⟨g_Talk_gift T, mo_Talk_gift⟩ (by omega) le_Walk_given (r_Walk_given A.C_Walk A.C_Talk)
theorem g_Walk_body (T : Txt K mg w A) : ∀ n, FnOk P w K mg base CX0 (3 * n + 10) A.f_Walk_body A.d_Walk_body P_Walk_body (LowSp K (sp_Walk_body A.C_Walk A.C_Talk n))
  | 0 => fn_no no_Walk_body
  | n + 1 => by
    have B : FnOk P w K mg base CX0 (3 * n + 10) A.f_Walk_body A.d_Walk_body P_Walk_body (LowSp K (sp_Walk_body A.C_Walk A.C_Talk n)) := g_Walk_body T n
    have R : FnOk P w K mg base CX0 (3 * n + 11) A.f_Walk_rounds A.d_Walk_rounds P_Walk_rounds (LowSp K (sp_Walk_rounds A.C_Walk A.C_Talk n)) := ok_Walk_rounds T ⟨B, mo_Walk_body⟩ (by omega) le_Walk_rounds (r_Walk_rounds A.C_Walk A.C_Talk n)
    have D : FnOk P w K mg base CX0 (3 * n + 11) A.f_Walk_tried A.d_Walk_tried P_Walk_tried (LowSp K (sp_Walk_tried A.C_Walk A.C_Talk (n + 1))) := ok_Walk_tried T ⟨B, mo_Walk_body⟩ (by omega) le_Walk_tried (r_Walk_tried A.C_Walk A.C_Talk n)
    have H : FnOk P w K mg base CX0 (3 * n + 11) A.f_Walk_handed A.d_Walk_handed P_Walk_handed (LowSp K (sp_Walk_handed A.C_Walk A.C_Talk (n + 1))) := ok_Walk_handed T ⟨g_all_reckoned T 4, mo_all_reckoned⟩ (by omega) ⟨B, mo_Walk_body⟩ (by omega) le_Walk_handed (r_Walk_handed A.C_Walk A.C_Talk n)
    have Z : FnOk P w K mg base CX0 (3 * n + 12) A.f_Walk_step A.d_Walk_step P_Walk_step (LowSp K (sp_Walk_step A.C_Walk A.C_Talk (n + 1))) := ok_Walk_step T ⟨D, mo_Walk_tried⟩ (by omega) ⟨H, mo_Walk_handed⟩ (by omega) ⟨g_reckoned T 4, mo_reckoned⟩ (by omega) ⟨B, mo_Walk_body⟩ (by omega) ⟨R, mo_Walk_rounds⟩ (by omega) ⟨g_Walk_given T, mo_Walk_given⟩ (by omega) ⟨g_Talk_say T, mo_Talk_say⟩ (by omega) le_Walk_step (r_Walk_step A.C_Walk A.C_Talk n)
    exact ok_Walk_body T ⟨Z, mo_Walk_step⟩ (by omega) le_Walk_body (r_Walk_body A.C_Walk A.C_Talk (n + 1))
theorem g_played (T : Txt K mg w A) (n m : Nat) : FnOk P w K mg base CX0 (n + 3 * m + 20) A.f_played A.d_played P_played (LowSp K (sp_played n m)) :=
  ok_played T ⟨g_need_program T n, mo_need_program⟩ (by omega) ⟨g_need_work T, mo_need_work⟩ (by omega) ⟨g_need_asked T, mo_need_asked⟩ (by omega) ⟨g_Talk_init T, mo_Talk_init⟩ (by omega) ⟨g_Talk_begins T, mo_Talk_begins⟩ (by omega) ⟨g_Walk_body T m, mo_Walk_body⟩ (by omega) ⟨g_Walk_init T, mo_Walk_init⟩ (by omega) ⟨g_Talk_close T, mo_Talk_close⟩ (by omega) ⟨g_Talk_all_told T, mo_Talk_all_told⟩ (by omega) le_played (r_played A.C_Talk A.C_Walk n m)
theorem g_law_taken (T : Txt K mg w A) : FnOk P w K mg base CX0 1 A.f_law_taken A.d_law_taken P_law_taken (LowSp K sp_law_taken) := ok_law_taken T le_law_taken r_law_taken
theorem g_law_reckoning (T : Txt K mg w A) : ∀ n, FnOk P w K mg base CX0 (n + 2) A.f_law_reckoning A.d_law_reckoning P_law_reckoning (LowSp K (sp_law_reckoning n))
  | 0 => fn_no no_law_reckoning
  | n + 1 => ok_law_reckoning T ⟨g_law_taken T, mo_law_taken⟩ (by omega) ⟨g_law_reckoning T n, mo_law_reckoning⟩ (by omega) le_law_reckoning (r_law_reckoning n)
theorem g_law_numbers (T : Txt K mg w A) : FnOk P w K mg base CX0 2 A.f_law_numbers A.d_law_numbers P_law_numbers (LowSp K sp_law_numbers) := ok_law_numbers T ⟨g_law_taken T, mo_law_taken⟩ (by omega) le_law_numbers r_law_numbers
theorem g_law_alike (T : Txt K mg w A) : ∀ n, FnOk P w K mg base CX0 n A.f_law_alike A.d_law_alike P_law_alike (LowSp K (sp_law_alike n))
  | 0 => fn_no no_law_alike
  | n + 1 => ok_law_alike T ⟨g_law_alike T n, mo_law_alike⟩ (by omega) le_law_alike (r_law_alike n)
theorem g_law_reckoned (T : Txt K mg w A) : ∀ n, FnOk P w K mg base CX0 n A.f_law_reckoned A.d_law_reckoned P_law_reckoned (LowSp K (sp_law_reckoned n))
  | 0 => fn_no no_law_reckoned
  | n + 1 => ok_law_reckoned T ⟨g_law_reckoned T n, mo_law_reckoned⟩ (by omega) le_law_reckoned (r_law_reckoned n)
theorem g_law_deeds (T : Txt K mg w A) : FnOk P w K mg base CX0 2 A.f_law_deeds A.d_law_deeds P_law_deeds (LowSp K sp_law_deeds) := ok_law_deeds T ⟨g_law_taken T, mo_law_taken⟩ (by omega) le_law_deeds r_law_deeds
theorem g_law_steps (T : Txt K mg w A) : FnOk P w K mg base CX0 7 A.f_law_steps A.d_law_steps P_law_steps (LowSp K sp_law_steps) := ok_law_steps T ⟨g_law_reckoning T 4, mo_law_reckoning⟩ (by omega) ⟨g_law_taken T, mo_law_taken⟩ (by omega) le_law_steps r_law_steps
theorem g_law_gone (T : Txt K mg w A) : FnOk P w K mg base CX0 5 A.f_law_gone A.d_law_gone P_law_gone (LowSp K sp_law_gone) := ok_law_gone T ⟨g_law_reckoned T 4, mo_law_reckoned⟩ (by omega) le_law_gone r_law_gone
theorem g_law_over (T : Txt K mg w A) : FnOk P w K mg base CX0 1 A.f_law_over A.d_law_over P_law_over (LowSp K sp_law_over) := ok_law_over T le_law_over r_law_over
theorem g_law (T : Txt K mg w A) : FnOk P w K mg base CX0 30 A.f_law A.d_law P_law (LowSp K sp_law) :=
  ok_law T ⟨g_law_taken T, mo_law_taken⟩ (by omega) ⟨g_law_steps T, mo_law_steps⟩ (by omega) ⟨g_law_numbers T, mo_law_numbers⟩ (by omega) ⟨g_law_deeds T, mo_law_deeds⟩ (by omega) ⟨g_law_gone T, mo_law_gone⟩ (by omega) ⟨g_law_over T, mo_law_over⟩ (by omega) ⟨g_law_alike T 20, mo_law_alike⟩ (by omega) ⟨g_played T 1 1, mo_played⟩ (by omega) le_law r_law
end
end WL.K3

namespace WL.K3
open PySem L2
theorem all_mk {l : PySem.W.OpenLaw} {w : World} {K : PySem.W.Frag} {h : Heap} {mg : Str → Option Value} {fa : Addr} (X : K.In h) (G : h.Ns mainGlobals mg) (hfa : mg "law" = some (.ref fa))
    {C_Talk C_Walk f_is_reckoning f_bodies f_is_kept f_are_parts f_is_body f_all_steps f_is_work f_need_program f_need_work f_paired f_reckoned f_all_reckoned f_is_deed f_need_asked f_untouched f_Talk__init_ f_Talk_begins f_Talk_say f_Talk_tell f_Talk_gift f_Talk_close f_Talk_all_told f_Walk__init_ f_Walk_body f_Walk_step f_Walk_rounds f_Walk_given f_Walk_handed f_Walk_tried f_played f_law_taken f_law_reckoning f_law_numbers f_law_alike f_law_reckoned f_law_deeds f_law_steps f_law_gone f_law_over f_law a_LENGTHS a_PAIRS : Addr}
    {i_MOST_WORKS i_MOST_SLOTS i_MOST_PARAMS i_MOST_STEPS i_MOST_WITHIN i_MOST_DEEP i_LIMIT : Tok}
    {od_is_reckoning an_is_reckoning : Option Addr} {sl_is_reckoning : Array (Option Value)} {oc_is_reckoning kv_is_reckoning dc_is_reckoning pm_is_reckoning cd_is_reckoning ct_is_reckoning : Value}
    {od_bodies an_bodies : Option Addr} {sl_bodies : Array (Option Value)} {oc_bodies kv_bodies dc_bodies pm_bodies cd_bodies ct_bodies : Value}
    {od_is_kept an_is_kept : Option Addr} {sl_is_kept : Array (Option Value)} {oc_is_kept kv_is_kept dc_is_kept pm_is_kept cd_is_kept ct_is_kept : Value}
    {od_are_parts an_are_parts : Option Addr} {sl_are_parts : Array (Option Value)} {oc_are_parts kv_are_parts dc_are_parts pm_are_parts cd_are_parts ct_are_parts : Value}
    {od_is_body an_is_body : Option Addr} {sl_is_body : Array (Option Value)} {oc_is_body kv_is_body dc_is_body pm_is_body cd_is_body ct_is_body : Value}
    {od_all_steps an_all_steps : Option Addr} {sl_all_steps : Array (Option Value)} {oc_all_steps kv_all_steps dc_all_steps pm_all_steps cd_all_steps ct_all_steps : Value}
    {od_is_work an_is_work : Option Addr} {sl_is_work : Array (Option Value)} {oc_is_work kv_is_work dc_is_work pm_is_work cd_is_work ct_is_work : Value}
    {od_need_program an_need_program : Option Addr} {sl_need_program : Array (Option Value)} {oc_need_program kv_need_program dc_need_program pm_need_program cd_need_program ct_need_program : Value}
    {od_need_work an_need_work : Option Addr} {sl_need_work : Array (Option Value)} {oc_need_work kv_need_work dc_need_work pm_need_work cd_need_work ct_need_work : Value}
    {od_paired an_paired : Option Addr} {sl_paired : Array (Option Value)} {oc_paired kv_paired dc_paired pm_paired cd_paired ct_paired : Value}
    {od_reckoned an_reckoned : Option Addr} {sl_reckoned : Array (Option Value)} {oc_reckoned kv_reckoned dc_reckoned pm_reckoned cd_reckoned ct_reckoned : Value}
    {od_all_reckoned an_all_reckoned : Option Addr} {sl_all_reckoned : Array (Option Value)} {oc_all_reckoned kv_all_reckoned dc_all_reckoned pm_all_reckoned cd_all_reckoned ct_all_reckoned : Value}
    {od_is_deed an_is_deed : Option Addr} {sl_is_deed : Array (Option Value)} {oc_is_deed kv_is_deed dc_is_deed pm_is_deed cd_is_deed ct_is_deed : Value}
    {od_need_asked an_need_asked : Option Addr} {sl_need_asked : Array (Option Value)} {oc_need_asked kv_need_asked dc_need_asked pm_need_asked cd_need_asked ct_need_asked : Value}
    {od_untouched an_untouched : Option Addr} {sl_untouched : Array (Option Value)} {oc_untouched kv_untouched dc_untouched pm_untouched cd_untouched ct_untouched : Value}
    {od_Talk__init_ an_Talk__init_ : Option Addr} {sl_Talk__init_ : Array (Option Value)} {oc_Talk__init_ kv_Talk__init_ dc_Talk__init_ pm_Talk__init_ cd_Talk__init_ ct_Talk__init_ : Value}
    {od_Talk_begins an_Talk_begins : Option Addr} {sl_Talk_begins : Array (Option Value)} {oc_Talk_begins kv_Talk_begins dc_Talk_begins pm_Talk_begins cd_Talk_begins ct_Talk_begins : Value}
    {od_Talk_say an_Talk_say : Option Addr} {sl_Talk_say : Array (Option Value)} {oc_Talk_say kv_Talk_say dc_Talk_say pm_Talk_say cd_Talk_say ct_Talk_say : Value}
    {od_Talk_tell an_Talk_tell : Option Addr} {sl_Talk_tell : Array (Option Value)} {oc_Talk_tell kv_Talk_tell dc_Talk_tell pm_Talk_tell cd_Talk_tell ct_Talk_tell : Value}
    {od_Talk_gift an_Talk_gift : Option Addr} {sl_Talk_gift : Array (Option Value)} {oc_Talk_gift kv_Talk_gift dc_Talk_gift pm_Talk_gift cd_Talk_gift ct_Talk_gift : Value}
    {od_Talk_close an_Talk_close : Option Addr} {sl_Talk_close : Array (Option Value)} {oc_Talk_close kv_Talk_close dc_Talk_close pm_Talk_close cd_Talk_close ct_Talk_close : Value}
    {od_Talk_all_told an_Talk_all_told : Option Addr} {sl_Talk_all_told : Array (Option Value)} {oc_Talk_all_told kv_Talk_all_told dc_Talk_all_told pm_Talk_all_told cd_Talk_all_told ct_Talk_all_told : Value}
    {od_Walk__init_ an_Walk__init_ : Option Addr} {sl_Walk__init_ : Array (Option Value)} {oc_Walk__init_ kv_Walk__init_ dc_Walk__init_ pm_Walk__init_ cd_Walk__init_ ct_Walk__init_ : Value}
    {od_Walk_body an_Walk_body : Option Addr} {sl_Walk_body : Array (Option Value)} {oc_Walk_body kv_Walk_body dc_Walk_body pm_Walk_body cd_Walk_body ct_Walk_body : Value}
    {od_Walk_step an_Walk_step : Option Addr} {sl_Walk_step : Array (Option Value)} {oc_Walk_step kv_Walk_step dc_Walk_step pm_Walk_step cd_Walk_step ct_Walk_step : Value}
    {od_Walk_rounds an_Walk_rounds : Option Addr} {sl_Walk_rounds : Array (Option Value)} {oc_Walk_rounds kv_Walk_rounds dc_Walk_rounds pm_Walk_rounds cd_Walk_rounds ct_Walk_rounds : Value}
    {od_Walk_given an_Walk_given : Option Addr} {sl_Walk_given : Array (Option Value)} {oc_Walk_given kv_Walk_given dc_Walk_given pm_Walk_given cd_Walk_given ct_Walk_given : Value}
    {od_Walk_handed an_Walk_handed : Option Addr} {sl_Walk_handed : Array (Option Value)} {oc_Walk_handed kv_Walk_handed dc_Walk_handed pm_Walk_handed cd_Walk_handed ct_Walk_handed : Value}
    {od_Walk_tried an_Walk_tried : Option Addr} {sl_Walk_tried : Array (Option Value)} {oc_Walk_tried kv_Walk_tried dc_Walk_tried pm_Walk_tried cd_Walk_tried ct_Walk_tried : Value}
    {od_played an_played : Option Addr} {sl_played : Array (Option Value)} {oc_played kv_played dc_played pm_played cd_played ct_played : Value}
    {od_law_taken an_law_taken : Option Addr} {sl_law_taken : Array (Option Value)} {oc_law_taken kv_law_taken dc_law_taken pm_law_taken cd_law_taken ct_law_taken : Value}
    {od_law_reckoning an_law_reckoning : Option Addr} {sl_law_reckoning : Array (Option Value)} {oc_law_reckoning kv_law_reckoning dc_law_reckoning pm_law_reckoning cd_law_reckoning ct_law_reckoning : Value}
    {od_law_numbers an_law_numbers : Option Addr} {sl_law_numbers : Array (Option Value)} {oc_law_numbers kv_law_numbers dc_law_numbers pm_law_numbers cd_law_numbers ct_law_numbers : Value}
    {od_law_alike an_law_alike : Option Addr} {sl_law_alike : Array (Option Value)} {oc_law_alike kv_law_alike dc_law_alike pm_law_alike cd_law_alike ct_law_alike : Value}
    {od_law_reckoned an_law_reckoned : Option Addr} {sl_law_reckoned : Array (Option Value)} {oc_law_reckoned kv_law_reckoned dc_law_reckoned pm_law_reckoned cd_law_reckoned ct_law_reckoned : Value}
    {od_law_deeds an_law_deeds : Option Addr} {sl_law_deeds : Array (Option Value)} {oc_law_deeds kv_law_deeds dc_law_deeds pm_law_deeds cd_law_deeds ct_law_deeds : Value}
    {od_law_steps an_law_steps : Option Addr} {sl_law_steps : Array (Option Value)} {oc_law_steps kv_law_steps dc_law_steps pm_law_steps cd_law_steps ct_law_steps : Value}
    {od_law_gone an_law_gone : Option Addr} {sl_law_gone : Array (Option Value)} {oc_law_gone kv_law_gone dc_law_gone pm_law_gone cd_law_gone ct_law_gone : Value}
    {od_law_over an_law_over : Option Addr} {sl_law_over : Array (Option Value)} {oc_law_over kv_law_over dc_law_over pm_law_over cd_law_over ct_law_over : Value}
    {od_law an_law : Option Addr} {sl_law : Array (Option Value)} {oc_law kv_law dc_law pm_law cd_law ct_law : Value}
    {t_PAIRS_0 t_PAIRS_1 t_PAIRS_2 t_PAIRS_3 t_PAIRS_4 t_PAIRS_5 : Tok} {n_PAIRS : Nat} {od_PAIRS : Option Addr} {sl_PAIRS : Array (Option Value)}
    {h_LENGTHS_0 h_LENGTHS_1 h_LENGTHS_2 h_LENGTHS_3 h_LENGTHS_4 h_LENGTHS_5 h_LENGTHS_6 h_LENGTHS_7 h_LENGTHS_8 h_LENGTHS_9 : Int} {t_LENGTHS_0 v_LENGTHS_0 t_LENGTHS_1 v_LENGTHS_1 t_LENGTHS_2 v_LENGTHS_2 t_LENGTHS_3 v_LENGTHS_3 t_LENGTHS_4 v_LENGTHS_4 t_LENGTHS_5 v_LENGTHS_5 t_LENGTHS_6 v_LENGTHS_6 t_LENGTHS_7 v_LENGTHS_7 t_LENGTHS_8 v_LENGTHS_8 t_LENGTHS_9 v_LENGTHS_9 : Tok} {n_LENGTHS : Nat}
    (aC_Talk : PySem.W.nsIn K mainGlobals "Talk" = some (some (.ref C_Talk)))
    (aC_Walk : PySem.W.nsIn K mainGlobals "Walk" = some (some (.ref C_Walk)))
    (a_is_reckoning : PySem.W.nsIn K mainGlobals "is_reckoning" = some (some (.ref f_is_reckoning)))
    (l_is_reckoning : K.lookup f_is_reckoning = some ⟨oc_is_reckoning, od_is_reckoning, .func (PySem.W.fnOf "is_reckoning" "is_reckoning" (defArgs s_is_reckoning) (defBody s_is_reckoning) (defScope s_is_reckoning) .none kv_is_reckoning dc_is_reckoning pm_is_reckoning an_is_reckoning cd_is_reckoning ct_is_reckoning), sl_is_reckoning⟩)
    (c_is_reckoning : PySem.W.codeIn K cd_is_reckoning "is_reckoning" = true)
    (k_is_reckoning : PySem.W.keepIn K (.ref f_is_reckoning) = true)
    (a_bodies : PySem.W.nsIn K mainGlobals "bodies" = some (some (.ref f_bodies)))
    (l_bodies : K.lookup f_bodies = some ⟨oc_bodies, od_bodies, .func (PySem.W.fnOf "bodies" "bodies" (defArgs s_bodies) (defBody s_bodies) (defScope s_bodies) .none kv_bodies dc_bodies pm_bodies an_bodies cd_bodies ct_bodies), sl_bodies⟩)
    (c_bodies : PySem.W.codeIn K cd_bodies "bodies" = true)
    (k_bodies : PySem.W.keepIn K (.ref f_bodies) = true)
    (a_is_kept : PySem.W.nsIn K mainGlobals "is_kept" = some (some (.ref f_is_kept)))
    (l_is_kept : K.lookup f_is_kept = some ⟨oc_is_kept, od_is_kept, .func (PySem.W.fnOf "is_kept" "is_kept" (defArgs s_is_kept) (defBody s_is_kept) (defScope s_is_kept) .none kv_is_kept dc_is_kept pm_is_kept an_is_kept cd_is_kept ct_is_kept), sl_is_kept⟩)
    (c_is_kept : PySem.W.codeIn K cd_is_kept "is_kept" = true)
    (k_is_kept : PySem.W.keepIn K (.ref f_is_kept) = true)
    (a_are_parts : PySem.W.nsIn K mainGlobals "are_parts" = some (some (.ref f_are_parts)))
    (l_are_parts : K.lookup f_are_parts = some ⟨oc_are_parts, od_are_parts, .func (PySem.W.fnOf "are_parts" "are_parts" (defArgs s_are_parts) (defBody s_are_parts) (defScope s_are_parts) .none kv_are_parts dc_are_parts pm_are_parts an_are_parts cd_are_parts ct_are_parts), sl_are_parts⟩)
    (c_are_parts : PySem.W.codeIn K cd_are_parts "are_parts" = true)
    (k_are_parts : PySem.W.keepIn K (.ref f_are_parts) = true)
    (a_is_body : PySem.W.nsIn K mainGlobals "is_body" = some (some (.ref f_is_body)))
    (l_is_body : K.lookup f_is_body = some ⟨oc_is_body, od_is_body, .func (PySem.W.fnOf "is_body" "is_body" (defArgs s_is_body) (defBody s_is_body) (defScope s_is_body) .none kv_is_body dc_is_body pm_is_body an_is_body cd_is_body ct_is_body), sl_is_body⟩)
    (c_is_body : PySem.W.codeIn K cd_is_body "is_body" = true)
    (k_is_body : PySem.W.keepIn K (.ref f_is_body) = true)
    (a_all_steps : PySem.W.nsIn K mainGlobals "all_steps" = some (some (.ref f_all_steps)))
    (l_all_steps : K.lookup f_all_steps = some ⟨oc_all_steps, od_all_steps, .func (PySem.W.fnOf "all_steps" "all_steps" (defArgs s_all_steps) (defBody s_all_steps) (defScope s_all_steps) .none kv_all_steps dc_all_steps pm_all_steps an_all_steps cd_all_steps ct_all_steps), sl_all_steps⟩)
    (c_all_steps : PySem.W.codeIn K cd_all_steps "all_steps" = true)
    (k_all_steps : PySem.W.keepIn K (.ref f_all_steps) = true)
    (a_is_work : PySem.W.nsIn K mainGlobals "is_work" = some (some (.ref f_is_work)))
    (l_is_work : K.lookup f_is_work = some ⟨oc_is_work, od_is_work, .func (PySem.W.fnOf "is_work" "is_work" (defArgs s_is_work) (defBody s_is_work) (defScope s_is_work) .none kv_is_work dc_is_work pm_is_work an_is_work cd_is_work ct_is_work), sl_is_work⟩)
    (c_is_work : PySem.W.codeIn K cd_is_work "is_work" = true)
    (k_is_work : PySem.W.keepIn K (.ref f_is_work) = true)
    (a_need_program : PySem.W.nsIn K mainGlobals "need_program" = some (some (.ref f_need_program)))
    (l_need_program : K.lookup f_need_program = some ⟨oc_need_program, od_need_program, .func (PySem.W.fnOf "need_program" "need_program" (defArgs s_need_program) (defBody s_need_program) (defScope s_need_program) .none kv_need_program dc_need_program pm_need_program an_need_program cd_need_program ct_need_program), sl_need_program⟩)
    (c_need_program : PySem.W.codeIn K cd_need_program "need_program" = true)
    (k_need_program : PySem.W.keepIn K (.ref f_need_program) = true)
    (a_need_work : PySem.W.nsIn K mainGlobals "need_work" = some (some (.ref f_need_work)))
    (l_need_work : K.lookup f_need_work = some ⟨oc_need_work, od_need_work, .func (PySem.W.fnOf "need_work" "need_work" (defArgs s_need_work) (defBody s_need_work) (defScope s_need_work) .none kv_need_work dc_need_work pm_need_work an_need_work cd_need_work ct_need_work), sl_need_work⟩)
    (c_need_work : PySem.W.codeIn K cd_need_work "need_work" = true)
    (k_need_work : PySem.W.keepIn K (.ref f_need_work) = true)
    (a_paired : PySem.W.nsIn K mainGlobals "paired" = some (some (.ref f_paired)))
    (l_paired : K.lookup f_paired = some ⟨oc_paired, od_paired, .func (PySem.W.fnOf "paired" "paired" (defArgs s_paired) (defBody s_paired) (defScope s_paired) .none kv_paired dc_paired pm_paired an_paired cd_paired ct_paired), sl_paired⟩)
    (c_paired : PySem.W.codeIn K cd_paired "paired" = true)
    (k_paired : PySem.W.keepIn K (.ref f_paired) = true)
    (a_reckoned : PySem.W.nsIn K mainGlobals "reckoned" = some (some (.ref f_reckoned)))
    (l_reckoned : K.lookup f_reckoned = some ⟨oc_reckoned, od_reckoned, .func (PySem.W.fnOf "reckoned" "reckoned" (defArgs s_reckoned) (defBody s_reckoned) (defScope s_reckoned) .none kv_reckoned dc_reckoned pm_reckoned an_reckoned cd_reckoned ct_reckoned), sl_reckoned⟩)
    (c_reckoned : PySem.W.codeIn K cd_reckoned "reckoned" = true)
    (k_reckoned : PySem.W.keepIn K (.ref f_reckoned) = true)
    (a_all_reckoned : PySem.W.nsIn K mainGlobals "all_reckoned" = some (some (.ref f_all_reckoned)))
    (l_all_reckoned : K.lookup f_all_reckoned = some ⟨oc_all_reckoned, od_all_reckoned, .func (PySem.W.fnOf "all_reckoned" "all_reckoned" (defArgs s_all_reckoned) (defBody s_all_reckoned) (defScope s_all_reckoned) .none kv_all_reckoned dc_all_reckoned pm_all_reckoned an_all_reckoned cd_all_reckoned ct_all_reckoned), sl_all_reckoned⟩)
    (c_all_reckoned : PySem.W.codeIn K cd_all_reckoned "all_reckoned" = true)
    (k_all_reckoned : PySem.W.keepIn K (.ref f_all_reckoned) = true)
    (a_is_deed : PySem.W.nsIn K mainGlobals "is_deed" = some (some (.ref f_is_deed)))
    (l_is_deed : K.lookup f_is_deed = some ⟨oc_is_deed, od_is_deed, .func (PySem.W.fnOf "is_deed" "is_deed" (defArgs s_is_deed) (defBody s_is_deed) (defScope s_is_deed) .none kv_is_deed dc_is_deed pm_is_deed an_is_deed cd_is_deed ct_is_deed), sl_is_deed⟩)
    (c_is_deed : PySem.W.codeIn K cd_is_deed "is_deed" = true)
    (k_is_deed : PySem.W.keepIn K (.ref f_is_deed) = true)
    (a_need_asked : PySem.W.nsIn K mainGlobals "need_asked" = some (some (.ref f_need_asked)))
    (l_need_asked : K.lookup f_need_asked = some ⟨oc_need_asked, od_need_asked, .func (PySem.W.fnOf "need_asked" "need_asked" (defArgs s_need_asked) (defBody s_need_asked) (defScope s_need_asked) .none kv_need_asked dc_need_asked pm_need_asked an_need_asked cd_need_asked ct_need_asked), sl_need_asked⟩)
    (c_need_asked : PySem.W.codeIn K cd_need_asked "need_asked" = true)
    (k_need_asked : PySem.W.keepIn K (.ref f_need_asked) = true)
    (a_untouched : PySem.W.nsIn K mainGlobals "untouched" = some (some (.ref f_untouched)))
    (l_untouched : K.lookup f_untouched = some ⟨oc_untouched, od_untouched, .func (PySem.W.fnOf "untouched" "untouched" (defArgs s_untouched) (defBody s_untouched) (defScope s_untouched) .none kv_untouched dc_untouched pm_untouched an_untouched cd_untouched ct_untouched), sl_untouched⟩)
    (c_untouched : PySem.W.codeIn K cd_untouched "untouched" = true)
    (k_untouched : PySem.W.keepIn K (.ref f_untouched) = true)
    (a_Talk__init_ : PySem.W.findIn K (.ref C_Talk) "__init__" = some (some (.ref f_Talk__init_)))
    (is_Talk__init_ : PySem.W.isFn K (.ref f_Talk__init_) = true)
    (l_Talk__init_ : K.lookup f_Talk__init_ = some ⟨oc_Talk__init_, od_Talk__init_, .func (PySem.W.fnOf "__init__" "Talk.__init__" (defArgs s_Talk__init_) (defBody s_Talk__init_) (defScope s_Talk__init_) .none kv_Talk__init_ dc_Talk__init_ pm_Talk__init_ an_Talk__init_ cd_Talk__init_ ct_Talk__init_), sl_Talk__init_⟩)
    (c_Talk__init_ : PySem.W.codeIn K cd_Talk__init_ "Talk.__init__" = true)
    (k_Talk__init_ : PySem.W.keepIn K (.ref f_Talk__init_) = true)
    (a_Talk_begins : PySem.W.findIn K (.ref C_Talk) "begins" = some (some (.ref f_Talk_begins)))
    (is_Talk_begins : PySem.W.isFn K (.ref f_Talk_begins) = true)
    (l_Talk_begins : K.lookup f_Talk_begins = some ⟨oc_Talk_begins, od_Talk_begins, .func (PySem.W.fnOf "begins" "Talk.begins" (defArgs s_Talk_begins) (defBody s_Talk_begins) (defScope s_Talk_begins) .none kv_Talk_begins dc_Talk_begins pm_Talk_begins an_Talk_begins cd_Talk_begins ct_Talk_begins), sl_Talk_begins⟩)
    (c_Talk_begins : PySem.W.codeIn K cd_Talk_begins "Talk.begins" = true)
    (k_Talk_begins : PySem.W.keepIn K (.ref f_Talk_begins) = true)
    (a_Talk_say : PySem.W.findIn K (.ref C_Talk) "say" = some (some (.ref f_Talk_say)))
    (is_Talk_say : PySem.W.isFn K (.ref f_Talk_say) = true)
    (l_Talk_say : K.lookup f_Talk_say = some ⟨oc_Talk_say, od_Talk_say, .func (PySem.W.fnOf "say" "Talk.say" (defArgs s_Talk_say) (defBody s_Talk_say) (defScope s_Talk_say) .none kv_Talk_say dc_Talk_say pm_Talk_say an_Talk_say cd_Talk_say ct_Talk_say), sl_Talk_say⟩)
    (c_Talk_say : PySem.W.codeIn K cd_Talk_say "Talk.say" = true)
    (k_Talk_say : PySem.W.keepIn K (.ref f_Talk_say) = true)
    (a_Talk_tell : PySem.W.findIn K (.ref C_Talk) "tell" = some (some (.ref f_Talk_tell)))
    (is_Talk_tell : PySem.W.isFn K (.ref f_Talk_tell) = true)
    (l_Talk_tell : K.lookup f_Talk_tell = some ⟨oc_Talk_tell, od_Talk_tell, .func (PySem.W.fnOf "tell" "Talk.tell" (defArgs s_Talk_tell) (defBody s_Talk_tell) (defScope s_Talk_tell) .none kv_Talk_tell dc_Talk_tell pm_Talk_tell an_Talk_tell cd_Talk_tell ct_Talk_tell), sl_Talk_tell⟩)
    (c_Talk_tell : PySem.W.codeIn K cd_Talk_tell "Talk.tell" = true)
    (k_Talk_tell : PySem.W.keepIn K (.ref f_Talk_tell) = true)
    (a_Talk_gift : PySem.W.findIn K (.ref C_Talk) "gift" = some (some (.ref f_Talk_gift)))
    (is_Talk_gift : PySem.W.isFn K (.ref f_Talk_gift) = true)
    (l_Talk_gift : K.lookup f_Talk_gift = some ⟨oc_Talk_gift, od_Talk_gift, .func (PySem.W.fnOf "gift" "Talk.gift" (defArgs s_Talk_gift) (defBody s_Talk_gift) (defScope s_Talk_gift) .none kv_Talk_gift dc_Talk_gift pm_Talk_gift an_Talk_gift cd_Talk_gift ct_Talk_gift), sl_Talk_gift⟩)
    (c_Talk_gift : PySem.W.codeIn K cd_Talk_gift "Talk.gift" = true)
    (k_Talk_gift : PySem.W.keepIn K (.ref f_Talk_gift) = true)
    (a_Talk_close : PySem.W.findIn K (.ref C_Talk) "close" = some (some (.ref f_Talk_close)))
    (is_Talk_close : PySem.W.isFn K (.ref f_Talk_close) = true)
    (l_Talk_close : K.lookup f_Talk_close = some ⟨oc_Talk_close, od_Talk_close, .func (PySem.W.fnOf "close" "Talk.close" (defArgs s_Talk_close) (defBody s_Talk_close) (defScope s_Talk_close) .none kv_Talk_close dc_Talk_close pm_Talk_close an_Talk_close cd_Talk_close ct_Talk_close), sl_Talk_close⟩)
    (c_Talk_close : PySem.W.codeIn K cd_Talk_close "Talk.close" = true)
    (k_Talk_close : PySem.W.keepIn K (.ref f_Talk_close) = true)
    (a_Talk_all_told : PySem.W.findIn K (.ref C_Talk) "all_told" = some (some (.ref f_Talk_all_told)))
    (is_Talk_all_told : PySem.W.isFn K (.ref f_Talk_all_told) = true)
    (l_Talk_all_told : K.lookup f_Talk_all_told = some ⟨oc_Talk_all_told, od_Talk_all_told, .func (PySem.W.fnOf "all_told" "Talk.all_told" (defArgs s_Talk_all_told) (defBody s_Talk_all_told) (defScope s_Talk_all_told) .none kv_Talk_all_told dc_Talk_all_told pm_Talk_all_told an_Talk_all_told cd_Talk_all_told ct_Talk_all_told), sl_Talk_all_told⟩)
    (c_Talk_all_told : PySem.W.codeIn K cd_Talk_all_told "Talk.all_told" = true)
    (k_Talk_all_told : PySem.W.keepIn K (.ref f_Talk_all_told) = true)
    (a_Walk__init_ : PySem.W.findIn K (.ref C_Walk) "__init__" = some (some (.ref f_Walk__init_)))
    (is_Walk__init_ : PySem.W.isFn K (.ref f_Walk__init_) = true)
    (l_Walk__init_ : K.lookup f_Walk__init_ = some ⟨oc_Walk__init_, od_Walk__init_, .func (PySem.W.fnOf "__init__" "Walk.__init__" (defArgs s_Walk__init_) (defBody s_Walk__init_) (defScope s_Walk__init_) .none kv_Walk__init_ dc_Walk__init_ pm_Walk__init_ an_Walk__init_ cd_Walk__init_ ct_Walk__init_), sl_Walk__init_⟩)
    (c_Walk__init_ : PySem.W.codeIn K cd_Walk__init_ "Walk.__init__" = true)
    (k_Walk__init_ : PySem.W.keepIn K (.ref f_Walk__init_) = true)
    (a_Walk_body : PySem.W.findIn K (.ref C_Walk) "body" = some (some (.ref f_Walk_body)))
    (is_Walk_body : PySem.W.isFn K (.ref f_Walk_body) = true)
    (l_Walk_body : K.lookup f_Walk_body = some ⟨oc_Walk_body, od_Walk_body, .func (PySem.W.fnOf "body" "Walk.body" (defArgs s_Walk_body) (defBody s_Walk_body) (defScope s_Walk_body) .none kv_Walk_body dc_Walk_body pm_Walk_body an_Walk_body cd_Walk_body ct_Walk_body), sl_Walk_body⟩)
    (c_Walk_body : PySem.W.codeIn K cd_Walk_body "Walk.body" = true)
    (k_Walk_body : PySem.W.keepIn K (.ref f_Walk_body) = true)
    (a_Walk_step : PySem.W.findIn K (.ref C_Walk) "step" = some (some (.ref f_Walk_step)))
    (is_Walk_step : PySem.W.isFn K (.ref f_Walk_step) = true)
    (l_Walk_step : K.lookup f_Walk_step = some ⟨oc_Walk_step, od_Walk_step, .func (PySem.W.fnOf "step" "Walk.step" (defArgs s_Walk_step) (defBody s_Walk_step) (defScope s_Walk_step) .none kv_Walk_step dc_Walk_step pm_Walk_step an_Walk_step cd_Walk_step ct_Walk_step), sl_Walk_step⟩)
    (c_Walk_step : PySem.W.codeIn K cd_Walk_step "Walk.step" = true)
    (k_Walk_step : PySem.W.keepIn K (.ref f_Walk_step) = true)
    (a_Walk_rounds : PySem.W.findIn K (.ref C_Walk) "rounds" = some (some (.ref f_Walk_rounds)))
    (is_Walk_rounds : PySem.W.isFn K (.ref f_Walk_rounds) = true)
    (l_Walk_rounds : K.lookup f_Walk_rounds = some ⟨oc_Walk_rounds, od_Walk_rounds, .func (PySem.W.fnOf "rounds" "Walk.rounds" (defArgs s_Walk_rounds) (defBody s_Walk_rounds) (defScope s_Walk_rounds) .none kv_Walk_rounds dc_Walk_rounds pm_Walk_rounds an_Walk_rounds cd_Walk_rounds ct_Walk_rounds), sl_Walk_rounds⟩)
    (c_Walk_rounds : PySem.W.codeIn K cd_Walk_rounds "Walk.rounds" = true)
    (k_Walk_rounds : PySem.W.keepIn K (.ref f_Walk_rounds) = true)
    (a_Walk_given : PySem.W.findIn K (.ref C_Walk) "given" = some (some (.ref f_Walk_given)))
    (is_Walk_given : PySem.W.isFn K (.ref f_Walk_given) = true)
    (l_Walk_given : K.lookup f_Walk_given = some ⟨oc_Walk_given, od_Walk_given, .func (PySem.W.fnOf "given" "Walk.given" (defArgs s_Walk_given) (defBody s_Walk_given) (defScope s_Walk_given) .none kv_Walk_given dc_Walk_given pm_Walk_given an_Walk_given cd_Walk_given ct_Walk_given), sl_Walk_given⟩)
    (c_Walk_given : PySem.W.codeIn K cd_Walk_given "Walk.given" = true)
    (k_Walk_given : PySem.W.keepIn K (.ref f_Walk_given) = true)
    (a_Walk_handed : PySem.W.findIn K (.ref C_Walk) "handed" = some (some (.ref f_Walk_handed)))
    (is_Walk_handed : PySem.W.isFn K (.ref f_Walk_handed) = true)
    (l_Walk_handed : K.lookup f_Walk_handed = some ⟨oc_Walk_handed, od_Walk_handed, .func (PySem.W.fnOf "handed" "Walk.handed" (defArgs s_Walk_handed) (defBody s_Walk_handed) (defScope s_Walk_handed) .none kv_Walk_handed dc_Walk_handed pm_Walk_handed an_Walk_handed cd_Walk_handed ct_Walk_handed), sl_Walk_handed⟩)
    (c_Walk_handed : PySem.W.codeIn K cd_Walk_handed "Walk.handed" = true)
    (k_Walk_handed : PySem.W.keepIn K (.ref f_Walk_handed) = true)
    (a_Walk_tried : PySem.W.findIn K (.ref C_Walk) "tried" = some (some (.ref f_Walk_tried)))
    (is_Walk_tried : PySem.W.isFn K (.ref f_Walk_tried) = true)
    (l_Walk_tried : K.lookup f_Walk_tried = some ⟨oc_Walk_tried, od_Walk_tried, .func (PySem.W.fnOf "tried" "Walk.tried" (defArgs s_Walk_tried) (defBody s_Walk_tried) (defScope s_Walk_tried) .none kv_Walk_tried dc_Walk_tried pm_Walk_tried an_Walk_tried cd_Walk_tried ct_Walk_tried), sl_Walk_tried⟩)
    (c_Walk_tried : PySem.W.codeIn K cd_Walk_tried "Walk.tried" = true)
    (k_Walk_tried : PySem.W.keepIn K (.ref f_Walk_tried) = true)
    (a_played : PySem.W.nsIn K mainGlobals "played" = some (some (.ref f_played)))
    (l_played : K.lookup f_played = some ⟨oc_played, od_played, .func (PySem.W.fnOf "played" "played" (defArgs s_played) (defBody s_played) (defScope s_played) .none kv_played dc_played pm_played an_played cd_played ct_played), sl_played⟩)
    (c_played : PySem.W.codeIn K cd_played "played" = true)
    (k_played : PySem.W.keepIn K (.ref f_played) = true)
    (a_law_taken : PySem.W.nsIn K mainGlobals "_law_taken" = some (some (.ref f_law_taken)))
    (l_law_taken : K.lookup f_law_taken = some ⟨oc_law_taken, od_law_taken, .func (PySem.W.fnOf "_law_taken" "_law_taken" (defArgs s_law_taken) (defBody s_law_taken) (defScope s_law_taken) .none kv_law_taken dc_law_taken pm_law_taken an_law_taken cd_law_taken ct_law_taken), sl_law_taken⟩)
    (c_law_taken : PySem.W.codeIn K cd_law_taken "_law_taken" = true)
    (k_law_taken : PySem.W.keepIn K (.ref f_law_taken) = true)
    (a_law_reckoning : PySem.W.nsIn K mainGlobals "_law_reckoning" = some (some (.ref f_law_reckoning)))
    (l_law_reckoning : K.lookup f_law_reckoning = some ⟨oc_law_reckoning, od_law_reckoning, .func (PySem.W.fnOf "_law_reckoning" "_law_reckoning" (defArgs s_law_reckoning) (defBody s_law_reckoning) (defScope s_law_reckoning) .none kv_law_reckoning dc_law_reckoning pm_law_reckoning an_law_reckoning cd_law_reckoning ct_law_reckoning), sl_law_reckoning⟩)
    (c_law_reckoning : PySem.W.codeIn K cd_law_reckoning "_law_reckoning" = true)
    (k_law_reckoning : PySem.W.keepIn K (.ref f_law_reckoning) = true)
    (a_law_numbers : PySem.W.nsIn K mainGlobals "_law_numbers" = some (some (.ref f_law_numbers)))
    (l_law_numbers : K.lookup f_law_numbers = some ⟨oc_law_numbers, od_law_numbers, .func (PySem.W.fnOf "_law_numbers" "_law_numbers" (defArgs s_law_numbers) (defBody s_law_numbers) (defScope s_law_numbers) .none kv_law_numbers dc_law_numbers pm_law_numbers an_law_numbers cd_law_numbers ct_law_numbers), sl_law_numbers⟩)
    (c_law_numbers : PySem.W.codeIn K cd_law_numbers "_law_numbers" = true)
    (k_law_numbers : PySem.W.keepIn K (.ref f_law_numbers) = true)
    (a_law_alike : PySem.W.nsIn K mainGlobals "_law_alike" = some (some (.ref f_law_alike)))
    (l_law_alike : K.lookup f_law_alike = some ⟨oc_law_alike, od_law_alike, .func (PySem.W.fnOf "_law_alike" "_law_alike" (defArgs s_law_alike) (defBody s_law_alike) (defScope s_law_alike) .none kv_law_alike dc_law_alike pm_law_alike an_law_alike cd_law_alike ct_law_alike), sl_law_alike⟩)
    (c_law_alike : PySem.W.codeIn K cd_law_alike "_law_alike" = true)
    (k_law_alike : PySem.W.keepIn K (.ref f_law_alike) = true)
    (a_law_reckoned : PySem.W.nsIn K mainGlobals "_law_reckoned" = some (some (.ref f_law_reckoned)))
    (l_law_reckoned : K.lookup f_law_reckoned = some ⟨oc_law_reckoned, od_law_reckoned, .func (PySem.W.fnOf "_law_reckoned" "_law_reckoned" (defArgs s_law_reckoned) (defBody s_law_reckoned) (defScope s_law_reckoned) .none kv_law_reckoned dc_law_reckoned pm_law_reckoned an_law_reckoned cd_law_reckoned ct_law_reckoned), sl_law_reckoned⟩)
    (c_law_reckoned : PySem.W.codeIn K cd_law_reckoned "_law_reckoned" = true)
    (k_law_reckoned : PySem.W.keepIn K (.ref f_law_reckoned) = true)
    (a_law_deeds : PySem.W.nsIn K mainGlobals "_law_deeds" = some (some (.ref f_law_deeds)))
    (l_law_deeds : K.lookup f_law_deeds = some ⟨oc_law_deeds, od_law_deeds, .func (PySem.W.fnOf "_law_deeds" "_law_deeds" (defArgs s_law_deeds) (defBody s_law_deeds) (defScope s_law_deeds) .none kv_law_deeds dc_law_deeds pm_law_deeds an_law_deeds cd_law_deeds ct_law_deeds), sl_law_deeds⟩)
    (c_law_deeds : PySem.W.codeIn K cd_law_deeds "_law_deeds" = true)
    (k_law_deeds : PySem.W.keepIn K (.ref f_law_deeds) = true)
    (a_law_steps : PySem.W.nsIn K mainGlobals "_law_steps" = some (some (.ref f_law_steps)))
    (l_law_steps : K.lookup f_law_steps = some ⟨oc_law_steps, od_law_steps, .func (PySem.W.fnOf "_law_steps" "_law_steps" (defArgs s_law_steps) (defBody s_law_steps) (defScope s_law_steps) .none kv_law_steps dc_law_steps pm_law_steps an_law_steps cd_law_steps ct_law_steps), sl_law_steps⟩)
    (c_law_steps : PySem.W.codeIn K cd_law_steps "_law_steps" = true)
    (k_law_steps : PySem.W.keepIn K (.ref f_law_steps) = true)
    (a_law_gone : PySem.W.nsIn K mainGlobals "_law_gone" = some (some (.ref f_law_gone)))
    (l_law_gone : K.lookup f_law_gone = some ⟨oc_law_gone, od_law_gone, .func (PySem.W.fnOf "_law_gone" "_law_gone" (defArgs s_law_gone) (defBody s_law_gone) (defScope s_law_gone) .none kv_law_gone dc_law_gone pm_law_gone an_law_gone cd_law_gone ct_law_gone), sl_law_gone⟩)
    (c_law_gone : PySem.W.codeIn K cd_law_gone "_law_gone" = true)
    (k_law_gone : PySem.W.keepIn K (.ref f_law_gone) = true)
    (a_law_over : PySem.W.nsIn K mainGlobals "_law_over" = some (some (.ref f_law_over)))
    (l_law_over : K.lookup f_law_over = some ⟨oc_law_over, od_law_over, .func (PySem.W.fnOf "_law_over" "_law_over" (defArgs s_law_over) (defBody s_law_over) (defScope s_law_over) .none kv_law_over dc_law_over pm_law_over an_law_over cd_law_over ct_law_over), sl_law_over⟩)
    (c_law_over : PySem.W.codeIn K cd_law_over "_law_over" = true)
    (k_law_over : PySem.W.keepIn K (.ref f_law_over) = true)
    (a_law : PySem.W.nsIn K mainGlobals "law" = some (some (.ref f_law)))
    (l_law : K.lookup f_law = some ⟨oc_law, od_law, .func (PySem.W.fnOf "law" "law" (defArgs s_law) (defBody s_law) (defScope s_law) .none kv_law dc_law pm_law an_law cd_law ct_law), sl_law⟩)
    (c_law : PySem.W.codeIn K cd_law "law" = true)
    (k_law : PySem.W.keepIn K (.ref f_law) = true)
    (pg_Talk : PySem.W.plainGet K C_Talk Str.empty = true)
    (hd_Talk : PySem.W.hasDictIn K C_Talk = true)
    (po_Talk : PySem.W.plainOver K C_Talk = true)
    (sa_Talk : PySem.W.findIn K (.ref C_Talk) "__setattr__" = some (some (.builtin "object.__setattr__")))
    (mk_Talk : PySem.W.makesIn K C_Talk = true)
    (kc_Talk : PySem.W.keepIn K (.ref C_Talk) = true)
    (na_Talk_deeds : PySem.W.findIn K (.ref C_Talk) "deeds" = some none)
    (na_Talk_said : PySem.W.findIn K (.ref C_Talk) "said" = some none)
    (na_Talk_told : PySem.W.findIn K (.ref C_Talk) "told" = some none)
    (pg_Walk : PySem.W.plainGet K C_Walk Str.empty = true)
    (hd_Walk : PySem.W.hasDictIn K C_Walk = true)
    (po_Walk : PySem.W.plainOver K C_Walk = true)
    (sa_Walk : PySem.W.findIn K (.ref C_Walk) "__setattr__" = some (some (.builtin "object.__setattr__")))
    (mk_Walk : PySem.W.makesIn K C_Walk = true)
    (kc_Walk : PySem.W.keepIn K (.ref C_Walk) = true)
    (na_Walk_program : PySem.W.findIn K (.ref C_Walk) "program" = some none)
    (na_Walk_talk : PySem.W.findIn K (.ref C_Walk) "talk" = some none)
    (m_MOST_WORKS : PySem.W.nsIn K mainGlobals "MOST_WORKS" = some (some (.int 4 i_MOST_WORKS)))
    (m_MOST_SLOTS : PySem.W.nsIn K mainGlobals "MOST_SLOTS" = some (some (.int 4 i_MOST_SLOTS)))
    (m_MOST_PARAMS : PySem.W.nsIn K mainGlobals "MOST_PARAMS" = some (some (.int 2 i_MOST_PARAMS)))
    (m_MOST_STEPS : PySem.W.nsIn K mainGlobals "MOST_STEPS" = some (some (.int 40 i_MOST_STEPS)))
    (m_MOST_WITHIN : PySem.W.nsIn K mainGlobals "MOST_WITHIN" = some (some (.int 6 i_MOST_WITHIN)))
    (m_MOST_DEEP : PySem.W.nsIn K mainGlobals "MOST_DEEP" = some (some (.int 3 i_MOST_DEEP)))
    (m_LIMIT : PySem.W.nsIn K mainGlobals "LIMIT" = some (some (.int 1000 i_LIMIT)))
    (m_PAIRS : PySem.W.nsIn K mainGlobals "PAIRS" = some (some (.ref a_PAIRS)))
    (m_LENGTHS : PySem.W.nsIn K mainGlobals "LENGTHS" = some (some (.ref a_LENGTHS)))
    (lk_PAIRS : K.lookup a_PAIRS = some ⟨.type "tuple", od_PAIRS, .seq #[.str "plus" t_PAIRS_0, .str "less" t_PAIRS_1, .str "times" t_PAIRS_2, .str "part" t_PAIRS_3, .str "below" t_PAIRS_4, .str "same" t_PAIRS_5] n_PAIRS, sl_PAIRS⟩)
    (lk_LENGTHS : K.lookup a_LENGTHS = some ⟨.type "dict", none, .dict #[⟨h_LENGTHS_0, .str "set" t_LENGTHS_0, .int 3 v_LENGTHS_0⟩, ⟨h_LENGTHS_1, .str "say" t_LENGTHS_1, .int 2 v_LENGTHS_1⟩, ⟨h_LENGTHS_2, .str "give" t_LENGTHS_2, .int 3 v_LENGTHS_2⟩, ⟨h_LENGTHS_3, .str "hand" t_LENGTHS_3, .int 4 v_LENGTHS_3⟩, ⟨h_LENGTHS_4, .str "if" t_LENGTHS_4, .int 4 v_LENGTHS_4⟩, ⟨h_LENGTHS_5, .str "round" t_LENGTHS_5, .int 3 v_LENGTHS_5⟩, ⟨h_LENGTHS_6, .str "leave" t_LENGTHS_6, .int 1 v_LENGTHS_6⟩, ⟨h_LENGTHS_7, .str "fault" t_LENGTHS_7, .int 2 v_LENGTHS_7⟩, ⟨h_LENGTHS_8, .str "end" t_LENGTHS_8, .int 2 v_LENGTHS_8⟩, ⟨h_LENGTHS_9, .str "try" t_LENGTHS_9, .int 4 v_LENGTHS_9⟩] n_LENGTHS, #[]⟩)
    (hh_LENGTHS_0 : h_LENGTHS_0 = PyData.keyHash w.params "set")
    (hh_LENGTHS_1 : h_LENGTHS_1 = PyData.keyHash w.params "say")
    (hh_LENGTHS_2 : h_LENGTHS_2 = PyData.keyHash w.params "give")
    (hh_LENGTHS_3 : h_LENGTHS_3 = PyData.keyHash w.params "hand")
    (hh_LENGTHS_4 : h_LENGTHS_4 = PyData.keyHash w.params "if")
    (hh_LENGTHS_5 : h_LENGTHS_5 = PyData.keyHash w.params "round")
    (hh_LENGTHS_6 : h_LENGTHS_6 = PyData.keyHash w.params "leave")
    (hh_LENGTHS_7 : h_LENGTHS_7 = PyData.keyHash w.params "fault")
    (hh_LENGTHS_8 : h_LENGTHS_8 = PyData.keyHash w.params "end")
    (hh_LENGTHS_9 : h_LENGTHS_9 = PyData.keyHash w.params "try")
    (lo_LENGTHS : (a_LENGTHS == sysModules) = false)
    (e_LENGTHS_0 : PySem.W.nsIn K a_LENGTHS "set" = some (some (.int 3 v_LENGTHS_0)))
    (e_LENGTHS_1 : PySem.W.nsIn K a_LENGTHS "say" = some (some (.int 2 v_LENGTHS_1)))
    (e_LENGTHS_2 : PySem.W.nsIn K a_LENGTHS "give" = some (some (.int 3 v_LENGTHS_2)))
    (e_LENGTHS_3 : PySem.W.nsIn K a_LENGTHS "hand" = some (some (.int 4 v_LENGTHS_3)))
    (e_LENGTHS_4 : PySem.W.nsIn K a_LENGTHS "if" = some (some (.int 4 v_LENGTHS_4)))
    (e_LENGTHS_5 : PySem.W.nsIn K a_LENGTHS "round" = some (some (.int 3 v_LENGTHS_5)))
    (e_LENGTHS_6 : PySem.W.nsIn K a_LENGTHS "leave" = some (some (.int 1 v_LENGTHS_6)))
    (e_LENGTHS_7 : PySem.W.nsIn K a_LENGTHS "fault" = some (some (.int 2 v_LENGTHS_7)))
    (e_LENGTHS_8 : PySem.W.nsIn K a_LENGTHS "end" = some (some (.int 2 v_LENGTHS_8)))
    (e_LENGTHS_9 : PySem.W.nsIn K a_LENGTHS "try" = some (some (.int 4 v_LENGTHS_9)))
    (z_bool : PySem.W.nsIn K mainGlobals "bool" = some none)
    (z_int : PySem.W.nsIn K mainGlobals "int" = some none)
    (z_isinstance : PySem.W.nsIn K mainGlobals "isinstance" = some none)
    (z_len : PySem.W.nsIn K mainGlobals "len" = some none)
    (z_list : PySem.W.nsIn K mainGlobals "list" = some none)
    (z_min : PySem.W.nsIn K mainGlobals "min" = some none)
    (z_range : PySem.W.nsIn K mainGlobals "range" = some none)
    (z_str : PySem.W.nsIn K mainGlobals "str" = some none)
    (z_tuple : PySem.W.nsIn K mainGlobals "tuple" = some none)
    : ∃ fd : FuncData, (∀ (s : Shared) (v : Value), BindsTo s fd ⟨[v], []⟩ [("_law_script", v)]) ∧ ∀ base : Heap, K.In base → base.Ns mainGlobals mg → FnOk l.prog w K mg base CX0 30 fa fd ["_law_script"] (LowSp K sp_law) := by
  have e := hfa.symm.trans (PySem.W.mg_of X G a_law)
  cases e
  have F_is_reckoning := fun_mk (st := s_is_reckoning) l_is_reckoning c_is_reckoning k_is_reckoning
  have b_is_reckoning := F_is_reckoning.binds (ps := P_is_reckoning) fun _ _ _ _ _ _ us hl => match us, hl with | [_, _, _], _ => rfl
  have F_bodies := fun_mk (st := s_bodies) l_bodies c_bodies k_bodies
  have b_bodies := F_bodies.binds (ps := P_bodies) fun _ _ _ _ _ _ us hl => match us, hl with | [_], _ => rfl
  have F_is_kept := fun_mk (st := s_is_kept) l_is_kept c_is_kept k_is_kept
  have b_is_kept := F_is_kept.binds (ps := P_is_kept) fun _ _ _ _ _ _ us hl => match us, hl with | [_, _], _ => rfl
  have F_are_parts := fun_mk (st := s_are_parts) l_are_parts c_are_parts k_are_parts
  have b_are_parts := F_are_parts.binds (ps := P_are_parts) fun _ _ _ _ _ _ us hl => match us, hl with | [_, _, _], _ => rfl
  have F_is_body := fun_mk (st := s_is_body) l_is_body c_is_body k_is_body
  have b_is_body := F_is_body.binds (ps := P_is_body) fun _ _ _ _ _ _ us hl => match us, hl with | [_, _, _, _, _], _ => rfl
  have F_all_steps := fun_mk (st := s_all_steps) l_all_steps c_all_steps k_all_steps
  have b_all_steps := F_all_steps.binds (ps := P_all_steps) fun _ _ _ _ _ _ us hl => match us, hl with | [_], _ => rfl
  have F_is_work := fun_mk (st := s_is_work) l_is_work c_is_work k_is_work
  have b_is_work := F_is_work.binds (ps := P_is_work) fun _ _ _ _ _ _ us hl => match us, hl with | [_, _], _ => rfl
  have F_need_program := fun_mk (st := s_need_program) l_need_program c_need_program k_need_program
  have b_need_program := F_need_program.binds (ps := P_need_program) fun _ _ _ _ _ _ us hl => match us, hl with | [_], _ => rfl
  have F_need_work := fun_mk (st := s_need_work) l_need_work c_need_work k_need_work
  have b_need_work := F_need_work.binds (ps := P_need_work) fun _ _ _ _ _ _ us hl => match us, hl with | [_, _], _ => rfl
  have F_paired := fun_mk (st := s_paired) l_paired c_paired k_paired
  have b_paired := F_paired.binds (ps := P_paired) fun _ _ _ _ _ _ us hl => match us, hl with | [_, _, _], _ => rfl
  have F_reckoned := fun_mk (st := s_reckoned) l_reckoned c_reckoned k_reckoned
  have b_reckoned := F_reckoned.binds (ps := P_reckoned) fun _ _ _ _ _ _ us hl => match us, hl with | [_, _], _ => rfl
  have F_all_reckoned := fun_mk (st := s_all_reckoned) l_all_reckoned c_all_reckoned k_all_reckoned
  have b_all_reckoned := F_all_reckoned.binds (ps := P_all_reckoned) fun _ _ _ _ _ _ us hl => match us, hl with | [_, _], _ => rfl
  have F_is_deed := fun_mk (st := s_is_deed) l_is_deed c_is_deed k_is_deed
  have b_is_deed := F_is_deed.binds (ps := P_is_deed) fun _ _ _ _ _ _ us hl => match us, hl with | [_], _ => rfl
  have F_need_asked := fun_mk (st := s_need_asked) l_need_asked c_need_asked k_need_asked
  have b_need_asked := F_need_asked.binds (ps := P_need_asked) fun _ _ _ _ _ _ us hl => match us, hl with | [_, _, _], _ => rfl
  have F_untouched := fun_mk (st := s_untouched) l_untouched c_untouched k_untouched
  have b_untouched := F_untouched.binds (ps := P_untouched) fun _ _ _ _ _ _ us hl => match us, hl with | [_], _ => rfl
  have F_Talk__init_ := fun_mk (st := s_Talk__init_) l_Talk__init_ c_Talk__init_ k_Talk__init_
  have b_Talk__init_ := F_Talk__init_.binds (ps := P_Talk__init_) fun _ _ _ _ _ _ us hl => match us, hl with | [_, _], _ => rfl
  have F_Talk_begins := fun_mk (st := s_Talk_begins) l_Talk_begins c_Talk_begins k_Talk_begins
  have b_Talk_begins := F_Talk_begins.binds (ps := P_Talk_begins) fun _ _ _ _ _ _ us hl => match us, hl with | [_], _ => rfl
  have F_Talk_say := fun_mk (st := s_Talk_say) l_Talk_say c_Talk_say k_Talk_say
  have b_Talk_say := F_Talk_say.binds (ps := P_Talk_say) fun _ _ _ _ _ _ us hl => match us, hl with | [_, _], _ => rfl
  have F_Talk_tell := fun_mk (st := s_Talk_tell) l_Talk_tell c_Talk_tell k_Talk_tell
  have b_Talk_tell := F_Talk_tell.binds (ps := P_Talk_tell) fun _ _ _ _ _ _ us hl => match us, hl with | [_, _], _ => rfl
  have F_Talk_gift := fun_mk (st := s_Talk_gift) l_Talk_gift c_Talk_gift k_Talk_gift
  have b_Talk_gift := F_Talk_gift.binds (ps := P_Talk_gift) fun _ _ _ _ _ _ us hl => match us, hl with | [_, _], _ => rfl
  have F_Talk_close := fun_mk (st := s_Talk_close) l_Talk_close c_Talk_close k_Talk_close
  have b_Talk_close := F_Talk_close.binds (ps := P_Talk_close) fun _ _ _ _ _ _ us hl => match us, hl with | [_, _], _ => rfl
  have F_Talk_all_told := fun_mk (st := s_Talk_all_told) l_Talk_all_told c_Talk_all_told k_Talk_all_told
  have b_Talk_all_told := F_Talk_all_told.binds (ps := P_Talk_all_told) fun _ _ _ _ _ _ us hl => match us, hl with | [_], _ => rfl
  have F_Walk__init_ := fun_mk (st := s_Walk__init_) l_Walk__init_ c_Walk__init_ k_Walk__init_
  have b_Walk__init_ := F_Walk__init_.binds (ps := P_Walk__init_) fun _ _ _ _ _ _ us hl => match us, hl with | [_, _, _], _ => rfl
  have F_Walk_body := fun_mk (st := s_Walk_body) l_Walk_body c_Walk_body k_Walk_body
  have b_Walk_body := F_Walk_body.binds (ps := P_Walk_body) fun _ _ _ _ _ _ us hl => match us, hl with | [_, _, _], _ => rfl
  have F_Walk_step := fun_mk (st := s_Walk_step) l_Walk_step c_Walk_step k_Walk_step
  have b_Walk_step := F_Walk_step.binds (ps := P_Walk_step) fun _ _ _ _ _ _ us hl => match us, hl with | [_, _, _], _ => rfl
  have F_Walk_rounds := fun_mk (st := s_Walk_rounds) l_Walk_rounds c_Walk_rounds k_Walk_rounds
  have b_Walk_rounds := F_Walk_rounds.binds (ps := P_Walk_rounds) fun _ _ _ _ _ _ us hl => match us, hl with | [_, _, _, _], _ => rfl
  have F_Walk_given := fun_mk (st := s_Walk_given) l_Walk_given c_Walk_given k_Walk_given
  have b_Walk_given := F_Walk_given.binds (ps := P_Walk_given) fun _ _ _ _ _ _ us hl => match us, hl with | [_, _, _, _], _ => rfl
  have F_Walk_handed := fun_mk (st := s_Walk_handed) l_Walk_handed c_Walk_handed k_Walk_handed
  have b_Walk_handed := F_Walk_handed.binds (ps := P_Walk_handed) fun _ _ _ _ _ _ us hl => match us, hl with | [_, _, _], _ => rfl
  have F_Walk_tried := fun_mk (st := s_Walk_tried) l_Walk_tried c_Walk_tried k_Walk_tried
  have b_Walk_tried := F_Walk_tried.binds (ps := P_Walk_tried) fun _ _ _ _ _ _ us hl => match us, hl with | [_, _, _], _ => rfl
  have F_played := fun_mk (st := s_played) l_played c_played k_played
  have b_played := F_played.binds (ps := P_played) fun _ _ _ _ _ _ us hl => match us, hl with | [_, _, _, _], _ => rfl
  have F_law_taken := fun_mk (st := s_law_taken) l_law_taken c_law_taken k_law_taken
  have b_law_taken := F_law_taken.binds (ps := P_law_taken) fun _ _ _ _ _ _ us hl => match us, hl with | [_, _], _ => rfl
  have F_law_reckoning := fun_mk (st := s_law_reckoning) l_law_reckoning c_law_reckoning k_law_reckoning
  have b_law_reckoning := F_law_reckoning.binds (ps := P_law_reckoning) fun _ _ _ _ _ _ us hl => match us, hl with | [_, _, _], _ => rfl
  have F_law_numbers := fun_mk (st := s_law_numbers) l_law_numbers c_law_numbers k_law_numbers
  have b_law_numbers := F_law_numbers.binds (ps := P_law_numbers) fun _ _ _ _ _ _ us hl => match us, hl with | [_, _], _ => rfl
  have F_law_alike := fun_mk (st := s_law_alike) l_law_alike c_law_alike k_law_alike
  have b_law_alike := F_law_alike.binds (ps := P_law_alike) fun _ _ _ _ _ _ us hl => match us, hl with | [_, _], _ => rfl
  have F_law_reckoned := fun_mk (st := s_law_reckoned) l_law_reckoned c_law_reckoned k_law_reckoned
  have b_law_reckoned := F_law_reckoned.binds (ps := P_law_reckoned) fun _ _ _ _ _ _ us hl => match us, hl with | [_, _], _ => rfl
  have F_law_deeds := fun_mk (st := s_law_deeds) l_law_deeds c_law_deeds k_law_deeds
  have b_law_deeds := F_law_deeds.binds (ps := P_law_deeds) fun _ _ _ _ _ _ us hl => match us, hl with | [_, _], _ => rfl
  have F_law_steps := fun_mk (st := s_law_steps) l_law_steps c_law_steps k_law_steps
  have b_law_steps := F_law_steps.binds (ps := P_law_steps) fun _ _ _ _ _ _ us hl => match us, hl with | [_, _], _ => rfl
  have F_law_gone := fun_mk (st := s_law_gone) l_law_gone c_law_gone k_law_gone
  have b_law_gone := F_law_gone.binds (ps := P_law_gone) fun _ _ _ _ _ _ us hl => match us, hl with | [_, _, _], _ => rfl
  have F_law_over := fun_mk (st := s_law_over) l_law_over c_law_over k_law_over
  have b_law_over := F_law_over.binds (ps := P_law_over) fun _ _ _ _ _ _ us hl => match us, hl with | [_], _ => rfl
  have F_law := fun_mk (st := s_law) l_law c_law k_law
  have b_law := F_law.binds (ps := P_law) fun _ _ _ _ _ _ us hl => match us, hl with | [_], _ => rfl
  have r_PAIRS : ∀ H, Rel K H W_PAIRS (.ref a_PAIRS) := by
    intro H
    simp only [W_PAIRS, Rel]
    refine ⟨_, [.str w_plus, .str w_less, .str w_times, .str w_part, .str w_below, .str w_same], rfl, .inr ⟨_, _, _, lk_PAIRS, rfl, rfl, (by show 6 ≤ sizeLine; decide), (.cons ⟨t_PAIRS_0, rfl⟩ (.cons ⟨t_PAIRS_1, rfl⟩ (.cons ⟨t_PAIRS_2, rfl⟩ (.cons ⟨t_PAIRS_3, rfl⟩ (.cons ⟨t_PAIRS_4, rfl⟩ (.cons ⟨t_PAIRS_5, rfl⟩ .nil))))))⟩, ?_⟩
    simp [Rels, Rel]
  have kt_LENGTHS : KTab K w a_LENGTHS tab_LENGTHS := by
    refine ⟨⟨_, _, lk_LENGTHS, ⟨⟨_, _, rfl, hh_LENGTHS_0⟩, ⟨⟨_, _, rfl, hh_LENGTHS_1⟩, ⟨⟨_, _, rfl, hh_LENGTHS_2⟩, ⟨⟨_, _, rfl, hh_LENGTHS_3⟩, ⟨⟨_, _, rfl, hh_LENGTHS_4⟩, ⟨⟨_, _, rfl, hh_LENGTHS_5⟩, ⟨⟨_, _, rfl, hh_LENGTHS_6⟩, ⟨⟨_, _, rfl, hh_LENGTHS_7⟩, ⟨⟨_, _, rfl, hh_LENGTHS_8⟩, ⟨⟨_, _, rfl, hh_LENGTHS_9⟩, trivial⟩⟩⟩⟩⟩⟩⟩⟩⟩⟩, lo_LENGTHS⟩, fun z r h => ?_⟩
    unfold tab_LENGTHS at h
    by_cases z0 : z = w_set
    · rw [if_pos z0] at h; cases h; subst z0; exact ⟨_, e_LENGTHS_0, _, .int _, rfl, ⟨_, rfl⟩, fun _ => by simp only [Rel]⟩
    rw [if_neg z0] at h
    by_cases z1 : z = w_say
    · rw [if_pos z1] at h; cases h; subst z1; exact ⟨_, e_LENGTHS_1, _, .int _, rfl, ⟨_, rfl⟩, fun _ => by simp only [Rel]⟩
    rw [if_neg z1] at h
    by_cases z2 : z = w_give
    · rw [if_pos z2] at h; cases h; subst z2; exact ⟨_, e_LENGTHS_2, _, .int _, rfl, ⟨_, rfl⟩, fun _ => by simp only [Rel]⟩
    rw [if_neg z2] at h
    by_cases z3 : z = w_hand
    · rw [if_pos z3] at h; cases h; subst z3; exact ⟨_, e_LENGTHS_3, _, .int _, rfl, ⟨_, rfl⟩, fun _ => by simp only [Rel]⟩
    rw [if_neg z3] at h
    by_cases z4 : z = w_if
    · rw [if_pos z4] at h; cases h; subst z4; exact ⟨_, e_LENGTHS_4, _, .int _, rfl, ⟨_, rfl⟩, fun _ => by simp only [Rel]⟩
    rw [if_neg z4] at h
    by_cases z5 : z = w_round
    · rw [if_pos z5] at h; cases h; subst z5; exact ⟨_, e_LENGTHS_5, _, .int _, rfl, ⟨_, rfl⟩, fun _ => by simp only [Rel]⟩
    rw [if_neg z5] at h
    by_cases z6 : z = w_leave
    · rw [if_pos z6] at h; cases h; subst z6; exact ⟨_, e_LENGTHS_6, _, .int _, rfl, ⟨_, rfl⟩, fun _ => by simp only [Rel]⟩
    rw [if_neg z6] at h
    by_cases z7 : z = w_fault
    · rw [if_pos z7] at h; cases h; subst z7; exact ⟨_, e_LENGTHS_7, _, .int _, rfl, ⟨_, rfl⟩, fun _ => by simp only [Rel]⟩
    rw [if_neg z7] at h
    by_cases z8 : z = w_end
    · rw [if_pos z8] at h; cases h; subst z8; exact ⟨_, e_LENGTHS_8, _, .int _, rfl, ⟨_, rfl⟩, fun _ => by simp only [Rel]⟩
    rw [if_neg z8] at h
    by_cases z9 : z = w_try
    · rw [if_pos z9] at h; cases h; subst z9; exact ⟨_, e_LENGTHS_9, _, .int _, rfl, ⟨_, rfl⟩, fun _ => by simp only [Rel]⟩
    rw [if_neg z9] at h
    cases h
  have T : Txt K mg w ⟨C_Talk, C_Walk, f_is_reckoning, f_bodies, f_is_kept, f_are_parts, f_is_body, f_all_steps, f_is_work, f_need_program, f_need_work, f_paired, f_reckoned, f_all_reckoned, f_is_deed, f_need_asked, f_untouched, f_Talk__init_, f_Talk_begins, f_Talk_say, f_Talk_tell, f_Talk_gift, f_Talk_close, f_Talk_all_told, f_Walk__init_, f_Walk_body, f_Walk_step, f_Walk_rounds, f_Walk_given, f_Walk_handed, f_Walk_tried, f_played, f_law_taken, f_law_reckoning, f_law_numbers, f_law_alike, f_law_reckoned, f_law_deeds, f_law_steps, f_law_gone, f_law_over, fa, PySem.W.fnOf "is_reckoning" "is_reckoning" (defArgs s_is_reckoning) (defBody s_is_reckoning) (defScope s_is_reckoning) .none kv_is_reckoning dc_is_reckoning pm_is_reckoning an_is_reckoning cd_is_reckoning ct_is_reckoning, PySem.W.fnOf "bodies" "bodies" (defArgs s_bodies) (defBody s_bodies) (defScope s_bodies) .none kv_bodies dc_bodies pm_bodies an_bodies cd_bodies ct_bodies, PySem.W.fnOf "is_kept" "is_kept" (defArgs s_is_kept) (defBody s_is_kept) (defScope s_is_kept) .none kv_is_kept dc_is_kept pm_is_kept an_is_kept cd_is_kept ct_is_kept, PySem.W.fnOf "are_parts" "are_parts" (defArgs s_are_parts) (defBody s_are_parts) (defScope s_are_parts) .none kv_are_parts dc_are_parts pm_are_parts an_are_parts cd_are_parts ct_are_parts, PySem.W.fnOf "is_body" "is_body" (defArgs s_is_body) (defBody s_is_body) (defScope s_is_body) .none kv_is_body dc_is_body pm_is_body an_is_body cd_is_body ct_is_body, PySem.W.fnOf "all_steps" "all_steps" (defArgs s_all_steps) (defBody s_all_steps) (defScope s_all_steps) .none kv_all_steps dc_all_steps pm_all_steps an_all_steps cd_all_steps ct_all_steps, PySem.W.fnOf "is_work" "is_work" (defArgs s_is_work) (defBody s_is_work) (defScope s_is_work) .none kv_is_work dc_is_work pm_is_work an_is_work cd_is_work ct_is_work, PySem.W.fnOf "need_program" "need_program" (defArgs s_need_program) (defBody s_need_program) (defScope s_need_program) .none kv_need_program dc_need_program pm_need_program an_need_program cd_need_program ct_need_program, PySem.W.fnOf "need_work" "need_work" (defArgs s_need_work) (defBody s_need_work) (defScope s_need_work) .none kv_need_work dc_need_work pm_need_work an_need_work cd_need_work ct_need_work, PySem.W.fnOf "paired" "paired" (defArgs s_paired) (defBody s_paired) (defScope s_paired) .none kv_paired dc_paired pm_paired an_paired cd_paired ct_paired, PySem.W.fnOf "reckoned" "reckoned" (defArgs s_reckoned) (defBody s_reckoned) (defScope s_reckoned) .none kv_reckoned dc_reckoned pm_reckoned an_reckoned cd_reckoned ct_reckoned, PySem.W.fnOf "all_reckoned" "all_reckoned" (defArgs s_all_reckoned) (defBody s_all_reckoned) (defScope s_all_reckoned) .none kv_all_reckoned dc_all_reckoned pm_all_reckoned an_all_reckoned cd_all_reckoned ct_all_reckoned, PySem.W.fnOf "is_deed" "is_deed" (defArgs s_is_deed) (defBody s_is_deed) (defScope s_is_deed) .none kv_is_deed dc_is_deed pm_is_deed an_is_deed cd_is_deed ct_is_deed, PySem.W.fnOf "need_asked" "need_asked" (defArgs s_need_asked) (defBody s_need_asked) (defScope s_need_asked) .none kv_need_asked dc_need_asked pm_need_asked an_need_asked cd_need_asked ct_need_asked, PySem.W.fnOf "untouched" "untouched" (defArgs s_untouched) (defBody s_untouched) (defScope s_untouched) .none kv_untouched dc_untouched pm_untouched an_untouched cd_untouched ct_untouched, PySem.W.fnOf "__init__" "Talk.__init__" (defArgs s_Talk__init_) (defBody s_Talk__init_) (defScope s_Talk__init_) .none kv_Talk__init_ dc_Talk__init_ pm_Talk__init_ an_Talk__init_ cd_Talk__init_ ct_Talk__init_, PySem.W.fnOf "begins" "Talk.begins" (defArgs s_Talk_begins) (defBody s_Talk_begins) (defScope s_Talk_begins) .none kv_Talk_begins dc_Talk_begins pm_Talk_begins an_Talk_begins cd_Talk_begins ct_Talk_begins, PySem.W.fnOf "say" "Talk.say" (defArgs s_Talk_say) (defBody s_Talk_say) (defScope s_Talk_say) .none kv_Talk_say dc_Talk_say pm_Talk_say an_Talk_say cd_Talk_say ct_Talk_say, PySem.W.fnOf "tell" "Talk.tell" (defArgs s_Talk_tell) (defBody s_Talk_tell) (defScope s_Talk_tell) .none kv_Talk_tell dc_Talk_tell pm_Talk_tell an_Talk_tell cd_Talk_tell ct_Talk_tell, PySem.W.fnOf "gift" "Talk.gift" (defArgs s_Talk_gift) (defBody s_Talk_gift) (defScope s_Talk_gift) .none kv_Talk_gift dc_Talk_gift pm_Talk_gift an_Talk_gift cd_Talk_gift ct_Talk_gift, PySem.W.fnOf "close" "Talk.close" (defArgs s_Talk_close) (defBody s_Talk_close) (defScope s_Talk_close) .none kv_Talk_close dc_Talk_close pm_Talk_close an_Talk_close cd_Talk_close ct_Talk_close, PySem.W.fnOf "all_told" "Talk.all_told" (defArgs s_Talk_all_told) (defBody s_Talk_all_told) (defScope s_Talk_all_told) .none kv_Talk_all_told dc_Talk_all_told pm_Talk_all_told an_Talk_all_told cd_Talk_all_told ct_Talk_all_told, PySem.W.fnOf "__init__" "Walk.__init__" (defArgs s_Walk__init_) (defBody s_Walk__init_) (defScope s_Walk__init_) .none kv_Walk__init_ dc_Walk__init_ pm_Walk__init_ an_Walk__init_ cd_Walk__init_ ct_Walk__init_, PySem.W.fnOf "body" "Walk.body" (defArgs s_Walk_body) (defBody s_Walk_body) (defScope s_Walk_body) .none kv_Walk_body dc_Walk_body pm_Walk_body an_Walk_body cd_Walk_body ct_Walk_body, PySem.W.fnOf "step" "Walk.step" (defArgs s_Walk_step) (defBody s_Walk_step) (defScope s_Walk_step) .none kv_Walk_step dc_Walk_step pm_Walk_step an_Walk_step cd_Walk_step ct_Walk_step, PySem.W.fnOf "rounds" "Walk.rounds" (defArgs s_Walk_rounds) (defBody s_Walk_rounds) (defScope s_Walk_rounds) .none kv_Walk_rounds dc_Walk_rounds pm_Walk_rounds an_Walk_rounds cd_Walk_rounds ct_Walk_rounds, PySem.W.fnOf "given" "Walk.given" (defArgs s_Walk_given) (defBody s_Walk_given) (defScope s_Walk_given) .none kv_Walk_given dc_Walk_given pm_Walk_given an_Walk_given cd_Walk_given ct_Walk_given, PySem.W.fnOf "handed" "Walk.handed" (defArgs s_Walk_handed) (defBody s_Walk_handed) (defScope s_Walk_handed) .none kv_Walk_handed dc_Walk_handed pm_Walk_handed an_Walk_handed cd_Walk_handed ct_Walk_handed, PySem.W.fnOf "tried" "Walk.tried" (defArgs s_Walk_tried) (defBody s_Walk_tried) (defScope s_Walk_tried) .none kv_Walk_tried dc_Walk_tried pm_Walk_tried an_Walk_tried cd_Walk_tried ct_Walk_tried, PySem.W.fnOf "played" "played" (defArgs s_played) (defBody s_played) (defScope s_played) .none kv_played dc_played pm_played an_played cd_played ct_played, PySem.W.fnOf "_law_taken" "_law_taken" (defArgs s_law_taken) (defBody s_law_taken) (defScope s_law_taken) .none kv_law_taken dc_law_taken pm_law_taken an_law_taken cd_law_taken ct_law_taken, PySem.W.fnOf "_law_reckoning" "_law_reckoning" (defArgs s_law_reckoning) (defBody s_law_reckoning) (defScope s_law_reckoning) .none kv_law_reckoning dc_law_reckoning pm_law_reckoning an_law_reckoning cd_law_reckoning ct_law_reckoning, PySem.W.fnOf "_law_numbers" "_law_numbers" (defArgs s_law_numbers) (defBody s_law_numbers) (defScope s_law_numbers) .none kv_law_numbers dc_law_numbers pm_law_numbers an_law_numbers cd_law_numbers ct_law_numbers, PySem.W.fnOf "_law_alike" "_law_alike" (defArgs s_law_alike) (defBody s_law_alike) (defScope s_law_alike) .none kv_law_alike dc_law_alike pm_law_alike an_law_alike cd_law_alike ct_law_alike, PySem.W.fnOf "_law_reckoned" "_law_reckoned" (defArgs s_law_reckoned) (defBody s_law_reckoned) (defScope s_law_reckoned) .none kv_law_reckoned dc_law_reckoned pm_law_reckoned an_law_reckoned cd_law_reckoned ct_law_reckoned, PySem.W.fnOf "_law_deeds" "_law_deeds" (defArgs s_law_deeds) (defBody s_law_deeds) (defScope s_law_deeds) .none kv_law_deeds dc_law_deeds pm_law_deeds an_law_deeds cd_law_deeds ct_law_deeds, PySem.W.fnOf "_law_steps" "_law_steps" (defArgs s_law_steps) (defBody s_law_steps) (defScope s_law_steps) .none kv_law_steps dc_law_steps pm_law_steps an_law_steps cd_law_steps ct_law_steps, PySem.W.fnOf "_law_gone" "_law_gone" (defArgs s_law_gone) (defBody s_law_gone) (defScope s_law_gone) .none kv_law_gone dc_law_gone pm_law_gone an_law_gone cd_law_gone ct_law_gone, PySem.W.fnOf "_law_over" "_law_over" (defArgs s_law_over) (defBody s_law_over) (defScope s_law_over) .none kv_law_over dc_law_over pm_law_over an_law_over cd_law_over ct_law_over, PySem.W.fnOf "law" "law" (defArgs s_law) (defBody s_law) (defScope s_law) .none kv_law dc_law pm_law an_law cd_law ct_law, a_LENGTHS, a_PAIRS, i_MOST_WORKS, i_MOST_SLOTS, i_MOST_PARAMS, i_MOST_STEPS, i_MOST_WITHIN, i_MOST_DEEP, i_LIMIT⟩ := by
    exact ⟨F_is_reckoning, b_is_reckoning, PySem.W.mg_of X G a_is_reckoning, F_bodies, b_bodies, PySem.W.mg_of X G a_bodies, F_is_kept, b_is_kept, PySem.W.mg_of X G a_is_kept, F_are_parts, b_are_parts, PySem.W.mg_of X G a_are_parts, F_is_body, b_is_body, PySem.W.mg_of X G a_is_body, F_all_steps, b_all_steps, PySem.W.mg_of X G a_all_steps, F_is_work, b_is_work, PySem.W.mg_of X G a_is_work, F_need_program, b_need_program, PySem.W.mg_of X G a_need_program, F_need_work, b_need_work, PySem.W.mg_of X G a_need_work, F_paired, b_paired, PySem.W.mg_of X G a_paired, F_reckoned, b_reckoned, PySem.W.mg_of X G a_reckoned, F_all_reckoned, b_all_reckoned, PySem.W.mg_of X G a_all_reckoned, F_is_deed, b_is_deed, PySem.W.mg_of X G a_is_deed, F_need_asked, b_need_asked, PySem.W.mg_of X G a_need_asked, F_untouched, b_untouched, PySem.W.mg_of X G a_untouched, F_Talk__init_, b_Talk__init_, F_Talk_begins, b_Talk_begins, ⟨a_Talk_begins, is_Talk_begins, k_Talk_begins⟩, F_Talk_say, b_Talk_say, ⟨a_Talk_say, is_Talk_say, k_Talk_say⟩, F_Talk_tell, b_Talk_tell, ⟨a_Talk_tell, is_Talk_tell, k_Talk_tell⟩, F_Talk_gift, b_Talk_gift, ⟨a_Talk_gift, is_Talk_gift, k_Talk_gift⟩, F_Talk_close, b_Talk_close, ⟨a_Talk_close, is_Talk_close, k_Talk_close⟩, F_Talk_all_told, b_Talk_all_told, ⟨a_Talk_all_told, is_Talk_all_told, k_Talk_all_told⟩, F_Walk__init_, b_Walk__init_, F_Walk_body, b_Walk_body, ⟨a_Walk_body, is_Walk_body, k_Walk_body⟩, F_Walk_step, b_Walk_step, ⟨a_Walk_step, is_Walk_step, k_Walk_step⟩, F_Walk_rounds, b_Walk_rounds, ⟨a_Walk_rounds, is_Walk_rounds, k_Walk_rounds⟩, F_Walk_given, b_Walk_given, ⟨a_Walk_given, is_Walk_given, k_Walk_given⟩, F_Walk_handed, b_Walk_handed, ⟨a_Walk_handed, is_Walk_handed, k_Walk_handed⟩, F_Walk_tried, b_Walk_tried, ⟨a_Walk_tried, is_Walk_tried, k_Walk_tried⟩, F_played, b_played, PySem.W.mg_of X G a_played, F_law_taken, b_law_taken, PySem.W.mg_of X G a_law_taken, F_law_reckoning, b_law_reckoning, PySem.W.mg_of X G a_law_reckoning, F_law_numbers, b_law_numbers, PySem.W.mg_of X G a_law_numbers, F_law_alike, b_law_alike, PySem.W.mg_of X G a_law_alike, F_law_reckoned, b_law_reckoned, PySem.W.mg_of X G a_law_reckoned, F_law_deeds, b_law_deeds, PySem.W.mg_of X G a_law_deeds, F_law_steps, b_law_steps, PySem.W.mg_of X G a_law_steps, F_law_gone, b_law_gone, PySem.W.mg_of X G a_law_gone, F_law_over, b_law_over, PySem.W.mg_of X G a_law_over, F_law, b_law, PySem.W.mg_of X G aC_Talk, ⟨pg_Talk, hd_Talk, po_Talk, sa_Talk⟩, ⟨mk_Talk, a_Talk__init_, is_Talk__init_, kc_Talk⟩, na_Talk_deeds, na_Talk_said, na_Talk_told, PySem.W.mg_of X G aC_Walk, ⟨pg_Walk, hd_Walk, po_Walk, sa_Walk⟩, ⟨mk_Walk, a_Walk__init_, is_Walk__init_, kc_Walk⟩, na_Walk_program, na_Walk_talk, PySem.W.mg_of X G m_MOST_WORKS, PySem.W.mg_of X G m_MOST_SLOTS, PySem.W.mg_of X G m_MOST_PARAMS, PySem.W.mg_of X G m_MOST_STEPS, PySem.W.mg_of X G m_MOST_WITHIN, PySem.W.mg_of X G m_MOST_DEEP, PySem.W.mg_of X G m_LIMIT, PySem.W.mg_of X G m_PAIRS, PySem.W.mg_of X G m_LENGTHS, r_PAIRS, kt_LENGTHS, PySem.W.mg_none_of X G z_bool, PySem.W.mg_none_of X G z_int, PySem.W.mg_none_of X G z_isinstance, PySem.W.mg_none_of X G z_len, PySem.W.mg_none_of X G z_list, PySem.W.mg_none_of X G z_min, PySem.W.mg_none_of X G z_range, PySem.W.mg_none_of X G z_str, PySem.W.mg_none_of X G z_tuple⟩
  exact ⟨_, fun s v => .of_eq rfl, fun base _ _ => g_law T⟩
theorem walk {l : PySem.W.OpenLaw} {q : Program} {loose : List Str} {XP : (Str → Option Value) → Heap → Prop} {YP : World → Heap → Prop} {d : DefRec} {K : Params → PySem.W.Frag} (hn : l.most = some 63) (hdf : d.params.defaults = [])
    (hY : ∀ (w : World) (h : Heap), YP w h → (K w.params).In h)
    (F : ∀ (w : World) (mg : Str → Option Value) (fa : Addr) (h : Heap), (K w.params).In h → h.Ns mainGlobals mg → mg d.name = some (.ref fa) →
      ∃ fd : FuncData, (∀ (s : Shared) (u : Value), BindsTo s fd ⟨[u], []⟩ [("_law_script", u)]) ∧ ∀ base : Heap, (K w.params).In base → base.Ns mainGlobals mg → FnOk l.prog w (K w.params) mg base CX0 30 fa fd ["_law_script"] (LowSp (K w.params) sp_law)) :
    PySem.W.WalkO q loose XP YP l.row.toRowW d [] (fun f vs => PySem.call f vs) :=
  L2.walk_of (n := 63) (k := 30) (x := "_law_script") (CX := fun _ => CX0) (sp := fun w => LowSp (K w.params) sp_law) hn (by decide) hdf ⟨rfl, by decide, by decide⟩ hY F
    (fun w H a ns hl hO hS => ⟨[.rl (ns.map .int)], fun _ => none, Rels.one (by
      simp only [Rel]
      refine ⟨a, ns.map V.int, rfl, ?_, ?_⟩
      · rcases hS with hS | hS
        · rcases hS with hS | hS
          · rcases hO a with e | ⟨o, xs, e⟩
            · rw [e] at hS; cases hS
            · rw [e] at hS; cases hS
          · exact .inl hS
        · exact .inr hS
      · clear hS hl
        induction ns with
        | nil => simp only [List.map_nil, Rels]
        | cons n ns ih => simp only [List.map_cons, Rels]; exact ⟨_, _, rfl, by simp only [Rel], ih⟩), (fun _ _ e => nomatch e), ns, rfl, fun S' H' v e g r => by simpa only [Rel] using r⟩) fun _ _ _ _ _ z => z
end WL.K3

open PySem PySem.W PyProof.Rows in
set_option maxRecDepth 100000 in
set_option maxHeartbeats 0 in
theorem PySem.Challenge.cw_pausewright_k03_gifts_in_a_row_holds : PySem.Challenge.rw_pausewright_k03_gifts_in_a_row.Holds := by
  w_on; o_law; k_head; (case hw => w_witness2)
  k_fill
  refine WL.K3.walk (l := PySem.Challenge.rw_pausewright_k03_gifts_in_a_row) rfl rfl (fun w h Y => PySem.W.kIn_of Y) ?F
  case F =>
    intro w mg fa h KX G hmg
    refine' WL.K3.all_mk KX G hmg ?aC_Talk ?aC_Walk ?a_is_reckoning ?l_is_reckoning ?c_is_reckoning ?k_is_reckoning ?a_bodies ?l_bodies ?c_bodies ?k_bodies ?a_is_kept ?l_is_kept ?c_is_kept ?k_is_kept ?a_are_parts ?l_are_parts ?c_are_parts ?k_are_parts ?a_is_body ?l_is_body ?c_is_body ?k_is_body ?a_all_steps ?l_all_steps ?c_all_steps ?k_all_steps ?a_is_work ?l_is_work ?c_is_work ?k_is_work ?a_need_program ?l_need_program ?c_need_program ?k_need_program ?a_need_work ?l_need_work ?c_need_work ?k_need_work ?a_paired ?l_paired ?c_paired ?k_paired ?a_reckoned ?l_reckoned ?c_reckoned ?k_reckoned ?a_all_reckoned ?l_all_reckoned ?c_all_reckoned ?k_all_reckoned ?a_is_deed ?l_is_deed ?c_is_deed ?k_is_deed ?a_need_asked ?l_need_asked ?c_need_asked ?k_need_asked ?a_untouched ?l_untouched ?c_untouched ?k_untouched ?a_Talk__init_ ?is_Talk__init_ ?l_Talk__init_ ?c_Talk__init_ ?k_Talk__init_ ?a_Talk_begins ?is_Talk_begins ?l_Talk_begins ?c_Talk_begins ?k_Talk_begins ?a_Talk_say ?is_Talk_say ?l_Talk_say ?c_Talk_say ?k_Talk_say ?a_Talk_tell ?is_Talk_tell ?l_Talk_tell ?c_Talk_tell ?k_Talk_tell ?a_Talk_gift ?is_Talk_gift ?l_Talk_gift ?c_Talk_gift ?k_Talk_gift ?a_Talk_close ?is_Talk_close ?l_Talk_close ?c_Talk_close ?k_Talk_close ?a_Talk_all_told ?is_Talk_all_told ?l_Talk_all_told ?c_Talk_all_told ?k_Talk_all_told ?a_Walk__init_ ?is_Walk__init_ ?l_Walk__init_ ?c_Walk__init_ ?k_Walk__init_ ?a_Walk_body ?is_Walk_body ?l_Walk_body ?c_Walk_body ?k_Walk_body ?a_Walk_step ?is_Walk_step ?l_Walk_step ?c_Walk_step ?k_Walk_step ?a_Walk_rounds ?is_Walk_rounds ?l_Walk_rounds ?c_Walk_rounds ?k_Walk_rounds ?a_Walk_given ?is_Walk_given ?l_Walk_given ?c_Walk_given ?k_Walk_given ?a_Walk_handed ?is_Walk_handed ?l_Walk_handed ?c_Walk_handed ?k_Walk_handed ?a_Walk_tried ?is_Walk_tried ?l_Walk_tried ?c_Walk_tried ?k_Walk_tried ?a_played ?l_played ?c_played ?k_played ?a_law_taken ?l_law_taken ?c_law_taken ?k_law_taken ?a_law_reckoning ?l_law_reckoning ?c_law_reckoning ?k_law_reckoning ?a_law_numbers ?l_law_numbers ?c_law_numbers ?k_law_numbers ?a_law_alike ?l_law_alike ?c_law_alike ?k_law_alike ?a_law_reckoned ?l_law_reckoned ?c_law_reckoned ?k_law_reckoned ?a_law_deeds ?l_law_deeds ?c_law_deeds ?k_law_deeds ?a_law_steps ?l_law_steps ?c_law_steps ?k_law_steps ?a_law_gone ?l_law_gone ?c_law_gone ?k_law_gone ?a_law_over ?l_law_over ?c_law_over ?k_law_over ?a_law ?l_law ?c_law ?k_law ?pg_Talk ?hd_Talk ?po_Talk ?sa_Talk ?mk_Talk ?kc_Talk ?na_Talk_deeds ?na_Talk_said ?na_Talk_told ?pg_Walk ?hd_Walk ?po_Walk ?sa_Walk ?mk_Walk ?kc_Walk ?na_Walk_program ?na_Walk_talk ?m_MOST_WORKS ?m_MOST_SLOTS ?m_MOST_PARAMS ?m_MOST_STEPS ?m_MOST_WITHIN ?m_MOST_DEEP ?m_LIMIT ?m_PAIRS ?m_LENGTHS ?lk_PAIRS ?lk_LENGTHS ?hh_LENGTHS_0 ?hh_LENGTHS_1 ?hh_LENGTHS_2 ?hh_LENGTHS_3 ?hh_LENGTHS_4 ?hh_LENGTHS_5 ?hh_LENGTHS_6 ?hh_LENGTHS_7 ?hh_LENGTHS_8 ?hh_LENGTHS_9 ?lo_LENGTHS ?e_LENGTHS_0 ?e_LENGTHS_1 ?e_LENGTHS_2 ?e_LENGTHS_3 ?e_LENGTHS_4 ?e_LENGTHS_5 ?e_LENGTHS_6 ?e_LENGTHS_7 ?e_LENGTHS_8 ?e_LENGTHS_9 ?z_bool ?z_int ?z_isinstance ?z_len ?z_list ?z_min ?z_range ?z_str ?z_tuple
    (case aC_Talk => k_is)
    (case aC_Walk => k_is)
    (case a_is_reckoning => k_is)
    (case l_is_reckoning => k_is)
    (case c_is_reckoning => k_is)
    (case k_is_reckoning => k_is)
    (case a_bodies => k_is)
    (case l_bodies => k_is)
    (case c_bodies => k_is)
    (case k_bodies => k_is)
    (case a_is_kept => k_is)
    (case l_is_kept => k_is)
    (case c_is_kept => k_is)
    (case k_is_kept => k_is)
    (case a_are_parts => k_is)
    (case l_are_parts => k_is)
    (case c_are_parts => k_is)
    (case k_are_parts => k_is)
    (case a_is_body => k_is)
    (case l_is_body => k_is)
    (case c_is_body => k_is)
    (case k_is_body => k_is)
    (case a_all_steps => k_is)
    (case l_all_steps => k_is)
    (case c_all_steps => k_is)
    (case k_all_steps => k_is)
    (case a_is_work => k_is)
    (case l_is_work => k_is)
    (case c_is_work => k_is)
    (case k_is_work => k_is)
    (case a_need_program => k_is)
    (case l_need_program => k_is)
    (case c_need_program => k_is)
    (case k_need_program => k_is)
    (case a_need_work => k_is)
    (case l_need_work => k_is)
    (case c_need_work => k_is)
    (case k_need_work => k_is)
    (case a_paired => k_is)
    (case l_paired => k_is)
    (case c_paired => k_is)
    (case k_paired => k_is)
    (case a_reckoned => k_is)
    (case l_reckoned => k_is)
    (case c_reckoned => k_is)
    (case k_reckoned => k_is)
    (case a_all_reckoned => k_is)
    (case l_all_reckoned => k_is)
    (case c_all_reckoned => k_is)
    (case k_all_reckoned => k_is)
    (case a_is_deed => k_is)
    (case l_is_deed => k_is)
    (case c_is_deed => k_is)
    (case k_is_deed => k_is)
    (case a_need_asked => k_is)
    (case l_need_asked => k_is)
    (case c_need_asked => k_is)
    (case k_need_asked => k_is)
    (case a_untouched => k_is)
    (case l_untouched => k_is)
    (case c_untouched => k_is)
    (case k_untouched => k_is)
    (case a_Talk__init_ => k_is)
    (case is_Talk__init_ => k_is)
    (case l_Talk__init_ => k_is)
    (case c_Talk__init_ => k_is)
    (case k_Talk__init_ => k_is)
    (case a_Talk_begins => k_is)
    (case is_Talk_begins => k_is)
    (case l_Talk_begins => k_is)
    (case c_Talk_begins => k_is)
    (case k_Talk_begins => k_is)
    (case a_Talk_say => k_is)
    (case is_Talk_say => k_is)
    (case l_Talk_say => k_is)
    (case c_Talk_say => k_is)
    (case k_Talk_say => k_is)
    (case a_Talk_tell => k_is)
    (case is_Talk_tell => k_is)
    (case l_Talk_tell => k_is)
    (case c_Talk_tell => k_is)
    (case k_Talk_tell => k_is)
    (case a_Talk_gift => k_is)
    (case is_Talk_gift => k_is)
    (case l_Talk_gift => k_is)
    (case c_Talk_gift => k_is)
    (case k_Talk_gift => k_is)
    (case a_Talk_close => k_is)
    (case is_Talk_close => k_is)
    (case l_Talk_close => k_is)
    (case c_Talk_close => k_is)
    (case k_Talk_close => k_is)
    (case a_Talk_all_told => k_is)
    (case is_Talk_all_told => k_is)
    (case l_Talk_all_told => k_is)
    (case c_Talk_all_told => k_is)
    (case k_Talk_all_told => k_is)
    (case a_Walk__init_ => k_is)
    (case is_Walk__init_ => k_is)
    (case l_Walk__init_ => k_is)
    (case c_Walk__init_ => k_is)
    (case k_Walk__init_ => k_is)
    (case a_Walk_body => k_is)
    (case is_Walk_body => k_is)
    (case l_Walk_body => k_is)
    (case c_Walk_body => k_is)
    (case k_Walk_body => k_is)
    (case a_Walk_step => k_is)
    (case is_Walk_step => k_is)
    (case l_Walk_step => k_is)
    (case c_Walk_step => k_is)
    (case k_Walk_step => k_is)
    (case a_Walk_rounds => k_is)
    (case is_Walk_rounds => k_is)
    (case l_Walk_rounds => k_is)
    (case c_Walk_rounds => k_is)
    (case k_Walk_rounds => k_is)
    (case a_Walk_given => k_is)
    (case is_Walk_given => k_is)
    (case l_Walk_given => k_is)
    (case c_Walk_given => k_is)
    (case k_Walk_given => k_is)
    (case a_Walk_handed => k_is)
    (case is_Walk_handed => k_is)
    (case l_Walk_handed => k_is)
    (case c_Walk_handed => k_is)
    (case k_Walk_handed => k_is)
    (case a_Walk_tried => k_is)
    (case is_Walk_tried => k_is)
    (case l_Walk_tried => k_is)
    (case c_Walk_tried => k_is)
    (case k_Walk_tried => k_is)
    (case a_played => k_is)
    (case l_played => k_is)
    (case c_played => k_is)
    (case k_played => k_is)
    (case a_law_taken => k_is)
    (case l_law_taken => k_is)
    (case c_law_taken => k_is)
    (case k_law_taken => k_is)
    (case a_law_reckoning => k_is)
    (case l_law_reckoning => k_is)
    (case c_law_reckoning => k_is)
    (case k_law_reckoning => k_is)
    (case a_law_numbers => k_is)
    (case l_law_numbers => k_is)
    (case c_law_numbers => k_is)
    (case k_law_numbers => k_is)
    (case a_law_alike => k_is)
    (case l_law_alike => k_is)
    (case c_law_alike => k_is)
    (case k_law_alike => k_is)
    (case a_law_reckoned => k_is)
    (case l_law_reckoned => k_is)
    (case c_law_reckoned => k_is)
    (case k_law_reckoned => k_is)
    (case a_law_deeds => k_is)
    (case l_law_deeds => k_is)
    (case c_law_deeds => k_is)
    (case k_law_deeds => k_is)
    (case a_law_steps => k_is)
    (case l_law_steps => k_is)
    (case c_law_steps => k_is)
    (case k_law_steps => k_is)
    (case a_law_gone => k_is)
    (case l_law_gone => k_is)
    (case c_law_gone => k_is)
    (case k_law_gone => k_is)
    (case a_law_over => k_is)
    (case l_law_over => k_is)
    (case c_law_over => k_is)
    (case k_law_over => k_is)
    (case a_law => k_is)
    (case l_law => k_is)
    (case c_law => k_is)
    (case k_law => k_is)
    (case pg_Talk => k_is)
    (case hd_Talk => k_is)
    (case po_Talk => k_is)
    (case sa_Talk => k_is)
    (case mk_Talk => k_is)
    (case kc_Talk => k_is)
    (case na_Talk_deeds => k_is)
    (case na_Talk_said => k_is)
    (case na_Talk_told => k_is)
    (case pg_Walk => k_is)
    (case hd_Walk => k_is)
    (case po_Walk => k_is)
    (case sa_Walk => k_is)
    (case mk_Walk => k_is)
    (case kc_Walk => k_is)
    (case na_Walk_program => k_is)
    (case na_Walk_talk => k_is)
    (case m_MOST_WORKS => k_is)
    (case m_MOST_SLOTS => k_is)
    (case m_MOST_PARAMS => k_is)
    (case m_MOST_STEPS => k_is)
    (case m_MOST_WITHIN => k_is)
    (case m_MOST_DEEP => k_is)
    (case m_LIMIT => k_is)
    (case m_PAIRS => k_is)
    (case m_LENGTHS => k_is)
    (case lk_PAIRS => k_is)
    (case lk_LENGTHS => k_is)
    (case hh_LENGTHS_0 => rfl)
    (case hh_LENGTHS_1 => rfl)
    (case hh_LENGTHS_2 => rfl)
    (case hh_LENGTHS_3 => rfl)
    (case hh_LENGTHS_4 => rfl)
    (case hh_LENGTHS_5 => rfl)
    (case hh_LENGTHS_6 => rfl)
    (case hh_LENGTHS_7 => rfl)
    (case hh_LENGTHS_8 => rfl)
    (case hh_LENGTHS_9 => rfl)
    (case lo_LENGTHS => rfl)
    (case e_LENGTHS_0 => k_is)
    (case e_LENGTHS_1 => k_is)
    (case e_LENGTHS_2 => k_is)
    (case e_LENGTHS_3 => k_is)
    (case e_LENGTHS_4 => k_is)
    (case e_LENGTHS_5 => k_is)
    (case e_LENGTHS_6 => k_is)
    (case e_LENGTHS_7 => k_is)
    (case e_LENGTHS_8 => k_is)
    (case e_LENGTHS_9 => k_is)
    (case z_bool => k_is)
    (case z_int => k_is)
    (case z_isinstance => k_is)
    (case z_len => k_is)
    (case z_list => k_is)
    (case z_min => k_is)
    (case z_range => k_is)
    (case z_str => k_is)
    (case z_tuple => k_is)

