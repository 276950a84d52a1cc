import PyProof.Rows.All
import Wide.All
import OpenK.AllK
import Wide.FinOn
import HandS.ForMost
import HandS.ForExc
import HandS.Flow
import HandS.IsInst
import HandS.TupAny
import HandS.Defaults
import KE.KDictKeyed
import HandS.More
import HandS.Conv
import HandS.TupMul
import HandS.Rev
import HandS.Zip
import HandS.TryOnly
import PyProof.P3In
import PyProof.Rows.CountFlat
import HandS.Deep
import PySem.Challenge.RW_pausewright_k10_whole_joined
set_option Elab.async false
set_option linter.all false
set_option maxRecDepth 100000
set_option maxHeartbeats 4000000
namespace WL
open PySem PySem.Spec PyProof.Rows L2
/-! ### values with tuples as data; stores of lists, dicts, instances -/
inductive W where
  | non | bl (b : Bool) | int (i : Int) | str (x : Str) | ty (n : String) | ref (a : Addr) | tup (ws : List W) | rl (ws : List W)
inductive MO where
  | lst (ws : List W) | ins (C : Addr) (fs : List (Str × W)) | dk (kvs : List (Key × W)) | xd (fs : List (Str × W)) | dn (hf : PySem.NestedKey → Int) (kvs : List (PySem.NestedKey × Int))
abbrev Sto := Addr → Option MO
def put (S : Sto) (a : Addr) (o : MO) : Sto := fun b => if b = a then some o else S b
theorem put_same {S : Sto} {a : Addr} {o : MO} : put S a o a = some o := by unfold put; rw [if_pos rfl]
theorem put_ne {S : Sto} {a b : Addr} {o : MO} (h : b ≠ a) : put S a o b = S b := by unfold put; rw [if_neg h]
theorem put_put {S : Sto} {a : Addr} {o u : MO} : put (put S a o) a u = put S a u := by
  funext b; unfold put; split <;> rfl
/-- what may be read as a list -/
def rdl (S : Sto) : W → Option (List W)
  | .ref a => match S a with
    | some (.lst ws) => some ws
    | _ => none
  | .rl ws => some ws
  | _ => none
/-- a list that is never written: locked, or of the written part -/
def Fzl (K : PySem.W.Frag) (H : Hp) (a : Addr) (xs : List V) : Prop := (∃ o, H a = some (.frz o (.lst xs))) ∨
    ∃ (o : Obj) (its : Array Value) (n : Nat), K.lookup a = some o ∧ o.cls = .type "list" ∧ o.dict = none ∧ o.data = .seq its n ∧ its.size ≤ sizeLine ∧ Vals xs its.toList
theorem Fzl.seq {K : PySem.W.Frag} {H : Hp} {a : Addr} {xs : List V} (h : Fzl K H a xs) : SqL K H a xs := h.elim (fun h => .inl (.inr h)) .inr
mutual
def Rel (K : PySem.W.Frag) (H : Hp) : W → V → Prop
  | .non, v => v = .non
  | .bl b, v => v = .bl b
  | .int i, v => v = .int i
  | .str x, v => v = .str x
  | .ty n, v => v = .ty n
  | .ref a, v => v = .ref a
  | .tup ws, v => ∃ a vs, v = .ref a ∧ SqT K H a vs ∧ Rels K H ws vs
  | .rl ws, v => ∃ a vs, v = .ref a ∧ Fzl K H a vs ∧ Rels K H ws vs
def Rels (K : PySem.W.Frag) (H : Hp) : List W → List V → Prop
  | [], vs => vs = []
  | w :: ws, vs => ∃ v vr, vs = v :: vr ∧ Rel K H w v ∧ Rels K H ws vr
end
/-- tuples stay -/
structure Ext (K : PySem.W.Frag) (H H' : Hp) : Prop where
  tup : ∀ a vs, SqT K H a vs → SqT K H' a vs
  fzl : ∀ a vs, Fzl K H a vs → Fzl K H' a vs
section
variable {K : PySem.W.Frag} {H H' H1 H2 : Hp} {S : Sto}
theorem Ext.refl : Ext K H H := ⟨fun _ _ h => h, fun _ _ h => h⟩
theorem Ext.trans (a : Ext K H H1) (b : Ext K H1 H2) : Ext K H H2 := ⟨fun c v h => b.tup c v (a.tup c v h), fun c v h => b.fzl c v (a.fzl c v h)⟩
mutual
theorem Rel.ext (e : Ext K H H') : ∀ {w : W} {v : V}, Rel K H w v → Rel K H' w v
  | .non, _, h => h
  | .bl _, _, h => h
  | .int _, _, h => h
  | .str _, _, h => h
  | .ty _, _, h => h
  | .ref _, _, h => h
  | .tup _, _, h => by
    simp only [Rel] at h ⊢
    obtain ⟨a, vs, e1, e2, e3⟩ := h
    exact ⟨a, vs, e1, e.tup a vs e2, Rels.ext e e3⟩
  | .rl _, _, h => by
    simp only [Rel] at h ⊢
    obtain ⟨a, vs, e1, e2, e3⟩ := h
    exact ⟨a, vs, e1, e.fzl a vs e2, Rels.ext e e3⟩
theorem Rels.ext (e : Ext K H H') : ∀ {ws : List W} {vs : List V}, Rels K H ws vs → Rels K H' ws vs
  | [], _, h => h
  | _ :: _, _, h => by
    simp only [Rels] at h ⊢
    obtain ⟨v, vr, e1, e2, e3⟩ := h
    exact ⟨v, vr, e1, Rel.ext e e2, Rels.ext e e3⟩
end
theorem Rels.nil {vs : List V} : Rels K H [] vs ↔ vs = [] := by simp only [Rels]
theorem Rels.cons {w : W} {ws : List W} {vs : List V} : Rels K H (w :: ws) vs ↔ ∃ v vr, vs = v :: vr ∧ Rel K H w v ∧ Rels K H ws vr := by simp only [Rels]
theorem Rels.length : ∀ {ws : List W} {vs : List V}, Rels K H ws vs → ws.length = vs.length
  | [], _, h => by rw [Rels.nil.mp h]; rfl
  | _ :: _, _, h => by
    obtain ⟨v, vr, rfl, _, h2⟩ := Rels.cons.mp h
    rw [List.length_cons, List.length_cons, h2.length]
theorem Rels.get : ∀ {ws : List W} {vs : List V} {i : Nat} {w : W}, Rels K H ws vs → ws[i]? = some w → ∃ v, vs[i]? = some v ∧ Rel K H w v
  | [], _, _, _, _, e => by simp at e
  | _ :: _, _, 0, _, h, e => by
    obtain ⟨v, vr, rfl, h1, _⟩ := Rels.cons.mp h
    simp at e; subst e; exact ⟨v, rfl, h1⟩
  | _ :: _, _, i + 1, w, h, e => by
    obtain ⟨v, vr, rfl, _, h2⟩ := Rels.cons.mp h
    obtain ⟨u, e1, e2⟩ := h2.get (i := i) (w := w) (by simpa using e)
    exact ⟨u, by simpa using e1, e2⟩
theorem Rels.back : ∀ {ws : List W} {vs : List V} {i : Nat} {v : V}, Rels K H ws vs → vs[i]? = some v → ∃ w, ws[i]? = some w ∧ Rel K H w v
  | [], _, _, _, h, e => by rw [Rels.nil.mp h] at e; simp at e
  | _ :: _, _, 0, _, h, e => by
    obtain ⟨v, vr, rfl, h1, _⟩ := Rels.cons.mp h
    simp at e; subst e; exact ⟨_, rfl, h1⟩
  | _ :: _, _, i + 1, w, h, e => by
    obtain ⟨v, vr, rfl, _, h2⟩ := Rels.cons.mp h
    obtain ⟨u, e1, e2⟩ := h2.back (i := i) (v := w) (by simpa using e)
    exact ⟨u, by simpa using e1, e2⟩
theorem Rels.append : ∀ {xs ys : List W} {us vs : List V}, Rels K H xs us → Rels K H ys vs → Rels K H (xs ++ ys) (us ++ vs)
  | [], _, _, _, h, h' => by rw [Rels.nil.mp h]; exact h'
  | _ :: _, _, _, _, h, h' => by
    obtain ⟨v, vr, rfl, h1, h2⟩ := Rels.cons.mp h
    exact Rels.cons.mpr ⟨v, _, rfl, h1, h2.append h'⟩
theorem Rels.take : ∀ {xs : List W} {us : List V} (n : Nat), Rels K H xs us → Rels K H (xs.take n) (us.take n)
  | _, _, 0, _ => by simp [Rels]
  | [], _, n + 1, h => by rw [Rels.nil.mp h]; simp [Rels]
  | _ :: _, _, n + 1, h => by
    obtain ⟨v, vr, rfl, h1, h2⟩ := Rels.cons.mp h
    exact Rels.cons.mpr ⟨v, _, rfl, h1, h2.take n⟩
theorem Rels.drop : ∀ {xs : List W} {us : List V} (n : Nat), Rels K H xs us → Rels K H (xs.drop n) (us.drop n)
  | _, _, 0, h => h
  | [], _, n + 1, h => by rw [Rels.nil.mp h]; simp [Rels]
  | _ :: _, _, n + 1, h => by
    obtain ⟨v, vr, rfl, h1, h2⟩ := Rels.cons.mp h
    exact h2.drop n
theorem Rels.set {w : W} {v : V} (r : Rel K H w v) : ∀ {xs : List W} {us : List V} (i : Nat), Rels K H xs us → Rels K H (xs.set i w) (us.set i v)
  | [], _, _, h => by rw [Rels.nil.mp h]; simp [Rels]
  | _ :: _, _, 0, h => by
    obtain ⟨v, vr, rfl, h1, h2⟩ := Rels.cons.mp h
    exact Rels.cons.mpr ⟨_, _, rfl, r, h2⟩
  | _ :: _, _, i + 1, h => by
    obtain ⟨v, vr, rfl, h1, h2⟩ := Rels.cons.mp h
    exact Rels.cons.mpr ⟨v, _, rfl, h1, h2.set r i⟩
theorem Rels.one {w : W} {v : V} (r : Rel K H w v) : Rels K H [w] [v] := Rels.cons.mpr ⟨v, [], rfl, r, Rels.nil.mpr rfl⟩
theorem Rels.flatten_rep (n : Nat) : ∀ {xs : List W} {us : List V}, Rels K H xs us → Rels K H (List.replicate n xs).flatten (List.replicate n us).flatten := by
  intro xs us h
  induction n with
  | zero => simp [Rels]
  | succ n ih => rw [List.replicate_succ, List.replicate_succ, List.flatten_cons, List.flatten_cons]; exact h.append ih
/-- the fields of an instance, a dict's entries -/
inductive RelF (K : PySem.W.Frag) (H : Hp) {κ : Type} : List (κ × W) → List (κ × V) → Prop
  | nil : RelF K H [] []
  | cons {k : κ} {w : W} {v : V} {ws : List (κ × W)} {vs : List (κ × V)} : Rel K H w v → RelF K H ws vs → RelF K H ((k, w) :: ws) ((k, v) :: vs)
theorem RelF.ext {κ : Type} (e : Ext K H H') {ws : List (κ × W)} {vs : List (κ × V)} (h : RelF K H ws vs) : RelF K H' ws vs := by
  induction h with
  | nil => exact .nil
  | cons r _ ih => exact .cons (r.ext e) ih
theorem RelF.length {κ : Type} {ws : List (κ × W)} {vs : List (κ × V)} (h : RelF K H ws vs) : ws.length = vs.length := by
  induction h with
  | nil => rfl
  | cons _ _ ih => rw [List.length_cons, List.length_cons, ih]
theorem RelF.lookup {ws : List (Str × W)} {vs : List (Str × V)} (h : RelF K H ws vs) (f : Str) : (∀ w, ws.lookup f = some w → ∃ v, vs.lookup f = some v ∧ Rel K H w v) ∧ (ws.lookup f = none → vs.lookup f = none) := by
  induction h with
  | nil => exact ⟨fun w e => (nomatch e), fun _ => rfl⟩
  | @cons k w v ws vs r _ ih =>
    simp only [List.lookup_cons]
    cases q : f == k with
    | true => exact ⟨fun w' e => ⟨v, rfl, by cases e; exact r⟩, fun e => (nomatch e)⟩
    | false => exact ih
/-- f = w among the fields -/
def putW (f : Str) (w : W) : List (Str × W) → List (Str × W)
  | [] => [(f, w)]
  | (g, x) :: r => if g = f then (g, w) :: r else (g, x) :: putW f w r
theorem RelF.put {ws : List (Str × W)} {vs : List (Str × V)} (h : RelF K H ws vs) (f : Str) {w : W} {v : V} (r : Rel K H w v) : RelF K H (putW f w ws) (putF f v vs) := by
  induction h with
  | nil => exact .cons r .nil
  | @cons k w' v' ws vs r' h' ih =>
    unfold putW putF
    by_cases e : k = f
    · rw [if_pos e, if_pos e]; exact .cons r h'
    · rw [if_neg e, if_neg e]; exact .cons r' ih
def valW {κ : Type} [DecidableEq κ] (kvs : List (κ × W)) (k : κ) : Option W := (kvs.find? fun kv => decide (kv.1 = k)).map (·.2)
def putKW {κ : Type} [DecidableEq κ] (kvs : List (κ × W)) (k : κ) (v : W) : List (κ × W) :=
  if kvs.any fun kv => decide (kv.1 = k) then kvs.map fun kv => if kv.1 = k then (kv.1, v) else kv else kvs ++ [(k, v)]
/-! dicts whose keys are nested tuples, values ints -/
mutual
def NkR (K : PySem.W.Frag) (H : Hp) : PySem.NestedKey → V → Prop
  | .none, v => v = .non
  | .num i, v => v = .int i
  | .text x, v => v = .str x
  | .tup ks, v => ∃ a vs, v = .ref a ∧ SqT K H a vs ∧ NkRs K H ks vs
def NkRs (K : PySem.W.Frag) (H : Hp) : List PySem.NestedKey → List V → Prop
  | [], vs => vs = []
  | k :: ks, vs => ∃ v vr, vs = v :: vr ∧ NkR K H k v ∧ NkRs K H ks vr
end
mutual
theorem NkR.ext (e : Ext K H H') : ∀ {k : PySem.NestedKey} {v : V}, NkR K H k v → NkR K H' k v
  | .none, _, h => by rw [NkR] at h ⊢; exact h
  | .num _, _, h => by rw [NkR] at h ⊢; exact h
  | .text _, _, h => by rw [NkR] at h ⊢; exact h
  | .tup _, _, h => by
    rw [NkR] at h ⊢
    obtain ⟨a, vs, e1, e2, e3⟩ := h
    exact ⟨a, vs, e1, e.tup a vs e2, NkRs.ext e e3⟩
theorem NkRs.ext (e : Ext K H H') : ∀ {ks : List PySem.NestedKey} {vs : List V}, NkRs K H ks vs → NkRs K H' ks vs
  | [], _, h => by rw [NkRs] at h ⊢; exact h
  | _ :: _, _, h => by
    rw [NkRs] at h ⊢
    obtain ⟨v, vr, e1, e2, e3⟩ := h
    exact ⟨v, vr, e1, NkR.ext e e2, NkRs.ext e e3⟩
end
def entN (hf : PySem.NestedKey → Int) (x : PySem.NestedKey × Addr × Value) : DictEntry := ⟨hf x.1, .ref x.2.1, x.2.2⟩
def NdO (hf : PySem.NestedKey → Int) (a : Addr) (xs : List (PySem.NestedKey × Addr × Value)) : HO := .ext fun h => ∃ o es ep, h.get? a = some o ∧ o.ExactDict ∧ o.data = .dict es ep ∧ es.toList = xs.map (entN hf)
inductive RelN : List (PySem.NestedKey × Int) → List (PySem.NestedKey × Addr × Value) → Prop
  | nil : RelN [] []
  | cons {k : PySem.NestedKey} {i : Int} {b : Addr} {t : Tok} {kvs : List (PySem.NestedKey × Int)} {xs : List (PySem.NestedKey × Addr × Value)} : RelN kvs xs → RelN ((k, i) :: kvs) ((k, b, .int i t) :: xs)
structure DnOk (K : PySem.W.Frag) (H : Hp) (a : Addr) (kvs : List (PySem.NestedKey × Int)) (xs : List (PySem.NestedKey × Addr × Value)) : Prop where
  rel : RelN kvs xs
  keys : ∀ x ∈ xs, NkR K H x.1 (.ref x.2.1) ∧ x.1.depth ≤ 8
  nodup : (xs.map (·.1)).Nodup
  nosys : (a == sysModules) = false
  len : xs.length ≤ sizeLine
theorem DnOk.ext {a : Addr} {kvs : List (PySem.NestedKey × Int)} {xs : List (PySem.NestedKey × Addr × Value)} (e : Ext K H H') (h : DnOk K H a kvs xs) : DnOk K H' a kvs xs := ⟨h.rel, fun x hx => ⟨(h.keys x hx).1.ext e, (h.keys x hx).2⟩, h.nodup, h.nosys, h.len⟩
def OkO (K : PySem.W.Frag) (H : Hp) (a : Addr) : MO → Prop
  | .lst ws => ∃ vs, H a = some (.lst vs) ∧ Rels K H ws vs
  | .ins C fs => ∃ dx gs, H a = some (.ins C dx gs) ∧ RelF K H fs gs
  | .dk kvs => ∃ vs, H a = some (.dK vs) ∧ RelF K H kvs vs
  | .xd fs => ∃ gs, H a = some (.xd gs) ∧ RelF K H fs gs
  | .dn hf kvs => ∃ xs, H a = some (NdO hf a xs) ∧ DnOk K H a kvs xs
/-- the heap bears the store -/
def GS (K : PySem.W.Frag) (S : Sto) (H : Hp) : Prop := ∀ a o, S a = some o → OkO K H a o
abbrev Rho := List (Option W)
/-- the slots -/
structure GR (K : PySem.W.Frag) (H : Hp) (r : Rho) (st : L2.St) : Prop where
  len : r.length = st.length
  val : ∀ (i : Nat) (w : W), r[i]? = some (some w) → ∃ v, st[i]? = some (some v) ∧ Rel K H w v
theorem GR.ext {r : Rho} {st   : L2.St} (e : Ext K H H') (g : GR K H r st) : GR K H' r st := ⟨g.len, fun i w h => let ⟨v, h1, h2⟩ := g.val i w h; ⟨v, h1, h2.ext e⟩⟩
theorem GR.set {r : Rho} {st   : L2.St} (g : GR K H r st) (i : Nat) {w : W} {v : V} (x : Rel K H w v) : GR K H (r.set i (some w)) (st.set i (some v)) := by
  refine ⟨by rw [List.length_set, List.length_set, g.len], fun j u h => ?_⟩
  by_cases e : i = j
  · subst e
    by_cases hl : i < r.length
    · rw [List.getElem?_set_self hl] at h
      cases h
      exact ⟨v, by rw [List.getElem?_set_self (by rw [← g.len]; exact hl)], x⟩
    · rw [List.getElem?_eq_none (by rw [List.length_set]; omega)] at h
      cases h
  · rw [List.getElem?_set_ne e] at h ⊢
    exact g.val j u h
theorem GR.wipe {r : Rho} {st   : L2.St} (g : GR K H r st) (i : Nat) : GR K H (r.set i none) (st.set i none) := by
  refine ⟨by rw [List.length_set, List.length_set, g.len], fun j u h => ?_⟩
  by_cases e : i = j
  · subst e
    by_cases hl : i < r.length
    · rw [List.getElem?_set_self hl] at h
      cases h
    · rw [List.getElem?_eq_none (by rw [List.length_set]; omega)] at h
      cases h
  · rw [List.getElem?_set_ne e] at h ⊢
    exact g.val j u h
/-! ### how the abstract heap changes -/
/-- no tuple, not locked -/
def chg : HO → Bool
  | .tup _ => false
  | .frz _ _ => false
  | _ => true
theorem Ext.upd_ {p : Addr} {o : HO} (h : ∀ u, H p = some u → chg u = true) : Ext K H (upd H p o) := by
  have n1 : ∀ a vs, H a = some (.tup vs) → a ≠ p := fun a vs q e => by subst e; exact absurd (h _ q) (by simp [chg])
  have n2 : ∀ a o u, H a = some (.frz o u) → a ≠ p := fun a o u q e => by subst e; exact absurd (h _ q) (by simp [chg])
  refine ⟨fun a vs q => ?_, fun a vs q => ?_⟩
  · rcases q with (q | ⟨u, q⟩) | q
    · exact .inl (.inl (by rw [upd_ne (n1 _ _ q)]; exact q))
    · exact .inl (.inr ⟨u, by rw [upd_ne (n2 _ _ _ q)]; exact q⟩)
    · exact .inr q
  · rcases q with ⟨u, q⟩ | q
    · exact .inl ⟨u, by rw [upd_ne (n2 _ _ _ q)]; exact q⟩
    · exact .inr q
theorem Ext.new {p : Addr} {o : HO} (h : H p = none) : Ext K H (upd H p o) := Ext.upd_ fun u q => by rw [h] at q; cases q
theorem Ext.chg {p : Addr} {o u : HO} (h : H p = some u) (c : chg u = true) : Ext K H (upd H p o) := Ext.upd_ fun u q => by rw [h] at q; cases q; exact c
theorem OkO.ne {a p : Addr} {o : MO} {u : HO} (e : Ext K H (upd H p u)) (h : OkO K H a o) (hp : a ≠ p) : OkO K (upd H p u) a o := by
  cases o with
  | lst ws => obtain ⟨vs, h1, h2⟩ := h; exact ⟨vs, by rw [upd_ne hp]; exact h1, h2.ext e⟩
  | ins C fs => obtain ⟨dx, gs, h1, h2⟩ := h; exact ⟨dx, gs, by rw [upd_ne hp]; exact h1, h2.ext e⟩
  | dk kvs => obtain ⟨vs, h1, h2⟩ := h; exact ⟨vs, by rw [upd_ne hp]; exact h1, h2.ext e⟩
  | xd fs => obtain ⟨gs, h1, h2⟩ := h; exact ⟨gs, by rw [upd_ne hp]; exact h1, h2.ext e⟩
  | dn hf kvs => obtain ⟨xs, h1, h2⟩ := h; exact ⟨xs, by rw [upd_ne hp]; exact h1, h2.ext e⟩
theorem GS.at {a : Addr} {o : MO} (g : GS K S H) (h : S a = some o) : OkO K H a o := g a o h
theorem OkO.there {a : Addr} {o : MO} (h : OkO K H a o) : H a ≠ none := by
  cases o with
  | lst ws => obtain ⟨vs, h1, h2⟩ := h; rw [h1]; exact fun z => nomatch z
  | ins C fs => obtain ⟨dx, gs, h1, h2⟩ := h; rw [h1]; exact fun z => nomatch z
  | dk kvs => obtain ⟨vs, h1, h2⟩ := h; rw [h1]; exact fun z => nomatch z
  | xd fs => obtain ⟨gs, h1, h2⟩ := h; rw [h1]; exact fun z => nomatch z
  | dn hf kvs => obtain ⟨xs, h1, h2⟩ := h; rw [h1]; exact fun z => nomatch z
theorem GS.free {a : Addr} (g : GS K S H) (h : H a = none) : S a = none := by
  cases q : S a with
  | none => rfl
  | some o => exact absurd h (g a o q).there
theorem GS.ext_new {p : Addr} {u : HO} (g : GS K S H) (h : H p = none) : GS K S (upd H p u) := fun a o q => by
  have n : a ≠ p := fun e => by subst e; exact (g _ _ q).there h
  exact (g a o q).ne (Ext.new h) n
/-- a new object at p -/
theorem GS.new {p : Addr} {o : MO} {u : HO} (g : GS K S H) (h : H p = none) (n : OkO K (upd H p u) p o) : GS K (put S p o) (upd H p u) := fun a v q => by
  unfold put at q
  split at q
  · rename_i e; cases q; rw [e]; exact n
  · exact (g a v q).ne (Ext.new h) ‹_›
/-- an object written at p -/
theorem GS.wr {p : Addr} {o : MO} {u v : HO} (g : GS K S H) (h : H p = some v) (c : chg v = true) (n : OkO K (upd H p u) p o) : GS K (put S p o) (upd H p u) := fun a x q => by
  unfold put at q
  split at q
  · rename_i e; cases q; rw [e]; exact n
  · exact (g a x q).ne (Ext.chg h c) ‹_›
end
end WL
namespace WL
open PySem PySem.Spec PyProof.Rows L2
/-! ### readings over values and stores -/
abbrev WQ := W → Sto → Prop
abbrev WE := Rho → Sto → WQ → Prop
abbrev WT := Rho → Sto → (Bool → Sto → Prop) → Prop
abbrev WA := Rho → Sto → (List W → Sto → Prop) → Prop
structure WD where
  nx : Rho → Sto → Prop
  rt : WQ
  bk : Rho → Sto → Prop := fun _ _ => False
  ct : Rho → Sto → Prop := fun _ _ => False
abbrev WS := WD → Rho → Sto → Prop
abbrev WG := W → Rho → Sto → (Rho → Sto → Prop) → Prop
abbrev WGs := List W → Rho → Sto → (Rho → Sto → Prop) → Prop
abbrev WR2 := W → W → Sto → WQ → Prop
abbrev WSp := List W → Sto → WQ → Prop
def MonoE (t : WE) : Prop := ∀ r S (Q Q' : WQ), (∀ w S', Q w S' → Q' w S') → t r S Q → t r S Q'
def MonoT (t : WT) : Prop := ∀ r S (Q Q' : Bool → Sto → Prop), (∀ w S', Q w S' → Q' w S') → t r S Q → t r S Q'
def MonoA (t : WA) : Prop := ∀ r S (Q Q' : List W → Sto → Prop), (∀ w S', Q w S' → Q' w S') → t r S Q → t r S Q'
structure WD.le (D D' : WD) : Prop where
  nx : ∀ r S, D.nx r S → D'.nx r S
  rt : ∀ w S, D.rt w S → D'.rt w S
  bk : ∀ r S, D.bk r S → D'.bk r S
  ct : ∀ r S, D.ct r S → D'.ct r S
def MonoS (t : WS) : Prop := ∀ (D D' : WD) r S, D.le D' → t D r S → t D' r S
def MonoG (g : WG) : Prop := ∀ w r S (Q Q' : Rho → Sto → Prop), (∀ r' S', Q r' S' → Q' r' S') → g w r S Q → g w r S Q'
def MonoGs (g : WGs) : Prop := ∀ w r S (Q Q' : Rho → Sto → Prop), (∀ r' S', Q r' S' → Q' r' S') → g w r S Q → g w r S Q'
def Mono2 (t : WR2) : Prop := ∀ x y S (Q Q' : WQ), (∀ w S', Q w S' → Q' w S') → t x y S Q → t x y S Q'
def MonoSp (t : WSp) : Prop := ∀ ws S (Q Q' : WQ), (∀ w S', Q w S' → Q' w S') → t ws S Q → t ws S Q'
section
variable (K : PySem.W.Frag)
def lowQ (H : Hp) (Q : VK) : WQ := fun w S' => ∀ (H' : Hp) (v : V), Ext K H H' → GS K S' H' → Rel K H' w v → Q v H'
def lowB (H : Hp) (Q : Bool → Hp → Prop) : Bool → Sto → Prop := fun b S' => ∀ (H' : Hp), Ext K H H' → GS K S' H' → Q b H'
def lowL (H : Hp) (Q : List V → Hp → Prop) : List W → Sto → Prop := fun ws S' => ∀ (H' : Hp) (vs : List V), Ext K H H' → GS K S' H' → Rels K H' ws vs → Q vs H'
def lowP (H : Hp) (Q : L2.St → Hp → Prop) : Rho → Sto → Prop := fun r S' => ∀ (st' : L2.St) (H' : Hp), Ext K H H' → GR K H' r st' → GS K S' H' → Q st' H'
def lowD (H : Hp) (D : Ends) : WD := ⟨lowP K H D.nx, lowQ K H D.rt, lowP K H D.bk, lowP K H D.ct⟩
def LowE (t : WE) : TE := fun st H Q => ∃ (r : Rho) (S : Sto), GR K H r st ∧ GS K S H ∧ t r S (lowQ K H Q)
def LowT (t : WT) : TT := fun st H Q => ∃ (r : Rho) (S : Sto), GR K H r st ∧ GS K S H ∧ t r S (lowB K H Q)
def LowA (t : WA) : TA := fun st H Q => ∃ (r : Rho) (S : Sto), GR K H r st ∧ GS K S H ∧ t r S (lowL K H Q)
def LowS (t : WS) : TS := fun D st H => ∃ (r : Rho) (S : Sto), GR K H r st ∧ GS K S H ∧ t (lowD K H D) r S
def LowG (g : WG) : TG := fun v st H Q => ∃ (w : W) (r : Rho) (S : Sto), Rel K H w v ∧ GR K H r st ∧ GS K S H ∧ g w r S (lowP K H Q)
def LowGs (g : WGs) : TGs := fun vs st H Q => ∃ (ws : List W) (r : Rho) (S : Sto), Rels K H ws vs ∧ GR K H r st ∧ GS K S H ∧ g ws r S (lowP K H Q)
def LowR (r : WR2) : R2 := fun x y H Q => ∃ (wx wy : W) (S : Sto), GS K S H ∧ Rel K H wx x ∧ Rel K H wy y ∧ r wx wy S (lowQ K H Q)
def LowSp (sp : WSp) : Sp := fun vs H Q _ => ∃ (ws : List W) (S : Sto), Rels K H ws vs ∧ GS K S H ∧ sp ws S (lowQ K H Q)
def LowC (sp : WSp) : List V → Hp → VK → Prop := fun vs H Q => ∃ (ws : List W) (S : Sto), Rels K H ws vs ∧ GS K S H ∧ sp ws S (lowQ K H Q)
end
section
variable {K : PySem.W.Frag} {H H1 : Hp}
theorem lowQ.ext {Q : VK} {w : W} {S : Sto} (q : lowQ K H Q w S) (e : Ext K H H1) : lowQ K H1 Q w S := fun H' v e' => q H' v (e.trans e')
theorem lowB.ext {Q : Bool → Hp → Prop} {w : Bool} {S : Sto} (q : lowB K H Q w S) (e : Ext K H H1) : lowB K H1 Q w S := fun H' e' => q H' (e.trans e')
theorem lowL.ext {Q : List V → Hp → Prop} {w : List W} {S : Sto} (q : lowL K H Q w S) (e : Ext K H H1) : lowL K H1 Q w S := fun H' v e' => q H' v (e.trans e')
theorem lowP.ext {Q : L2.St → Hp → Prop} {r : Rho} {S : Sto} (q : lowP K H Q r S) (e : Ext K H H1) : lowP K H1 Q r S := fun st H' e' => q st H' (e.trans e')
theorem lowD.ext {D : Ends} (e : Ext K H H1) : (lowD K H D).le (lowD K H1 D) := ⟨fun _ _ q => lowP.ext q e, fun _ _ q => lowQ.ext q e, fun _ _ q => lowP.ext q e, fun _ _ q => lowP.ext q e⟩
theorem WD.le.refl {D : WD} : D.le D := ⟨fun _ _ h => h, fun _ _ h => h, fun _ _ h => h, fun _ _ h => h⟩
end
/-! ### the judgements -/
structure DE (X : Cx) (e : Expr) (t : WE) : Prop where
  mono : MonoE t
  pe : PE X e (LowE X.K t)
structure DT (X : Cx) (e : Expr) (t : WT) : Prop where
  mono : MonoT t
  pt : PT X e (LowT X.K t)
structure DW (X : Cx) (e : Expr) (t : WT) : Prop where
  mono : MonoT t
  pw : PW X e (LowT X.K t)
structure DA (X : Cx) (es : List Expr) (t : WA) : Prop where
  mono : MonoA t
  pa : PA X es (LowA X.K t)
structure DS (X : Cx) (s : Stmt) (t : WS) : Prop where
  mono : MonoS t
  ps : PS X s (LowS X.K t)
structure DSs (X : Cx) (s : List Stmt) (t : WS) : Prop where
  mono : MonoS t
  ps : PSs X s (LowS X.K t)
structure DG (X : Cx) (e : Expr) (g : WG) : Prop where
  mono : MonoG g
  pg : PG X e (LowG X.K g)
structure DGs (X : Cx) (es : List Expr) (g : WGs) : Prop where
  mono : MonoGs g
  pg : PGs X es (LowGs X.K g)
structure OpW (X : Cx) (f : Value → Value → Sem Value) (r : WR2) : Prop where
  mono : Mono2 r
  op : OpR X f (LowR X.K r)
structure CallW (X : Cx) (f : Value) (r : WSp) : Prop where
  mono : MonoSp r
  op : CallR X f (LowC X.K r)
section
variable {X : Cx}
theorem weakE {e : Expr} {t t' : TE} (h : PE X e t) (w : ∀ st H Q, t' st H Q → t st H Q) : PE X e t' := ⟨fun pins s st H Q I q => h.run pins s st H Q I (w _ _ _ q)⟩
theorem weakT {e : Expr} {t t' : TT} (h : PT X e t) (w : ∀ st H Q, t' st H Q → t st H Q) : PT X e t' := ⟨fun pins s st H Q I q => h.run pins s st H Q I (w _ _ _ q)⟩
theorem weakW {e : Expr} {t t' : TT} (h : PW X e t) (w : ∀ st H Q, t' st H Q → t st H Q) : PW X e t' := ⟨fun wh pins s st H Q I q => h.run wh pins s st H Q I (w _ _ _ q)⟩
theorem weakA {e : List Expr} {t t' : TA} (h : PA X e t) (w : ∀ st H Q, t' st H Q → t st H Q) : PA X e t' := ⟨fun p pins s st H Q I q => h.run p pins s st H Q I (w _ _ _ q)⟩
theorem weakS {e : Stmt} {t t' : TS} (h : PS X e t) (w : ∀ D st H, t' D st H → t D st H) : PS X e t' := ⟨fun pins s st H D I q => h.run pins s st H D I (w _ _ _ q)⟩
theorem weakSs {e : List Stmt} {t t' : TS} (h : PSs X e t) (w : ∀ D st H, t' D st H → t D st H) : PSs X e t' := ⟨fun pins s st H D I q => h.run pins s st H D I (w _ _ _ q)⟩
theorem weakG {e : Expr} {t t' : TG} (h : PG X e t) (w : ∀ v st H Q, t' v st H Q → t v st H Q) : PG X e t' := ⟨fun pins s st H v u Q I r q => h.run pins s st H v u Q I r (w _ _ _ _ q)⟩
theorem weakGs {e : List Expr} {t t' : TGs} (h : PGs X e t) (w : ∀ v st H Q, t' v st H Q → t v st H Q) : PGs X e t' := ⟨fun pins s st H v u Q I r q => h.run pins s st H v u Q I r (w _ _ _ _ q)⟩
end
/-! ### names, constants -/
def wVar (i : Nat) : WE := fun r S Q => match r[i]? with
  | some (some w) => Q w S
  | _ => False
def wC (w : W) : WE := fun _ S Q => Q w S
section
variable {X : Cx} {e a b c : Expr} {pos : Pos}
theorem mono_var (i : Nat) : MonoE (wVar i) := fun r S Q Q' h q => by
  unfold wVar at q ⊢
  split at q
  · exact h _ _ q
  · exact q
theorem de_var {i : Nat} (h : PE X e (tVar i)) : DE X e (wVar i) := by
  refine ⟨mono_var i, weakE h fun st H Q ⟨r, S, g, gs, q⟩ => ?_⟩
  unfold wVar at q
  split at q
  · rename_i w e
    obtain ⟨v, e1, e2⟩ := g.val i w e
    exact ⟨v, e1, q H v Ext.refl gs e2⟩
  · exact q.elim
theorem mono_c (w : W) : MonoE (wC w) := fun r S Q Q' h q => h _ _ q
theorem de_c {w : W} {v : V} (h : PE X e (tC v)) (hr : ∀ H, Rel X.K H w v) : DE X e (wC w) :=
  ⟨mono_c w, weakE h fun st H Q ⟨r, S, g, gs, q⟩ => q H v Ext.refl gs (hr H)⟩
theorem de_int {i j pos} : DE X (.Constant (.int i) j pos) (wC (.int i)) := de_c pe_int fun _ => by simp only [Rel]
theorem de_str {x j pos} : DE X (.Constant (.str x) j pos) (wC (.str x)) := de_c pe_str fun _ => by simp only [Rel]
theorem de_bl {i j pos} : DE X (.Constant (.bool i) j pos) (wC (.bl i)) := de_c pe_bl fun _ => by simp only [Rel]
theorem de_non {j pos} : DE X (.Constant .none j pos) (wC .non) := de_c pe_non fun _ => by simp only [Rel]
/-- a module's constant: an int, a tuple of the written part -/
theorem de_glob {x : Str} {w : W} {v : V} {u : Value} (hg : Gl X x) (hm : X.mg x = some u) (r : RelV v u) (hr : ∀ H, Rel X.K H w v) (hd : (x == ("__debug__" : Str)) = false := by decide) : DE X (.Name x pos) (wC w) := de_c (pe_glob hg hm r hd) hr
theorem de_ty {x : Str} {n : String} (hg : Gl X x) (hm : X.mg x = none) (hv : bootBuiltins x = some (.type n)) (hn : x ≠ "__name__" := by decide) (hd : (x == ("__debug__" : Str)) = false := by decide) : DE X (.Name x pos) (wC (.ty n)) :=
  de_c (v := .ty n) (pe_bltn hg hm hv rfl hn hd) fun _ => by simp only [Rel]
/-! ### two-place operations -/
def wOp (r : WR2) (ta tb : WE) : WE := fun rh S Q => ta rh S fun x S1 => tb rh S1 fun y S2 => r x y S2 Q
variable {ta tb tc : WE} {r r' : WR2}
theorem mono_op (hr : Mono2 r) (ha : MonoE ta) (hb : MonoE tb) : MonoE (wOp r ta tb) := fun rh S Q Q' h q =>
  ha _ _ _ _ (fun x S1 q1 => hb _ _ _ _ (fun y S2 q2 => hr _ _ _ _ _ h q2) q1) q
theorem low_op {st : L2.St} {H : Hp} {Q : VK} (hr : Mono2 r) (ha : MonoE ta) (hb : MonoE tb) (h : LowE X.K (wOp r ta tb) st H Q) : tOp (LowR X.K r) (LowE X.K ta) (LowE X.K tb) st H Q := by
  obtain ⟨rh, S, g, gs, q⟩ := h
  refine ⟨rh, S, g, gs, ha _ _ _ _ (fun wx S1 q1 H1 x e1 g1 r1 => ?_) q⟩
  refine ⟨rh, S1, g.ext e1, g1, hb _ _ _ _ (fun wy S2 q2 H2 y e2 g2 r2 => ?_) q1⟩
  exact ⟨wx, wy, S2, g2, r1.ext e2, r2, hr _ _ _ _ _ (fun w S' q => q.ext (e1.trans e2)) q2⟩
theorem de_op {op : Operator} (ho : OpW X (binaryOp op) r) (ha : DE X a ta) (hb : DE X b tb) : DE X (.BinOp a op b pos) (wOp r ta tb) :=
  ⟨mono_op ho.mono ha.mono hb.mono, weakE (pe_op ho.op ha.pe hb.pe) fun _ _ _ q => low_op ho.mono ha.mono hb.mono q⟩
theorem de_cmp {op : CmpOp} (ho : OpW X (compareOp op) r) (ha : DE X a ta) (hb : DE X b tb) (hm : behindInMarks op b = false) : DE X (.Compare a [op] [b] pos) (wOp r ta tb) :=
  ⟨mono_op ho.mono ha.mono hb.mono, weakE (pe_cmpR ho.op ha.pe hb.pe hm) fun _ _ _ q => low_op ho.mono ha.mono hb.mono q⟩
/-- a value that is a bool, as a test -/
def wB (t : WE) : WT := fun rh S Q => t rh S fun x S1 => match x with
  | .bl b => Q b S1
  | _ => False
theorem mono_b (ht : MonoE ta) : MonoT (wB ta) := fun rh S Q Q' h q => ht _ _ _ _ (fun x S1 q1 => by
  cases x <;> first | exact h _ _ q1 | exact q1) q
theorem low_b {st : L2.St} {H : Hp} {Q : Bool → Hp → Prop} (ha : MonoE ta) (h : LowT X.K (wB ta) st H Q) : LowE X.K ta st H fun x H' => ∃ k, x = .bl k ∧ Q k H' := by
  obtain ⟨rh, S, g, gs, q⟩ := h
  refine ⟨rh, S, g, gs, ha _ _ _ _ (fun w S1 q1 H1 x e1 g1 r1 => ?_) q⟩
  cases w with
  | bl b => simp only [Rel] at r1; exact ⟨b, r1, q1 H1 e1 g1⟩
  | _ => exact q1.elim
theorem dt_cmp {op : CmpOp} (ho : OpW X (compareOp op) r) (ha : DE X a ta) (hb : DE X b tb) (hm : behindInMarks op b = false) : DT X (.Compare a [op] [b] pos) (wB (wOp r ta tb)) := by
  have m := mono_op ho.mono ha.mono hb.mono
  exact ⟨mono_b m, weakT (pt_cmpR ho.op ha.pe hb.pe hm) fun _ _ _ q => low_op ho.mono ha.mono hb.mono (low_b m q)⟩
/-- an expression whose value is a bool, as a test: not for comparisons, and, or, not -/
theorem dt_val (ha : DE X e ta) (he : ∀ whole, isTrue e X.env whole = (do let v ← whole; standAt e.pos; holding [v] (truthy v)) := by intro _; rfl) : DT X e (wB ta) :=
  ⟨mono_b ha.mono, weakT (pt_val ha.pe he) fun _ _ _ q => low_b ha.mono q⟩
def wChain (r r' : WR2) (ta tb tc : WE) : WE := fun rh S Q => ta rh S fun x S1 => tb rh S1 fun y S2 => r x y S2 fun z S3 => match z with
  | .bl k => if k = true then tc rh S3 fun w S4 => r' y w S4 Q else Q (.bl false) S3
  | _ => False
theorem mono_chain (hr : Mono2 r) (hr' : Mono2 r') (ha : MonoE ta) (hb : MonoE tb) (hc : MonoE tc) : MonoE (wChain r r' ta tb tc) := fun rh S Q Q' h q =>
  ha _ _ _ _ (fun x S1 q1 => hb _ _ _ _ (fun y S2 q2 => hr _ _ _ _ _ (fun z S3 q3 => by
    cases z with
    | bl k => cases k with
      | true => exact hc _ _ _ _ (fun w S4 q4 => hr' _ _ _ _ _ h q4) q3
      | false => exact h _ _ q3
    | _ => exact q3) q2) q1) q
theorem low_chain {st : L2.St} {H : Hp} {Q : VK} (hr : Mono2 r) (hr' : Mono2 r') (ha : MonoE ta) (hb : MonoE tb) (hc : MonoE tc) (h : LowE X.K (wChain r r' ta tb tc) st H Q) :
    tChain (LowR X.K r) (LowR X.K r') (LowE X.K ta) (LowE X.K tb) (LowE X.K tc) st H Q := by
  obtain ⟨rh, S, g, gs, q⟩ := h
  refine ⟨rh, S, g, gs, ha _ _ _ _ (fun wx S1 q1 H1 x e1 g1 r1 => ?_) q⟩
  refine ⟨rh, S1, g.ext e1, g1, hb _ _ _ _ (fun wy S2 q2 H2 y e2 g2 r2 => ?_) q1⟩
  refine ⟨wx, wy, S2, g2, r1.ext e2, r2, hr _ _ _ _ _ (fun w S3 q3 H3 z e3 g3 r3 => ?_) q2⟩
  cases w with
  | bl k =>
    simp only [Rel] at r3
    refine ⟨k, r3, ?_⟩
    cases k with
    | true =>
      refine ⟨rh, S3, ((g.ext e1).ext e2).ext e3, g3, hc _ _ _ _ (fun w4 S4 q4 H4 z4 e4 g4 r4 => ?_) q3⟩
      exact ⟨wy, w4, S4, g4, (r2.ext e3).ext e4, r4, hr' _ _ _ _ _ (fun w S' q => q.ext (((e1.trans e2).trans e3).trans e4)) q4⟩
    | false => exact q3 H3 (.bl false) ((e1.trans e2).trans e3) g3 (by simp only [Rel])
  | _ => exact q3.elim
theorem dt_chain {op op' : CmpOp} (ho : OpW X (compareOp op) r) (ho' : OpW X (compareOp op') r') (ha : DE X a ta) (hb : DE X b tb) (hc : DE X c tc)
    (hm : lastMarks [op, op'] [b, c] = false := by with_unfolding_all rfl) : DT X (.Compare a [op, op'] [b, c] pos) (wB (wChain r r' ta tb tc)) := by
  have m := mono_chain ho.mono ho'.mono ha.mono hb.mono hc.mono
  exact ⟨mono_b m, weakT (pt_chain ho.op ho'.op ha.pe hb.pe hc.pe hm) fun _ _ _ q => low_chain ho.mono ho'.mono ha.mono hb.mono hc.mono (low_b m q)⟩
end
/-! ### and, or, not, if -/
section
variable {X : Cx} {e a b c : Expr} {pos : Pos} {ta tb : WE} {tA tB tC' : WT} {rest : List Expr}
def wAnd (t u : WT) : WT := fun r S Q => t r S fun c S1 => if c = true then u r S1 Q else Q false S1
def wOr (t u : WT) : WT := fun r S Q => t r S fun c S1 => if c = true then Q true S1 else u r S1 Q
def wNot (t : WT) : WT := fun r S Q => t r S fun c S1 => Q (!c) S1
theorem dw_and1 (h : DT X a tA) : DW X (.BoolOp .And [a] pos) tA := ⟨h.mono, pw_and1 h.pt⟩
theorem dw_or1 (h : DT X a tA) : DW X (.BoolOp .Or [a] pos) tA := ⟨h.mono, pw_or1 h.pt⟩
theorem dw_and (ha : DT X a tA) (hb : DW X (.BoolOp .And (b :: rest) pos) tB) : DW X (.BoolOp .And (a :: b :: rest) pos) (wAnd tA tB) := by
  refine ⟨fun r S Q Q' h q => ha.mono _ _ _ _ (fun c S1 q1 => ?_) q, weakW (pw_and ha.pt hb.pw) fun st H Q ⟨r, S, g, gs, q⟩ => ⟨r, S, g, gs, ha.mono _ _ _ _ (fun c S1 q1 H1 e1 g1 => ?_) q⟩⟩
  · cases c with
    | true => exact hb.mono _ _ _ _ h q1
    | false => exact h _ _ q1
  · cases c with
    | true => exact ⟨r, S1, g.ext e1, g1, hb.mono _ _ _ _ (fun b S2 q2 => q2.ext e1) q1⟩
    | false => exact q1 H1 e1 g1
theorem dw_or (ha : DT X a tA) (hb : DW X (.BoolOp .Or (b :: rest) pos) tB) : DW X (.BoolOp .Or (a :: b :: rest) pos) (wOr tA tB) := by
  refine ⟨fun r S Q Q' h q => ha.mono _ _ _ _ (fun c S1 q1 => ?_) q, weakW (pw_or ha.pt hb.pw) fun st H Q ⟨r, S, g, gs, q⟩ => ⟨r, S, g, gs, ha.mono _ _ _ _ (fun c S1 q1 H1 e1 g1 => ?_) q⟩⟩
  · cases c with
    | false => exact hb.mono _ _ _ _ h q1
    | true => exact h _ _ q1
  · cases c with
    | false => exact ⟨r, S1, g.ext e1, g1, hb.mono _ _ _ _ (fun b S2 q2 => q2.ext e1) q1⟩
    | true => exact q1 H1 e1 g1
theorem DW.dt (h : DW X e tA) : DT X e tA := ⟨h.mono, h.pw.pt⟩
theorem dt_not (ha : DT X a tA) : DT X (.UnaryOp .Not a pos) (wNot tA) :=
  ⟨fun r S Q Q' h q => ha.mono _ _ _ _ (fun c S1 q1 => h _ _ q1) q, weakT (pt_not ha.pt) fun st H Q ⟨r, S, g, gs, q⟩ => ⟨r, S, g, gs, ha.mono _ _ _ _ (fun c S1 q1 H1 e1 g1 => q1 H1 e1 g1) q⟩⟩
/-- as values: all but the last are bools -/
def wAndV (ta tb : WE) : WE := fun r S Q => ta r S fun x S1 => match x with
  | .bl c => if c = true then tb r S1 Q else Q (.bl false) S1
  | _ => False
def wOrV (ta tb : WE) : WE := fun r S Q => ta r S fun x S1 => match x with
  | .bl c => if c = true then Q (.bl true) S1 else tb r S1 Q
  | _ => False
def wNotV (ta : WE) : WE := fun r S Q => ta r S fun x S1 => match x with
  | .bl c => Q (.bl (!c)) S1
  | _ => False
/-- the truth of a value -/
def truW (S : Sto) : W → Option Bool
  | .non => some false
  | .bl b => some b
  | .int i => some (i != 0)
  | .tup ws => some (!ws.isEmpty)
  | .rl ws => some (!ws.isEmpty)
  | .ref a => match S a with
    | some (.lst ws) => some (!ws.isEmpty)
    | some (.dk kvs) => some (!kvs.isEmpty)
    | _ => none
  | _ => none
def wOrT (ta tb : WE) : WE := fun r S Q => ta r S fun x S1 => match truW S1 x with
  | some c => if c = true then Q x S1 else tb r S1 Q
  | none => False
/-- a test by truth -/
def wTr (ta : WE) : WT := fun r S Q => ta r S fun x S1 => match truW S1 x with
  | some c => Q c S1
  | none => False
def wIf (t : WT) (ta tb : WE) : WE := fun r S Q => t r S fun c S1 => if c = true then ta r S1 Q else tb r S1 Q
theorem de_if (hc : DT X c tA) (ha : DE X a ta) (hb : DE X b tb) : DE X (.IfExp c a b pos) (wIf tA ta tb) := by
  refine ⟨fun r S Q Q' h q => hc.mono _ _ _ _ (fun x S1 q1 => ?_) q, weakE (pe_ifExp hc.pt ha.pe hb.pe) fun st H Q ⟨r, S, g, gs, q⟩ => ⟨r, S, g, gs, hc.mono _ _ _ _ (fun x S1 q1 H1 e1 g1 => ?_) q⟩⟩
  · cases x with
    | true => exact ha.mono _ _ _ _ h q1
    | false => exact hb.mono _ _ _ _ h q1
  · cases x with
    | true => exact ⟨r, S1, g.ext e1, g1, ha.mono _ _ _ _ (fun b S2 q2 => q2.ext e1) q1⟩
    | false => exact ⟨r, S1, g.ext e1, g1, hb.mono _ _ _ _ (fun b S2 q2 => q2.ext e1) q1⟩
/-! ### argument lists, displays -/
def wNil : WA := fun _ S Q => Q [] S
def wCons (ta : WE) (tr : WA) : WA := fun r S Q => ta r S fun x S1 => tr r S1 fun xs S2 => Q (x :: xs) S2
variable {es : List Expr} {tr : WA}
theorem da_nil : DA X [] wNil := ⟨fun r S Q Q' h q => h _ _ q, weakA pa_nil fun st H Q ⟨r, S, g, gs, q⟩ => q H [] Ext.refl gs (Rels.nil.mpr rfl)⟩
theorem da_cons (ha : DE X e ta) (hr : DA X es tr) (hs : starEach (e :: es) X.env = (false, eval e X.env) :: starEach es X.env := by rfl) : DA X (e :: es) (wCons ta tr) := by
  refine ⟨fun r S Q Q' h q => ha.mono _ _ _ _ (fun x S1 q1 => hr.mono _ _ _ _ (fun xs S2 q2 => h _ _ q2) q1) q, weakA (pa_cons ha.pe hr.pa hs) fun st H Q ⟨r, S, g, gs, q⟩ => ⟨r, S, g, gs, ha.mono _ _ _ _ (fun x S1 q1 H1 v e1 g1 r1 => ?_) q⟩⟩
  exact ⟨r, S1, g.ext e1, g1, hr.mono _ _ _ _ (fun xs S2 q2 H2 vs e2 g2 r2 => q2 H2 _ (e1.trans e2) g2 (Rels.cons.mpr ⟨v, vs, rfl, r1.ext e2, r2⟩)) q1⟩
def wTup (t : WA) : WE := fun r S Q => t r S fun ws S1 => ws.length ≤ sizeLine ∧ Q (.tup ws) S1
def wLst (t : WA) : WE := fun r S Q => t r S fun ws S1 => ws.length ≤ sizeLine ∧ ∀ p, S1 p = none → Q (.ref p) (put S1 p (.lst ws))
theorem new_tup {K : PySem.W.Frag} {H : Hp} {p : Addr} {ws : List W} {vs : List V} (h : H p = none) (r : Rels K H ws vs) : Rel K (upd H p (.tup vs)) (.tup ws) (.ref p) := by
  simp only [Rel]
  exact ⟨p, vs, rfl, .of upd_same, r.ext (Ext.new h)⟩
theorem new_lst {K : PySem.W.Frag} {S : Sto} {H : Hp} {p : Addr} {ws : List W} {vs : List V} (gs : GS K S H) (h : H p = none) (r : Rels K H ws vs) : GS K (put S p (.lst ws)) (upd H p (.lst vs)) :=
  gs.new h ⟨vs, upd_same, r.ext (Ext.new h)⟩
theorem de_tup {x1} (h : DA X es tr) : DE X (.Tuple es x1 pos) (wTup tr) := by
  refine ⟨fun r S Q Q' hq q => h.mono _ _ _ _ (fun ws S1 q1 => ⟨q1.1, hq _ _ q1.2⟩) q, weakE (pe_tup h.pa) fun st H Q ⟨r, S, g, gs, q⟩ => ⟨r, S, g, gs, h.mono _ _ _ _ (fun ws S1 q1 H1 vs e1 g1 r1 => ?_) q⟩⟩
  refine ⟨by rw [← r1.length]; exact q1.1, fun p hp => q1.2 _ _ (e1.trans (Ext.new hp)) (g1.ext_new hp) (new_tup hp r1)⟩
theorem de_lst (h : DA X es tr) : DE X (.List es pos) (wLst tr) := by
  refine ⟨fun r S Q Q' hq q => h.mono _ _ _ _ (fun ws S1 q1 => ⟨q1.1, fun p hp => hq _ _ (q1.2 p hp)⟩) q, weakE (pe_lst h.pa) fun st H Q ⟨r, S, g, gs, q⟩ => ⟨r, S, g, gs, h.mono _ _ _ _ (fun ws S1 q1 H1 vs e1 g1 r1 => ?_) q⟩⟩
  exact ⟨by rw [← r1.length]; exact q1.1, fun p hp => q1.2 p (g1.free hp) _ _ (e1.trans (Ext.new hp)) (new_lst g1 hp r1) (by simp only [Rel])⟩
end
end WL
namespace WL
open PySem PySem.Spec PyProof.Rows L2
section
variable {X : Cx} {e a b c : Expr} {pos : Pos} {ta tb : WE}
/-! ### the operators -/
def rAddW : WR2
  | .int i, .int j, S, Q => Q (.int (i + j)) S
  | .str x, .str y, S, Q => x.length + y.length ≤ sizeLine ∧ Q (.str (x ++ y)) S
  | .tup xs, .tup ys, S, Q => xs.length + ys.length ≤ sizeLine ∧ Q (.tup (xs ++ ys)) S
  | .ref a, .ref b, S, Q => match S a, S b with
    | some (.lst xs), some (.lst ys) => xs.length + ys.length ≤ sizeLine ∧ ∀ p, S p = none → Q (.ref p) (put S p (.lst (xs ++ ys)))
    | _, _ => False
  | _, _, _, _ => False
theorem ow_add : OpW X (binaryOp .Add) rAddW := by
  refine ⟨fun x y S Q Q' h q => ?_, fun pins s st H x y v u Q I rx ry ⟨wx, wy, S, gs, r1, r2, q⟩ => ?_⟩
  · unfold rAddW at q ⊢
    split at q
    · exact h _ _ q
    · exact ⟨q.1, h _ _ q.2⟩
    · exact ⟨q.1, h _ _ q.2⟩
    · split at q
      · exact ⟨q.1, fun p hp => h _ _ (q.2 p hp)⟩
      · exact q
    · exact q
  · unfold rAddW at q
    split at q
    · simp only [Rel] at r1 r2
      subst r1 r2
      exact op_add pins s st H _ _ v u Q I rx ry ⟨_, _, rfl, rfl, q H _ Ext.refl gs (by simp only [Rel])⟩
    · simp only [Rel] at r1 r2
      subst r1 r2
      exact op_add_str pins s st H _ _ v u Q I rx ry ⟨_, _, rfl, rfl, q.1, q.2 H _ Ext.refl gs (by simp only [Rel])⟩
    · rename_i xs ys
      simp only [Rel] at r1 r2
      obtain ⟨a, vs, rfl, t1, l1⟩ := r1
      obtain ⟨b, us, rfl, t2, l2⟩ := r2
      refine op_catA pins s st H _ _ v u Q I rx ry ⟨a, b, vs, us, rfl, rfl, t1, t2, by rw [← l1.length, ← l2.length]; exact q.1, fun e => ?_, fun e1 e => ?_, fun e1 e2 p hp => ?_⟩
      · refine q.2 H _ Ext.refl gs ?_
        simp only [Rel]
        refine ⟨b, us, rfl, t2, ?_⟩
        have z := l1.append l2
        rw [e] at z
        exact z
      · refine q.2 H _ Ext.refl gs ?_
        simp only [Rel]
        refine ⟨a, vs, rfl, t1, ?_⟩
        have z := l1.append l2
        rw [e, List.append_nil] at z
        exact z
      · exact q.2 _ _ (Ext.new hp) (gs.ext_new hp) (new_tup hp (l1.append l2))
    · rename_i a b
      simp only [Rel] at r1 r2
      subst r1 r2
      split at q
      · rename_i xs ys ea eb
        obtain ⟨vs, h1, l1⟩ := gs.at ea
        obtain ⟨us, h2, l2⟩ := gs.at eb
        exact op_cat pins s st H _ _ v u Q I rx ry ⟨a, b, vs, us, rfl, rfl, h1, h2, by rw [← l1.length, ← l2.length]; exact q.1, fun p hp => q.2 p (gs.free hp) _ _ (Ext.new hp) (new_lst gs hp (l1.append l2)) (by simp only [Rel])⟩
      · exact q.elim
    · exact q.elim
def rSubW : WR2
  | .int i, .int j, S, Q => Q (.int (i - j)) S
  | _, _, _, _ => False
theorem ow_sub : OpW X (binaryOp .Sub) rSubW := by
  refine ⟨fun x y S Q Q' h q => ?_, fun pins s st H x y v u Q I rx ry ⟨wx, wy, S, gs, r1, r2, q⟩ => ?_⟩
  · unfold rSubW at q ⊢
    split at q
    · exact h _ _ q
    · exact q
  · unfold rSubW at q
    split at q
    · simp only [Rel] at r1 r2
      subst r1 r2
      exact op_sub pins s st H _ _ v u Q I rx ry ⟨_, _, rfl, rfl, q H _ Ext.refl gs (by simp only [Rel])⟩
    · exact q.elim
def rMulW : WR2
  | .int i, .int j, S, Q => CMul i j ∧ Q (.int (i * j)) S
  | .ref a, .int k, S, Q => match S a with
    | some (.lst xs) => (-(2 ^ 63) ≤ k ∧ k < 2 ^ 63 ∧ xs.length * k.toNat ≤ sizeLine) ∧ ∀ p, S p = none → Q (.ref p) (put S p (.lst (List.replicate k.toNat xs).flatten))
    | _ => False
  | _, _, _, _ => False
theorem ow_mul : OpW X (binaryOp .Mult) rMulW := by
  refine ⟨fun x y S Q Q' h q => ?_, fun pins s st H x y v u Q I rx ry ⟨wx, wy, S, gs, r1, r2, q⟩ => ?_⟩
  · unfold rMulW at q ⊢
    split at q
    · exact ⟨q.1, h _ _ q.2⟩
    · split at q
      · exact ⟨q.1, fun p hp => h _ _ (q.2 p hp)⟩
      · exact q
    · exact q
  · unfold rMulW at q
    split at q
    · simp only [Rel] at r1 r2
      subst r1 r2
      exact op_mul pins s st H _ _ v u Q I rx ry ⟨_, _, rfl, rfl, q.1, q.2 H _ Ext.refl gs (by simp only [Rel])⟩
    · rename_i a k
      simp only [Rel] at r1 r2
      subst r1 r2
      split at q
      · rename_i xs ea
        obtain ⟨vs, h1, l1⟩ := gs.at ea
        exact op_rep pins s st H _ _ v u Q I rx ry ⟨a, k, vs, rfl, rfl, h1, q.1.1, q.1.2.1, by rw [← l1.length]; exact q.1.2.2, fun p hp => q.2 p (gs.free hp) _ _ (Ext.new hp) (new_lst gs hp (l1.flatten_rep _)) (by simp only [Rel])⟩
      · exact q.elim
    · exact q.elim
/-- ints under a condition -/
def rIW (C : Int → Int → Prop) (g : Int → Int → W) : WR2
  | .int i, .int j, S, Q => C i j ∧ Q (g i j) S
  | _, _, _, _ => False
theorem mono_iW {C : Int → Int → Prop} {g : Int → Int → W} : Mono2 (rIW C g) := fun x y S Q Q' h q => by
  unfold rIW at q ⊢
  split at q
  · exact ⟨q.1, h _ _ q.2⟩
  · exact q
theorem ow_int {f : Value → Value → Sem Value} {C : Int → Int → Prop} {g : Int → Int → V} {g' : Int → Int → W} (h : OpR X f (rI C g)) (hg : ∀ H i j, Rel X.K H (g' i j) (g i j)) : OpW X f (rIW C g') := by
  refine ⟨mono_iW, fun pins s st H x y v u Q I rx ry ⟨wx, wy, S, gs, r1, r2, q⟩ => ?_⟩
  unfold rIW at q
  split at q
  · simp only [Rel] at r1 r2
    subst r1 r2
    exact h pins s st H _ _ v u Q I rx ry ⟨_, _, rfl, rfl, q.1, q.2 H _ Ext.refl gs (hg _ _ _)⟩
  · exact q.elim
def rMod : WR2 := rIW (fun _ j => 0 < j) fun i j => .int (i % j)
theorem ow_mod : OpW X (binaryOp .Mod) rMod := ow_int op_mod fun _ _ _ => by simp only [Rel]
def rDiv : WR2 := rIW CDiv fun i j => .int (i / j)
theorem ow_fdiv : OpW X (binaryOp .FloorDiv) rDiv := ow_int op_fdiv fun _ _ _ => by simp only [Rel]
def rPow : WR2 := rIW CPow fun i j => .int (i ^ j.toNat)
theorem ow_pow : OpW X (binaryOp .Pow) rPow := ow_int op_pow fun _ _ _ => by simp only [Rel]
/-- ints to bools -/
def rIB (g : Int → Int → Bool) : WR2
  | .int i, .int j, S, Q => Q (.bl (g i j)) S
  | _, _, _, _ => False
theorem ow_ib {f : Value → Value → Sem Value} {g : Int → Int → Bool} (h : OpR X f (rI0 fun i j => .bl (g i j))) : OpW X f (rIB g) := by
  refine ⟨fun x y S Q Q' h q => ?_, fun pins s st H x y v u Q I rx ry ⟨wx, wy, S, gs, r1, r2, q⟩ => ?_⟩
  · unfold rIB at q ⊢
    split at q
    · exact h _ _ q
    · exact q
  · unfold rIB at q
    split at q
    · simp only [Rel] at r1 r2
      subst r1 r2
      exact h pins s st H _ _ v u Q I rx ry ⟨_, _, rfl, rfl, q H _ Ext.refl gs (by simp only [Rel])⟩
    · exact q.elim
def rLt : WR2 := rIB fun i j => decide (i < j)
def rLe : WR2 := rIB fun i j => decide (i ≤ j)
def rGt : WR2 := rIB fun i j => decide (j < i)
def rGe : WR2 := rIB fun i j => decide (j ≤ i)
theorem ow_lt : OpW X (compareOp .Lt) rLt := ow_ib op_lt
theorem ow_le : OpW X (compareOp .LtE) rLe := ow_ib op_le
theorem ow_gt : OpW X (compareOp .Gt) rGt := ow_ib op_gt
theorem ow_ge : OpW X (compareOp .GtE) rGe := ow_ib op_ge
/-- is None -/
def isNon : W → Bool
  | .non => true
  | _ => false
def rIsN : WR2 := fun x y S Q => match y with
  | .non => Q (.bl (isNon x)) S
  | _ => False
def rNotN : WR2 := fun x y S Q => match y with
  | .non => Q (.bl (!isNon x)) S
  | _ => False
theorem Rel.non {K : PySem.W.Frag} {H : Hp} {w : W} {v : V} (r : Rel K H w v) : decide (v = .non) = isNon w := by
  cases w with
  | tup ws => simp only [Rel] at r; obtain ⟨a, vs, rfl, _⟩ := r; rfl
  | rl ws => simp only [Rel] at r; obtain ⟨a, vs, rfl, _⟩ := r; rfl
  | _ => simp only [Rel] at r; subst r; rfl
theorem ow_isN : OpW X (compareOp .Is) rIsN := by
  refine ⟨fun x y S Q Q' h q => ?_, fun pins s st H x y v u Q I rx ry ⟨wx, wy, S, gs, r1, r2, q⟩ => ?_⟩
  · unfold rIsN at q ⊢
    split at q
    · exact h _ _ q
    · exact q
  · unfold rIsN at q
    split at q
    · simp only [Rel] at r2
      subst r2
      exact op_isN pins s st H _ _ v u Q I rx ry ⟨rfl, by rw [r1.non]; exact q H _ Ext.refl gs (by simp only [Rel])⟩
    · exact q.elim
theorem ow_notN : OpW X (compareOp .IsNot) rNotN := by
  refine ⟨fun x y S Q Q' h q => ?_, fun pins s st H x y v u Q I rx ry ⟨wx, wy, S, gs, r1, r2, q⟩ => ?_⟩
  · unfold rNotN at q ⊢
    split at q
    · exact h _ _ q
    · exact q
  · unfold rNotN at q
    split at q
    · simp only [Rel] at r2
      subst r2
      exact op_notN pins s st H _ _ v u Q I rx ry ⟨rfl, by rw [r1.non]; exact q H _ Ext.refl gs (by simp only [Rel])⟩
    · exact q.elim
/-! ### == of data -/
mutual
inductive Dat (S : Sto) : W → PyData → Prop
  | non : Dat S .non .none
  | bl (b : Bool) : Dat S (.bl b) (.bool b)
  | int (i : Int) : Dat S (.int i) (.int i)
  | str (x : Str) : Dat S (.str x) (.str x)
  | tup {ws : List W} {ds : List PyData} : DatL S ws ds → Dat S (.tup ws) (.tuple ds)
  | lst {a : Addr} {ws : List W} {ds : List PyData} : S a = some (.lst ws) → DatL S ws ds → Dat S (.ref a) (.list ds)
inductive DatL (S : Sto) : List W → List PyData → Prop
  | nil : DatL S [] []
  | cons {v : W} {vs : List W} {d : PyData} {ds : List PyData} : Dat S v d → DatL S vs ds → DatL S (v :: vs) (d :: ds)
end
mutual
theorem Dat.dp {K : PySem.W.Frag} {S : Sto} {H : Hp} (gs : GS K S H) : ∀ (d : PyData) {w : W} {v : V}, Dat S w d → Rel K H w v → Dp K H v d
  | .none, _, _, h, r => by cases h; simp only [Rel] at r; subst r; exact .non
  | .bool b, _, _, h, r => by cases h; simp only [Rel] at r; subst r; exact .bl b
  | .int i, _, _, h, r => by cases h; simp only [Rel] at r; subst r; exact .int i
  | .str x, _, _, h, r => by cases h; simp only [Rel] at r; subst r; exact .str x
  | .tuple ds, _, _, h, r => by
    cases h with
    | tup hl =>
      simp only [Rel] at r
      obtain ⟨a, vs, rfl, t, l⟩ := r
      exact .tup t (DatL.dp gs ds hl l)
  | .list ds, _, _, h, r => by
    cases h with
    | lst e hl =>
      simp only [Rel] at r
      subst r
      obtain ⟨vs, h1, l⟩ := gs.at e
      exact .lst (.of h1) (DatL.dp gs ds hl l)
  | .dict _, _, _, h, _ => by cases h
theorem DatL.dp {K : PySem.W.Frag} {S : Sto} {H : Hp} (gs : GS K S H) : ∀ (ds : List PyData) {ws : List W} {vs : List V}, DatL S ws ds → Rels K H ws vs → DpAll K H vs ds
  | [], _, _, h, r => by cases h; rw [Rels.nil.mp r]; exact .nil
  | d :: ds, _, _, h, r => by
    cases h with
    | cons h1 h2 =>
      obtain ⟨v, vr, rfl, r1, r2⟩ := Rels.cons.mp r
      exact .cons (Dat.dp gs d h1 r1) (DatL.dp gs ds h2 r2)
end
/-- scalars that are known to be the same or not -/
def seqW : W → W → Option Bool
  | .str x, .str y => some (decide (x = y))
  | .int x, .int y => some (decide (x = y))
  | .bl x, .bl y => some (decide (x = y))
  | .non, .non => some true
  | .non, .int _ => some false
  | .int _, .non => some false
  | .non, .str _ => some false
  | .str _, .non => some false
  | .non, .bl _ => some false
  | .bl _, .non => some false
  | .str _, .int _ => some false
  | .int _, .str _ => some false
  | .str _, .bl _ => some false
  | .bl _, .str _ => some false
  | _, _ => none
theorem seqW_ok {K : PySem.W.Frag} {H : Hp} {wx wy : W} {x y : V} {b : Bool} (r1 : Rel K H wx x) (r2 : Rel K H wy y) (h : seqW wx wy = some b) : scal x y = true ∧ decide (x = y) = b := by
  unfold seqW at h
  split at h <;> first
    | (simp only [Rel] at r1 r2; subst r1 r2; simp only [Option.some.injEq] at h; subst h; exact ⟨rfl, by simp⟩)
    | cases h
def rEqW : WR2 := fun x y S Q => match seqW x y with
  | some b => Q (.bl b) S
  | none => ∃ d e, Dat S x d ∧ Dat S y e ∧ SeqAt.shaped d = true ∧ SeqAt.shaped e = true ∧ Q (.bl (PyData.eqv d e)) S
def rNeW : WR2 := fun x y S Q => match seqW x y with
  | some b => Q (.bl (!b)) S
  | none => ∃ d e, Dat S x d ∧ Dat S y e ∧ SeqAt.shaped d = true ∧ SeqAt.shaped e = true ∧ Q (.bl (!PyData.eqv d e)) S
theorem ow_eq (hu : X.A.units + 64 < cLine) : OpW X (compareOp .Eq) rEqW := by
  refine ⟨fun x y S Q Q' h q => ?_, fun pins s st H x y v u Q I rx ry ⟨wx, wy, S, gs, r1, r2, q⟩ => ?_⟩
  · unfold rEqW at q ⊢
    split at q
    · exact h _ _ q
    · obtain ⟨d, e, h1, h2, h3, h4, q⟩ := q
      exact ⟨d, e, h1, h2, h3, h4, h _ _ q⟩
  · unfold rEqW at q
    split at q
    · rename_i b eb
      obtain ⟨z1, z2⟩ := seqW_ok r1 r2 eb
      exact op_eq pins s st H _ _ v u Q I rx ry ⟨z1, by rw [z2]; exact q H _ Ext.refl gs (by simp only [Rel])⟩
    · obtain ⟨d, e, h1, h2, h3, h4, q⟩ := q
      exact op_eqD hu pins s st H _ _ v u Q I rx ry ⟨d, e, Dat.dp gs d h1 r1, Dat.dp gs e h2 r2, h3, h4, q H _ Ext.refl gs (by simp only [Rel])⟩
theorem ow_ne (hu : X.A.units + 64 < cLine) : OpW X (compareOp .NotEq) rNeW := by
  refine ⟨fun x y S Q Q' h q => ?_, fun pins s st H x y v u Q I rx ry ⟨wx, wy, S, gs, r1, r2, q⟩ => ?_⟩
  · unfold rNeW at q ⊢
    split at q
    · exact h _ _ q
    · obtain ⟨d, e, h1, h2, h3, h4, q⟩ := q
      exact ⟨d, e, h1, h2, h3, h4, h _ _ q⟩
  · unfold rNeW at q
    split at q
    · rename_i b eb
      obtain ⟨z1, z2⟩ := seqW_ok r1 r2 eb
      exact op_ne pins s st H _ _ v u Q I rx ry ⟨z1, by rw [z2]; exact q H _ Ext.refl gs (by simp only [Rel])⟩
    · obtain ⟨d, e, h1, h2, h3, h4, q⟩ := q
      exact op_neD hu pins s st H _ _ v u Q I rx ry ⟨d, e, Dat.dp gs d h1 r1, Dat.dp gs e h2 r2, h3, h4, q H _ Ext.refl gs (by simp only [Rel])⟩
/-! ### in, not in: flat items -/
def flatW : W → Bool
  | .non => true
  | .bl _ => true
  | .int _ => true
  | .str _ => true
  | _ => false
/-- == of flat values -/
def eqW : W → W → Bool
  | .non, .non => true
  | .bl a, .bl b => a == b
  | .bl a, .int b => (if a then 1 else 0) == b
  | .int a, .bl b => a == (if b then 1 else 0)
  | .int a, .int b => a == b
  | .str a, .str b => a == b
  | _, _ => false
def inW (x : W) (ys : List W) : Bool := ys.any fun y => eqW y x
def seqOf (S : Sto) : W → Option (List W)
  | .tup ws => some ws
  | .rl ws => some ws
  | .ref a => match S a with
    | some (.lst ws) => some ws
    | _ => none
  | _ => none
theorem seqOf_ok {K : PySem.W.Frag} {S : Sto} {H : Hp} {w : W} {v : V} {ws : List W} (gs : GS K S H) (r : Rel K H w v) (h : seqOf S w = some ws) : ∃ p vs, v = .ref p ∧ (SqL K H p vs ∨ SqT K H p vs) ∧ Rels K H ws vs := by
  cases w with
  | tup xs => simp only [Rel] at r; simp only [seqOf, Option.some.injEq] at h; subst h; obtain ⟨a, vs, rfl, t, l⟩ := r; exact ⟨a, vs, rfl, .inr t, l⟩
  | rl xs => simp only [Rel] at r; simp only [seqOf, Option.some.injEq] at h; subst h; obtain ⟨a, vs, rfl, t, l⟩ := r; exact ⟨a, vs, rfl, .inl t.seq, l⟩
  | ref a =>
    simp only [Rel] at r
    subst r
    simp only [seqOf] at h
    split at h
    · rename_i xs e
      cases h
      obtain ⟨vs, h1, l⟩ := gs.at e
      exact ⟨a, vs, rfl, .inl (.of h1), l⟩
    · cases h
  | _ => simp [seqOf] at h
def rInW (neg : Bool) : WR2 := fun x y S Q => match seqOf S y with
  | some ws => (flatW x = true ∧ ws.all flatW = true) ∧ Q (.bl (if neg then !inW x ws else inW x ws)) S
  | none => False
/-! ### x[i] -/
theorem atI_ok {K : PySem.W.Frag} {H : Hp} {ws : List W} {vs : List V} {i : Int} {w : W} (l : Rels K H ws vs) (h : atI ws i = some w) : ∃ v, atI vs i = some v ∧ Rel K H w v := by
  unfold atI at h ⊢
  rw [← l.length]
  cases q : ixN ws.length i with
  | none => rw [q] at h; cases h
  | some j =>
    rw [q] at h
    obtain ⟨v, h1, h2⟩ := l.get (i := j) (w := w) h
    exact ⟨v, h1, h2⟩
def rIxW : WR2
  | .tup ws, .int i, S, Q => match atI ws i with
    | some w => Q w S
    | none => False
  | .rl ws, .int i, S, Q => match atI ws i with
    | some w => Q w S
    | none => False
  | .str z, .int i, S, Q => z.length ≤ sizeLine ∧ match atI z.cps.toList i with
    | some c => Q (.str ⟨#[c]⟩) S
    | none => False
  | .ref a, .int i, S, Q => match S a with
    | some (.lst ws) => match atI ws i with
      | some w => Q w S
      | none => False
    | _ => False
  | _, _, _, _ => False
theorem mono_ix : Mono2 rIxW := fun x y S Q Q' h q => by
  unfold rIxW at q ⊢
  split at q
  · split at q
    · exact h _ _ q
    · exact q
  · split at q
    · exact h _ _ q
    · exact q
  · refine ⟨q.1, ?_⟩
    have q := q.2
    split at q
    · exact h _ _ q
    · exact q
  · split at q
    · split at q
      · exact h _ _ q
      · exact q
    · exact q
  · exact q
theorem low_ix {K : PySem.W.Frag} {x y : V} {H : Hp} {Q : VK} (h : LowR K rIxW x y H Q) : rIx K x y H Q := by
  obtain ⟨wx, wy, S, gs, r1, r2, q⟩ := h
  unfold rIxW at q
  split at q
  · simp only [Rel] at r1 r2
    obtain ⟨a, vs, rfl, t, l⟩ := r1
    subst r2
    split at q
    · rename_i w e
      obtain ⟨v, h1, h2⟩ := atI_ok l e
      exact .inr (.inl ⟨a, vs, _, v, rfl, rfl, t, h1, q H v Ext.refl gs h2⟩)
    · exact q.elim
  · simp only [Rel] at r1 r2
    obtain ⟨a, vs, rfl, t, l⟩ := r1
    subst r2
    split at q
    · rename_i w e
      obtain ⟨v, h1, h2⟩ := atI_ok l e
      exact .inl ⟨a, vs, _, v, rfl, rfl, t.seq, h1, q H v Ext.refl gs h2⟩
    · exact q.elim
  · simp only [Rel] at r1 r2
    subst r1 r2
    obtain ⟨q1, q⟩ := q
    split at q
    · rename_i c e
      exact .inr (.inr ⟨_, _, c, rfl, rfl, q1, e, q H _ Ext.refl gs (by simp only [Rel])⟩)
    · exact q.elim
  · simp only [Rel] at r1 r2
    subst r1 r2
    split at q
    · rename_i ws ea
      obtain ⟨vs, h1, l⟩ := gs.at ea
      split at q
      · rename_i w e
        obtain ⟨v, h2, h3⟩ := atI_ok l e
        exact .inl ⟨_, vs, _, v, rfl, rfl, .of h1, h2, q H v Ext.refl gs h3⟩
      · exact q.elim
    · exact q.elim
  · exact q.elim
theorem de_ix (ha : DE X a ta) (hb : DE X b tb) (hs : PlainIx b) : DE X (.Subscript a b pos) (wOp rIxW ta tb) := by
  have hr : IxR X (LowR X.K rIxW) := fun value slice pins s st H x y v u Q I rx ry q hs => ix_seq value slice pins s st H x y v u Q I rx ry (low_ix q) hs
  exact ⟨mono_op mono_ix ha.mono hb.mono, weakE (pe_ix hr ha.pe hb.pe hs) fun _ _ _ q => low_op mono_ix ha.mono hb.mono q⟩
/-! ### slices -/
abbrev WO := Rho → Sto → (Option Int → Sto → Prop) → Prop
def MonoO (t : WO) : Prop := ∀ r S (Q Q' : Option Int → Sto → Prop), (∀ w S', Q w S' → Q' w S') → t r S Q → t r S Q'
def lowO (K : PySem.W.Frag) (H : Hp) (Q : Option Int → Hp → Prop) : Option Int → Sto → Prop := fun b S' => ∀ (H' : Hp), Ext K H H' → GS K S' H' → Q b H'
def LowO (K : PySem.W.Frag) (t : WO) : TO := fun st H Q => ∃ (r : Rho) (S : Sto), GR K H r st ∧ GS K S H ∧ t r S (lowO K H Q)
structure DO' (X : Cx) (e : Option Expr) (t : WO) : Prop where
  mono : MonoO t
  po : PO X e (LowO X.K t)
def wNoPart : WO := fun _ S Q => Q none S
def wPart (t : WE) : WO := fun r S Q => t r S fun x S1 => match x with
  | .int i => Q (some i) S1
  | _ => False
theorem weakO {e : Option Expr} {t t' : TO} (h : PO X e t) (w : ∀ st H Q, t' st H Q → t st H Q) : PO X e t' := ⟨fun pins s st H Q I q => h.run pins s st H Q I (w _ _ _ q)⟩
theorem do_none : DO' X none wNoPart := ⟨fun r S Q Q' h q => h _ _ q, weakO po_none fun st H Q ⟨r, S, g, gs, q⟩ => q H Ext.refl gs⟩
theorem do_some (h : DE X e ta) : DO' X (some e) (wPart ta) := by
  refine ⟨fun r S Q Q' hq q => h.mono _ _ _ _ (fun x S1 q1 => ?_) q, weakO (po_some h.pe) fun st H Q ⟨r, S, g, gs, q⟩ => ⟨r, S, g, gs, h.mono _ _ _ _ (fun x S1 q1 H1 v e1 g1 r1 => ?_) q⟩⟩
  · cases x <;> first | exact hq _ _ q1 | exact q1
  · cases x with
    | int i => simp only [Rel] at r1; exact ⟨i, r1, q1 H1 e1 g1⟩
    | _ => exact q1.elim
def cutW (xs : List W) (lo hi : Option Int) : List W := (xs.drop (HT.sIx xs.length 0 lo)).take (HT.sIx xs.length xs.length hi - HT.sIx xs.length 0 lo)
theorem cut_ok {K : PySem.W.Frag} {H : Hp} {ws : List W} {vs : List V} (lo hi : Option Int) (l : Rels K H ws vs) : Rels K H (cutW ws lo hi) (cutV vs lo hi) := by
  unfold cutW cutV
  rw [← l.length]
  exact (l.drop _).take _
theorem cutW_whole {ws : List W} {lo hi : Option Int} (h : HT.sIx ws.length 0 lo = 0 ∧ HT.sIx ws.length ws.length hi = ws.length) : cutW ws lo hi = ws := by
  unfold cutW
  rw [h.1, h.2, List.drop_zero, Nat.sub_zero, List.take_length]
def rSlW : W → Option Int → Option Int → Sto → WQ → Prop := fun x lo hi S Q => match x with
  | .tup ws => Q (.tup (cutW ws lo hi)) S
  | .rl ws => ∀ p, S p = none → Q (.ref p) (put S p (.lst (cutW ws lo hi)))
  | .ref a => match S a with
    | some (.lst ws) => ∀ p, S p = none → Q (.ref p) (put S p (.lst (cutW ws lo hi)))
    | _ => False
  | _ => False
def wSl (ta : WE) (tl th : WO) : WE := fun r S Q => ta r S fun x S1 => tl r S1 fun l S2 => th r S2 fun u S3 => rSlW x l u S3 Q
theorem mono_sl {x : W} {l u : Option Int} {S : Sto} {Q Q' : WQ} (h : ∀ w S', Q w S' → Q' w S') (q : rSlW x l u S Q) : rSlW x l u S Q' := by
  unfold rSlW at q ⊢
  split at q
  · exact h _ _ q
  · exact fun p hp => h _ _ (q p hp)
  · split at q
    · exact fun p hp => h _ _ (q p hp)
    · exact q
  · exact q
theorem de_slice {lo hi : Option Expr} {tl th : WO} {p2 : Pos} (ha : DE X e ta) (hl : DO' X lo tl) (hu : DO' X hi th) : DE X (.Subscript e (.Slice lo hi none p2) pos) (wSl ta tl th) := by
  have hr : SlR X (fun x l u H Q => ∃ (w : W) (S : Sto), GS X.K S H ∧ Rel X.K H w x ∧ rSlW w l u S (lowQ X.K H Q)) := by
    intro pins s st H x v vl vu lo hi sl Q I rx hs pl pu ⟨w, S, gs, r, q⟩
    unfold rSlW at q
    split at q
    · rename_i ws
      simp only [Rel] at r
      obtain ⟨a, vs, rfl, t, l⟩ := r
      refine sl_tupA pins s st H _ v vl vu lo hi sl Q I rx hs pl pu ⟨a, vs, rfl, t, fun h => ?_, fun _ p hp => ?_⟩
      · rw [← l.length] at h
        refine q H _ Ext.refl gs ?_
        rw [cutW_whole h]
        simp only [Rel]
        exact ⟨a, vs, rfl, t, l⟩
      · exact q _ _ (Ext.new hp) (gs.ext_new hp) (new_tup hp (cut_ok lo hi l))
    · rename_i ws
      simp only [Rel] at r
      obtain ⟨a, vs, rfl, t, l⟩ := r
      exact sl_list pins s st H _ v vl vu lo hi sl Q I rx hs pl pu ⟨a, vs, rfl, t.seq, fun p hp => q p (gs.free hp) _ _ (Ext.new hp) (new_lst gs hp (cut_ok lo hi l)) (by simp only [Rel])⟩
    · simp only [Rel] at r
      subst r
      split at q
      · rename_i ws ea
        obtain ⟨vs, h1, l⟩ := gs.at ea
        exact sl_list pins s st H _ v vl vu lo hi sl Q I rx hs pl pu ⟨_, vs, rfl, .of h1, fun p hp => q p (gs.free hp) _ _ (Ext.new hp) (new_lst gs hp (cut_ok lo hi l)) (by simp only [Rel])⟩
      · exact q.elim
    · exact q.elim
  refine ⟨fun r S Q Q' h q => ha.mono _ _ _ _ (fun x S1 q1 => hl.mono _ _ _ _ (fun l S2 q2 => hu.mono _ _ _ _ (fun u S3 q3 => mono_sl h q3) q2) q1) q, weakE (pe_slice hr ha.pe hl.po hu.po) fun st H Q ⟨r, S, g, gs, q⟩ => ⟨r, S, g, gs, ha.mono _ _ _ _ (fun x S1 q1 H1 v e1 g1 r1 => ?_) q⟩⟩
  refine ⟨r, S1, g.ext e1, g1, hl.mono _ _ _ _ (fun l S2 q2 H2 e2 g2 => ?_) q1⟩
  refine ⟨r, S2, (g.ext e1).ext e2, g2, hu.mono _ _ _ _ (fun u S3 q3 H3 e3 g3 => ?_) q2⟩
  exact ⟨x, S3, g3, (r1.ext e2).ext e3, mono_sl (fun w S' q => q.ext ((e1.trans e2).trans e3)) q3⟩
end
end WL
namespace WL
open PySem PySem.Spec PyProof.Rows L2
section
variable {X : Cx} {e a b c o : Expr} {es : List Expr} {pos : Pos} {ta tb to : WE} {tr : WA}
/-! ### builtins called by name -/
def wCall (sp : WSp) (t : WA) : WE := fun r S Q => t r S fun ws S1 => sp ws S1 Q
theorem mono_call {sp : WSp} (hs : MonoSp sp) (ht : MonoA tr) : MonoE (wCall sp tr) := fun r S Q Q' h q => ht _ _ _ _ (fun ws S1 q1 => hs _ _ _ _ h q1) q
theorem low_call {sp : WSp} {st : L2.St} {H : Hp} {Q : VK} (hs : MonoSp sp) (ht : MonoA tr) (h : LowE X.K (wCall sp tr) st H Q) : LowA X.K tr st H fun vs H1 => LowC X.K sp vs H1 Q := by
  obtain ⟨r, S, g, gs, q⟩ := h
  exact ⟨r, S, g, gs, ht _ _ _ _ (fun ws S1 q1 H1 vs e1 g1 r1 => ⟨ws, S1, r1, g1, hs _ _ _ _ (fun w S' q => q.ext e1) q1⟩) q⟩
theorem de_callB {x : Str} {id : String} {sp : WSp} {p : Pos} (hc : CallW X (.builtin id) sp) (hg : Gl X x) (hm : X.mg x = none) (hv : bootBuiltins x = some (.builtin id)) (ha : DA X (e :: es) tr) (hn : x ≠ "__name__" := by decide) (hdb : (x == ("__debug__" : Str)) = false := by decide)
    (hst : starEach (e :: es) X.env = (false, eval e X.env) :: starEach es X.env := by rfl) (hpl : (backTo pos (starEach es X.env)).any (·.1) = false := by rfl) : DE X (.Call (.Name x p) (e :: es) [] pos) (wCall sp tr) :=
  ⟨mono_call hc.mono ha.mono, weakE (pe_callB hc.op hg hm hv ha.pa hn hdb hst hpl) fun _ _ _ q => low_call hc.mono ha.mono q⟩
theorem de_callTy {x : Str} {T : String} {sp : WSp} {p : Pos} (hc : CallW X (.type T) sp) (hg : Gl X x) (hm : X.mg x = none) (hv : bootBuiltins x = some (.type T)) (ha : DA X (e :: es) tr) (hn : x ≠ "__name__" := by decide) (hdb : (x == ("__debug__" : Str)) = false := by decide)
    (hst : starEach (e :: es) X.env = (false, eval e X.env) :: starEach es X.env := by rfl) (hpl : (backTo pos (starEach es X.env)).any (·.1) = false := by rfl) : DE X (.Call (.Name x p) (e :: es) [] pos) (wCall sp tr) :=
  ⟨mono_call hc.mono ha.mono, weakE (pe_callTy hc.op hg hm hv ha.pa hn hdb hst hpl) fun _ _ _ q => low_call hc.mono ha.mono q⟩
/-- len -/
def rLenW : WSp
  | [.str z], S, Q => z.length ≤ sizeLine ∧ Q (.int z.length) S
  | [x], S, Q => match seqOf S x with
    | some ws => Q (.int ws.length) S
    | none => match x with
      | .ref a => match S a with
        | some (.dk kvs) => Q (.int kvs.length) S
        | _ => False
      | _ => False
  | _, _, _ => False
theorem dk_len {pins : List (Addr × Obj)} {st : L2.St} {H : Hp} {s : Shared} {p : Addr} {kvs : List (Key × V)} {Q : VK} (I : Inv X pins st H s) (h : H p = some (.dK kvs)) (q : Q (.int kvs.length) H) :
    wpAny (model X.prog X.w) X.A (call (.builtin "len") [.ref p]) (EP X pins st Q) X.xe s := d_len I (.inl h) fun t s' I' => ⟨.int kvs.length, H, I', ⟨t, rfl⟩, q⟩
theorem cw_len : CallW X (.builtin "len") rLenW := by
  refine ⟨fun ws S Q Q' h q => ?_, fun pins s st H xs us Q I r ⟨ws, S, rs, gs, q⟩ => ?_⟩
  · unfold rLenW at q ⊢
    split at q
    · exact ⟨q.1, h _ _ q.2⟩
    · split at q
      · exact h _ _ q
      · split at q
        · split at q
          · exact h _ _ q
          · exact q
        · exact q
    · exact q
  · unfold rLenW at q
    split at q
    · obtain ⟨v, vr, rfl, r1, r2⟩ := Rels.cons.mp rs
      simp only [Rel] at r1
      subst r1
      obtain rfl := Rels.nil.mp r2
      exact call_len_str pins s st H _ us Q I r ⟨_, rfl, q.1, q.2 H _ Ext.refl gs (by simp only [Rel])⟩
    · obtain ⟨v, vr, rfl, r1, r2⟩ := Rels.cons.mp rs
      obtain rfl := Rels.nil.mp r2
      split at q
      · rename_i ws e
        obtain ⟨p, vs, rfl, hs, l⟩ := seqOf_ok gs r1 e
        refine call_len_seq pins s st H _ us Q I r ⟨p, vs, rfl, hs, ?_⟩
        rw [← l.length]
        exact q H _ Ext.refl gs (by simp only [Rel])
      · split at q
        · split at q
          · rename_i kvs e
            simp only [Rel] at r1
            subst r1
            obtain ⟨vs, h1, l⟩ := gs.at e
            obtain ⟨u, rfl, ru⟩ := vals1 r
            cases ru
            refine dk_len I h1 ?_
            rw [← l.length]
            exact q H _ Ext.refl gs (by simp only [Rel])
          · exact q.elim
        · exact q.elim
    · exact q.elim
/-- int -/
def rIntW : WSp
  | [.int i], S, Q => Q (.int i) S
  | [.bl b], S, Q => Q (.int (if b then 1 else 0)) S
  | _, _, _ => False
theorem cw_int : CallW X (.type "int") rIntW := by
  refine ⟨fun ws S Q Q' h q => ?_, fun pins s st H xs us Q I r ⟨ws, S, rs, gs, q⟩ => ?_⟩
  · unfold rIntW at q ⊢
    split at q <;> first | exact h _ _ q | exact q
  · unfold rIntW at q
    split at q
    · obtain ⟨v, vr, rfl, r1, r2⟩ := Rels.cons.mp rs
      obtain rfl := Rels.nil.mp r2
      simp only [Rel] at r1
      subst r1
      exact call_int1 pins s st H _ us Q I r (.inl ⟨_, rfl, q H _ Ext.refl gs (by simp only [Rel])⟩)
    · obtain ⟨v, vr, rfl, r1, r2⟩ := Rels.cons.mp rs
      obtain rfl := Rels.nil.mp r2
      simp only [Rel] at r1
      subst r1
      exact call_int1 pins s st H _ us Q I r (.inr ⟨_, rfl, q H _ Ext.refl gs (by simp only [Rel])⟩)
    · exact q.elim
/-- list, tuple of a list or tuple -/
def rListW : WSp
  | [x], S, Q => match seqOf S x with
    | some ws => ∀ p, S p = none → Q (.ref p) (put S p (.lst ws))
    | none => False
  | _, _, _ => False
theorem cw_list : CallW X (.type "list") rListW := by
  refine ⟨fun ws S Q Q' h q => ?_, fun pins s st H xs us Q I r ⟨ws, S, rs, gs, q⟩ => ?_⟩
  · unfold rListW at q ⊢
    split at q
    · split at q
      · exact fun p hp => h _ _ (q p hp)
      · exact q
    · exact q
  · unfold rListW at q
    split at q
    · obtain ⟨v, vr, rfl, r1, r2⟩ := Rels.cons.mp rs
      obtain rfl := Rels.nil.mp r2
      split at q
      · rename_i ws e
        obtain ⟨p, vs, rfl, hs, l⟩ := seqOf_ok gs r1 e
        exact call_list_of pins s st H _ us Q I r ⟨p, vs, rfl, hs, fun p hp => q p (gs.free hp) _ _ (Ext.new hp) (new_lst gs hp l) (by simp only [Rel])⟩
      · exact q.elim
    · exact q.elim
def rTupleW : WSp
  | [x], S, Q => match seqOf S x with
    | some ws => Q (.tup ws) S
    | none => False
  | _, _, _ => False
theorem cw_tuple : CallW X (.type "tuple") rTupleW := by
  refine ⟨fun ws S Q Q' h q => ?_, fun pins s st H xs us Q I r ⟨ws, S, rs, gs, q⟩ => ?_⟩
  · unfold rTupleW at q ⊢
    split at q
    · split at q
      · exact h _ _ q
      · exact q
    · exact q
  · unfold rTupleW at q
    split at q
    · obtain ⟨v, vr, rfl, r1, r2⟩ := Rels.cons.mp rs
      obtain rfl := Rels.nil.mp r2
      split at q
      · rename_i ws e
        obtain ⟨p, vs, rfl, hs, l⟩ := seqOf_ok gs r1 e
        refine call_tuple_of pins s st H _ us Q I r ⟨p, vs, rfl, ?_⟩
        rcases hs with hs | hs
        · exact .inl ⟨hs, fun p hp => q _ _ (Ext.new hp) (gs.ext_new hp) (new_tup hp l)⟩
        · refine .inr ⟨hs, q H _ Ext.refl gs ?_⟩
          simp only [Rel]
          exact ⟨p, vs, rfl, hs, l⟩
      · exact q.elim
    · exact q.elim
/-- min, max of two ints -/
def rMinW : WSp
  | [.int i, .int j], S, Q => Q (.int (if j < i then j else i)) S
  | _, _, _ => False
def rMaxW : WSp
  | [.int i, .int j], S, Q => Q (.int (if j > i then j else i)) S
  | _, _, _ => False
theorem cw_min (hc : X.calm = true) : CallW X (.builtin "min") rMinW := by
  refine ⟨fun ws S Q Q' h q => ?_, fun pins s st H xs us Q I r ⟨ws, S, rs, gs, q⟩ => ?_⟩
  · unfold rMinW at q ⊢
    split at q <;> first | exact h _ _ q | exact q
  · unfold rMinW at q
    split at q
    · obtain ⟨v, vr, rfl, r1, r2⟩ := Rels.cons.mp rs
      obtain ⟨v', vr', rfl, r3, r4⟩ := Rels.cons.mp r2
      obtain rfl := Rels.nil.mp r4
      simp only [Rel] at r1 r3
      subst r1 r3
      exact call_min2 hc pins s st H _ us Q I r ⟨_, _, rfl, q H _ Ext.refl gs (by simp only [Rel])⟩
    · exact q.elim
theorem cw_max (hc : X.calm = true) : CallW X (.builtin "max") rMaxW := by
  refine ⟨fun ws S Q Q' h q => ?_, fun pins s st H xs us Q I r ⟨ws, S, rs, gs, q⟩ => ?_⟩
  · unfold rMaxW at q ⊢
    split at q <;> first | exact h _ _ q | exact q
  · unfold rMaxW at q
    split at q
    · obtain ⟨v, vr, rfl, r1, r2⟩ := Rels.cons.mp rs
      obtain ⟨v', vr', rfl, r3, r4⟩ := Rels.cons.mp r2
      obtain rfl := Rels.nil.mp r4
      simp only [Rel] at r1 r3
      subst r1 r3
      exact call_max2 hc pins s st H _ us Q I r ⟨_, _, rfl, q H _ Ext.refl gs (by simp only [Rel])⟩
    · exact q.elim
/-- isinstance of a built-in class, or of one of a tuple of them -/
def tyW (S : Sto) : W → Option String
  | .non => some "NoneType"
  | .bl _ => some "bool"
  | .int _ => some "int"
  | .str _ => some "str"
  | .tup _ => some "tuple"
  | .rl _ => some "list"
  | .ref a => match S a with
    | some (.lst _) => some "list"
    | some (.dk _) => some "dict"
    | _ => none
  | .ty _ => none
def rIsiW : WSp
  | [x, .ty n], S, Q => match tyW S x with
    | some t => match kitB t n with
      | some r => Q (.bl r) S
      | none => False
    | none => False
  | [x, .tup [.ty n, .ty m]], S, Q => match tyW S x with
    | some t => match kitB t n, kitB t m with
      | some r, some r' => Q (.bl (r || r')) S
      | _, _ => False
    | none => False
  | _, _, _ => False
theorem sqT_ty {K : PySem.W.Frag} {H : Hp} {a : Addr} {vs : List V} (t : SqT K H a vs) : TyX K H (.ref a) (.type "tuple") := by
  rcases t with (t | ⟨o, t⟩) | ⟨o, its, n, t1, t2, _⟩
  · exact .base (.tup t)
  · exact .fTuple t
  · exact .kTuple t1 t2
theorem fzl_ty {K : PySem.W.Frag} {H : Hp} {a : Addr} {vs : List V} (t : Fzl K H a vs) : TyX K H (.ref a) (.type "list") := by
  rcases t with ⟨o, t⟩ | ⟨o, its, n, t1, t2, _⟩
  · exact .base (.frz t)
  · exact .kList t1 t2
theorem tyW_ok {K : PySem.W.Frag} {S : Sto} {H : Hp} {w : W} {v : V} {t : String} (gs : GS K S H) (r : Rel K H w v) (h : tyW S w = some t) : TyX K H v (.type t) := by
  cases w with
  | tup ws => simp only [Rel] at r; obtain ⟨a, vs, rfl, r1, _⟩ := r; simp only [tyW, Option.some.injEq] at h; subst h; exact sqT_ty r1
  | rl ws => simp only [Rel] at r; obtain ⟨a, vs, rfl, r1, _⟩ := r; simp only [tyW, Option.some.injEq] at h; subst h; exact fzl_ty r1
  | ref a =>
    simp only [Rel] at r
    subst r
    simp only [tyW] at h
    split at h
    · rename_i ws e; cases h; obtain ⟨vs, h1, _⟩ := gs.at e; exact .base (.lst h1)
    · rename_i ws e; cases h; obtain ⟨vs, h1, _⟩ := gs.at e; exact .base (.dK h1)
    · cases h
  | non => simp only [Rel] at r; subst r; simp only [tyW, Option.some.injEq] at h; subst h; exact .base .non
  | bl b => simp only [Rel] at r; subst r; simp only [tyW, Option.some.injEq] at h; subst h; exact .base (.bl b)
  | int i => simp only [Rel] at r; subst r; simp only [tyW, Option.some.injEq] at h; subst h; exact .base (.int i)
  | str x => simp only [Rel] at r; subst r; simp only [tyW, Option.some.injEq] at h; subst h; exact .base (.str x)
  | ty n => simp [tyW] at h
/-- the tuple of classes: tracked, or of the written part -/
theorem isi2 {pins : List (Addr × Obj)} {s : Shared} {st : L2.St} {H : Hp} {x : V} {tp : Addr} {n m t : String} {r r' : Bool} {us : List Value} {Q : VK} (I : Inv X pins st H s) (rv : Vals [x, .ref tp] us) (hT : SqT X.K H tp [.ty n, .ty m]) (ty : TyX X.K H x (.type t))
    (h1 : kitB t n = some r) (h2 : kitB t m = some r') (q : Q (.bl (r || r')) H) : wpAny (model X.prog X.w) X.A (call (.builtin "isinstance") us) (EP X pins st Q) X.xe s := by
  obtain ⟨u1, u2, rfl, r1, r2⟩ := vals2 rv
  cases (show u2 = Value.ref tp from r2)
  obtain ⟨P, Z, p, hx⟩ := kit_of I r1 ty
  obtain ⟨its, rv', ⟨o, h3, h4, k, h5⟩, _⟩ := I.tuple hT
  cases rv' with
  | cons a1 a2 => cases a2 with
    | cons a3 a4 =>
      cases a4
      cases a1
      cases a3
      obtain ⟨oc, od, dt, sl⟩ := o
      simp only at h4 h5
      subst h4 h5
      refine PySem.W.kia_tup (its := [Value.type n, Value.type m]) Z I.kIn p h3 (b := r || r') ?_ hx fun tk => ⟨.bl _, H, I.tok tk, rfl, q⟩
      refine kitAny_cons (kit_ty h1) (fun e => ?_) fun e => by rw [e]; rfl
      rw [e, Bool.false_or]
      refine kitAny_cons (kit_ty h2) (fun e => ?_) fun e => e
      rw [e]
      rfl
theorem cw_isi : CallW X (.builtin "isinstance") rIsiW := by
  refine ⟨fun ws S Q Q' h q => ?_, fun pins s st H xs us Q I r ⟨ws, S, rs, gs, q⟩ => ?_⟩
  · unfold rIsiW at q ⊢
    split at q
    · split at q
      · split at q
        · exact h _ _ q
        · exact q
      · exact q
    · split at q
      · split at q
        · exact h _ _ q
        · exact q
      · exact q
    · exact q
  · unfold rIsiW at q
    split at q
    · obtain ⟨v, vr, rfl, r1, r2⟩ := Rels.cons.mp rs
      obtain ⟨v', vr', rfl, r3, r4⟩ := Rels.cons.mp r2
      obtain rfl := Rels.nil.mp r4
      simp only [Rel] at r3
      subst r3
      split at q
      · rename_i t et
        split at q
        · rename_i b eb
          exact call_isi pins s st H _ us Q I r ⟨v, .ty _, .type t, .type _, b, rfl, .ty _, tyW_ok gs r1 et, kit_ty eb, q H _ Ext.refl gs (by simp only [Rel])⟩
        · exact q.elim
      · exact q.elim
    · obtain ⟨v, vr, rfl, r1, r2⟩ := Rels.cons.mp rs
      obtain ⟨v', vr', rfl, r3, r4⟩ := Rels.cons.mp r2
      obtain rfl := Rels.nil.mp r4
      simp only [Rel, Rels] at r3
      obtain ⟨tp, vs, rfl, hT, v1, vr1, rfl, rfl, v2, vr2, rfl, rfl, rfl⟩ := r3
      split at q
      · rename_i t et
        split at q
        · rename_i b b' eb eb'
          exact isi2 I r hT (tyW_ok gs r1 et) eb eb' (q H _ Ext.refl gs (by simp only [Rel]))
        · exact q.elim
      · exact q.elim
    · exact q.elim
/-! ### methods of lists -/
def rAppW : W → List W → Sto → WQ → Prop := fun x ws S Q => match x, ws with
  | .ref a, [w] => match S a with
    | some (.lst xs) => xs.length < sizeLine ∧ Q .non (put S a (.lst (xs ++ [w])))
    | _ => False
  | _, _ => False
def wLm (r : W → List W → Sto → WQ → Prop) (to : WE) (t : WA) : WE := fun rh S Q => to rh S fun x S1 => (∃ xs, rdl S1 x = some xs) ∧ t rh S1 fun ws S2 => r x ws S2 Q
structure MtW (X : Cx) (id : String) (r : W → List W → Sto → WQ → Prop) : Prop where
  mono : ∀ x ws S (Q Q' : WQ), (∀ w S', Q w S' → Q' w S') → r x ws S Q → r x ws S Q'
  op : MtR X id fun x vs H Q => ∃ (w : W) (ws : List W) (S : Sto), GS X.K S H ∧ Rel X.K H w x ∧ Rels X.K H ws vs ∧ r w ws S (lowQ X.K H Q)
theorem rdl_ok {K : PySem.W.Frag} {S : Sto} {H : Hp} {w : W} {v : V} {ws : List W} (gs : GS K S H) (r : Rel K H w v) (h : rdl S w = some ws) : ∃ p vs, v = .ref p ∧ SqL K H p vs ∧ Rels K H ws vs := by
  cases w with
  | rl xs => simp only [Rel] at r; simp only [rdl, Option.some.injEq] at h; subst h; obtain ⟨a, vs, rfl, t, l⟩ := r; exact ⟨a, vs, rfl, t.seq, l⟩
  | ref a =>
    simp only [Rel] at r
    subst r
    simp only [rdl] at h
    split at h
    · rename_i xs e
      cases h
      obtain ⟨vs, h1, l⟩ := gs.at e
      exact ⟨a, vs, rfl, .of h1, l⟩
    · cases h
  | _ => simp [rdl] at h
variable {name : Str} {apos cpos : Pos} {id : String} {rm : W → List W → Sto → WQ → Prop}
theorem mono_lm (hm : MtW X id rm) (ho : MonoE to) (ha : MonoA tr) : MonoE (wLm rm to tr) := fun rh S Q Q' h q =>
  ho _ _ _ _ (fun x S1 ⟨q0, q1⟩ => ⟨q0, ha _ _ _ _ (fun ws S2 q2 => hm.mono _ _ _ _ _ h q2) q1⟩) q
theorem de_lm (pa : PlainAttrs "list") (slot : Slot "list" name id) (hty : typeOf (.builtin id) = pure (.type "method_descriptor")) (hm : MtW X id rm) (ho : DE X o to) (ha : DA X (e :: es) tr)
    (hbase : attributeBase o name X.env (eval o X.env) = eval o X.env := by rfl)
    (hfew : ((backTo cpos (starEach (e :: es) X.env)).all (fun x => !x.1) && (backToKw cpos (keywordEach [] X.env)).all (fun x => x.1.isSome)
      && decide ((e :: es).length + ([] : List Keyword).length + (if ([] : List Keyword).isEmpty then 0 else 1) < 30)) = true := by rfl)
    (hline : (apos.endLine == cpos.line) = true := by rfl) (hs : starEach (e :: es) X.env = (false, eval e X.env) :: starEach es X.env := by rfl) (hplain : (backTo cpos (starEach es X.env)).any (·.1) = false := by rfl) :
    DE X (.Call (.Attribute o name apos) (e :: es) [] cpos) (wLm rm to tr) := by
  refine ⟨mono_lm hm ho.mono ha.mono, weakE (pe_bm pa slot hty hm.op ho.pe ha.pa hbase hfew hline hs hplain) fun st H Q ⟨rh, S, g, gs, q⟩ => ⟨rh, S, g, gs, ho.mono _ _ _ _ (fun x S1 ⟨⟨xs, q0⟩, q1⟩ H1 v e1 g1 r1 => ?_) q⟩⟩
  obtain ⟨p, vs, rfl, hl, _⟩ := rdl_ok g1 r1 q0
  refine ⟨.inl ⟨rfl, vs, hl⟩, rh, S1, g.ext e1, g1, ha.mono _ _ _ _ (fun ws S2 q2 H2 us e2 g2 r2 => ?_) q1⟩
  exact ⟨x, ws, S2, g2, r1.ext e2, r2, hm.mono _ _ _ _ _ (fun w S' q => q.ext (e1.trans e2)) q2⟩
def wLm0 (r : W → List W → Sto → WQ → Prop) (to : WE) : WE := fun rh S Q => to rh S fun x S1 => (∃ xs, rdl S1 x = some xs) ∧ r x [] S1 Q
theorem de_lm0 (pa : PlainAttrs "list") (slot : Slot "list" name id) (hty : typeOf (.builtin id) = pure (.type "method_descriptor")) (hm : MtW X id rm) (ho : DE X o to)
    (hbase : attributeBase o name X.env (eval o X.env) = eval o X.env := by rfl) (hline : (apos.endLine == cpos.line) = true := by rfl) : DE X (.Call (.Attribute o name apos) [] [] cpos) (wLm0 rm to) := by
  refine ⟨fun rh S Q Q' h q => ho.mono _ _ _ _ (fun x S1 ⟨q0, q1⟩ => ⟨q0, hm.mono _ _ _ _ _ h q1⟩) q, weakE (pe_bm0 pa slot hty hm.op ho.pe hbase hline) fun st H Q ⟨rh, S, g, gs, q⟩ => ⟨rh, S, g, gs, ho.mono _ _ _ _ (fun x S1 ⟨⟨xs, q0⟩, q1⟩ H1 v e1 g1 r1 => ?_) q⟩⟩
  obtain ⟨p, vs, rfl, hl, _⟩ := rdl_ok g1 r1 q0
  exact ⟨.inl ⟨rfl, vs, hl⟩, x, [], S1, g1, r1, Rels.nil.mpr rfl, hm.mono _ _ _ _ _ (fun w S' q => q.ext e1) q1⟩
theorem wr_lst {K : PySem.W.Frag} {S : Sto} {H : Hp} {p : Addr} {ws : List W} {vs us : List V} (gs : GS K S H) (h : H p = some (.lst us)) (r : Rels K H ws vs) : GS K (put S p (.lst ws)) (upd H p (.lst vs)) :=
  gs.wr h rfl ⟨vs, upd_same, r.ext (Ext.chg h rfl)⟩
theorem mw_append : MtW X "list.append" rAppW := by
  refine ⟨fun x ws S Q Q' h q => ?_, fun pins s st H x vs v us Q I rx rv ⟨w, ws, S, gs, r1, r2, q⟩ => ?_⟩
  · unfold rAppW at q ⊢
    split at q
    · split at q
      · exact ⟨q.1, h _ _ q.2⟩
      · exact q
    · exact q
  · unfold rAppW at q
    split at q
    · split at q
      · rename_i xs e
        simp only [Rel] at r1
        subst r1
        obtain ⟨v1, vr, rfl, r3, r4⟩ := Rels.cons.mp r2
        obtain rfl := Rels.nil.mp r4
        obtain ⟨ys, h1, l⟩ := gs.at e
        exact mt_append pins s st H _ _ v us Q I rx rv ⟨_, ys, _, rfl, rfl, h1, by rw [← l.length]; exact q.1, q.2 _ _ (Ext.chg h1 rfl) (wr_lst gs h1 (l.append (.one r3))) (by simp only [Rel])⟩
      · exact q.elim
    · exact q.elim
def rExtW : W → List W → Sto → WQ → Prop := fun x ws S Q => match x, ws with
  | .ref a, [.ref b] => match S a, S b with
    | some (.lst xs), some (.lst ys) => xs.length + ys.length ≤ sizeLine ∧ Q .non (put S a (.lst (xs ++ ys)))
    | _, _ => False
  | _, _ => False
def rClrW : W → List W → Sto → WQ → Prop := fun x ws S Q => match x, ws with
  | .ref a, [] => match S a with
    | some (.lst xs) => Q .non (put S a (.lst []))
    | _ => False
  | _, _ => False
theorem mw_clear : MtW X "list.clear" rClrW := by
  refine ⟨fun x ws S Q Q' h q => ?_, fun pins s st H x vs v us Q I rx rv ⟨w, ws, S, gs, r1, r2, q⟩ => ?_⟩
  · unfold rClrW at q ⊢
    split at q
    · split at q
      · exact h _ _ q
      · exact q
    · exact q
  · unfold rClrW at q
    split at q
    · split at q
      · rename_i xs e
        simp only [Rel] at r1
        subst r1
        obtain rfl := Rels.nil.mp r2
        obtain ⟨ys, h1, l⟩ := gs.at e
        exact mt_clear pins s st H _ _ v us Q I rx rv ⟨_, ys, rfl, rfl, h1, q _ _ (Ext.chg h1 rfl) (wr_lst gs h1 (Rels.nil.mpr rfl)) (by simp only [Rel])⟩
      · exact q.elim
    · exact q.elim
/-! ### calls of defs, methods, classes -/
variable {CX : CXT} {k : Nat} {f C : Addr} {fd : FuncData} {ps : List Str} {sp : WSp} {x m : Str} {p : Pos}
theorem low_callF {st : L2.St} {H : Hp} {Q : VK} (hs : MonoSp sp) (ht : MonoA tr) (h : LowE X.K (wCall sp tr) st H Q) : tCall (LowSp X.K sp) [] E0 (LowA X.K tr) st H Q := by
  obtain ⟨r, S, g, gs, q⟩ := h
  refine ⟨r, S, g, gs, ht _ _ _ _ (fun ws S1 q1 H1 vs e1 g1 r1 => ?_) q⟩
  show LowSp X.K sp (vs ++ []) H1 Q E0
  rw [List.append_nil]
  exact ⟨ws, S1, r1, g1, hs _ _ _ _ (fun w S' q => q.ext e1) q1⟩
theorem de_call (F : FnOk X.prog X.w X.K X.mg X.base CX0 k f fd ps (LowSp X.K sp)) (hsp : MonoSp sp) (hr : Room k X.A) (hg : Gl X x) (hm : X.mg x = some (.ref f)) (hk : PySem.W.keepIn X.K (.ref f) = true) (hb : Binds X.K fd ps [])
    (ha : DA X (e :: es) tr) (hdb : (x == ("__debug__" : Str)) = false := by decide) (he : starEach (e :: es) X.env = (false, eval e X.env) :: starEach es X.env := by rfl) (hpl : (backTo pos (starEach es X.env)).any (·.1) = false := by rfl) :
    DE X (.Call (.Name x p) (e :: es) [] pos) (wCall sp tr) :=
  ⟨mono_call hsp ha.mono, weakE (pe_call F hr hg hm hk hb .nil pass0 ha.pa hdb he hpl) fun _ _ _ q => low_callF hsp ha.mono q⟩
def wMeth (C : Addr) (m : Str) (sp : WSp) (to : WE) (t : WA) : WE := fun r S Q => to r S fun x S1 => match x with
  | .ref a => match S1 a with
    | some (.ins C' fs) => (C' = C ∧ fs.lookup m = none) ∧ t r S1 fun ws S2 => sp (.ref a :: ws) S2 Q
    | _ => False
  | _ => False
def wMake (C : Addr) (sp : WSp) (t : WA) : WE := fun r S Q => t r S fun ws S1 => ∀ x, S1 x = none → sp (.ref x :: ws) (put S1 x (.ins C [])) fun v S2 => isNon v = true ∧ Q (.ref x) S2
/-! ### fields -/
def wFld (C : Addr) (ta : WE) (f : Str) : WE := fun r S Q => ta r S fun x S1 => match x with
  | .ref a => match S1 a with
    | some (.ins C' fs) => C' = C ∧ match fs.lookup f with
      | some w => Q w S1
      | none => False
    | _ => False
  | _ => False
end
end WL
namespace WL
open PySem PySem.Spec PyProof.Rows L2
section
variable {X : Cx} {e a b c o : Expr} {es : List Expr} {pos : Pos} {ta tb to : WE} {tr : WA} {st : Stmt} {rest : List Stmt} {t u : WS}
/-! ### statements -/
def wNext : WS := fun D r S => D.nx r S
def wSeq (t u : WS) : WS := fun D r S => t { D with nx := u D } r S
theorem mono_next : MonoS wNext := fun D D' r S h q => h.nx _ _ q
theorem mono_seq (h1 : MonoS t) (h2 : MonoS u) : MonoS (wSeq t u) := fun D D' r S h q => h1 { D with nx := u D } { D' with nx := u D' } _ _ ⟨fun r S q => h2 _ _ _ _ h q, h.rt, h.bk, h.ct⟩ q
theorem dss_nil : DSs X [] wNext := ⟨mono_next, weakSs pss_nil fun D st H ⟨r, S, g, gs, q⟩ => q st H Ext.refl g gs⟩
theorem dss_cons (h1 : DS X st t) (h2 : DSs X rest u) : DSs X (st :: rest) (wSeq t u) := by
  refine ⟨mono_seq h1.mono h2.mono, weakSs (pss_cons h1.ps h2.ps) fun D st H ⟨r, S, g, gs, q⟩ => ⟨r, S, g, gs, h1.mono { lowD X.K H D with nx := u (lowD X.K H D) } (lowD X.K H { D with nx := LowS X.K u D }) _ _ ⟨fun r1 S1 q1 st1 H1 e1 g1 s1 => ?_, fun _ _ q => q, fun _ _ q => q, fun _ _ q => q⟩ q⟩⟩
  exact ⟨r1, S1, g1, s1, h2.mono _ _ _ _ (lowD.ext e1) q1⟩
theorem dss_one (h1 : DS X st t) : DSs X [st] t := ⟨h1.mono, pss_one h1.ps⟩
def wDrop (ta : WE) : WS := fun D r S => ta r S fun _ S1 => D.nx r S1
theorem ds_expr (ha : DE X e ta) (hs : swapsWith e none pos.line X.env = pure false := by rfl) : DS X (.Expr e pos) (wDrop ta) :=
  ⟨fun D D' r S h q => ha.mono _ _ _ _ (fun w S1 q1 => h.nx _ _ q1) q, weakS (ps_expr ha.pe hs) fun D st H ⟨r, S, g, gs, q⟩ => ⟨r, S, g, gs, ha.mono _ _ _ _ (fun w S1 q1 H1 v e1 g1 r1 => q1 st H1 e1 (g.ext e1) g1) q⟩⟩
def wRet (ta : WE) : WS := fun D r S => ta r S D.rt
theorem ds_ret (ha : DE X e ta) : DS X (.Return (some e) pos) (wRet ta) :=
  ⟨fun D D' r S h q => ha.mono _ _ _ _ h.rt q, weakS (ps_ret ha.pe) fun D st H ⟨r, S, g, gs, q⟩ => ⟨r, S, g, gs, q⟩⟩
def wRetN : WS := fun D r S => D.rt .non S
def wIfS (c : WT) (t u : WS) : WS := fun D r S => c r S fun b S1 => if b = true then t D r S1 else u D r S1
theorem ds_if {c : Expr} {sa sb : List Stmt} {tc : WT} (hc : DT X c tc) (ha : DSs X sa t) (hb : DSs X sb u) : DS X (.If c sa sb pos) (wIfS tc t u) := by
  refine ⟨fun D D' r S h q => hc.mono _ _ _ _ (fun b S1 q1 => ?_) q, weakS (ps_if hc.pt ha.ps hb.ps) fun D st H ⟨r, S, g, gs, q⟩ => ⟨r, S, g, gs, hc.mono _ _ _ _ (fun b S1 q1 H1 e1 g1 => ?_) q⟩⟩
  · cases b with
    | true => exact ha.mono _ _ _ _ h q1
    | false => exact hb.mono _ _ _ _ h q1
  · cases b with
    | true => exact ⟨r, S1, g.ext e1, g1, ha.mono _ _ _ _ (lowD.ext e1) q1⟩
    | false => exact ⟨r, S1, g.ext e1, g1, hb.mono _ _ _ _ (lowD.ext e1) q1⟩
/-! ### targets -/
def gNameW (i : Nat) : WG := fun w r S Q => Q (r.set i (some w)) S
theorem dg_name {i : Nat} {x : Str} (hN : X.N.Nodup) (hi : X.N[i]? = some x) (hx : Loc X.env.scope x) (hf : X.fn x = true ∨ X.env.scope.names.lookup x = some .local := by first | exact .inl rfl | exact .inr rfl | assumption) : DG X (.Name x pos) (gNameW i) :=
  ⟨fun w r S Q Q' h q => h _ _ q, weakG (pg_name hN hi hx hf) fun v st H Q ⟨w, r, S, rl, g, gs, q⟩ => q _ H Ext.refl (g.set i rl) gs⟩
def gNilW : WGs := fun ws r S Q => ws = [] ∧ Q r S
def gConsW (t : WG) (u : WGs) : WGs := fun ws r S Q => match ws with
  | w :: wr => t w r S fun r' S' => u wr r' S' Q
  | [] => False
theorem dgs_nil : DGs X [] gNilW := ⟨fun ws r S Q Q' h q => ⟨q.1, h _ _ q.2⟩, weakGs pgs_nil fun vs st H Q ⟨ws, r, S, rl, g, gs, q⟩ => ⟨by rw [q.1] at rl; exact Rels.nil.mp rl, q.2 st H Ext.refl g gs⟩⟩
theorem dgs_cons {g : WG} {gs' : WGs} (h1 : DG X e g) (h2 : DGs X es gs') (hs : (assignEach (e :: es) X.env).map (·.2) = assign e X.env :: (assignEach es X.env).map (·.2) := by rfl) : DGs X (e :: es) (gConsW g gs') := by
  refine ⟨fun ws r S Q Q' h q => ?_, weakGs (pgs_cons h1.pg h2.pg hs) fun vs st H Q ⟨ws, r, S, rl, g, gs, q⟩ => ?_⟩
  · cases ws with
    | nil => exact q
    | cons w wr => exact h1.mono _ _ _ _ _ (fun r' S' q1 => h2.mono _ _ _ _ _ h q1) q
  · cases ws with
    | nil => exact q.elim
    | cons w wr =>
      obtain ⟨v, vr, rfl, r1, r2⟩ := Rels.cons.mp rl
      exact ⟨v, vr, rfl, w, r, S, r1, g, gs, h1.mono _ _ _ _ _ (fun r' S' q1 st1 H1 e1 g1 s1 => ⟨wr, r', S', r2.ext e1, g1, s1, h2.mono _ _ _ _ _ (fun r2 S2 q2 => q2.ext e1) q1⟩) q⟩
def gTupW (n : Nat) (t : WGs) : WG := fun w r S Q => match w with
  | .tup ws => ws.length = n ∧ t ws r S Q
  | _ => False
theorem dg_tup {es : List Expr} {k : Nat} {t : WGs} {n : Nat} (hc : X.calm = true) (h : DGs X es t)
    (hn : (assignEach es X.env).length = n := by rfl) (hst : (assignEach es X.env).findIdx? (·.1) = none := by rfl) : DG X (.Tuple es k pos) (gTupW n t) := by
  refine ⟨fun w r S Q Q' hq q => ?_, weakG (pg_tup hc h.pg hn hst) fun v st H Q ⟨w, r, S, rl, g, gs, q⟩ => ?_⟩
  · cases w with
    | tup ws => exact ⟨q.1, h.mono _ _ _ _ _ hq q.2⟩
    | _ => exact q
  · cases w with
    | tup ws =>
      simp only [Rel] at rl
      obtain ⟨a, vs, rfl, t1, l⟩ := rl
      exact ⟨a, vs, rfl, t1, by rw [← l.length]; exact q.1, ws, r, S, l, g, gs, q.2⟩
    | _ => exact q.elim
/-- xs[i] = .. -/
def setW (x y w : W) (S : Sto) (Q : Sto → Prop) : Prop := match x, y with
  | .ref a, .int k => match S a with
    | some (.lst ws) => match ixN ws.length k with
      | some j => Q (put S a (.lst (ws.set j w)))
      | none => False
    | _ => False
  | _, _ => False
def gSubW (to ti : WE) : WG := fun w r S Q => to r S fun x S1 => ti r S1 fun y S2 => setW x y w S2 fun S3 => Q r S3
theorem mono_set {x y w : W} {S : Sto} {Q Q' : Sto → Prop} (h : ∀ S, Q S → Q' S) (q : setW x y w S Q) : setW x y w S Q' := by
  unfold setW at q ⊢
  split at q
  · split at q
    · split at q
      · exact h _ q
      · exact q
    · exact q
  · exact q
theorem dg_sub {ob i : Expr} {ti : WE} (ho : DE X ob to) (hi : DE X i ti)
    (ha : ∀ v, assign (.Subscript ob i pos) X.env v = (do
      let ov ← holding [v] (eval ob X.env)
      let iv ← holding [v, ov] (eval i X.env)
      standAt pos
      holding [v, ov, iv] (setItem ov iv v)
      release [v, ov, iv] []) := by intro _; rfl) : DG X (.Subscript ob i pos) (gSubW to ti) := by
  refine ⟨fun w r S Q Q' h q => ho.mono _ _ _ _ (fun x S1 q1 => hi.mono _ _ _ _ (fun y S2 q2 => mono_set (fun S q => h _ _ q) q2) q1) q, weakG (pg_sub ho.pe hi.pe set_list ha) fun v st H Q ⟨w, r, S, rl, g, gs, q⟩ => ?_⟩
  refine ⟨r, S, g, gs, ho.mono _ _ _ _ (fun x S1 q1 H1 ov e1 g1 r1 => ?_) q⟩
  refine ⟨r, S1, g.ext e1, g1, hi.mono _ _ _ _ (fun y S2 q2 H2 iv e2 g2 r2 => ?_) q1⟩
  unfold setW at q2
  split at q2
  · split at q2
    · rename_i a k _ ws ea
      simp only [Rel] at r1 r2
      subst r1 r2
      split at q2
      · rename_i j ej
        obtain ⟨vs, h1, l⟩ := g2.at ea
        have rl2 := (rl.ext e1).ext e2
        exact ⟨a, vs, k, j, rfl, rfl, h1, by rw [← l.length]; exact ej, q2 st _ ((e1.trans e2).trans (Ext.chg h1 rfl)) (((g.ext e1).ext e2).ext (Ext.chg h1 rfl)) (wr_lst g2 h1 (l.set rl2 j))⟩
      · exact q2.elim
    · exact q2.elim
  · exact q2.elim
/-- target = value -/
def wAsg (ta : WE) (g : WG) : WS := fun D r S => ta r S fun w S1 => g w r S1 D.nx
theorem low_asg {tg : WG} {D : Ends} {st : L2.St} {H : Hp} (ha : MonoE ta) (hg : MonoG tg) (h : LowS X.K (wAsg ta tg) D st H) : LowE X.K ta st H fun x H1 => LowG X.K tg x st H1 D.nx := by
  obtain ⟨r, S, g, gs, q⟩ := h
  exact ⟨r, S, g, gs, ha _ _ _ _ (fun w S1 q1 H1 v e1 g1 r1 => ⟨w, r, S1, r1, g.ext e1, g1, hg _ _ _ _ _ (fun r2 S2 q2 => q2.ext e1) q1⟩) q⟩
theorem ds_asg {tg : Expr} {g : WG} (he : DE X e ta) (hg : DG X tg g) (hs : swapsWithSole [tg] e pos.line X.env = pure false := by rfl) (hw : swappedStores [tg] e X.env = pure none := by rfl)
    (h1 : (assignEach [tg] X.env).map (·.2) = [assign tg X.env] := by rfl) : DS X (.Assign [tg] e pos) (wAsg ta g) :=
  ⟨fun D D' r S h q => he.mono _ _ _ _ (fun w S1 q1 => hg.mono _ _ _ _ _ h.nx q1) q, weakS (ps_asg he.pe hg.pg hs hw h1) fun _ _ _ q => low_asg he.mono hg.mono q⟩
theorem ds_set {i : Nat} {x : Str} {pos' : Pos} (hN : X.N.Nodup) (hi : X.N[i]? = some x) (hx : Loc X.env.scope x) (he : DE X e ta) (hs : swapsWith e (some (.Name x pos')) pos.line X.env = pure false := by rfl) (hf : X.fn x = true ∨ X.env.scope.names.lookup x = some .local := by first | exact .inl rfl | exact .inr rfl | assumption) :
    DS X (.Assign [.Name x pos'] e pos) (wAsg ta (gNameW i)) := by
  have hg : MonoG (gNameW i) := fun w r S Q Q' h q => h _ _ q
  refine ⟨fun D D' r S h q => he.mono _ _ _ _ (fun w S1 q1 => hg _ _ _ _ _ h.nx q1) q, weakS (ps_set hN hi hx he.pe hs hf) fun D st H ⟨r, S, g, gs, q⟩ => ?_⟩
  exact ⟨r, S, g, gs, he.mono _ _ _ _ (fun w S1 q1 H1 v e1 g1 r1 => q1 _ H1 e1 ((g.ext e1).set i r1) g1) q⟩
/-- o.f = value -/
def wSetF (C : Addr) (ta tv : WE) (f : Str) : WS := fun D r S => tv r S fun w S1 => ta r S1 fun x S2 => match x with
  | .ref a => match S2 a with
    | some (.ins C' fs) => (C' = C ∧ fs.length < 1000) ∧ D.nx r (put S2 a (.ins C (putW f w fs)))
    | _ => False
  | _ => False
/-! ### for -/
/-- the turns over these items; Z: the list that is walked stays as it is -/
def forW (Z : Sto → Prop) (g : WG) (tb : WS) : List W → WS
  | [], D, r, S => Z S ∧ D.nx r S
  | x :: xs, D, r, S => Z S ∧ g x r S fun r1 S1 => tb { D with nx := fun r2 S2 => forW Z g tb xs D r2 S2, ct := fun r2 S2 => forW Z g tb xs D r2 S2, bk := D.nx } r1 S1
theorem mono_for {Z : Sto → Prop} {g : WG} {tb : WS} (hg : MonoG g) (hb : MonoS tb) : ∀ xs, MonoS (forW Z g tb xs)
  | [], D, D', r, S, h, q => ⟨q.1, h.nx _ _ q.2⟩
  | x :: xs, D, D', r, S, h, q => ⟨q.1, hg _ _ _ _ _ (fun r1 S1 q1 => hb { D with nx := fun r2 S2 => forW Z g tb xs D r2 S2, ct := fun r2 S2 => forW Z g tb xs D r2 S2, bk := D.nx } { D' with nx := fun r2 S2 => forW Z g tb xs D' r2 S2, ct := fun r2 S2 => forW Z g tb xs D' r2 S2, bk := D'.nx } _ _
    ⟨fun _ _ q => mono_for hg hb xs _ _ _ _ h q, h.rt, h.nx, fun _ _ q => mono_for hg hb xs _ _ _ _ h q⟩ q1) q.2⟩
/-- what a for walks: a list, a tuple -/
def wFor (ti : WE) (g : WG) (tb : WS) : WS := fun D r S => ti r S fun x S1 => match seqOf S1 x with
  | some ws => forW (fun S => seqOf S x = some ws) g tb ws D r S1
  | none => False
def wForR1 (ta : WA) (g : WG) (tb : WS) : WS := fun D r S => ta r S fun ws S1 => match ws with
  | [.int j] => (-(2 ^ 62) ≤ j ∧ j < 2 ^ 62) ∧ forW (fun _ => True) g tb ((List.range j.toNat).map fun i => W.int (i : Nat)) D r S1
  | _ => False
theorem low_body {g : WG} {tb : WS} {D : Ends} {N : L2.St → Hp → Prop} {Dw : WD} {H0 H : Hp} {x : W} {v : V} {r : Rho} {st : L2.St} {S : Sto} (hg : MonoG g) (hb : MonoS tb) (e0 : Ext X.K H0 H) (rx : Rel X.K H x v) (gr : GR X.K H r st) (gs : GS X.K S H)
    (hn : ∀ r S, Dw.nx r S → lowP X.K H N r S) (hc : ∀ r S, Dw.ct r S → lowP X.K H N r S) (hk : ∀ r S, Dw.bk r S → lowP X.K H D.nx r S) (hr : ∀ w S, Dw.rt w S → lowQ X.K H D.rt w S)
    (q : g x r S fun r1 S1 => tb Dw r1 S1) : LowG X.K g v st H fun st2 H2 => LowS X.K tb { D with nx := N, ct := N, bk := D.nx } st2 H2 := by
  refine ⟨x, r, S, rx, gr, gs, hg _ _ _ _ _ (fun r1 S1 q1 st1 H1 e1 g1 s1 => ⟨r1, S1, g1, s1, hb _ _ _ _ ⟨fun r2 S2 q2 => ?_, fun w S2 q2 => ?_, fun r2 S2 q2 => ?_, fun r2 S2 q2 => ?_⟩ q1⟩) q⟩
  · exact lowP.ext (hn _ _ q2) e1
  · exact lowQ.ext (hr _ _ q2) e1
  · exact lowP.ext (hk _ _ q2) e1
  · exact lowP.ext (hc _ _ q2) e1
theorem rels_drop_get {K : PySem.W.Frag} {H : Hp} {ws : List W} {i : Nat} {y : W} {ys : List W} (h : ws.drop i = y :: ys) : ws[i]? = some y ∧ ws.drop (i + 1) = ys := by
  refine ⟨?_, ?_⟩
  · have z := congrArg (fun l => l[0]?) h
    simpa using z
  · have z := congrArg (fun l => l.drop 1) h
    simpa [List.drop_drop, Nat.add_comm] using z
/-- the loop over a list or tuple that is read -/
theorem for_seq {g : WG} {tb : WS} {D : Ends} {x : W} {ws : List W} {r : Rho} {st : L2.St} {S : Sto} {H0 H : Hp} {p : Addr} {J : It} (hg : MonoG g) (hb : MonoS tb) (e0 : Ext X.K H0 H) (gr : GR X.K H r st) (gs : GS X.K S H)
    (hJ : ∀ (H : Hp) (S : Sto) (i : Nat), Ext X.K H0 H → GS X.K S H → seqOf S x = some ws → ∃ vs, Rels X.K H ws vs ∧ ((∀ v, vs[i]? = some v → J.go i H) ∧ (vs.length ≤ i → J.stop i H) ∧ ∀ v v' H', vs[i]? = some v → J.yld i H v' H' → H' = H ∧ v' = v))
    (q : forW (fun S => seqOf S x = some ws) g tb ws (lowD X.K H0 D) r S) :
    ∃ W' : Nat → Nat → L2.St → Hp → Prop, (∃ m, W' 0 m st H) ∧ ∀ i m st H, W' i m st H →
      (J.stop i H ∧ D.nx st H) ∨ (J.go i H ∧ ∃ N : L2.St → Hp → Prop, (∀ st' H', N st' H' → ∃ m', m' < m ∧ W' (i + 1) m' st' H') ∧ ∀ v H', J.yld i H v H' → LowG X.K g v st H' fun st2 H2 => LowS X.K tb { D with nx := N, ct := N, bk := D.nx } st2 H2) := by
  refine ⟨fun i m st H => m = ws.length - i ∧ i ≤ ws.length ∧ ∃ r S, Ext X.K H0 H ∧ GR X.K H r st ∧ GS X.K S H ∧ forW (fun S => seqOf S x = some ws) g tb (ws.drop i) (lowD X.K H0 D) r S, ⟨ws.length, by simp, Nat.zero_le _, r, S, e0, gr, gs, by simpa using q⟩, ?_⟩
  rintro i m st H ⟨rfl, hi, r, S, e1, gr, gs, q⟩
  cases ed : ws.drop i with
  | nil =>
    rw [ed] at q
    have hl : ws.length ≤ i := by simpa using ed
    obtain ⟨vs, l, h1, h2, h3⟩ := hJ H S i e1 gs q.1
    exact .inl ⟨h2 (by rw [← l.length]; exact hl), q.2 st H e1 gr gs⟩
  | cons y ys =>
    rw [ed] at q
    obtain ⟨ey, ed'⟩ := rels_drop_get (K := X.K) (H := H) ed
    have hlt : i < ws.length := (List.getElem?_eq_some_iff.mp ey).1
    obtain ⟨vs, l, h1, h2, h3⟩ := hJ H S i e1 gs q.1
    obtain ⟨v, ev, rv⟩ := l.get ey
    refine .inr ⟨h1 v ev, fun st' H' => ∃ r S, Ext X.K H0 H' ∧ GR X.K H' r st' ∧ GS X.K S H' ∧ forW (fun S => seqOf S x = some ws) g tb ys (lowD X.K H0 D) r S, fun st' H' ⟨r', S', e', g', s', q'⟩ => ⟨ws.length - (i + 1), by omega, rfl, hlt, r', S', e', g', s', by rw [ed']; exact q'⟩, fun v' H' hy => ?_⟩
    obtain ⟨rfl, rfl⟩ := h3 v v' H' ev hy
    refine low_body hg hb e1 rv gr gs (fun r2 S2 q2 st2 H2 e2 g2 s2 => ?_) (fun r2 S2 q2 st2 H2 e2 g2 s2 => ?_) (fun r2 S2 q2 => lowP.ext q2 e1) (fun w S2 q2 => lowQ.ext q2 e1) q.2
    · exact ⟨r2, S2, e1.trans e2, g2, s2, q2⟩
    · exact ⟨r2, S2, e1.trans e2, g2, s2, q2⟩
theorem mono_wfor {ti : WE} {g : WG} {tb : WS} (hi : MonoE ti) (hg : MonoG g) (hb : MonoS tb) : MonoS (wFor ti g tb) := fun D D' r S h q => hi _ _ _ _ (fun x S1 q1 => by
  split at q1
  · exact mono_for hg hb _ _ _ _ _ h q1
  · exact q1) q
theorem ext_forW {Z : Sto → Prop} {g : WG} {tb : WS} {D : Ends} {H H1 : Hp} {xs : List W} {r : Rho} {S : Sto} (hg : MonoG g) (hb : MonoS tb) (e : Ext X.K H H1) (q : forW Z g tb xs (lowD X.K H D) r S) : forW Z g tb xs (lowD X.K H1 D) r S := mono_for hg hb _ _ _ _ _ (lowD.ext e) q
/-- what a for walks, a list or a tuple: the value first, then its iterator -/
def iSeq (K : PySem.W.Frag) (tl : TE) : TI := fun st H R => tl st H fun x H1 => ∃ a, x = .ref a ∧ ((∃ xs, SqL K H1 a xs ∧ R (Itl K a) H1) ∨ ∃ xs, SqT K H1 a xs ∧ R (Itt K a) H1)
theorem pi_seq {tg l : Expr} {tl : TE} (hl : PE X l tl) : PI X tg l (iSeq X.K tl) := by
  refine ⟨fun pins s st H R I h => thn (hl.run pins s st H _ I h) ?_⟩
  rintro v s1 ⟨x, H1, I1, r1, a, e, q⟩
  subst e
  cases r1
  have only : ∀ b, b ∈ [s1.heap.objs.size] → b = s1.heap.objs.size := fun b hb => by simpa using hb
  have fp : ∀ b ∈ [s1.heap.objs.size], FpOk X pins H1 b := fun b hb => by
    rw [only b hb]
    exact I1.fpOk (Nat.le_refl _) (I1.hok.fresh (Nat.le_refl _))
  rcases q with ⟨xs, hq, q⟩ | ⟨xs, hq, q⟩
  · obtain ⟨its, rv, pl, hz⟩ := I1.list hq
    refine wpAny_pyIter_list pl.isList ⟨s1.heap.objs.size, [s1.heap.objs.size], _, _, H1, rfl, ?_, turn_list a _, ⟨_, Heap.get?_push_size _ rfl, rfl, rfl⟩, fp, q⟩
    exact I1.kept (t' := s1.toks) fun b o e => Heap.get?_push_of_some _ e
  · obtain ⟨its, rv, pl, hz⟩ := I1.tuple hq
    refine wpAny_pyIter_tuple (show s1.heap.IsTuple a its.toArray from pl) ⟨s1.heap.objs.size, [s1.heap.objs.size], _, _, H1, rfl, ?_, turn_tuple a _, ⟨_, Heap.get?_push_size _ rfl, rfl, rfl⟩, fp, q⟩
    exact I1.kept (t' := s1.toks) fun b o e => Heap.get?_push_of_some _ e
theorem ds_for {iter : Expr} {body : List Stmt} {tg : Expr} {ti : WE} {g : WG} {tb : WS} (hp : PassesOwn (model X.prog X.w) X.A X.env X.xe) (hc : X.calm = true) (hi : DE X iter ti) (hg : DG X tg g) (hb : DSs X body tb)
    (hs : ∀ x, foldedSetIterable iter X.env x = pure x := by intro _; rfl) : DS X (.For tg iter body [] pos) (wFor ti g tb) := by
  refine ⟨mono_wfor hi.mono hg.mono hb.mono, weakS (ps_for hp hc (pi_seq hi.pe) hg.pg hb.ps hs) fun D st H ⟨r, S, gr, gs, q⟩ => ⟨r, S, gr, gs, hi.mono _ _ _ _ (fun x S1 q1 H1 v e1 g1 r1 => ?_) q⟩⟩
  split at q1
  · rename_i ws es
    obtain ⟨p, vs, rfl, hs, l⟩ := seqOf_ok g1 r1 es
    have back : ∀ (H2 : Hp) (S2 : Sto), Ext X.K H1 H2 → GS X.K S2 H2 → seqOf S2 x = some ws → ∃ vs', (SqL X.K H2 p vs' ∨ SqT X.K H2 p vs') ∧ Rels X.K H2 ws vs' := fun H2 S2 e2 g2 hs2 => by
      obtain ⟨p2, vs2, ep, h2, l2⟩ := seqOf_ok g2 (r1.ext e2) hs2
      cases ep
      exact ⟨vs2, h2, l2⟩
    have isL : (∃ xs, rdl S1 x = some xs) ∨ ∃ xs, x = .tup xs := by
      cases x with
      | tup xs => exact .inr ⟨xs, rfl⟩
      | rl xs => exact .inl ⟨xs, rfl⟩
      | ref a =>
        refine .inl ⟨ws, ?_⟩
        simp only [seqOf] at es
        simp only [rdl]
        exact es
      | _ => simp [seqOf] at es
    rcases isL with ⟨xs, hx⟩ | ⟨xs, rfl⟩
    · have same : ∀ S2, seqOf S2 x = some ws → rdl S2 x = some ws := fun S2 h => by
        cases x with
        | ref a => simp only [seqOf] at h; simp only [rdl]; exact h
        | rl xs => simp only [seqOf] at h; simp only [rdl]; exact h
        | _ => simp [rdl] at hx
      obtain ⟨p', vs', ep, hL, l'⟩ := rdl_ok g1 r1 (same S1 es)
      cases ep
      refine ⟨p, rfl, .inl ⟨vs', hL, for_seq (x := x) (p := p) hg.mono hb.mono Ext.refl (gr.ext e1) g1 (fun H2 S2 i e2 g2 hs2 => ?_) (ext_forW hg.mono hb.mono e1 q1)⟩⟩
      obtain ⟨p2, vs2, ep, hL2, l2⟩ := rdl_ok g2 (r1.ext e2) (same S2 hs2)
      cases ep
      refine ⟨vs2, l2, fun v hv => ⟨vs2, v, hL2, hv⟩, fun hle => ⟨vs2, hL2, hle⟩, fun v v' H' hv hy => ⟨hy.1, ?_⟩⟩
      have z := hy.2 vs2 hL2
      rw [hv] at z
      exact (Option.some.inj z).symm
    · simp only [seqOf, Option.some.injEq] at es
      subst es
      simp only [Rel] at r1
      obtain ⟨p', vs', ep, hT, l'⟩ := r1
      cases ep
      refine ⟨p, rfl, .inr ⟨vs', hT, for_seq (x := .tup xs) (p := p) hg.mono hb.mono Ext.refl (gr.ext e1) g1 (fun H2 S2 i e2 g2 hs2 => ?_) (ext_forW hg.mono hb.mono e1 q1)⟩⟩
      have hT2 := e2.tup _ _ hT
      refine ⟨vs', l'.ext e2, fun v hv => ⟨vs', v, hT2, hv⟩, fun hle => ⟨vs', hT2, hle⟩, fun v v' H' hv hy => ⟨hy.1, ?_⟩⟩
      have z := hy.2 vs' hT2
      rw [hv] at z
      exact (Option.some.inj z).symm
  · exact q1.elim
theorem range_get {f : Nat → W} {n i : Nat} : ((List.range n).map f)[i]? = if i < n then some (f i) else none := by
  rw [List.getElem?_map]
  by_cases h : i < n
  · rw [if_pos h, List.getElem?_range h]; rfl
  · rw [if_neg h, List.getElem?_eq_none (by simpa using h)]; rfl
/-- over a range -/
theorem for_rng {g : WG} {tb : WS} {D : Ends} {r : Rho} {st : L2.St} {S : Sto} {H0 H : Hp} {lo : Int} {n : Nat} (hg : MonoG g) (hb : MonoS tb) (e0 : Ext X.K H0 H) (gr : GR X.K H r st) (gs : GS X.K S H)
    (q : forW (fun _ => True) g tb ((List.range n).map fun i => W.int (lo + (i : Nat))) (lowD X.K H0 D) r S) :
    ∃ W' : Nat → Nat → L2.St → Hp → Prop, (∃ m, W' 0 m st H) ∧ ∀ i m st H, W' i m st H →
      ((Itr lo n).stop i H ∧ D.nx st H) ∨ ((Itr lo n).go i H ∧ ∃ N : L2.St → Hp → Prop, (∀ st' H', N st' H' → ∃ m', m' < m ∧ W' (i + 1) m' st' H') ∧ ∀ v H', (Itr lo n).yld i H v H' → LowG X.K g v st H' fun st2 H2 => LowS X.K tb { D with nx := N, ct := N, bk := D.nx } st2 H2) := by
  refine ⟨fun i m st H => m = n - i ∧ i ≤ n ∧ ∃ r S, Ext X.K H0 H ∧ GR X.K H r st ∧ GS X.K S H ∧ forW (fun _ => True) g tb (((List.range n).map fun i => W.int (lo + (i : Nat))).drop i) (lowD X.K H0 D) r S, ⟨n, by simp, Nat.zero_le _, r, S, e0, gr, gs, by simpa using q⟩, ?_⟩
  rintro i m st H ⟨rfl, hi, r, S, e1, gr, gs, q⟩
  cases ed : ((List.range n).map fun i => W.int (lo + (i : Nat))).drop i with
  | nil =>
    rw [ed] at q
    have hl : n ≤ i := by simpa using ed
    exact .inl ⟨hl, q.2 st H e1 gr gs⟩
  | cons y ys =>
    rw [ed] at q
    obtain ⟨ey, ed'⟩ := rels_drop_get (K := X.K) (H := H) ed
    rw [range_get] at ey
    split at ey
    · rename_i hlt
      cases ey
      refine .inr ⟨hlt, fun st' H' => ∃ r S, Ext X.K H0 H' ∧ GR X.K H' r st' ∧ GS X.K S H' ∧ forW (fun _ => True) g tb ys (lowD X.K H0 D) r S, fun st' H' ⟨r', S', e', g', s', q'⟩ => ⟨n - (i + 1), by omega, rfl, hlt, r', S', e', g', s', by rw [ed']; exact q'⟩, fun v' H' hy => ?_⟩
      obtain ⟨rfl, rfl⟩ := hy
      refine low_body hg hb e1 (by simp only [Rel]) gr gs (fun r2 S2 q2 st2 H2 e2 g2 s2 => ?_) (fun r2 S2 q2 st2 H2 e2 g2 s2 => ?_) (fun r2 S2 q2 => lowP.ext q2 e1) (fun w S2 q2 => lowQ.ext q2 e1) q.2
      · exact ⟨r2, S2, e1.trans e2, g2, s2, q2⟩
      · exact ⟨r2, S2, e1.trans e2, g2, s2, q2⟩
    · cases ey
theorem ds_forR1 {a' : Expr} {body : List Stmt} {tg : Expr} {g : WG} {tb : WS} {p pos2 : Pos} (hp : PassesOwn (model X.prog X.w) X.A X.env X.xe) (hc : X.calm = true) (hgl : Gl X "range") (hm : X.mg "range" = none) (ha : DA X [a'] tr) (hg : DG X tg g) (hb : DSs X body tb)
    (hst : starEach [a'] X.env = [(false, eval a' X.env)] := by rfl) (hs : ∀ x, foldedSetIterable (.Call (.Name "range" p) [a'] [] pos) X.env x = pure x := by intro _; rfl) : DS X (.For tg (.Call (.Name "range" p) [a'] [] pos) body [] pos2) (wForR1 tr g tb) := by
  refine ⟨fun D D' r S h q => ha.mono _ _ _ _ (fun ws S1 q1 => ?_) q, weakS (ps_for hp hc (pi_range1 hgl hm ha.pa hst) hg.pg hb.ps hs) fun D st H ⟨r, S, gr, gs, q⟩ => ⟨r, S, gr, gs, ha.mono _ _ _ _ (fun ws S1 q1 H1 vs e1 g1 r1 => ?_) q⟩⟩
  · split at q1
    · exact ⟨q1.1, mono_for hg.mono hb.mono _ _ _ _ _ h q1.2⟩
    · exact q1
  · split at q1
    · obtain ⟨v, vr, rfl, r2, r3⟩ := Rels.cons.mp r1
      obtain rfl := Rels.nil.mp r3
      simp only [Rel] at r2
      subst r2
      refine ⟨_, rfl, q1.1.1, q1.1.2, for_rng hg.mono hb.mono Ext.refl (gr.ext e1) g1 (ext_forW hg.mono hb.mono e1 ?_)⟩
      have z := q1.2
      simpa only [Int.zero_add] using z
    · exact q1.elim
end
end WL
namespace WL
open PySem PySem.Spec PyProof.Rows L2
section
variable {X : Cx} {e a b c o : Expr} {es : List Expr} {pos : Pos} {ta tb to : WE} {tr : WA}
/-! ### list comprehensions -/
def lcW (Z : Sto → Prop) (i : Nat) (tt : WT) (te : WE) (p : Addr) : List W → Rho → Sto → (Sto → Prop) → Prop
  | [], r, S, Q => Z S ∧ Q S
  | x :: xs, r, S, Q => Z S ∧ tt (r.set i (some x)) S fun b S1 => if b = true then te (r.set i (some x)) S1 fun w S2 => ∃ acc, S2 p = some (.lst acc) ∧ acc.length < sizeLine ∧ lcW Z i tt te p xs r (put S2 p (.lst (acc ++ [w]))) Q
      else lcW Z i tt te p xs r S1 Q
theorem mono_lcW {Z : Sto → Prop} {i : Nat} {tt : WT} {te : WE} {p : Addr} (ht : MonoT tt) (he : MonoE te) {Q Q' : Sto → Prop} (h : ∀ S, Q S → Q' S) : ∀ xs r S, lcW Z i tt te p xs r S Q → lcW Z i tt te p xs r S Q'
  | [], r, S, q => ⟨q.1, h _ q.2⟩
  | x :: xs, r, S, q => ⟨q.1, ht _ _ _ _ (fun b S1 q1 => by
      cases b with
      | true => exact he _ _ _ _ (fun w S2 ⟨acc, h1, h2, q2⟩ => ⟨acc, h1, h2, mono_lcW ht he h xs r _ q2⟩) q1
      | false => exact mono_lcW ht he h xs r _ q1) q.2⟩
def wYes : WT := fun _ S Q => Q true S
def wLc (ti : WE) (i : Nat) (tt : WT) (te : WE) : WE := fun r S Q => ti r S fun x S1 => match seqOf S1 x with
  | some ws => ∀ p, S1 p = none → lcW (fun S => seqOf S x = some ws) i tt te p ws r (put S1 p (.lst [])) fun S2 => Q (.ref p) S2
  | none => False
def wLcR (ta : WA) (i : Nat) (tt : WT) (te : WE) : WE := fun r S Q => ta r S fun ws S1 => match ws with
  | [.int j] => (-(2 ^ 62) ≤ j ∧ j < 2 ^ 62) ∧ ∀ p, S1 p = none → lcW (fun _ => True) i tt te p ((List.range j.toNat).map fun i => W.int (i : Nat)) r (put S1 p (.lst [])) fun S2 => Q (.ref p) S2
  | _ => False
structure DTs (X : Cx) (ifs : List Expr) (t : WT) : Prop where
  mono : MonoT t
  pt : PTs X ifs (LowT X.K t)
theorem dts_nil : DTs X [] wYes := ⟨fun r S Q Q' h q => h _ _ q, ⟨fun pins s st H Q I ⟨r, S, g, gs, q⟩ => pts_nil.run pins s st H Q I (q H Ext.refl gs)⟩⟩
theorem dts_one {t : WT} (h : DT X c t) : DTs X [c] t := ⟨h.mono, pts_one h.pt⟩
theorem wipe_set (st : L2.St) (i : Nat) (v : V) : wipe ((wipe st [i]).set i (some v)) [i] = wipe st [i] := by
  show (((st.set i none).set i (some v)).set i none) = st.set i none
  rw [List.set_set, List.set_set]
theorem gr_wipe {K : PySem.W.Frag} {H : Hp} {r : Rho} {st : L2.St} {i : Nat} {w : W} {v : V} (g : GR K H r st) (x : Rel K H w v) : GR K H (r.set i (some w)) ((wipe st [i]).set i (some v)) := by
  have z := (g.wipe i).set i x
  rw [List.set_set] at z
  exact z
/-- one turn -/
theorem lc_turn {Z : Sto → Prop} {i : Nat} {tt : WT} {te : WE} {D : Addr} {H H0 : Hp} {st : L2.St} {r : Rho} {S : Sto} {y : W} {v : V} {ys : List W} {Q : Sto → Prop} {Nx : Hp → Prop} (ht : MonoT tt) (he : MonoE te) (e1 : Ext X.K H0 H) (g : GR X.K H0 r st) (gs : GS X.K S H) (rv : Rel X.K H y v)
    (hn : ∀ (H' : Hp) (S' : Sto), Ext X.K H0 H' → GS X.K S' H' → lcW Z i tt te D ys r S' Q → Nx H')
    (q : tt (r.set i (some y)) S fun b S1 => if b = true then te (r.set i (some y)) S1 fun w S2 => ∃ acc, S2 D = some (.lst acc) ∧ acc.length < sizeLine ∧ lcW Z i tt te D ys r (put S2 D (.lst (acc ++ [w]))) Q else lcW Z i tt te D ys r S1 Q) :
    gName i v (wipe st [i]) H fun s2 H2 => wipe s2 [i] = wipe st [i] ∧ LowT X.K tt s2 H2 fun b H3 =>
      if b = true then LowE X.K te s2 H3 fun y H4 => ∃ acc, H4 D = some (.lst acc) ∧ acc.length < sizeLine ∧ Nx (upd H4 D (.lst (acc ++ [y]))) else Nx H3 := by
  refine ⟨wipe_set st i v, r.set i (some y), S, gr_wipe (g.ext e1) rv, gs, ht _ _ _ _ (fun b S1 q1 H1 e2 g1 => ?_) q⟩
  cases b with
  | true =>
    refine ⟨r.set i (some y), S1, gr_wipe (g.ext (e1.trans e2)) (rv.ext e2), g1, he _ _ _ _ (fun w S2 ⟨acc, h1, h2, q2⟩ H2 u e3 g2 r2 => ?_) q1⟩
    obtain ⟨us, h3, l⟩ := g2.at h1
    have e4 : Ext X.K H2 (upd H2 D (.lst (us ++ [u]))) := Ext.chg h3 rfl
    exact ⟨us, h3, by rw [← l.length]; exact h2, hn _ _ (((e1.trans e2).trans e3).trans e4) (wr_lst g2 h3 (l.append (.one r2))) q2⟩
  | false => exact hn _ _ (e1.trans e2) g1 q1
theorem lc_seq {i : Nat} {tt : WT} {te : WE} {x : W} {ws : List W} {r : Rho} {st : L2.St} {S : Sto} {H0 : Hp} {D : Addr} {J : It} {Qd : Hp → Prop} {Q : Sto → Prop} (ht : MonoT tt) (he : MonoE te) (g : GR X.K H0 r st) (gs : GS X.K S H0) (hD : H0 D = none)
    (hJ : ∀ (H : Hp) (S : Sto) (i : Nat), Ext X.K H0 H → GS X.K S H → seqOf S x = some ws → ∃ vs, Rels X.K H ws vs ∧ ((∀ v, vs[i]? = some v → J.go i H) ∧ (vs.length ≤ i → J.stop i H) ∧ ∀ v v' H', vs[i]? = some v → J.yld i H v' H' → H' = H ∧ v' = v))
    (hq : ∀ (H : Hp) (S : Sto), Ext X.K H0 H → GS X.K S H → Q S → Qd H)
    (q : lcW (fun S => seqOf S x = some ws) i tt te D ws r (put S D (.lst [])) Q) :
    ∃ W' : Nat → Nat → Hp → Prop, (∃ m, W' 0 m (upd H0 D (.lst []))) ∧ ∀ j m H, W' j m H →
      (J.stop j H ∧ Qd H) ∨ (J.go j H ∧ ∃ Nx : Hp → Prop, (∀ H', Nx H' → ∃ m', m' < m ∧ W' (j + 1) m' H') ∧ ∀ v H', J.yld j H v H' → gName i v (wipe st [i]) H' fun s2 H2 => wipe s2 [i] = wipe st [i] ∧ LowT X.K tt s2 H2 fun b H3 =>
        if b = true then LowE X.K te s2 H3 fun y H4 => ∃ acc, H4 D = some (.lst acc) ∧ acc.length < sizeLine ∧ Nx (upd H4 D (.lst (acc ++ [y]))) else Nx H3) := by
  refine ⟨fun j m H => m = ws.length - j ∧ j ≤ ws.length ∧ ∃ S, Ext X.K H0 H ∧ GS X.K S H ∧ lcW (fun S => seqOf S x = some ws) i tt te D (ws.drop j) r S Q, ⟨ws.length, by simp, Nat.zero_le _, _, Ext.new hD, new_lst gs hD (Rels.nil.mpr rfl), by simpa using q⟩, ?_⟩
  rintro j m H ⟨rfl, hj, S, e1, gs, q⟩
  cases ed : ws.drop j with
  | nil =>
    rw [ed] at q
    have hl : ws.length ≤ j := by simpa using ed
    obtain ⟨vs, l, h1, h2, h3⟩ := hJ H S j e1 gs q.1
    exact .inl ⟨h2 (by rw [← l.length]; exact hl), hq H S e1 gs q.2⟩
  | cons y ys =>
    rw [ed] at q
    obtain ⟨ey, ed'⟩ := rels_drop_get (K := X.K) (H := H) ed
    have hlt : j < ws.length := (List.getElem?_eq_some_iff.mp ey).1
    obtain ⟨vs, l, h1, h2, h3⟩ := hJ H S j e1 gs q.1
    obtain ⟨v, ev, rv⟩ := l.get ey
    refine .inr ⟨h1 v ev, fun H' => ∃ S, Ext X.K H0 H' ∧ GS X.K S H' ∧ lcW (fun S => seqOf S x = some ws) i tt te D ys r S Q, fun H' ⟨S', e', s', q'⟩ => ⟨ws.length - (j + 1), by omega, rfl, hlt, S', e', s', by rw [ed']; exact q'⟩, fun v' H' hy => ?_⟩
    obtain ⟨rfl, rfl⟩ := h3 v v' H' ev hy
    exact lc_turn ht he e1 g gs rv (fun H' S' e' s' q' => ⟨S', e', s', q'⟩) q.2
theorem lc_rng {i : Nat} {tt : WT} {te : WE} {n : Nat} {r : Rho} {st : L2.St} {S : Sto} {H0 : Hp} {D : Addr} {Qd : Hp → Prop} {Q : Sto → Prop} (ht : MonoT tt) (he : MonoE te) (g : GR X.K H0 r st) (gs : GS X.K S H0) (hD : H0 D = none)
    (hq : ∀ (H : Hp) (S : Sto), Ext X.K H0 H → GS X.K S H → Q S → Qd H)
    (q : lcW (fun _ => True) i tt te D ((List.range n).map fun i => W.int (i : Nat)) r (put S D (.lst [])) Q) :
    ∃ W' : Nat → Nat → Hp → Prop, (∃ m, W' 0 m (upd H0 D (.lst []))) ∧ ∀ j m H, W' j m H →
      ((Itr 0 n).stop j H ∧ Qd H) ∨ ((Itr 0 n).go j H ∧ ∃ Nx : Hp → Prop, (∀ H', Nx H' → ∃ m', m' < m ∧ W' (j + 1) m' H') ∧ ∀ v H', (Itr 0 n).yld j H v H' → gName i v (wipe st [i]) H' fun s2 H2 => wipe s2 [i] = wipe st [i] ∧ LowT X.K tt s2 H2 fun b H3 =>
        if b = true then LowE X.K te s2 H3 fun y H4 => ∃ acc, H4 D = some (.lst acc) ∧ acc.length < sizeLine ∧ Nx (upd H4 D (.lst (acc ++ [y]))) else Nx H3) := by
  refine ⟨fun j m H => m = n - j ∧ j ≤ n ∧ ∃ S, Ext X.K H0 H ∧ GS X.K S H ∧ lcW (fun _ => True) i tt te D (((List.range n).map fun i => W.int (i : Nat)).drop j) r S Q, ⟨n, by simp, Nat.zero_le _, _, Ext.new hD, new_lst gs hD (Rels.nil.mpr rfl), by simpa using q⟩, ?_⟩
  rintro j m H ⟨rfl, hj, S, e1, gs, q⟩
  cases ed : ((List.range n).map fun i => W.int (i : Nat)).drop j with
  | nil =>
    rw [ed] at q
    have hl : n ≤ j := by simpa using ed
    exact .inl ⟨hl, hq H S e1 gs q.2⟩
  | cons y ys =>
    rw [ed] at q
    obtain ⟨ey, ed'⟩ := rels_drop_get (K := X.K) (H := H) ed
    rw [range_get] at ey
    split at ey
    · rename_i hlt
      cases ey
      refine .inr ⟨hlt, fun H' => ∃ S, Ext X.K H0 H' ∧ GS X.K S H' ∧ lcW (fun _ => True) i tt te D ys r S Q, fun H' ⟨S', e', s', q'⟩ => ⟨n - (j + 1), by omega, rfl, hlt, S', e', s', by rw [ed']; exact q'⟩, fun v' H' hy => ?_⟩
      obtain ⟨rfl, rfl⟩ := hy
      exact lc_turn ht he e1 g gs (by simp only [Rel, Int.zero_add]) (fun H' S' e' s' q' => ⟨S', e', s', q'⟩) q.2
    · cases ey
theorem mono_lc {ti : WE} {i : Nat} {tt : WT} {te : WE} (hi : MonoE ti) (ht : MonoT tt) (he : MonoE te) : MonoE (wLc ti i tt te) := fun r S Q Q' h q => hi _ _ _ _ (fun x S1 q1 => by
  split at q1
  · exact fun p hp => mono_lcW ht he (fun S q => h _ _ q) _ _ _ (q1 p hp)
  · exact q1) q
theorem mono_lcR {i : Nat} {tt : WT} {te : WE} (hi : MonoA tr) (ht : MonoT tt) (he : MonoE te) : MonoE (wLcR tr i tt te) := fun r S Q Q' h q => hi _ _ _ _ (fun x S1 q1 => by
  split at q1
  · exact ⟨q1.1, fun p hp => mono_lcW ht he (fun S q => h _ _ q) _ _ _ (q1.2 p hp)⟩
  · exact q1) q
theorem low_lc {ti : WE} {i : Nat} {tt : WT} {te : WE} {st : L2.St} {H : Hp} {Q : VK} (hi : MonoE ti) (ht : MonoT tt) (he : MonoE te) (h : LowE X.K (wLc ti i tt te) st H Q) : tLc (iSeq X.K (LowE X.K ti)) (gName i) (LowT X.K tt) (LowE X.K te) [i] st H Q := by
  obtain ⟨r, S, gr, gs, q⟩ := h
  refine ⟨r, S, gr, gs, hi _ _ _ _ (fun x S1 q1 H1 v e1 g1 r1 => ?_) q⟩
  split at q1
  · rename_i ws es
    obtain ⟨p, vs, rfl, hs, l⟩ := seqOf_ok g1 r1 es
    have fin : ∀ D (H : Hp) (S : Sto), Ext X.K H1 H → GS X.K S H → lowQ X.K _ Q (.ref D) S → Q (.ref D) H := fun D H2 S2 e2 g2 q2 => q2 H2 _ (e1.trans e2) g2 (by simp only [Rel])
    have isL : (∃ xs, rdl S1 x = some xs) ∨ ∃ xs, x = .tup xs := by
      cases x with
      | tup xs => exact .inr ⟨xs, rfl⟩
      | rl xs => exact .inl ⟨xs, rfl⟩
      | ref a =>
        refine .inl ⟨ws, ?_⟩
        simp only [seqOf] at es
        simp only [rdl]
        exact es
      | _ => simp [seqOf] at es
    rcases isL with ⟨xs, hx⟩ | ⟨xs, rfl⟩
    · have same : ∀ S2, seqOf S2 x = some ws → rdl S2 x = some ws := fun S2 h => by
        cases x with
        | ref a => simp only [seqOf] at h; simp only [rdl]; exact h
        | rl xs => simp only [seqOf] at h; simp only [rdl]; exact h
        | _ => simp [rdl] at hx
      obtain ⟨p', vs', ep, hL, l'⟩ := rdl_ok g1 r1 (same S1 es)
      cases ep
      refine ⟨p, rfl, .inl ⟨vs', hL, fun D hD => lc_seq (x := x) ht he (gr.ext e1) g1 hD (fun H2 S2 i e2 g2 hs2 => ?_) (fin D) (q1 D (g1.free hD))⟩⟩
      obtain ⟨p2, vs2, ep, hL2, l2⟩ := rdl_ok g2 (r1.ext e2) (same S2 hs2)
      cases ep
      refine ⟨vs2, l2, fun v hv => ⟨vs2, v, hL2, hv⟩, fun hle => ⟨vs2, hL2, hle⟩, fun v v' H' hv hy => ⟨hy.1, ?_⟩⟩
      have z := hy.2 vs2 hL2
      rw [hv] at z
      exact (Option.some.inj z).symm
    · simp only [seqOf, Option.some.injEq] at es
      subst es
      simp only [Rel] at r1
      obtain ⟨p', vs', ep, hT, l'⟩ := r1
      cases ep
      refine ⟨p, rfl, .inr ⟨vs', hT, fun D hD => lc_seq (x := .tup xs) ht he (gr.ext e1) g1 hD (fun H2 S2 i e2 g2 hs2 => ?_) (fin D) (q1 D (g1.free hD))⟩⟩
      have hT2 := e2.tup _ _ hT
      refine ⟨vs', l'.ext e2, fun v hv => ⟨vs', v, hT2, hv⟩, fun hle => ⟨vs', hT2, hle⟩, fun v v' H' hv hy => ⟨hy.1, ?_⟩⟩
      have z := hy.2 vs' hT2
      rw [hv] at z
      exact (Option.some.inj z).symm
  · exact q1.elim
theorem low_lcR {i : Nat} {tt : WT} {te : WE} {st : L2.St} {H : Hp} {Q : VK} (hi : MonoA tr) (ht : MonoT tt) (he : MonoE te) (h : LowE X.K (wLcR tr i tt te) st H Q) : tLc (iRng1 (LowA X.K tr)) (gName i) (LowT X.K tt) (LowE X.K te) [i] st H Q := by
  obtain ⟨r, S, gr, gs, q⟩ := h
  refine ⟨r, S, gr, gs, hi _ _ _ _ (fun x S1 q1 H1 v e1 g1 r1 => ?_) q⟩
  split at q1
  · obtain ⟨v, vr, rfl, r2, r3⟩ := Rels.cons.mp r1
    obtain rfl := Rels.nil.mp r3
    simp only [Rel] at r2
    subst r2
    refine ⟨_, rfl, q1.1.1, q1.1.2, fun D hD => lc_rng ht he (gr.ext e1) g1 hD (fun H2 S2 e2 g2 q2 => q2 H2 _ (e1.trans e2) g2 (by simp only [Rel])) (q1.2 D (g1.free hD))⟩
  · exact q1.elim
/-- in the comprehension's own frame, whichever it is -/
abbrev Blk (X : Cx) (scope : Scope) (P : Cx → Prop) : Prop := ∀ (s : Shared) (H : Hp) (C : Addr) (cl : List (Str × Addr)) (fp : List Addr), P (X.blk s H scope (compEnvC scope cl C X.env) fp)
theorem de_lc {elt tg iter : Expr} {ifs : List Expr} {scope : Scope} {i : Nat} {x : Str} {ti te : WE} {tt : WT} (hc : X.calm = true) (hN : X.N.Nodup) (hi : DE X iter ti) (ok : BlkOk X.N X.env.scope scope [(x, i)])
    (hg : Blk X scope fun Y => PG Y tg (gName i)) (ht : Blk X scope fun Y => DTs Y ifs tt) (he : Blk X scope fun Y => DE Y elt te) (hs : ∀ x, foldedSetIterable iter X.env x = pure x := by intro _; rfl) :
    DE X (.ListComp elt [⟨tg, iter, ifs, 0⟩] scope pos) (wLc ti i tt te) := by
  have m1 : MonoT tt := (ht ({} : Shared) (fun _ => none) 0 [] []).mono
  have m2 : MonoE te := (he ({} : Shared) (fun _ => none) 0 [] []).mono
  exact ⟨mono_lc hi.mono m1 m2, weakE (pe_lc (own := [(x, i)]) hc hN (pi_seq hi.pe) ok hg (fun s H C cl fp => (ht s H C cl fp).pt) (fun s H C cl fp => (he s H C cl fp).pe) hs) fun _ _ _ q => low_lc hi.mono m1 m2 q⟩
theorem de_lcR {a' elt tg : Expr} {ifs : List Expr} {scope : Scope} {i : Nat} {x : Str} {te : WE} {tt : WT} {p p2 : Pos} (hc : X.calm = true) (hN : X.N.Nodup) (hgl : Gl X "range") (hm : X.mg "range" = none) (ha : DA X [a'] tr) (ok : BlkOk X.N X.env.scope scope [(x, i)])
    (hg : Blk X scope fun Y => PG Y tg (gName i)) (ht : Blk X scope fun Y => DTs Y ifs tt) (he : Blk X scope fun Y => DE Y elt te)
    (hst : starEach [a'] X.env = [(false, eval a' X.env)] := by rfl) (hs : ∀ x, foldedSetIterable (.Call (.Name "range" p) [a'] [] p2) X.env x = pure x := by intro _; rfl) :
    DE X (.ListComp elt [⟨tg, .Call (.Name "range" p) [a'] [] p2, ifs, 0⟩] scope pos) (wLcR tr i tt te) := by
  have m1 : MonoT tt := (ht ({} : Shared) (fun _ => none) 0 [] []).mono
  have m2 : MonoE te := (he ({} : Shared) (fun _ => none) 0 [] []).mono
  exact ⟨mono_lcR ha.mono m1 m2, weakE (pe_lc (own := [(x, i)]) hc hN (pi_range1 hgl hm ha.pa hst) ok hg (fun s H C cl fp => (ht s H C cl fp).pt) (fun s H C cl fp => (he s H C cl fp).pe) hs) fun _ _ _ q => low_lcR ha.mono m1 m2 q⟩
theorem ds_setLcR {a' elt tg : Expr} {ifs : List Expr} {scope : Scope} {i j : Nat} {x y : Str} {te : WE} {tt : WT} {py spos p p2 : Pos} (hc : X.calm = true) (hN : X.N.Nodup) (hy : X.N[j]? = some y) (hyl : X.env.scope.names.lookup y = some .local)
    (hsw : swapsWith (.ListComp elt [⟨tg, .Call (.Name "range" p) [a'] [] p2, ifs, 0⟩] scope pos) (some (.Name y py)) spos.line X.env = pure true) (hgl : Gl X "range") (hm : X.mg "range" = none) (ha : DA X [a'] tr) (ok : BlkOk X.N X.env.scope scope [(x, i)])
    (hg : Blk X scope fun Y => PG Y tg (gName i)) (ht : Blk X scope fun Y => DTs Y ifs tt) (he : Blk X scope fun Y => DE Y elt te) (hst : starEach [a'] X.env = [(false, eval a' X.env)] := by rfl) (hs : ∀ x, foldedSetIterable (.Call (.Name "range" p) [a'] [] p2) X.env x = pure x := by intro _; rfl) :
    DS X (.Assign [.Name y py] (.ListComp elt [⟨tg, .Call (.Name "range" p) [a'] [] p2, ifs, 0⟩] scope pos) spos) (wAsg (wLcR tr i tt te) (gNameW j)) := by
  have m1 : MonoT tt := (ht ({} : Shared) (fun _ => none) 0 [] []).mono
  have m2 : MonoE te := (he ({} : Shared) (fun _ => none) 0 [] []).mono
  have m : MonoE (wLcR tr i tt te) := mono_lcR ha.mono m1 m2
  have hgm : MonoG (gNameW j) := fun w r S Q Q' h q => h _ _ q
  refine ⟨fun D D' r S h q => m _ _ _ _ (fun w S1 q1 => hgm _ _ _ _ _ h.nx q1) q, weakS (ps_setLc (tt := LowT X.K tt) (te := LowE X.K te) (own := [(x, i)]) hc hN hy hyl hsw (pi_range1 hgl hm ha.pa hst) ok hg (fun s H C cl fp => (ht s H C cl fp).pt) (fun s H C cl fp => (he s H C cl fp).pe) hs) fun D st H ⟨r, S, g, gs, q⟩ => ?_⟩
  refine low_lcR ha.mono m1 m2 ⟨r, S, g, gs, m _ _ _ _ (fun w S1 q1 H1 v e1 g1 r1 => ?_) q⟩
  exact q1 _ H1 e1 ((g.ext e1).set j r1) g1
/-! ### dicts -/
def keyW : W → Option Key
  | .int i => some (.inl i)
  | .str x => some (.inr x)
  | _ => none
theorem keyW_ok {K : PySem.W.Frag} {H : Hp} {w : W} {v : V} {k : Key} (r : Rel K H w v) (h : keyW w = some k) : v = kV k := by
  cases w <;> first
    | (simp only [Rel] at r; subst r; simp only [keyW, Option.some.injEq] at h; subst h; rfl)
    | (simp [keyW] at h)
theorem RelF.val {K : PySem.W.Frag} {H : Hp} {κ : Type} [DecidableEq κ] {ws : List (κ × W)} {vs : List (κ × V)} (h : RelF K H ws vs) (k : κ) : (∀ w, valW ws k = some w → ∃ v, valV vs k = some v ∧ Rel K H w v) ∧ (valW ws k = none → valV vs k = none) := by
  induction h with
  | nil => exact ⟨fun w e => (nomatch e), fun _ => rfl⟩
  | @cons k' w v ws vs r _ ih =>
    unfold valW valV
    simp only [List.find?_cons]
    by_cases q : k' = k
    · rw [decide_eq_true q]
      exact ⟨fun w' e => ⟨v, rfl, by cases e; exact r⟩, fun e => (nomatch e)⟩
    · rw [decide_eq_false q]
      exact ih
theorem RelF.any {K : PySem.W.Frag} {H : Hp} {κ : Type} [DecidableEq κ] {ws : List (κ × W)} {vs : List (κ × V)} (h : RelF K H ws vs) (k : κ) : (ws.any fun kv => decide (kv.1 = k)) = vs.any fun kv => decide (kv.1 = k) := by
  induction h with
  | nil => rfl
  | cons _ _ ih => rw [List.any_cons, List.any_cons, ih]
theorem RelF.mapk {K : PySem.W.Frag} {H : Hp} {κ : Type} [DecidableEq κ] {ws : List (κ × W)} {vs : List (κ × V)} (h : RelF K H ws vs) (k : κ) {w : W} {v : V} (r : Rel K H w v) : RelF K H (ws.map fun kv => if kv.1 = k then (kv.1, w) else kv) (vs.map fun kv => if kv.1 = k then (kv.1, v) else kv) := by
  induction h with
  | nil => exact .nil
  | @cons k' w' v' ws vs r' _ ih =>
    rw [List.map_cons, List.map_cons]
    by_cases q : k' = k
    · rw [if_pos q, if_pos q]; exact .cons r ih
    · rw [if_neg q, if_neg q]; exact .cons r' ih
theorem RelF.app {K : PySem.W.Frag} {H : Hp} {κ : Type} {ws ws' : List (κ × W)} {vs vs' : List (κ × V)} (h : RelF K H ws vs) (h' : RelF K H ws' vs') : RelF K H (ws ++ ws') (vs ++ vs') := by
  induction h with
  | nil => exact h'
  | cons r _ ih => exact .cons r ih
theorem RelF.putK {K : PySem.W.Frag} {H : Hp} {κ : Type} [DecidableEq κ] {ws : List (κ × W)} {vs : List (κ × V)} (h : RelF K H ws vs) (k : κ) {w : W} {v : V} (r : Rel K H w v) : RelF K H (putKW ws k w) (L2.putK vs k v) := by
  unfold putKW L2.putK
  rw [h.any k]
  split
  · exact h.mapk k r
  · exact h.app (.cons r .nil)
def rDGet : WR2 := fun x y S Q => match x, keyW y with
  | .ref a, some k => match S a with
    | some (.dk kvs) => match valW kvs k with
      | some w => Q w S
      | none => False
    | _ => False
  | _, _ => False
theorem mono_dget : Mono2 rDGet := fun x y S Q Q' h q => by
  unfold rDGet at q ⊢
  split at q
  · split at q
    · split at q
      · exact h _ _ q
      · exact q
    · exact q
  · exact q
theorem de_dget (hu : X.A.units + 1 < cLine) (ha : DE X a ta) (hb : DE X b tb) (hs : NoSl b := by intro _ _; rfl) : DE X (.Subscript a b pos) (wOp rDGet ta tb) := by
  refine ⟨mono_op mono_dget ha.mono hb.mono, weakE (pe_dget hu ha.pe hb.pe hs) fun st H Q ⟨rh, S, g, gs, q⟩ => ⟨rh, S, g, gs, ha.mono _ _ _ _ (fun wx S1 q1 H1 x e1 g1 r1 => ?_) q⟩⟩
  refine ⟨rh, S1, g.ext e1, g1, hb.mono _ _ _ _ (fun wy S2 q2 H2 y e2 g2 r2 => ?_) q1⟩
  unfold rDGet at q2
  split at q2
  · rename_i ad k ek
    simp only [Rel] at r1
    subst r1
    split at q2
    · rename_i kvs ea
      split at q2
      · rename_i w ew
        obtain ⟨vs, h1, l⟩ := g2.at ea
        obtain ⟨v, ev, rv⟩ := (l.val k).1 w ew
        refine ⟨ad, v, rfl, ?_, q2 H2 v (e1.trans e2) g2 rv⟩
        rw [keyW_ok r2 ek, ← ev]
        exact DGet.k h1
      · exact q2.elim
    · exact q2.elim
  · exact q2.elim
def wDPut (td ty tv : WE) : WS := fun D r S => tv r S fun w S1 => td r S1 fun x S2 => ty r S2 fun y S3 => match x, keyW y with
  | .ref a, some k => match S3 a with
    | some (.dk kvs) => kvs.length < sizeLine ∧ D.nx r (put S3 a (.dk (putKW kvs k w)))
    | _ => False
  | _, _ => False
theorem ds_dput {value : Expr} {tv : WE} {pos' : Pos} (hu : X.A.units + 1 < cLine) (ha : DE X a ta) (hb : DE X b tb) (hv : DE X value tv) (hs : swapsWith value (some (.Subscript a b pos')) pos.line X.env = pure false := by rfl) :
    DS X (.Assign [.Subscript a b pos'] value pos) (wDPut ta tb tv) := by
  refine ⟨fun D D' r S h q => hv.mono _ _ _ _ (fun w S1 q1 => ha.mono _ _ _ _ (fun x S2 q2 => hb.mono _ _ _ _ (fun y S3 q3 => ?_) q2) q1) q, weakS (ps_dput hu ha.pe hb.pe hv.pe hs) fun D st H ⟨r, S, g, gs, q⟩ => ⟨r, S, g, gs, hv.mono _ _ _ _ (fun w S1 q1 H1 v e1 g1 r1 => ?_) q⟩⟩
  · split at q3
    · split at q3
      · exact ⟨q3.1, h.nx _ _ q3.2⟩
      · exact q3
    · exact q3
  · refine ⟨r, S1, g.ext e1, g1, ha.mono _ _ _ _ (fun x S2 q2 H2 xv e2 g2 r2 => ?_) q1⟩
    refine ⟨r, S2, (g.ext e1).ext e2, g2, hb.mono _ _ _ _ (fun y S3 q3 H3 yv e3 g3 r3 => ?_) q2⟩
    split at q3
    · rename_i ad k ek
      simp only [Rel] at r2
      subst r2
      split at q3
      · rename_i kvs ea
        obtain ⟨vs, h1, l⟩ := g3.at ea
        have e4 : Ext X.K H3 (upd H3 ad (.dK (L2.putK vs k v))) := Ext.chg h1 rfl
        refine ⟨ad, _, rfl, by rw [keyW_ok r3 ek]; exact DPut.k h1 (by rw [← l.length]; exact q3.1), q3.2 st _ (((e1.trans e2).trans e3).trans e4) ((((g.ext e1).ext e2).ext e3).ext e4) ?_⟩
        exact g3.wr h1 rfl ⟨_, upd_same, (l.putK k ((r1.ext e2).ext e3)).ext e4⟩
      · exact q3.elim
    · exact q3.elim
/-- a display with written keys -/
def wPairs : List (WE × WE) → Rho → Sto → (List (W × W) → Sto → Prop) → Prop
  | [], _, S, Q => Q [] S
  | (tk, tv) :: ts, r, S, Q => tk r S fun x S1 => tv r S1 fun y S2 => wPairs ts r S2 fun ps S3 => Q ((x, y) :: ps) S3
def keysW : List (W × W) → Option (List (Key × W))
  | [] => some []
  | (x, y) :: ps => match keyW x, keysW ps with
    | some k, some kvs => some ((k, y) :: kvs)
    | _, _ => none
def mergeW (kvs more : List (Key × W)) : List (Key × W) := more.foldl (fun acc kv => putKW acc kv.1 kv.2) kvs
theorem RelF.merge {K : PySem.W.Frag} {H : Hp} {ws : List (Key × W)} {vs : List (Key × V)} (h : RelF K H ws vs) : ∀ {ws' : List (Key × W)} {vs' : List (Key × V)}, RelF K H ws' vs' → RelF K H (mergeW ws' ws) (mergeK vs' vs) := by
  induction h with
  | nil => intro ws' vs' h'; exact h'
  | cons r _ ih => intro ws' vs' h'; exact ih (h'.putK _ r)
def lowPairs (K : PySem.W.Frag) (ts : List (WE × WE)) : List (TE × TE) := ts.map fun t => (LowE K t.1, LowE K t.2)
inductive RelPs (K : PySem.W.Frag) (H : Hp) : List (W × W) → List (V × V) → Prop
  | nil : RelPs K H [] []
  | cons {x y : W} {u v : V} {ws : List (W × W)} {vs : List (V × V)} : Rel K H x u → Rel K H y v → RelPs K H ws vs → RelPs K H ((x, y) :: ws) ((u, v) :: vs)
theorem RelPs.keys {K : PySem.W.Frag} {H : Hp} {ws : List (W × W)} {vs : List (V × V)} (h : RelPs K H ws vs) : ∀ {kvs : List (Key × W)}, keysW ws = some kvs → ∃ us : List (Key × V), vs = us.map (fun kv => (kV kv.1, kv.2)) ∧ RelF K H kvs us := by
  induction h with
  | nil => intro kvs e; cases e; exact ⟨[], rfl, .nil⟩
  | cons r1 r2 _ ih =>
    intro kvs e
    unfold keysW at e
    split at e
    · rename_i k kvs' ek ekvs
      cases e
      obtain ⟨us, rfl, q⟩ := ih ekvs
      exact ⟨(k, _) :: us, by rw [keyW_ok r1 ek]; rfl, .cons r2 q⟩
    · cases e
def MonoPs (ts : List (WE × WE)) : Prop := ∀ t ∈ ts, MonoE t.1 ∧ MonoE t.2
theorem mono_pairs : ∀ {ts : List (WE × WE)}, MonoPs ts → ∀ r S (Q Q' : List (W × W) → Sto → Prop), (∀ ps S, Q ps S → Q' ps S) → wPairs ts r S Q → wPairs ts r S Q'
  | [], _, r, S, Q, Q', h, q => h _ _ q
  | (tk, tv) :: ts, m, r, S, Q, Q', h, q => (m _ List.mem_cons_self).1 _ _ _ _ (fun x S1 q1 => (m _ List.mem_cons_self).2 _ _ _ _ (fun y S2 q2 => mono_pairs (fun t ht => m t (List.mem_cons_of_mem _ ht)) r S2 _ _ (fun ps S q => h _ _ q) q2) q1) q
theorem low_pairs {K : PySem.W.Frag} : ∀ {ts : List (WE × WE)}, MonoPs ts → ∀ {r : Rho} {st : L2.St} {S : Sto} {H0 H : Hp} {Q : List (V × V) → Hp → Prop}, GR K H r st → GS K S H → Ext K H0 H →
    wPairs ts r S (fun ps S' => ∀ (H' : Hp) (vs : List (V × V)), Ext K H0 H' → GS K S' H' → RelPs K H' ps vs → Q vs H') → tPairs (lowPairs K ts) st H Q
  | [], _, r, st, S, H0, H, Q, g, gs, e0, q => q H [] e0 gs .nil
  | (tk, tv) :: ts, m, r, st, S, H0, H, Q, g, gs, e0, q => by
    refine ⟨r, S, g, gs, (m _ List.mem_cons_self).1 _ _ _ _ (fun x S1 q1 H1 u e1 g1 r1 => ?_) q⟩
    refine ⟨r, S1, g.ext e1, g1, (m _ List.mem_cons_self).2 _ _ _ _ (fun y S2 q2 H2 v e2 g2 r2 => ?_) q1⟩
    have m' : MonoPs ts := fun t ht => m t (List.mem_cons_of_mem _ ht)
    refine low_pairs (H0 := H2) m' ((g.ext e1).ext e2) g2 Ext.refl (mono_pairs m' _ _ _ _ (fun ps S3 q3 H3 vs e3 g3 r3 => ?_) q2)
    exact q3 H3 _ (((e0.trans e1).trans e2).trans e3) g3 (.cons ((r1.ext e2).ext e3) (r2.ext e3) r3)
def wDisp (ts : List (WE × WE)) : WE := fun r S Q => ∀ p, S p = none → wPairs ts r (put S p (.dk [])) fun ps S2 => match keysW ps with
  | some kvs => (S2 p = some (.dk []) ∧ kvs.length ≤ 15) ∧ Q (.ref p) (put S2 p (.dk (mergeW [] kvs)))
  | none => False
structure DPs (X : Cx) (pos : Pos) (keys : List (Option Expr)) (values : List Expr) (ts : List (WE × WE)) : Prop where
  mono : MonoPs ts
  pp : PPs X pos keys values (lowPairs X.K ts)
theorem dps_nil : DPs X pos [] [] [] := ⟨fun t ht => (nomatch ht), pps_nil⟩
theorem dps_cons {k v : Expr} {ks : List (Option Expr)} {vs : List Expr} {tk tv : WE} {ts : List (WE × WE)} (hk : DE X k tk) (hv : DE X v tv) (h : DPs X pos ks vs ts) : DPs X pos (some k :: ks) (v :: vs) ((tk, tv) :: ts) :=
  ⟨fun t ht => (List.mem_cons.mp ht).elim (fun e => by subst e; exact ⟨hk.mono, hv.mono⟩) (h.mono t), pps_cons hk.pe hv.pe h.pp⟩
theorem de_disp {keys : List (Option Expr)} {values : List Expr} {ts : List (WE × WE)} (h : DPs X pos keys values ts) (hall : keys.all (·.isSome) = true := by rfl) (hl : keys.length = values.length := by rfl) (h0 : keys ≠ [] := by (intro z; cases z)) (h15 : keys.length ≤ 15 := by decide) :
    DE X (.Dict keys values pos) (wDisp ts) := by
  refine ⟨fun r S Q Q' hq q p hp => mono_pairs h.mono _ _ _ _ (fun ps S2 q2 => ?_) (q p hp), weakE (pe_disp h.pp hall hl h0 h15) fun st H Q ⟨r, S, g, gs, q⟩ p hp => ?_⟩
  · split at q2
    · exact ⟨q2.1, hq _ _ q2.2⟩
    · exact q2
  · have e0 : Ext X.K H (upd H p (.dK [])) := Ext.new hp
    refine low_pairs (H0 := upd H p (.dK [])) h.mono (g.ext e0) (gs.new (o := .dk []) hp ⟨[], upd_same, .nil⟩) Ext.refl (mono_pairs h.mono _ _ _ _ (fun ps S2 q2 H2 vs e2 g2 r2 => ?_) (q p (gs.free hp)))
    split at q2
    · rename_i kvs ek
      obtain ⟨⟨h1, h2⟩, q3⟩ := q2
      obtain ⟨us, rfl, rf⟩ := r2.keys ek
      obtain ⟨vs0, h3, l0⟩ := g2.at h1
      cases l0
      have e3 : Ext X.K H2 (upd H2 p (.dK (mergeK [] us))) := Ext.chg h3 rfl
      exact ⟨h3, us, rfl, by rw [← rf.length]; exact h2, q3 _ _ ((e0.trans e2).trans e3) (g2.wr h3 rfl ⟨_, upd_same, (rf.merge .nil).ext e3⟩) (by simp only [Rel])⟩
    · exact q2.elim
/-- a dict of the written part, by what is known of it -/
structure KTab (K : PySem.W.Frag) (w : World) (d : Addr) (tab : Str → Option (Option W)) : Prop where
  at_ : ∃ es n, KDict K w d es n
  val : ∀ z r, tab z = some r → ∃ u, PySem.W.nsIn K d z = some u ∧ match r with
    | none => u = none
    | some x => ∃ u0 v, u = some u0 ∧ RelV v u0 ∧ ∀ H, Rel K H x v
def rInKd (d : Addr) (tab : Str → Option (Option W)) (neg : Bool) : WR2 := fun x y S Q => match x, y with
  | .str z, .ref d' => d' = d ∧ match tab z with
    | some r => Q (.bl (if neg then !r.isSome else r.isSome)) S
    | none => False
  | _, _ => False
theorem mono_inkd {d : Addr} {tab : Str → Option (Option W)} {neg : Bool} : Mono2 (rInKd d tab neg) := fun x y S Q Q' h q => by
  unfold rInKd at q ⊢
  split at q
  · refine ⟨q.1, ?_⟩
    have q2 := q.2
    split at q2
    · exact h _ _ q2
    · exact q2
  · exact q
theorem KTab.some_ {K : PySem.W.Frag} {w : World} {d : Addr} {tab : Str → Option (Option W)} (T : KTab K w d tab) {z : Str} {r : Option W} (h : tab z = some r) : ∃ u, PySem.W.nsIn K d z = some u ∧ u.isSome = r.isSome := by
  obtain ⟨u, h1, h2⟩ := T.val z r h
  refine ⟨u, h1, ?_⟩
  cases r with
  | none => rw [h2]; rfl
  | some x => obtain ⟨u0, v, rfl, _⟩ := h2; rfl
theorem ow_inkd {d : Addr} {tab : Str → Option (Option W)} (T : KTab X.K X.w d tab) : OpW X (compareOp .In) (rInKd d tab false) := by
  obtain ⟨es, n, D⟩ := T.at_
  refine ⟨mono_inkd, fun pins s st H x y v u Q I rx ry ⟨wx, wy, S, gs, r1, r2, q⟩ => ?_⟩
  unfold rInKd at q
  split at q
  · obtain ⟨rfl, q⟩ := q
    split at q
    · rename_i r er
      simp only [Rel] at r1 r2
      subst r1 r2
      obtain ⟨u', h1, h2⟩ := T.some_ er
      exact op_in_kd D pins s st H _ _ v u Q I rx ry ⟨_, u', rfl, rfl, h1, by rw [h2]; exact q H _ Ext.refl gs (by simp only [Rel]; rfl)⟩
    · exact q.elim
  · exact q.elim
def rGetKd (d : Addr) (tab : Str → Option (Option W)) : WR2 := fun x y S Q => match x, y with
  | .ref d', .str z => d' = d ∧ match tab z with
    | some (some w) => Q w S
    | _ => False
  | _, _ => False
theorem de_kget {d : Addr} {tab : Str → Option (Option W)} (T : KTab X.K X.w d tab) (ha : DE X a ta) (hb : DE X b tb) (hs : PlainIx b := by intro _ _; rfl) : DE X (.Subscript a b pos) (wOp (rGetKd d tab) ta tb) := by
  have mo : Mono2 (rGetKd d tab) := fun x y S Q Q' h q => by
    unfold rGetKd at q ⊢
    split at q
    · refine ⟨q.1, ?_⟩
      have q2 := q.2
      split at q2
      · exact h _ _ q2
      · exact q2
    · exact q
  obtain ⟨es, n, D⟩ := T.at_
  have hr : IxR X (LowR X.K (rGetKd d tab)) := fun value slice pins s st H x y v u Q I rx ry ⟨wx, wy, S, gs, r1, r2, q⟩ hs => by
    unfold rGetKd at q
    split at q
    · obtain ⟨rfl, q⟩ := q
      split at q
      · rename_i w er
        simp only [Rel] at r1 r2
        subst r1 r2
        obtain ⟨u', h1, u0, v0, rfl, h3, h4⟩ := T.val _ _ er
        exact ix_kdict value slice pins s st H _ _ v u Q I rx ry ⟨_, _, v0, rfl, rfl, ⟨es, n, u0, D.at_, D.lit, h1, h3⟩, q H _ Ext.refl gs (h4 H)⟩ hs
      · exact q.elim
    · exact q.elim
  exact ⟨mono_op mo ha.mono hb.mono, weakE (pe_ix hr ha.pe hb.pe hs) fun _ _ _ q => low_op mo ha.mono hb.mono q⟩
/-- -e -/
def wNeg (ta : WE) : WE := fun r S Q => ta r S fun x S1 => match x with
  | .int i => Q (.int (-i)) S1
  | _ => False
theorem de_neg (ha : DE X a ta) : DE X (.UnaryOp .USub a pos) (wNeg ta) := by
  refine ⟨fun r S Q Q' h q => ha.mono _ _ _ _ (fun x S1 q1 => ?_) q, weakE (pe_un un_neg ha.pe) fun st H Q ⟨r, S, g, gs, q⟩ => ⟨r, S, g, gs, ha.mono _ _ _ _ (fun x S1 q1 H1 v e1 g1 r1 => ?_) q⟩⟩
  · cases x <;> first | exact h _ _ q1 | exact q1
  · cases x with
    | int i => simp only [Rel] at r1; exact ⟨i, r1, q1 H1 _ e1 g1 (by simp only [Rel])⟩
    | _ => exact q1.elim
end
/-! ### a def's contract from its body -/
/-- a store that knows more -/
def Le (S S' : Sto) : Prop := ∀ a o, S a = some o → S' a = some o
theorem Le.refl {S : Sto} : Le S S := fun _ _ h => h
theorem Le.trans {S S1 S2 : Sto} (a : Le S S1) (b : Le S1 S2) : Le S S2 := fun x o h => b x o (a x o h)
theorem Le.put {S : Sto} {p : Addr} {o : MO} (h : S p = none) : Le S (put S p o) := fun a u e => by
  rw [put_ne]; exact e
  intro z; rw [z, h] at e; cases e
theorem Le.put2 {S S' : Sto} {p : Addr} {o : MO} (l : Le S S') (h : S p = none) : Le S (WL.put S' p o) := fun a u e => by
  rw [put_ne]; exact l a u e
  intro z; rw [z, h] at e; cases e
theorem Le.free {S S' : Sto} {p : Addr} (l : Le S S') (h : S' p = none) : S p = none := by
  cases q : S p with
  | none => rfl
  | some o => rw [l p o q] at h; cases h
theorem GS.le {K : PySem.W.Frag} {S S' : Sto} {H : Hp} (g : GS K S' H) (l : Le S S') : GS K S H := fun a o h => g a o (l a o h)
/-- what is wanted holds of a store that knows more, too -/
def Up (Q : WQ) : Prop := ∀ w S S', Le S S' → Q w S → Q w S'
def startW (n : Nat) (ws : List W) : Rho := ws.map some ++ List.replicate (n - ws.length) none
theorem gr_start {K : PySem.W.Frag} {H : Hp} {N : List Str} {ws : List W} {vs : List V} (r : Rels K H ws vs) : GR K H (startW N.length ws) (L2.start N vs) := by
  unfold startW L2.start
  have l := r.length
  refine ⟨by simp [l], fun i w h => ?_⟩
  by_cases hi : i < ws.length
  · rw [List.getElem?_append_left (by simpa using hi)] at h
    rw [List.getElem?_append_left (by simpa [← l] using hi)]
    rw [List.getElem?_map] at h
    cases q : ws[i]? with
    | none => rw [q] at h; cases h
    | some w' =>
      rw [q] at h
      cases h
      obtain ⟨v, h1, h2⟩ := r.get q
      exact ⟨v, by rw [List.getElem?_map, h1]; rfl, h2⟩
  · rw [List.getElem?_append_right (by simpa using Nat.le_of_not_lt hi)] at h
    have z := List.mem_of_getElem? h
    rw [List.mem_replicate] at z
    cases z.2
section
variable {P : Program} {w : World} {K : PySem.W.Frag} {mg : Str → Option Value} {base : Heap}
/-- the context of a def's body from which nothing is raised -/
abbrev CxF (P : Program) (w : World) (K : PySem.W.Frag) (mg : Str → Option Value) (base : Heap) (N : List Str) (qual : Str) (sc : Scope) (f : Addr) (cdv : Value) (A : Around) (outer : List Env) (s : Shared) (H : Hp) (E : XK) : Cx := (cxOf CX0 P w K mg base N qual sc f cdv A outer s H E).nox
theorem fnW {x qual : Str} {st : Stmt} {f : Addr} {fd : FuncData} {N ps : List Str} {k : Nat} {sp : WSp} {t : WS} (F : Fun K x qual st f fd) (S : FnScope N ps (defScope st)) (len : ∀ ws S Q, sp ws S Q → ws.length = ps.length)
    (body : ∀ (cdv : Value) (A : Around) (outer : List Env) (s : Shared) (H : Hp) (E : XK), Room k (CxF P w K mg base N qual (defScope st) f cdv A outer s H E).A → DSs (CxF P w K mg base N qual (defScope st) f cdv A outer s H E) (defBody st) t)
    (read : ∀ ws S Q, Up Q → sp ws S Q → t { nx := fun _ S' => Q .non S', rt := Q } (startW N.length ws) S) : FnOk P w K mg base CX0 (k + 1) f fd ps (LowSp K sp) := by
  refine F.ok S (fun vs H Q E ⟨ws, S, r, _, q⟩ => by rw [← r.length]; exact len ws S _ q) (fun cdv A outer s H vs Q E hr ⟨ws, So, r, gs, q⟩ => ?_)
  refine ⟨_, (body cdv A outer s H E hr).ps, startW N.length ws, So, gr_start r, gs, (body cdv A outer s H E hr).mono { nx := fun _ S' => lowQ K H Q .non S', rt := lowQ K H Q } (lowD K H { nx := fun _ H' => Q .non H', rt := Q }) _ _ ⟨fun r1 S1 q1 st1 H1 e1 g1 s1 => ?_, fun w1 S1 q1 => q1, fun _ _ z => z.elim, fun _ _ z => z.elim⟩ (read ws So _ (fun w S S' l q H' v e g r => q H' v e (g.le l) r) q)⟩
  exact q1 H1 V.non e1 s1 (by simp only [Rel])
end
end WL
namespace WL
open PySem L2
def wds : List Str := (["plus", "less", "times", "part", "below", "same", "set", "say", "give", "hand", "if", "round", "leave", "fault", "end", "try", "go", "fork", "num", "work", "row", "slot", "rooms", "slots", "start", "-", "join", "shut", "ask", "throw", "deeds", "told", "said", "program", "talk", "begins", "all_told", "get", "append", "__init__", "body", "tried", "room", "extend", " ", "numbers", "tell", "gift", "close", "", "setdefault", "step", "ended", "left", "sorted_out", "count", "s", "over", "stop", "handed", "rounds", "given", "add", "sey", "last", "else", "stubborn", "other", "  ", "caught ", "clear", "words", "machines", "way", "keep", "through", "out", "pop", "asks", "reverse", "index", "0123456789", "rows", "at", "works", "split", "must", "reckoning", "plain", "behind", "words_at", "0", "whole", "caught", "several", "9", "1000", "00", "07", "1234567890", "s0", "s7", "s01", "work 0 1", "work 1", "work 0 1 2", "work 0 0", "work 3 4", "say 1", "  say 1", "read", "-1", "2", "123456789", "work 0 -", "lstrip", "  last 0", "  else", "made", "text", "played", "zz"] : List String).map Str.ofString
theorem wds_nodup : wds.Nodup := by decide +kernel
def wd (i : Nat) : Str := wds.getD i ""
theorem wd_inj {i j : Nat} (hi : i < 122) (hj : j < 122) : (wd i = wd j) = (i = j) := by
  have l : wds.length = 122 := rfl
  refine propext ⟨fun h => ?_, fun h => by rw [h]⟩
  unfold wd at h
  have hi' : i < wds.length := by rw [l]; exact hi
  have hj' : j < wds.length := by rw [l]; exact hj
  rw [List.getD_eq_getElem?_getD, List.getD_eq_getElem?_getD, List.getElem?_eq_getElem hi', List.getElem?_eq_getElem hj'] at h
  exact (List.getElem_inj wds_nodup).mp h
abbrev w_plus : Str := wd 0
abbrev w_less : Str := wd 1
abbrev w_times : Str := wd 2
abbrev w_part : Str := wd 3
abbrev w_below : Str := wd 4
abbrev w_same : Str := wd 5
abbrev w_set : Str := wd 6
abbrev w_say : Str := wd 7
abbrev w_give : Str := wd 8
abbrev w_hand : Str := wd 9
abbrev w_if : Str := wd 10
abbrev w_round : Str := wd 11
abbrev w_leave : Str := wd 12
abbrev w_fault : Str := wd 13
abbrev w_end : Str := wd 14
abbrev w_try : Str := wd 15
abbrev w_go : Str := wd 16
abbrev w_fork : Str := wd 17
abbrev w_num : Str := wd 18
abbrev w_slot : Str := wd 21
abbrev w_rooms : Str := wd 22
abbrev w_slots : Str := wd 23
abbrev w_shut : Str := wd 27
abbrev w_ask : Str := wd 28
abbrev w_throw : Str := wd 29
abbrev w_deeds : Str := wd 30
abbrev w_told : Str := wd 31
abbrev w_said : Str := wd 32
abbrev w_program : Str := wd 33
abbrev w_talk : Str := wd 34
abbrev w_gift : Str := wd 47
abbrev w_count : Str := wd 55
abbrev w_over : Str := wd 57
abbrev w_stop : Str := wd 58
abbrev w_stubborn : Str := wd 66
abbrev w_words : Str := wd 71
abbrev w_machines : Str := wd 72
abbrev w_out : Str := wd 76
def W_PAIRS : W := .tup [.str w_plus, .str w_less, .str w_times, .str w_part, .str w_below, .str w_same]
/-! ### facts for the symbolic run -/
theorem atI0 {α : Type} (a : α) (l : List α) : atI (a :: l) 0 = some a := atI_nat (j := 0) rfl
theorem atI1 {α : Type} (a b : α) (l : List α) : atI (a :: b :: l) 1 = some b := atI_nat (j := 1) rfl
theorem atI2 {α : Type} (a b c : α) (l : List α) : atI (a :: b :: c :: l) 2 = some c := atI_nat (j := 2) rfl
theorem atI3 {α : Type} (a b c d : α) (l : List α) : atI (a :: b :: c :: d :: l) 3 = some d := atI_nat (j := 3) rfl
theorem atI4 {α : Type} (a b c d e : α) (l : List α) : atI (a :: b :: c :: d :: e :: l) 4 = some e := atI_nat (j := 4) rfl
theorem line_le {n : Nat} (h : n ≤ 1000) : (n ≤ sizeLine) = True := eq_true (Nat.le_trans h (by decide))
theorem ci0 : ((0 : Nat) : Int) = 0 := rfl
theorem ci1 : ((1 : Nat) : Int) = 1 := rfl
theorem ci2 : ((2 : Nat) : Int) = 2 := rfl
theorem ci3 : ((3 : Nat) : Int) = 3 := rfl
theorem ci4 : ((4 : Nat) : Int) = 4 := rfl
theorem ci5 : ((5 : Nat) : Int) = 5 := rfl
theorem ci6 : ((6 : Nat) : Int) = 6 := rfl
/-! ### the symbolic run: what each reading is where its values are known -/
section
variable {C : Addr} {f m : Str} {i j : Int} {a b p : Addr} {w x y z : W} {ws vs us : List W} {r r' : Rho} {S S' : Sto} {Q : WQ} {QB : Bool → Sto → Prop} {QL : List W → Sto → Prop} {QR : Rho → Sto → Prop} {ta tb tc to : WE} {t u c : WT} {tr : WA} {sa sb : WS} {D : WD} {R R' : WR2} {k n : Nat} {sp : WSp} {g : WG} {gs : WGs} {st : Str} {fs : List (Str × W)}
def onB (x : W) (k : Bool → Prop) : Prop := match x with
  | .bl b => k b
  | _ => False
def onS (o : Option W) (k : W → Prop) : Prop := match o with
  | some w => k w
  | none => False
def onL (o : Option MO) (k : List W → Prop) : Prop := match o with
  | some (.lst ws) => k ws
  | _ => False
def onQ (o : Option (List W)) (k : List W → Prop) : Prop := match o with
  | some ws => k ws
  | none => False
def onI (o : Option MO) (k : Addr → List (Str × W) → Prop) : Prop := match o with
  | some (.ins C fs) => k C fs
  | _ => False
def onD (o : Option MO) (k : List (Key × W) → Prop) : Prop := match o with
  | some (.dk kvs) => k kvs
  | _ => False
def onR (x : W) (k : Addr → Prop) : Prop := match x with
  | .ref a => k a
  | _ => False
def onT (x : W) (k : List W → Prop) : Prop := match x with
  | .tup ws => k ws
  | _ => False
def onBo (x : Option Bool) (k : Bool → Prop) : Prop := match x with
  | some b => k b
  | none => False
theorem onB_bl {b : Bool} {k : Bool → Prop} : onB (.bl b) k = k b := rfl
theorem onS_some {k : W → Prop} : onS (some w) k = k w := rfl
theorem onL_lst {k : List W → Prop} : onL (some (.lst ws)) k = k ws := rfl
theorem onQ_some {k : List W → Prop} : onQ (some ws) k = k ws := rfl
theorem onI_ins {k : Addr → List (Str × W) → Prop} : onI (some (.ins C fs)) k = k C fs := rfl
theorem onD_dk {kvs : List (Key × W)} {k : List (Key × W) → Prop} : onD (some (.dk kvs)) k = k kvs := rfl
theorem onR_ref {k : Addr → Prop} : onR (.ref a) k = k a := rfl
theorem onT_tup {k : List W → Prop} : onT (.tup ws) k = k ws := rfl
theorem onBo_some {b : Bool} {k : Bool → Prop} : onBo (some b) k = k b := rfl
theorem x_var0 : wVar 0 (some w :: r) S Q = Q w S := rfl
theorem x_varS {o : Option W} : wVar (k + 1) (o :: r) S Q = wVar k r S Q := rfl
theorem x_c : wC w r S Q = Q w S := rfl
theorem x_op : wOp R ta tb r S Q = ta r S fun x S1 => tb r S1 fun y S2 => R x y S2 Q := rfl
theorem x_b : wB ta r S QB = ta r S fun x S1 => onB x fun b => QB b S1 := rfl
theorem x_chain : wChain R R' ta tb tc r S Q = ta r S fun x S1 => tb r S1 fun y S2 => R x y S2 fun z S3 => onB z fun k => if k = true then tc r S3 fun w S4 => R' y w S4 Q else Q (.bl false) S3 := rfl
theorem x_and : wAnd t u r S QB = t r S fun c S1 => if c = true then u r S1 QB else QB false S1 := rfl
theorem x_or : wOr t u r S QB = t r S fun c S1 => if c = true then QB true S1 else u r S1 QB := rfl
theorem x_not : wNot t r S QB = t r S fun c S1 => QB (!c) S1 := rfl
theorem x_andV : wAndV ta tb r S Q = ta r S fun x S1 => onB x fun c => if c = true then tb r S1 Q else Q (.bl false) S1 := rfl
theorem x_orV : wOrV ta tb r S Q = ta r S fun x S1 => onB x fun c => if c = true then Q (.bl true) S1 else tb r S1 Q := rfl
theorem x_notV : wNotV ta r S Q = ta r S fun x S1 => onB x fun c => Q (.bl (!c)) S1 := rfl
theorem x_if : wIf t ta tb r S Q = t r S fun c S1 => if c = true then ta r S1 Q else tb r S1 Q := rfl
theorem x_orT : wOrT ta tb r S Q = ta r S fun x S1 => onBo (truW S1 x) fun c => if c = true then Q x S1 else tb r S1 Q := rfl
theorem x_tr : wTr ta r S QB = ta r S fun x S1 => onBo (truW S1 x) fun c => QB c S1 := rfl
theorem x_neg : wNeg ta r S Q = ta r S fun x S1 => (match x with | .int i => Q (.int (-i)) S1 | _ => False) := rfl
theorem x_nil : wNil r S QL = QL [] S := rfl
theorem x_cons : wCons ta tr r S QL = ta r S fun x S1 => tr r S1 fun xs S2 => QL (x :: xs) S2 := rfl
theorem x_tup : wTup tr r S Q = tr r S fun ws S1 => ws.length ≤ sizeLine ∧ Q (.tup ws) S1 := rfl
theorem x_lst : wLst tr r S Q = tr r S fun ws S1 => ws.length ≤ sizeLine ∧ ∀ p, S1 p = none → Q (.ref p) (put S1 p (.lst ws)) := rfl
theorem x_call : wCall sp tr r S Q = tr r S fun ws S1 => sp ws S1 Q := rfl
def isLst (S : Sto) (x : W) : Prop := ∃ xs, rdl S x = some xs
theorem x_lm {rm : W → List W → Sto → WQ → Prop} : wLm rm to tr r S Q = to r S fun x S1 => isLst S1 x ∧ tr r S1 fun ws S2 => rm x ws S2 Q := rfl
theorem x_lm0 {rm : W → List W → Sto → WQ → Prop} : wLm0 rm to r S Q = to r S fun x S1 => isLst S1 x ∧ rm x [] S1 Q := rfl
theorem x_app : rAppW (.ref a) [w] S Q = onL (S a) fun xs => xs.length < sizeLine ∧ Q .non (put S a (.lst (xs ++ [w]))) := rfl
theorem x_clr : rClrW (.ref a) [] S Q = onL (S a) fun _ => Q .non (put S a (.lst [])) := rfl
theorem x_ext : rExtW (.ref a) [.ref b] S Q = onL (S a) fun xs => onL (S b) fun ys => xs.length + ys.length ≤ sizeLine ∧ Q .non (put S a (.lst (xs ++ ys))) := by
  simp only [rExtW, onL]; rcases S a with _ | (_ | _ | _ | _ | _) <;> rcases S b with _ | (_ | _ | _ | _ | _) <;> rfl
theorem x_seq : wSeq sa sb D r S = sa { D with nx := sb D } r S := rfl
theorem x_next : wNext D r S = D.nx r S := rfl
theorem x_ifS : wIfS c sa sb D r S = c r S fun b S1 => if b = true then sa D r S1 else sb D r S1 := rfl
theorem x_ret : wRet ta D r S = ta r S D.rt := rfl
theorem x_retN : wRetN D r S = D.rt .non S := rfl
theorem x_drop : wDrop ta D r S = ta r S fun _ S1 => D.nx r S1 := rfl
theorem x_asg : wAsg ta g D r S = ta r S fun w S1 => g w r S1 D.nx := rfl
theorem x_gname : gNameW k w r S QR = QR (r.set k (some w)) S := rfl
theorem x_gtup : gTupW n gs (.tup ws) r S QR = (ws.length = n ∧ gs ws r S QR) := rfl
theorem x_gcons : gConsW g gs (w :: ws) r S QR = g w r S fun r' S' => gs ws r' S' QR := rfl
theorem x_gnil : gNilW [] r S QR = ([] = ([] : List W) ∧ QR r S) := rfl
theorem x_gsub : gSubW ta tb w r S QR = ta r S fun x S1 => tb r S1 fun y S2 => setW x y w S2 fun S3 => QR r S3 := rfl
theorem x_set {QS : Sto → Prop} : setW (.ref a) (.int i) w S QS = onL (S a) fun ws => (match ixN ws.length i with | some j => QS (put S a (.lst (ws.set j w))) | none => False) := rfl
theorem x_for : wFor ta g sb D r S = ta r S fun x S1 => onQ (seqOf S1 x) fun ws => forW (fun S => seqOf S x = some ws) g sb ws D r S1 := rfl
theorem x_forR1 : wForR1 tr g sb D r S = tr r S fun ws S1 => (match ws with | [.int j] => (-(2 ^ 62) ≤ j ∧ j < 2 ^ 62) ∧ forW (fun _ => True) g sb ((List.range j.toNat).map fun i => W.int (i : Nat)) D r S1 | _ => False) := rfl
theorem x_lc : wLc ta k t tb r S Q = ta r S fun x S1 => onQ (seqOf S1 x) fun ws => ∀ p, S1 p = none → lcW (fun S => seqOf S x = some ws) k t tb p ws r (put S1 p (.lst [])) fun S2 => Q (.ref p) S2 := rfl
theorem x_lcR : wLcR tr k t tb r S Q = tr r S fun ws S1 => (match ws with | [.int j] => (-(2 ^ 62) ≤ j ∧ j < 2 ^ 62) ∧ ∀ p, S1 p = none → lcW (fun _ => True) k t tb p ((List.range j.toNat).map fun i => W.int (i : Nat)) r (put S1 p (.lst [])) fun S2 => Q (.ref p) S2 | _ => False) := rfl
theorem x_fld : wFld C ta f r S Q = ta r S fun x S1 => onR x fun a => onI (S1 a) fun C' fs => C' = C ∧ onS (fs.lookup f) fun w => Q w S1 := rfl
theorem x_setF {tv : WE} : wSetF C ta tv f D r S = tv r S fun w S1 => ta r S1 fun x S2 => onR x fun a => onI (S2 a) fun C' fs => (C' = C ∧ fs.length < 1000) ∧ D.nx r (put S2 a (.ins C (putW f w fs))) := rfl
theorem x_meth : wMeth C m sp to tr r S Q = to r S fun x S1 => onR x fun a => onI (S1 a) fun C' fs => (C' = C ∧ fs.lookup m = none) ∧ tr r S1 fun ws S2 => sp (.ref a :: ws) S2 Q := rfl
theorem x_make : wMake C sp tr r S Q = tr r S fun ws S1 => ∀ x, S1 x = none → sp (.ref x :: ws) (put S1 x (.ins C [])) fun v S2 => isNon v = true ∧ Q (.ref x) S2 := rfl
theorem x_sl {tl th : WO} : wSl ta tl th r S Q = ta r S fun x S1 => tl r S1 fun l S2 => th r S2 fun u S3 => rSlW x l u S3 Q := rfl
theorem x_part {QO : Option Int → Sto → Prop} : wPart ta r S QO = ta r S fun x S1 => (match x with | .int i => QO (some i) S1 | _ => False) := rfl
theorem x_noPart {QO : Option Int → Sto → Prop} : wNoPart r S QO = QO none S := rfl
theorem x_yes : wYes r S QB = QB true S := rfl
-- values
theorem v_add : rAddW (.int i) (.int j) S Q = Q (.int (i + j)) S := rfl
theorem v_addT : rAddW (.tup ws) (.tup vs) S Q = (ws.length + vs.length ≤ sizeLine ∧ Q (.tup (ws ++ vs)) S) := rfl
theorem v_addS {s s' : Str} : rAddW (.str s) (.str s') S Q = (s.length + s'.length ≤ sizeLine ∧ Q (.str (s ++ s')) S) := rfl
theorem v_addL : rAddW (.ref a) (.ref b) S Q = onL (S a) fun xs => onL (S b) fun ys => xs.length + ys.length ≤ sizeLine ∧ ∀ p, S p = none → Q (.ref p) (put S p (.lst (xs ++ ys))) := by
  simp only [rAddW, onL]; rcases S a with _ | (_ | _ | _ | _ | _) <;> rcases S b with _ | (_ | _ | _ | _ | _) <;> rfl
theorem v_sub : rSubW (.int i) (.int j) S Q = Q (.int (i - j)) S := rfl
theorem v_mul : rMulW (.int i) (.int j) S Q = (CMul i j ∧ Q (.int (i * j)) S) := rfl
theorem v_rep : rMulW (.ref a) (.int i) S Q = onL (S a) fun xs => (-(2 ^ 63) ≤ i ∧ i < 2 ^ 63 ∧ xs.length * i.toNat ≤ sizeLine) ∧ ∀ p, S p = none → Q (.ref p) (put S p (.lst (List.replicate i.toNat xs).flatten)) := rfl
theorem v_mod : rMod (.int i) (.int j) S Q = (0 < j ∧ Q (.int (i % j)) S) := rfl
theorem v_div : rDiv (.int i) (.int j) S Q = (CDiv i j ∧ Q (.int (i / j)) S) := rfl
theorem v_pow : rPow (.int i) (.int j) S Q = (CPow i j ∧ Q (.int (i ^ j.toNat)) S) := rfl
theorem v_lt : rLt (.int i) (.int j) S Q = Q (.bl (decide (i < j))) S := rfl
theorem v_le : rLe (.int i) (.int j) S Q = Q (.bl (decide (i ≤ j))) S := rfl
theorem v_gt : rGt (.int i) (.int j) S Q = Q (.bl (decide (j < i))) S := rfl
theorem v_ge : rGe (.int i) (.int j) S Q = Q (.bl (decide (j ≤ i))) S := rfl
theorem v_isN : rIsN x .non S Q = Q (.bl (isNon x)) S := rfl
theorem v_notN : rNotN x .non S Q = Q (.bl (!isNon x)) S := rfl
theorem n_non : isNon .non = true := rfl
theorem n_bl {b : Bool} : isNon (.bl b) = false := rfl
theorem n_int : isNon (.int i) = false := rfl
theorem n_str : isNon (.str f) = false := rfl
theorem n_ref : isNon (.ref a) = false := rfl
theorem n_tup : isNon (.tup ws) = false := rfl
theorem q_ss {s s' : Str} : rEqW (.str s) (.str s') S Q = Q (.bl (decide (s = s'))) S := rfl
theorem q_ii : rEqW (.int i) (.int j) S Q = Q (.bl (decide (i = j))) S := rfl
theorem q_bb {b b' : Bool} : rEqW (.bl b) (.bl b') S Q = Q (.bl (decide (b = b'))) S := rfl
theorem q_nn : rEqW .non .non S Q = Q (.bl true) S := rfl
theorem q_is : rEqW (.int i) (.str f) S Q = Q (.bl false) S := rfl
theorem q_si : rEqW (.str f) (.int i) S Q = Q (.bl false) S := rfl
theorem q_in : rEqW (.int i) .non S Q = Q (.bl false) S := rfl
theorem q_ni : rEqW .non (.int i) S Q = Q (.bl false) S := rfl
theorem q_sn : rEqW (.str f) .non S Q = Q (.bl false) S := rfl
theorem q_ns : rEqW .non (.str f) S Q = Q (.bl false) S := rfl
theorem d_ss {s s' : Str} : rNeW (.str s) (.str s') S Q = Q (.bl (!decide (s = s'))) S := rfl
theorem d_ii : rNeW (.int i) (.int j) S Q = Q (.bl (!decide (i = j))) S := rfl
theorem d_bb {b b' : Bool} : rNeW (.bl b) (.bl b') S Q = Q (.bl (!decide (b = b'))) S := rfl
theorem d_nn : rNeW .non .non S Q = Q (.bl (!true)) S := rfl
theorem d_in : rNeW (.int i) .non S Q = Q (.bl (!false)) S := rfl
theorem d_ni : rNeW .non (.int i) S Q = Q (.bl (!false)) S := rfl
/-- == of two lists of ours, of two tuples -/
theorem eq_dat {d e : PyData} (h : Dat S x d) (h' : Dat S y e) (s : SeqAt.shaped d = true) (s' : SeqAt.shaped e = true) (hn : seqW x y = none) (q : Q (.bl (PyData.eqv d e)) S) : rEqW x y S Q := by
  unfold rEqW; rw [hn]; exact ⟨d, e, h, h', s, s', q⟩
theorem ne_dat {d e : PyData} (h : Dat S x d) (h' : Dat S y e) (s : SeqAt.shaped d = true) (s' : SeqAt.shaped e = true) (hn : seqW x y = none) (q : Q (.bl (!PyData.eqv d e)) S) : rNeW x y S Q := by
  unfold rNeW; rw [hn]; exact ⟨d, e, h, h', s, s', q⟩
theorem ix_t : rIxW (.tup ws) (.int i) S Q = onS (atI ws i) fun w => Q w S := rfl
theorem ix_r : rIxW (.rl ws) (.int i) S Q = onS (atI ws i) fun w => Q w S := rfl
theorem ix_l : rIxW (.ref a) (.int i) S Q = onL (S a) fun ws => onS (atI ws i) fun w => Q w S := rfl
theorem in_t : rInW false x (.tup ws) S Q = ((flatW x = true ∧ ws.all flatW = true) ∧ Q (.bl (inW x ws)) S) := rfl
theorem notin_t : rInW true x (.tup ws) S Q = ((flatW x = true ∧ ws.all flatW = true) ∧ Q (.bl (!inW x ws)) S) := rfl
theorem fl_s : flatW (.str f) = true := rfl
theorem fl_i : flatW (.int i) = true := rfl
theorem fl_n : flatW .non = true := rfl
theorem inW_cons : inW x (y :: ws) = (eqW y x || inW x ws) := rfl
theorem so_t : seqOf S (.tup ws) = some ws := rfl
theorem so_r : seqOf S (.rl ws) = some ws := rfl
theorem so_l (h : S a = some (.lst ws)) : seqOf S (.ref a) = some ws := by simp only [seqOf, h]
theorem so_lp : seqOf (put S p (.lst ws)) (.ref p) = some ws := so_l put_same
theorem len_t : rLenW [.tup ws] S Q = Q (.int ws.length) S := rfl
theorem len_r : rLenW [.rl ws] S Q = Q (.int ws.length) S := rfl
theorem len_s {s : Str} : rLenW [.str s] S Q = (s.length ≤ sizeLine ∧ Q (.int s.length) S) := rfl
theorem len_l (h : S a = some (.lst ws)) : rLenW [.ref a] S Q = Q (.int ws.length) S := by simp only [rLenW, seqOf, h]
theorem int_i : rIntW [.int i] S Q = Q (.int i) S := rfl
theorem int_b {b : Bool} : rIntW [.bl b] S Q = Q (.int (if b = true then 1 else 0)) S := rfl
theorem list_x : rListW [x] S Q = onQ (seqOf S x) fun ws => ∀ p, S p = none → Q (.ref p) (put S p (.lst ws)) := rfl
theorem tuple_x : rTupleW [x] S Q = onQ (seqOf S x) fun ws => Q (.tup ws) S := rfl
theorem min_ii : rMinW [.int i, .int j] S Q = Q (.int (if j < i then j else i)) S := rfl
theorem max_ii : rMaxW [.int i, .int j] S Q = Q (.int (if j > i then j else i)) S := rfl
theorem sl_t {l h : Option Int} : rSlW (.tup ws) l h S Q = Q (.tup (cutW ws l h)) S := rfl
theorem sl_l {l h : Option Int} : rSlW (.ref a) l h S Q = onL (S a) fun ws => ∀ p, S p = none → Q (.ref p) (put S p (.lst (cutW ws l h))) := rfl
theorem look_nil : ([] : List (Str × W)).lookup f = none := rfl
theorem look_cons : (((m, w) :: fs).lookup f) = if f = m then some w else fs.lookup f := by
  rw [List.lookup_cons]
  by_cases h : f = m
  · rw [if_pos h, show (f == m) = true by rw [h]; exact beq_self_eq_true m]
  · rw [if_neg h, show (f == m) = false from beq_false_of_ne h]
theorem putW_nil : putW f w [] = [(f, w)] := rfl
theorem putW_cons : putW f w ((m, x) :: fs) = if m = f then (m, w) :: fs else (m, x) :: putW f w fs := rfl
theorem x_inKd {d : Addr} {tab : Str → Option (Option W)} {s : Str} {o : Option W} (h : tab s = some o) : rInKd d tab false (.str s) (.ref d) S Q = Q (.bl o.isSome) S := by
  unfold rInKd; simp only [h, true_and]; rfl
theorem x_notinKd {d : Addr} {tab : Str → Option (Option W)} {s : Str} {o : Option W} (h : tab s = some o) : rInKd d tab true (.str s) (.ref d) S Q = Q (.bl (!o.isSome)) S := by
  unfold rInKd; simp only [h, true_and]; rfl
theorem x_getKd {d : Addr} {tab : Str → Option (Option W)} {s : Str} (h : tab s = some (some w)) : rGetKd d tab (.ref d) (.str s) S Q = Q w S := by
  unfold rGetKd; simp only [h, true_and]
theorem x_dget {k : Key} (h : keyW x = some k) : rDGet (.ref a) x S Q = onD (S a) fun kvs => onS (valW kvs k) fun w => Q w S := by
  unfold rDGet onD onS; rw [h]; try (simp only; rcases S a with _ | (_ | _ | _ | _ | _) <;> rfl)
theorem key_s {s : Str} : keyW (.str s) = some (.inr s) := rfl
theorem key_i : keyW (.int i) = some (.inl i) := rfl
theorem val_nil {k : Key} : valW [] k = none := rfl
theorem val_cons {k k' : Key} {kvs : List (Key × W)} : valW ((k', w) :: kvs) k = if k' = k then some w else valW kvs k := by
  unfold valW
  rw [List.find?_cons]
  by_cases h : k' = k
  · rw [if_pos h, decide_eq_true h]; rfl
  · rw [if_neg h, decide_eq_false h]
theorem inr_eq {s s' : Str} : ((Sum.inr s : Key) = Sum.inr s') = (s = s') := propext ⟨fun h => Sum.inr.inj h, fun h => by rw [h]⟩
theorem start1 : startW 1 [x] = [some x] := rfl
theorem line_lt {n : Nat} (h : n ≤ 1000) : (n < sizeLine) = True := eq_true (Nat.lt_of_le_of_lt h (by decide))
end
/-! ### data of tuples alone, for == -/
mutual
def dW : W → PyData
  | .non => .none
  | .bl b => .bool b
  | .int i => .int i
  | .str x => .str x
  | .tup ws => .tuple (dWs ws)
  | .rl _ => .none
  | .ref _ => .none
  | .ty _ => .none
def dWs : List W → List PyData
  | [] => []
  | w :: ws => dW w :: dWs ws
end
mutual
def okW : Nat → W → Bool
  | _, .non => true
  | _, .bl _ => true
  | _, .int _ => true
  | _, .str x => PyData.canLay0 (.str x)
  | 0, .tup _ => false
  | n + 1, .tup ws => okWs n ws
  | _, .rl _ => false
  | _, .ref _ => false
  | _, .ty _ => false
def okWs : Nat → List W → Bool
  | _, [] => true
  | n, w :: ws => okW n w && okWs n ws
end
mutual
theorem okW_dat {S : Sto} : ∀ {n : Nat} {w : W}, okW n w = true → Dat S w (dW w) ∧ PyData.canLay0 (dW w) = true ∧ (dW w).depth ≤ n
  | n, .non, h => ⟨by rw [dW]; exact .non, by simp [dW, PyData.canLay0], by simp [dW, PyData.depth]⟩
  | n, .bl _, h => ⟨by rw [dW]; exact .bl _, by simp [dW, PyData.canLay0], by simp [dW, PyData.depth]⟩
  | n, .int _, h => ⟨by rw [dW]; exact .int _, by simp [dW, PyData.canLay0], by simp [dW, PyData.depth]⟩
  | n, .str x, h => ⟨by rw [dW]; exact .str _, by rw [dW]; simpa [okW] using h, by simp [dW, PyData.depth]⟩
  | 0, .tup ws, h => by simp [okW] at h
  | n + 1, .tup ws, h => by
    rw [okW] at h
    obtain ⟨h1, h2, h3⟩ := okWs_dat (S := S) h
    rw [dW]
    refine ⟨.tup h1, ?_, ?_⟩
    · rw [PyData.canLay0]; exact h2
    · rw [PyData.depth]; omega
  | n, .rl _, h => by simp [okW] at h
  | n, .ref _, h => by simp [okW] at h
  | n, .ty _, h => by simp [okW] at h
theorem okWs_dat {S : Sto} : ∀ {n : Nat} {ws : List W}, okWs n ws = true → DatL S ws (dWs ws) ∧ PyData.canLayAll0 (dWs ws) = true ∧ PyData.depthAll (dWs ws) ≤ n
  | n, [], h => ⟨by rw [dWs]; exact .nil, by simp [dWs, PyData.canLayAll0], by simp [dWs, PyData.depthAll]⟩
  | n, w :: ws, h => by
    rw [okWs, Bool.and_eq_true] at h
    obtain ⟨h1, h2, h3⟩ := okW_dat (S := S) h.1
    obtain ⟨h4, h5, h6⟩ := okWs_dat (S := S) h.2
    rw [dWs]
    refine ⟨.cons h1 h4, ?_, ?_⟩
    · rw [PyData.canLayAll0, h2, h5]; rfl
    · rw [PyData.depthAll]; omega
end
theorem okWs_of {n : Nat} : ∀ {ws : List W}, (∀ w ∈ ws, okW n w = true) → okWs n ws = true
  | [], _ => by rw [okWs]
  | w :: ws, h => by rw [okWs, h w List.mem_cons_self, okWs_of fun v hv => h v (List.mem_cons_of_mem _ hv)]; rfl
theorem lst_shaped {S : Sto} {a : Addr} {ws : List W} (h : S a = some (.lst ws)) (ok : okWs 60 ws = true) : Dat S (.ref a) (.list (dWs ws)) ∧ SeqAt.shaped (.list (dWs ws)) = true := by
  obtain ⟨h1, h2, h3⟩ := okWs_dat (S := S) ok
  refine ⟨.lst h h1, ?_⟩
  unfold SeqAt.shaped
  rw [PyData.canLay0, h2, PyData.depth]
  simp; omega
theorem emp_eqv (ws : List W) : PyData.eqv (.list (dWs ws)) (.list []) = ws.isEmpty := by
  cases ws with
  | nil => simp [dWs, PyData.eqv, PyData.eqvAll]
  | cons w ws => simp [dWs, PyData.eqv, PyData.eqvAll]
theorem eq_empty {S : Sto} {Q : WQ} {p p1 : Addr} {ws : List W} (h : S p = some (.lst ws)) (h' : S p1 = some (.lst [])) (ok : okWs 60 ws = true) (q : Q (.bl ws.isEmpty) S) : rEqW (.ref p) (.ref p1) S Q := by
  obtain ⟨d1, s1⟩ := lst_shaped h ok
  obtain ⟨d2, s2⟩ := lst_shaped h' (by rw [okWs])
  refine eq_dat d1 d2 s1 s2 rfl ?_
  rw [dWs, emp_eqv]
  exact q
theorem ne_empty {S : Sto} {Q : WQ} {p p1 : Addr} {ws : List W} (h : S p = some (.lst ws)) (h' : S p1 = some (.lst [])) (ok : okWs 60 ws = true) (q : Q (.bl (!ws.isEmpty)) S) : rNeW (.ref p) (.ref p1) S Q := by
  obtain ⟨d1, s1⟩ := lst_shaped h ok
  obtain ⟨d2, s2⟩ := lst_shaped h' (by rw [okWs])
  refine ne_dat d1 d2 s1 s2 rfl ?_
  rw [dWs, emp_eqv]
  exact q
theorem wd_okL : (List.range 122).all (fun i => PyData.canLay0 (.str (wd i))) = true := by decide +kernel
theorem wd_ok {i : Nat} (h : i < 122) : PyData.canLay0 (.str (wd i)) = true := by
  have z := wd_okL
  rw [List.all_eq_true] at z
  exact z i (List.mem_range.mpr h)
/-! ### comprehensions whose tests and elements write nothing -/
theorem lc_pureA {α : Type} {F G : α → W} {b : α → Bool} {i : Nat} {tt : WT} {te : WE} {Z : Sto → Prop} {D : Addr} {Q : Sto → Prop} {r : Rho} {S0 : Sto} (hZ : ∀ ws, Z (put S0 D (.lst ws))) : ∀ (xs : List α) (acc : List W),
    (∀ x ∈ xs, ∀ ws Q', Q' (b x) (put S0 D (.lst ws)) → tt (r.set i (some (F x))) (put S0 D (.lst ws)) Q') → (∀ x ∈ xs, b x = true → ∀ ws Q', Q' (G x) (put S0 D (.lst ws)) → te (r.set i (some (F x))) (put S0 D (.lst ws)) Q') → acc.length + xs.length ≤ 1000000 →
    Q (put S0 D (.lst (acc ++ (xs.filter b).map G))) → lcW Z i tt te D (xs.map F) r (put S0 D (.lst acc)) Q
  | [], acc, ht, he, hl, hq => ⟨hZ acc, by simpa using hq⟩
  | x :: xs, acc, ht, he, hl, hq => by
    have hl' : acc.length + (xs.length + 1) ≤ 1000000 := hl
    refine ⟨hZ acc, ht x List.mem_cons_self acc _ ?_⟩
    cases e : b x with
    | true =>
      show (if true = true then te (r.set i (some (F x))) (put S0 D (.lst acc)) _ else _)
      rw [if_pos rfl]
      refine he x List.mem_cons_self e acc _ ⟨acc, put_same, Nat.lt_of_le_of_lt (by omega : acc.length ≤ 1000000) (by decide), ?_⟩
      rw [put_put]
      refine lc_pureA hZ xs (acc ++ [G x]) (fun y hy => ht y (List.mem_cons_of_mem _ hy)) (fun y hy => he y (List.mem_cons_of_mem _ hy)) (by rw [List.length_append, List.length_singleton]; omega) ?_
      rw [List.filter_cons, if_pos e, List.map_cons] at hq
      rw [List.append_assoc]
      exact hq
    | false =>
      show (if false = true then _ else lcW Z i tt te D (xs.map F) r (put S0 D (.lst acc)) Q)
      rw [if_neg Bool.false_ne_true]
      rw [List.filter_cons, if_neg (by rw [e]; exact Bool.false_ne_true)] at hq
      exact lc_pureA hZ xs acc (fun y hy => ht y (List.mem_cons_of_mem _ hy)) (fun y hy => he y (List.mem_cons_of_mem _ hy)) (by omega) hq
/-- [G x for x in xs if b x] -/
theorem lc_pure {α : Type} {F G : α → W} {b : α → Bool} {i : Nat} {tt : WT} {te : WE} {Z : Sto → Prop} {D : Addr} {Q : Sto → Prop} {r : Rho} {S0 : Sto} (xs : List α) (hZ : ∀ ws, Z (put S0 D (.lst ws)))
    (ht : ∀ x ∈ xs, ∀ ws Q', Q' (b x) (put S0 D (.lst ws)) → tt (r.set i (some (F x))) (put S0 D (.lst ws)) Q') (he : ∀ x ∈ xs, b x = true → ∀ ws Q', Q' (G x) (put S0 D (.lst ws)) → te (r.set i (some (F x))) (put S0 D (.lst ws)) Q') (hl : xs.length ≤ 1000000)
    (hq : Q (put S0 D (.lst ((xs.filter b).map G)))) : lcW Z i tt te D (xs.map F) r (put S0 D (.lst [])) Q := lc_pureA hZ xs [] ht he (by simpa using hl) hq
theorem yes_ok {r : Rho} {S : Sto} {Q' : Bool → Sto → Prop} (h : Q' true S) : wYes r S Q' := h
theorem filter_true {α : Type} (xs : List α) : xs.filter (fun _ => true) = xs := by
  induction xs with
  | nil => rfl
  | cons x xs ih => rw [List.filter_cons, if_pos rfl, ih]
end WL
local macro_rules | `(tactic| walk_at "wx") => `(tactic| simp only [↓WL.x_var0, ↓WL.x_varS, ↓WL.x_c, ↓WL.x_op, ↓WL.x_b, ↓WL.x_chain, ↓WL.x_and, ↓WL.x_or, ↓WL.x_not, ↓WL.x_andV, ↓WL.x_orV, ↓WL.x_notV, ↓WL.x_if, ↓WL.x_orT, ↓WL.x_tr, ↓WL.x_neg, ↓WL.x_nil, ↓WL.x_cons, ↓WL.x_tup, ↓WL.x_lst, ↓WL.x_call, ↓WL.x_lm, ↓WL.x_lm0, ↓WL.x_seq, ↓WL.x_next, ↓WL.x_ifS, ↓WL.x_ret, ↓WL.x_retN, ↓WL.x_drop, ↓WL.x_asg, ↓WL.x_gname, ↓WL.x_gtup, ↓WL.x_gcons, ↓WL.x_gnil, ↓WL.x_gsub, ↓WL.x_set, ↓WL.x_for, ↓WL.x_forR1, ↓WL.x_lc, ↓WL.x_lcR, ↓WL.x_fld, ↓WL.x_setF, ↓WL.x_meth, ↓WL.x_make, ↓WL.x_sl, ↓WL.x_part, ↓WL.x_noPart, ↓WL.x_yes, WL.onB_bl, WL.onS_some, WL.onL_lst, WL.onQ_some, WL.onI_ins, WL.onD_dk, WL.onR_ref, WL.onT_tup, WL.onBo_some, WL.x_app, WL.x_clr, WL.x_ext, WL.v_add, WL.v_addT, WL.v_addS, WL.v_addL, WL.v_sub, WL.v_mul, WL.v_rep, WL.v_mod, WL.v_div, WL.v_pow, WL.v_lt, WL.v_le, WL.v_gt, WL.v_ge, WL.v_isN, WL.v_notN, WL.n_non, WL.n_bl, WL.n_int, WL.n_str, WL.n_ref, WL.n_tup, WL.q_ss, WL.q_ii, WL.q_bb, WL.q_nn, WL.q_is, WL.q_si, WL.q_in, WL.q_ni, WL.q_sn, WL.q_ns, WL.d_ss, WL.d_ii, WL.d_bb, WL.d_nn, WL.d_in, WL.d_ni, WL.ix_t, WL.ix_r, WL.ix_l, WL.in_t, WL.notin_t, WL.fl_s, WL.fl_i, WL.fl_n, WL.so_t, WL.so_r, WL.so_lp, WL.len_t, WL.len_r, WL.len_s, WL.int_i, WL.int_b, WL.list_x, WL.tuple_x, WL.min_ii, WL.max_ii, WL.sl_t, WL.sl_l, WL.look_nil, WL.look_cons, WL.putW_nil, WL.putW_cons, WL.x_inKd, WL.x_notinKd, WL.x_getKd, WL.x_dget, WL.key_s, WL.key_i, WL.val_nil, WL.val_cons, WL.inr_eq, WL.start1, WL.line_lt, WL.atI0, WL.atI1, WL.atI2, WL.atI3, WL.atI4, List.map_cons, List.map_nil, List.cons_append, List.nil_append, List.set_cons_zero, List.set_cons_succ, List.length_cons, List.length_nil, List.all_cons, List.all_nil, List.replicate_succ, List.replicate_zero, Nat.reduceAdd, Nat.reduceSub, Nat.zero_add, WL.wd_inj, Nat.reduceLT, Nat.reduceEqDiff, decide_true, decide_false, Bool.false_eq_true, Bool.true_eq_false, Bool.not_true, Bool.not_false, Bool.or_false, Bool.false_or, Bool.or_true, Bool.true_or, Bool.and_self, Bool.and_true, Bool.true_and, ↓reduceIte, reduceCtorEq, WL.line_le, Nat.reduceLeDiff, true_and, and_true, and_self, Option.isSome_some, Option.isSome_none, Int.reduceLT, Int.reduceLE, Int.reduceEq, Int.reduceNeg, WL.put_same, WL.ci0, WL.ci1, WL.ci2, WL.ci3, WL.ci4, WL.ci5, WL.ci6, WL.W_PAIRS, WL.startW])
namespace WL
open PySem L2
/-! ### data of a program -/
inductive Op | plus | less | times | part | below | same
def Op.str : Op → Str | .plus => w_plus | .less => w_less | .times => w_times | .part => w_part | .below => w_below | .same => w_same
inductive Rk | num (n : Int) | slot (k : Int) | op (o : Op) (a b : Rk)
def Rk.W : Rk → WL.W | .num n => .tup [.str w_num, .int n] | .slot k => .tup [.str w_slot, .int k] | .op o a b => .tup [.str o.str, a.W, b.W]
def optI : Option Int → WL.W | none => .non | some i => .int i
def slotsM (sl : List Int) : MO := .lst (sl.map .int)
def Rk.isR (slots : Int) : Nat → Rk → Bool
  | _, .num n => decide (0 ≤ n) && decide (n < 1000)
  | _, .slot k => decide (0 ≤ k) && decide (k < slots)
  | 0, .op _ _ _ => false
  | d + 1, .op _ a b => a.isR slots d && b.isR slots d
/-! ### steps, works, programs -/
inductive Step
  | set (k : Option Int) (e : Rk) | say (e : Rk) | give (e : Rk) (k : Option Int) | hand (w : Int) (args : List Rk) (k : Option Int)
  | ifs (e : Rk) (a b : List Step) | round (e : Rk) (a : List Step) | leave | fault (e : Rk) | ends (e : Rk)
  | try0 (a l : List Step) | tryc (a : List Step) (k : Option Int) (c l : List Step)
mutual
def Step.W : Step → WL.W
  | .set k e => .tup [.str w_set, optI k, e.W]
  | .say e => .tup [.str w_say, e.W]
  | .give e k => .tup [.str w_give, e.W, optI k]
  | .hand w args k => .tup [.str w_hand, .int w, .tup (args.map Rk.W), optI k]
  | .ifs e a b => .tup [.str w_if, e.W, .tup (Steps.W a), .tup (Steps.W b)]
  | .round e a => .tup [.str w_round, e.W, .tup (Steps.W a)]
  | .leave => .tup [.str w_leave]
  | .fault e => .tup [.str w_fault, e.W]
  | .ends e => .tup [.str w_end, e.W]
  | .try0 a l => .tup [.str w_try, .tup (Steps.W a), .non, .tup (Steps.W l)]
  | .tryc a k c l => .tup [.str w_try, .tup (Steps.W a), .tup [optI k, .tup (Steps.W c)], .tup (Steps.W l)]
def Steps.W : List Step → List WL.W
  | [] => []
  | s :: r => s.W :: Steps.W r
end
structure Work where
  params : Int
  slots : Int
  body : List Step
def Work.W (w : Work) : WL.W := .tup [.int w.params, .int w.slots, .tup (Steps.W w.body)]
def progM (p : List Work) : MO := .lst (p.map Work.W)
def isK (slots : Int) : Option Int → Bool
  | none => true
  | some k => decide (0 ≤ k) && decide (k < slots)
def handOk (p : List Work) (number : Nat) (w : Int) (n : Nat) : Bool := (decide ((number : Int) < w) && decide (w < p.length)) && match p[w.toNat]? with
  | some wk => decide ((n : Int) = wk.params)
  | none => false
def areParts (p : List Work) (number : Nat) (slots : Int) : Step → Bool
  | .leave => true
  | .try0 _ _ => true
  | .tryc _ k _ _ => isK slots k
  | .set k e => k.isSome && (isK slots k && e.isR slots 3)
  | .hand w args k => handOk p number w args.length && (isK slots k && args.all fun e => e.isR slots 3)
  | .give e k => isK slots k && e.isR slots 3
  | .say e => e.isR slots 3
  | .fault e => e.isR slots 3
  | .ends e => e.isR slots 3
  | .ifs e _ _ => e.isR slots 3
  | .round e _ => e.isR slots 3
def slotsOf (p : List Work) (number : Nat) : Int := match p[number]? with
  | some w => w.slots
  | none => 0
def Step.isRound : Step → Bool | .round _ _ => true | _ => false
mutual
def Step.isS (p : List Work) (number : Nat) (rounds : Bool) (within : Nat) : Step → Bool
  | .ifs e a b => (decide (within ≤ 6) && areParts p number (slotsOf p number) (.ifs e a b)) && (Steps.isB p number rounds (within + 1) a && Steps.isB p number rounds (within + 1) b)
  | .round e a => (decide (within ≤ 6) && areParts p number (slotsOf p number) (.round e a)) && Steps.isB p number true (within + 1) a
  | .try0 a l => (decide (within ≤ 6) && areParts p number (slotsOf p number) (.try0 a l)) && (Steps.isB p number rounds (within + 1) a && Steps.isB p number rounds (within + 1) l)
  | .tryc a k c l => (decide (within ≤ 6) && areParts p number (slotsOf p number) (.tryc a k c l)) && (Steps.isB p number rounds (within + 1) a && (Steps.isB p number rounds (within + 1) c && Steps.isB p number rounds (within + 1) l))
  | .leave => decide (within ≤ 6) && rounds
  | .set k e => decide (within ≤ 6) && areParts p number (slotsOf p number) (.set k e)
  | .say e => decide (within ≤ 6) && areParts p number (slotsOf p number) (.say e)
  | .give e k => decide (within ≤ 6) && areParts p number (slotsOf p number) (.give e k)
  | .hand w args k => decide (within ≤ 6) && areParts p number (slotsOf p number) (.hand w args k)
  | .fault e => decide (within ≤ 6) && areParts p number (slotsOf p number) (.fault e)
  | .ends e => decide (within ≤ 6) && areParts p number (slotsOf p number) (.ends e)
def Steps.isB (p : List Work) (number : Nat) (rounds : Bool) (within : Nat) : List Step → Bool
  | [] => true
  | s :: r => s.isS p number rounds within && Steps.isB p number rounds within r
end
mutual
/-- how many calls a walk over the bodies within needs -/
def Step.dep : Step → Nat
  | .ifs _ a b => max (Steps.dep a) (Steps.dep b) + 1
  | .round _ a => Steps.dep a + 1
  | .try0 a l => max (Steps.dep a) (Steps.dep l) + 1
  | .tryc a _ c l => max (Steps.dep a) (max (Steps.dep c) (Steps.dep l)) + 1
  | _ => 0
def Steps.dep : List Step → Nat
  | [] => 0
  | s :: r => max s.dep (Steps.dep r)
end
mutual
def Step.all : Step → List Step
  | .ifs e a b => .ifs e a b :: (Steps.all a ++ Steps.all b)
  | .round e a => .round e a :: Steps.all a
  | .try0 a l => .try0 a l :: (Steps.all a ++ Steps.all l)
  | .tryc a k c l => .tryc a k c l :: (Steps.all a ++ (Steps.all c ++ Steps.all l))
  | .leave => [.leave]
  | .set k e => [.set k e]
  | .say e => [.say e]
  | .give e k => [.give e k]
  | .hand w args k => [.hand w args k]
  | .fault e => [.fault e]
  | .ends e => [.ends e]
def Steps.all : List Step → List Step
  | [] => []
  | s :: r => s.all ++ Steps.all r
end
theorem Steps.W_map : ∀ l : List Step, Steps.W l = l.map Step.W
  | [] => by simp only [Steps.W, List.map_nil]
  | s :: r => by simp only [Steps.W, List.map_cons, Steps.W_map r]
/-! ### bodies, is_kept -/
end WL
namespace WL
open PySem L2
theorem atI_map {α β : Type} {f : α → β} {l : List α} {n : Nat} {x : α} (h : l[n]? = some x) : atI (l.map f) (n : Int) = some (f x) := atI_nat (by rw [List.getElem?_map, h]; rfl)
theorem get_some {α : Type} {l : List α} {n : Nat} (h : n < l.length) : ∃ x, l[n]? = some x := ⟨l[n], List.getElem?_eq_getElem h⟩
def Rk.deep : Rk → Nat | .num _ => 0 | .slot _ => 0 | .op _ a b => max a.deep b.deep + 1
theorem op_strOk (o : Op) : PyData.canLay0 (.str o.str) = true := by cases o <;> exact wd_ok (by decide)
theorem Rk.okW : ∀ (e : Rk) {n : Nat}, e.deep < n → WL.okW n e.W = true
  | .num _, n + 1, _ => by rw [Rk.W, WL.okW, okWs, okWs, okWs, WL.okW, WL.okW, wd_ok (by decide)]; rfl
  | .slot _, n + 1, _ => by rw [Rk.W, WL.okW, okWs, okWs, okWs, WL.okW, WL.okW, wd_ok (by decide)]; rfl
  | .op o a b, n + 1, h => by
    have h' : max a.deep b.deep + 1 < n + 1 := h
    rw [Rk.W, WL.okW, okWs, okWs, okWs, okWs, WL.okW, op_strOk, Rk.okW a (by omega), Rk.okW b (by omega)]; rfl
end WL
namespace WL
open PySem L2
-- sizes that the lists of the checks ask
mutual
def Step.fit : Step → Prop
  | .hand _ args _ => args.length < 1000 ∧ ∀ e ∈ args, e.deep < 60
  | .ifs _ a b => Steps.fit a ∧ Steps.fit b
  | .round _ a => Steps.fit a
  | .try0 a l => Steps.fit a ∧ Steps.fit l
  | .tryc a _ c l => Steps.fit a ∧ Steps.fit c ∧ Steps.fit l
  | _ => True
def Steps.fit : List Step → Prop
  | [] => True
  | s :: r => s.fit ∧ Steps.fit r
end
end WL
namespace WL
open PySem L2
/-- a store that knows more, but for the object at p -/
def Lx (p : Addr) (S S' : Sto) : Prop := ∀ a o, a ≠ p → S a = some o → S' a = some o
theorem Lx.refl {p : Addr} {S : Sto} : Lx p S S := fun _ _ _ h => h
theorem Lx.trans {p : Addr} {S S1 S2 : Sto} (a : Lx p S S1) (b : Lx p S1 S2) : Lx p S S2 := fun x o n h => b x o n (a x o n h)
theorem Lx.put {p : Addr} {S : Sto} {o : MO} : Lx p S (put S p o) := fun a u n e => by rw [put_ne n]; exact e
theorem Lx.new {p q : Addr} {S : Sto} {o : MO} (h : S q = none) : Lx p S (WL.put S q o) := fun a u n e => Le.put h a u e
theorem Lx.le {p : Addr} {S S' : Sto} (l : Le S S') : Lx p S S' := fun a u n e => l a u e
theorem ne_none {S : Sto} {a p : Addr} {o : MO} (h : S a = some o) (h' : S p = none) : a ≠ p := fun e => by subst e; rw [h] at h'; cases h'
theorem small_len {n : Nat} (h : n ≤ 1000000) : n < sizeLine := Nat.lt_of_le_of_lt h (by decide)
/-! ### is_work, need_program, need_work -/
def Work.ok (p : List Work) (number : Nat) (w : Work) : Bool := (decide (1 ≤ w.slots) && decide (w.slots ≤ 4)) && ((decide (0 ≤ w.params) && decide (w.params ≤ 2)) && !decide (w.slots < w.params)) && (Steps.isB p number false 0 w.body && decide ((Steps.all w.body).length ≤ 40))
/-- what the checks ask of a program's sizes -/
structure Work.fit (w : Work) (n : Nat) : Prop where
  dep : Steps.dep w.body < n
  fit : Steps.fit w.body
  len : (Steps.all w.body).length ≤ 100000
end WL
namespace WL
open PySem L2
structure progOk (p : List Work) (n : Nat) : Prop where
  l1 : 1 ≤ p.length
  l4 : p.length ≤ 4
  ok : ∀ (number : Nat) (w : Work), p[number]? = some w → w.ok p number = true ∧ w.fit n
/-! ### reckonings -/
def InR (i : Int) : Prop := 0 ≤ i ∧ i < 1000
def pairedI : Op → Int → Int → Option Int
  | .plus, a, b => some ((a + b) % 1000)
  | .less, a, b => some ((a - b) % 1000)
  | .times, a, b => some (a * b % 1000)
  | .part, a, b => if b = 0 then none else some (a / b)
  | .below, a, b => some (if a < b then 1 else 0)
  | .same, a, b => some (if a = b then 1 else 0)
def reck (sl : List Int) : Rk → Option Int
  | .num n => some n
  | .slot k => sl[k.toNat]?
  | .op o a b => match reck sl a, reck sl b with
    | some x, some y => pairedI o x y
    | _, _ => none
def Rk.ok (m : Nat) : Rk → Prop
  | .num n => InR n
  | .slot k => 0 ≤ k ∧ k < m
  | .op _ a b => a.ok m ∧ b.ok m
theorem pairedI_in {o : Op} {a b c : Int} (ha : InR a) (hb : InR b) (h : pairedI o a b = some c) : InR c := by
  unfold InR at *
  cases o <;> simp only [pairedI, Option.some.injEq] at h
  · omega
  · omega
  · subst h; exact ⟨Int.emod_nonneg _ (by decide), Int.emod_lt_of_pos _ (by decide)⟩
  · split at h
    · cases h
    · cases h
      have hb' : 0 < b := by omega
      have h1 : 0 ≤ a / b := Int.ediv_nonneg ha.1 (by omega)
      have h2 : a / b ≤ a := Int.ediv_le_self _ ha.1
      omega
  · split at h <;> omega
  · split at h <;> omega
theorem reck_in {sl : List Int} (hs : ∀ i ∈ sl, InR i) : ∀ {e : Rk} {c : Int}, e.ok sl.length → reck sl e = some c → InR c
  | .num n, c, ok, h => by cases h; exact ok
  | .slot k, c, ok, h => hs c (List.mem_of_getElem? h)
  | .op o a b, c, ok, h => by
    unfold reck at h
    split at h
    · rename_i x y hx hy
      exact pairedI_in (reck_in hs ok.1 hx) (reck_in hs ok.2 hy) h
    · cases h
def allReck (sl : List Int) : List Rk → Option (List Int)
  | [] => some []
  | e :: es => match reck sl e, allReck sl es with
    | some x, some xs => some (x :: xs)
    | _, _ => none
theorem allReck_some {sl : List Int} : ∀ {es : List Rk} {ns : List Int}, allReck sl es = some ns → es.map (fun e => optI (reck sl e)) = ns.map .int ∧ inW .non (ns.map W.int) = false ∧ (∀ m, (∀ i ∈ sl, InR i) → m = sl.length → (∀ e ∈ es, e.ok m) → ∀ i ∈ ns, InR i) ∧ ns.length = es.length
  | [], ns, h => by cases h; exact ⟨rfl, rfl, fun _ _ _ _ i hi => (nomatch hi), rfl⟩
  | e :: es, ns, h => by
    unfold allReck at h
    split at h
    · rename_i x xs hx hxs
      cases h
      obtain ⟨h1, h2, h3, h4⟩ := allReck_some hxs
      refine ⟨by rw [List.map_cons, List.map_cons, h1, hx]; rfl, by rw [List.map_cons, inW_cons, h2]; rfl, fun m hs hm ho i hi => ?_, by rw [List.length_cons, List.length_cons, h4]⟩
      rcases List.mem_cons.mp hi with rfl | hi
      · exact reck_in hs (by rw [← hm]; exact ho e List.mem_cons_self) hx
      · exact h3 m hs hm (fun e' he' => ho e' (List.mem_cons_of_mem _ he')) i hi
    · cases h
end WL
local macro_rules | `(tactic| walk_at "ws") => `(tactic| simp only [↓WL.x_var0, ↓WL.x_varS, ↓WL.x_c, ↓WL.x_op, ↓WL.x_b, ↓WL.x_chain, ↓WL.x_and, ↓WL.x_or, ↓WL.x_not, ↓WL.x_andV, ↓WL.x_orV, ↓WL.x_notV, ↓WL.x_if, ↓WL.x_orT, ↓WL.x_tr, ↓WL.x_neg, ↓WL.x_nil, ↓WL.x_cons, ↓WL.x_tup, ↓WL.x_lst, ↓WL.x_call, ↓WL.x_lm, ↓WL.x_lm0, ↓WL.x_seq, ↓WL.x_next, ↓WL.x_ifS, ↓WL.x_ret, ↓WL.x_retN, ↓WL.x_drop, ↓WL.x_asg, ↓WL.x_gname, ↓WL.x_gtup, ↓WL.x_gcons, ↓WL.x_gnil, ↓WL.x_gsub, ↓WL.x_set, ↓WL.x_for, ↓WL.x_forR1, ↓WL.x_lc, ↓WL.x_lcR, ↓WL.x_fld, ↓WL.x_setF, ↓WL.x_meth, ↓WL.x_make, ↓WL.x_sl, ↓WL.x_part, ↓WL.x_noPart, ↓WL.x_yes, WL.onB_bl, WL.onS_some, WL.onL_lst, WL.onQ_some, WL.onI_ins, WL.onD_dk, WL.onR_ref, WL.onT_tup, WL.onBo_some, WL.x_app, WL.x_clr, WL.x_ext, WL.v_add, WL.v_addT, WL.v_addS, WL.v_addL, WL.v_sub, WL.v_mul, WL.v_rep, WL.v_mod, WL.v_div, WL.v_pow, WL.v_lt, WL.v_le, WL.v_gt, WL.v_ge, WL.v_isN, WL.v_notN, WL.n_non, WL.n_bl, WL.n_int, WL.n_str, WL.n_ref, WL.n_tup, WL.q_ss, WL.q_ii, WL.q_bb, WL.q_nn, WL.q_is, WL.q_si, WL.q_in, WL.q_ni, WL.q_sn, WL.q_ns, WL.d_ss, WL.d_ii, WL.d_bb, WL.d_nn, WL.d_in, WL.d_ni, WL.ix_t, WL.ix_r, WL.ix_l, WL.in_t, WL.notin_t, WL.fl_s, WL.fl_i, WL.fl_n, WL.so_t, WL.so_r, WL.so_lp, WL.len_t, WL.len_r, WL.len_s, WL.int_i, WL.int_b, WL.list_x, WL.tuple_x, WL.min_ii, WL.max_ii, WL.sl_t, WL.sl_l, WL.look_nil, WL.look_cons, WL.putW_nil, WL.putW_cons, WL.x_inKd, WL.x_notinKd, WL.x_getKd, WL.x_dget, WL.key_s, WL.key_i, WL.val_nil, WL.val_cons, WL.inr_eq, WL.start1, WL.line_lt, WL.atI0, WL.atI1, WL.atI2, WL.atI3, WL.atI4, List.map_cons, List.map_nil, List.cons_append, List.nil_append, List.set_cons_zero, List.set_cons_succ, List.length_cons, List.length_nil, List.all_cons, List.all_nil, List.replicate_succ, List.replicate_zero, Nat.reduceAdd, Nat.reduceSub, Nat.zero_add, WL.wd_inj, Nat.reduceLT, Nat.reduceEqDiff, decide_true, decide_false, Bool.false_eq_true, Bool.true_eq_false, Bool.not_true, Bool.not_false, Bool.or_false, Bool.false_or, Bool.or_true, Bool.true_or, Bool.and_self, Bool.and_true, Bool.true_and, ↓reduceIte, reduceCtorEq, WL.line_le, Nat.reduceLeDiff, true_and, and_true, and_self, Option.isSome_some, Option.isSome_none, Int.reduceLT, Int.reduceLE, Int.reduceEq, Int.reduceNeg, WL.put_same, WL.ci0, WL.ci1, WL.ci2, WL.ci3, WL.ci4, WL.ci5, WL.ci6, WL.W_PAIRS, WL.startW, *])
namespace WL
open PySem L2
/-! ### deeds, what is told -/
inductive Deed | ask (n : Int) | throw (n : Int) | shut
def Deed.W : Deed → WL.W | .ask n => .tup [.str w_ask, .int n] | .throw n => .tup [.str w_throw, .int n] | .shut => .tup [.str w_shut]
def Deed.ok : Deed → Prop | .ask n => InR n | .throw n => InR n | .shut => True
inductive Out | gift (n : Int) | ends (n : Int) | fault (n : Int) | shut | stubborn | over | leave
def Out.W : Out → WL.W
  | .gift n => .tup [.str w_gift, .int n] | .ends n => .tup [.str w_end, .int n] | .fault n => .tup [.str w_fault, .int n] | .shut => .tup [.str w_shut] | .stubborn => .tup [.str w_stubborn] | .over => .tup [.str w_over] | .leave => .tup [.str w_leave]
abbrev Told := List Int × Out
def toldW (t : Told) : W := .tup [.tup (t.1.map .int), t.2.W]
def untouched : Deed → Told | .ask _ => ([], .over) | .throw n => ([], .fault n) | .shut => ([], .shut)
def deedsM (ds : List Deed) : MO := .lst (ds.map Deed.W)
theorem deed_okW (d : Deed) {n : Nat} : okW (n + 2) d.W = true := by
  cases d <;> (rw [Deed.W, okW, okWs, okW, wd_ok (by decide)]; simp [okWs, okW])
theorem deeds_okW (ds : List Deed) {n : Nat} : okWs (n + 2) (ds.map Deed.W) = true := okWs_of fun w hw => by
  obtain ⟨d, _, rfl⟩ := List.mem_map.mp hw
  exact deed_okW d
/-! ### the talk -/
structure Tk where
  deeds : List Deed
  told : List Told
  said : List Int
def Tk.tell (T : Tk) (o : Out) : Tk := ⟨T.deeds, T.told ++ [(T.said, o)], []⟩
def Tk.say (T : Tk) (n : Int) : Tk := ⟨T.deeds, T.told, T.said ++ [n]⟩
structure TkAt (C : Addr) (S : Sto) (tk ad at_ as_ : Addr) (T : Tk) : Prop where
  obj : S tk = some (.ins C [(w_deeds, .ref ad), (w_told, .ref at_), (w_said, .ref as_)])
  deeds : S ad = some (deedsM T.deeds)
  told : S at_ = some (.lst (T.told.map toldW))
  said : S as_ = some (.lst (T.said.map .int))
  n1 : ad ≠ at_
  n2 : ad ≠ as_
  n3 : at_ ≠ as_
theorem ne_obj {S : Sto} {a b : Addr} {C : Addr} {fs : List (Str × W)} {ws : List W} (h : S a = some (.ins C fs)) (h' : S b = some (.lst ws)) : a ≠ b := fun e => by subst e; rw [h] at h'; cases h'
def Keep3 (a b c : Addr) (S S' : Sto) : Prop := ∀ x o, x ≠ a → x ≠ b → x ≠ c → S x = some o → S' x = some o
theorem Keep3.trans {a b c c' : Addr} {S S1 S2 : Sto} (k : Keep3 a b c S S1) (k' : Keep3 a b c' S1 S2) (h : c' = c ∨ S c' = none) : Keep3 a b c S S2 := fun x o h1 h2 h3 e => by
  refine k' x o h1 h2 ?_ (k x o h1 h2 h3 e)
  rcases h with rfl | h
  · exact h3
  · exact ne_none e h
theorem Keep3.le {a b c : Addr} {S S' : Sto} (l : Le S S') : Keep3 a b c S S' := fun x o _ _ _ e => l x o e
theorem TkAt.keep {C : Addr} {S S' : Sto} {tk ad at_ as_ : Addr} {T : Tk} (h : TkAt C S tk ad at_ as_ T) (l : Le S S') : TkAt C S' tk ad at_ as_ T := ⟨l _ _ h.obj, l _ _ h.deeds, l _ _ h.told, l _ _ h.said, h.n1, h.n2, h.n3⟩
theorem is_lst {S : Sto} {a : Addr} {ws : List W} (h : S a = some (.lst ws)) : isLst S (.ref a) := ⟨ws, by simp only [rdl, h]⟩
/-- what a gift brings: the deed that comes next -/
def Tk.gift (T : Tk) (n : Int) : Option Deed × Tk := match T.deeds[T.told.length]? with
  | some .shut => (none, T.tell .stubborn)
  | _ => (T.deeds[T.told.length + 1]?, T.tell (.gift n))
/-- what comes out of steps -/
inductive Way | leave | fault (n : Int) | ends (n : Int) | shut | stop
def Way.W : Way → WL.W | .leave => .tup [.str w_leave] | .fault n => .tup [.str w_fault, .int n] | .ends n => .tup [.str w_end, .int n] | .shut => .tup [.str w_shut] | .stop => .tup [.str w_stop]
def Way.out : Way → Out | .fault n => .fault n | .ends n => .ends n | .leave => .leave | _ => .shut
def Tk.close (T : Tk) : Way → Tk
  | .stop => T
  | .ends n => match T.deeds[T.told.length]? with
    | some .shut => T.tell .shut
    | _ => T.tell (.ends n)
  | w => T.tell w.out
def Tk.all (T : Tk) : List Told := T.told ++ (T.deeds.drop T.told.length).map untouched
theorem cut_drop {ws : List W} {n : Nat} : cutW ws (some (n : Int)) none = ws.drop n := by
  unfold cutW
  rw [HT.sIx_nat, HT.sIx_none]
  by_cases h : n ≤ ws.length
  · rw [Nat.min_eq_left h, List.take_of_length_le (by rw [List.length_drop]; omega)]
  · rw [Nat.min_eq_right (by omega), List.drop_eq_nil_of_le (by omega : ws.length ≤ n), List.drop_eq_nil_of_le (Nat.le_refl _), List.take_nil]
end WL
namespace WL
open PySem L2
/-! ### works as closed trees, and how they run -/
inductive C
  | set (k : Nat) (e : Rk) | say (e : Rk) | give (e : Rk) (k : Option Nat) | hand (args : List Rk) (k : Option Nat) (extra : Nat) (body : List C)
  | ifs (e : Rk) (a b : List C) | round (e : Rk) (a : List C) | leave | fault (e : Rk) | ends (e : Rk)
  | try0 (a l : List C) | tryc (a : List C) (k : Option Nat) (c l : List C)
abbrev RS := List Int × Tk
def keep (k : Option Nat) (v : Int) (sl : List Int) : List Int := match k with
  | none => sl
  | some k => sl.set k v
def rounds (f : RS → Option Way × RS) : Nat → RS → Option Way × RS
  | 0, s => (none, s)
  | n + 1, s => match f s with
    | (none, s') => rounds f n s'
    | (some .leave, s') => (none, s')
    | (some w, s') => (some w, s')
def given (T : Tk) (v : Int) (k : Option Nat) (sl : List Int) : Option Way × RS := match T.gift v with
  | (none, T') => (some .stop, (sl, T'))
  | (some .shut, T') => (some .shut, (sl, T'))
  | (some (.throw n), T') => (some (.fault n), (sl, T'))
  | (some (.ask n), T') => (none, (keep k n sl, T'))
def back (sl : List Int) (k : Option Nat) : Option Way × RS → Option Way × RS
  | (none, (_, T)) => (none, (keep k 0 sl, T))
  | (some (.ends v), (_, T)) => (none, (keep k v sl, T))
  | (some w, (_, T)) => (some w, (sl, T))
/-- the last of a try, behind what came before -/
def lastly (f : RS → Option Way × RS) : Option Way × RS → Option Way × RS
  | (some .stop, s) => (some .stop, s)
  | (w, s) => match f s with
    | (none, s') => (w, s')
    | (some m, s') => (some m, s')
def caught (f : RS → Option Way × RS) (k : Option Nat) : Option Way × RS → Option Way × RS
  | (some (.fault n), (sl, T)) => f (keep k n sl, T)
  | x => x
mutual
def C.run : C → RS → Option Way × RS
  | .leave, s => (some .leave, s)
  | .set k e, (sl, T) => match reck sl e with
    | none => (some (.fault 0), (sl, T))
    | some v => (none, (sl.set k v, T))
  | .say e, (sl, T) => match reck sl e with
    | none => (some (.fault 0), (sl, T))
    | some v => (none, (sl, T.say v))
  | .fault e, (sl, T) => match reck sl e with
    | none => (some (.fault 0), (sl, T))
    | some v => (some (.fault v), (sl, T))
  | .ends e, (sl, T) => match reck sl e with
    | none => (some (.fault 0), (sl, T))
    | some v => (some (.ends v), (sl, T))
  | .ifs e a b, (sl, T) => match reck sl e with
    | none => (some (.fault 0), (sl, T))
    | some v => if v = 0 then Cs.run b (sl, T) else Cs.run a (sl, T)
  | .round e a, (sl, T) => match reck sl e with
    | none => (some (.fault 0), (sl, T))
    | some v => rounds (Cs.run a) (v % 10).toNat (sl, T)
  | .give e k, (sl, T) => match reck sl e with
    | none => (some (.fault 0), (sl, T))
    | some v => given T v k sl
  | .hand args k ex body, (sl, T) => match allReck sl args with
    | none => (some (.fault 0), (sl, T))
    | some ns => back sl k (Cs.run body (ns ++ List.replicate ex 0, T))
  | .try0 a l, s => lastly (Cs.run l) (Cs.run a s)
  | .tryc a k c l, s => lastly (Cs.run l) (caught (Cs.run c) k (Cs.run a s))
def Cs.run : List C → RS → Option Way × RS
  | [], s => (none, s)
  | c :: cs, s => match c.run s with
    | (none, s') => Cs.run cs s'
    | (some w, s') => (some w, s')
end
mutual
def C.ok (m : Nat) : C → Prop
  | .leave => True
  | .set k e => k < m ∧ e.ok m ∧ e.deep < 4
  | .say e => e.ok m ∧ e.deep < 4
  | .fault e => e.ok m ∧ e.deep < 4
  | .ends e => e.ok m ∧ e.deep < 4
  | .ifs e a b => (e.ok m ∧ e.deep < 4) ∧ Cs.ok m a ∧ Cs.ok m b
  | .round e a => (e.ok m ∧ e.deep < 4) ∧ Cs.ok m a
  | .give e k => (e.ok m ∧ e.deep < 4) ∧ ∀ j, k = some j → j < m
  | .hand args k ex body => (∀ e ∈ args, e.ok m ∧ e.deep < 4) ∧ args.length ≤ 1000 ∧ ex ≤ 1000 ∧ (∀ j, k = some j → j < m) ∧ Cs.ok (args.length + ex) body
  | .try0 a l => Cs.ok m a ∧ Cs.ok m l
  | .tryc a k c l => Cs.ok m a ∧ (∀ j, k = some j → j < m) ∧ Cs.ok m c ∧ Cs.ok m l
def Cs.ok (m : Nat) : List C → Prop
  | [] => True
  | c :: cs => c.ok m ∧ Cs.ok m cs
end
mutual
/-- at most so many words -/
def C.cost : C → Nat
  | .say _ => 1
  | .ifs _ a b => Cs.cost a + Cs.cost b
  | .round (.num n) a => (n % 10).toNat * Cs.cost a
  | .round _ a => 9 * Cs.cost a
  | .hand _ _ _ b => Cs.cost b
  | .try0 a l => Cs.cost a + Cs.cost l
  | .tryc a _ c l => Cs.cost a + Cs.cost c + Cs.cost l
  | _ => 0
def Cs.cost : List C → Nat
  | [] => 0
  | c :: cs => c.cost + Cs.cost cs
end
mutual
def C.dep : C → Nat
  | .ifs _ a b => max (Cs.dep a) (Cs.dep b) + 1
  | .round _ a => Cs.dep a + 1
  | .hand _ _ _ b => Cs.dep b + 1
  | .try0 a l => max (Cs.dep a) (Cs.dep l) + 1
  | .tryc a _ c l => max (Cs.dep a) (max (Cs.dep c) (Cs.dep l)) + 1
  | _ => 0
def Cs.dep : List C → Nat
  | [] => 0
  | c :: cs => max c.dep (Cs.dep cs)
end
/-- what a run keeps: the slots' number and range, the deeds; the talk goes on unless it has stopped; how many words are open at most -/
structure Kept (s : RS) (n : Nat) (r : Option Way × RS) : Prop where
  len : r.2.1.length = s.1.length
  inr : ∀ i ∈ r.2.1, InR i
  deeds : r.2.2.deeds = s.2.deeds
  run : r.1 ≠ some .stop → r.2.2.told.length < s.2.deeds.length
  le : r.2.2.told.length ≤ s.2.deeds.length
  way : ∀ v, (r.1 = some (.fault v) ∨ r.1 = some (.ends v)) → InR v
  said : r.2.2.said.length ≤ s.2.said.length + n
structure Ready (s : RS) (m : Nat) : Prop where
  len : s.1.length = m
  inr : ∀ i ∈ s.1, InR i
  dok : ∀ d ∈ s.2.deeds, d.ok
  run : s.2.told.length < s.2.deeds.length
theorem inR0 : InR 0 := by unfold InR; omega
theorem Kept.same {s : RS} {n m : Nat} {w : Option Way} (h : Ready s m) (hw : w ≠ some .stop) (hv : ∀ v, (w = some (.fault v) ∨ w = some (.ends v)) → InR v) : Kept s n (w, s) :=
  ⟨rfl, h.inr, rfl, fun _ => h.run, Nat.le_of_lt h.run, hv, Nat.le_add_right _ _⟩
theorem mem_set {sl : List Int} {k : Nat} {v : Int} (h : ∀ i ∈ sl, InR i) (hv : InR v) : ∀ i ∈ sl.set k v, InR i := fun i hi => by
  rcases List.mem_or_eq_of_mem_set hi with hi | rfl
  · exact h i hi
  · exact hv
theorem mem_keep {sl : List Int} {k : Option Nat} {v : Int} (h : ∀ i ∈ sl, InR i) (hv : InR v) : ∀ i ∈ keep k v sl, InR i := by
  cases k with
  | none => exact h
  | some k => exact mem_set h hv
theorem len_keep {sl : List Int} {k : Option Nat} {v : Int} : (keep k v sl).length = sl.length := by
  cases k with
  | none => rfl
  | some k => exact List.length_set
theorem Kept.weak {s : RS} {n n' : Nat} {r : Option Way × RS} (k : Kept s n r) (h : n ≤ n') : Kept s n' r := ⟨k.len, k.inr, k.deeds, k.run, k.le, k.way, Nat.le_trans k.said (by omega)⟩
theorem Kept.ready {s : RS} {n m : Nat} {w : Option Way} {s' : RS} (h : Ready s m) (k : Kept s n (w, s')) (hw : w ≠ some .stop) : Ready s' m :=
  ⟨k.len.trans h.len, k.inr, fun d hd => h.dok d (by rw [← k.deeds]; exact hd), by have := k.run hw; rw [← k.deeds] at this; exact this⟩
theorem Kept.then {s : RS} {n n' : Nat} {w : Option Way} {s' : RS} {r : Option Way × RS} (k : Kept s n (w, s')) (k' : Kept s' n' r) : Kept s (n + n') r :=
  ⟨k'.len.trans k.len, k'.inr, k'.deeds.trans k.deeds, fun h => by have := k'.run h; rw [k.deeds] at this; exact this, by have := k'.le; rw [k.deeds] at this; exact this, k'.way, by have h1 := k.said; have h2 := k'.said; simp only at h1; omega⟩
theorem rounds_kept {f : RS → Option Way × RS} {m c : Nat} (hf : ∀ s, Ready s m → Kept s c (f s)) : ∀ (n : Nat) (s : RS), Ready s m → Kept s (n * c) (rounds f n s)
  | 0, s, h => .same h (fun e => nomatch e) (fun v e => e.elim (fun e => nomatch e) (fun e => nomatch e))
  | n + 1, s, h => by
    have k := hf s h
    unfold rounds
    have e : (n + 1) * c = c + n * c := by rw [Nat.succ_mul, Nat.add_comm]
    rw [e]
    cases q : f s with
    | mk w s' =>
      rw [q] at k
      cases w with
      | none => exact k.then (rounds_kept hf n s' (k.ready h (fun e => nomatch e)))
      | some w =>
        cases w with
        | leave => exact ⟨k.len, k.inr, k.deeds, fun _ => k.run (fun e => nomatch e), k.le, fun v e => e.elim (fun e => nomatch e) (fun e => nomatch e), Nat.le_trans k.said (by omega)⟩
        | _ => exact k.weak (by omega)
theorem tell_len (T : Tk) (o : Out) : (T.tell o).told.length = T.told.length + 1 := by simp [Tk.tell]
theorem given_kept {s : RS} {m n : Nat} (h : Ready s m) (v : Int) (k : Option Nat) : Kept s n (given s.2 v k s.1) := by
  obtain ⟨sl, T⟩ := s
  have hr : T.told.length < T.deeds.length := h.run
  unfold given Tk.gift
  obtain ⟨d, hd⟩ := get_some hr
  rw [hd]
  have stop : ∀ o, Kept (sl, T) n (some .stop, (sl, T.tell o)) := fun o => ⟨rfl, h.inr, rfl, fun e => absurd rfl e, by simp only [tell_len]; exact hr, fun v e => e.elim (fun e => nomatch e) (fun e => nomatch e), by simp [Tk.tell]⟩
  have nxt : Kept (sl, T) n (match (T.deeds[T.told.length + 1]?, T.tell (.gift v)) with
      | (none, T') => (some .stop, (sl, T'))
      | (some .shut, T') => (some .shut, (sl, T'))
      | (some (.throw n), T') => (some (.fault n), (sl, T'))
      | (some (.ask n), T') => (none, (keep k n sl, T'))) := by
    cases hd2 : T.deeds[T.told.length + 1]? with
    | none => exact stop _
    | some d2 =>
      have lt : (T.tell (.gift v)).told.length < T.deeds.length := by rw [tell_len]; exact (List.getElem?_eq_some_iff.mp hd2).1
      have ok2 : d2.ok := h.dok d2 (List.mem_of_getElem? hd2)
      cases d2 with
      | shut => exact ⟨rfl, h.inr, rfl, fun _ => lt, Nat.le_of_lt lt, fun v e => e.elim (fun e => nomatch e) (fun e => nomatch e), by simp [Tk.tell]⟩
      | throw j => exact ⟨rfl, h.inr, rfl, fun _ => lt, Nat.le_of_lt lt, fun v e => e.elim (fun e => by cases e; exact ok2) (fun e => nomatch e), by simp [Tk.tell]⟩
      | ask j => exact ⟨len_keep, mem_keep h.inr ok2, rfl, fun _ => lt, Nat.le_of_lt lt, fun v e => e.elim (fun e => nomatch e) (fun e => nomatch e), by simp [Tk.tell]⟩
  cases d with
  | shut => exact stop _
  | ask j => exact nxt
  | throw j => exact nxt
theorem lastly_kept {s : RS} {m n n' : Nat} {f : RS → Option Way × RS} {r : Option Way × RS} (h : Ready s m) (k : Kept s n r) (hf : ∀ s, Ready s m → Kept s n' (f s)) : Kept s (n + n') (lastly f r) := by
  obtain ⟨w, s'⟩ := r
  have main : w ≠ some .stop → Kept s (n + n') (match f s' with
    | (none, s') => (w, s')
    | (some m, s') => (some m, s')) := fun hw => by
    have k2 := hf s' (k.ready h hw)
    cases q : f s' with
    | mk w2 s2 =>
      rw [q] at k2
      cases w2 with
      | none =>
        have k3 := k.then k2
        exact ⟨k3.len, k3.inr, k3.deeds, fun _ => k3.run (fun e => nomatch e), k3.le, k.way, k3.said⟩
      | some w2 => exact k.then k2
  unfold lastly
  cases w with
  | none => exact main (fun e => nomatch e)
  | some w => cases w with
    | stop => exact k.weak (by omega)
    | _ => exact main (fun e => nomatch e)
theorem caught_kept {s : RS} {m n n' : Nat} {f : RS → Option Way × RS} {kk : Option Nat} {r : Option Way × RS} (h : Ready s m) (k : Kept s n r) (hf : ∀ s, Ready s m → Kept s n' (f s)) : Kept s (n + n') (caught f kk r) := by
  obtain ⟨w, sl, T⟩ := r
  unfold caught
  cases w with
  | none => exact k.weak (by omega)
  | some w => cases w with
    | fault v =>
      have r1 := k.ready h (fun e => nomatch e)
      have r2 : Ready (keep kk v sl, T) m := ⟨len_keep.trans r1.len, mem_keep r1.inr (k.way v (.inl rfl)), r1.dok, r1.run⟩
      have k2 := hf _ r2
      exact ⟨k2.len.trans (len_keep.trans k.len), k2.inr, k2.deeds.trans k.deeds, fun e => by have := k2.run e; simp only at this; rw [show T.deeds = s.2.deeds from k.deeds] at this; exact this, by have := k2.le; simp only at this; rw [show T.deeds = s.2.deeds from k.deeds] at this; exact this, k2.way, by have h1 := k.said; have h2 := k2.said; simp only at h1 h2 ⊢; omega⟩
    | _ => exact k.weak (by omega)
mutual
theorem C.kept : ∀ (c : C) {s : RS} {m : Nat}, Ready s m → c.ok m → Kept s c.cost (c.run s)
  | .leave, s, m, h, ok => .same h (fun e => nomatch e) (fun v e => e.elim (fun e => nomatch e) (fun e => nomatch e))
  | .set k e, (sl, T), m, h, ok => by
    simp only [C.run]
    cases q : reck sl e with
    | none => exact .same h (fun e => nomatch e) (fun v e => e.elim (fun e => by cases e; exact inR0) (fun e => nomatch e))
    | some v =>
      have hv : InR v := reck_in h.inr (by rw [h.len]; exact ok.2.1) q
      exact ⟨List.length_set, mem_set h.inr hv, rfl, fun _ => h.run, Nat.le_of_lt h.run, fun v e => e.elim (fun e => nomatch e) (fun e => nomatch e), Nat.le_add_right _ _⟩
  | .say e, (sl, T), m, h, ok => by
    simp only [C.run]
    cases q : reck sl e with
    | none => exact .same h (fun e => nomatch e) (fun v e => e.elim (fun e => by cases e; exact inR0) (fun e => nomatch e))
    | some v => exact ⟨rfl, h.inr, rfl, fun _ => h.run, Nat.le_of_lt h.run, fun v e => e.elim (fun e => nomatch e) (fun e => nomatch e), by simp [Tk.say, C.cost]⟩
  | .fault e, (sl, T), m, h, ok => by
    simp only [C.run]
    cases q : reck sl e with
    | none => exact .same h (fun e => nomatch e) (fun v e => e.elim (fun e => by cases e; exact inR0) (fun e => nomatch e))
    | some v => exact .same h (fun e => nomatch e) (fun v' e => e.elim (fun e => by cases e; exact reck_in h.inr (by rw [h.len]; exact ok.1) q) (fun e => nomatch e))
  | .ends e, (sl, T), m, h, ok => by
    simp only [C.run]
    cases q : reck sl e with
    | none => exact .same h (fun e => nomatch e) (fun v e => e.elim (fun e => by cases e; exact inR0) (fun e => nomatch e))
    | some v => exact .same h (fun e => nomatch e) (fun v' e => e.elim (fun e => nomatch e) (fun e => by cases e; exact reck_in h.inr (by rw [h.len]; exact ok.1) q))
  | .ifs e a b, (sl, T), m, h, ok => by
    simp only [C.run, C.cost]
    cases q : reck sl e with
    | none => exact .same h (fun e => nomatch e) (fun v e => e.elim (fun e => by cases e; exact inR0) (fun e => nomatch e))
    | some v =>
      simp only
      split
      · exact (Cs.kept b h ok.2.2).weak (by omega)
      · exact (Cs.kept a h ok.2.1).weak (by omega)
  | .round e a, (sl, T), m, h, ok => by
    simp only [C.run]
    cases q : reck sl e with
    | none => exact .same h (fun e => nomatch e) (fun v e => e.elim (fun e => by cases e; exact inR0) (fun e => nomatch e))
    | some v =>
      have k := rounds_kept (fun s h => Cs.kept a h ok.2) (v % 10).toNat (sl, T) h
      refine k.weak ?_
      have h9 : (v % 10).toNat ≤ 9 := by omega
      cases e with
      | num n => simp only [reck, Option.some.injEq] at q; subst q; simp only [C.cost]; exact Nat.le_refl _
      | slot j => simp only [C.cost]; exact Nat.mul_le_mul_right _ h9
      | op o x y => simp only [C.cost]; exact Nat.mul_le_mul_right _ h9
  | .give e k, (sl, T), m, h, ok => by
    simp only [C.run]
    cases q : reck sl e with
    | none => exact .same h (fun e => nomatch e) (fun v e => e.elim (fun e => by cases e; exact inR0) (fun e => nomatch e))
    | some v => exact given_kept h v k
  | .hand args k ex body, (sl, T), m, h, ok => by
    simp only [C.run, C.cost]
    cases q : allReck sl args with
    | none => exact .same h (fun e => nomatch e) (fun v e => e.elim (fun e => by cases e; exact inR0) (fun e => nomatch e))
    | some ns =>
      obtain ⟨_, _, h3, h4⟩ := allReck_some q
      have hns := h3 m h.inr h.len.symm fun e he => (ok.1 e he).1
      have rd : Ready (ns ++ List.replicate ex 0, T) (args.length + ex) := ⟨by simp [h4], fun i hi => (List.mem_append.mp hi).elim (hns i) fun hi => by rw [(List.mem_replicate.mp hi).2]; exact inR0, h.dok, h.run⟩
      have kb := Cs.kept body rd ok.2.2.2.2
      simp only
      cases qb : Cs.run body (ns ++ List.replicate ex 0, T) with
      | mk w s2 =>
        obtain ⟨sl2, T2⟩ := s2
        rw [qb] at kb
        unfold back
        have e1 : T2.deeds = T.deeds := kb.deeds
        cases w with
        | none => exact ⟨len_keep, mem_keep h.inr inR0, e1, fun _ => kb.run (fun e => nomatch e), kb.le, fun v e => e.elim (fun e => nomatch e) (fun e => nomatch e), kb.said⟩
        | some w => cases w with
          | ends v => exact ⟨len_keep, mem_keep h.inr (kb.way v (.inr rfl)), e1, fun _ => kb.run (fun e => nomatch e), kb.le, fun v e => e.elim (fun e => nomatch e) (fun e => nomatch e), kb.said⟩
          | _ => exact ⟨rfl, h.inr, e1, kb.run, kb.le, kb.way, kb.said⟩
  | .try0 a l, s, m, h, ok => by
    simp only [C.run, C.cost]
    exact lastly_kept h (Cs.kept a h ok.1) fun s h => Cs.kept l h ok.2
  | .tryc a k c l, s, m, h, ok => by
    simp only [C.run, C.cost]
    exact lastly_kept h (caught_kept h (Cs.kept a h ok.1) fun s h => Cs.kept c h ok.2.2.1) fun s h => Cs.kept l h ok.2.2.2
theorem Cs.kept : ∀ (cs : List C) {s : RS} {m : Nat}, Ready s m → Cs.ok m cs → Kept s (Cs.cost cs) (Cs.run cs s)
  | [], s, m, h, ok => .same h (fun e => nomatch e) (fun v e => e.elim (fun e => nomatch e) (fun e => nomatch e))
  | c :: cs, s, m, h, ok => by
    have k := C.kept c h ok.1
    simp only [Cs.run, Cs.cost]
    cases q : c.run s with
    | mk w s' =>
      rw [q] at k
      cases w with
      | none => exact k.then (Cs.kept cs (k.ready h (fun e => nomatch e)) ok.2)
      | some w => exact k.weak (by omega)
end
end WL
namespace WL
open PySem L2
/-! ### the walk through a program -/
mutual
/-- a step of a program and its closed form -/
inductive CloS (p : List Work) : Step → C → Prop
  | set (k : Nat) (e : Rk) : CloS p (.set (some (k : Int)) e) (.set k e)
  | say (e : Rk) : CloS p (.say e) (.say e)
  | give (e : Rk) (k : Option Nat) : CloS p (.give e (k.map Int.ofNat)) (.give e k)
  | hand {w : Nat} {args : List Rk} {k : Option Nat} {wk : Work} {cb : List C} : p[w]? = some wk → wk.params = args.length → wk.params ≤ wk.slots → CloB p wk.body cb → CloS p (.hand (w : Int) args (k.map Int.ofNat)) (.hand args k (wk.slots - wk.params).toNat cb)
  | ifs {e : Rk} {a b : List Step} {ca cb : List C} : CloB p a ca → CloB p b cb → CloS p (.ifs e a b) (.ifs e ca cb)
  | round {e : Rk} {a : List Step} {ca : List C} : CloB p a ca → CloS p (.round e a) (.round e ca)
  | leave : CloS p .leave .leave
  | fault (e : Rk) : CloS p (.fault e) (.fault e)
  | ends (e : Rk) : CloS p (.ends e) (.ends e)
  | try0 {a l : List Step} {ca cl : List C} : CloB p a ca → CloB p l cl → CloS p (.try0 a l) (.try0 ca cl)
  | tryc {a c l : List Step} {k : Option Nat} {ca cc cl : List C} : CloB p a ca → CloB p c cc → CloB p l cl → CloS p (.tryc a (k.map Int.ofNat) c l) (.tryc ca k cc cl)
inductive CloB (p : List Work) : List Step → List C → Prop
  | nil : CloB p [] []
  | cons {s : Step} {c : C} {ss : List Step} {cs : List C} : CloS p s c → CloB p ss cs → CloB p (s :: ss) (c :: cs)
end
def Keep4 (a b c d : Addr) (S S' : Sto) : Prop := ∀ x o, x ≠ a → x ≠ b → x ≠ c → x ≠ d → S x = some o → S' x = some o
/-- where a walk stands -/
structure WkAt (CW CT : Addr) (S : Sto) (me pr tk ad at_ as_ sl : Addr) (p : List Work) (s : RS) (m : Nat) : Prop where
  hself : S me = some (.ins CW [(w_program, .ref pr), (w_talk, .ref tk)])
  hprog : S pr = some (progM p)
  htk : TkAt CT S tk ad at_ as_ s.2
  hsl : S sl = some (slotsM s.1)
  d1 : sl ≠ ad
  d2 : sl ≠ at_
  d3 : sl ≠ as_
  e1 : pr ≠ at_
  e2 : pr ≠ as_
  e3 : pr ≠ sl
  rd : Ready s m
  many : s.2.deeds.length ≤ 1000
theorem WkAt.st {CW CT : Addr} {S : Sto} {me pr tk ad at_ as_ sl : Addr} {p : List Work} {s : RS} {m : Nat} (h : WkAt CW CT S me pr tk ad at_ as_ sl p s m) : me ≠ tk ∧ me ≠ at_ ∧ me ≠ as_ ∧ me ≠ sl ∧ pr ≠ tk ∧ sl ≠ tk := by
  have o := h.htk.obj
  refine ⟨fun e => ?_, ne_obj h.hself h.htk.told, ne_obj h.hself h.htk.said, ne_obj h.hself h.hsl, Ne.symm (ne_obj o h.hprog), Ne.symm (ne_obj o h.hsl)⟩
  subst e
  have z := h.hself
  rw [o] at z
  simp at z
/-- what stands behind a part of the walk -/
structure WkTo (CT : Addr) (S S' : Sto) (tk ad at_ as_ as2 sl : Addr) (s' : RS) : Prop where
  htk : TkAt CT S' tk ad at_ as2 s'.2
  hsl : S' sl = some (slotsM s'.1)
  keep : Keep4 tk at_ as_ sl S S'
  new : as2 = as_ ∨ S as2 = none
theorem WkAt.to {CW CT : Addr} {S S' : Sto} {me pr tk ad at_ as_ as2 sl : Addr} {p : List Work} {s s' : RS} {m n : Nat} {w : Option Way} (h : WkAt CW CT S me pr tk ad at_ as_ sl p s m) (t : WkTo CT S S' tk ad at_ as_ as2 sl s') (k : Kept s n (w, s')) (hw : w ≠ some .stop) : WkAt CW CT S' me pr tk ad at_ as2 sl p s' m := by
  obtain ⟨a1, a2, a3, a4, a5, a6⟩ := h.st
  have ne : ∀ {x : Addr} {o : MO}, S x = some o → x ≠ as_ → x ≠ as2 := fun {x o} e n => by
    rcases t.new with z | z
    · rw [z]; exact n
    · exact ne_none e z
  exact ⟨t.keep _ _ a1 a2 a3 a4 h.hself, t.keep _ _ a5 h.e1 h.e2 h.e3 h.hprog, t.htk, t.hsl, h.d1, h.d2, ne h.hsl h.d3, h.e1, ne h.hprog h.e2, h.e3, k.ready h.rd hw, by rw [show s'.2.deeds = s.2.deeds from k.deeds]; exact h.many⟩
theorem WkTo.refl {CW CT : Addr} {S : Sto} {me pr tk ad at_ as_ sl : Addr} {p : List Work} {s : RS} {m : Nat} (h : WkAt CW CT S me pr tk ad at_ as_ sl p s m) : WkTo CT S S tk ad at_ as_ as_ sl s := ⟨h.htk, h.hsl, fun _ _ _ _ _ _ e => e, .inl rfl⟩
theorem WkTo.trans {CT : Addr} {S S1 S2 : Sto} {tk ad at_ as_ as1 as2 sl : Addr} {s1 s2 : RS} (a : WkTo CT S S1 tk ad at_ as_ as1 sl s1) (b : WkTo CT S1 S2 tk ad at_ as1 as2 sl s2) : WkTo CT S S2 tk ad at_ as_ as2 sl s2 := by
  refine ⟨b.htk, b.hsl, fun x o h1 h2 h3 h4 e => b.keep x o h1 h2 ?_ h4 (a.keep x o h1 h2 h3 h4 e), ?_⟩
  · rcases a.new with z | z
    · rw [z]; exact h3
    · exact ne_none e z
  · rcases b.new with z | z
    · rw [z]; exact a.new
    · cases q : S as2 with
      | none => exact .inr rfl
      | some o =>
        by_cases h3 : as2 = as_
        · exact .inl h3
        · by_cases h1 : as2 = tk
          · subst h1; rw [a.htk.obj] at z; cases z
          · by_cases h2 : as2 = at_
            · subst h2; rw [a.htk.told] at z; cases z
            · by_cases h4 : as2 = sl
              · subst h4; rw [a.hsl] at z; cases z
              · rw [a.keep as2 o h1 h2 h3 h4 q] at z; cases z
theorem WkTo.le {CT : Addr} {S S1 S2 : Sto} {tk ad at_ as_ as1 sl : Addr} {s1 : RS} (a : WkTo CT S S1 tk ad at_ as_ as1 sl s1) (l : Le S1 S2) : WkTo CT S S2 tk ad at_ as_ as1 sl s1 := ⟨a.htk.keep l, l _ _ a.hsl, fun x o h1 h2 h3 h4 e => l _ _ (a.keep x o h1 h2 h3 h4 e), a.new⟩
end WL
namespace WL
open PySem L2
theorem WkAt.hand {CW CT : Addr} {S S4 : Sto} {me pr tk ad at_ as_ sl sl2 : Addr} {p : List Work} {s : RS} {m m2 : Nat} {l2 : List Int} (h : WkAt CW CT S me pr tk ad at_ as_ sl p s m) (l : Le S S4) (h4 : S4 sl2 = some (slotsM l2)) (f : S sl2 = none) (rd : Ready (l2, s.2) m2) : WkAt CW CT S4 me pr tk ad at_ as_ sl2 p (l2, s.2) m2 :=
  ⟨l _ _ h.hself, l _ _ h.hprog, h.htk.keep l, h4, Ne.symm (ne_none h.htk.deeds f), Ne.symm (ne_none h.htk.told f), Ne.symm (ne_none h.htk.said f), h.e1, h.e2, ne_none h.hprog f, rd, h.many⟩
theorem WkTo.hand {CW CT : Addr} {S S4 S' : Sto} {me pr tk ad at_ as_ as2 sl sl2 : Addr} {p : List Work} {s s2 : RS} {m : Nat} (h : WkAt CW CT S me pr tk ad at_ as_ sl p s m) (l : Le S S4) (f : S sl2 = none) (t : WkTo CT S4 S' tk ad at_ as_ as2 sl2 s2) : WkTo CT S S' tk ad at_ as_ as2 sl (s.1, s2.2) := by
  refine ⟨t.htk, t.keep _ _ h.st.2.2.2.2.2 h.d2 h.d3 (ne_none h.hsl f) (l _ _ h.hsl), fun x o h1 h2 h3 h4 e => t.keep x o h1 h2 h3 (ne_none e f) (l _ _ e), ?_⟩
  rcases t.new with z | z
  · exact .inl z
  · right
    cases q : S as2 with
    | none => rfl
    | some o => rw [l _ _ q] at z; cases z
theorem rep_int (n : Nat) : (List.replicate n [W.int 0]).flatten = (List.replicate n (0 : Int)).map W.int := by
  induction n with
  | zero => rfl
  | succ n ih => rw [List.replicate_succ, List.replicate_succ, List.flatten_cons, ih]; rfl
theorem Le.to {S S' : Sto} {a : Addr} (l : Le S S') (h : S' a = none) : S a = none := by
  cases q : S a with
  | none => rfl
  | some o => rw [l _ _ q] at h; cases h
end WL
namespace WL
open PySem L2
def playedM (cb : List C) (ns : List Int) (ex : Nat) (ds : List Deed) : List Told := match ds with
  | .ask _ :: _ => ((Cs.run cb (ns ++ List.replicate ex 0, ⟨ds, [], []⟩)).2.2.close ((Cs.run cb (ns ++ List.replicate ex 0, ⟨ds, [], []⟩)).1.getD (.ends 0))).all
  | _ => (⟨ds, [], []⟩ : Tk).all
/-- a work that may be played -/
structure Playable (p : List Work) (wi : Nat) (ns : List Int) (ds : List Deed) (cb : List C) (ex n m : Nat) : Prop where
  prog : progOk p n
  work : ∃ wk, p[wi]? = some wk ∧ wk.params = (ns.length : Int) ∧ wk.params ≤ wk.slots ∧ ex = (wk.slots - wk.params).toNat ∧ CloB p wk.body cb
  exl : ex ≤ 1000
  ok : Cs.ok (ns.length + ex) cb
  dep : Cs.dep cb < m
  nin : ∀ i ∈ ns, InR i
  dok : ∀ d ∈ ds, d.ok
  nl : ns.length ≤ 1000
  dl : ds.length ≤ 1000
  cost : Cs.cost cb < 16000000
def sp_played (n m : Nat) : WSp := fun ws S Q => ∃ (pr d0 : Addr) (p : List Work) (wi : Nat) (ns : List Int) (ds : List Deed) (cb : List C) (ex : Nat), ws = [.ref pr, .int wi, .tup (ns.map .int), .ref d0] ∧ S pr = some (progM p) ∧ S d0 = some (deedsM ds) ∧ Playable p wi ns ds cb ex n m ∧
  ∀ S' q, Le S S' → S q = none → S' q = some (.lst ((playedM cb ns ex ds).map toldW)) → Q (.ref q) S'
theorem close_len {T : Tk} {w : Way} : (T.close w).told.length ≤ T.told.length + 1 := by
  unfold Tk.close
  split
  · omega
  · split <;> simp [Tk.tell]
  · simp [Tk.tell]
theorem close_deeds {T : Tk} {w : Way} : (T.close w).deeds = T.deeds := by
  unfold Tk.close
  split
  · rfl
  · split <;> rfl
  · rfl
end WL
namespace WL
open PySem L2
/-- law_taken: row many found cell -/
def t_law_taken  : WS :=
  (wSeq (wIfS (wB (wOp rGt (wOp rIxW (wVar 0) (wC (.int 3))) (wC (.int 0))))
  (wSeq (wAsg (wOp rMod (wOp rIxW (wVar 0) (wC (.int 3))) (wVar 1)) (gNameW 2))
  (wSeq (wAsg (wOp rDiv (wOp rIxW (wVar 0) (wC (.int 3))) (wVar 1)) (gSubW (wVar 0) (wC (.int 3))))
  (wRet (wVar 2))))
  wNext)
  (wSeq (wAsg (wOp rAddW (wOp rIxW (wVar 0) (wC (.int 1))) (wC (.int 1))) (gSubW (wVar 0) (wC (.int 1))))
  (wSeq (wIfS (wB (wOp rGt (wOp rIxW (wVar 0) (wC (.int 1))) (wCall rLenW (wCons (wOp rIxW (wVar 0) (wC (.int 0))) wNil))))
  (wSeq (wAsg (wOp rMod (wOp rAddW (wOp rMulW (wOp rIxW (wVar 0) (wC (.int 2))) (wC (.int 48271))) (wC (.int 11))) (wC (.int 2147483647))) (gSubW (wVar 0) (wC (.int 2))))
  (wRet (wOp rMod (wOp rDiv (wOp rIxW (wVar 0) (wC (.int 2))) (wC (.int 7))) (wVar 1))))
  wNext)
  (wSeq (wAsg (wOp rIxW (wOp rIxW (wVar 0) (wC (.int 0))) (wOp rSubW (wOp rIxW (wVar 0) (wC (.int 1))) (wC (.int 1)))) (gNameW 3))
  (wSeq (wAsg (wOp rMod (wOp rAddW (wOp rAddW (wOp rMulW (wOp rIxW (wVar 0) (wC (.int 2))) (wC (.int 48271))) (wVar 3)) (wC (.int 11))) (wC (.int 2147483647))) (gSubW (wVar 0) (wC (.int 2))))
  (wSeq (wIfS (wB (wOp rGe (wVar 3) (wOp rPow (wC (.int 10)) (wC (.int 18)))))
  (wAsg (wOp rDiv (wVar 3) (wVar 1)) (gSubW (wVar 0) (wC (.int 3))))
  wNext)
  (wRet (wOp rMod (wVar 3) (wVar 1)))))))))
/-- law_reckoning: row slots deep way word -/
def t_law_reckoning (sp_law_taken sp_law_reckoning : WSp) : WS :=
  (wSeq (wAsg (wCall sp_law_taken (wCons (wVar 0) (wCons (wC (.int 8)) wNil))) (gNameW 3))
  (wSeq (wIfS (wAnd (wB (wOp rGt (wVar 3) (wC (.int 4)))) (wB (wOp rGt (wVar 2) (wC (.int 0)))))
  (wSeq (wAsg (wOp rIxW (wLst (wCons (wC (.str w_plus)) (wCons (wC (.str w_less)) (wCons (wC (.str w_times)) (wCons (wC (.str w_part)) (wCons (wC (.str w_below)) (wCons (wC (.str w_same)) wNil))))))) (wCall sp_law_taken (wCons (wVar 0) (wCons (wC (.int 6)) wNil)))) (gNameW 4))
  (wRet (wTup (wCons (wVar 4) (wCons (wCall sp_law_reckoning (wCons (wVar 0) (wCons (wVar 1) (wCons (wOp rSubW (wVar 2) (wC (.int 1))) wNil)))) (wCons (wCall sp_law_reckoning (wCons (wVar 0) (wCons (wVar 1) (wCons (wOp rSubW (wVar 2) (wC (.int 1))) wNil)))) wNil))))))
  wNext)
  (wSeq (wIfS (wB (wOp rLt (wVar 3) (wC (.int 3))))
  (wRet (wTup (wCons (wC (.str w_num)) (wCons (wCall sp_law_taken (wCons (wVar 0) (wCons (wOp rIxW (wLst (wCons (wC (.int 3)) (wCons (wC (.int 12)) (wCons (wC (.int 1000)) wNil)))) (wVar 3)) wNil))) wNil))))
  wNext)
  (wRet (wTup (wCons (wC (.str w_slot)) (wCons (wCall sp_law_taken (wCons (wVar 0) (wCons (wVar 1) wNil))) wNil)))))))
/-- law: script row turn slots params steps_here numbers_here program handed due more number way deeds found -/
def l_law_1 (sp_law_taken sp_law_steps sp_law_numbers sp_law_gone sp_played sp_law_alike : WSp) : WS :=
  (wSeq (wAsg (wCall sp_law_taken (wCons (wVar 1) (wCons (wC (.int 1000)) wNil))) (gNameW 11))
  (wSeq (wAsg (wCall sp_law_taken (wCons (wVar 1) (wCons (wC (.int 3)) wNil))) (gNameW 12))
  (wSeq (wDrop (wLm rAppW (wOp rIxW (wVar 8) (wC (.int 1))) (wCons (wOp rIxW (wLst (wCons (wTup (wCons (wC (.str w_ask)) (wCons (wVar 11) wNil))) (wCons (wTup (wCons (wC (.str w_throw)) (wCons (wVar 11) wNil))) (wCons (wTup (wCons (wC (.str w_shut)) wNil)) wNil)))) (wVar 12)) wNil)))
  (wDrop (wLm rAppW (wVar 9) (wCons (wTup (wCons (wTup wNil) (wCons (wOp rIxW (wLst (wCons (wTup (wCons (wC (.str w_over)) wNil)) (wCons (wTup (wCons (wC (.str w_fault)) (wCons (wVar 11) wNil))) (wCons (wTup (wCons (wC (.str w_shut)) wNil)) wNil)))) (wVar 12)) wNil))) wNil))))))
def l_law_2 (sp_law_taken sp_law_steps sp_law_numbers sp_law_gone sp_played sp_law_alike : WSp) : WS :=
  (wSeq (wAsg (wOp rAddW (wC (.int 1)) (wCall sp_law_taken (wCons (wVar 1) (wCons (wC (.int 4)) wNil)))) (gNameW 3))
  (wSeq (wAsg (wCall sp_law_taken (wCons (wVar 1) (wCons (wCall rMinW (wCons (wC (.int 3)) (wCons (wOp rAddW (wVar 3) (wC (.int 1))) wNil))) wNil))) (gNameW 4))
  (wSeq (wAsg (wCall sp_law_steps (wCons (wVar 1) (wCons (wVar 3) wNil))) (gNameW 5))
  (wSeq (wAsg (wCall sp_law_numbers (wCons (wVar 1) (wCons (wVar 4) wNil))) (gNameW 6))
  (wSeq (wAsg (wLst (wCons (wTup (wCons (wVar 4) (wCons (wVar 3) (wCons (wVar 5) wNil)))) wNil)) (gNameW 7))
  (wSeq (wAsg (wLst (wCons (wCall rListW (wCons (wVar 7) wNil)) (wCons (wLst (wCons (wTup (wCons (wC (.str w_ask)) (wCons (wCall sp_law_taken (wCons (wVar 1) (wCons (wC (.int 1000)) wNil))) wNil))) wNil)) wNil))) (gNameW 8))
  (wSeq (wAsg (wLst (wCons (wCall sp_law_gone (wCons (wVar 5) (wCons (wOp rAddW (wCall rListW (wCons (wVar 6) wNil)) (wOp rMulW (wLst (wCons (wC (.int 0)) wNil)) (wOp rSubW (wVar 3) (wVar 4)))) wNil))) wNil)) (gNameW 9))
  (wSeq (wForR1 (wCons (wCall sp_law_taken (wCons (wVar 1) (wCons (wC (.int 4)) wNil))) wNil) (gNameW 10)
  (l_law_1 sp_law_taken sp_law_steps sp_law_numbers sp_law_gone sp_played sp_law_alike))
  (wSeq (wAsg (wCall rListW (wCons (wOp rIxW (wVar 8) (wC (.int 1))) wNil)) (gNameW 13))
  (wSeq (wAsg (wCall sp_played (wCons (wOp rIxW (wVar 8) (wC (.int 0))) (wCons (wC (.int 0)) (wCons (wVar 6) (wCons (wOp rIxW (wVar 8) (wC (.int 1))) wNil))))) (gNameW 14))
  (wSeq (wIfS (wOr (wNot (wB (wCall rIsiW (wCons (wVar 14) (wCons (wC (.ty "list")) wNil))))) (wOr (wNot (wB (wCall sp_law_alike (wCons (wVar 14) (wCons (wVar 9) wNil))))) (wB (wOp rNeW (wVar 8) (wLst (wCons (wVar 7) (wCons (wVar 13) wNil)))))))
  (wRet (wC (.bl false)))
  wNext)
  (wSeq (wDrop (wLm0 rClrW (wVar 14)))
  (wIfS (wNot (wB (wCall sp_law_alike (wCons (wCall sp_played (wCons (wVar 7) (wCons (wC (.int 0)) (wCons (wVar 6) (wCons (wVar 13) wNil))))) (wCons (wVar 9) wNil)))))
  (wRet (wC (.bl false)))
  wNext)))))))))))))
def t_law (sp_law_taken sp_law_steps sp_law_numbers sp_law_gone sp_played sp_law_alike : WSp) : WS :=
  (wSeq (wAsg (wLst (wCons (wVar 0) (wCons (wC (.int 0)) (wCons (wC (.int 0)) (wCons (wC (.int 0)) wNil))))) (gNameW 1))
  (wSeq (wForR1 (wCons (wC (.int 3)) wNil) (gNameW 2)
  (l_law_2 sp_law_taken sp_law_steps sp_law_numbers sp_law_gone sp_played sp_law_alike))
  (wRet (wC (.bl true)))))
/-! ### the row of a draw -/
def RowAt (S : Sto) (row : Addr) (ns : List Int) : Prop := ∃ i c d : Int, S row = some (.lst [.rl (ns.map .int), .int i, .int c, .int d]) ∧ 0 ≤ i ∧ 0 ≤ c ∧ c < 2147483647
def Fr (row : Addr) (S S' : Sto) : Prop := ∀ x o, x ≠ row → S x = some o → S' x = some o
theorem Fr.refl {row : Addr} {S : Sto} : Fr row S S := fun _ _ _ h => h
theorem Fr.trans {row : Addr} {S S1 S2 : Sto} (a : Fr row S S1) (b : Fr row S1 S2) : Fr row S S2 := fun x o n h => b x o n (a x o n h)
theorem Fr.le {row : Addr} {S S' : Sto} (l : Le S S') : Fr row S S' := fun x o _ h => l x o h
theorem Fr.put {row : Addr} {S : Sto} {o : MO} : Fr row S (WL.put S row o) := fun x o n h => by rw [put_ne n]; exact h
theorem RowAt.le {S S' : Sto} {row : Addr} {ns : List Int} (h : RowAt S row ns) (l : Le S S') : RowAt S' row ns := by
  obtain ⟨i, c, d, e, h1, h2, h3⟩ := h
  exact ⟨i, c, d, l _ _ e, h1, h2, h3⟩
theorem RowAt.ne {S : Sto} {row p : Addr} {ns : List Int} (h : RowAt S row ns) (hp : S p = none) : row ≠ p := by
  obtain ⟨i, c, d, e, _⟩ := h
  exact ne_none e hp
def sp_law_taken : WSp := fun ws S Q => ∃ (row : Addr) (ns : List Int) (m : Int), ws = [.ref row, .int m] ∧ 0 < m ∧ m ≤ 100000 ∧ RowAt S row ns ∧ ∀ v S', 0 ≤ v → v < m → RowAt S' row ns → Fr row S S' → Q (.int v) S'
theorem atI_last {ns : List Int} {i : Int} (h0 : 0 ≤ i) (h : ¬ (ns.length : Int) < i + 1) : ∃ x : Int, atI (ns.map W.int) (i + 1 - 1) = some (.int x) := by
  obtain ⟨x, hx⟩ := get_some (show i.toNat < ns.length by omega)
  refine ⟨x, ?_⟩
  rw [show i + 1 - 1 = ((i.toNat : Nat) : Int) by omega]
  exact atI_map hx
theorem r_law_taken : ∀ ws S Q, Up Q → sp_law_taken ws S Q → t_law_taken { nx := fun _ S' => Q .non S', rt := Q } (startW 4 ws) S := by
  rintro ws S Q up ⟨row, ns, m, rfl, hm, hm2, ⟨i, c, d, hS, hi, hc, hc2⟩, q⟩
  simp only [t_law_taken]
  have cd : ∀ x : Int, CDiv x m := fun x => ⟨hm, by omega⟩
  have cm : CMul c 48271 := .inr (by decide)
  have cp : CPow 10 18 := by unfold CPow; decide
  have cd7 : ∀ x : Int, CDiv x 7 := fun x => ⟨by decide, by decide⟩
  have i3 : ixN 4 3 = some 3 := rfl
  have i2 : ixN 4 2 = some 2 := rfl
  have i1 : ixN 4 1 = some 1 := rfl
  have lr : ∀ (S : Sto) Q', rLenW [.rl (ns.map W.int)] S Q' = Q' (.int (ns.length : Nat)) S := fun S Q' => by rw [len_r, List.length_map]
  by_cases hd : 0 < d
  · have d1 := decide_eq_true hd
    have q' := fun x => q (d % m) (put S row (.lst [.rl (ns.map .int), .int i, .int c, .int x])) (Int.emod_nonneg _ (by omega)) (Int.emod_lt_of_pos _ hm) ⟨i, c, x, put_same, hi, hc, hc2⟩ Fr.put
    clear q
    walk_at "ws"
  · have d1 := decide_eq_false hd
    have q' := fun v (h1 : 0 ≤ v) (h2 : v < m) c' x (h3 : 0 ≤ c') (h4 : c' < 2147483647) => q v (put S row (.lst [.rl (ns.map .int), .int (i + 1), .int c', .int x])) h1 h2 ⟨i + 1, c', x, put_same, by omega, h3, h4⟩ Fr.put
    clear q
    by_cases hl : (ns.length : Int) < i + 1
    · have d2 := decide_eq_true hl
      have q2 := q' ((c * 48271 + 11) % 2147483647 / 7 % m) (Int.emod_nonneg _ (by omega)) (Int.emod_lt_of_pos _ hm) ((c * 48271 + 11) % 2147483647) d (Int.emod_nonneg _ (by decide)) (Int.emod_lt_of_pos _ (by decide))
      clear q'
      walk_at "ws"
      simp only [put_put]
      exact q2
    · have d2 := decide_eq_false hl
      obtain ⟨x, hx⟩ := atI_last hi hl
      have q2 := fun y => q' (x % m) (Int.emod_nonneg _ (by omega)) (Int.emod_lt_of_pos _ hm) ((c * 48271 + x + 11) % 2147483647) y (Int.emod_nonneg _ (by decide)) (Int.emod_lt_of_pos _ (by decide))
      clear q'
      walk_at "ws"
      simp only [put_put]
      walk_at "ws"
      split <;> trivial
theorem taken_ok {S : Sto} {row : Addr} {ns : List Int} {m : Int} {Q : WQ} (R : RowAt S row ns) (hm : 0 < m) (hm2 : m ≤ 100000) (q : ∀ v S', 0 ≤ v → v < m → RowAt S' row ns → Fr row S S' → Q (.int v) S') : sp_law_taken [.ref row, .int m] S Q := ⟨row, ns, m, rfl, hm, hm2, R, q⟩
def sp_law_reckoning (n : Nat) : WSp := fun ws S Q => ∃ (row : Addr) (ns : List Int) (slots : Int) (deep : Nat), ws = [.ref row, .int slots, .int deep] ∧ 0 < slots ∧ slots ≤ 1000 ∧ deep < n ∧ RowAt S row ns ∧ ∀ (e : Rk) S', e.isR slots deep = true → RowAt S' row ns → Fr row S S' → Q e.W S'
theorem op_at {v : Int} (h0 : 0 ≤ v) (h : v < 6) : ∃ o : Op, atI [W.str w_plus, .str w_less, .str w_times, .str w_part, .str w_below, .str w_same] v = some (.str o.str) := by
  obtain rfl | rfl | rfl | rfl | rfl | rfl : v = 0 ∨ v = 1 ∨ v = 2 ∨ v = 3 ∨ v = 4 ∨ v = 5 := by omega
  · exact ⟨.plus, rfl⟩
  · exact ⟨.less, rfl⟩
  · exact ⟨.times, rfl⟩
  · exact ⟨.part, rfl⟩
  · exact ⟨.below, rfl⟩
  · exact ⟨.same, rfl⟩
theorem num_at {v : Int} (h0 : 0 ≤ v) (h : v < 3) : ∃ m : Int, atI [W.int 3, .int 12, .int 1000] v = some (.int m) ∧ 0 < m ∧ m ≤ 1000 := by
  obtain rfl | rfl | rfl : v = 0 ∨ v = 1 ∨ v = 2 := by omega
  · exact ⟨3, rfl, by decide, by decide⟩
  · exact ⟨12, rfl, by decide, by decide⟩
  · exact ⟨1000, rfl, by decide, by decide⟩
theorem r_law_reckoning (n : Nat) : ∀ ws S Q, Up Q → sp_law_reckoning (n + 1) ws S Q → t_law_reckoning sp_law_taken (sp_law_reckoning n) { nx := fun _ S' => Q .non S', rt := Q } (startW 5 ws) S := by
  rintro ws S Q up ⟨row, ns, slots, deep, rfl, hs, hs2, hd, R, q⟩
  simp only [t_law_reckoning]
  walk_at "wx"
  refine taken_ok R (by decide) (by decide) fun v S1 v0 v1 R1 F1 => ?_
  by_cases h4 : 4 < v ∧ 0 < deep
  · obtain ⟨h4, hd0⟩ := h4
    have c1 := decide_eq_true h4
    have c2 := decide_eq_true (show (0 : Int) < (deep : Int) by omega)
    obtain ⟨d, rfl⟩ : ∃ d, deep = d + 1 := ⟨deep - 1, by omega⟩
    have e1 : ((d + 1 : Nat) : Int) - 1 = (d : Int) := by omega
    rw [e1]
    walk_at "wx"
    rw [c1]
    walk_at "wx"
    rw [c2]
    walk_at "wx"
    intro p hp
    have R2 := R1.le (Le.put (o := .lst [W.str w_plus, .str w_less, .str w_times, .str w_part, .str w_below, .str w_same]) hp)
    refine taken_ok R2 (by decide) (by decide) fun u S2 u0 u1 R3 F3 => ?_
    obtain ⟨o, ho⟩ := op_at u0 u1
    have hp3 := F3 p _ (Ne.symm (R1.ne hp)) put_same
    simp only [ix_l, hp3, onL_lst, ho]
    walk_at "wx"
    refine ⟨row, ns, slots, d, rfl, hs, hs2, by omega, R3, fun a S4 ha R4 F4 => ?_⟩
    refine ⟨row, ns, slots, d, rfl, hs, hs2, by omega, R4, fun b S5 hb R5 F5 => ?_⟩
    exact q (.op o a b) S5 (by simp only [Rk.isR, ha, hb, Bool.and_self]) R5 (F1.trans ((Fr.le (Le.put hp)).trans (F3.trans (F4.trans F5))))
  · have h5 : (decide (4 < v) && decide ((0 : Int) < (deep : Int))) = false := by
      rw [← Bool.not_eq_true, Bool.and_eq_true, decide_eq_true_eq, decide_eq_true_eq]
      omega
    have h6 : ∀ {A B : Prop}, (if decide (4 < v) = true then (if decide ((0 : Int) < (deep : Int)) = true then A else B) else B) = B := fun {A B} => by
      by_cases z : 4 < v
      · rw [if_pos (decide_eq_true z), if_neg (by rw [decide_eq_true_eq]; omega)]
      · rw [if_neg (by rw [decide_eq_true_eq]; omega)]
    walk_at "wx"
    rw [h6]
    by_cases h3 : v < 3
    · rw [decide_eq_true h3]
      walk_at "wx"
      intro p hp
      obtain ⟨m, hm, m0, m1⟩ := num_at v0 h3
      simp only [ix_l, put_same, onL_lst, hm]
      walk_at "wx"
      refine taken_ok (R1.le (Le.put hp)) m0 (by omega) fun u S2 u0 u1 R3 F3 => ?_
      exact q (.num u) S2 (by cases deep <;> simp only [Rk.isR, decide_eq_true u0, decide_eq_true (show u < 1000 by omega), Bool.and_self]) R3 (F1.trans ((Fr.le (Le.put hp)).trans F3))
    · rw [decide_eq_false h3]
      walk_at "wx"
      refine taken_ok R1 hs (by omega) fun u S2 u0 u1 R3 F3 => ?_
      exact q (.slot u) S2 (by cases deep <;> simp only [Rk.isR, decide_eq_true u0, decide_eq_true u1, Bool.and_self]) R3 (F1.trans F3)
def sp_law_numbers : WSp := fun ws S Q => ∃ (row : Addr) (ns : List Int) (m : Nat), ws = [.ref row, .int m] ∧ m ≤ 1000 ∧ RowAt S row ns ∧ ∀ (l : List Int) S', l.length = m → (∀ i ∈ l, InR i) → RowAt S' row ns → Fr row S S' → Q (.tup (l.map .int)) S'
end WL
namespace WL
open PySem L2
section
variable {S : Sto} {Q : WQ} {ws : List W} {a : Addr} {i : Int} {b : Bool} {s : Str}
theorem it_t : rIsiW [.tup ws, .ty "tuple"] S Q = Q (.bl true) S := rfl
theorem it_i : rIsiW [.int i, .ty "tuple"] S Q = Q (.bl false) S := rfl
theorem it_s : rIsiW [.str s, .ty "tuple"] S Q = Q (.bl false) S := rfl
theorem it_n : rIsiW [.non, .ty "tuple"] S Q = Q (.bl false) S := rfl
theorem it_b : rIsiW [.bl b, .ty "tuple"] S Q = Q (.bl false) S := rfl
theorem il_t : rIsiW [.tup ws, .ty "list"] S Q = Q (.bl false) S := rfl
theorem il_i : rIsiW [.int i, .ty "list"] S Q = Q (.bl false) S := rfl
theorem il_s : rIsiW [.str s, .ty "list"] S Q = Q (.bl false) S := rfl
theorem il_n : rIsiW [.non, .ty "list"] S Q = Q (.bl false) S := rfl
theorem il_b : rIsiW [.bl b, .ty "list"] S Q = Q (.bl false) S := rfl
theorem il_l (h : S a = some (.lst ws)) : rIsiW [.ref a, .ty "list"] S Q = Q (.bl true) S := by simp only [rIsiW, tyW, h]; rfl
theorem itl_t : rIsiW [.tup ws, .tup [.ty "tuple", .ty "list"]] S Q = Q (.bl true) S := rfl
theorem ib_i : rIsiW [.int i, .ty "bool"] S Q = Q (.bl false) S := rfl
theorem ib_s : rIsiW [.str s, .ty "bool"] S Q = Q (.bl false) S := rfl
theorem ib_b : rIsiW [.bl b, .ty "bool"] S Q = Q (.bl true) S := rfl
theorem is_i : rIsiW [.int i, .ty "str"] S Q = Q (.bl false) S := rfl
theorem is_s : rIsiW [.str s, .ty "str"] S Q = Q (.bl true) S := rfl
theorem ii_i : rIsiW [.int i, .ty "int"] S Q = Q (.bl true) S := rfl
end
end WL
local macro_rules | `(tactic| walk_at "wx") => `(tactic| simp only [↓WL.x_var0, ↓WL.x_varS, ↓WL.x_c, ↓WL.x_op, ↓WL.x_b, ↓WL.x_chain, ↓WL.x_and, ↓WL.x_or, ↓WL.x_not, ↓WL.x_andV, ↓WL.x_orV, ↓WL.x_notV, ↓WL.x_if, ↓WL.x_orT, ↓WL.x_tr, ↓WL.x_neg, ↓WL.x_nil, ↓WL.x_cons, ↓WL.x_tup, ↓WL.x_lst, ↓WL.x_call, ↓WL.x_lm, ↓WL.x_lm0, ↓WL.x_seq, ↓WL.x_next, ↓WL.x_ifS, ↓WL.x_ret, ↓WL.x_retN, ↓WL.x_drop, ↓WL.x_asg, ↓WL.x_gname, ↓WL.x_gtup, ↓WL.x_gcons, ↓WL.x_gnil, ↓WL.x_gsub, ↓WL.x_set, ↓WL.x_for, ↓WL.x_forR1, ↓WL.x_lc, ↓WL.x_lcR, ↓WL.x_fld, ↓WL.x_setF, ↓WL.x_meth, ↓WL.x_make, ↓WL.x_sl, ↓WL.x_part, ↓WL.x_noPart, ↓WL.x_yes, WL.onB_bl, WL.onS_some, WL.onL_lst, WL.onQ_some, WL.onI_ins, WL.onD_dk, WL.onR_ref, WL.onT_tup, WL.onBo_some, WL.x_app, WL.x_clr, WL.x_ext, WL.v_add, WL.v_addT, WL.v_addS, WL.v_addL, WL.v_sub, WL.v_mul, WL.v_rep, WL.v_mod, WL.v_div, WL.v_pow, WL.v_lt, WL.v_le, WL.v_gt, WL.v_ge, WL.v_isN, WL.v_notN, WL.n_non, WL.n_bl, WL.n_int, WL.n_str, WL.n_ref, WL.n_tup, WL.q_ss, WL.q_ii, WL.q_bb, WL.q_nn, WL.q_is, WL.q_si, WL.q_in, WL.q_ni, WL.q_sn, WL.q_ns, WL.d_ss, WL.d_ii, WL.d_bb, WL.d_nn, WL.d_in, WL.d_ni, WL.ix_t, WL.ix_r, WL.ix_l, WL.in_t, WL.notin_t, WL.fl_s, WL.fl_i, WL.fl_n, WL.so_t, WL.so_r, WL.so_lp, WL.len_t, WL.len_r, WL.len_s, WL.int_i, WL.int_b, WL.list_x, WL.tuple_x, WL.min_ii, WL.max_ii, WL.sl_t, WL.sl_l, WL.look_nil, WL.look_cons, WL.putW_nil, WL.putW_cons, WL.x_inKd, WL.x_notinKd, WL.x_getKd, WL.x_dget, WL.key_s, WL.key_i, WL.val_nil, WL.val_cons, WL.inr_eq, WL.start1, WL.line_lt, WL.atI0, WL.atI1, WL.atI2, WL.atI3, WL.atI4, List.map_cons, List.map_nil, List.cons_append, List.nil_append, List.set_cons_zero, List.set_cons_succ, List.length_cons, List.length_nil, List.all_cons, List.all_nil, List.replicate_succ, List.replicate_zero, Nat.reduceAdd, Nat.reduceSub, Nat.zero_add, WL.wd_inj, Nat.reduceLT, Nat.reduceEqDiff, decide_true, decide_false, Bool.false_eq_true, Bool.true_eq_false, Bool.not_true, Bool.not_false, Bool.or_false, Bool.false_or, Bool.or_true, Bool.true_or, Bool.and_self, Bool.and_true, Bool.true_and, ↓reduceIte, reduceCtorEq, WL.line_le, Nat.reduceLeDiff, true_and, and_true, and_self, Option.isSome_some, Option.isSome_none, Int.reduceLT, Int.reduceLE, Int.reduceEq, Int.reduceNeg, WL.put_same, WL.ci0, WL.ci1, WL.ci2, WL.ci3, WL.ci4, WL.ci5, WL.ci6, WL.W_PAIRS, WL.startW, WL.it_t, WL.it_i, WL.it_s, WL.it_n, WL.it_b, WL.il_t, WL.il_i, WL.il_s, WL.il_n, WL.il_b, WL.itl_t, WL.ib_i, WL.ib_s, WL.ib_b, WL.is_i, WL.is_s, WL.ii_i])
local macro_rules | `(tactic| walk_at "ws") => `(tactic| simp only [↓WL.x_var0, ↓WL.x_varS, ↓WL.x_c, ↓WL.x_op, ↓WL.x_b, ↓WL.x_chain, ↓WL.x_and, ↓WL.x_or, ↓WL.x_not, ↓WL.x_andV, ↓WL.x_orV, ↓WL.x_notV, ↓WL.x_if, ↓WL.x_orT, ↓WL.x_tr, ↓WL.x_neg, ↓WL.x_nil, ↓WL.x_cons, ↓WL.x_tup, ↓WL.x_lst, ↓WL.x_call, ↓WL.x_lm, ↓WL.x_lm0, ↓WL.x_seq, ↓WL.x_next, ↓WL.x_ifS, ↓WL.x_ret, ↓WL.x_retN, ↓WL.x_drop, ↓WL.x_asg, ↓WL.x_gname, ↓WL.x_gtup, ↓WL.x_gcons, ↓WL.x_gnil, ↓WL.x_gsub, ↓WL.x_set, ↓WL.x_for, ↓WL.x_forR1, ↓WL.x_lc, ↓WL.x_lcR, ↓WL.x_fld, ↓WL.x_setF, ↓WL.x_meth, ↓WL.x_make, ↓WL.x_sl, ↓WL.x_part, ↓WL.x_noPart, ↓WL.x_yes, WL.onB_bl, WL.onS_some, WL.onL_lst, WL.onQ_some, WL.onI_ins, WL.onD_dk, WL.onR_ref, WL.onT_tup, WL.onBo_some, WL.x_app, WL.x_clr, WL.x_ext, WL.v_add, WL.v_addT, WL.v_addS, WL.v_addL, WL.v_sub, WL.v_mul, WL.v_rep, WL.v_mod, WL.v_div, WL.v_pow, WL.v_lt, WL.v_le, WL.v_gt, WL.v_ge, WL.v_isN, WL.v_notN, WL.n_non, WL.n_bl, WL.n_int, WL.n_str, WL.n_ref, WL.n_tup, WL.q_ss, WL.q_ii, WL.q_bb, WL.q_nn, WL.q_is, WL.q_si, WL.q_in, WL.q_ni, WL.q_sn, WL.q_ns, WL.d_ss, WL.d_ii, WL.d_bb, WL.d_nn, WL.d_in, WL.d_ni, WL.ix_t, WL.ix_r, WL.ix_l, WL.in_t, WL.notin_t, WL.fl_s, WL.fl_i, WL.fl_n, WL.so_t, WL.so_r, WL.so_lp, WL.len_t, WL.len_r, WL.len_s, WL.int_i, WL.int_b, WL.list_x, WL.tuple_x, WL.min_ii, WL.max_ii, WL.sl_t, WL.sl_l, WL.look_nil, WL.look_cons, WL.putW_nil, WL.putW_cons, WL.x_inKd, WL.x_notinKd, WL.x_getKd, WL.x_dget, WL.key_s, WL.key_i, WL.val_nil, WL.val_cons, WL.inr_eq, WL.start1, WL.line_lt, WL.atI0, WL.atI1, WL.atI2, WL.atI3, WL.atI4, List.map_cons, List.map_nil, List.cons_append, List.nil_append, List.set_cons_zero, List.set_cons_succ, List.length_cons, List.length_nil, List.all_cons, List.all_nil, List.replicate_succ, List.replicate_zero, Nat.reduceAdd, Nat.reduceSub, Nat.zero_add, WL.wd_inj, Nat.reduceLT, Nat.reduceEqDiff, decide_true, decide_false, Bool.false_eq_true, Bool.true_eq_false, Bool.not_true, Bool.not_false, Bool.or_false, Bool.false_or, Bool.or_true, Bool.true_or, Bool.and_self, Bool.and_true, Bool.true_and, ↓reduceIte, reduceCtorEq, WL.line_le, Nat.reduceLeDiff, true_and, and_true, and_self, Option.isSome_some, Option.isSome_none, Int.reduceLT, Int.reduceLE, Int.reduceEq, Int.reduceNeg, WL.put_same, WL.ci0, WL.ci1, WL.ci2, WL.ci3, WL.ci4, WL.ci5, WL.ci6, WL.W_PAIRS, WL.startW, *, WL.it_t, WL.it_i, WL.it_s, WL.it_n, WL.it_b, WL.il_t, WL.il_i, WL.il_s, WL.il_n, WL.il_b, WL.itl_t, WL.ib_i, WL.ib_s, WL.ib_b, WL.is_i, WL.is_s, WL.ii_i])
namespace WL
open PySem L2
/-- plain data of a depth -/
inductive Plain : Nat → W → Prop
  | non {n : Nat} : Plain n .non
  | int {n : Nat} (i : Int) : Plain n (.int i)
  | str {n : Nat} (s : Str) : Plain n (.str s)
  | tup {n : Nat} {ws : List W} : ws.length ≤ 1000000 → (∀ w ∈ ws, Plain n w) → Plain (n + 1) (.tup ws)
def sp_law_alike (N : Nat) : WSp := fun ws S Q => ∃ n, n < N ∧ ((∃ w, ws = [w, w] ∧ Plain n w) ∨ (∃ (a b : Addr) (xs : List W) (m : Nat), ws = [.ref a, .ref b] ∧ S a = some (.lst xs) ∧ S b = some (.lst xs) ∧ xs.length ≤ 1000000 ∧ n = m + 1 ∧ ∀ x ∈ xs, Plain m x)) ∧ ∀ S', Le S S' → Q (.bl true) S'
end WL
namespace WL
open PySem L2
/-! ### steps without gifts -/
inductive Easy (slots : Int) : Step → Prop
  | set {k : Nat} {e : Rk} : (k : Int) < slots → e.isR slots 3 = true → Easy slots (.set (some (k : Int)) e)
  | say {e : Rk} : e.isR slots 3 = true → Easy slots (.say e)
  | fault {e : Rk} : e.isR slots 3 = true → Easy slots (.fault e)
  | ends {e : Rk} : e.isR slots 3 = true → Easy slots (.ends e)
def sp_law_steps : WSp := fun ws S Q => ∃ (row : Addr) (ns : List Int) (slots : Int), ws = [.ref row, .int slots] ∧ 0 < slots ∧ slots ≤ 1000 ∧ RowAt S row ns ∧ ∀ (b : List Step) S', b.length ≤ 40 → (∀ s ∈ b, Easy slots s) → RowAt S' row ns → Fr row S S' → Q (.tup (Steps.W b)) S'
theorem Fr.ne {S S' : Sto} {row p : Addr} {o : MO} (f : Fr row S S') (h : S p = some o) (n : p ≠ row) : S' p = some o := f p o n h
end WL
namespace WL
open PySem L2
def goneW (sl words : List Int) : List Step → List Int × Way
  | [] => (words, .ends 0)
  | .set k e :: r => match reck sl e with
    | none => (words, .fault 0)
    | some v => goneW (sl.set (k.getD 0).toNat v) words r
  | .say e :: r => match reck sl e with
    | none => (words, .fault 0)
    | some v => goneW sl (words ++ [v]) r
  | .fault e :: _ => match reck sl e with
    | none => (words, .fault 0)
    | some v => (words, .fault v)
  | .ends e :: _ => match reck sl e with
    | none => (words, .fault 0)
    | some v => (words, .ends v)
  | _ :: r => goneW sl words r
theorem easy_e {slots : Int} {e : Rk} (h : e.isR slots 3 = true) {m : Nat} (hm : (m : Int) = slots) : e.ok m ∧ e.deep < 4 := by
  have : ∀ (e : Rk) (d : Nat), e.isR slots d = true → e.ok m ∧ e.deep ≤ d := by
    intro e
    induction e with
    | num n => intro d h; cases d <;> (simp [Rk.isR] at h; exact ⟨⟨h.1, h.2⟩, Nat.zero_le _⟩)
    | slot k => intro d h; cases d <;> (simp [Rk.isR] at h; exact ⟨⟨h.1, by omega⟩, Nat.zero_le _⟩)
    | op o a b iha ihb =>
      intro d h
      cases d with
      | zero => simp [Rk.isR] at h
      | succ d =>
        simp only [Rk.isR, Bool.and_eq_true] at h
        obtain ⟨a1, a2⟩ := iha d h.1
        obtain ⟨b1, b2⟩ := ihb d h.2
        exact ⟨⟨a1, b1⟩, by simp only [Rk.deep]; omega⟩
  obtain ⟨h1, h2⟩ := this e 3 h
  exact ⟨h1, by omega⟩
def sp_law_gone : WSp := fun ws S Q => ∃ (b : List Step) (a : Addr) (sl : List Int), ws = [.tup (Steps.W b), .ref a] ∧ S a = some (slotsM sl) ∧ (∀ i ∈ sl, InR i) ∧ (∀ s ∈ b, Easy sl.length s) ∧ b.length ≤ 1000 ∧ ∀ S', Fr a S S' → Q (.tup [.tup ((goneW sl [] b).1.map .int), (goneW sl [] b).2.W]) S'
end WL
namespace WL
open PySem L2
def easyC : Step → C
  | .set k e => .set (k.getD 0).toNat e
  | .say e => .say e
  | .fault e => .fault e
  | .ends e => .ends e
  | _ => .leave
theorem easy_clo {slots : Int} {p : List Work} : ∀ {b : List Step}, (∀ s ∈ b, Easy slots s) → CloB p b (b.map easyC)
  | [], _ => .nil
  | s :: b, h => by
    refine .cons ?_ (easy_clo fun t ht => h t (List.mem_cons_of_mem _ ht))
    cases h s List.mem_cons_self with
    | set _ _ => exact .set _ _
    | say _ => exact .say _
    | fault _ => exact .fault _
    | ends _ => exact .ends _
theorem easy_ok {m : Nat} : ∀ {b : List Step}, (∀ s ∈ b, Easy (m : Int) s) → Cs.ok m (b.map easyC) ∧ Cs.dep (b.map easyC) = 0 ∧ Cs.cost (b.map easyC) ≤ b.length
  | [], _ => ⟨trivial, rfl, Nat.le_refl _⟩
  | s :: b, h => by
    obtain ⟨h1, h2, h3⟩ := easy_ok (b := b) fun t ht => h t (List.mem_cons_of_mem _ ht)
    simp only [List.map_cons, Cs.ok, Cs.dep, Cs.cost, List.length_cons, h2]
    cases h s List.mem_cons_self with
    | @set k e hk he => exact ⟨⟨⟨by simpa using hk, easy_e he rfl⟩, h1⟩, by simp [easyC, C.dep], by simp [easyC, C.cost]; omega⟩
    | say he => exact ⟨⟨easy_e he rfl, h1⟩, by simp [easyC, C.dep], by simp [easyC, C.cost]; omega⟩
    | fault he => exact ⟨⟨easy_e he rfl, h1⟩, by simp [easyC, C.dep], by simp [easyC, C.cost]; omega⟩
    | ends he => exact ⟨⟨easy_e he rfl, h1⟩, by simp [easyC, C.dep], by simp [easyC, C.cost]; omega⟩
theorem easy_run {slots : Int} : ∀ {b : List Step} {sl : List Int} {T : Tk}, (∀ s ∈ b, Easy slots s) → ∃ sl' w, Cs.run (b.map easyC) (sl, T) = (w, (sl', ⟨T.deeds, T.told, (goneW sl T.said b).1⟩)) ∧ w.getD (.ends 0) = (goneW sl T.said b).2
  | [], sl, T, _ => ⟨sl, none, rfl, rfl⟩
  | s :: b, sl, T, h => by
    have hb : ∀ t ∈ b, Easy slots t := fun t ht => h t (List.mem_cons_of_mem _ ht)
    simp only [List.map_cons, Cs.run]
    cases h s List.mem_cons_self with
    | @set k e hk he =>
      simp only [easyC, C.run, goneW]
      cases q : reck sl e with
      | none => exact ⟨_, _, rfl, rfl⟩
      | some v => exact easy_run (T := T) hb
    | @say e he =>
      simp only [easyC, C.run, goneW]
      cases q : reck sl e with
      | none => exact ⟨_, _, rfl, rfl⟩
      | some v => exact easy_run (T := T.say v) hb
    | @fault e he =>
      simp only [easyC, C.run, goneW]
      cases q : reck sl e with
      | none => exact ⟨_, _, rfl, rfl⟩
      | some v => exact ⟨_, _, rfl, rfl⟩
    | @ends e he =>
      simp only [easyC, C.run, goneW]
      cases q : reck sl e with
      | none => exact ⟨_, _, rfl, rfl⟩
      | some v => exact ⟨_, _, rfl, rfl⟩
theorem gone_way {slots : Int} : ∀ {b : List Step} {sl words : List Int}, (∀ s ∈ b, Easy slots s) → ((∃ v, (goneW sl words b).2 = .fault v) ∨ ∃ v, (goneW sl words b).2 = .ends v) ∧ (goneW sl words b).1.length ≤ words.length + b.length
  | [], sl, words, _ => ⟨.inr ⟨0, rfl⟩, Nat.le_refl _⟩
  | s :: b, sl, words, h => by
    have hb : ∀ t ∈ b, Easy slots t := fun t ht => h t (List.mem_cons_of_mem _ ht)
    rw [List.length_cons]
    cases h s List.mem_cons_self with
    | @set k e hk he =>
      simp only [goneW]
      cases q : reck sl e with
      | none => exact ⟨.inl ⟨0, rfl⟩, by simp only; omega⟩
      | some v =>
        have z := gone_way (sl := sl.set k v) (words := words) hb
        exact ⟨z.1, Nat.le_trans z.2 (by omega)⟩
    | @say e he =>
      simp only [goneW]
      cases q : reck sl e with
      | none => exact ⟨.inl ⟨0, rfl⟩, by simp only; omega⟩
      | some v =>
        have z := gone_way (sl := sl) (words := words ++ [v]) hb
        exact ⟨z.1, Nat.le_trans z.2 (by rw [List.length_append]; simp only [List.length_cons, List.length_nil]; omega)⟩
    | @fault e he =>
      simp only [goneW]
      cases q : reck sl e with
      | none => exact ⟨.inl ⟨0, rfl⟩, by simp only; omega⟩
      | some v => exact ⟨.inl ⟨v, rfl⟩, by simp only; omega⟩
    | @ends e he =>
      simp only [goneW]
      cases q : reck sl e with
      | none => exact ⟨.inl ⟨0, rfl⟩, by simp only; omega⟩
      | some v => exact ⟨.inr ⟨v, rfl⟩, by simp only; omega⟩
theorem easy_played {slots : Int} {b : List Step} {ns : List Int} {ex : Nat} {i : Int} {r : List Deed} (h : ∀ s ∈ b, Easy slots s) :
    playedM (b.map easyC) ns ex (.ask i :: r) = ((goneW (ns ++ List.replicate ex 0) [] b).1, (goneW (ns ++ List.replicate ex 0) [] b).2.out) :: r.map untouched := by
  obtain ⟨sl', w, e, hw⟩ := easy_run (sl := ns ++ List.replicate ex 0) (T := ⟨.ask i :: r, [], []⟩) h
  unfold playedM
  simp only
  rw [e]
  simp only
  rw [hw]
  obtain ⟨v, hv⟩ | ⟨v, hv⟩ := (gone_way (sl := ns ++ List.replicate ex 0) (words := []) h).1
  · rw [hv]; rfl
  · rw [hv]; rfl
theorem easy_all {slots : Int} : ∀ {b : List Step}, (∀ s ∈ b, Easy slots s) → Steps.all b = b ∧ Steps.dep b = 0 ∧ Steps.fit b ∧ ∀ p : List Work, slotsOf p 0 = slots → Steps.isB p 0 false 0 b = true
  | [], _ => ⟨by simp [Steps.all], by simp [Steps.dep], trivial, fun p _ => by simp [Steps.isB]⟩
  | s :: b, h => by
    obtain ⟨h1, h2, h3, h4⟩ := easy_all (b := b) fun t ht => h t (List.mem_cons_of_mem _ ht)
    simp only [Steps.all, Steps.dep, Steps.fit, Steps.isB, h1, h2]
    cases h s List.mem_cons_self with
    | @set k e hk he => exact ⟨by simp [Step.all], by simp [Step.dep], ⟨trivial, h3⟩, fun p hp => by rw [h4 p hp]; simp [Step.isS, areParts, isK, hp, he, hk]⟩
    | say he => exact ⟨by simp [Step.all], by simp [Step.dep], ⟨trivial, h3⟩, fun p hp => by rw [h4 p hp]; simp [Step.isS, areParts, hp, he]⟩
    | fault he => exact ⟨by simp [Step.all], by simp [Step.dep], ⟨trivial, h3⟩, fun p hp => by rw [h4 p hp]; simp [Step.isS, areParts, hp, he]⟩
    | ends he => exact ⟨by simp [Step.all], by simp [Step.dep], ⟨trivial, h3⟩, fun p hp => by rw [h4 p hp]; simp [Step.isS, areParts, hp, he]⟩
theorem easy_playable {m k : Nat} {b : List Step} {ns : List Int} {ds : List Deed} (h : ∀ s ∈ b, Easy (m : Int) s) (hb : b.length ≤ 40) (hm : 1 ≤ m) (hm4 : m ≤ 4) (hk : k ≤ 2) (hkm : k ≤ m) (hn : ns.length = k) (hin : ∀ i ∈ ns, InR i) (hd : ∀ d ∈ ds, d.ok) (hdl : ds.length ≤ 1000) :
    Playable [⟨(k : Int), (m : Int), b⟩] 0 ns ds (b.map easyC) (m - k) 1 1 := by
  obtain ⟨a1, a2, a3, a4⟩ := easy_all h
  obtain ⟨o1, o2, o3⟩ := easy_ok h
  refine ⟨⟨by simp, by simp, fun number w hw => ?_⟩, ⟨_, rfl, by simp only; omega, by simp only; omega, by simp only; omega, easy_clo h⟩, by omega, by rw [show ns.length + (m - k) = m by omega]; exact o1, by omega, hin, hd, by omega, hdl, by omega⟩
  have e0 : number = 0 := by
    have := (List.getElem?_eq_some_iff.mp hw).1
    simp at this; exact this
  subst e0
  have ew : w = ⟨(k : Int), (m : Int), b⟩ := by simpa using hw.symm
  subst ew
  refine ⟨?_, ⟨by simp only; omega, a3, by simp only [a1]; omega⟩⟩
  unfold Work.ok
  simp only [a1, a4 _ (show slotsOf [⟨(k : Int), (m : Int), b⟩] 0 = (m : Int) from rfl)]
  simp
  omega
end WL
namespace WL
open PySem L2
mutual
theorem dW_refl : ∀ w : W, PyData.eqv (dW w) (dW w) = true
  | .non => by simp [dW, PyData.eqv]
  | .bl b => by simp [dW, PyData.eqv]
  | .int i => by simp [dW, PyData.eqv]
  | .str s => by simp [dW, PyData.eqv]
  | .tup ws => by rw [dW, PyData.eqv]; exact dWs_refl ws
  | .rl _ => by simp [dW, PyData.eqv]
  | .ref _ => by simp [dW, PyData.eqv]
  | .ty _ => by simp [dW, PyData.eqv]
theorem dWs_refl : ∀ ws : List W, PyData.eqvAll (dWs ws) (dWs ws) = true
  | [] => by simp [dWs, PyData.eqvAll]
  | w :: ws => by rw [dWs, PyData.eqvAll, dW_refl w, dWs_refl ws]; rfl
end
theorem ne_boxes {S : Sto} {Q : WQ} {a b x y x' y' : Addr} {us vs : List W} (ha : S a = some (.lst [.ref x, .ref y])) (hb : S b = some (.lst [.ref x', .ref y'])) (hx : S x = some (.lst us)) (hx' : S x' = some (.lst us)) (hy : S y = some (.lst vs)) (hy' : S y' = some (.lst vs))
    (ou : okWs 50 us = true) (ov : okWs 50 vs = true) (q : Q (.bl false) S) : rNeW (.ref a) (.ref b) S Q := by
  obtain ⟨h1, h2, h3⟩ := okWs_dat (S := S) ou
  obtain ⟨g1, g2, g3⟩ := okWs_dat (S := S) ov
  have sh : SeqAt.shaped (.list [.list (dWs us), .list (dWs vs)]) = true := by
    unfold SeqAt.shaped
    simp only [PyData.canLay0, PyData.canLayAll0, h2, g2, PyData.depth, PyData.depthAll]
    simp; omega
  refine ne_dat (d := .list [.list (dWs us), .list (dWs vs)]) (e := .list [.list (dWs us), .list (dWs vs)]) (.lst ha (.cons (.lst hx h1) (.cons (.lst hy g1) .nil))) (.lst hb (.cons (.lst hx' h1) (.cons (.lst hy' g1) .nil))) sh sh rfl ?_
  have e : PyData.eqv (.list [.list (dWs us), .list (dWs vs)]) (.list [.list (dWs us), .list (dWs vs)]) = true := by
    simp only [PyData.eqv, PyData.eqvAll, dWs_refl, Bool.and_self]
  rw [e]
  exact q
/-! ### what the law holds in its hands -/
structure Box (S : Sto) (row : Addr) (ns : List Int) (pg p2 p3 ph pd : Addr) (w : W) (ds : List Deed) (dues : List Told) : Prop where
  R : RowAt S row ns
  hpg : S pg = some (.lst [w])
  hp2 : S p2 = some (.lst [w])
  hp3 : S p3 = some (deedsM ds)
  hph : S ph = some (.lst [.ref p2, .ref p3])
  hpd : S pd = some (.lst (dues.map toldW))
  n1 : pg ≠ row
  n2 : p2 ≠ row
  n3 : p3 ≠ row
  n4 : ph ≠ row
  n5 : pd ≠ row
  m1 : p3 ≠ pg
  m2 : p3 ≠ p2
  m3 : p3 ≠ ph
  m4 : p3 ≠ pd
  m5 : pd ≠ pg
  m6 : pd ≠ p2
  m7 : pd ≠ ph
section
variable {S S' : Sto} {row : Addr} {ns : List Int} {pg p2 p3 ph pd : Addr} {w : W} {ds : List Deed} {dues : List Told}
theorem Box.fr (B : Box S row ns pg p2 p3 ph pd w ds dues) (R : RowAt S' row ns) (F : Fr row S S') : Box S' row ns pg p2 p3 ph pd w ds dues :=
  ⟨R, F _ _ B.n1 B.hpg, F _ _ B.n2 B.hp2, F _ _ B.n3 B.hp3, F _ _ B.n4 B.hph, F _ _ B.n5 B.hpd, B.n1, B.n2, B.n3, B.n4, B.n5, B.m1, B.m2, B.m3, B.m4, B.m5, B.m6, B.m7⟩
theorem Box.le (B : Box S row ns pg p2 p3 ph pd w ds dues) (l : Le S S') : Box S' row ns pg p2 p3 ph pd w ds dues := B.fr (B.R.le l) (Fr.le l)
theorem Box.off (B : Box S row ns pg p2 p3 ph pd w ds dues) {a : Addr} {o : MO} (h : ∀ x u, S x = some u → x ≠ a) : Box (put S a o) row ns pg p2 p3 ph pd w ds dues := by
  refine B.fr ?_ fun x u _ e => by rw [put_ne (h x u e)]; exact e
  obtain ⟨i, c, d, e, h3⟩ := B.R
  exact ⟨i, c, d, by rw [put_ne (h _ _ e)]; exact e, h3⟩
theorem Box.deed (B : Box S row ns pg p2 p3 ph pd w ds dues) (d : Deed) : Box (put S p3 (.lst (ds.map Deed.W ++ [d.W]))) row ns pg p2 p3 ph pd w (ds ++ [d]) dues := by
  refine ⟨?_, by rw [put_ne (Ne.symm B.m1)]; exact B.hpg, by rw [put_ne (Ne.symm B.m2)]; exact B.hp2, by rw [put_same, deedsM, List.map_append]; rfl, by rw [put_ne (Ne.symm B.m3)]; exact B.hph, by rw [put_ne (Ne.symm B.m4)]; exact B.hpd, B.n1, B.n2, B.n3, B.n4, B.n5, B.m1, B.m2, B.m3, B.m4, B.m5, B.m6, B.m7⟩
  obtain ⟨i, c, d, e, h3⟩ := B.R
  exact ⟨i, c, d, by rw [put_ne (Ne.symm B.n3)]; exact e, h3⟩
theorem Box.due (B : Box S row ns pg p2 p3 ph pd w ds dues) (t : Told) : Box (put S pd (.lst (dues.map toldW ++ [toldW t]))) row ns pg p2 p3 ph pd w ds (dues ++ [t]) := by
  refine ⟨?_, by rw [put_ne (Ne.symm B.m5)]; exact B.hpg, by rw [put_ne (Ne.symm B.m6)]; exact B.hp2, by rw [put_ne B.m4]; exact B.hp3, by rw [put_ne (Ne.symm B.m7)]; exact B.hph, by rw [put_same, List.map_append]; rfl, B.n1, B.n2, B.n3, B.n4, B.n5, B.m1, B.m2, B.m3, B.m4, B.m5, B.m6, B.m7⟩
  obtain ⟨i, c, d, e, h3⟩ := B.R
  exact ⟨i, c, d, by rw [put_ne (Ne.symm B.n5)]; exact e, h3⟩
end
theorem deed_at {n v : Int} (h0 : 0 ≤ v) (h : v < 3) (hn : InR n) : ∃ d : Deed, atI [W.tup [.str w_ask, .int n], .tup [.str w_throw, .int n], .tup [.str w_shut]] v = some d.W ∧ d.ok ∧ atI [W.tup [.str w_over], .tup [.str w_fault, .int n], .tup [.str w_shut]] v = some (untouched d).2.W ∧ (untouched d).1 = [] := by
  obtain rfl | rfl | rfl : v = 0 ∨ v = 1 ∨ v = 2 := by omega
  · exact ⟨.ask n, rfl, hn, rfl, rfl⟩
  · exact ⟨.throw n, rfl, hn, rfl, rfl⟩
  · exact ⟨.shut, rfl, trivial, rfl, rfl⟩
theorem more_loop {spl spn spg spp spa : WSp} {row pg p2 p3 ph pd : Addr} {ns : List Int} {w : W} {D : WD} {x0 x2 x3 x4 x5 x6 x13 x14 : Option W} {d0 : Deed} {t0 : Told}
    (q : ∀ (S' : Sto) (r : List Deed) (x10 x11 x12 : Option W), Box S' row ns pg p2 p3 ph pd w (d0 :: r) (t0 :: r.map untouched) → r.length ≤ 100 → (∀ d ∈ r, d.ok) → D.nx [x0, some (.ref row), x2, x3, x4, x5, x6, some (.ref pg), some (.ref ph), some (.ref pd), x10, x11, x12, x13, x14] S') :
    ∀ (xs : List W) (r : List Deed) (S : Sto) (x10 x11 x12 : Option W), r.length + xs.length ≤ 100 → (∀ d ∈ r, d.ok) → Box S row ns pg p2 p3 ph pd w (d0 :: r) (t0 :: r.map untouched) →
    forW (fun _ => True) (gNameW 10) (l_law_1 sp_law_taken spl spn spg spp spa) xs D [x0, some (.ref row), x2, x3, x4, x5, x6, some (.ref pg), some (.ref ph), some (.ref pd), x10, x11, x12, x13, x14] S
  | [], r, S, x10, x11, x12, hl, hd, B => by
    simp only [forW]
    exact ⟨trivial, q S r _ _ _ B (by simpa using hl) hd⟩
  | x :: xs, r, S, x10, x11, x12, hl, hd, B => by
    rw [List.length_cons] at hl
    simp only [forW, l_law_1]
    refine ⟨trivial, ?_⟩
    walk_at "wx"
    refine taken_ok B.R (by decide) (by decide) fun n S1 n0 n1 R1 F1 => ?_
    have B1 := B.fr R1 F1
    refine taken_ok R1 (by decide) (by decide) fun v S2 v0 v1 R2 F2 => ?_
    have B2 := B1.fr R2 F2
    obtain ⟨d, hd1, hd2, hd3, hd4⟩ := deed_at v0 v1 ⟨n0, n1⟩
    have hph := B2.hph
    simp only [hph, onL_lst]
    walk_at "wx"
    have hp3 := B2.hp3
    simp only [deedsM] at hp3
    refine ⟨is_lst hp3, fun p hp => ?_⟩
    simp only [ix_l, put_same, onL_lst, hd1, onS_some]
    have np : p3 ≠ p := ne_none hp3 hp
    have B3 := B2.le (Le.put (o := .lst [W.tup [.str w_ask, .int n], .tup [.str w_throw, .int n], .tup [.str w_shut]]) hp)
    simp only [put_ne np, hp3, onL_lst]
    refine ⟨small_len (by simp only [List.length_map, List.length_cons]; omega), ?_⟩
    have B4 := B3.deed d
    simp only [List.cons_append] at B4
    have hpd := B4.hpd
    have hB4 : put (put S2 p (.lst [W.tup [.str w_ask, .int n], .tup [.str w_throw, .int n], .tup [.str w_shut]])) p3 (.lst (List.map Deed.W (d0 :: r) ++ [d.W])) = put (put S2 p (.lst [W.tup [.str w_ask, .int n], .tup [.str w_throw, .int n], .tup [.str w_shut]])) p3 (.lst (List.map Deed.W (d0 :: r) ++ [d.W])) := rfl
    simp only [List.map_cons, List.cons_append] at B4 hpd ⊢
    generalize put (put S2 p (.lst [W.tup [.str w_ask, .int n], .tup [.str w_throw, .int n], .tup [.str w_shut]])) p3 (.lst (d0.W :: (List.map Deed.W r ++ [d.W]))) = S4 at *
    refine ⟨is_lst hpd, fun p' hp' => ?_⟩
    simp only [ix_l, put_same, onL_lst, hd3, onS_some]
    have np' : pd ≠ p' := ne_none hpd hp'
    have B5 := B4.le (Le.put (o := .lst [W.tup [.str w_over], .tup [.str w_fault, .int n], .tup [.str w_shut]]) hp')
    simp only [put_ne np', hpd, onL_lst]
    refine ⟨small_len (by simp only [List.length_map, List.length_cons]; omega), ?_⟩
    have B6 := B5.due (untouched d)
    have e9 : toldW (untouched d) = .tup [.tup [], (untouched d).2.W] := by unfold toldW; rw [hd4]; rfl
    rw [e9] at B6
    simp only [List.map_cons, List.cons_append] at B6
    refine more_loop (spl := spl) (spn := spn) (spg := spg) (spp := spp) (spa := spa) q xs (r ++ [d]) _ _ _ _ (by rw [List.length_append]; simp only [List.length_cons, List.length_nil]; omega) (fun y hy => (List.mem_append.mp hy).elim (hd y) fun hy => by rw [List.mem_singleton.mp hy]; exact hd2) ?_
    rw [List.map_append]
    exact B6
end WL
namespace WL
open PySem L2
theorem numbers_ok {S : Sto} {row : Addr} {ns : List Int} {u : Int} {Q : WQ} (R : RowAt S row ns) (u0 : 0 ≤ u) (hu : u ≤ 1000) (q : ∀ (l : List Int) S', l.length = u.toNat → (∀ i ∈ l, InR i) → RowAt S' row ns → Fr row S S' → Q (.tup (l.map .int)) S') : sp_law_numbers [.ref row, .int u] S Q :=
  ⟨row, ns, u.toNat, by rw [Int.toNat_of_nonneg u0], by omega, R, q⟩
theorem rk_okW : ∀ {e : Rk} {n : Nat}, e.deep ≤ n → okW (n + 1) e.W = true
  | .num k, n, _ => by rw [Rk.W, okW, okWs, okW, wd_ok (by decide)]; simp [okWs, okW]
  | .slot k, n, _ => by rw [Rk.W, okW, okWs, okW, wd_ok (by decide)]; simp [okWs, okW]
  | .op o a b, 0, h => by simp [Rk.deep] at h
  | .op o a b, n + 1, h => by
    simp only [Rk.deep] at h
    have ha := rk_okW (e := a) (n := n) (by omega)
    have hb := rk_okW (e := b) (n := n) (by omega)
    rw [Rk.W, okW, okWs, okWs, okWs, okWs, ha, hb]
    cases o <;> (rw [Op.str, okW, wd_ok (by decide)]; rfl)
theorem easy_okW {slots : Int} {s : Step} (h : Easy slots s) : okW 48 s.W = true := by
  have d : ∀ {e : Rk}, e.isR slots 3 = true → okW 47 e.W = true := fun {e} he => by
    refine rk_okW ?_
    have : ∀ (e : Rk) (d : Nat), e.isR slots d = true → e.deep ≤ d := by
      intro e
      induction e with
      | num n => intro d h; exact Nat.zero_le _
      | slot k => intro d h; exact Nat.zero_le _
      | op o a b iha ihb =>
        intro d h
        cases d with
        | zero => simp [Rk.isR] at h
        | succ d =>
          simp only [Rk.isR, Bool.and_eq_true] at h
          have := iha d h.1
          have := ihb d h.2
          simp only [Rk.deep]; omega
    exact Nat.le_trans (this e 3 he) (by decide)
  cases h with
  | set _ he => rw [Step.W, optI, okW, okWs, okWs, okWs, okWs, d he, okW, okW, wd_ok (by decide)]; rfl
  | say he => rw [Step.W, okW, okWs, okWs, okWs, d he, okW, wd_ok (by decide)]; rfl
  | fault he => rw [Step.W, okW, okWs, okWs, okWs, d he, okW, wd_ok (by decide)]; rfl
  | ends he => rw [Step.W, okW, okWs, okWs, okWs, d he, okW, wd_ok (by decide)]; rfl
theorem work_okW {slots p m : Int} {b : List Step} (h : ∀ s ∈ b, Easy slots s) : okWs 50 [Work.W ⟨p, m, b⟩] = true := by
  have hb : okWs 48 (Steps.W b) = true := by
    rw [Steps.W_map]
    refine okWs_of fun w hw => ?_
    obtain ⟨s, hs, rfl⟩ := List.mem_map.mp hw
    exact easy_okW (h s hs)
  rw [Work.W, okWs, okWs, okW, okWs, okWs, okWs, okWs, okW, okW, okW, hb]
  rfl
theorem told_plain {t : Told} (h : t.1.length ≤ 1000000) : Plain 3 (toldW t) := by
  unfold toldW
  refine .tup (by simp) fun w hw => ?_
  rcases List.mem_cons.mp hw with rfl | hw
  · exact .tup (by rw [List.length_map]; exact h) fun w hw => by obtain ⟨i, _, rfl⟩ := List.mem_map.mp hw; exact .int i
  · rw [List.mem_singleton.mp hw]
    cases t.2 <;> (refine .tup (by simp) fun w hw => ?_; rcases List.mem_cons.mp hw with rfl | hw; exact .str _; first | (rw [List.mem_singleton.mp hw]; exact .int _) | exact absurd hw List.not_mem_nil)
theorem turn_ok {row : Addr} {ns : List Int} {D : WD} {x0 : Option W} (again : ∀ (S : Sto) (x2 x3 x4 x5 x6 x7 x8 x9 x10 x11 x12 x13 x14 : Option W), RowAt S row ns → D.nx [x0, some (.ref row), x2, x3, x4, x5, x6, x7, x8, x9, x10, x11, x12, x13, x14] S) (S : Sto) (x2 x3 x4 x5 x6 x7 x8 x9 x10 x11 x12 x13 x14 : Option W) (R : RowAt S row ns) :
    l_law_2 sp_law_taken sp_law_steps sp_law_numbers sp_law_gone (sp_played 1 1) (sp_law_alike 20) D [x0, some (.ref row), x2, x3, x4, x5, x6, x7, x8, x9, x10, x11, x12, x13, x14] S := by
  unfold l_law_2
  generalize hL : l_law_1 sp_law_taken sp_law_steps sp_law_numbers sp_law_gone (sp_played 1 1) (sp_law_alike 20) = L
  walk_at "wx"
  refine taken_ok R (by decide) (by decide) fun v S1 v0 v1 R1 F1 => ?_
  obtain ⟨m, rfl⟩ : ∃ m : Nat, v = (m : Int) := ⟨v.toNat, by omega⟩
  have e1 : (1 : Int) + (m : Int) = ((1 + m : Nat) : Int) := by omega
  try walk_at "wx"
  simp only [e1]
  refine taken_ok R1 (by split <;> omega) (by split <;> omega) fun u S2 u0 u1 R2 F2 => ?_
  obtain ⟨k, rfl⟩ : ∃ k : Nat, u = (k : Int) := ⟨u.toNat, by omega⟩
  have hk : k ≤ 2 ∧ k ≤ 1 + m := by
    revert u1
    split <;> intro u1 <;> omega
  clear u1
  refine ⟨row, ns, ((1 + m : Nat) : Int), rfl, by omega, by omega, R2, fun b S3 hb he R3 F3 => ?_⟩
  refine numbers_ok R3 u0 (by omega) fun l S4 hl hin R4 F4 => ?_
  rw [Int.toNat_natCast] at hl
  walk_at "wx"
  intro pg hpg p2 hp2
  have n_pg := R4.ne hpg
  have n_pg2 : pg ≠ p2 := ne_none put_same hp2
  have R5 := (R4.le (Le.put (o := .lst [W.tup [.int k, .int ((1 + m : Nat) : Int), .tup (Steps.W b)]]) hpg)).le (Le.put (o := .lst [W.tup [.int k, .int ((1 + m : Nat) : Int), .tup (Steps.W b)]]) hp2)
  have n_p2 : row ≠ p2 := (R4.le (Le.put (o := .lst [W.tup [.int k, .int ((1 + m : Nat) : Int), .tup (Steps.W b)]]) hpg)).ne hp2
  refine taken_ok R5 (by decide) (by decide) fun i S6 i0 i1 R6 F6 => ?_
  have a1 : S6 pg = some (.lst [W.tup [.int k, .int ((1 + m : Nat) : Int), .tup (Steps.W b)]]) := F6 _ _ (Ne.symm n_pg) (by rw [put_ne n_pg2]; exact put_same)
  have a2 : S6 p2 = some (.lst [W.tup [.int k, .int ((1 + m : Nat) : Int), .tup (Steps.W b)]]) := F6 _ _ (Ne.symm n_p2) put_same
  clear F6 R5 hpg hp2 n_pg2
  intro p3 hp3 ph hph p4 hp4 p5 hp5
  have z1 : pg ≠ p3 := ne_none a1 hp3
  have z2 : p2 ≠ p3 := ne_none a2 hp3
  have z3 : row ≠ p3 := R6.ne hp3
  have l1 := Le.put (o := .lst [W.tup [.str w_ask, .int i]]) hp3
  have a3 : put S6 p3 (.lst [W.tup [.str w_ask, .int i]]) p3 = some (.lst [W.tup [.str w_ask, .int i]]) := put_same
  have b1 := l1 _ _ a1
  have b2 := l1 _ _ a2
  have R7 := R6.le l1
  clear a1 a2 R6 l1 hp3
  generalize put S6 p3 (.lst [W.tup [.str w_ask, .int i]]) = S7 at *
  have y3 : p3 ≠ ph := ne_none a3 hph
  have l2 := Le.put (o := .lst [.ref p2, .ref p3]) hph
  have c1 := l2 _ _ b1
  have c2 := l2 _ _ b2
  have c3 := l2 _ _ a3
  have c4 : put S7 ph (.lst [.ref p2, .ref p3]) ph = some (.lst [.ref p2, .ref p3]) := put_same
  have n_ph := R7.ne hph
  have R8 := R7.le l2
  clear b1 b2 a3 l2 R7 hph
  generalize put S7 ph (.lst [.ref p2, .ref p3]) = S8 at *
  have ej : (((1 + m : Nat) : Int) - (k : Int)).toNat = 1 + m - k := by omega
  rw [ej]
  refine ⟨⟨by omega, by omega, Nat.le_of_lt (small_len (by omega))⟩, fun p6 hp6 => ?_⟩
  have e45 : p4 ≠ p5 := ne_none put_same hp5
  have e46 : p4 ≠ p6 := ne_none (by rw [put_ne e45]; exact put_same) hp6
  rw [put_ne e46, put_ne e45, put_same]
  simp only [onL_lst]
  rw [rep_int, List.length_map, List.length_map, List.length_replicate]
  refine ⟨Nat.le_of_lt (small_len (by omega)), fun p7 hp7 => ?_⟩
  rw [← List.map_append]
  have l3 : Le S8 (put (put (put S8 p4 (.lst (l.map .int))) p5 (.lst [.int 0])) p6 (.lst ((List.replicate (1 + m - k) (0 : Int)).map .int))) := ((Le.put hp4).trans (Le.put hp5)).trans (Le.put hp6)
  have f7 : S8 p7 = none := l3.to hp7
  have l4 := l3.trans (Le.put (o := .lst ((l ++ List.replicate (1 + m - k) (0 : Int)).map .int)) hp7)
  have d1 := l4 _ _ c1
  have d2 := l4 _ _ c2
  have d3 := l4 _ _ c3
  have d4 := l4 _ _ c4
  have d7 : put (put (put (put S8 p4 (.lst (l.map .int))) p5 (.lst [.int 0])) p6 (.lst ((List.replicate (1 + m - k) (0 : Int)).map .int))) p7 (.lst ((l ++ List.replicate (1 + m - k) (0 : Int)).map .int)) p7 = some (slotsM (l ++ List.replicate (1 + m - k) (0 : Int))) := put_same
  have R9 := R8.le l4
  have n_p7 := R8.ne f7
  have q1 := ne_none c1 f7
  have q2 := ne_none c2 f7
  have q3 := ne_none c3 f7
  have q4 := ne_none c4 f7
  clear l3 l4 hp7 hp6 hp5 hp4 e45 e46 R8 c1 c2 c3 c4 f7
  generalize put (put (put (put S8 p4 (.lst (l.map .int))) p5 (.lst [.int 0])) p6 (.lst ((List.replicate (1 + m - k) (0 : Int)).map .int))) p7 (.lst ((l ++ List.replicate (1 + m - k) (0 : Int)).map .int)) = S9 at *
  have sll : (l ++ List.replicate (1 + m - k) (0 : Int)).length = 1 + m := by rw [List.length_append, List.length_replicate]; omega
  refine ⟨b, p7, l ++ List.replicate (1 + m - k) 0, rfl, d7, fun x hx => (List.mem_append.mp hx).elim (hin x) fun hx => by rw [(List.mem_replicate.mp hx).2]; exact inR0, fun s hs => by rw [sll]; exact he s hs, by omega, fun S10 F10 => ?_⟩
  intro pd hpd
  have R10 : RowAt S10 row ns := by
    obtain ⟨x, y, z, e, h3⟩ := R9
    exact ⟨x, y, z, F10 _ _ n_p7 e, h3⟩
  have g1 := F10 _ _ q1 d1
  have g2 := F10 _ _ q2 d2
  have g3 := F10 _ _ q3 d3
  have g4 := F10 _ _ q4 d4
  have n_pd := R10.ne hpd
  have t1 := ne_none g1 hpd
  have t2 := ne_none g2 hpd
  have t3 := ne_none g3 hpd
  have t4 := ne_none g4 hpd
  have l5 := Le.put (o := .lst [W.tup [.tup ((goneW (l ++ List.replicate (1 + m - k) 0) [] b).1.map .int), (goneW (l ++ List.replicate (1 + m - k) 0) [] b).2.W]]) hpd
  obtain ⟨gw, gl⟩ := gone_way (sl := l ++ List.replicate (1 + m - k) 0) (words := []) he
  have out : (goneW (l ++ List.replicate (1 + m - k) 0) [] b).2.W = (goneW (l ++ List.replicate (1 + m - k) 0) [] b).2.out.W := by
    obtain ⟨v, hv⟩ | ⟨v, hv⟩ := gw
    · rw [hv]; rfl
    · rw [hv]; rfl
  have B : Box (put S10 pd (.lst [W.tup [.tup ((goneW (l ++ List.replicate (1 + m - k) 0) [] b).1.map .int), (goneW (l ++ List.replicate (1 + m - k) 0) [] b).2.W]])) row ns pg p2 p3 ph pd (Work.W ⟨(k : Int), ((1 + m : Nat) : Int), b⟩) [.ask i] [((goneW (l ++ List.replicate (1 + m - k) 0) [] b).1, (goneW (l ++ List.replicate (1 + m - k) 0) [] b).2.out)] :=
    ⟨R10.le l5, l5 _ _ g1, l5 _ _ g2, l5 _ _ g3, l5 _ _ g4, by rw [put_same, out]; rfl, Ne.symm n_pg, Ne.symm n_p2, Ne.symm z3, Ne.symm n_ph, Ne.symm n_pd, Ne.symm z1, Ne.symm z2, y3, t3, Ne.symm t1, Ne.symm t2, Ne.symm t4⟩
  refine taken_ok B.R (by decide) (by decide) fun v S11 v0 v1 R11 F11 => ?_
  have B11 := B.fr R11 F11
  clear B l5 R10 F10 g1 g2 g3 g4 n_pd t1 t2 t3 t4 d1 d2 d3 d4 d7 R9 n_p7 q1 q2 q3 q4 z1 z2 z3 n_pg n_p2 n_ph y3 hpd
  generalize hdue : ((goneW (l ++ List.replicate (1 + m - k) 0) [] b).1, (goneW (l ++ List.replicate (1 + m - k) 0) [] b).2.out) = t0 at *
  refine ⟨⟨by omega, by omega⟩, ?_⟩
  rw [← hL]
  refine more_loop (fun S12 r x10 x11 x12 B hr hd => ?_) _ [] S11 _ _ _ (by simp only [List.length_nil, List.length_map, List.length_range]; omega) (fun _ h => absurd h List.not_mem_nil) B11
  clear B11 F11 R11 v0 v1
  have PL : Playable [⟨(k : Int), ((1 + m : Nat) : Int), b⟩] 0 l (.ask i :: r) (b.map easyC) (1 + m - k) 1 1 := easy_playable he hb (by omega) (by omega) hk.1 hk.2 hl hin (fun d hd' => (List.mem_cons.mp hd').elim (fun e => by rw [e]; exact ⟨i0, i1⟩) (hd d)) (by rw [List.length_cons]; omega)
  have PM : playedM (b.map easyC) l (1 + m - k) (.ask i :: r) = t0 :: r.map untouched := by rw [easy_played he, hdue]
  have t0l : t0.1.length ≤ 1000000 := by rw [← hdue]; simp only [List.length_nil] at gl; simp only; omega
  have pl : ∀ w ∈ (t0 :: r.map untouched).map toldW, Plain 3 w := fun w hw => by
    obtain ⟨t, ht, rfl⟩ := List.mem_map.mp hw
    rcases List.mem_cons.mp ht with rfl | ht
    · exact told_plain t0l
    · obtain ⟨d, _, rfl⟩ := List.mem_map.mp ht
      exact told_plain (by cases d <;> exact Nat.zero_le _)
  have pll : ((t0 :: r.map untouched).map toldW).length ≤ 1000000 := by simp only [List.length_map, List.length_cons]; omega
  have ow := work_okW (p := (k : Int)) (m := ((1 + m : Nat) : Int)) he
  have od := deeds_okW (.ask i :: r) (n := 48)
  have hph := B.hph
  have hp3 := B.hp3
  simp only [deedsM] at hp3
  walk_at "wx"
  simp only [hph, onL_lst]
  walk_at "wx"
  rw [so_l hp3]
  walk_at "wx"
  intro p13 hp13
  have l13 := Le.put (o := .lst ((Deed.ask i).W :: List.map Deed.W r)) hp13
  have B13 := B.le l13
  have h13 : put S12 p13 (.lst ((Deed.ask i).W :: List.map Deed.W r)) p13 = some (deedsM (.ask i :: r)) := put_same
  clear hph hp3 B l13 hp13
  generalize put S12 p13 (.lst ((Deed.ask i).W :: List.map Deed.W r)) = S13 at *
  have hph := B13.hph
  simp only [hph, onL_lst]
  walk_at "wx"
  refine ⟨p2, p3, [⟨(k : Int), ((1 + m : Nat) : Int), b⟩], 0, l, .ask i :: r, b.map easyC, 1 + m - k, rfl, B13.hp2, B13.hp3, PL, fun S14 qa l14 fq hq => ?_⟩
  rw [PM] at hq
  have B14 := B13.le l14
  have h14 := l14 _ _ h13
  rw [il_l hq]
  walk_at "wx"
  refine ⟨4, by decide, .inr ⟨qa, pd, _, 3, rfl, hq, B14.hpd, pll, rfl, pl⟩, fun S15 l15 => ?_⟩
  have B15 := B14.le l15
  have h15 := l15 _ _ h14
  have hq15 := l15 _ _ hq
  have n_q : ∀ x u, S13 x = some u → x ≠ qa := fun x u h => ne_none h fq
  walk_at "wx"
  intro pn hpn
  have B16 := B15.le (Le.put (o := .lst [.ref pg, .ref p13]) hpn)
  have h16 := Le.put (o := .lst [.ref pg, .ref p13]) hpn _ _ h15
  have hq16 := Le.put (o := .lst [.ref pg, .ref p13]) hpn _ _ hq15
  have np : pn ≠ qa := Ne.symm (ne_none hq15 hpn)
  refine ne_boxes B16.hph put_same B16.hp2 B16.hpg B16.hp3 h16 ow od ?_
  walk_at "wx"
  refine ⟨is_lst hq16, ?_⟩
  simp only [x_clr, hq16, onL_lst]
  have l17 : Le S13 (put (put S15 pn (.lst [.ref pg, .ref p13])) qa (.lst [])) := fun x u e => by
    rw [put_ne (n_q x u e)]
    exact Le.put (o := .lst [.ref pg, .ref p13]) hpn _ _ (l15 _ _ (l14 _ _ e))
  have B17 := B13.le l17
  have h17 := l17 _ _ h13
  refine ⟨pg, p13, [⟨(k : Int), ((1 + m : Nat) : Int), b⟩], 0, l, .ask i :: r, b.map easyC, 1 + m - k, rfl, B17.hpg, h17, PL, fun S18 qb l18 fqb hqb => ?_⟩
  rw [PM] at hqb
  have B18 := B17.le l18
  refine ⟨4, by decide, .inr ⟨qb, pd, _, 3, rfl, hqb, B18.hpd, pll, rfl, pl⟩, fun S19 l19 => ?_⟩
  walk_at "wx"
  exact again S19 _ _ _ _ _ _ _ _ _ _ _ _ _ (B18.R.le l19)
theorem turn_loop {row : Addr} {ns : List Int} {Q : WQ} {x0 : Option W} (q : ∀ S, Q (.bl true) S) : ∀ (xs : List W) (S : Sto) (x2 x3 x4 x5 x6 x7 x8 x9 x10 x11 x12 x13 x14 : Option W), RowAt S row ns →
    forW (fun _ => True) (gNameW 2) (l_law_2 sp_law_taken sp_law_steps sp_law_numbers sp_law_gone (sp_played 1 1) (sp_law_alike 20)) xs { nx := wRet (wC (.bl true)) { nx := fun _ S' => Q .non S', rt := Q }, rt := Q } [x0, some (.ref row), x2, x3, x4, x5, x6, x7, x8, x9, x10, x11, x12, x13, x14] S
  | [], S, x2, x3, x4, x5, x6, x7, x8, x9, x10, x11, x12, x13, x14, R => by
    simp only [forW]
    exact ⟨trivial, q S⟩
  | x :: xs, S, x2, x3, x4, x5, x6, x7, x8, x9, x10, x11, x12, x13, x14, R => by
    simp only [forW]
    exact ⟨trivial, turn_ok (fun S' x2 x3 x4 x5 x6 x7 x8 x9 x10 x11 x12 x13 x14 R' => turn_loop q xs S' x2 x3 x4 x5 x6 x7 x8 x9 x10 x11 x12 x13 x14 R') S _ _ _ _ _ _ _ _ _ _ _ _ _ R⟩
def sp_law : WSp := fun ws S Q => ∃ ns : List Int, ws = [.rl (ns.map .int)] ∧ ∀ S', Q (.bl true) S'
theorem r_law : ∀ ws S Q, Up Q → sp_law ws S Q → t_law sp_law_taken sp_law_steps sp_law_numbers sp_law_gone (sp_played 1 1) (sp_law_alike 20) { nx := fun _ S' => Q .non S', rt := Q } (startW 15 ws) S := by
  rintro ws S Q up ⟨ns, rfl, q⟩
  simp only [t_law]
  walk_at "wx"
  intro row hr
  refine ⟨⟨by decide, by decide⟩, ?_⟩
  exact turn_loop q _ _ _ _ _ _ _ _ _ _ _ _ _ _ _ ⟨0, 0, 0, put_same, by decide, by decide, by decide⟩
end WL
namespace WL
open PySem L2
theorem mo_law_taken  : MonoSp (sp_law_taken) := by
  intro ws S Q Q' h q
  unfold sp_law_taken at q ⊢
  repeat (first | exact h _ _ q | (refine Exists.elim q fun x q => Exists.intro x ?_) | (refine And.intro q.1 ?_; replace q := q.2) | (intro x; replace q := q x) | (refine ⟨fun hh => h _ _ (q.1 hh), ?_⟩; replace q := q.2))
theorem le_law_taken  : ∀ ws S Q, (sp_law_taken) ws S Q → ws.length = 2 := by
  intro ws S Q h
  unfold sp_law_taken at h
  repeat (first | (obtain ⟨rfl, _⟩ := h; rfl) | (obtain ⟨_, h⟩ := h))
theorem mo_law_reckoning {n : Nat} : MonoSp (sp_law_reckoning n) := by
  intro ws S Q Q' h q
  unfold sp_law_reckoning at q ⊢
  repeat (first | exact h _ _ q | (refine Exists.elim q fun x q => Exists.intro x ?_) | (refine And.intro q.1 ?_; replace q := q.2) | (intro x; replace q := q x) | (refine ⟨fun hh => h _ _ (q.1 hh), ?_⟩; replace q := q.2))
theorem le_law_reckoning {n : Nat} : ∀ ws S Q, (sp_law_reckoning n) ws S Q → ws.length = 3 := by
  intro ws S Q h
  unfold sp_law_reckoning at h
  repeat (first | (obtain ⟨rfl, _⟩ := h; rfl) | (obtain ⟨_, h⟩ := h))
theorem le_law  : ∀ ws S Q, (sp_law) ws S Q → ws.length = 1 := by
  intro ws S Q h
  unfold sp_law at h
  repeat (first | (obtain ⟨rfl, _⟩ := h; rfl) | (obtain ⟨_, h⟩ := h))
section
variable {P : Program} {w : World} {K : PySem.W.Frag} {mg : Str → Option Value} {base : Heap}
theorem fn_no {k : Nat} {f : Addr} {fd : FuncData} {ps : List Str} {sp : WSp} (h : ∀ ws S Q, ¬ sp ws S Q) : FnOk P w K mg base CX0 k f fd ps (LowSp K sp) := by
  have no : ∀ vs H Q E, ¬ LowSp K sp vs H Q E := fun vs H Q E ⟨ws, S, _, _, q⟩ => h ws S _ q
  exact ⟨fun vs H Q E h => absurd h (no vs H Q E), fun A outer s H args us vs Q E _ _ _ _ h => absurd h (no vs H Q E)⟩
end
theorem no_law_reckoning : ∀ ws S Q, ¬ sp_law_reckoning 0 ws S Q := fun ws S Q ⟨_, _, _, _, _, _, _, h, _⟩ => Nat.not_lt_zero _ h
end WL
namespace WL
open PySem PySem.Spec PyProof.Rows L2
section
variable {X : Cx} {a : Expr} {ta : WE}
/-- a new list of the numbers below -/
def wLstR (ta : WE) : WE := fun r S Q => ta r S fun x S1 => match x with
  | .int j => (0 ≤ j ∧ j ≤ 16777216) ∧ ∀ p, S1 p = none → Q (.ref p) (put S1 p (.lst ((List.range j.toNat).map fun i => W.int (i : Nat))))
  | _ => False
theorem rels_rg {K : PySem.W.Frag} {H : Hp} : ∀ (l : List Nat), Rels K H (l.map fun i => W.int (i : Nat)) (l.map fun (i : Nat) => V.int (0 + (i : Int)))
  | [] => by simp only [List.map_nil, Rels]
  | n :: l => by
    simp only [List.map_cons, Rels]
    exact ⟨_, _, rfl, by simp only [Rel, Int.zero_add], rels_rg l⟩
theorem de_lstR {p p2 pos pos2 : Pos} (hc : X.calm = true) (hgl : Gl X "range") (hm : X.mg "range" = none) (hg2 : Gl X "list") (hm2 : X.mg "list" = none) (ha : DE X a ta) (na : starEach [a] X.env = [(false, eval a X.env)] := by rfl)
    (na2 : starEach [.Call (.Name "range" p) [a] [] pos] X.env = [(false, eval (.Call (.Name "range" p) [a] [] pos) X.env)] := by rfl) : DE X (.Call (.Name "list" p2) [.Call (.Name "range" p) [a] [] pos] [] pos2) (wLstR ta) := by
  refine ⟨fun r S Q Q' hq q => ha.mono _ _ _ _ (fun x S1 q1 => ?_) q, weakE (pe_listRg hc hg2 hm2 (prg_1 hgl hm ha.pe na) na2) fun st H Q ⟨r, S, g, gs, q⟩ => ⟨r, S, g, gs, ha.mono _ _ _ _ (fun x S1 q1 H1 v e1 g1 r1 => ?_) q⟩⟩
  · split at q1
    · exact ⟨q1.1, fun p hp => hq _ _ (q1.2 p hp)⟩
    · exact q1.elim
  · split at q1
    · rename_i j
      simp only [Rel] at r1
      subst r1
      obtain ⟨⟨h0, h1⟩, q1⟩ := q1
      refine ⟨j, rfl, RgOk.of_le (Int.le_refl 0) h1 (by decide) h0, fun p hp => ?_⟩
      refine q1 p (g1.free hp) _ _ (e1.trans (Ext.new hp)) (new_lst g1 hp ?_) (by simp only [Rel])
      unfold rgV
      rw [Int.sub_zero]
      exact rels_rg _
    · exact q1.elim
end
end WL
namespace WL
open PySem PySem.Spec PyProof.Rows L2
/-! ### tuple * int, also none and once -/
section
variable {X : Cx}
def rRepTW : WR2
  | .tup ws, .int k, S, Q => (0 ≤ k ∧ k ≤ 1000 ∧ ws ≠ [] ∧ ws.length ≤ 1000) ∧ Q (.tup (List.replicate k.toNat ws).flatten) S
  | _, _, _, _ => False
theorem v_repT {ws : List W} {k : Int} {S : Sto} {Q : WQ} : rRepTW (.tup ws) (.int k) S Q = ((0 ≤ k ∧ k ≤ 1000 ∧ ws ≠ [] ∧ ws.length ≤ 1000) ∧ Q (.tup (List.replicate k.toNat ws).flatten) S) := rfl
end
end WL
namespace WL
open PySem PySem.Spec PyProof.Rows L2
/-! ### while -/
section
variable {X : Cx} {pos : Pos} {c : Expr} {body : List Stmt} {tc : WT} {tb : WS}
def whileN (tc : WT) (tb : WS) : Nat → WS
  | 0 => fun _ _ _ => False
  | n + 1 => fun D r S => tc r S fun b S1 => if b = true then tb { D with nx := whileN tc tb n D, ct := whileN tc tb n D, bk := D.nx } r S1 else D.nx r S1
/-- so many turns at most -/
def wWhile (tc : WT) (tb : WS) : WS := fun D r S => ∃ n, whileN tc tb n D r S
theorem mono_whileN (hc : MonoT tc) (hb : MonoS tb) : ∀ n, MonoS (whileN tc tb n)
  | 0 => fun D D' r S h q => q
  | n + 1 => fun D D' r S h q => by
    refine hc _ _ _ _ (fun b S1 q1 => ?_) q
    cases b with
    | true =>
      rw [if_pos rfl] at q1 ⊢
      exact hb { D with nx := whileN tc tb n D, ct := whileN tc tb n D, bk := D.nx } { D' with nx := whileN tc tb n D', ct := whileN tc tb n D', bk := D'.nx } _ _ ⟨fun r S q => mono_whileN hc hb n _ _ _ _ h q, h.rt, fun r S q => h.nx _ _ q, fun r S q => mono_whileN hc hb n _ _ _ _ h q⟩ q1
    | false =>
      rw [if_neg Bool.false_ne_true] at q1 ⊢
      exact h.nx _ _ q1
theorem ds_while (hp : PassesOwn (model X.prog X.w) X.A X.env X.xe) (hc : DT X c tc) (hb : DSs X body tb) : DS X (.While c body [] pos) (wWhile tc tb) := by
  refine ⟨fun D D' r S h ⟨n, q⟩ => ⟨n, mono_whileN hc.mono hb.mono n _ _ _ _ h q⟩, weakS (ps_while hp hc.pt hb.ps) fun D st H ⟨r, S, g, gs, n, q⟩ => ?_⟩
  refine ⟨fun m st' H' => Ext X.K H H' ∧ ∃ r' S', GR X.K H' r' st' ∧ GS X.K S' H' ∧ whileN tc tb m (lowD X.K H D) r' S', ⟨n, Ext.refl, r, S, g, gs, q⟩, ?_⟩
  rintro m st1 H1 ⟨e1, r1, S1, g1, gs1, q1⟩
  cases m with
  | zero => exact q1.elim
  | succ m =>
    refine ⟨r1, S1, g1, gs1, hc.mono _ _ _ _ (fun b S2 q2 H2 e2 gs2 => ?_) q1⟩
    cases b with
    | true =>
      rw [if_pos rfl] at q2 ⊢
      refine ⟨fun st' H' => Ext X.K H H' ∧ ∃ r' S', GR X.K H' r' st' ∧ GS X.K S' H' ∧ whileN tc tb m (lowD X.K H D) r' S', fun st' H' h => ⟨m, Nat.lt_succ_self m, h⟩, ?_⟩
      have eH : Ext X.K H H2 := e1.trans e2
      refine ⟨r1, S2, g1.ext e2, gs2, hb.mono { lowD X.K H D with nx := whileN tc tb m (lowD X.K H D), ct := whileN tc tb m (lowD X.K H D), bk := (lowD X.K H D).nx } _ _ _ ⟨fun r' S' q' st' H' e' g' gs' => ⟨eH.trans e', r', S', g', gs', q'⟩, fun w S' q' => q'.ext eH, fun r' S' q' => lowP.ext q' eH, fun r' S' q' st' H' e' g' gs' => ⟨eH.trans e', r', S', g', gs', q'⟩⟩ q2⟩
    | false =>
      rw [if_neg Bool.false_ne_true] at q2 ⊢
      exact q2 st1 H2 (e1.trans e2) (g1.ext e2) gs2
theorem x_while1 {D : WD} {r : Rho} {S : Sto} {n : Nat} : whileN tc tb (n + 1) D r S = tc r S fun b S1 => if b = true then tb { D with nx := whileN tc tb n D, ct := whileN tc tb n D, bk := D.nx } r S1 else D.nx r S1 := rfl
end
/-! ### for .. in reversed(a tuple) -/
/-! ### for .. in zip(two lists of one length) -/
section
variable {X : Cx} {pos p : Pos}
def pairsW (xs ys : List W) : List W := List.zipWith (fun a b => W.tup [a, b]) xs ys
def wForZip (ta : WA) (g : WG) (tb : WS) : WS := fun D r S => ta r S fun ws S1 => ∃ x y xs ys, ws = [x, y] ∧ rdl S1 x = some xs ∧ rdl S1 y = some ys ∧ xs.length = ys.length ∧ forW (fun S => rdl S x = some xs ∧ rdl S y = some ys) g tb (pairsW xs ys) D r S1
theorem ds_forZip {a b : Expr} {body : List Stmt} {elts : List Expr} {kk : Nat} {tpos : Pos} {ta : WA} {g : WG} {tb : WS} (hp : PassesOwn (model X.prog X.w) X.A X.env X.xe) (hc : X.calm = true) (hgl : Gl X "zip") (hm : X.mg "zip" = none) (ha : DA X [a, b] ta) (hg : DG X (.Tuple elts kk tpos) g) (hb : DSs X body tb)
    (hse : starEach [a, b] X.env = (false, eval a X.env) :: starEach [b] X.env := by rfl) (hpl : (backTo pos (starEach [b] X.env)).any (·.1) = false := by rfl)
    (hs : ∀ x, foldedSetIterable (.Call (.Name "zip" p) [a, b] [] pos) X.env x = pure x := by intro _; rfl) {q : Pos} : DS X (.For (.Tuple elts kk tpos) (.Call (.Name "zip" p) [a, b] [] pos) body [] q) (wForZip ta g tb) := by
  refine ⟨fun D D' r S h q => ha.mono _ _ _ _ (fun ws S1 ⟨x, y, xs, ys, e1, e2, e3, e4, q1⟩ => ⟨x, y, xs, ys, e1, e2, e3, e4, mono_for hg.mono hb.mono _ _ _ _ _ h q1⟩) q,
    weakS (ps_for hp hc (RZ.pi_zipA hgl hm ha.pa hse hpl) hg.pg hb.ps hs) fun D st H ⟨r, S, gr, gs, q⟩ => ⟨r, S, gr, gs, ha.mono _ _ _ _ (fun ws S1 q1 H1 vs e1 g1 r1 => ?_) q⟩⟩
  obtain ⟨x, y, xs, ys, rfl, hx, hy, hl, q1⟩ := q1
  obtain ⟨v, vr, rfl, rx, r2⟩ := Rels.cons.mp r1
  obtain ⟨u, ur, rfl, ry, r3⟩ := Rels.cons.mp r2
  obtain rfl := Rels.nil.mp r3
  obtain ⟨pa, va, rfl, hva, la⟩ := rdl_ok g1 rx hx
  obtain ⟨pb, vb, rfl, hvb, lb⟩ := rdl_ok g1 ry hy
  refine ⟨pa, pb, va, vb, rfl, .inl ⟨hva, hvb, ?_⟩⟩
  have q2 := ext_forW hg.mono hb.mono e1 q1
  refine ⟨fun i m st H => m = xs.length - i ∧ i ≤ xs.length ∧ ∃ r S, Ext X.K H1 H ∧ GR X.K H r st ∧ GS X.K S H ∧ forW (fun S => rdl S x = some xs ∧ rdl S y = some ys) g tb ((pairsW xs ys).drop i) (lowD X.K H1 D) r S, ⟨xs.length, by simp, Nat.zero_le _, r, S1, Ext.refl, gr.ext e1, g1, by simpa using q2⟩, ?_⟩
  rintro i m st H ⟨rfl, hi, r', S', e', gr', gs', q'⟩
  have zl : (pairsW xs ys).length = xs.length := by unfold pairsW; rw [List.length_zipWith, hl, Nat.min_self]
  have Z : rdl S' x = some xs ∧ rdl S' y = some ys := by
    cases ed : (pairsW xs ys).drop i with
    | nil => rw [ed] at q'; exact q'.1
    | cons z zs => rw [ed] at q'; exact q'.1
  obtain ⟨pa', va', ea, hva', la'⟩ := rdl_ok gs' (rx.ext e') Z.1
  obtain ⟨pb', vb', eb, hvb', lb'⟩ := rdl_ok gs' (ry.ext e') Z.2
  cases ea; cases eb
  cases ed : (pairsW xs ys).drop i with
  | nil =>
    rw [ed] at q'
    have hl' : xs.length ≤ i := by rw [← zl]; simpa using ed
    exact .inl ⟨⟨va', vb', hva', hvb', .inl (by rw [← la'.length]; exact hl')⟩, q'.2 st H e' gr' gs'⟩
  | cons z zs =>
    rw [ed] at q'
    obtain ⟨ey, ed'⟩ := rels_drop_get (K := X.K) (H := H) ed
    have hlt : i < xs.length := by rw [← zl]; exact (List.getElem?_eq_some_iff.mp ey).1
    have hxi : xs[i]? = some xs[i] := List.getElem?_eq_getElem hlt
    have hyi : ys[i]? = some (ys[i]'(by omega)) := List.getElem?_eq_getElem (by omega)
    obtain ⟨vx, evx, rvx⟩ := la'.get hxi
    obtain ⟨vy, evy, rvy⟩ := lb'.get hyi
    have ez : z = .tup [xs[i], ys[i]'(by omega)] := by
      unfold pairsW at ey
      rw [List.getElem?_zipWith, hxi, hyi] at ey
      exact (Option.some.inj ey).symm
    refine .inr ⟨⟨va', vb', vx, vy, hva', hvb', evx, evy⟩, fun st' H' => ∃ r S, Ext X.K H1 H' ∧ GR X.K H' r st' ∧ GS X.K S H' ∧ forW (fun S => rdl S x = some xs ∧ rdl S y = some ys) g tb zs (lowD X.K H1 D) r S, fun st' H' ⟨r2, S2, e2, g2, s2, q2⟩ => ⟨xs.length - (i + 1), by omega, rfl, hlt, r2, S2, e2, g2, s2, by rw [ed']; exact q2⟩, fun v H' hy' => ?_⟩
    obtain ⟨T, x', y', rfl, hT, rfl, f1, f2⟩ := hy'
    have ex : x' = vx := by have := f1 va' hva'; rw [evx] at this; exact (Option.some.inj this).symm
    have ey' : y' = vy := by have := f2 vb' hvb'; rw [evy] at this; exact (Option.some.inj this).symm
    subst ex ey'
    have eT : Ext X.K H (upd H T (.tup [x', y'])) := Ext.new hT
    refine low_body hg.mono hb.mono (e'.trans eT) (x := z) ?_ (gr'.ext eT) (gs'.ext_new hT) (fun r2 S2 q2 st2 H2 e2 g2 s2 => ?_) (fun r2 S2 q2 st2 H2 e2 g2 s2 => ?_) (fun r2 S2 q2 => lowP.ext q2 (e'.trans eT)) (fun w S2 q2 => lowQ.ext q2 (e'.trans eT)) q'.2
    · rw [ez]
      simp only [Rel]
      exact ⟨T, [x', y'], rfl, .inl (.inl upd_same), by simp only [Rels]; exact ⟨_, _, rfl, rvx.ext eT, _, _, rfl, rvy.ext eT, rfl⟩⟩
    · exact ⟨r2, S2, (e'.trans eT).trans e2, g2, s2, q2⟩
    · exact ⟨r2, S2, (e'.trans eT).trans e2, g2, s2, q2⟩
end
/-! ### y in d -/
def rInDk (neg : Bool) : WR2 := fun x y S Q => match keyW x, y with
  | some k, .ref a => match S a with
    | some (.dk kvs) => Q (.bl (neg != (valW kvs k).isSome)) S
    | _ => False
  | _, _ => False
section
variable {X : Cx}
theorem mono_indk {neg : Bool} : Mono2 (rInDk neg) := fun x y S Q Q' h q => by
  unfold rInDk at q ⊢
  split at q
  · split at q
    · exact h _ _ q
    · exact q
  · exact q
theorem valV_isSome {K : PySem.W.Frag} {H : Hp} {kvs : List (Key × W)} {vs : List (Key × V)} (l : RelF K H kvs vs) (k : Key) : (valV vs k).isSome = (valW kvs k).isSome := by
  obtain ⟨h1, h2⟩ := l.val k
  cases e : valW kvs k with
  | none => rw [h2 e]; rfl
  | some w => obtain ⟨v, hv, _⟩ := h1 w e; rw [hv]; rfl
theorem ow_notindk (hu : X.A.units + 1 < cLine) : OpW X (compareOp .NotIn) (rInDk true) := by
  refine ⟨mono_indk, fun pins s st H x y v u Q I rx ry ⟨wx, wy, S, gs, r1, r2, q⟩ => ?_⟩
  unfold rInDk at q
  split at q
  · rename_i k a ek
    split at q
    · rename_i kvs e
      simp only [Rel] at r2
      subst r2
      cases ry
      obtain ⟨vs, h1, l⟩ := gs.at e
      have ex := keyW_ok r1 ek
      subst ex
      refine L2.d_notIn hu I (.inl ⟨vs, k, .of h1, rfl, rfl⟩) rx fun s3 I3 => ⟨.bl (!(valV vs k).isSome), H, I3, rfl, ?_⟩
      rw [valV_isSome l]
      simp only [Bool.true_bne] at q
      exact q H _ Ext.refl gs (by simp only [Rel])
    · exact q.elim
  · exact q.elim
end
end WL
namespace WL
open PySem PySem.Spec PyProof.Rows L2
/-! ### dicts whose keys are nested tuples -/
mutual
def nkW : W → Option PySem.NestedKey
  | .non => some .none
  | .int i => some (.num i)
  | .str x => some (.text x)
  | .tup ws => match nkWs ws with
    | some ks => some (.tup ks)
    | none => none
  | _ => none
def nkWs : List W → Option (List PySem.NestedKey)
  | [] => some []
  | w :: ws => match nkW w, nkWs ws with
    | some k, some ks => some (k :: ks)
    | _, _ => none
end
section
variable {K : PySem.W.Frag} {H : Hp}
mutual
theorem nkW_ok : ∀ {w : W} {k : PySem.NestedKey} {v : V}, nkW w = some k → Rel K H w v → NkR K H k v
  | .non, _, _, h, r => by simp only [nkW, Option.some.injEq] at h; subst h; rw [NkR]; simpa only [Rel] using r
  | .int i, _, _, h, r => by simp only [nkW, Option.some.injEq] at h; subst h; rw [NkR]; simpa only [Rel] using r
  | .str i, _, _, h, r => by simp only [nkW, Option.some.injEq] at h; subst h; rw [NkR]; simpa only [Rel] using r
  | .tup ws, _, _, h, r => by
    rw [nkW] at h
    split at h
    · rename_i ks e
      cases h
      simp only [Rel] at r
      obtain ⟨a, vs, e1, e2, e3⟩ := r
      rw [NkR]
      exact ⟨a, vs, e1, e2, nkWs_ok e e3⟩
    · cases h
  | .bl _, _, _, h, _ => by simp [nkW] at h
  | .ty _, _, _, h, _ => by simp [nkW] at h
  | .ref _, _, _, h, _ => by simp [nkW] at h
  | .rl _, _, _, h, _ => by simp [nkW] at h
theorem nkWs_ok : ∀ {ws : List W} {ks : List PySem.NestedKey} {vs : List V}, nkWs ws = some ks → Rels K H ws vs → NkRs K H ks vs
  | [], _, _, h, r => by simp only [nkWs, Option.some.injEq] at h; subst h; rw [NkRs]; exact Rels.nil.mp r
  | w :: ws, _, _, h, r => by
    rw [nkWs] at h
    split at h
    · rename_i k ks e1 e2
      cases h
      obtain ⟨v, vr, e, r1, r2⟩ := Rels.cons.mp r
      rw [NkRs]
      exact ⟨v, vr, e, nkW_ok e1 r1, nkWs_ok e2 r2⟩
    · cases h
end
end
section
variable {X : Cx} {pins : List (Addr × Obj)} {st : L2.St} {H : Hp} {s : Shared}
mutual
theorem nk_is (I : Inv X pins st H s) : ∀ {k : PySem.NestedKey} {v : V} {u : Value}, NkR X.K H k v → RelV v u → NestedIs s.heap k u
  | .none, _, _, h, r => by rw [NkR] at h; subst h; cases r; exact .none
  | .num i, _, _, h, r => by rw [NkR] at h; subst h; obtain ⟨t, rfl⟩ := r; exact .int i t
  | .text x, _, _, h, r => by rw [NkR] at h; subst h; obtain ⟨t, rfl⟩ := r; exact .text x t
  | .tup ks, _, _, h, r => by
    rw [NkR] at h
    obtain ⟨a, vs, rfl, e2, e3⟩ := h
    cases r
    obtain ⟨its, rv, ⟨o, ho, hc, n, hd⟩, _⟩ := I.tuple e2
    exact .tup ho hc hd (by simpa using nks_is I e3 rv)
theorem nks_is (I : Inv X pins st H s) : ∀ {ks : List PySem.NestedKey} {vs : List V} {us : List Value}, NkRs X.K H ks vs → Vals vs us → NestedAll s.heap ks us
  | [], _, _, h, r => by rw [NkRs] at h; subst h; cases r; exact .nil
  | _ :: _, _, _, h, r => by
    rw [NkRs] at h
    obtain ⟨v, vr, rfl, h1, h2⟩ := h
    cases r with
    | cons r1 r2 => exact .cons (nk_is I h1 r1) (nks_is I h2 r2)
end
theorem RelN.length {kvs : List (PySem.NestedKey × Int)} {xs : List (PySem.NestedKey × Addr × Value)} (h : RelN kvs xs) : kvs.length = xs.length := by
  induction h with
  | nil => rfl
  | cons _ ih => rw [List.length_cons, List.length_cons, ih]
def valN (kvs : List (PySem.NestedKey × Int)) (k : PySem.NestedKey) : Option Int := (kvs.find? fun kv => decide (kv.1 = k)).map (·.2)
theorem RelN.at_ {kvs : List (PySem.NestedKey × Int)} {xs : List (PySem.NestedKey × Addr × Value)} (h : RelN kvs xs) (k : PySem.NestedKey) : (∀ i, valN kvs k = some i → ∃ b t, atKey xs k = some (b, .int i t)) ∧ (valN kvs k = none → atKey xs k = none) := by
  induction h with
  | nil => exact ⟨fun i e => (nomatch e), fun _ => rfl⟩
  | @cons k' i b t kvs xs _ ih =>
    unfold valN atKey at ih ⊢
    rw [List.find?_cons, List.find?_cons]
    cases e : decide (k' = k) with
    | true => exact ⟨fun j ej => ⟨b, t, by simp only [Option.map_some, Option.some.injEq] at ej; subst ej; rfl⟩, fun ej => (nomatch ej)⟩
    | false => exact ih
theorem RelN.snoc {kvs : List (PySem.NestedKey × Int)} {xs : List (PySem.NestedKey × Addr × Value)} (h : RelN kvs xs) (k : PySem.NestedKey) (i : Int) (b : Addr) (t : Tok) : RelN (kvs ++ [(k, i)]) (xs ++ [(k, b, .int i t)]) := by
  induction h with
  | nil => exact .cons .nil
  | cons _ ih => exact .cons ih
/-- the object of such a dict, in the heap -/
theorem dn_at {hf : PySem.NestedKey → Int} {a : Addr} {kvs : List (PySem.NestedKey × Int)} {xs : List (PySem.NestedKey × Addr × Value)} (hh : hf = NestedKey.hash X.w) (I : Inv X pins st H s) (h1 : H a = some (NdO hf a xs)) (h2 : DnOk X.K H a kvs xs) : s.heap.DictOfH (nestedKind X.prog X.w) a xs := by
  have z := I.hok _ _ h1
  simp only [NdO, ObjOk] at z
  obtain ⟨⟨o, es, ep, ho, ex, hd, he⟩, _, _⟩ := z
  subst hh
  exact ⟨o, es, ep, ho, ex, hd, he, fun x hx => ⟨nk_is I (h2.keys x hx).1 rfl, (h2.keys x hx).2⟩, h2.nodup⟩
theorem nd_new {hf : PySem.NestedKey → Int} {a : Addr} {xs : List (PySem.NestedKey × Addr × Value)} {P : Program} {w : World} {H' : Hp} {h' : Heap} (hh : hf = NestedKey.hash w) (d : h'.DictOfH (nestedKind P w) a xs) : ObjOk P w H' h' a (NdO hf a xs) := by
  obtain ⟨o, es, ep, ho, ex, hd, he, _, _⟩ := d
  subst hh
  refine ⟨⟨o, es, ep, ho, ex, hd, he⟩, ⟨o, ho⟩, fun h1 h2 ⟨o, es, ep, ho, ex, hd, he⟩ k => ⟨o, es, ep, k _ ho, ex, hd, he⟩⟩
end
section
variable {X : Cx} {pos : Pos}
/-- {}, to be such a dict -/
def wNNew (hf : PySem.NestedKey → Int) : WE := fun r S Q => ∀ p, S p = none → Q (.ref p) (put S p (.dn hf []))
theorem de_nnew {hf : PySem.NestedKey → Int} (hh : hf = NestedKey.hash X.w) : DE X (.Dict [] [] pos) (wNNew hf) := by
  refine ⟨fun r S Q Q' h q p hp => h _ _ (q p hp), ⟨fun pins s st H Q I ⟨r, S, g, gs, q⟩ => ?_⟩⟩
  have ns : (s.heap.objs.size == sysModules) = false := beq_eq_false_iff_ne.mpr (Ne.symm (Nat.ne_of_lt I.big))
  have fr : H s.heap.objs.size = none := I.hok.fresh (Nat.le_refl _)
  refine wpAny_Dict_empty ⟨.ref s.heap.objs.size, _, I.laid (a := s.heap.objs.size) (o := NdO hf s.heap.objs.size []) (t' := s.toks) (fun _ _ q => Heap.get?_push_of_some _ q) (Nat.le_refl _) (nd_new (P := X.prog) hh (Heap.DictOfH.new s.heap)), rfl, ?_⟩
  refine q _ (gs.free fr) _ _ (Ext.new fr) (gs.new fr ⟨[], upd_same, .nil, fun x hx => absurd hx List.not_mem_nil, List.nodup_nil, ns, Nat.zero_le _⟩) (by simp only [Rel])
/-- d.setdefault(y, z) -/
def wNSet (hf : PySem.NestedKey → Int) (td ty tx : WE) : WE := fun r S Q => td r S fun x S1 => ∃ a kvs0, x = .ref a ∧ S1 a = some (.dn hf kvs0) ∧ ty r S1 fun y S2 => tx r S2 fun z S3 => ∃ kvs k i, S3 a = some (.dn hf kvs) ∧ nkW y = some k ∧ z = .int i ∧ (k.depth ≤ 8 ∧ kvs.length < sizeLine ∧ ∃ ws, y = .tup ws) ∧
  (∀ j, valN kvs k = some j → Q (.int j) S3) ∧ (valN kvs k = none → Q (.int i) (put S3 a (.dn hf (kvs ++ [(k, i)]))))
theorem de_nset {hf : PySem.NestedKey → Int} {o e f : Expr} {td ty tx : WE} {apos cpos : Pos} (hh : hf = NestedKey.hash X.w) (hu : X.A.units + 16 < cLine) (ho : DE X o td) (he : DE X e ty) (hx : DE X f tx) (m : M2 X o "setdefault" apos e f cpos) : DE X (.Call (.Attribute o "setdefault" apos) [e, f] [] cpos) (wNSet hf td ty tx) := by
  refine ⟨fun r S Q Q' h q => ho.mono _ _ _ _ (fun x S1 ⟨a, kvs0, e1, e2, q1⟩ => ⟨a, kvs0, e1, e2, he.mono _ _ _ _ (fun y S2 q2 => hx.mono _ _ _ _ (fun z S3 ⟨kvs, k, i, g1, g2, g3, g4, g5, g6⟩ => ⟨kvs, k, i, g1, g2, g3, g4, fun j ej => h _ _ (g5 j ej), fun en => h _ _ (g6 en)⟩) q2) q1⟩) q, ⟨fun pins s st H Q I ⟨r, S, g, gs, q⟩ => ?_⟩⟩
  have A1 : LowE X.K td st H fun v H1 => ∃ (a : Addr) (S1 : Sto) (kvs0 : List (PySem.NestedKey × Int)), Ext X.K H H1 ∧ GS X.K S1 H1 ∧ v = .ref a ∧ S1 a = some (.dn hf kvs0) ∧ ty r S1 fun y S2 => tx r S2 fun z S3 => ∃ kvs k i, S3 a = some (.dn hf kvs) ∧ nkW y = some k ∧ z = .int i ∧ (k.depth ≤ 8 ∧ kvs.length < sizeLine ∧ ∃ ws, y = .tup ws) ∧
      (∀ j, valN kvs k = some j → lowQ X.K H Q (.int j) S3) ∧ (valN kvs k = none → lowQ X.K H Q (.int i) (put S3 a (.dn hf (kvs ++ [(k, i)])))) := by
    refine ⟨r, S, g, gs, ho.mono _ _ _ _ (fun x S1 ⟨a, kvs0, e1, e2, q1⟩ H1 v e g1 r1 => ?_) q⟩
    subst e1
    simp only [Rel] at r1
    exact ⟨a, S1, kvs0, e, g1, r1, e2, q1⟩
  refine wpAny_Call_method m.base m.few m.line PySem.F.plainAttrs_dict PySem.F.slot_dict_setdefault PySem.F.type_dict_setdefault (thn (ho.pe.run pins s st H _ I A1) fun u s1 ⟨x, H1, I1, rx, a, S1, kvs0, e1, g1, ex, ea, q1⟩ => ?_)
  subst ex
  obtain rfl : u = Value.ref a := rx
  obtain ⟨xs0, hx0, ok0⟩ := g1.at ea
  have d0 := dn_at hh I1 hx0 ok0
  obtain ⟨ob, es, ep, hob, exd, _⟩ := id d0
  refine ⟨d0.typeIs, fun b hb => by cases hb; exact ⟨ob, hob, exd.2.1⟩, ?_⟩
  rw [m.trees]
  have A2 : LowE X.K ty st H1 fun v H2 => ∃ (y : W) (S2 : Sto), Ext X.K H1 H2 ∧ GS X.K S2 H2 ∧ Rel X.K H2 y v ∧ tx r S2 fun z S3 => ∃ kvs k i, S3 a = some (.dn hf kvs) ∧ nkW y = some k ∧ z = .int i ∧ (k.depth ≤ 8 ∧ kvs.length < sizeLine ∧ ∃ ws, y = .tup ws) ∧
      (∀ j, valN kvs k = some j → lowQ X.K H Q (.int j) S3) ∧ (valN kvs k = none → lowQ X.K H Q (.int i) (put S3 a (.dn hf (kvs ++ [(k, i)])))) :=
    ⟨r, S1, g.ext e1, g1, he.mono _ _ _ _ (fun y S2 q2 H2 v e2 g2 r2 => ⟨y, S2, e2, g2, r2, q2⟩) q1⟩
  refine Calls.callWith_builtin rfl (Calls.evalArgs_plain (Calls.spliced_cons (thn (he.pe.run pins s1 st H1 _ I1 A2) fun iv s2 ⟨y, H2, I2, ry, wy, S2, e2, g2, rwy, q2⟩ => Calls.spliced_cons ?_)))
  have A3 : LowE X.K tx st H2 fun v H3 => ∃ (i : Int) (S3 : Sto) (kvs : List (PySem.NestedKey × Int)) (k : PySem.NestedKey), Ext X.K H2 H3 ∧ GS X.K S3 H3 ∧ v = .int i ∧ S3 a = some (.dn hf kvs) ∧ nkW wy = some k ∧ (k.depth ≤ 8 ∧ kvs.length < sizeLine ∧ ∃ ws, wy = .tup ws) ∧
      (∀ j, valN kvs k = some j → lowQ X.K H Q (.int j) S3) ∧ (valN kvs k = none → lowQ X.K H Q (.int i) (put S3 a (.dn hf (kvs ++ [(k, i)])))) := by
    refine ⟨r, S2, (g.ext e1).ext e2, g2, hx.mono _ _ _ _ (fun z S3 ⟨kvs, k, i, h1, h2, h3, h4, h5, h6⟩ H3 v e3 g3 r3 => ?_) q2⟩
    subst h3
    simp only [Rel] at r3
    exact ⟨i, S3, kvs, k, e3, g3, r3, h1, h2, h4, h5, h6⟩
  refine thn (hx.pe.run pins s2 st H2 _ I2 A3) fun fv s3 ⟨z, H3, I3, rz, i, S3, kvs, k, e3, g3, ez, ha, hk, ⟨hdp, hl, ws, ew⟩, h5, h6⟩ => Calls.spliced_nil ?_
  subst ez ew
  obtain ⟨tz, rfl⟩ := rz
  have rwy3 := rwy.ext e3
  have nk := nkW_ok hk rwy3
  simp only [Rel] at rwy
  obtain ⟨b, vs, rfl, hT, hrs⟩ := rwy
  cases ry
  obtain ⟨xs, hxs, ok⟩ := g3.at ha
  have d := dn_at hh I3 hxs ok
  have key : (nestedKind X.prog X.w).is s3.heap k b := ⟨nk_is I3 nk rfl, hdp⟩
  have eall : Ext X.K H H3 := (e1.trans e2).trans e3
  have at_ := ok.rel.at_ k
  refine call_setdefault_heap (knd := nestedKind X.prog X.w) (k := k) (xs := xs) (show X.A.in1.units + 8 < cLine by show X.A.units + 1 + 8 < cLine; omega) key ok.nosys d (fun p hp => ?_) (fun hn h' d' hs => ?_) ok.len
  · cases hv : valN kvs k with
    | none => rw [at_.2 hv] at hp; cases hp
    | some j =>
      obtain ⟨b', t', hb'⟩ := at_.1 j hv
      rw [hb'] at hp
      cases hp
      exact ⟨.int j, H3, I3.tok _, ⟨t', rfl⟩, h5 j hv H3 _ eall g3 (by simp only [Rel])⟩
  · have hv : valN kvs k = none := by
      cases hv : valN kvs k with
      | none => rfl
      | some j => obtain ⟨b', t', hb'⟩ := at_.1 j hv; rw [hb'] at hn; cases hn
    rw [storedH_new hn] at d'
    have hw : ∃ q, h'.get? a = some q := let ⟨q, _, _, hq, _⟩ := d'; ⟨q, hq⟩
    have I4 := L2.d_write (ob := NdO hf a (xs ++ [(k, b, .int i tz)])) (t' := s3.toks + (nestedKind X.prog X.w).draws k) I3 (by rw [hxs]; exact True.intro) hs hw (nd_new hh d')
    refine ⟨.int i, _, I4, ⟨tz, rfl⟩, h6 hv _ _ (eall.trans (Ext.chg hxs rfl)) (g3.wr hxs rfl ?_) (by simp only [Rel])⟩
    refine ⟨_, upd_same, ok.rel.snoc k i b tz, fun x hx => ?_, by
      obtain ⟨_, _, _, _, _, _, _, _, nd⟩ := d'
      exact nd, ok.nosys, by rw [List.length_append, List.length_singleton, ← ok.rel.length]; omega⟩
    have ec : Ext X.K H3 (upd H3 a (NdO hf a (xs ++ [(k, b, .int i tz)]))) := Ext.chg hxs rfl
    rcases List.mem_append.mp hx with hx | hx
    · exact ⟨(ok.keys x hx).1.ext ec, (ok.keys x hx).2⟩
    · rw [List.mem_singleton.mp hx]
      exact ⟨nk.ext ec, hdp⟩
/-- len of such a dict -/
def rLenN (hf : PySem.NestedKey → Int) : WSp := fun ws S Q => ∃ a kvs, ws = [.ref a] ∧ S a = some (.dn hf kvs) ∧ Q (.int kvs.length) S
theorem cw_lenN {hf : PySem.NestedKey → Int} (hh : hf = NestedKey.hash X.w) : CallW X (.builtin "len") (rLenN hf) := by
  refine ⟨fun ws S Q Q' h ⟨a, kvs, e1, e2, q⟩ => ⟨a, kvs, e1, e2, h _ _ q⟩, fun pins s st H xs us Q I r ⟨ws, S, rs, gs, a, kvs, e1, e2, q⟩ => ?_⟩
  subst e1
  obtain ⟨v, vr, rfl, r1, r2⟩ := Rels.cons.mp rs
  obtain rfl := Rels.nil.mp r2
  simp only [Rel] at r1
  subst r1
  obtain ⟨u, rfl, ru⟩ := vals1 r
  cases ru
  obtain ⟨ys, h1, ok⟩ := gs.at e2
  have d := dn_at hh I h1 ok
  have hl : kvs.length = ys.length := ok.rel.length
  have hz := ok.len
  have hz' : ys.length ≤ 16777216 := by rw [← sizeLine_eq]; exact hz
  refine call_len_slot (n := (ys.length : Int)) d.typeIs F.slot_dict_len (fun Q' hq => len_keyed (knd := nestedKind X.prog X.w) (kvs := pairsH ys) ok.nosys ⟨ys, d, rfl⟩ (by rw [pairsH_length]; exact hq)) (by omega) (by omega) ?_
  exact ⟨.int kvs.length, H, I.tok _, ⟨_, by rw [hl]⟩, q H _ Ext.refl gs (by simp only [Rel])⟩
end
theorem hu16_of {A : Around} {k : Nat} (hr : Room k A) : A.units + 16 < cLine := by have := hr.un; omega
end WL
namespace WL
open PySem PySem.Spec PyProof.Rows L2
/-! ### a, b, .. = a list -/
/-! ### more of the symbolic run -/
section
variable {a p : Addr} {w x y : W} {S : Sto} {D : WD} {r : Rho} {td ty tv : WE} {k : Str} {kvs : List (Key × W)}
def dputW (x y w : W) (S : Sto) (K : Sto → Prop) : Prop := match x, keyW y with
  | .ref a, some k => match S a with
    | some (.dk kvs) => kvs.length < sizeLine ∧ K (put S a (.dk (putKW kvs k w)))
    | _ => False
  | _, _ => False
theorem x_dput : wDPut td ty tv D r S = tv r S fun w S1 => td r S1 fun x S2 => ty r S2 fun y S3 => dputW x y w S3 fun S4 => D.nx r S4 := rfl
theorem dput_s {K : Sto → Prop} : dputW (.ref a) (.str k) w S K = onD (S a) fun kvs => kvs.length < sizeLine ∧ K (put S a (.dk (putKW kvs (.inr k) w))) := by
  unfold dputW onD; (try simp only [key_s]); (try (rcases S a with _ | (_ | _ | _ | _ | _) <;> rfl))
theorem dget_s {Q : WQ} : rDGet (.ref a) (.str k) S Q = onD (S a) fun kvs => onS (valW kvs (.inr k)) fun w => Q w S := x_dget key_s
end
end WL
namespace WL
open PySem PySem.Spec PyProof.Rows L2
section
variable {X : Cx} {pos p : Pos}
theorem ds_forZip2 {q : Pos} {a b : Expr} {body : List Stmt} {elts : List Expr} {kk : Nat} {tpos : Pos} {ta : WA} {g : WG} {tb : WS} (hp : PassesOwn (model X.prog X.w) X.A X.env X.xe) (hc : X.calm = true) (hgl : Gl X "zip") (hm : X.mg "zip" = none) (ha : DA X [a, b] ta) (hg : DG X (.Tuple elts kk tpos) g) (hb : DSs X body tb)
    (hse : starEach [a, b] X.env = (false, eval a X.env) :: starEach [b] X.env := by rfl) (hpl : (backTo pos (starEach [b] X.env)).any (·.1) = false := by rfl)
    (hs : ∀ x, foldedSetIterable (.Call (.Name "zip" p) [a, b] [] pos) X.env x = pure x := by intro _; rfl) : DS X (.For (.Tuple elts kk tpos) (.Call (.Name "zip" p) [a, b] [] pos) body [] q) (wForZip ta g tb) := ds_forZip hp hc hgl hm ha hg hb hse hpl hs
theorem mono_gpar {i j : Nat} : MonoG (gTupW 2 (gConsW (gNameW i) (gConsW (gNameW j) gNilW))) := fun w r S Q Q' h q => by
  cases w with
  | tup ws =>
    obtain ⟨l, q⟩ := q
    match ws, l, q with
    | [a, b], l, q => exact ⟨l, q.1, h _ _ q.2⟩
  | _ => exact q.elim
/-- a, b = x, y -/
theorem ds_par {i j : Nat} {x y : Str} {a b : Expr} {ta : WA} {px py pt pt2 : Pos} {kt k2 : Nat} (hc : X.calm = true) (hN : X.N.Nodup) (hi : X.N[i]? = some x) (hj : X.N[j]? = some y) (hij : i ≠ j)
    (hx : X.env.scope.names.lookup x = some .local) (hy : X.env.scope.names.lookup y = some .local) (ha : DA X [a, b] ta)
    (hw : swappedStores [.Tuple [.Name x px, .Name y py] kt pt] (.Tuple [a, b] k2 pt2) X.env = pure (some [x, y]) := by rfl)
    (hs : swapsWithSole [.Tuple [.Name x px, .Name y py] kt pt] (.Tuple [a, b] k2 pt2) pos.line X.env = pure false := by rfl) :
    DS X (.Assign [.Tuple [.Name x px, .Name y py] kt pt] (.Tuple [a, b] k2 pt2) pos) (wAsg (wTup ta) (gTupW 2 (gConsW (gNameW i) (gConsW (gNameW j) gNilW)))) := by
  refine ⟨fun D D' r S h q => ha.mono _ _ _ _ (fun ws S1 q1 => ⟨q1.1, mono_gpar _ _ _ _ _ h.nx q1.2⟩) q, weakS (ps_par hc hN hi hj hij hx hy ha.pa hw hs) fun D st H ⟨r, S, g, gs, q⟩ => ⟨r, S, g, gs, ha.mono _ _ _ _ (fun ws S1 q1 H1 vs e1 g1 r1 => ?_) q⟩⟩
  obtain ⟨_, l, q1⟩ := q1
  match ws, l, q1, r1 with
  | [w1, w2], l, q1, r1 =>
    obtain ⟨v, vr, rfl, rv, r2⟩ := Rels.cons.mp r1
    obtain ⟨u, ur, rfl, ru, r3⟩ := Rels.cons.mp r2
    obtain rfl := Rels.nil.mp r3
    exact ⟨v, u, rfl, q1.2 _ H1 e1 (((g.ext e1).set i rv).set j ru) g1⟩
theorem blkOk_in {N N' : List Str} {sc sc' scope : Scope} {own : List (Str × Nat)} (h : blkC N sc scope own = true) (hN : N' = N := by rfl) (hs : sc' = sc := by rfl) : BlkOk N' sc' scope own := by
  subst hN hs; exact blkOk_by h
theorem de_call0 {k : Nat} {f : Addr} {fd : FuncData} {ps : List Str} {sp : WSp} {x : Str} (F : FnOk X.prog X.w X.K X.mg X.base CX0 k f fd ps (LowSp X.K sp)) (hsp : MonoSp sp) (hr : Room k X.A) (hg : Gl X x) (hm : X.mg x = some (.ref f)) (hk : PySem.W.keepIn X.K (.ref f) = true) (hb : Binds X.K fd ps [])
    (hdb : (x == ("__debug__" : Str)) = false := by decide) : DE X (.Call (.Name x p) [] [] pos) (wCall sp wNil) := by
  have mn : MonoA wNil := fun r S Q Q' h q => h _ _ q
  refine ⟨mono_call hsp mn, weakE (pe_call0 F hr hg hm hk hb .nil pass0 hdb) fun st H Q q => ?_⟩
  obtain ⟨r, S, g, gs, z⟩ := q
  exact ⟨[], S, Rels.nil.mpr rfl, gs, z⟩
/-- d.get(k, x) -/
def wDGet2 (td ty tx : WE) : WE := fun r S Q => td r S fun x S1 => ∃ a kvs0, x = .ref a ∧ S1 a = some (.dk kvs0) ∧ ty r S1 fun y S2 => tx r S2 fun z S3 => ∃ kvs k, S3 a = some (.dk kvs) ∧ keyW y = some k ∧ Q ((valW kvs k).getD z) S3
theorem de_dget2 {o e f : Expr} {td ty tx : WE} {apos cpos : Pos} (hu : X.A.units + 1 < cLine) (ho : DE X o td) (he : DE X e ty) (hx : DE X f tx) (m : M2 X o "get" apos e f cpos) : DE X (.Call (.Attribute o "get" apos) [e, f] [] cpos) (wDGet2 td ty tx) := by
  refine ⟨fun r S Q Q' h q => ho.mono _ _ _ _ (fun x S1 ⟨a, kvs0, e1, e2, q1⟩ => ⟨a, kvs0, e1, e2, he.mono _ _ _ _ (fun y S2 q2 => hx.mono _ _ _ _ (fun z S3 ⟨kvs, k, g1, g2, g3⟩ => ⟨kvs, k, g1, g2, h _ _ g3⟩) q2) q1⟩) q,
    weakE (pe_dget2 hu ho.pe he.pe hx.pe m) fun st H Q ⟨r, S, g, gs, q⟩ => ⟨r, S, g, gs, ho.mono _ _ _ _ (fun x S1 ⟨a, kvs0, ex, ea, q1⟩ H1 v e1 g1 r1 => ?_) q⟩⟩
  subst ex
  simp only [Rel] at r1
  subst r1
  obtain ⟨vs0, h0, _⟩ := g1.at ea
  refine ⟨a, rfl, .inl ⟨vs0, .inl h0⟩, r, S1, g.ext e1, g1, he.mono _ _ _ _ (fun y S2 q2 H2 vy e2 g2 r2 => ⟨r, S2, (g.ext e1).ext e2, g2, hx.mono _ _ _ _ (fun z S3 ⟨kvs, k, ea3, ek, q3⟩ H3 vz e3 g3 r3 => ?_) q2⟩) q1⟩
  obtain ⟨vs, h1, l⟩ := g3.at ea3
  have r2' := r2.ext e3
  refine ⟨L2.valV vs k, ?_, q3 H3 _ ((e1.trans e2).trans e3) g3 ?_⟩
  · rw [keyW_ok r2' ek]; exact DGet.k h1
  · cases ew : valW kvs k with
    | none => rw [(l.val k).2 ew]; exact r3
    | some w =>
      obtain ⟨v, ev, rv⟩ := (l.val k).1 w ew
      rw [ev]; exact rv
end
end WL
namespace WL
open PySem PySem.Spec PyProof.Rows L2
section
variable {X : Cx}
/-! ### list.pop() -/
def rPopW : W → List W → Sto → WQ → Prop := fun x ws S Q => match x, ws with
  | .ref a, [] => match S a with
    | some (.lst xs) => match xs[xs.length - 1]? with
      | some y => Q y (put S a (.lst (xs.take (xs.length - 1))))
      | none => False
    | _ => False
  | _, _ => False
theorem mw_pop : MtW X "list.pop" rPopW := by
  refine ⟨fun x ws S Q Q' h q => ?_, fun pins s st H x vs v us Q I rx rv ⟨w, ws, S, gs, r1, r2, q⟩ => ?_⟩
  · unfold rPopW at q ⊢
    split at q
    · split at q
      · split at q
        · exact h _ _ q
        · exact q
      · exact q
    · exact q
  · unfold rPopW at q
    split at q
    · split at q
      · rename_i xs e
        split at q
        · rename_i y ey
          simp only [Rel] at r1
          subst r1
          obtain rfl := Rels.nil.mp r2
          obtain ⟨ys, h1, l⟩ := gs.at e
          obtain ⟨vy, hv, ry⟩ := l.get ey
          exact mt_pop pins s st H _ _ v us Q I rx rv ⟨_, ys, vy, rfl, rfl, h1, by rw [← l.length]; exact hv, q _ _ (Ext.chg h1 rfl) (by rw [List.dropLast_eq_take, ← l.length]; exact wr_lst gs h1 (l.take _)) (ry.ext (Ext.chg h1 rfl))⟩
        · exact q.elim
      · exact q.elim
    · exact q.elim
end
end WL
local macro_rules | `(tactic| walk_at "wx") => `(tactic| simp only [↓WL.x_var0, ↓WL.x_varS, ↓WL.x_c, ↓WL.x_op, ↓WL.x_b, ↓WL.x_chain, ↓WL.x_and, ↓WL.x_or, ↓WL.x_not, ↓WL.x_andV, ↓WL.x_orV, ↓WL.x_notV, ↓WL.x_if, ↓WL.x_orT, ↓WL.x_tr, ↓WL.x_neg, ↓WL.x_nil, ↓WL.x_cons, ↓WL.x_tup, ↓WL.x_lst, ↓WL.x_call, ↓WL.x_lm, ↓WL.x_lm0, ↓WL.x_seq, ↓WL.x_next, ↓WL.x_ifS, ↓WL.x_ret, ↓WL.x_retN, ↓WL.x_drop, ↓WL.x_asg, ↓WL.x_gname, ↓WL.x_gtup, ↓WL.x_gcons, ↓WL.x_gnil, ↓WL.x_gsub, ↓WL.x_set, ↓WL.x_for, ↓WL.x_forR1, ↓WL.x_lc, ↓WL.x_lcR, ↓WL.x_fld, ↓WL.x_setF, ↓WL.x_meth, ↓WL.x_make, ↓WL.x_sl, ↓WL.x_part, ↓WL.x_noPart, ↓WL.x_yes, WL.onB_bl, WL.onS_some, WL.onL_lst, WL.onQ_some, WL.onI_ins, WL.onD_dk, WL.onR_ref, WL.onT_tup, WL.onBo_some, WL.x_app, WL.x_clr, WL.x_ext, WL.v_add, WL.v_addT, WL.v_addS, WL.v_addL, WL.v_sub, WL.v_mul, WL.v_rep, WL.v_mod, WL.v_div, WL.v_pow, WL.v_lt, WL.v_le, WL.v_gt, WL.v_ge, WL.v_isN, WL.v_notN, WL.n_non, WL.n_bl, WL.n_int, WL.n_str, WL.n_ref, WL.n_tup, WL.q_ss, WL.q_ii, WL.q_bb, WL.q_nn, WL.q_is, WL.q_si, WL.q_in, WL.q_ni, WL.q_sn, WL.q_ns, WL.d_ss, WL.d_ii, WL.d_bb, WL.d_nn, WL.d_in, WL.d_ni, WL.ix_t, WL.ix_r, WL.ix_l, WL.in_t, WL.notin_t, WL.fl_s, WL.fl_i, WL.fl_n, WL.so_t, WL.so_r, WL.so_lp, WL.len_t, WL.len_r, WL.len_s, WL.int_i, WL.int_b, WL.list_x, WL.tuple_x, WL.min_ii, WL.max_ii, WL.sl_t, WL.sl_l, WL.look_nil, WL.look_cons, WL.putW_nil, WL.putW_cons, WL.x_inKd, WL.x_notinKd, WL.x_getKd, WL.x_dget, WL.key_s, WL.key_i, WL.val_nil, WL.val_cons, WL.inr_eq, WL.start1, WL.line_lt, WL.atI0, WL.atI1, WL.atI2, WL.atI3, WL.atI4, List.map_cons, List.map_nil, List.cons_append, List.nil_append, List.set_cons_zero, List.set_cons_succ, List.length_cons, List.length_nil, List.all_cons, List.all_nil, List.replicate_succ, List.replicate_zero, Nat.reduceAdd, Nat.reduceSub, Nat.zero_add, WL.wd_inj, Nat.reduceLT, Nat.reduceEqDiff, decide_true, decide_false, Bool.false_eq_true, Bool.true_eq_false, Bool.not_true, Bool.not_false, Bool.or_false, Bool.false_or, Bool.or_true, Bool.true_or, Bool.and_self, Bool.and_true, Bool.true_and, ↓reduceIte, reduceCtorEq, WL.line_le, Nat.reduceLeDiff, true_and, and_true, and_self, Option.isSome_some, Option.isSome_none, Int.reduceLT, Int.reduceLE, Int.reduceEq, Int.reduceNeg, WL.put_same, WL.ci0, WL.ci1, WL.ci2, WL.ci3, WL.ci4, WL.ci5, WL.ci6, WL.W_PAIRS, WL.startW])
local macro_rules | `(tactic| walk_at "ws") => `(tactic| simp only [↓WL.x_var0, ↓WL.x_varS, ↓WL.x_c, ↓WL.x_op, ↓WL.x_b, ↓WL.x_chain, ↓WL.x_and, ↓WL.x_or, ↓WL.x_not, ↓WL.x_andV, ↓WL.x_orV, ↓WL.x_notV, ↓WL.x_if, ↓WL.x_orT, ↓WL.x_tr, ↓WL.x_neg, ↓WL.x_nil, ↓WL.x_cons, ↓WL.x_tup, ↓WL.x_lst, ↓WL.x_call, ↓WL.x_lm, ↓WL.x_lm0, ↓WL.x_seq, ↓WL.x_next, ↓WL.x_ifS, ↓WL.x_ret, ↓WL.x_retN, ↓WL.x_drop, ↓WL.x_asg, ↓WL.x_gname, ↓WL.x_gtup, ↓WL.x_gcons, ↓WL.x_gnil, ↓WL.x_gsub, ↓WL.x_set, ↓WL.x_for, ↓WL.x_forR1, ↓WL.x_lc, ↓WL.x_lcR, ↓WL.x_fld, ↓WL.x_setF, ↓WL.x_meth, ↓WL.x_make, ↓WL.x_sl, ↓WL.x_part, ↓WL.x_noPart, ↓WL.x_yes, WL.onB_bl, WL.onS_some, WL.onL_lst, WL.onQ_some, WL.onI_ins, WL.onD_dk, WL.onR_ref, WL.onT_tup, WL.onBo_some, WL.x_app, WL.x_clr, WL.x_ext, WL.v_add, WL.v_addT, WL.v_addS, WL.v_addL, WL.v_sub, WL.v_mul, WL.v_rep, WL.v_mod, WL.v_div, WL.v_pow, WL.v_lt, WL.v_le, WL.v_gt, WL.v_ge, WL.v_isN, WL.v_notN, WL.n_non, WL.n_bl, WL.n_int, WL.n_str, WL.n_ref, WL.n_tup, WL.q_ss, WL.q_ii, WL.q_bb, WL.q_nn, WL.q_is, WL.q_si, WL.q_in, WL.q_ni, WL.q_sn, WL.q_ns, WL.d_ss, WL.d_ii, WL.d_bb, WL.d_nn, WL.d_in, WL.d_ni, WL.ix_t, WL.ix_r, WL.ix_l, WL.in_t, WL.notin_t, WL.fl_s, WL.fl_i, WL.fl_n, WL.so_t, WL.so_r, WL.so_lp, WL.len_t, WL.len_r, WL.len_s, WL.int_i, WL.int_b, WL.list_x, WL.tuple_x, WL.min_ii, WL.max_ii, WL.sl_t, WL.sl_l, WL.look_nil, WL.look_cons, WL.putW_nil, WL.putW_cons, WL.x_inKd, WL.x_notinKd, WL.x_getKd, WL.x_dget, WL.key_s, WL.key_i, WL.val_nil, WL.val_cons, WL.inr_eq, WL.start1, WL.line_lt, WL.atI0, WL.atI1, WL.atI2, WL.atI3, WL.atI4, List.map_cons, List.map_nil, List.cons_append, List.nil_append, List.set_cons_zero, List.set_cons_succ, List.length_cons, List.length_nil, List.all_cons, List.all_nil, List.replicate_succ, List.replicate_zero, Nat.reduceAdd, Nat.reduceSub, Nat.zero_add, WL.wd_inj, Nat.reduceLT, Nat.reduceEqDiff, decide_true, decide_false, Bool.false_eq_true, Bool.true_eq_false, Bool.not_true, Bool.not_false, Bool.or_false, Bool.false_or, Bool.or_true, Bool.true_or, Bool.and_self, Bool.and_true, Bool.true_and, ↓reduceIte, reduceCtorEq, WL.line_le, Nat.reduceLeDiff, true_and, and_true, and_self, Option.isSome_some, Option.isSome_none, Int.reduceLT, Int.reduceLE, Int.reduceEq, Int.reduceNeg, WL.put_same, WL.ci0, WL.ci1, WL.ci2, WL.ci3, WL.ci4, WL.ci5, WL.ci6, WL.W_PAIRS, WL.startW, *])
local macro_rules | `(tactic| walk_at "wx") => `(tactic| simp only [↓WL.x_var0, ↓WL.x_varS, ↓WL.x_c, ↓WL.x_op, ↓WL.x_b, ↓WL.x_chain, ↓WL.x_and, ↓WL.x_or, ↓WL.x_not, ↓WL.x_andV, ↓WL.x_orV, ↓WL.x_notV, ↓WL.x_if, ↓WL.x_orT, ↓WL.x_tr, ↓WL.x_neg, ↓WL.x_nil, ↓WL.x_cons, ↓WL.x_tup, ↓WL.x_lst, ↓WL.x_call, ↓WL.x_lm, ↓WL.x_lm0, ↓WL.x_seq, ↓WL.x_next, ↓WL.x_ifS, ↓WL.x_ret, ↓WL.x_retN, ↓WL.x_drop, ↓WL.x_asg, ↓WL.x_gname, ↓WL.x_gtup, ↓WL.x_gcons, ↓WL.x_gnil, ↓WL.x_gsub, ↓WL.x_set, ↓WL.x_for, ↓WL.x_forR1, ↓WL.x_lc, ↓WL.x_lcR, ↓WL.x_fld, ↓WL.x_setF, ↓WL.x_meth, ↓WL.x_make, ↓WL.x_sl, ↓WL.x_part, ↓WL.x_noPart, ↓WL.x_yes, WL.onB_bl, WL.onS_some, WL.onL_lst, WL.onQ_some, WL.onI_ins, WL.onD_dk, WL.onR_ref, WL.onT_tup, WL.onBo_some, WL.x_app, WL.x_clr, WL.x_ext, WL.v_add, WL.v_addT, WL.v_addS, WL.v_addL, WL.v_sub, WL.v_mul, WL.v_rep, WL.v_mod, WL.v_div, WL.v_pow, WL.v_lt, WL.v_le, WL.v_gt, WL.v_ge, WL.v_isN, WL.v_notN, WL.n_non, WL.n_bl, WL.n_int, WL.n_str, WL.n_ref, WL.n_tup, WL.q_ss, WL.q_ii, WL.q_bb, WL.q_nn, WL.q_is, WL.q_si, WL.q_in, WL.q_ni, WL.q_sn, WL.q_ns, WL.d_ss, WL.d_ii, WL.d_bb, WL.d_nn, WL.d_in, WL.d_ni, WL.ix_t, WL.ix_r, WL.ix_l, WL.in_t, WL.notin_t, WL.fl_s, WL.fl_i, WL.fl_n, WL.so_t, WL.so_r, WL.so_lp, WL.len_t, WL.len_r, WL.len_s, WL.int_i, WL.int_b, WL.list_x, WL.tuple_x, WL.min_ii, WL.max_ii, WL.sl_t, WL.sl_l, WL.look_nil, WL.look_cons, WL.putW_nil, WL.putW_cons, WL.x_inKd, WL.x_notinKd, WL.x_getKd, WL.x_dget, WL.key_s, WL.key_i, WL.val_nil, WL.val_cons, WL.inr_eq, WL.start1, WL.line_lt, WL.atI0, WL.atI1, WL.atI2, WL.atI3, WL.atI4, List.map_cons, List.map_nil, List.cons_append, List.nil_append, List.set_cons_zero, List.set_cons_succ, List.length_cons, List.length_nil, List.all_cons, List.all_nil, List.replicate_succ, List.replicate_zero, Nat.reduceAdd, Nat.reduceSub, Nat.zero_add, WL.wd_inj, Nat.reduceLT, Nat.reduceEqDiff, decide_true, decide_false, Bool.false_eq_true, Bool.true_eq_false, Bool.not_true, Bool.not_false, Bool.or_false, Bool.false_or, Bool.or_true, Bool.true_or, Bool.and_self, Bool.and_true, Bool.true_and, ↓reduceIte, reduceCtorEq, WL.line_le, Nat.reduceLeDiff, true_and, and_true, and_self, Option.isSome_some, Option.isSome_none, Int.reduceAdd, Int.reduceSub, Int.reduceMul, Int.add_zero, Int.reduceLT, Int.reduceLE, Int.reduceEq, Int.reduceNeg, WL.put_same, WL.ci0, WL.ci1, WL.ci2, WL.ci3, WL.ci4, WL.ci5, WL.ci6, WL.W_PAIRS, WL.startW])
local macro_rules | `(tactic| walk_at "ws") => `(tactic| simp only [↓WL.x_var0, ↓WL.x_varS, ↓WL.x_c, ↓WL.x_op, ↓WL.x_b, ↓WL.x_chain, ↓WL.x_and, ↓WL.x_or, ↓WL.x_not, ↓WL.x_andV, ↓WL.x_orV, ↓WL.x_notV, ↓WL.x_if, ↓WL.x_orT, ↓WL.x_tr, ↓WL.x_neg, ↓WL.x_nil, ↓WL.x_cons, ↓WL.x_tup, ↓WL.x_lst, ↓WL.x_call, ↓WL.x_lm, ↓WL.x_lm0, ↓WL.x_seq, ↓WL.x_next, ↓WL.x_ifS, ↓WL.x_ret, ↓WL.x_retN, ↓WL.x_drop, ↓WL.x_asg, ↓WL.x_gname, ↓WL.x_gtup, ↓WL.x_gcons, ↓WL.x_gnil, ↓WL.x_gsub, ↓WL.x_set, ↓WL.x_for, ↓WL.x_forR1, ↓WL.x_lc, ↓WL.x_lcR, ↓WL.x_fld, ↓WL.x_setF, ↓WL.x_meth, ↓WL.x_make, ↓WL.x_sl, ↓WL.x_part, ↓WL.x_noPart, ↓WL.x_yes, WL.onB_bl, WL.onS_some, WL.onL_lst, WL.onQ_some, WL.onI_ins, WL.onD_dk, WL.onR_ref, WL.onT_tup, WL.onBo_some, WL.x_app, WL.x_clr, WL.x_ext, WL.v_add, WL.v_addT, WL.v_addS, WL.v_addL, WL.v_sub, WL.v_mul, WL.v_rep, WL.v_mod, WL.v_div, WL.v_pow, WL.v_lt, WL.v_le, WL.v_gt, WL.v_ge, WL.v_isN, WL.v_notN, WL.n_non, WL.n_bl, WL.n_int, WL.n_str, WL.n_ref, WL.n_tup, WL.q_ss, WL.q_ii, WL.q_bb, WL.q_nn, WL.q_is, WL.q_si, WL.q_in, WL.q_ni, WL.q_sn, WL.q_ns, WL.d_ss, WL.d_ii, WL.d_bb, WL.d_nn, WL.d_in, WL.d_ni, WL.ix_t, WL.ix_r, WL.ix_l, WL.in_t, WL.notin_t, WL.fl_s, WL.fl_i, WL.fl_n, WL.so_t, WL.so_r, WL.so_lp, WL.len_t, WL.len_r, WL.len_s, WL.int_i, WL.int_b, WL.list_x, WL.tuple_x, WL.min_ii, WL.max_ii, WL.sl_t, WL.sl_l, WL.look_nil, WL.look_cons, WL.putW_nil, WL.putW_cons, WL.x_inKd, WL.x_notinKd, WL.x_getKd, WL.x_dget, WL.key_s, WL.key_i, WL.val_nil, WL.val_cons, WL.inr_eq, WL.start1, WL.line_lt, WL.atI0, WL.atI1, WL.atI2, WL.atI3, WL.atI4, List.map_cons, List.map_nil, List.cons_append, List.nil_append, List.set_cons_zero, List.set_cons_succ, List.length_cons, List.length_nil, List.all_cons, List.all_nil, List.replicate_succ, List.replicate_zero, Nat.reduceAdd, Nat.reduceSub, Nat.zero_add, WL.wd_inj, Nat.reduceLT, Nat.reduceEqDiff, decide_true, decide_false, Bool.false_eq_true, Bool.true_eq_false, Bool.not_true, Bool.not_false, Bool.or_false, Bool.false_or, Bool.or_true, Bool.true_or, Bool.and_self, Bool.and_true, Bool.true_and, ↓reduceIte, reduceCtorEq, WL.line_le, Nat.reduceLeDiff, true_and, and_true, and_self, Option.isSome_some, Option.isSome_none, Int.reduceAdd, Int.reduceSub, Int.reduceMul, Int.add_zero, Int.reduceLT, Int.reduceLE, Int.reduceEq, Int.reduceNeg, WL.put_same, WL.ci0, WL.ci1, WL.ci2, WL.ci3, WL.ci4, WL.ci5, WL.ci6, WL.W_PAIRS, WL.startW, *])
local macro_rules | `(tactic| walk_at "wx") => `(tactic| simp only [↓WL.x_var0, ↓WL.x_varS, ↓WL.x_c, ↓WL.x_op, ↓WL.x_b, ↓WL.x_chain, ↓WL.x_and, ↓WL.x_or, ↓WL.x_not, ↓WL.x_andV, ↓WL.x_orV, ↓WL.x_notV, ↓WL.x_if, ↓WL.x_orT, ↓WL.x_tr, ↓WL.x_neg, ↓WL.x_nil, ↓WL.x_cons, ↓WL.x_tup, ↓WL.x_lst, ↓WL.x_call, ↓WL.x_lm, ↓WL.x_lm0, ↓WL.x_seq, ↓WL.x_next, ↓WL.x_ifS, ↓WL.x_ret, ↓WL.x_retN, ↓WL.x_drop, ↓WL.x_asg, ↓WL.x_gname, ↓WL.x_gtup, ↓WL.x_gcons, ↓WL.x_gnil, ↓WL.x_gsub, ↓WL.x_set, ↓WL.x_for, ↓WL.x_forR1, ↓WL.x_lc, ↓WL.x_lcR, ↓WL.x_fld, ↓WL.x_setF, ↓WL.x_meth, ↓WL.x_make, ↓WL.x_sl, ↓WL.x_part, ↓WL.x_noPart, ↓WL.x_yes, WL.onB_bl, WL.onS_some, WL.onL_lst, WL.onQ_some, WL.onI_ins, WL.onD_dk, WL.onR_ref, WL.onT_tup, WL.onBo_some, WL.x_app, WL.x_clr, WL.x_ext, WL.v_add, WL.v_addT, WL.v_addS, WL.v_addL, WL.v_sub, WL.v_mul, WL.v_rep, WL.v_mod, WL.v_div, WL.v_pow, WL.v_lt, WL.v_le, WL.v_gt, WL.v_ge, WL.v_isN, WL.v_notN, WL.n_non, WL.n_bl, WL.n_int, WL.n_str, WL.n_ref, WL.n_tup, WL.q_ss, WL.q_ii, WL.q_bb, WL.q_nn, WL.q_is, WL.q_si, WL.q_in, WL.q_ni, WL.q_sn, WL.q_ns, WL.d_ss, WL.d_ii, WL.d_bb, WL.d_nn, WL.d_in, WL.d_ni, WL.ix_t, WL.ix_r, WL.ix_l, WL.in_t, WL.notin_t, WL.fl_s, WL.fl_i, WL.fl_n, WL.so_t, WL.so_r, WL.so_lp, WL.len_t, WL.len_r, WL.len_s, WL.int_i, WL.int_b, WL.list_x, WL.tuple_x, WL.min_ii, WL.max_ii, WL.sl_t, WL.sl_l, WL.look_nil, WL.look_cons, WL.putW_nil, WL.putW_cons, WL.x_inKd, WL.x_notinKd, WL.x_getKd, WL.x_dget, WL.key_s, WL.key_i, WL.val_nil, WL.val_cons, WL.inr_eq, WL.start1, WL.line_lt, WL.atI0, WL.atI1, WL.atI2, WL.atI3, WL.atI4, List.map_cons, List.map_nil, List.cons_append, List.nil_append, List.set_cons_zero, List.set_cons_succ, List.length_cons, List.length_nil, List.all_cons, List.all_nil, List.replicate_succ, List.replicate_zero, Nat.reduceAdd, Nat.reduceSub, Nat.zero_add, WL.wd_inj, Nat.reduceLT, Nat.reduceEqDiff, decide_true, decide_false, Bool.false_eq_true, Bool.true_eq_false, Bool.not_true, Bool.not_false, Bool.or_false, Bool.false_or, Bool.or_true, Bool.true_or, Bool.and_self, Bool.and_true, Bool.true_and, ↓reduceIte, reduceCtorEq, WL.line_le, Nat.reduceLeDiff, true_and, and_true, and_self, Option.isSome_some, Option.isSome_none, Int.reduceAdd, Int.reduceSub, Int.reduceMul, Int.add_zero, Int.reduceLT, Int.reduceLE, Int.reduceEq, Int.reduceNeg, WL.put_same, WL.ci0, WL.ci1, WL.ci2, WL.ci3, WL.ci4, WL.ci5, WL.ci6, WL.W_PAIRS, WL.startW, WL.it_t, WL.it_i, WL.it_s, WL.it_n, WL.it_b, WL.il_t, WL.il_i, WL.il_s, WL.il_n, WL.il_b, WL.itl_t, WL.ib_i, WL.ib_s, WL.ib_b, WL.is_i, WL.is_s, WL.ii_i])
local macro_rules | `(tactic| walk_at "ws") => `(tactic| simp only [↓WL.x_var0, ↓WL.x_varS, ↓WL.x_c, ↓WL.x_op, ↓WL.x_b, ↓WL.x_chain, ↓WL.x_and, ↓WL.x_or, ↓WL.x_not, ↓WL.x_andV, ↓WL.x_orV, ↓WL.x_notV, ↓WL.x_if, ↓WL.x_orT, ↓WL.x_tr, ↓WL.x_neg, ↓WL.x_nil, ↓WL.x_cons, ↓WL.x_tup, ↓WL.x_lst, ↓WL.x_call, ↓WL.x_lm, ↓WL.x_lm0, ↓WL.x_seq, ↓WL.x_next, ↓WL.x_ifS, ↓WL.x_ret, ↓WL.x_retN, ↓WL.x_drop, ↓WL.x_asg, ↓WL.x_gname, ↓WL.x_gtup, ↓WL.x_gcons, ↓WL.x_gnil, ↓WL.x_gsub, ↓WL.x_set, ↓WL.x_for, ↓WL.x_forR1, ↓WL.x_lc, ↓WL.x_lcR, ↓WL.x_fld, ↓WL.x_setF, ↓WL.x_meth, ↓WL.x_make, ↓WL.x_sl, ↓WL.x_part, ↓WL.x_noPart, ↓WL.x_yes, WL.onB_bl, WL.onS_some, WL.onL_lst, WL.onQ_some, WL.onI_ins, WL.onD_dk, WL.onR_ref, WL.onT_tup, WL.onBo_some, WL.x_app, WL.x_clr, WL.x_ext, WL.v_add, WL.v_addT, WL.v_addS, WL.v_addL, WL.v_sub, WL.v_mul, WL.v_rep, WL.v_mod, WL.v_div, WL.v_pow, WL.v_lt, WL.v_le, WL.v_gt, WL.v_ge, WL.v_isN, WL.v_notN, WL.n_non, WL.n_bl, WL.n_int, WL.n_str, WL.n_ref, WL.n_tup, WL.q_ss, WL.q_ii, WL.q_bb, WL.q_nn, WL.q_is, WL.q_si, WL.q_in, WL.q_ni, WL.q_sn, WL.q_ns, WL.d_ss, WL.d_ii, WL.d_bb, WL.d_nn, WL.d_in, WL.d_ni, WL.ix_t, WL.ix_r, WL.ix_l, WL.in_t, WL.notin_t, WL.fl_s, WL.fl_i, WL.fl_n, WL.so_t, WL.so_r, WL.so_lp, WL.len_t, WL.len_r, WL.len_s, WL.int_i, WL.int_b, WL.list_x, WL.tuple_x, WL.min_ii, WL.max_ii, WL.sl_t, WL.sl_l, WL.look_nil, WL.look_cons, WL.putW_nil, WL.putW_cons, WL.x_inKd, WL.x_notinKd, WL.x_getKd, WL.x_dget, WL.key_s, WL.key_i, WL.val_nil, WL.val_cons, WL.inr_eq, WL.start1, WL.line_lt, WL.atI0, WL.atI1, WL.atI2, WL.atI3, WL.atI4, List.map_cons, List.map_nil, List.cons_append, List.nil_append, List.set_cons_zero, List.set_cons_succ, List.length_cons, List.length_nil, List.all_cons, List.all_nil, List.replicate_succ, List.replicate_zero, Nat.reduceAdd, Nat.reduceSub, Nat.zero_add, WL.wd_inj, Nat.reduceLT, Nat.reduceEqDiff, decide_true, decide_false, Bool.false_eq_true, Bool.true_eq_false, Bool.not_true, Bool.not_false, Bool.or_false, Bool.false_or, Bool.or_true, Bool.true_or, Bool.and_self, Bool.and_true, Bool.true_and, ↓reduceIte, reduceCtorEq, WL.line_le, Nat.reduceLeDiff, true_and, and_true, and_self, Option.isSome_some, Option.isSome_none, Int.reduceAdd, Int.reduceSub, Int.reduceMul, Int.add_zero, Int.reduceLT, Int.reduceLE, Int.reduceEq, Int.reduceNeg, WL.put_same, WL.ci0, WL.ci1, WL.ci2, WL.ci3, WL.ci4, WL.ci5, WL.ci6, WL.W_PAIRS, WL.startW, *, WL.it_t, WL.it_i, WL.it_s, WL.it_n, WL.it_b, WL.il_t, WL.il_i, WL.il_s, WL.il_n, WL.il_b, WL.itl_t, WL.ib_i, WL.ib_s, WL.ib_b, WL.is_i, WL.is_s, WL.ii_i])
namespace WL
open PySem L2
/-- [G x for x in xs], where a turn makes new things only -/
theorem lc_leA {α : Type} {F G : α → W} {i : Nat} {te : WE} {Z : Sto → Prop} {D : Addr} {Q : Sto → Prop} {r : Rho} {S0 : Sto} (hD : S0 D = none) (hZ : ∀ S, Le S0 S → Z S) : ∀ (xs : List α) (acc : List W) (S : Sto), (∀ x ∈ xs, ∀ S Q', Le S0 S → (∀ S', Le S S' → Q' (G x) S') → te (r.set i (some (F x))) S Q') → acc.length + xs.length ≤ 1000000 → Le S0 S → S D = some (.lst acc) →
    (∀ S', Le S0 S' → S' D = some (.lst (acc ++ xs.map G)) → Q S') → lcW Z i wYes te D (xs.map F) r S Q
  | [], acc, S, he, hl, l, hS, q => ⟨hZ S l, q S l (by simpa using hS)⟩
  | x :: xs, acc, S, he, hl, l, hS, q => by
    refine ⟨hZ S l, ?_⟩
    refine yes_ok ?_
    rw [if_pos rfl]
    refine he x List.mem_cons_self S _ l fun S' l' => ⟨acc, l' _ _ hS, small_len (by rw [List.length_cons] at hl; omega), ?_⟩
    refine lc_leA hD hZ xs (acc ++ [G x]) _ (fun y hy => he y (List.mem_cons_of_mem _ hy)) (by rw [List.length_append, List.length_singleton]; rw [List.length_cons] at hl; omega) (fun a o e => ?_) put_same fun S'' l'' h'' => q S'' l'' ?_
    · rw [put_ne (ne_none e hD)]
      exact l' _ _ (l _ _ e)
    · rw [h'', List.map_cons, List.append_assoc]; rfl
theorem lc_le {α : Type} {F G : α → W} {i : Nat} {te : WE} {Z : Sto → Prop} {D : Addr} {Q : Sto → Prop} {r : Rho} {S0 : Sto} (hD : S0 D = none) (xs : List α) (hZ : ∀ S, Le S0 S → Z S) (he : ∀ x ∈ xs, ∀ S Q', Le S0 S → (∀ S', Le S S' → Q' (G x) S') → te (r.set i (some (F x))) S Q') (hl : xs.length ≤ 1000000)
    (q : ∀ S', Le S0 S' → S' D = some (.lst (xs.map G)) → Q S') : lcW Z i wYes te D (xs.map F) r (put S0 D (.lst [])) Q :=
  lc_leA hD hZ xs [] _ he (by simpa using hl) (Le.put hD) put_same fun S' l h => q S' l (by simpa using h)
/-! ### how many words a run tells -/
def Tk.tw (T : Tk) : Nat := (T.told.map fun t => t.1.length).sum + T.said.length
theorem tell_tw (T : Tk) (o : Out) : (T.tell o).tw = T.tw := by
  simp [Tk.tw, Tk.tell]
theorem gift_tw (T : Tk) (v : Int) : (T.gift v).2.tw = T.tw := by
  unfold Tk.gift
  split <;> exact tell_tw _ _
theorem close_tw (T : Tk) (w : Way) : (T.close w).tw = T.tw := by
  unfold Tk.close
  split
  · rfl
  · split <;> exact tell_tw _ _
  · exact tell_tw _ _
theorem given_tw (T : Tk) (v : Int) (k : Option Nat) (sl : List Int) : (given T v k sl).2.2.tw = T.tw := by
  have g := gift_tw T v
  unfold given
  split <;> (rename_i h; rw [h] at g; exact g)
theorem rounds_tw {f : RS → Option Way × RS} {c : Nat} (hf : ∀ s, (f s).2.2.tw ≤ s.2.tw + c) : ∀ (n : Nat) (s : RS), (rounds f n s).2.2.tw ≤ s.2.tw + n * c
  | 0, s => by simp [rounds]
  | n + 1, s => by
    have h := hf s
    have e : (n + 1) * c = n * c + c := Nat.succ_mul n c
    unfold rounds
    split
    · rename_i s' q
      rw [q] at h
      have := rounds_tw hf n s'
      (try simp only at h)
      omega
    · rename_i s' q
      rw [q] at h
      (try simp only at h ⊢)
      have : 0 ≤ n * c := Nat.zero_le _
      omega
    · rename_i w s' _ q
      rw [q] at h
      (try simp only at h ⊢)
      have : 0 ≤ n * c := Nat.zero_le _
      omega
theorem lastly_tw {f : RS → Option Way × RS} {c : Nat} (hf : ∀ s, (f s).2.2.tw ≤ s.2.tw + c) (r : Option Way × RS) : (lastly f r).2.2.tw ≤ r.2.2.tw + c := by
  unfold lastly
  split
  · simp only; omega
  · rename_i w s' _
    have h := hf s'
    split
    · rename_i q; rw [q] at h; exact h
    · rename_i q; rw [q] at h; exact h
theorem caught_tw {f : RS → Option Way × RS} {c : Nat} (hf : ∀ s, (f s).2.2.tw ≤ s.2.tw + c) (k : Option Nat) (r : Option Way × RS) : (caught f k r).2.2.tw ≤ r.2.2.tw + c := by
  unfold caught
  split
  · exact hf _
  · omega
theorem back_tw (sl : List Int) (k : Option Nat) (r : Option Way × RS) : (back sl k r).2.2.tw = r.2.2.tw := by
  unfold back
  split <;> rfl
mutual
theorem C.tw : ∀ (c : C) (s : RS), (c.run s).2.2.tw ≤ s.2.tw + c.cost
  | .leave, s => by simp only [C.run]; omega
  | .set k e, (sl, T) => by simp only [C.run]; split <;> ((try simp only); omega)
  | .say e, (sl, T) => by
    simp only [C.run, C.cost]
    split
    · (try simp only); omega
    · simp [Tk.say, Tk.tw]; omega
  | .fault e, (sl, T) => by simp only [C.run]; split <;> ((try simp only); omega)
  | .ends e, (sl, T) => by simp only [C.run]; split <;> ((try simp only); omega)
  | .give e k, (sl, T) => by
    simp only [C.run]; split
    · (try simp only); omega
    · rw [given_tw]; (try simp only); omega
  | .ifs e a b, (sl, T) => by
    simp only [C.run, C.cost]
    split
    · (try simp only); omega
    · have h1 := Cs.tw a (sl, T)
      have h2 := Cs.tw b (sl, T)
      (try simp only at h1 h2)
      split <;> ((try simp only); omega)
  | .round e a, (sl, T) => by
    simp only [C.run]
    split
    · (try simp only); omega
    · rename_i v hv
      have h := rounds_tw (fun s => Cs.tw a s) (v % 10).toNat (sl, T)
      have m9 : (v % 10).toNat ≤ 9 := by omega
      have m : (v % 10).toNat * Cs.cost a ≤ 9 * Cs.cost a := Nat.mul_le_mul_right _ m9
      cases e with
      | num n => simp only [reck, Option.some.injEq] at hv; subst hv; simp only [C.cost]; exact h
      | slot k => simp only [C.cost]; (try simp only at h ⊢); omega
      | op o x y => simp only [C.cost]; (try simp only at h ⊢); omega
  | .hand args k ex body, (sl, T) => by
    simp only [C.run, C.cost]
    split
    · (try simp only); omega
    · rw [back_tw]
      exact Cs.tw body _
  | .try0 a l, s => by
    simp only [C.run, C.cost]
    have h1 := Cs.tw a s
    have h2 := lastly_tw (fun s => Cs.tw l s) (Cs.run a s)
    omega
  | .tryc a k c l, s => by
    simp only [C.run, C.cost]
    have h1 := Cs.tw a s
    have h2 := caught_tw (fun s => Cs.tw c s) k (Cs.run a s)
    have h3 := lastly_tw (fun s => Cs.tw l s) (caught (Cs.run c) k (Cs.run a s))
    omega
theorem Cs.tw : ∀ (cs : List C) (s : RS), (Cs.run cs s).2.2.tw ≤ s.2.tw + Cs.cost cs
  | [], s => by simp only [Cs.run]; omega
  | c :: cs, s => by
    have h1 := C.tw c s
    simp only [Cs.run, Cs.cost]
    split
    · rename_i s' q
      rw [q] at h1
      have h2 := Cs.tw cs s'
      (try simp only at h1)
      omega
    · rename_i w s' q
      rw [q] at h1
      (try simp only at h1 ⊢)
      omega
end
theorem tw_le {T : Tk} {t : Told} (h : t ∈ T.told) : t.1.length ≤ T.tw := by
  unfold Tk.tw
  have : t.1.length ≤ (T.told.map fun t => t.1.length).sum := by
    revert h
    induction T.told with
    | nil => intro h; cases h
    | cons u l ih =>
      intro h
      rw [List.map_cons, List.sum_cons]
      rcases List.mem_cons.mp h with rfl | h
      · omega
      · have := ih h; omega
  omega
/-! ### every work of a program is data -/
theorem isR_deep {slots : Int} : ∀ {e : Rk} {d : Nat}, e.isR slots d = true → e.deep ≤ d
  | .num n, d, h => Nat.zero_le _
  | .slot k, d, h => Nat.zero_le _
  | .op o a b, 0, h => by simp [Rk.isR] at h
  | .op o a b, d + 1, h => by
    simp only [Rk.isR, Bool.and_eq_true] at h
    have := isR_deep h.1
    have := isR_deep h.2
    simp only [Rk.deep]; omega
theorem optI_okW (k : Option Int) (n : Nat) : okW n (optI k) = true := by cases k <;> (unfold optI; rw [okW])
theorem int_okW (k : Int) (n : Nat) : okW n (.int k) = true := by rw [okW]
theorem w_okW {i : Nat} (h : i < 122) (n : Nat) : okW n (.str (wd i)) = true := by rw [okW]; exact wd_ok h
theorem tup_okW {n : Nat} {ws : List W} (h : okWs n ws = true) : okW (n + 1) (.tup ws) = true := by rw [okW]; exact h
theorem cons_okW {n : Nat} {w : W} {ws : List W} (h : okW n w = true) (h' : okWs n ws = true) : okWs n (w :: ws) = true := by rw [okWs, h, h']; rfl
theorem nil_okW {n : Nat} : okWs n [] = true := by rw [okWs]
end WL
namespace WL
open PySem L2
def tab_DOORS : Str → Option (Option W) := fun z => if z = w_go then some (some (.int 1)) else if z = w_fork then some (some (.int 2)) else if z = w_give then some (some (.int 3)) else if z = w_hand then some (some (.int 4)) else if z = w_end then some none else if z = w_fault then some none else if z = w_shut then some none else none
/-- doors: room way found -/
def l_doors_1 (a_DOORS : Addr) : WS :=
  (wRet (wVar 2))
def l_doors_2 (a_DOORS : Addr) : WS :=
  (wSeq (wIfS (wB (wOp rNotN (wOp rIxW (wVar 0) (wC (.int 3))) (wC .non)))
  (wDrop (wLm rAppW (wVar 2) (wCons (wOp rIxW (wVar 0) (wC (.int 3))) wNil)))
  wNext)
  (l_doors_1 a_DOORS))
def t_doors (a_DOORS : Addr) : WS :=
  (wSeq (wAsg (wOp rIxW (wVar 0) (wC (.int 1))) (gNameW 1))
  (wSeq (wAsg (wIf (wB (wOp (rInKd a_DOORS tab_DOORS false) (wOp rIxW (wVar 1) (wC (.int 0))) (wC (.ref a_DOORS)))) (wCall rListW (wCons (wSl (wVar 1) (wPart (wOp (rGetKd a_DOORS tab_DOORS) (wC (.ref a_DOORS)) (wOp rIxW (wVar 1) (wC (.int 0))))) wNoPart) wNil)) (wLst wNil)) (gNameW 2))
  (wSeq (wIfS (wB (wOp rNotN (wOp rIxW (wVar 0) (wC (.int 2))) (wC .non)))
  (wDrop (wLm rAppW (wVar 2) (wCons (wOp rIxW (wOp rIxW (wVar 0) (wC (.int 2))) (wC (.int 1))) wNil)))
  wNext)
  (l_doors_2 a_DOORS))))
/-- renamed: room numbers little way caught shut many -/
def l_renamed_1 (a_DOORS : Addr) : WS :=
  (wRet (wTup (wCons (wVar 2) (wCons (wVar 3) (wCons (wVar 4) (wCons (wVar 5) wNil))))))
def l_renamed_2 (a_DOORS : Addr) : WS :=
  (wSeq (wIfS (wB (wOp rNotN (wVar 5) (wC .non)))
  (wAsg (wOp rIxW (wVar 1) (wNeg (wC (.int 1)))) (gNameW 5))
  wNext)
  (l_renamed_1 a_DOORS))
def t_renamed (a_DOORS : Addr) : WS :=
  (wSeq (wAsg (wVar 0) (gTupW 4 (gConsW (gNameW 2) (gConsW (gNameW 3) (gConsW (gNameW 4) (gConsW (gNameW 5) gNilW))))))
  (wSeq (wAsg (wIf (wB (wOp (rInKd a_DOORS tab_DOORS false) (wOp rIxW (wVar 3) (wC (.int 0))) (wC (.ref a_DOORS)))) (wOp rSubW (wCall rLenW (wCons (wVar 3) wNil)) (wOp (rGetKd a_DOORS tab_DOORS) (wC (.ref a_DOORS)) (wOp rIxW (wVar 3) (wC (.int 0))))) (wC (.int 0))) (gNameW 6))
  (wSeq (wAsg (wOp rAddW (wSl (wVar 3) wNoPart (wPart (wOp rSubW (wCall rLenW (wCons (wVar 3) wNil)) (wVar 6)))) (wCall rTupleW (wCons (wSl (wVar 1) wNoPart (wPart (wVar 6))) wNil))) (gNameW 3))
  (wSeq (wIfS (wB (wOp rNotN (wVar 4) (wC .non)))
  (wAsg (wTup (wCons (wOp rIxW (wVar 4) (wC (.int 0))) (wCons (wOp rIxW (wVar 1) (wVar 6)) wNil))) (gNameW 4))
  wNext)
  (l_renamed_2 a_DOORS)))))
/-- kinds_of: rooms known kinds room many finer kind door -/
def l_kinds_of_1 (hf : PySem.NestedKey → Int) (sp_renamed sp_doors : WSp) : WS :=
  (wDrop (wLm rAppW (wVar 2) (wCons (wNSet hf (wVar 1) (wCall sp_renamed (wCons (wVar 3) (wCons (wOp rMulW (wLst (wCons (wC (.int 0)) wNil)) (wCall rLenW (wCons (wCall sp_doors (wCons (wVar 3) wNil)) wNil))) wNil))) (wCall (rLenN hf) (wCons (wVar 1) wNil))) wNil)))
def l_kinds_of_2 (hf : PySem.NestedKey → Int) (sp_renamed sp_doors : WSp) : WS :=
  (wDrop (wLm rAppW (wVar 5) (wCons (wNSet hf (wVar 1) (wOp rAddW (wTup (wCons (wVar 6) wNil)) (wCall rTupleW (wCons (wLc (wCall sp_doors (wCons (wVar 3) wNil)) 7 wYes (wOp rIxW (wVar 2) (wVar 7))) wNil))) (wCall (rLenN hf) (wCons (wVar 1) wNil))) wNil)))
def l_kinds_of_3 (hf : PySem.NestedKey → Int) (sp_renamed sp_doors : WSp) : WS :=
  (wSeq (wAsg (wCall (rLenN hf) (wCons (wVar 1) wNil)) (gNameW 4))
  (wSeq (wAsg (wNNew hf) (gNameW 1))
  (wSeq (wAsg (wLst wNil) (gNameW 5))
  (wSeq (wForZip (wCons (wVar 0) (wCons (wVar 2) wNil)) (gTupW 2 (gConsW (gNameW 3) (gConsW (gNameW 6) gNilW)))
  (l_kinds_of_2 hf sp_renamed sp_doors))
  (wAsg (wVar 5) (gNameW 2))))))
def t_kinds_of (hf : PySem.NestedKey → Int) (sp_renamed sp_doors : WSp) : WS :=
  (wSeq (wAsg (wNNew hf) (gNameW 1))
  (wSeq (wAsg (wLst wNil) (gNameW 2))
  (wSeq (wFor (wVar 0) (gNameW 3)
  (l_kinds_of_1 hf sp_renamed sp_doors))
  (wSeq (wAsg (wC (.int 0)) (gNameW 4))
  (wSeq (wWhile (wB (wOp rLt (wVar 4) (wCall (rLenN hf) (wCons (wVar 1) wNil))))
  (l_kinds_of_3 hf sp_renamed sp_doors))
  (wRet (wVar 2)))))))
/-- tidied: params slots rooms start kinds numbers some at door room -/
def l_tidied_1 (sp_kinds_of sp_doors sp_renamed : WSp) : WS :=
  (wIfS (wB (wOp (rInDk true) (wOp rIxW (wVar 4) (wVar 8)) (wVar 5)))
  (wSeq (wDPut (wVar 5) (wOp rIxW (wVar 4) (wVar 8)) (wCall rLenW (wCons (wVar 6) wNil)))
  (wDrop (wLm rAppW (wVar 6) (wCons (wOp rIxW (wVar 2) (wVar 8)) wNil))))
  wNext)
def l_tidied_2 (sp_kinds_of sp_doors sp_renamed : WSp) : WS :=
  (wSeq (wFor (wCall sp_doors (wCons (wOp rIxW (wVar 6) (wVar 7)) wNil)) (gNameW 8)
  (l_tidied_1 sp_kinds_of sp_doors sp_renamed))
  (wAsg (wOp rAddW (wVar 7) (wC (.int 1))) (gNameW 7)))
def t_tidied (sp_kinds_of sp_doors sp_renamed : WSp) : WS :=
  (wSeq (wAsg (wCall sp_kinds_of (wCons (wVar 2) wNil)) (gNameW 4))
  (wSeq (wAsg (wDisp (((wOp rIxW (wVar 4) (wVar 3)), (wC (.int 0))) :: [])) (gNameW 5))
  (wSeq (wAsg (wLst (wCons (wOp rIxW (wVar 2) (wVar 3)) wNil)) (gNameW 6))
  (wSeq (wAsg (wC (.int 0)) (gNameW 7))
  (wSeq (wWhile (wB (wOp rLt (wVar 7) (wCall rLenW (wCons (wVar 6) wNil))))
  (l_tidied_2 sp_kinds_of sp_doors sp_renamed))
  (wRet (wTup (wCons (wVar 0) (wCons (wVar 1) (wCons (wLc (wVar 6) 9 wYes (wCall sp_renamed (wCons (wVar 9) (wCons (wLc (wCall sp_doors (wCons (wVar 9) wNil)) 8 wYes (wOp rDGet (wVar 5) (wOp rIxW (wVar 4) (wVar 8)))) wNil)))) wNil))))))))))
end WL
local macro_rules | `(tactic| walk_at "wx") => `(tactic| simp only [↓WL.x_var0, ↓WL.x_varS, ↓WL.x_c, ↓WL.x_op, ↓WL.x_b, ↓WL.x_chain, ↓WL.x_and, ↓WL.x_or, ↓WL.x_not, ↓WL.x_andV, ↓WL.x_orV, ↓WL.x_notV, ↓WL.x_if, ↓WL.x_orT, ↓WL.x_tr, ↓WL.x_neg, ↓WL.x_nil, ↓WL.x_cons, ↓WL.x_tup, ↓WL.x_lst, ↓WL.x_call, ↓WL.x_lm, ↓WL.x_lm0, ↓WL.x_seq, ↓WL.x_next, ↓WL.x_ifS, ↓WL.x_ret, ↓WL.x_retN, ↓WL.x_drop, ↓WL.x_asg, ↓WL.x_gname, ↓WL.x_gtup, ↓WL.x_gcons, ↓WL.x_gnil, ↓WL.x_gsub, ↓WL.x_set, ↓WL.x_for, ↓WL.x_forR1, ↓WL.x_lc, ↓WL.x_lcR, ↓WL.x_fld, ↓WL.x_setF, ↓WL.x_meth, ↓WL.x_make, ↓WL.x_sl, ↓WL.x_part, ↓WL.x_noPart, ↓WL.x_yes, WL.onB_bl, WL.onS_some, WL.onL_lst, WL.onQ_some, WL.onI_ins, WL.onD_dk, WL.onR_ref, WL.onT_tup, WL.onBo_some, WL.x_app, WL.x_clr, WL.x_ext, WL.v_add, WL.v_addT, WL.v_addS, WL.v_addL, WL.v_sub, WL.v_mul, WL.v_rep, WL.v_mod, WL.v_div, WL.v_pow, WL.v_lt, WL.v_le, WL.v_gt, WL.v_ge, WL.v_isN, WL.v_notN, WL.n_non, WL.n_bl, WL.n_int, WL.n_str, WL.n_ref, WL.n_tup, WL.q_ss, WL.q_ii, WL.q_bb, WL.q_nn, WL.q_is, WL.q_si, WL.q_in, WL.q_ni, WL.q_sn, WL.q_ns, WL.d_ss, WL.d_ii, WL.d_bb, WL.d_nn, WL.d_in, WL.d_ni, WL.ix_t, WL.ix_r, WL.ix_l, WL.in_t, WL.notin_t, WL.fl_s, WL.fl_i, WL.fl_n, WL.so_t, WL.so_r, WL.so_lp, WL.len_t, WL.len_r, WL.len_s, WL.int_i, WL.int_b, WL.list_x, WL.tuple_x, WL.min_ii, WL.max_ii, WL.sl_t, WL.sl_l, WL.look_nil, WL.look_cons, WL.putW_nil, WL.putW_cons, WL.x_inKd, WL.x_notinKd, WL.x_getKd, WL.x_dget, WL.key_s, WL.key_i, WL.val_nil, WL.val_cons, WL.inr_eq, WL.start1, WL.line_lt, WL.atI0, WL.atI1, WL.atI2, WL.atI3, WL.atI4, List.map_cons, List.map_nil, List.cons_append, List.nil_append, List.set_cons_zero, List.set_cons_succ, List.length_cons, List.length_nil, List.all_cons, List.all_nil, List.replicate_succ, List.replicate_zero, Nat.reduceAdd, Nat.reduceSub, Nat.zero_add, WL.wd_inj, Nat.reduceLT, Nat.reduceEqDiff, decide_true, decide_false, Bool.false_eq_true, Bool.true_eq_false, Bool.not_true, Bool.not_false, Bool.or_false, Bool.false_or, Bool.or_true, Bool.true_or, Bool.and_self, Bool.and_true, Bool.true_and, ↓reduceIte, reduceCtorEq, WL.line_le, Nat.reduceLeDiff, true_and, and_true, and_self, Option.isSome_some, Option.isSome_none, Int.reduceAdd, Int.reduceSub, Int.reduceMul, Int.add_zero, Int.reduceLT, Int.reduceLE, Int.reduceEq, Int.reduceNeg, WL.put_same, WL.ci0, WL.ci1, WL.ci2, WL.ci3, WL.ci4, WL.ci5, WL.ci6, WL.W_PAIRS, WL.startW, WL.it_t, WL.it_i, WL.it_s, WL.it_n, WL.it_b, WL.il_t, WL.il_i, WL.il_s, WL.il_n, WL.il_b, WL.itl_t, WL.ib_i, WL.ib_s, WL.ib_b, WL.is_i, WL.is_s, WL.ii_i, WL.x_dput, WL.dput_s, WL.dget_s, WL.v_repT])
local macro_rules | `(tactic| walk_at "ws") => `(tactic| simp only [↓WL.x_var0, ↓WL.x_varS, ↓WL.x_c, ↓WL.x_op, ↓WL.x_b, ↓WL.x_chain, ↓WL.x_and, ↓WL.x_or, ↓WL.x_not, ↓WL.x_andV, ↓WL.x_orV, ↓WL.x_notV, ↓WL.x_if, ↓WL.x_orT, ↓WL.x_tr, ↓WL.x_neg, ↓WL.x_nil, ↓WL.x_cons, ↓WL.x_tup, ↓WL.x_lst, ↓WL.x_call, ↓WL.x_lm, ↓WL.x_lm0, ↓WL.x_seq, ↓WL.x_next, ↓WL.x_ifS, ↓WL.x_ret, ↓WL.x_retN, ↓WL.x_drop, ↓WL.x_asg, ↓WL.x_gname, ↓WL.x_gtup, ↓WL.x_gcons, ↓WL.x_gnil, ↓WL.x_gsub, ↓WL.x_set, ↓WL.x_for, ↓WL.x_forR1, ↓WL.x_lc, ↓WL.x_lcR, ↓WL.x_fld, ↓WL.x_setF, ↓WL.x_meth, ↓WL.x_make, ↓WL.x_sl, ↓WL.x_part, ↓WL.x_noPart, ↓WL.x_yes, WL.onB_bl, WL.onS_some, WL.onL_lst, WL.onQ_some, WL.onI_ins, WL.onD_dk, WL.onR_ref, WL.onT_tup, WL.onBo_some, WL.x_app, WL.x_clr, WL.x_ext, WL.v_add, WL.v_addT, WL.v_addS, WL.v_addL, WL.v_sub, WL.v_mul, WL.v_rep, WL.v_mod, WL.v_div, WL.v_pow, WL.v_lt, WL.v_le, WL.v_gt, WL.v_ge, WL.v_isN, WL.v_notN, WL.n_non, WL.n_bl, WL.n_int, WL.n_str, WL.n_ref, WL.n_tup, WL.q_ss, WL.q_ii, WL.q_bb, WL.q_nn, WL.q_is, WL.q_si, WL.q_in, WL.q_ni, WL.q_sn, WL.q_ns, WL.d_ss, WL.d_ii, WL.d_bb, WL.d_nn, WL.d_in, WL.d_ni, WL.ix_t, WL.ix_r, WL.ix_l, WL.in_t, WL.notin_t, WL.fl_s, WL.fl_i, WL.fl_n, WL.so_t, WL.so_r, WL.so_lp, WL.len_t, WL.len_r, WL.len_s, WL.int_i, WL.int_b, WL.list_x, WL.tuple_x, WL.min_ii, WL.max_ii, WL.sl_t, WL.sl_l, WL.look_nil, WL.look_cons, WL.putW_nil, WL.putW_cons, WL.x_inKd, WL.x_notinKd, WL.x_getKd, WL.x_dget, WL.key_s, WL.key_i, WL.val_nil, WL.val_cons, WL.inr_eq, WL.start1, WL.line_lt, WL.atI0, WL.atI1, WL.atI2, WL.atI3, WL.atI4, List.map_cons, List.map_nil, List.cons_append, List.nil_append, List.set_cons_zero, List.set_cons_succ, List.length_cons, List.length_nil, List.all_cons, List.all_nil, List.replicate_succ, List.replicate_zero, Nat.reduceAdd, Nat.reduceSub, Nat.zero_add, WL.wd_inj, Nat.reduceLT, Nat.reduceEqDiff, decide_true, decide_false, Bool.false_eq_true, Bool.true_eq_false, Bool.not_true, Bool.not_false, Bool.or_false, Bool.false_or, Bool.or_true, Bool.true_or, Bool.and_self, Bool.and_true, Bool.true_and, ↓reduceIte, reduceCtorEq, WL.line_le, Nat.reduceLeDiff, true_and, and_true, and_self, Option.isSome_some, Option.isSome_none, Int.reduceAdd, Int.reduceSub, Int.reduceMul, Int.add_zero, Int.reduceLT, Int.reduceLE, Int.reduceEq, Int.reduceNeg, WL.put_same, WL.ci0, WL.ci1, WL.ci2, WL.ci3, WL.ci4, WL.ci5, WL.ci6, WL.W_PAIRS, WL.startW, *, WL.it_t, WL.it_i, WL.it_s, WL.it_n, WL.it_b, WL.il_t, WL.il_i, WL.il_s, WL.il_n, WL.il_b, WL.itl_t, WL.ib_i, WL.ib_s, WL.ib_b, WL.is_i, WL.is_s, WL.ii_i, WL.x_dput, WL.dput_s, WL.dget_s, WL.v_repT])
namespace WL
open PySem L2
/-! ### machines of rooms -/
inductive Lit | set (k : Nat) (e : Rk) | say (e : Rk) | count (k : Nat) (e : Rk)
def Lit.W : Lit → WL.W | .set k e => .tup [.str w_set, .int k, e.W] | .say e => .tup [.str w_say, e.W] | .count k e => .tup [.str w_count, .int k, e.W]
inductive Ex | go (r : Nat) | fork (e : Rk) (a b : Nat) | give (e : Rk) (k : Option Nat) (r : Nat) | hand (w : Nat) (args : List Rk) (k : Option Nat) (r : Nat) | ends (e : Rk) | fault (e : Rk) | shut
def optN (k : Option Nat) : W := optI (k.map Int.ofNat)
def Ex.W : Ex → WL.W
  | .go r => .tup [.str w_go, .int r] | .fork e a b => .tup [.str w_fork, e.W, .int a, .int b] | .give e k r => .tup [.str w_give, e.W, optN k, .int r]
  | .hand w args k r => .tup [.str w_hand, .int w, .tup (args.map Rk.W), optN k, .int r] | .ends e => .tup [.str w_end, e.W] | .fault e => .tup [.str w_fault, e.W] | .shut => .tup [.str w_shut]
structure Rm where
  lit : List Lit
  ex : Ex
  ct : Option (Option Nat × Nat)
  sh : Option Nat
def ctW : Option (Option Nat × Nat) → W | none => .non | some (k, r) => .tup [optN k, .int r]
def Rm.W (r : Rm) : WL.W := .tup [.tup (r.lit.map Lit.W), r.ex.W, ctW r.ct, optN r.sh]
structure Mc where
  params : Nat
  slots : Nat
  rooms : List Rm
/-- what comes of a room -/
inductive Wy | go (r : Nat) | out | way (w : Way)
def Wy.W : Wy → WL.W | .go r => .tup [.str w_go, .int r] | .out => .tup [.str w_out] | .way w => w.W
def Lit.run : Lit → RS → Bool × RS
  | .set k e, (sl, T) => match reck sl e with
    | none => (true, (sl, T))
    | some v => (false, (sl.set k v, T))
  | .say e, (sl, T) => match reck sl e with
    | none => (true, (sl, T))
    | some v => (false, (sl, T.say v))
  | .count k e, (sl, T) => match reck sl e with
    | none => (true, (sl, T))
    | some v => (false, (sl.set k (v % 10), T))
/-- true: a fault of 0 -/
def litsRun : List Lit → RS → Bool × RS
  | [], s => (false, s)
  | l :: ls, s => match l.run s with
    | (true, s') => (true, s')
    | (false, s') => litsRun ls s'
abbrev HR := Nat → List Int → Tk → Way × Tk → Prop
def handTo (k : Option Nat) (r : Nat) (sl : List Int) : Way × Tk → Wy × RS
  | (.ends v, T) => (.go r, (keep k v sl, T))
  | (w, T) => (.way w, (sl, T))
def exTo (H : HR) : Ex → RS → Wy × RS → Prop
  | .go r, s, x => x = (.go r, s)
  | .shut, s, x => x = (.out, s)
  | .fork e a b, s, x => x = match reck s.1 e with
    | none => (.way (.fault 0), s)
    | some v => (.go (if v = 0 then b else a), s)
  | .ends e, s, x => x = match reck s.1 e with
    | none => (.way (.fault 0), s)
    | some v => (.way (.ends v), s)
  | .fault e, s, x => x = match reck s.1 e with
    | none => (.way (.fault 0), s)
    | some v => (.way (.fault v), s)
  | .give e k r, s, x => x = match reck s.1 e with
    | none => (.way (.fault 0), s)
    | some v => match given s.2 v k s.1 with
      | (none, s') => (.go r, s')
      | (some w, s') => (.way w, s')
  | .hand w args k r, s, x => match allReck s.1 args with
    | none => x = (.way (.fault 0), s)
    | some ns => ∃ y, H w ns s.2 y ∧ x = handTo k r s.1 y
def rmTo (H : HR) (rm : Rm) (s : RS) (x : Wy × RS) : Prop := match litsRun rm.lit s with
  | (true, s') => x = (.way (.fault 0), s')
  | (false, s') => exTo H rm.ex s' x
def Rm.next (rm : Rm) : Wy × RS → (Nat × RS) ⊕ (Way × Tk)
  | (.go r, s) => .inl (r, s)
  | (.out, s) => .inr (.shut, s.2)
  | (.way (.fault n), s) => match rm.ct with
    | some (k, r) => .inl (r, (keep k n s.1, s.2))
    | none => .inr (.fault n, s.2)
  | (.way .shut, s) => match rm.sh with
    | some r => .inl (r, s)
    | none => .inr (.shut, s.2)
  | (.way w, s) => .inr (w, s.2)
inductive Goes (H : HR) (rms : List Rm) : Nat → RS → Way × Tk → Prop
  | step {a r : Nat} {s s' : RS} {rm : Rm} {x : Wy × RS} {y : Way × Tk} : rms[a]? = some rm → rmTo H rm s x → rm.next x = .inl (r, s') → Goes H rms r s' y → Goes H rms a s y
  | over {a : Nat} {s : RS} {rm : Rm} {x : Wy × RS} {y : Way × Tk} : rms[a]? = some rm → rmTo H rm s x → rm.next x = .inr y → Goes H rms a s y
def Mc.start (m : Mc) (ns : List Int) (T : Tk) : RS := (ns ++ List.replicate (m.slots - m.params) 0, T)
def Thr (ms : List Mc) : Nat → HR
  | 0 => fun _ _ _ _ => False
  | d + 1 => fun w ns T y => ∃ m, ms[w]? = some m ∧ Goes (Thr ms d) m.rooms 0 (m.start ns T) y
def Lit.ok (m : Nat) : Lit → Prop
  | .set k e => k < m ∧ e.ok m ∧ e.deep < 4
  | .say e => e.ok m ∧ e.deep < 4
  | .count k e => k < m ∧ e.ok m ∧ e.deep < 4
def Ex.ok (ms : List Mc) (m nr : Nat) : Ex → Prop
  | .go r => r < nr
  | .fork e a b => (e.ok m ∧ e.deep < 4) ∧ a < nr ∧ b < nr
  | .give e k r => (e.ok m ∧ e.deep < 4) ∧ (∀ j, k = some j → j < m) ∧ r < nr
  | .hand w args k r => (∃ mc, ms[w]? = some mc ∧ mc.params = args.length) ∧ args.length ≤ 1000 ∧ (∀ e ∈ args, e.ok m ∧ e.deep < 4) ∧ (∀ j, k = some j → j < m) ∧ r < nr
  | .ends e => e.ok m ∧ e.deep < 4
  | .fault e => e.ok m ∧ e.deep < 4
  | .shut => True
structure Rm.ok (ms : List Mc) (m nr : Nat) (r : Rm) : Prop where
  lits : ∀ l ∈ r.lit, l.ok m
  many : r.lit.length ≤ 1000
  ex : r.ex.ok ms m nr
  ct : ∀ k j, r.ct = some (k, j) → j < nr ∧ ∀ i, k = some i → i < m
  sh : ∀ j, r.sh = some j → j < nr
structure Mc.ok (ms : List Mc) (mc : Mc) : Prop where
  le : mc.params ≤ mc.slots
  small : mc.slots ≤ 1000
  some_ : 0 < mc.rooms.length
  many : mc.rooms.length ≤ 1000000
  rooms : ∀ r ∈ mc.rooms, r.ok ms mc.slots mc.rooms.length
/-- what a part of a machine's run keeps -/
structure Kpt (s : RS) (stop : Prop) (s' : RS) : Prop where
  len : s'.1.length = s.1.length
  inr : ∀ i ∈ s'.1, InR i
  deeds : s'.2.deeds = s.2.deeds
  run : ¬stop → s'.2.told.length < s.2.deeds.length
  le : s'.2.told.length ≤ s.2.deeds.length
  tw : s.2.tw ≤ s'.2.tw
theorem Kpt.refl {s : RS} {m : Nat} {p : Prop} (h : Ready s m) : Kpt s p s := ⟨rfl, h.inr, rfl, fun _ => h.run, Nat.le_of_lt h.run, Nat.le_refl _⟩
theorem Kpt.ready {s s' : RS} {m : Nat} {p : Prop} (h : Ready s m) (k : Kpt s p s') (hp : ¬p) : Ready s' m :=
  ⟨k.len.trans h.len, k.inr, fun d hd => h.dok d (by rw [← k.deeds]; exact hd), by have := k.run hp; rw [← k.deeds] at this; exact this⟩
theorem Kpt.then {s s1 s2 : RS} {p q : Prop} (k : Kpt s p s1) (k' : Kpt s1 q s2) : Kpt s q s2 :=
  ⟨k'.len.trans k.len, k'.inr, k'.deeds.trans k.deeds, fun h => by have := k'.run h; rw [k.deeds] at this; exact this, by have := k'.le; rw [k.deeds] at this; exact this, Nat.le_trans k.tw k'.tw⟩
theorem say_tw (T : Tk) (v : Int) : (T.say v).tw = T.tw + 1 := by simp [Tk.tw, Tk.say]; omega
theorem Lit.kept {l : Lit} {s : RS} {m : Nat} (h : Ready s m) (ok : l.ok m) : Kpt s False (l.run s).2 := by
  obtain ⟨sl, T⟩ := s
  cases l with
  | set k e =>
    simp only [Lit.run]
    cases q : reck sl e with
    | none => exact .refl h
    | some v =>
      have hv : InR v := reck_in h.inr (by rw [h.len]; exact ok.2.1) q
      exact ⟨List.length_set, mem_set h.inr hv, rfl, fun _ => h.run, Nat.le_of_lt h.run, Nat.le_refl _⟩
  | count k e =>
    simp only [Lit.run]
    cases q : reck sl e with
    | none => exact .refl h
    | some v =>
      have hv : InR v := reck_in h.inr (by rw [h.len]; exact ok.2.1) q
      exact ⟨List.length_set, mem_set h.inr ⟨by omega, by omega⟩, rfl, fun _ => h.run, Nat.le_of_lt h.run, Nat.le_refl _⟩
  | say e =>
    simp only [Lit.run]
    cases q : reck sl e with
    | none => exact .refl h
    | some v => exact ⟨rfl, h.inr, rfl, fun _ => h.run, Nat.le_of_lt h.run, by rw [say_tw]; exact Nat.le_succ _⟩
theorem lits_kept : ∀ (ls : List Lit) {s : RS} {m : Nat}, Ready s m → (∀ l ∈ ls, l.ok m) → Kpt s False (litsRun ls s).2
  | [], s, m, h, ok => .refl h
  | l :: ls, s, m, h, ok => by
    have k := Lit.kept h (ok l List.mem_cons_self)
    unfold litsRun
    split
    · rename_i s' e
      rw [e] at k
      exact k
    · rename_i s' e
      rw [e] at k
      exact k.then (lits_kept ls (k.ready h id) fun l hl => ok l (List.mem_cons_of_mem _ hl))
theorem given_kpt {s : RS} {m : Nat} (h : Ready s m) (v : Int) (k : Option Nat) : Kpt s ((given s.2 v k s.1).1 = some .stop) (given s.2 v k s.1).2 := by
  have g := given_kept (n := 0) h v k
  exact ⟨g.len, g.inr, g.deeds, fun e => g.run e, g.le, by rw [given_tw]; exact Nat.le_refl _⟩
/-- what is known of a machine's hand -/
def HOk (ms : List Mc) (H : HR) : Prop := ∀ w ns T y m, ms[w]? = some m → ns.length = m.params → (∀ i ∈ ns, InR i) → (∀ d ∈ T.deeds, d.ok) → T.told.length < T.deeds.length → H w ns T y →
  y.2.deeds = T.deeds ∧ (y.1 ≠ .stop → y.2.told.length < T.deeds.length) ∧ y.2.told.length ≤ T.deeds.length ∧ T.tw ≤ y.2.tw ∧ (∀ v, (y.1 = .fault v ∨ y.1 = .ends v) → InR v) ∧ y.1 ≠ .leave
def Wy.stops : Wy → Prop | .way .stop => True | _ => False
def Wy.ok (nr : Nat) : Wy → Prop | .go r => r < nr | .out => True | .way (.fault v) => InR v | .way (.ends v) => InR v | .way .leave => False | .way _ => True
theorem given_ways {T : Tk} {v : Int} {k : Option Nat} {sl : List Int} : ∀ w, (given T v k sl).1 = some w → w = .stop ∨ w = .shut ∨ ∃ n, w = .fault n := by
  intro w e
  unfold given at e
  split at e <;> simp at e <;> subst e
  · exact .inl rfl
  · exact .inr (.inl rfl)
  · exact .inr (.inr ⟨_, rfl⟩)
theorem ex_kept {ms : List Mc} {H : HR} {m nr : Nat} {s : RS} {ex : Ex} {x : Wy × RS} (hH : HOk ms H) (h : Ready s m) (ok : ex.ok ms m nr) (t : exTo H ex s x) : Kpt s x.1.stops x.2 ∧ x.1.ok nr := by
  have flt : ∀ {x}, x = (Wy.way (.fault 0), s) → Kpt s x.1.stops x.2 ∧ x.1.ok nr := fun {x} e => by subst e; exact ⟨.refl h, inR0⟩
  cases ex with
  | go r => cases t; exact ⟨.refl h, ok⟩
  | shut => cases t; exact ⟨.refl h, trivial⟩
  | fork e a b =>
    simp only [exTo] at t
    cases q : reck s.1 e with
    | none => rw [q] at t; exact flt t
    | some v =>
      rw [q] at t
      subst t
      refine ⟨.refl h, ?_⟩
      show (if v = 0 then b else a) < nr
      split
      · exact ok.2.2
      · exact ok.2.1
  | ends e =>
    simp only [exTo] at t
    cases q : reck s.1 e with
    | none => rw [q] at t; exact flt t
    | some v => rw [q] at t; subst t; exact ⟨.refl h, reck_in h.inr (by rw [h.len]; exact ok.1) q⟩
  | fault e =>
    simp only [exTo] at t
    cases q : reck s.1 e with
    | none => rw [q] at t; exact flt t
    | some v => rw [q] at t; subst t; exact ⟨.refl h, reck_in h.inr (by rw [h.len]; exact ok.1) q⟩
  | give e k r =>
    simp only [exTo] at t
    cases q : reck s.1 e with
    | none => rw [q] at t; exact flt t
    | some v =>
      rw [q] at t
      simp only at t
      have g := given_kpt h v k
      have gk := given_kept (n := 0) h v k
      have gw := given_ways (T := s.2) (v := v) (k := k) (sl := s.1)
      cases e : given s.2 v k s.1 with
      | mk w s' =>
        rw [e] at t g gk gw
        cases w with
        | none => subst t; exact ⟨⟨g.len, g.inr, g.deeds, fun _ => g.run (fun z => nomatch z), g.le, g.tw⟩, ok.2.2⟩
        | some w =>
          subst t
          rcases gw w rfl with rfl | rfl | ⟨n, rfl⟩
          · exact ⟨⟨g.len, g.inr, g.deeds, fun z => absurd trivial z, g.le, g.tw⟩, trivial⟩
          · exact ⟨⟨g.len, g.inr, g.deeds, fun _ => g.run (fun z => nomatch z), g.le, g.tw⟩, trivial⟩
          · exact ⟨⟨g.len, g.inr, g.deeds, fun _ => g.run (fun z => nomatch z), g.le, g.tw⟩, gk.way n (.inl rfl)⟩
  | hand w args k r =>
    simp only [exTo] at t
    cases q : allReck s.1 args with
    | none => rw [q] at t; exact flt t
    | some ns =>
      rw [q] at t
      obtain ⟨y, hy, rfl⟩ := t
      obtain ⟨⟨mc, hm, hp⟩, _, ha, hk, hr⟩ := ok
      obtain ⟨_, _, h3, h4⟩ := allReck_some q
      obtain ⟨b1, b2, b3, b4, b5, b6⟩ := hH w ns s.2 y mc hm (by rw [h4, hp]) (h3 m h.inr h.len.symm fun e he => (ha e he).1) h.dok h.run hy
      obtain ⟨y, T⟩ := y
      cases y with
      | leave => exact absurd rfl b6
      | ends v => exact ⟨⟨len_keep, mem_keep h.inr (b5 v (.inr rfl)), b1, fun _ => b2 (fun z => nomatch z), b3, b4⟩, hr⟩
      | fault v => exact ⟨⟨rfl, h.inr, b1, fun _ => b2 (fun z => nomatch z), b3, b4⟩, b5 v (.inl rfl)⟩
      | shut => exact ⟨⟨rfl, h.inr, b1, fun _ => b2 (fun z => nomatch z), b3, b4⟩, trivial⟩
      | stop => exact ⟨⟨rfl, h.inr, b1, fun z => absurd trivial z, b3, b4⟩, trivial⟩
theorem rm_kept {ms : List Mc} {H : HR} {m nr : Nat} {s : RS} {rm : Rm} {x : Wy × RS} (hH : HOk ms H) (h : Ready s m) (ok : rm.ok ms m nr) (t : rmTo H rm s x) : Kpt s x.1.stops x.2 ∧ x.1.ok nr := by
  have k := lits_kept rm.lit h ok.lits
  unfold rmTo at t
  split at t
  · rename_i s' e
    rw [e] at k
    subst t
    exact ⟨⟨k.len, k.inr, k.deeds, fun _ => k.run id, k.le, k.tw⟩, inR0⟩
  · rename_i s' e
    rw [e] at k
    obtain ⟨k1, k2⟩ := ex_kept hH (k.ready h id) ok.ex t
    exact ⟨k.then k1, k2⟩
/-- a way out of a machine -/
def YOk (s : RS) (y : Way × Tk) : Prop := y.2.deeds = s.2.deeds ∧ (y.1 ≠ .stop → y.2.told.length < s.2.deeds.length) ∧ y.2.told.length ≤ s.2.deeds.length ∧ s.2.tw ≤ y.2.tw ∧ (∀ v, (y.1 = .fault v ∨ y.1 = .ends v) → InR v) ∧ y.1 ≠ .leave
theorem next_kept {ms : List Mc} {m nr : Nat} {s : RS} {rm : Rm} {x : Wy × RS} (h : Ready s m) (ok : rm.ok ms m nr) (k : Kpt s x.1.stops x.2) (o : x.1.ok nr) :
    (∀ r s', rm.next x = .inl (r, s') → r < nr ∧ Kpt s False s') ∧ ∀ y, rm.next x = .inr y → YOk s y := by
  obtain ⟨w, sl, T⟩ := x
  have k0 : ¬w.stops → Kpt s False (sl, T) := fun n => ⟨k.len, k.inr, k.deeds, fun _ => k.run n, k.le, k.tw⟩
  have y0 : ∀ v : Way, v ≠ .leave → (v ≠ .stop → ¬w.stops) → (∀ n, (v = .fault n ∨ v = .ends n) → InR n) → YOk s (v, T) := fun v h1 h2 h3 => ⟨k.deeds, fun n => k.run (h2 n), k.le, k.tw, h3, h1⟩
  cases w with
  | go r =>
    refine ⟨fun r' s' e => ?_, fun y e => (nomatch e)⟩
    simp only [Rm.next, Sum.inl.injEq, Prod.mk.injEq] at e
    obtain ⟨rfl, rfl⟩ := e
    exact ⟨o, k0 id⟩
  | out =>
    refine ⟨fun r' s' e => (nomatch e), fun y e => ?_⟩
    simp only [Rm.next, Sum.inr.injEq] at e
    subst e
    exact y0 _ (fun z => nomatch z) (fun _ => id) (fun n z => z.elim (fun z => nomatch z) (fun z => nomatch z))
  | way v =>
    cases v with
    | leave => exact o.elim
    | stop =>
      refine ⟨fun r' s' e => (nomatch e), fun y e => ?_⟩
      simp only [Rm.next, Sum.inr.injEq] at e
      subst e
      exact y0 _ (fun z => nomatch z) (fun n => absurd rfl n) (fun n z => z.elim (fun z => nomatch z) (fun z => nomatch z))
    | ends v =>
      refine ⟨fun r' s' e => (nomatch e), fun y e => ?_⟩
      simp only [Rm.next, Sum.inr.injEq] at e
      subst e
      exact y0 _ (fun z => nomatch z) (fun _ => id) (fun n z => z.elim (fun z => nomatch z) (fun z => by cases z; exact o))
    | fault v =>
      cases q : rm.ct with
      | none =>
        refine ⟨fun r' s' e => by simp [Rm.next, q] at e, fun y e => ?_⟩
        simp only [Rm.next, q, Sum.inr.injEq] at e
        subst e
        exact y0 _ (fun z => nomatch z) (fun _ => id) (fun n z => z.elim (fun z => by cases z; exact o) (fun z => nomatch z))
      | some kr =>
        obtain ⟨kk, r⟩ := kr
        refine ⟨fun r' s' e => ?_, fun y e => by simp [Rm.next, q] at e⟩
        simp only [Rm.next, q, Sum.inl.injEq, Prod.mk.injEq] at e
        obtain ⟨rfl, rfl⟩ := e
        have k1 := k0 id
        exact ⟨(ok.ct kk r q).1, len_keep.trans k1.len, mem_keep k1.inr o, k1.deeds, k1.run, k1.le, k1.tw⟩
    | shut =>
      cases q : rm.sh with
      | none =>
        refine ⟨fun r' s' e => by simp [Rm.next, q] at e, fun y e => ?_⟩
        simp only [Rm.next, q, Sum.inr.injEq] at e
        subst e
        exact y0 _ (fun z => nomatch z) (fun _ => id) (fun n z => z.elim (fun z => nomatch z) (fun z => nomatch z))
      | some r =>
        refine ⟨fun r' s' e => ?_, fun y e => by simp [Rm.next, q] at e⟩
        simp only [Rm.next, q, Sum.inl.injEq, Prod.mk.injEq] at e
        obtain ⟨rfl, rfl⟩ := e
        exact ⟨ok.sh r q, k0 id⟩
theorem Goes.kept {ms : List Mc} {H : HR} {rms : List Rm} {m a : Nat} {s : RS} {y : Way × Tk} (hH : HOk ms H) (ok : ∀ r ∈ rms, r.ok ms m rms.length) (g : Goes H rms a s y) : Ready s m → YOk s y := by
  induction g with
  | step h1 h2 h3 h4 ih =>
    intro h
    have o := ok _ (List.mem_of_getElem? h1)
    obtain ⟨k1, k2⟩ := rm_kept hH h o h2
    obtain ⟨_, k3⟩ := (next_kept h o k1 k2).1 _ _ h3
    obtain ⟨z1, z2, z3, z4, z5, z6⟩ := ih (k3.ready h id)
    have e := k3.deeds
    exact ⟨z1.trans e, fun n => by rw [← e]; exact z2 n, by rw [← e]; exact z3, Nat.le_trans k3.tw z4, z5, z6⟩
  | over h1 h2 h3 =>
    intro h
    have o := ok _ (List.mem_of_getElem? h1)
    obtain ⟨k1, k2⟩ := rm_kept hH h o h2
    exact (next_kept h o k1 k2).2 _ h3
theorem Mc.ready {ms : List Mc} {mc : Mc} {ns : List Int} {T : Tk} (ok : mc.ok ms) (hl : ns.length = mc.params) (hn : ∀ i ∈ ns, InR i) (hd : ∀ d ∈ T.deeds, d.ok) (hr : T.told.length < T.deeds.length) : Ready (mc.start ns T) mc.slots :=
  ⟨by have := ok.le; simp [Mc.start, hl]; omega, fun i hi => (List.mem_append.mp hi).elim (hn i) fun hi => by rw [(List.mem_replicate.mp hi).2]; exact inR0, hd, hr⟩
theorem Thr.kept {ms : List Mc} (ok : ∀ m ∈ ms, m.ok ms) : ∀ d, HOk ms (Thr ms d)
  | 0 => fun _ _ _ _ _ _ _ _ _ _ h => h.elim
  | d + 1 => fun w ns T y m hm hl hn hd hr h => by
    obtain ⟨m', hm', g⟩ := h
    rw [hm] at hm'; cases hm'
    have o := ok _ (List.mem_of_getElem? hm)
    exact g.kept (Thr.kept ok d) o.rooms (Mc.ready o hl hn hd hr)
end WL
namespace WL
open PySem L2
/-! ### where a run of machines stands -/
def msW (ms : List Mc) (ras : List Addr) : List W := List.zipWith (fun m a => .tup [.int (m.params : Int), .int (m.slots : Int), .ref a]) ms ras
def Hs (CR me mr tk : Addr) (ms : List Mc) (ras : List Addr) (x : Addr) (o : MO) : Prop :=
  (x = me ∧ o = .ins CR [(w_machines, .ref mr), (w_talk, .ref tk)]) ∨ (x = mr ∧ o = .lst (msW ms ras)) ∨ ∃ (i : Nat) (m : Mc), ms[i]? = some m ∧ ras[i]? = some x ∧ o = .lst (m.rooms.map Rm.W)
structure RnT (CR CT : Addr) (S : Sto) (me mr tk ad at_ as_ : Addr) (ms : List Mc) (ras : List Addr) (T : Tk) : Prop where
  held : ∀ x o, Hs CR me mr tk ms ras x o → S x = some o ∧ x ≠ tk ∧ x ≠ at_ ∧ x ≠ as_
  lens : ras.length = ms.length
  htk : TkAt CT S tk ad at_ as_ T
  many : T.deeds.length ≤ 1000
structure RnAt (CR CT : Addr) (S : Sto) (me mr tk ad at_ as_ : Addr) (ms : List Mc) (ras : List Addr) (sl : Addr) (s : RS) (m : Nat) : Prop where
  rt : RnT CR CT S me mr tk ad at_ as_ ms ras s.2
  nsl : ∀ x o, Hs CR me mr tk ms ras x o → x ≠ sl
  hsl : S sl = some (slotsM s.1)
  d1 : sl ≠ ad
  d2 : sl ≠ at_
  d3 : sl ≠ as_
  rd : Ready s m
section
variable {CR CT : Addr} {S S' : Sto} {me mr tk ad at_ as_ as2 sl : Addr} {ms : List Mc} {ras : List Addr} {T T' : Tk} {s s' : RS} {m : Nat}
theorem RnT.keep (h : RnT CR CT S me mr tk ad at_ as_ ms ras T) (t : TkAt CT S' tk ad at_ as2 T') (k : ∀ x o, x ≠ tk → x ≠ at_ → x ≠ as_ → Hs CR me mr tk ms ras x o → S x = some o → S' x = some o) (new : as2 = as_ ∨ S as2 = none) (e : T'.deeds = T.deeds) : RnT CR CT S' me mr tk ad at_ as2 ms ras T' := by
  refine ⟨fun x o hx => ?_, h.lens, t, by rw [e]; exact h.many⟩
  obtain ⟨h1, h2, h3, h4⟩ := h.held x o hx
  refine ⟨k x o h2 h3 h4 hx h1, h2, h3, ?_⟩
  rcases new with z | z
  · rw [z]; exact h4
  · exact ne_none h1 z
theorem RnT.up (h : RnT CR CT S me mr tk ad at_ as_ ms ras T) (l : Le S S') : RnT CR CT S' me mr tk ad at_ as_ ms ras T := h.keep (h.htk.keep l) (fun x o _ _ _ _ e => l _ _ e) (.inl rfl) rfl
theorem RnAt.to {p : Prop} (h : RnAt CR CT S me mr tk ad at_ as_ ms ras sl s m) (t : WkTo CT S S' tk ad at_ as_ as2 sl s') (k : Kpt s p s') (hp : ¬p) : RnAt CR CT S' me mr tk ad at_ as2 ms ras sl s' m := by
  refine ⟨h.rt.keep t.htk (fun x o h1 h2 h3 h4 e => t.keep x o h1 h2 h3 (h.nsl x o h4) e) t.new k.deeds, h.nsl, t.hsl, h.d1, h.d2, ?_, k.ready h.rd hp⟩
  rcases t.new with z | z
  · rw [z]; exact h.d3
  · exact ne_none h.hsl z
theorem RnAt.refl (h : RnAt CR CT S me mr tk ad at_ as_ ms ras sl s m) : WkTo CT S S tk ad at_ as_ as_ sl s := ⟨h.rt.htk, h.hsl, fun _ _ _ _ _ _ e => e, .inl rfl⟩
end
/-! ### the readings of Run -/
def Ex.isHand : Ex → Prop | .hand _ _ _ _ => True | _ => False
end WL
namespace WL
open PySem L2
/-! ### ran -/
/-- what a machine tells -/
def Ran (ms : List Mc) (n wi : Nat) (ns : List Int) (ds : List Deed) (F : List Told) : Prop := match ds with
  | .ask _ :: _ => ∃ y : Way × Tk, Thr ms n wi ns ⟨ds, [], []⟩ y ∧ y.2.tw < 16000000 ∧ F = (y.2.close y.1).all
  | _ => F = (⟨ds, [], []⟩ : Tk).all
structure Runnable (ms : List Mc) (wi : Nat) (ns : List Int) (ds : List Deed) : Prop where
  oks : ∀ mc ∈ ms, mc.ok ms
  at_ : ∃ mc, ms[wi]? = some mc ∧ ns.length = mc.params
  nin : ∀ i ∈ ns, InR i
  dok : ∀ d ∈ ds, d.ok
  dl : ds.length ≤ 1000
/-- machines in the store -/
structure MsAt (S : Sto) (mr : Addr) (ms : List Mc) (ras : List Addr) : Prop where
  lst : S mr = some (.lst (msW ms ras))
  lens : ras.length = ms.length
  rms : ∀ (i : Nat) (m : Mc) (a : Addr), ms[i]? = some m → ras[i]? = some a → S a = some (.lst (m.rooms.map Rm.W))
theorem MsAt.keep {S S' : Sto} {mr : Addr} {ms : List Mc} {ras : List Addr} (h : MsAt S mr ms ras) (l : Le S S') : MsAt S' mr ms ras := ⟨l _ _ h.lst, h.lens, fun i m a h1 h2 => l _ _ (h.rms i m a h1 h2)⟩
def sp_ran (n : Nat) : WSp := fun ws S Q => ∃ (mr d0 : Addr) (ms : List Mc) (ras : List Addr) (wi : Nat) (ns : List Int) (ds : List Deed) (F : List Told), ws = [.ref mr, .int wi, .tup (ns.map .int), .ref d0] ∧ MsAt S mr ms ras ∧ S d0 = some (deedsM ds) ∧ Runnable ms wi ns ds ∧ Ran ms n wi ns ds F ∧
  ∀ S' q, Le S S' → S q = none → S' q = some (.lst (F.map toldW)) → Q (.ref q) S'
theorem ms_len {ms : List Mc} {ras : List Addr} (h : ras.length = ms.length) : (msW ms ras).length = ms.length := by simp [msW, h]
end WL
namespace WL
open PySem L2
/-! ### doors, renamed -/
def Ex.doors : Ex → List Nat | .go r => [r] | .fork _ a b => [a, b] | .give _ _ r => [r] | .hand _ _ _ r => [r] | _ => []
def Rm.doors (r : Rm) : List Nat := r.ex.doors ++ ((r.ct.map (·.2)).toList ++ r.sh.toList)
def Ex.ren (f : Nat → Nat) : Ex → Ex | .go r => .go (f r) | .fork e a b => .fork e (f a) (f b) | .give e k r => .give e k (f r) | .hand w as k r => .hand w as k (f r) | x => x
def Rm.ren (f : Nat → Nat) (r : Rm) : Rm := ⟨r.lit, r.ex.ren f, r.ct.map fun kr => (kr.1, f kr.2), r.sh.map f⟩
def natsW (l : List Nat) : List W := l.map fun (r : Nat) => .int (r : Int)
theorem t_go : tab_DOORS w_go = some (some (.int 1)) := by simp only [tab_DOORS, wd_inj, Nat.reduceLT, Nat.reduceEqDiff, if_true, if_false]
theorem t_fork : tab_DOORS w_fork = some (some (.int 2)) := by simp only [tab_DOORS, wd_inj, Nat.reduceLT, Nat.reduceEqDiff, if_true, if_false]
theorem t_give : tab_DOORS w_give = some (some (.int 3)) := by simp only [tab_DOORS, wd_inj, Nat.reduceLT, Nat.reduceEqDiff, if_true, if_false]
theorem t_hand : tab_DOORS w_hand = some (some (.int 4)) := by simp only [tab_DOORS, wd_inj, Nat.reduceLT, Nat.reduceEqDiff, if_true, if_false]
theorem t_end : tab_DOORS w_end = some none := by simp only [tab_DOORS, wd_inj, Nat.reduceLT, Nat.reduceEqDiff, if_true, if_false]
theorem t_fault : tab_DOORS w_fault = some none := by simp only [tab_DOORS, wd_inj, Nat.reduceLT, Nat.reduceEqDiff, if_true, if_false]
theorem t_shut : tab_DOORS w_shut = some none := by simp only [tab_DOORS, wd_inj, Nat.reduceLT, Nat.reduceEqDiff, if_true, if_false]
theorem cut_take {ws : List W} {n : Nat} : cutW ws none (some (n : Int)) = ws.take n := by
  unfold cutW
  rw [HT.sIx_nat, HT.sIx_none, List.drop_zero, Nat.sub_zero]
  by_cases h : n ≤ ws.length
  · rw [Nat.min_eq_left h]
  · rw [Nat.min_eq_right (by omega), List.take_of_length_le (Nat.le_refl _), List.take_of_length_le (by omega)]
theorem cd1 {a b : W} : cutW [a, b] (some 1) none = [b] := cut_drop (n := 1)
theorem cd2 {a b c d : W} : cutW [a, b, c, d] (some 2) none = [c, d] := cut_drop (n := 2)
theorem cd3 {a b c d : W} : cutW [a, b, c, d] (some 3) none = [d] := cut_drop (n := 3)
theorem cd4 {a b c d e : W} : cutW [a, b, c, d, e] (some 4) none = [e] := cut_drop (n := 4)
def sp_doors : WSp := fun ws S Q => ∃ rm : Rm, ws = [rm.W] ∧ ∀ S' p, Le S S' → S p = none → S' p = some (.lst (natsW rm.doors)) → Q (.ref p) S'
theorem isl_put {S : Sto} {p : Addr} {ws : List W} : isLst (put S p (.lst ws)) (.ref p) := ⟨ws, by simp only [rdl, put_same]⟩
theorem r_doors (a_DOORS : Addr) : ∀ ws S Q, Up Q → sp_doors ws S Q → t_doors a_DOORS { nx := fun _ S' => Q .non S', rt := Q } (startW 3 ws) S := by
  rintro ws S Q up ⟨rm, rfl, q⟩
  obtain ⟨lit, ex, ct, sh⟩ := rm
  have al : ∀ n : Nat, n ≤ 10 → n < sizeLine := fun n h => small_len (by omega)
  have al' : ∀ n : Nat, n ≤ 10 → n ≤ sizeLine := fun n h => Nat.le_of_lt (small_len (by omega))
  have pp : ∀ {S : Sto} {p : Addr} {o o' : MO}, put (put S p o) p o' = put S p o' := fun {S p o o'} => put_put
  have base : ∀ (S : Sto) (p : Addr) (l : List Nat), l.length ≤ 5 → S p = none → (∀ S', S' = put S p (.lst (natsW (l ++ ((ct.map (·.2)).toList ++ sh.toList)))) → Q (.ref p) S') → ∀ x1 : W,
      (wSeq (wIfS (wB (wOp rNotN (wOp rIxW (wVar 0) (wC (.int 2))) (wC .non)))
        (wDrop (wLm rAppW (wVar 2) (wCons (wOp rIxW (wOp rIxW (wVar 0) (wC (.int 2))) (wC (.int 1))) wNil)))
        wNext)
        (l_doors_2 a_DOORS)) { nx := fun _ S' => Q .non S', rt := Q } [some (Rm.W ⟨lit, ex, ct, sh⟩), some x1, some (.ref p)] (put S p (.lst (natsW l))) := by
    intro S p l hl hp q x1
    cases ct with
    | none =>
      cases sh with
      | none =>
        simp only [Option.map, Option.toList, List.append_nil] at q
        unfold l_doors_2 l_doors_1
        simp only [Rm.W, ctW, optN, Option.map, optI]
        walk_at "wx"
        exact q _ rfl
      | some j =>
        simp only [Option.map, Option.toList, List.nil_append, natsW, List.map_append, List.map_cons, List.map_nil] at q
        unfold l_doors_2 l_doors_1
        simp only [Rm.W, ctW, optN, Option.map, optI, natsW, Int.ofNat_eq_natCast]
        repeat (first | simp only [pp] | walk_at "wx")
        exact ⟨isl_put, al _ (by rw [List.length_map]; omega), q _ rfl⟩
    | some kr =>
      obtain ⟨k, r⟩ := kr
      cases sh with
      | none =>
        simp only [Option.map, Option.toList, List.append_nil, natsW, List.map_append, List.map_cons, List.map_nil] at q
        unfold l_doors_2 l_doors_1
        simp only [Rm.W, ctW, optN, Option.map, optI, natsW, Int.ofNat_eq_natCast]
        repeat (first | simp only [pp] | walk_at "wx")
        exact ⟨isl_put, al _ (by rw [List.length_map]; omega), q _ rfl⟩
      | some j =>
        simp only [Option.map, Option.toList, natsW, List.map_append, List.map_cons, List.map_nil] at q
        unfold l_doors_2 l_doors_1
        simp only [Rm.W, ctW, optN, Option.map, optI, natsW, Int.ofNat_eq_natCast]
        repeat (first | simp only [pp] | walk_at "wx")
        refine ⟨isl_put, al _ (by rw [List.length_map]; omega), isl_put, al _ (by rw [List.length_append, List.length_map, List.length_singleton]; omega), q _ ?_⟩
        simp only [List.append_assoc]
  simp only [t_doors]
  generalize hB : (wSeq (wIfS (wB (wOp rNotN (wOp rIxW (wVar 0) (wC (.int 2))) (wC .non)))
        (wDrop (wLm rAppW (wVar 2) (wCons (wOp rIxW (wOp rIxW (wVar 0) (wC (.int 2))) (wC (.int 1))) wNil)))
        wNext)
        (l_doors_2 a_DOORS)) = B at *
  have rows : Rm.W ⟨lit, ex, ct, sh⟩ = .tup [.tup (lit.map Lit.W), ex.W, ctW ct, optN sh] := rfl
  rw [rows] at base ⊢
  have fin : ∀ (S1 : Sto) (p : Addr), Le S S1 → S1 p = none → ∀ S', S' = put S1 p (.lst (natsW (ex.doors ++ ((ct.map (·.2)).toList ++ sh.toList)))) → Q (.ref p) S' := fun S1 p l1 h1 S' e => by
    subst e
    exact q _ p (l1.trans (Le.put h1)) (l1.free h1) put_same
  cases ex with
  | go r =>
    simp only [Ex.W]
    repeat (first | simp only [x_inKd t_go, x_getKd t_go, cd1, so_t] | walk_at "wx")
    intro p1 h1
    refine base _ p1 [r] (by simp) h1 (fin _ p1 (Le.refl) h1) _
  | fork e a b =>
    simp only [Ex.W]
    repeat (first | simp only [x_inKd t_fork, x_getKd t_fork, cd2, so_t] | walk_at "wx")
    intro p1 h1
    refine base _ p1 [a, b] (by simp) h1 (fin _ p1 (Le.refl) h1) _
  | give e k r =>
    simp only [Ex.W]
    repeat (first | simp only [x_inKd t_give, x_getKd t_give, cd3, so_t] | walk_at "wx")
    intro p1 h1
    refine base _ p1 [r] (by simp) h1 (fin _ p1 (Le.refl) h1) _
  | hand w args k r =>
    simp only [Ex.W]
    repeat (first | simp only [x_inKd t_hand, x_getKd t_hand, cd4, so_t] | walk_at "wx")
    intro p1 h1
    refine base _ p1 [r] (by simp) h1 (fin _ p1 (Le.refl) h1) _
  | ends e =>
    simp only [Ex.W]
    repeat (first | simp only [x_inKd t_end] | walk_at "wx")
    intro p1 h1
    refine base _ p1 [] (by simp) h1 (fin _ p1 (Le.refl) h1) _
  | fault e =>
    simp only [Ex.W]
    repeat (first | simp only [x_inKd t_fault] | walk_at "wx")
    intro p1 h1
    refine base _ p1 [] (by simp) h1 (fin _ p1 (Le.refl) h1) _
  | shut =>
    simp only [Ex.W]
    repeat (first | simp only [x_inKd t_shut] | walk_at "wx")
    intro p1 h1
    refine base _ p1 [] (by simp) h1 (fin _ p1 (Le.refl) h1) _
/-- renamed: with the numbers f tells of its doors -/
def sp_renamed : WSp := fun ws S Q => ∃ (rm : Rm) (p : Addr) (f : Nat → Nat), ws = [rm.W, .ref p] ∧ S p = some (.lst (natsW (rm.doors.map f))) ∧ ∀ S', Le S S' → Q (rm.ren f).W S'
theorem ct1 {a b : W} : cutW [a, b] none (some 1) = [a] := cut_take (n := 1)
theorem ct2 {a b c d : W} : cutW [a, b, c, d] none (some 2) = [a, b] := cut_take (n := 2)
theorem ct3 {a b c d : W} : cutW [a, b, c, d] none (some 3) = [a, b, c] := cut_take (n := 3)
theorem ct4 {a b c d e : W} : cutW [a, b, c, d, e] none (some 4) = [a, b, c, d] := cut_take (n := 4)
theorem cf1 {a : W} : cutW [a] none (some 1) = [a] := cut_take (n := 1)
theorem cf2 {a b : W} : cutW [a, b] none (some 2) = [a, b] := cut_take (n := 2)
theorem small_le {n : Nat} (h : n ≤ 10) : n ≤ sizeLine := Nat.le_of_lt (small_len (by omega))
theorem atI_lst {ws : List W} {x : W} : atI (ws ++ [x]) (-1) = some x := by
  unfold atI ixN
  rw [if_neg (by omega), if_pos (by simp; omega)]
  simp only [Option.bind]
  rw [show ((-1 : Int) + ((ws ++ [x]).length : Int)).toNat = ws.length by simp; omega]
  simp
theorem atI_mid {ws us : List W} {x : W} : atI (ws ++ x :: us) (ws.length : Int) = some x := atI_nat (by simp)
theorem nats_len (l : List Nat) : (natsW l).length = l.length := by simp [natsW]
theorem ren_tail {a_DOORS p : Addr} {Q : WQ} {S : Sto} {x0 : Option W} {lit wy : W} (ct : Option (Option Nat × Nat)) (sh : Option Nat) {f : Nat → Nat} {pre : List Nat} (hp : S p = some (.lst (natsW (pre ++ ((ct.map (·.2)).toList ++ sh.toList).map f))))
    (q : Q (.tup [lit, wy, ctW (ct.map fun kr => (kr.1, f kr.2)), optN (sh.map f)]) S) :
    (wSeq (wIfS (wB (wOp rNotN (wVar 4) (wC .non)))
  (wAsg (wTup (wCons (wOp rIxW (wVar 4) (wC (.int 0))) (wCons (wOp rIxW (wVar 1) (wVar 6)) wNil))) (gNameW 4))
  wNext)
  (l_renamed_2 a_DOORS)) { nx := fun _ S' => Q .non S', rt := Q } [x0, some (.ref p), some lit, some wy, some (ctW ct), some (optN sh), some (.int (pre.length : Int))] S := by
  have e1 : ∀ {us : List Nat} {r : Nat}, atI (natsW (pre ++ r :: us)) (pre.length : Int) = some (.int (r : Int)) := fun {us r} => by
    have := atI_mid (ws := natsW pre) (us := natsW us) (x := .int (r : Int))
    rw [nats_len] at this
    simpa [natsW] using this
  have e2 : ∀ {ws : List Nat} {r : Nat}, atI (natsW (ws ++ [r])) (-1) = some (.int (r : Int)) := fun {ws r} => by
    have := atI_lst (ws := natsW ws) (x := .int (r : Int))
    simpa [natsW] using this
  simp only [l_renamed_2, l_renamed_1]
  cases ct with
  | none =>
    cases sh with
    | none =>
      simp only [ctW, optN, Option.map, optI] at q ⊢
      walk_at "wx"
      exact q
    | some j =>
      simp only [Option.map, Option.toList, List.map_append, List.map_cons, List.map_nil, List.nil_append] at hp
      simp only [ctW, optN, Option.map, optI, Int.ofNat_eq_natCast] at q ⊢
      repeat (first | simp only [hp, onL_lst, e2, onS_some] | walk_at "wx")
      exact q
  | some kr =>
    obtain ⟨kk, rr⟩ := kr
    cases sh with
    | none =>
      simp only [Option.map, Option.toList, List.map_append, List.map_cons, List.map_nil, List.nil_append, List.append_nil, List.cons_append] at hp
      simp only [ctW, Option.map] at q ⊢
      generalize optN kk = ok at *
      simp only [optN, Option.map, optI] at q ⊢
      repeat (first | simp only [hp, onL_lst, e1, onS_some] | walk_at "wx")
      exact q
    | some j =>
      simp only [Option.map, Option.toList, List.map_append, List.map_cons, List.map_nil, List.nil_append, List.cons_append] at hp
      have e3 : atI (natsW (pre ++ [f rr, f j])) (-1) = some (.int (f j : Int)) := by
        have := e2 (ws := pre ++ [f rr]) (r := f j)
        simpa using this
      simp only [ctW, Option.map] at q ⊢
      generalize optN kk = ok at *
      simp only [optN, Option.map, optI, Int.ofNat_eq_natCast] at q ⊢
      repeat (first | simp only [hp, onL_lst, e1, e3, onS_some] | walk_at "wx")
      exact q
theorem nats_take {a b : List Nat} : (natsW (a ++ b)).take a.length = natsW a := by simp [natsW]
theorem r_renamed (a_DOORS : Addr) : ∀ ws S Q, Up Q → sp_renamed ws S Q → t_renamed a_DOORS { nx := fun _ S' => Q .non S', rt := Q } (startW 7 ws) S := by
  rintro ws S Q up ⟨rm, p, f, rfl, hp, q⟩
  obtain ⟨lit, ex, ct, sh⟩ := rm
  have hp' : S p = some (.lst (natsW (ex.doors.map f ++ ((ct.map (·.2)).toList ++ sh.toList).map f))) := by rw [← List.map_append]; exact hp
  have tail := fun (p1 : Addr) (h1 : S p1 = none) o (x0 : Option W) (wy : W) (hw : wy = (ex.ren f).W) => ren_tail (a_DOORS := a_DOORS) (Q := Q) (S := put S p1 o) (x0 := x0) (lit := .tup (lit.map Lit.W)) (wy := wy) ct sh (f := f) (pre := ex.doors.map f) (Le.put h1 _ _ hp') (by rw [hw]; exact q _ (Le.put h1))
  have tk : ∀ k : Nat, k = (ex.doors.map f).length → cutW (natsW (ex.doors.map f ++ ((ct.map (·.2)).toList ++ sh.toList).map f)) none (some (k : Int)) = natsW (ex.doors.map f) := fun k e => by rw [cut_take, e, nats_take]
  generalize hN : natsW (ex.doors.map f ++ ((ct.map (·.2)).toList ++ sh.toList).map f) = N at *
  clear hp hN q
  unfold t_renamed
  simp only [Rm.W]
  generalize hT : (wSeq (wIfS (wB (wOp rNotN (wVar 4) (wC .non))) (wAsg (wTup (wCons (wOp rIxW (wVar 4) (wC (.int 0))) (wCons (wOp rIxW (wVar 1) (wVar 6)) wNil))) (gNameW 4)) wNext) (l_renamed_2 a_DOORS)) = T at *
  clear hT
  generalize ctW ct = cw at *
  generalize optN sh = sw at *
  cases ex with
  | go r =>
    have t1 := tk 1 rfl
    simp only [Ex.ren, Ex.W, Ex.doors, List.map_cons, List.map_nil, List.length_cons, List.length_nil, natsW] at tail t1 ⊢
    repeat (first | simp only [x_inKd t_go, x_getKd t_go, ct1, so_t, hp', onL_lst] | walk_at "wx")
    intro p1 h1
    rw [show (1 : Int) = ((1 : Nat) : Int) from rfl, t1]
    have tl := tail p1 h1
    refine ⟨small_le (by simp), ?_⟩
    simpa using tl _ _ _ rfl
  | fork e a b =>
    have t1 := tk 2 rfl
    simp only [Ex.ren, Ex.W, Ex.doors, List.map_cons, List.map_nil, List.length_cons, List.length_nil, natsW] at tail t1 ⊢
    repeat (first | simp only [x_inKd t_fork, x_getKd t_fork, ct2, so_t, hp', onL_lst] | walk_at "wx")
    intro p1 h1
    rw [show (2 : Int) = ((2 : Nat) : Int) from rfl, t1]
    have tl := tail p1 h1
    refine ⟨small_le (by simp), ?_⟩
    simpa using tl _ _ _ rfl
  | give e k r =>
    have t1 := tk 1 rfl
    simp only [Ex.ren, Ex.W, Ex.doors, List.map_cons, List.map_nil, List.length_cons, List.length_nil, natsW] at tail t1 ⊢
    repeat (first | simp only [x_inKd t_give, x_getKd t_give, ct3, so_t, hp', onL_lst] | walk_at "wx")
    intro p1 h1
    rw [show (1 : Int) = ((1 : Nat) : Int) from rfl, t1]
    have tl := tail p1 h1
    refine ⟨small_le (by simp), ?_⟩
    simpa using tl _ _ _ rfl
  | hand w args k r =>
    have t1 := tk 1 rfl
    simp only [Ex.ren, Ex.W, Ex.doors, List.map_cons, List.map_nil, List.length_cons, List.length_nil, natsW] at tail t1 ⊢
    repeat (first | simp only [x_inKd t_hand, x_getKd t_hand, ct4, so_t, hp', onL_lst] | walk_at "wx")
    intro p1 h1
    rw [show (1 : Int) = ((1 : Nat) : Int) from rfl, t1]
    have tl := tail p1 h1
    refine ⟨small_le (by simp), ?_⟩
    simpa using tl _ _ _ rfl
  | ends e =>
    have t1 := tk 0 rfl
    simp only [Ex.ren, Ex.W, Ex.doors, List.map_cons, List.map_nil, List.length_cons, List.length_nil, natsW] at tail t1 ⊢
    repeat (first | simp only [x_inKd t_end, cf2, so_t, hp', onL_lst] | walk_at "wx")
    intro p1 h1
    rw [show (0 : Int) = ((0 : Nat) : Int) from rfl, t1]
    have tl := tail p1 h1
    refine ⟨small_le (by simp), ?_⟩
    simpa using tl _ _ _ rfl
  | fault e =>
    have t1 := tk 0 rfl
    simp only [Ex.ren, Ex.W, Ex.doors, List.map_cons, List.map_nil, List.length_cons, List.length_nil, natsW] at tail t1 ⊢
    repeat (first | simp only [x_inKd t_fault, cf2, so_t, hp', onL_lst] | walk_at "wx")
    intro p1 h1
    rw [show (0 : Int) = ((0 : Nat) : Int) from rfl, t1]
    have tl := tail p1 h1
    refine ⟨small_le (by simp), ?_⟩
    simpa using tl _ _ _ rfl
  | shut =>
    have t1 := tk 0 rfl
    simp only [Ex.ren, Ex.W, Ex.doors, List.map_cons, List.map_nil, List.length_cons, List.length_nil, natsW] at tail t1 ⊢
    repeat (first | simp only [x_inKd t_shut, cf1, so_t, hp', onL_lst] | walk_at "wx")
    intro p1 h1
    rw [show (0 : Int) = ((0 : Nat) : Int) from rfl, t1]
    have tl := tail p1 h1
    refine ⟨small_le (by simp), ?_⟩
    simpa using tl _ _ _ rfl
end WL
namespace WL
open PySem L2
/-! ### keys of rooms, their ranks -/
mutual
theorem nkW_inj : ∀ {w w' : W} {k : PySem.NestedKey}, nkW w = some k → nkW w' = some k → w = w'
  | .non, w', k, h, h' => by
    simp only [nkW, Option.some.injEq] at h
    subst h
    cases w' <;> simp [nkW] at h' ⊢
    split at h' <;> simp at h'
  | .int i, w', k, h, h' => by
    simp only [nkW, Option.some.injEq] at h
    subst h
    cases w' <;> simp [nkW] at h' ⊢
    · exact h'.symm
    · split at h' <;> simp at h'
  | .str x, w', k, h, h' => by
    simp only [nkW, Option.some.injEq] at h
    subst h
    cases w' <;> simp [nkW] at h' ⊢
    · exact h'.symm
    · split at h' <;> simp at h'
  | .tup ws, w', k, h, h' => by
    rw [nkW] at h
    split at h
    · rename_i ks e
      cases h
      cases w' with
      | tup ws' =>
        rw [nkW] at h'
        split at h'
        · rename_i ks' e'
          cases h'
          rw [nkWs_inj e e']
        · cases h'
      | _ => simp [nkW] at h'
    · cases h
  | .bl _, _, _, h, _ => by simp [nkW] at h
  | .ty _, _, _, h, _ => by simp [nkW] at h
  | .ref _, _, _, h, _ => by simp [nkW] at h
  | .rl _, _, _, h, _ => by simp [nkW] at h
theorem nkWs_inj : ∀ {ws ws' : List W} {ks : List PySem.NestedKey}, nkWs ws = some ks → nkWs ws' = some ks → ws = ws'
  | [], ws', ks, h, h' => by
    simp only [nkWs, Option.some.injEq] at h
    subst h
    cases ws' with
    | nil => rfl
    | cons w ws' =>
      rw [nkWs] at h'
      split at h' <;> simp at h'
  | w :: ws, ws', ks, h, h' => by
    rw [nkWs] at h
    split at h
    · rename_i k ks1 e1 e2
      cases h
      cases ws' with
      | nil => simp [nkWs] at h'
      | cons w' ws' =>
        rw [nkWs] at h'
        split at h'
        · rename_i k' ks1' e1' e2'
          cases h'
          rw [nkW_inj e1 e1', nkWs_inj e2 e2']
        · cases h'
    · cases h
end
/-- keys met one after another -/
def dd : List PySem.NestedKey → List PySem.NestedKey → List PySem.NestedKey
  | D, [] => D
  | D, k :: ks => dd (if k ∈ D then D else D ++ [k]) ks
theorem dd_pre : ∀ (ks D : List PySem.NestedKey), ∃ E, dd D ks = D ++ E
  | [], D => ⟨[], by simp [dd]⟩
  | k :: ks, D => by
    rw [dd]
    split
    · exact dd_pre ks D
    · obtain ⟨E, e⟩ := dd_pre ks (D ++ [k])
      exact ⟨k :: E, by rw [e, List.append_assoc]; rfl⟩
theorem dd_nodup : ∀ (ks D : List PySem.NestedKey), D.Nodup → (dd D ks).Nodup
  | [], D, h => h
  | k :: ks, D, h => by
    rw [dd]
    split
    · exact dd_nodup ks D h
    · rename_i n
      refine dd_nodup ks _ ?_
      rw [List.nodup_append]
      exact ⟨h, by simp, fun a ha b hb => by simp at hb; subst hb; exact fun e => n (e ▸ ha)⟩
theorem dd_mem : ∀ (ks D : List PySem.NestedKey) (k : PySem.NestedKey), k ∈ dd D ks ↔ k ∈ D ∨ k ∈ ks
  | [], D, k => by simp [dd]
  | x :: ks, D, k => by
    rw [dd, dd_mem ks]
    split
    · rename_i h
      constructor
      · rintro (z | z)
        · exact .inl z
        · exact .inr (List.mem_cons_of_mem _ z)
      · rintro (z | z)
        · exact .inl z
        · rcases List.mem_cons.mp z with rfl | z
          · exact .inl h
          · exact .inr z
    · rw [List.mem_append, List.mem_singleton, List.mem_cons, or_assoc]
theorem dd_len : ∀ (ks D : List PySem.NestedKey), (dd D ks).length ≤ D.length + ks.length
  | [], D => by simp [dd]
  | k :: ks, D => by
    rw [dd]
    refine Nat.le_trans (dd_len ks _) ?_
    split <;> simp <;> omega
theorem dd_idx {ks D : List PySem.NestedKey} {k : PySem.NestedKey} (h : k ∈ D) : (dd D ks).idxOf k = D.idxOf k := by
  obtain ⟨E, e⟩ := dd_pre ks D
  rw [e, List.idxOf_append, if_pos h]
/-- the dict of keys met -/
def dnF : Nat → List PySem.NestedKey → List (PySem.NestedKey × Int)
  | _, [] => []
  | n, k :: D => (k, (n : Int)) :: dnF (n + 1) D
theorem dnF_len : ∀ (D : List PySem.NestedKey) (n : Nat), (dnF n D).length = D.length
  | [], _ => rfl
  | k :: D, n => by rw [dnF, List.length_cons, List.length_cons, dnF_len D]
theorem dnF_snoc : ∀ (D : List PySem.NestedKey) (n : Nat) (k : PySem.NestedKey), dnF n (D ++ [k]) = dnF n D ++ [(k, ((n + D.length : Nat) : Int))]
  | [], n, k => rfl
  | x :: D, n, k => by
    rw [List.cons_append, dnF, dnF, dnF_snoc D (n + 1) k, List.cons_append, List.length_cons]
    rw [show n + 1 + D.length = n + (D.length + 1) by omega]
theorem dnF_val : ∀ (D : List PySem.NestedKey) (n : Nat) (k : PySem.NestedKey), valN (dnF n D) k = if k ∈ D then some ((n + D.idxOf k : Nat) : Int) else none
  | [], n, k => by simp [dnF, valN]
  | x :: D, n, k => by
    have ih := dnF_val D (n + 1) k
    unfold valN at ih ⊢
    rw [dnF, List.find?_cons]
    by_cases e : x = k
    · subst e
      simp
    · rw [decide_eq_false e]
      simp only
      rw [ih]
      have hb : (x == k) = false := by simp [e]
      by_cases m : k ∈ D
      · rw [if_pos m, if_pos (List.mem_cons_of_mem _ m), List.idxOf_cons, hb]
        simp only [cond_false, Option.some.injEq]
        omega
      · rw [if_neg m, if_neg (fun z => (List.mem_cons.mp z).elim (fun z => e z.symm) m)]
/-- the ranks of keys -/
def rks (ks : List PySem.NestedKey) : List Nat := ks.map fun k => (dd [] ks).idxOf k
theorem rks_len {ks : List PySem.NestedKey} : (rks ks).length = ks.length := List.length_map _
theorem rks_inj {ks : List PySem.NestedKey} {i j : Nat} {a b : PySem.NestedKey} (h : ks[i]? = some a) (h' : ks[j]? = some b) : (rks ks)[i]? = (rks ks)[j]? ↔ a = b := by
  simp only [rks, List.getElem?_map, h, h', Option.map_some, Option.some.injEq]
  constructor
  · intro e
    have ha : a ∈ dd [] ks := (dd_mem ks [] a).mpr (.inr (List.mem_of_getElem? h))
    have la := List.idxOf_lt_length_of_mem ha
    have hb : b ∈ dd [] ks := (dd_mem ks [] b).mpr (.inr (List.mem_of_getElem? h'))
    have lb := List.idxOf_lt_length_of_mem hb
    have ea := List.getElem_idxOf la
    have eb := List.getElem_idxOf lb
    rw [← ea, ← eb]
    congr 1
  · rintro rfl; rfl
end WL
namespace WL
open PySem L2
/-! ### rooms as keys -/
def Nk (d : Nat) (w : W) : Prop := ∃ k, nkW w = some k ∧ k.depth ≤ d
theorem Nk.int {d : Nat} {i : Int} : Nk d (.int i) := ⟨_, rfl, Nat.zero_le _⟩
theorem Nk.str {d : Nat} {x : Str} : Nk d (.str x) := ⟨_, rfl, Nat.zero_le _⟩
theorem Nk.non {d : Nat} : Nk d .non := ⟨_, rfl, Nat.zero_le _⟩
theorem Nk.all {d : Nat} : ∀ {ws : List W}, (∀ w ∈ ws, Nk d w) → ∃ ks, nkWs ws = some ks ∧ PySem.NestedKey.depthAll ks ≤ d
  | [], _ => ⟨[], rfl, Nat.zero_le _⟩
  | w :: ws, h => by
    obtain ⟨k, e, hd⟩ := h w List.mem_cons_self
    obtain ⟨ks, e2, hd2⟩ := Nk.all (ws := ws) fun x hx => h x (List.mem_cons_of_mem _ hx)
    refine ⟨k :: ks, by rw [nkWs, e, e2], ?_⟩
    rw [PySem.NestedKey.depthAll]
    exact Nat.max_le.mpr ⟨hd, hd2⟩
theorem Nk.tup {d : Nat} {ws : List W} (h : ∀ w ∈ ws, Nk d w) : Nk (d + 1) (.tup ws) := by
  obtain ⟨ks, e, hd⟩ := Nk.all h
  exact ⟨.tup ks, by rw [nkW, e], by rw [PySem.NestedKey.depth]; omega⟩
theorem Nk.mono {d d' : Nat} {w : W} (h : Nk d w) (l : d ≤ d') : Nk d' w := by obtain ⟨k, e, hd⟩ := h; exact ⟨k, e, Nat.le_trans hd l⟩
theorem Rk.nk : ∀ (e : Rk), Nk (e.deep + 1) e.W
  | .num _ => Nk.tup fun w hw => by simp at hw; rcases hw with rfl | rfl <;> first | exact Nk.str | exact Nk.int
  | .slot _ => Nk.tup fun w hw => by simp at hw; rcases hw with rfl | rfl <;> first | exact Nk.str | exact Nk.int
  | .op o a b => Nk.tup fun w hw => by
    simp at hw
    rcases hw with rfl | rfl | rfl
    · exact Nk.str
    · exact (Rk.nk a).mono (by simp only [Rk.deep]; omega)
    · exact (Rk.nk b).mono (by simp only [Rk.deep]; omega)
theorem optN_nk {d : Nat} {k : Option Nat} : Nk d (optN k) := by cases k <;> first | exact Nk.non | exact Nk.int
theorem Lit.nk {l : Lit} {m : Nat} (h : l.ok m) : Nk 5 l.W := by
  cases l with
  | set k e => exact Nk.tup fun w hw => by simp at hw; rcases hw with rfl | rfl | rfl <;> first | exact Nk.str | exact Nk.int | exact (Rk.nk e).mono (by have := h.2.2; omega)
  | count k e => exact Nk.tup fun w hw => by simp at hw; rcases hw with rfl | rfl | rfl <;> first | exact Nk.str | exact Nk.int | exact (Rk.nk e).mono (by have := h.2.2; omega)
  | say e => exact Nk.tup fun w hw => by simp at hw; rcases hw with rfl | rfl <;> first | exact Nk.str | exact (Rk.nk e).mono (by have := h.2; omega)
theorem Ex.nk {x : Ex} {ms : List Mc} {m nr : Nat} (h : x.ok ms m nr) : Nk 6 x.W := by
  cases x with
  | go r => exact Nk.tup fun w hw => by simp at hw; rcases hw with rfl | rfl <;> first | exact Nk.str | exact Nk.int
  | fork e a b => exact Nk.tup fun w hw => by simp at hw; rcases hw with rfl | rfl | rfl | rfl <;> first | exact Nk.str | exact Nk.int | exact (Rk.nk e).mono (by have := h.1.2; omega)
  | give e k r => exact Nk.tup fun w hw => by simp at hw; rcases hw with rfl | rfl | rfl | rfl <;> first | exact Nk.str | exact Nk.int | exact optN_nk | exact (Rk.nk e).mono (by have := h.1.2; omega)
  | hand w as k r =>
    refine Nk.tup fun w hw => ?_
    simp only [List.mem_cons, List.not_mem_nil, or_false] at hw
    rcases hw with rfl | rfl | rfl | rfl | rfl
    · exact Nk.str
    · exact Nk.int
    · refine Nk.tup fun w hw => ?_
      obtain ⟨e, he, rfl⟩ := List.mem_map.mp hw
      exact (Rk.nk e).mono (by have := (h.2.2.1 e he).2; omega)
    · exact optN_nk
    · exact Nk.int
  | ends e => exact Nk.tup fun w hw => by simp at hw; rcases hw with rfl | rfl <;> first | exact Nk.str | exact (Rk.nk e).mono (by have := h.2; omega)
  | fault e => exact Nk.tup fun w hw => by simp at hw; rcases hw with rfl | rfl <;> first | exact Nk.str | exact (Rk.nk e).mono (by have := h.2; omega)
  | shut => exact Nk.tup fun w hw => by simp at hw; subst hw; exact Nk.str
theorem ctW_nk {d : Nat} {c : Option (Option Nat × Nat)} : Nk (d + 1) (ctW c) := by
  cases c with
  | none => exact Nk.non
  | some kr => exact Nk.tup fun w hw => by simp at hw; rcases hw with rfl | rfl <;> first | exact optN_nk | exact Nk.int
theorem Rm.nk {r : Rm} {ms : List Mc} {m nr : Nat} (h : r.ok ms m nr) : Nk 7 r.W := by
  refine Nk.tup fun w hw => ?_
  simp only [List.mem_cons, List.not_mem_nil, or_false] at hw
  rcases hw with rfl | rfl | rfl | rfl
  · refine Nk.tup fun w hw => ?_
    obtain ⟨l, hl, rfl⟩ := List.mem_map.mp hw
    exact Lit.nk (h.lits l hl)
  · exact Ex.nk h.ex
  · exact ctW_nk
  · exact optN_nk
theorem Ex.ren_ok {x : Ex} {ms : List Mc} {m nr nr' : Nat} {f : Nat → Nat} (hf : ∀ i ∈ x.doors, f i < nr') (h : x.ok ms m nr) : (x.ren f).ok ms m nr' := by
  cases x with
  | go r => exact hf r (by simp [Ex.doors])
  | fork e a b => exact ⟨h.1, hf a (by simp [Ex.doors]), hf b (by simp [Ex.doors])⟩
  | give e k r => exact ⟨h.1, h.2.1, hf r (by simp [Ex.doors])⟩
  | hand w as k r => exact ⟨h.1, h.2.1, h.2.2.1, h.2.2.2.1, hf r (by simp [Ex.doors])⟩
  | ends e => exact h
  | fault e => exact h
  | shut => exact h
theorem Rm.ren_ok {r : Rm} {ms : List Mc} {m nr nr' : Nat} {f : Nat → Nat} (hf : ∀ i ∈ r.doors, f i < nr') (h : r.ok ms m nr) : (r.ren f).ok ms m nr' := by
  obtain ⟨lit, ex, ct, sh⟩ := r
  refine ⟨h.lits, h.many, Ex.ren_ok (fun i hi => hf i (by simp [Rm.doors, hi])) h.ex, fun k j e => ?_, fun j e => ?_⟩
  · cases ct with
    | none => simp [Rm.ren] at e
    | some kr =>
      obtain ⟨k', r'⟩ := kr
      simp [Rm.ren] at e
      obtain ⟨rfl, rfl⟩ := e
      exact ⟨hf r' (by simp [Rm.doors]), (h.ct k' r' rfl).2⟩
  · cases sh with
    | none => simp [Rm.ren] at e
    | some r' =>
      simp [Rm.ren] at e
      subst e
      exact hf r' (by simp [Rm.doors])
/-! ### rooms from their words -/
theorem optN_inj {k k' : Option Nat} (h : optN k = optN k') : k = k' := by
  cases k <;> cases k' <;> simp [optN, optI] at h ⊢
  omega
theorem Op.inj {o o' : Op} (h : o.str = o'.str) : o = o' := by
  cases o <;> cases o' <;> first | rfl | (simp only [Op.str, wd_inj, Nat.reduceLT, Nat.reduceEqDiff] at h)
theorem Rk.inj : ∀ {e e' : Rk}, e.W = e'.W → e = e'
  | .num a, .num b, h => by simp [Rk.W] at h; rw [h]
  | .num a, .slot b, h => by simp [Rk.W, wd_inj] at h
  | .num a, .op _ _ _, h => by simp [Rk.W] at h
  | .slot a, .num b, h => by simp [Rk.W, wd_inj] at h
  | .slot a, .slot b, h => by simp [Rk.W] at h; rw [h]
  | .slot a, .op _ _ _, h => by simp [Rk.W] at h
  | .op _ _ _, .num b, h => by simp [Rk.W] at h
  | .op _ _ _, .slot b, h => by simp [Rk.W] at h
  | .op o a b, .op o' a' b', h => by
    simp only [Rk.W, W.tup.injEq, List.cons.injEq, W.str.injEq, and_true] at h
    rw [Op.inj h.1, Rk.inj h.2.1, Rk.inj h.2.2]
theorem Rks.inj : ∀ {es es' : List Rk}, es.map Rk.W = es'.map Rk.W → es = es'
  | [], [], _ => rfl
  | [], _ :: _, h => by simp at h
  | _ :: _, [], h => by simp at h
  | e :: es, e' :: es', h => by
    simp only [List.map_cons, List.cons.injEq] at h
    rw [Rk.inj h.1, Rks.inj h.2]
theorem Lit.inj {l l' : Lit} (h : l.W = l'.W) : l = l' := by
  cases l <;> cases l' <;> simp only [Lit.W, W.tup.injEq, List.cons.injEq, W.str.injEq, W.int.injEq, wd_inj, Nat.reduceLT, Nat.reduceEqDiff, and_true, true_and, false_and, reduceCtorEq, and_false] at h
  · rw [show _ = _ from Int.ofNat.inj h.1, Rk.inj h.2]
  · rw [Rk.inj h]
  · rw [show _ = _ from Int.ofNat.inj h.1, Rk.inj h.2]
theorem Lits.inj : ∀ {es es' : List Lit}, es.map Lit.W = es'.map Lit.W → es = es'
  | [], [], _ => rfl
  | [], _ :: _, h => by simp at h
  | _ :: _, [], h => by simp at h
  | e :: es, e' :: es', h => by
    simp only [List.map_cons, List.cons.injEq] at h
    rw [Lit.inj h.1, Lits.inj h.2]
theorem Ex.inj {x x' : Ex} (h : x.W = x'.W) : x = x' := by
  cases x <;> cases x' <;> simp only [Ex.W, W.tup.injEq, List.cons.injEq, W.str.injEq, W.int.injEq, wd_inj, Nat.reduceLT, Nat.reduceEqDiff, and_true, true_and, false_and, reduceCtorEq, and_false] at h
  · rw [show _ = _ from Int.ofNat.inj h]
  · rw [Rk.inj h.1, show _ = _ from Int.ofNat.inj h.2.1, show _ = _ from Int.ofNat.inj h.2.2]
  · rw [Rk.inj h.1, optN_inj h.2.1, show _ = _ from Int.ofNat.inj h.2.2]
  · rw [show _ = _ from Int.ofNat.inj h.1, Rks.inj h.2.1, optN_inj h.2.2.1, show _ = _ from Int.ofNat.inj h.2.2.2]
  · rw [Rk.inj h]
  · rw [Rk.inj h]
  · rfl
theorem ctW_inj {c c' : Option (Option Nat × Nat)} (h : ctW c = ctW c') : c = c' := by
  cases c with
  | none => cases c' with
    | none => rfl
    | some kr => obtain ⟨k, r⟩ := kr; simp [ctW] at h
  | some kr =>
    obtain ⟨k, r⟩ := kr
    cases c' with
    | none => simp [ctW] at h
    | some kr' =>
      obtain ⟨k', r'⟩ := kr'
      simp only [ctW, W.tup.injEq, List.cons.injEq, W.int.injEq, and_true] at h
      rw [optN_inj h.1, show r = r' from Int.ofNat.inj h.2]
theorem Rm.inj {r r' : Rm} (h : r.W = r'.W) : r = r' := by
  obtain ⟨a, b, c, d⟩ := r
  obtain ⟨a', b', c', d'⟩ := r'
  simp only [Rm.W, W.tup.injEq, List.cons.injEq, and_true] at h
  rw [Lits.inj h.1, Ex.inj h.2.1, ctW_inj h.2.2.1, optN_inj h.2.2.2]
end WL
namespace WL
open PySem L2
/-! ### kinds of rooms -/
theorem pig : ∀ (n : Nat) (L : List Nat), (∀ j, j < n → j ∈ L) → n ≤ L.length ∧ (L.length ≤ n → L.Nodup ∧ ∀ x ∈ L, x < n)
  | 0, L, h => ⟨Nat.zero_le _, fun e => by
    have : L = [] := List.eq_nil_of_length_eq_zero (by omega)
    subst this
    exact ⟨List.nodup_nil, fun x hx => absurd hx List.not_mem_nil⟩⟩
  | n + 1, L, h => by
    have hn := h n (Nat.lt_succ_self n)
    have he : (L.erase n).length = L.length - 1 := List.length_erase_of_mem hn
    have hp : 0 < L.length := List.length_pos_of_mem hn
    obtain ⟨i1, i2⟩ := pig n (L.erase n) fun j hj => (List.mem_erase_of_ne (by omega)).mpr (h j (by omega))
    refine ⟨by omega, fun hl => ?_⟩
    obtain ⟨n1, n2⟩ := i2 (by omega)
    have pm := List.perm_cons_erase hn
    have nn : n ∉ L.erase n := fun z => Nat.lt_irrefl _ (n2 n z)
    refine ⟨pm.nodup_iff.mpr (List.nodup_cons.mpr ⟨nn, n1⟩), fun x hx => ?_⟩
    rcases List.mem_cons.mp (pm.mem_iff.mp hx) with rfl | hx
    · omega
    · have := n2 x hx; omega
theorem inj_map {α : Type} {f : α → Nat} : ∀ {L : List α} {a b : α}, (L.map f).Nodup → a ∈ L → b ∈ L → f a = f b → a = b
  | x :: L, a, b, h, ha, hb, e => by
    rw [List.map_cons, List.nodup_cons] at h
    rcases List.mem_cons.mp ha with ea | ha'
    · rcases List.mem_cons.mp hb with eb | hb'
      · rw [ea, eb]
      · exact absurd (List.mem_map.mpr ⟨b, hb', by rw [← e, ea]⟩) h.1
    · rcases List.mem_cons.mp hb with eb | hb'
      · exact absurd (List.mem_map.mpr ⟨a, ha', by rw [e, eb]⟩) h.1
      · exact inj_map h.2 ha' hb' e
def key0 (r : Rm) : PySem.NestedKey := (nkW (r.ren fun _ => 0).W).getD .none
def keyN (kinds : List Nat) (r : Rm) (k : Nat) : PySem.NestedKey := .tup (.num (k : Int) :: r.doors.map fun d => .num ((kinds.getD d 0 : Nat) : Int))
def keysN (rms : List Rm) (kinds : List Nat) : List PySem.NestedKey := List.zipWith (keyN kinds) rms kinds
def kLoop (rms : List Rm) : Nat → Nat → Nat → List Nat → List Nat
  | 0, _, _, kinds => kinds
  | f + 1, many, cnt, kinds => if many < cnt then kLoop rms f cnt (dd [] (keysN rms kinds)).length (rks (keysN rms kinds)) else kinds
def kindsF (rms : List Rm) : List Nat := kLoop rms (rms.length + 1) 0 (dd [] (rms.map key0)).length (rks (rms.map key0))
structure KindsOk (rms : List Rm) (kinds : List Nat) : Prop where
  len : kinds.length = rms.length
  same : ∀ (i j : Nat) (a b : Rm), rms[i]? = some a → rms[j]? = some b → kinds[i]? = kinds[j]? → (a.ren fun _ => 0) = (b.ren fun _ => 0) ∧ a.doors.map (fun d => kinds.getD d 0) = b.doors.map (fun d => kinds.getD d 0)
def fstK : PySem.NestedKey → Nat | .tup (.num i :: _) => i.toNat | _ => 0
theorem fst_keyN {kinds : List Nat} {r : Rm} {k : Nat} : fstK (keyN kinds r k) = k := by simp [fstK, keyN]
theorem keysN_len {rms : List Rm} {kinds : List Nat} (h : kinds.length = rms.length) : (keysN rms kinds).length = rms.length := by simp [keysN, h]
theorem keysN_at {rms : List Rm} {kinds : List Nat} {i : Nat} {r : Rm} {k : Nat} (h : rms[i]? = some r) (h' : kinds[i]? = some k) : (keysN rms kinds)[i]? = some (keyN kinds r k) := by simp [keysN, List.getElem?_zipWith, h, h']
theorem get_of_lt {α : Type} {l : List α} {i : Nat} (h : i < l.length) : ∃ a, l[i]? = some a := ⟨l[i], List.getElem?_eq_getElem h⟩
theorem idx_self {D : List PySem.NestedKey} (h : D.Nodup) {j : Nat} {k : PySem.NestedKey} (e : D[j]? = some k) : D.idxOf k = j := by
  obtain ⟨hj, ek⟩ := List.getElem?_eq_some_iff.mp e
  have := h.idxOf_getElem j hj
  rw [ek] at this
  exact this
theorem refine_ok {rms : List Rm} {ks : List PySem.NestedKey} (hl : ks.length = rms.length) :
    (dd [] ks).length ≤ (dd [] (keysN rms (rks ks))).length ∧ ((dd [] (keysN rms (rks ks))).length ≤ (dd [] ks).length → ∀ (i j : Nat) (x y : PySem.NestedKey), (keysN rms (rks ks))[i]? = some x → (keysN rms (rks ks))[j]? = some y → (rks ks)[i]? = (rks ks)[j]? → x = y) := by
  have hk : (rks ks).length = rms.length := by rw [rks_len, hl]
  have all : ∀ j, j < (dd [] ks).length → j ∈ (dd [] (keysN rms (rks ks))).map fstK := by
    intro j hj
    obtain ⟨k, ek⟩ := get_of_lt hj
    have mk : k ∈ ks := by
      have := (dd_mem ks [] k).mp (List.mem_of_getElem? ek)
      simpa using this
    obtain ⟨i, hi⟩ := List.mem_iff_getElem?.mp mk
    have hil : i < rms.length := by rw [← hl]; exact (List.getElem?_eq_some_iff.mp hi).1
    obtain ⟨r, hr⟩ := get_of_lt hil
    have e1 : (rks ks)[i]? = some j := by
      simp only [rks, List.getElem?_map, hi, Option.map_some]
      rw [idx_self (dd_nodup ks [] List.nodup_nil) ek]
    have e2 := keysN_at hr e1
    refine List.mem_map.mpr ⟨_, (dd_mem _ [] _).mpr (.inr (List.mem_of_getElem? e2)), fst_keyN⟩
  obtain ⟨p1, p2⟩ := pig _ _ all
  rw [List.length_map] at p1 p2
  refine ⟨p1, fun hle i j x y hx hy e => ?_⟩
  obtain ⟨nd, _⟩ := p2 hle
  have hi : i < rms.length := by rw [← keysN_len hk]; exact (List.getElem?_eq_some_iff.mp hx).1
  have hj : j < rms.length := by rw [← keysN_len hk]; exact (List.getElem?_eq_some_iff.mp hy).1
  obtain ⟨r, hr⟩ := get_of_lt hi
  obtain ⟨r', hr'⟩ := get_of_lt hj
  obtain ⟨k, hk1⟩ := get_of_lt (l := rks ks) (by rw [hk]; exact hi)
  have hk2 : (rks ks)[j]? = some k := by rw [← e]; exact hk1
  have ex := keysN_at hr hk1
  have ey := keysN_at hr' hk2
  rw [hx] at ex; cases ex
  rw [hy] at ey; cases ey
  exact inj_map nd ((dd_mem _ [] _).mpr (.inr (List.mem_of_getElem? hx))) ((dd_mem _ [] _).mpr (.inr (List.mem_of_getElem? hy))) (by rw [fst_keyN, fst_keyN])
theorem keyN_inj {kinds : List Nat} {r r' : Rm} {k k' : Nat} (h : keyN kinds r k = keyN kinds r' k') : k = k' ∧ r.doors.map (fun d => kinds.getD d 0) = r'.doors.map (fun d => kinds.getD d 0) := by
  simp only [keyN, PySem.NestedKey.tup.injEq, List.cons.injEq, PySem.NestedKey.num.injEq] at h
  refine ⟨by omega, ?_⟩
  have aux : ∀ (a b : List Nat), (a.map fun d => PySem.NestedKey.num ((kinds.getD d 0 : Nat) : Int)) = (b.map fun d => PySem.NestedKey.num ((kinds.getD d 0 : Nat) : Int)) → a.map (fun d => kinds.getD d 0) = b.map (fun d => kinds.getD d 0) := by
    intro a
    induction a with
    | nil => intro b e; cases b with
      | nil => rfl
      | cons _ _ => simp at e
    | cons x a ih => intro b e; cases b with
      | nil => simp at e
      | cons y b =>
        simp only [List.map_cons, List.cons.injEq, PySem.NestedKey.num.injEq] at e ⊢
        exact ⟨by omega, ih b e.2⟩
  exact aux _ _ h.2
/-- what holds at each turn -/
structure KInv (rms : List Rm) (many cnt : Nat) (kinds : List Nat) : Prop where
  of : ∃ ks, kinds = rks ks ∧ cnt = (dd [] ks).length ∧ ks.length = rms.length
  base : ∀ (i j : Nat) (a b : Rm), rms[i]? = some a → rms[j]? = some b → kinds[i]? = kinds[j]? → key0 a = key0 b
  done : many < cnt ∨ ∀ (i j : Nat) (a b : Rm), rms[i]? = some a → rms[j]? = some b → kinds[i]? = kinds[j]? → a.doors.map (fun d => kinds.getD d 0) = b.doors.map (fun d => kinds.getD d 0)
theorem KInv.len {rms : List Rm} {many cnt : Nat} {kinds : List Nat} (h : KInv rms many cnt kinds) : kinds.length = rms.length := by
  obtain ⟨ks, rfl, _, e⟩ := h.of
  rw [rks_len, e]
theorem KInv.cnt {rms : List Rm} {many cnt : Nat} {kinds : List Nat} (h : KInv rms many cnt kinds) : cnt ≤ rms.length := by
  obtain ⟨ks, rfl, rfl, e⟩ := h.of
  rw [← e]
  simpa using dd_len ks []
theorem getD_of {l : List Nat} {i k : Nat} (h : l[i]? = some k) : l.getD i 0 = k := by simp [h]
theorem KInv.step {rms : List Rm} {many cnt : Nat} {kinds : List Nat} (dl : ∀ r ∈ rms, ∀ d ∈ r.doors, d < rms.length) (h : KInv rms many cnt kinds) : KInv rms cnt (dd [] (keysN rms kinds)).length (rks (keysN rms kinds)) := by
  have hl := h.len
  obtain ⟨ks, hks, hc, e⟩ := h.of
  have kl := keysN_len hl
  obtain ⟨r1, r2⟩ := refine_ok e
  rw [← hks] at r1 r2
  have split : ∀ (i j : Nat) (a b : Rm), rms[i]? = some a → rms[j]? = some b → (rks (keysN rms kinds))[i]? = (rks (keysN rms kinds))[j]? → kinds[i]? = kinds[j]? ∧ a.doors.map (fun d => kinds.getD d 0) = b.doors.map (fun d => kinds.getD d 0) := by
    intro i j a b ha hb e2
    obtain ⟨k, hk⟩ := get_of_lt (l := kinds) (by rw [hl]; exact (List.getElem?_eq_some_iff.mp ha).1)
    obtain ⟨k', hk'⟩ := get_of_lt (l := kinds) (by rw [hl]; exact (List.getElem?_eq_some_iff.mp hb).1)
    have z := (rks_inj (keysN_at ha hk) (keysN_at hb hk')).mp e2
    obtain ⟨z1, z2⟩ := keyN_inj z
    exact ⟨by rw [hk, hk', z1], z2⟩
  refine ⟨⟨_, rfl, rfl, kl⟩, fun i j a b ha hb e2 => h.base i j a b ha hb (split i j a b ha hb e2).1, ?_⟩
  by_cases lt : cnt < (dd [] (keysN rms kinds)).length
  · exact .inl lt
  · refine .inr fun i j a b ha hb e2 => ?_
    obtain ⟨_, z2⟩ := split i j a b ha hb e2
    have st := r2 (by rw [← hc]; omega)
    have aux : ∀ (x y : List Nat), (∀ d ∈ x, d < rms.length) → (∀ d ∈ y, d < rms.length) → x.map (fun d => kinds.getD d 0) = y.map (fun d => kinds.getD d 0) → x.map (fun d => (rks (keysN rms kinds)).getD d 0) = y.map (fun d => (rks (keysN rms kinds)).getD d 0) := by
      intro x
      induction x with
      | nil => intro y _ _ e3; cases y with
        | nil => rfl
        | cons _ _ => simp at e3
      | cons d x ih => intro y hx hy e3; cases y with
        | nil => simp at e3
        | cons d' y =>
          simp only [List.map_cons, List.cons.injEq] at e3 ⊢
          refine ⟨?_, ih y (fun z hz => hx z (List.mem_cons_of_mem _ hz)) (fun z hz => hy z (List.mem_cons_of_mem _ hz)) e3.2⟩
          have hd := hx d List.mem_cons_self
          have hd' := hy d' List.mem_cons_self
          obtain ⟨k, hk⟩ := get_of_lt (l := kinds) (i := d) (by rw [hl]; exact hd)
          obtain ⟨k', hk'⟩ := get_of_lt (l := kinds) (i := d') (by rw [hl]; exact hd')
          obtain ⟨n, hn⟩ := get_of_lt (l := keysN rms kinds) (i := d) (by rw [kl]; exact hd)
          obtain ⟨n', hn'⟩ := get_of_lt (l := keysN rms kinds) (i := d') (by rw [kl]; exact hd')
          have ek : k = k' := by have := e3.1; rw [getD_of hk, getD_of hk'] at this; exact this
          have en := st d d' n n' hn hn' (by rw [hk, hk', ek])
          have := (rks_inj hn hn').mpr en
          simp only [List.getD_eq_getElem?_getD, this]
    exact aux _ _ (dl a (List.mem_of_getElem? ha)) (dl b (List.mem_of_getElem? hb)) z2
theorem kInv0 (rms : List Rm) : KInv rms 0 (dd [] (rms.map key0)).length (rks (rms.map key0)) := by
  refine ⟨⟨_, rfl, rfl, List.length_map _⟩, fun i j a b ha hb e => ?_, ?_⟩
  · exact (rks_inj (ks := rms.map key0) (by rw [List.getElem?_map, ha]; rfl) (by rw [List.getElem?_map, hb]; rfl)).mp e
  · by_cases h : 0 < (dd [] (rms.map key0)).length
    · exact .inl h
    · refine .inr fun i j a b ha _ _ => ?_
      have m : key0 a ∈ dd [] (rms.map key0) := (dd_mem _ _ _).mpr (.inr (List.mem_map.mpr ⟨a, List.mem_of_getElem? ha, rfl⟩))
      exact absurd (List.length_pos_of_mem m) h
theorem kLoop_ok {rms : List Rm} (dl : ∀ r ∈ rms, ∀ d ∈ r.doors, d < rms.length) : ∀ (f many cnt : Nat) (kinds : List Nat), KInv rms many cnt kinds → rms.length + 1 ≤ f + many → ∃ many' cnt', KInv rms many' cnt' (kLoop rms f many cnt kinds) ∧ ¬many' < cnt'
  | 0, many, cnt, kinds, h, hf => ⟨many, cnt, h, by have := h.cnt; omega⟩
  | f + 1, many, cnt, kinds, h, hf => by
    rw [kLoop]
    split
    · rename_i lt
      exact kLoop_ok dl f cnt _ _ (h.step dl) (by omega)
    · rename_i lt
      exact ⟨many, cnt, h, lt⟩
theorem kinds_ok {rms : List Rm} (dl : ∀ r ∈ rms, ∀ d ∈ r.doors, d < rms.length) (nk : ∀ r ∈ rms, Nk 7 (r.ren fun _ => 0).W) : KindsOk rms (kindsF rms) := by
  obtain ⟨many, cnt, h, lt⟩ := kLoop_ok dl (rms.length + 1) 0 _ _ (kInv0 rms) (by omega)
  refine ⟨h.len, fun i j a b ha hb e => ⟨?_, h.done.resolve_left lt i j a b ha hb e⟩⟩
  have z := h.base i j a b ha hb e
  obtain ⟨k, ek, _⟩ := nk a (List.mem_of_getElem? ha)
  obtain ⟨k', ek', _⟩ := nk b (List.mem_of_getElem? hb)
  simp only [key0, ek, ek', Option.getD_some] at z
  subst z
  exact Rm.inj (nkW_inj ek ek')
end WL
namespace WL
open PySem L2
theorem x_nset {hf : PySem.NestedKey → Int} {td ty tx : WE} {r : Rho} {S : Sto} {Q : WQ} : wNSet hf td ty tx r S Q = td r S fun x S1 => ∃ a kvs0, x = .ref a ∧ S1 a = some (.dn hf kvs0) ∧ ty r S1 fun y S2 => tx r S2 fun z S3 => ∃ kvs k i, S3 a = some (.dn hf kvs) ∧ nkW y = some k ∧ z = .int i ∧ (k.depth ≤ 8 ∧ kvs.length < sizeLine ∧ ∃ ws, y = .tup ws) ∧
  (∀ j, valN kvs k = some j → Q (.int j) S3) ∧ (valN kvs k = none → Q (.int i) (put S3 a (.dn hf (kvs ++ [(k, i)])))) := rfl
theorem x_nnew {hf : PySem.NestedKey → Int} {r : Rho} {S : Sto} {Q : WQ} : wNNew hf r S Q = ∀ p, S p = none → Q (.ref p) (put S p (.dn hf [])) := rfl
theorem x_lenN {hf : PySem.NestedKey → Int} {a : Addr} {kvs : List (PySem.NestedKey × Int)} {S : Sto} {Q : WQ} (h : S a = some (.dn hf kvs)) (q : Q (.int kvs.length) S) : rLenN hf [.ref a] S Q := ⟨a, kvs, rfl, h, q⟩
theorem x_zip {ta : WA} {g : WG} {tb : WS} {D : WD} {r : Rho} {S : Sto} : wForZip ta g tb D r S = ta r S fun ws S1 => ∃ x y xs ys, ws = [x, y] ∧ rdl S1 x = some xs ∧ rdl S1 y = some ys ∧ xs.length = ys.length ∧ forW (fun S => rdl S x = some xs ∧ rdl S y = some ys) g tb (pairsW xs ys) D r S1 := rfl
theorem natsW_len {l : List Nat} : (natsW l).length = l.length := List.length_map _
theorem natsW_snoc {l : List Nat} {n : Nat} : natsW l ++ [.int (n : Int)] = natsW (l ++ [n]) := by simp [natsW]
theorem zeros_nat {l : List Nat} : (List.replicate l.length [W.int 0]).flatten = natsW (l.map fun _ => 0) := by
  rw [rep_int]
  induction l with
  | nil => rfl
  | cons x l ih => simp only [List.length_cons, List.replicate_succ, List.map_cons, natsW] at ih ⊢; rw [ih]; rfl
/-- known.setdefault(key, len(known)), put behind a list -/
theorem nset_app {hf : PySem.NestedKey → Int} {D : List PySem.NestedKey} {out : List Nat} {k : PySem.NestedKey} {w : W} {p1 p2 : Addr} {S0 S3 : Sto} {P : Sto → Prop} (l : Le S0 S3) (f1 : S0 p1 = none) (f2 : S0 p2 = none) (n12 : p1 ≠ p2) (h1 : S3 p1 = some (.dn hf (dnF 0 D))) (h2 : S3 p2 = some (.lst (natsW out))) (hk : nkW w = some k) (kd : k.depth ≤ 8) (ht : ∃ ws, w = .tup ws) (sm : D.length ≤ 1000000) (so : out.length ≤ 1000000)
    (q : ∀ S', Le S0 S' → S' p1 = some (.dn hf (dnF 0 (if k ∈ D then D else D ++ [k]))) → S' p2 = some (.lst (natsW (out ++ [(if k ∈ D then D else D ++ [k]).idxOf k]))) → P S') :
    ∃ kvs k i, S3 p1 = some (.dn hf kvs) ∧ nkW w = some k ∧ (W.int ((dnF 0 D).length : Int)) = .int i ∧ (k.depth ≤ 8 ∧ kvs.length < sizeLine ∧ ∃ ws, w = .tup ws) ∧
  (∀ j, valN kvs k = some j → rAppW (.ref p2) [.int j] S3 fun _ S' => P S') ∧ (valN kvs k = none → rAppW (.ref p2) [.int i] (put S3 p1 (.dn hf (kvs ++ [(k, i)]))) fun _ S' => P S') := by
  refine ⟨_, k, _, h1, hk, rfl, ⟨kd, by rw [dnF_len]; exact small_len (by omega), ht⟩, fun j ej => ?_, fun en => ?_⟩
  · rw [dnF_val] at ej
    split at ej
    · rename_i hm
      cases ej
      rw [if_pos hm] at q
      rw [x_app, h2]
      refine ⟨by rw [natsW_len]; exact small_len (by omega), q _ (Le.put2 l f2) (by rw [put_ne n12]; exact h1) ?_⟩
      rw [put_same, natsW_snoc, Nat.zero_add]
    · cases ej
  · rw [dnF_val] at en
    split at en
    · cases en
    · rename_i hm
      rw [if_neg hm] at q
      have e2 : put S3 p1 (.dn hf (dnF 0 D ++ [(k, ((dnF 0 D).length : Int))])) p2 = some (.lst (natsW out)) := by rw [put_ne (Ne.symm n12)]; exact h2
      rw [x_app, e2]
      have ix : (D ++ [k]).idxOf k = D.length := by
        rw [List.idxOf_append, if_neg hm]
        simp
      refine ⟨by rw [natsW_len]; exact small_len (by omega), q _ (Le.put2 (Le.put2 l f1) f2) ?_ ?_⟩
      · rw [put_ne n12, put_same, dnF_snoc, Nat.zero_add, dnF_len]
      · rw [put_same, ix, dnF_len, natsW_snoc]
theorem kinds1_loop {hf : PySem.NestedKey → Int} {p0 p1 p2 : Addr} {S0 : Sto} {Z : Sto → Prop} {Dk : WD} {x4 x5 x6 x7 : Option W} (hZ : ∀ S, Le S0 S → Z S) (f1 : S0 p1 = none) (f2 : S0 p2 = none) (n12 : p1 ≠ p2) : ∀ (rms : List Rm) (D : List PySem.NestedKey) (out : List Nat) (x3 : Option W) (S : Sto), (∀ r ∈ rms, Nk 7 (r.ren fun _ => 0).W) → D.length + rms.length ≤ 1000000 → out.length + rms.length ≤ 1000000 → Le S0 S →
    S p1 = some (.dn hf (dnF 0 D)) → S p2 = some (.lst (natsW out)) →
    (∀ S' x3, Le S0 S' → S' p1 = some (.dn hf (dnF 0 (dd D (rms.map key0)))) → S' p2 = some (.lst (natsW (out ++ (rms.map key0).map fun k => (dd D (rms.map key0)).idxOf k))) → Dk.nx [some (.ref p0), some (.ref p1), some (.ref p2), x3, x4, x5, x6, x7] S') →
    forW Z (gNameW 3) (l_kinds_of_1 hf sp_renamed sp_doors) (rms.map Rm.W) Dk [some (.ref p0), some (.ref p1), some (.ref p2), x3, x4, x5, x6, x7] S
  | [], D, out, x3, S, nk, sm, so, l, h1, h2, q => by
    simp only [List.map_nil, forW]
    exact ⟨hZ S l, q S x3 l h1 (by simpa using h2)⟩
  | rm :: rms, D, out, x3, S, nk, sm, so, l, h1, h2, q => by
    simp only [List.map_cons, forW]
    refine ⟨hZ S l, ?_⟩
    have ih := fun D out S => kinds1_loop (hf := hf) (p0 := p0) (x4 := x4) (x5 := x5) (x6 := x6) (x7 := x7) (Dk := Dk) hZ f1 f2 n12 rms D out (some rm.W) S (fun r hr => nk r (List.mem_cons_of_mem _ hr))
    generalize hL : forW Z (gNameW 3) (l_kinds_of_1 hf sp_renamed sp_doors) (rms.map Rm.W) Dk = L at *
    unfold l_kinds_of_1
    obtain ⟨k, hk, kd⟩ := nk rm List.mem_cons_self
    have k0 : key0 rm = k := by simp [key0, hk]
    have il : isLst S (.ref p2) := ⟨_, by simp only [rdl, h2]; rfl⟩
    rw [List.length_cons] at sm so
    walk_at "wx"
    refine ⟨il, ?_⟩
    rw [x_nset]
    walk_at "wx"
    refine ⟨p1, _, rfl, h1, ?_⟩
    (try walk_at "wx")
    intro q1 hq1
    have l1 := Le.put (o := .lst [.int 0]) hq1
    refine ⟨rm, rfl, fun S2 q2 l2 g2 h3 => ?_⟩
    have l12 := l1.trans l2
    have hq2 : S2 q1 = some (.lst [.int 0]) := l2 _ _ put_same
    simp only [len_l h3, natsW_len]
    repeat (first | simp only [v_rep, hq2, onL_lst] | walk_at "wx")
    have dl : rm.doors.length ≤ 10 := by
      obtain ⟨lit, ex, ct, sh⟩ := rm
      have c1 : ((ct.map (·.2)).toList).length ≤ 1 := by cases ct <;> simp
      have c2 : sh.toList.length ≤ 1 := by cases sh <;> simp
      have c3 : ex.doors.length ≤ 2 := by cases ex <;> simp [Ex.doors]
      simp only [Rm.doors, List.length_append]
      omega
    refine ⟨⟨by omega, by omega, small_le (by omega)⟩, fun q3 hq3 => ?_⟩
    have l123 := l12.trans (Le.put (o := .lst (List.replicate rm.doors.length [W.int 0]).flatten) hq3)
    have tn : ((rm.doors.length : Int)).toNat = rm.doors.length := by omega
    simp only [tn]
    refine ⟨rm, q3, fun _ => 0, rfl, by rw [put_same, zeros_nat], fun S4 l4 => ?_⟩
    have l5 := l123.trans l4
    have h1' := l5 _ _ h1
    have h2' := l5 _ _ h2
    (try walk_at "wx")
    refine x_lenN h1' ?_
    refine nset_app (l.trans l5) f1 f2 n12 h1' h2' hk (Nat.le_trans kd (by decide)) ⟨_, rfl⟩ (by omega) (by omega) fun S' l' e1 e2 => ?_
    refine ih _ _ S' ?_ ?_ l' e1 e2 fun S'' x3 l'' e3 e4 => ?_
    · split
      · omega
      · rw [List.length_append, List.length_singleton]; omega
    · rw [List.length_append, List.length_singleton]; omega
    · rw [← k0] at e3 e4
      refine q S'' x3 l'' e3 ?_
      rw [e4, List.append_assoc]
      simp only [List.map_cons, dd, List.singleton_append]
      have mk : key0 rm ∈ (if key0 rm ∈ D then D else D ++ [key0 rm]) := by
        split
        · assumption
        · exact List.mem_append_right _ List.mem_cons_self
      rw [dd_idx mk]
end WL
namespace WL
open PySem L2
theorem nk_nums {g : Nat → Int} : ∀ (l : List Nat), nkWs (l.map fun d => W.int (g d)) = some (l.map fun d => PySem.NestedKey.num (g d)) ∧ PySem.NestedKey.depthAll (l.map fun d => PySem.NestedKey.num (g d)) = 0
  | [] => ⟨rfl, rfl⟩
  | x :: l => by
    obtain ⟨h1, h2⟩ := nk_nums (g := g) l
    exact ⟨by rw [List.map_cons, nkWs, h1]; rfl, by rw [List.map_cons, PySem.NestedKey.depthAll, h2]; rfl⟩
theorem nk_keyN (kinds : List Nat) (rm : Rm) (k : Nat) : nkW (.tup (.int (k : Int) :: rm.doors.map fun d => .int ((kinds.getD d 0 : Nat) : Int))) = some (keyN kinds rm k) ∧ (keyN kinds rm k).depth ≤ 8 := by
  obtain ⟨h1, h2⟩ := nk_nums (g := fun d => ((kinds.getD d 0 : Nat) : Int)) rm.doors
  refine ⟨by rw [nkW, nkWs, h1]; rfl, ?_⟩
  rw [keyN, PySem.NestedKey.depth, PySem.NestedKey.depthAll, h2, PySem.NestedKey.depth]
  decide
theorem atI_nats {l : List Nat} {d : Nat} (h : d < l.length) : atI (natsW l) (d : Int) = some (.int ((l.getD d 0 : Nat) : Int)) := by
  refine atI_nat ?_
  rw [natsW, List.getElem?_map, List.getElem?_eq_getElem h]
  simp [List.getD_eq_getElem?_getD, List.getElem?_eq_getElem h]
theorem doors_le (rm : Rm) : rm.doors.length ≤ 10 := by
  obtain ⟨lit, ex, ct, sh⟩ := rm
  have c1 : ((ct.map (·.2)).toList).length ≤ 1 := by cases ct <;> simp
  have c2 : sh.toList.length ≤ 1 := by cases sh <;> simp
  have c3 : ex.doors.length ≤ 2 := by cases ex <;> simp [Ex.doors]
  simp only [Rm.doors, List.length_append]
  omega
theorem kinds2_loop {hf : PySem.NestedKey → Int} {p0 p1 p2 p5 : Addr} {S0 : Sto} {Z : Sto → Prop} {Dk : WD} {kinds : List Nat} {x4 : Option W} (hZ : ∀ S, Le S0 S → Z S) (hk2 : S0 p2 = some (.lst (natsW kinds))) (f1 : S0 p1 = none) (f5 : S0 p5 = none) (n15 : p1 ≠ p5) : ∀ (rms : List Rm) (ks : List Nat) (D : List PySem.NestedKey) (out : List Nat) (x3 x6 x7 : Option W) (S : Sto), rms.length = ks.length → (∀ r ∈ rms, ∀ d ∈ r.doors, d < kinds.length) → D.length + rms.length ≤ 1000000 → out.length + rms.length ≤ 1000000 → Le S0 S →
    S p1 = some (.dn hf (dnF 0 D)) → S p5 = some (.lst (natsW out)) →
    (∀ S' x3 x6 x7, Le S0 S' → S' p1 = some (.dn hf (dnF 0 (dd D (List.zipWith (keyN kinds) rms ks)))) → S' p5 = some (.lst (natsW (out ++ (List.zipWith (keyN kinds) rms ks).map fun k => (dd D (List.zipWith (keyN kinds) rms ks)).idxOf k))) → Dk.nx [some (.ref p0), some (.ref p1), some (.ref p2), x3, x4, some (.ref p5), x6, x7] S') →
    forW Z (gTupW 2 (gConsW (gNameW 3) (gConsW (gNameW 6) gNilW))) (l_kinds_of_2 hf sp_renamed sp_doors) (pairsW (rms.map Rm.W) (natsW ks)) Dk [some (.ref p0), some (.ref p1), some (.ref p2), x3, x4, some (.ref p5), x6, x7] S
  | [], ks, D, out, x3, x6, x7, S, hl, dl, sm, so, l, h1, h2, q => by
    cases ks with
    | cons _ _ => simp at hl
    | nil =>
      simp only [List.map_nil, natsW, pairsW, List.zipWith_nil_left, forW]
      exact ⟨hZ S l, q S x3 x6 x7 l h1 (by simpa using h2)⟩
  | rm :: rms, [], D, out, x3, x6, x7, S, hl, dl, sm, so, l, h1, h2, q => by simp at hl
  | rm :: rms, k :: ks, D, out, x3, x6, x7, S, hl, dl, sm, so, l, h1, h2, q => by
    have ep : pairsW ((rm :: rms).map Rm.W) (natsW (k :: ks)) = .tup [rm.W, .int (k : Int)] :: pairsW (rms.map Rm.W) (natsW ks) := rfl
    rw [ep]
    simp only [forW]
    refine ⟨hZ S l, ?_⟩
    have ih := fun D out x7 S => kinds2_loop (hf := hf) (p0 := p0) (x4 := x4) (Dk := Dk) hZ hk2 f1 f5 n15 rms ks D out (some rm.W) (some (.int (k : Int))) x7 S (by simpa using hl) (fun r hr => dl r (List.mem_cons_of_mem _ hr))
    generalize hL : forW Z (gTupW 2 (gConsW (gNameW 3) (gConsW (gNameW 6) gNilW))) (l_kinds_of_2 hf sp_renamed sp_doors) (pairsW (rms.map Rm.W) (natsW ks)) Dk = L at *
    unfold l_kinds_of_2
    obtain ⟨nk, nd⟩ := nk_keyN kinds rm k
    have il : isLst S (.ref p5) := ⟨_, by simp only [rdl, h2]; rfl⟩
    have dml := doors_le rm
    rw [List.length_cons] at sm so
    walk_at "wx"
    refine ⟨il, ?_⟩
    rw [x_nset]
    walk_at "wx"
    refine ⟨p1, _, rfl, h1, ?_⟩
    (try walk_at "wx")
    refine ⟨rm, rfl, fun S1 q1 l1 g1 h3 => ?_⟩
    simp only [so_l h3, onQ_some]
    intro q2 hq2
    have dh : ∀ d ∈ rm.doors, d < kinds.length := dl rm List.mem_cons_self
    refine lc_le (F := fun d : Nat => W.int (d : Int)) (G := fun d => W.int ((kinds.getD d 0 : Nat) : Int)) hq2 rm.doors (fun S2 l2 => so_l (l2 _ _ h3)) (fun d hd S2 Q' l2 q' => ?_) (by omega) fun S2 l2 h4 => ?_
    · have e2 := l2 _ _ (l1 _ _ (l _ _ hk2))
      have e3 := atI_nats (dh d hd)
      repeat (first | simp only [e2, e3, onL_lst] | walk_at "wx")
      exact q' S2 Le.refl
    · have l12 := l1.trans l2
      repeat (first | simp only [so_l h4] | walk_at "wx")
      refine ⟨by simp only [List.length_map]; exact Nat.le_of_lt (small_len (by omega)), ?_⟩
      have h1' := l12 _ _ h1
      have h2' := l12 _ _ h2
      (try walk_at "wx")
      refine x_lenN h1' ?_
      refine nset_app (l.trans l12) f1 f5 n15 h1' h2' nk nd ⟨_, rfl⟩ (by omega) (by omega) fun S' l' e1 e2 => ?_
      refine ih _ _ _ S' ?_ ?_ l' e1 e2 fun S'' x3 x6 x7 l'' e3 e4 => ?_
      · split
        · omega
        · rw [List.length_append, List.length_singleton]; omega
      · rw [List.length_append, List.length_singleton]; omega
      · refine q S'' x3 x6 x7 l'' e3 ?_
        rw [e4, List.append_assoc]
        simp only [List.zipWith_cons_cons, List.map_cons, dd, List.singleton_append]
        have mk : keyN kinds rm k ∈ (if keyN kinds rm k ∈ D then D else D ++ [keyN kinds rm k]) := by
          split
          · assumption
          · exact List.mem_append_right _ List.mem_cons_self
        rw [dd_idx mk]
end WL
namespace WL
open PySem L2
def sp_kinds_of : WSp := fun ws S Q => ∃ (p0 : Addr) (rms : List Rm), ws = [.ref p0] ∧ S p0 = some (.lst (rms.map Rm.W)) ∧ (∀ r ∈ rms, ∀ d ∈ r.doors, d < rms.length) ∧ (∀ r ∈ rms, Nk 7 (r.ren fun _ => 0).W) ∧ rms.length ≤ 1000000 ∧
  ∀ S' p, Le S S' → S p = none → S' p = some (.lst (natsW (kindsF rms))) → Q (.ref p) S'
theorem keysN_map {rms : List Rm} {kinds : List Nat} : List.zipWith (keyN kinds) rms kinds = keysN rms kinds := rfl
theorem k_while {hf : PySem.NestedKey → Int} {p0 : Addr} {rms : List Rm} {Sa : Sto} {Dk : WD} (h0 : Sa p0 = some (.lst (rms.map Rm.W))) (dl : ∀ r ∈ rms, ∀ d ∈ r.doors, d < rms.length) (sm : rms.length ≤ 1000000) : ∀ (f many cnt : Nat) (kinds : List Nat), KInv rms many cnt kinds → rms.length + 1 ≤ f + many →
    ∀ (S : Sto) (p1 p2 : Addr) (D : List PySem.NestedKey) (x3 x5 x6 x7 : Option W), D.length = cnt → Le Sa S → Sa p2 = none → S p1 = some (.dn hf (dnF 0 D)) → S p2 = some (.lst (natsW kinds)) →
    (∀ S' p1 p2 x3 x4 x5 x6 x7, Le Sa S' → Sa p2 = none → S' p2 = some (.lst (natsW (kLoop rms f many cnt kinds))) → Dk.nx [some (.ref p0), some (.ref p1), some (.ref p2), x3, x4, x5, x6, x7] S') →
    whileN (wB (wOp rLt (wVar 4) (wCall (rLenN hf) (wCons (wVar 1) wNil)))) (l_kinds_of_3 hf sp_renamed sp_doors) (f + 1) Dk [some (.ref p0), some (.ref p1), some (.ref p2), x3, some (.int (many : Int)), x5, x6, x7] S
  | 0, many, cnt, kinds, K, hf_, S, p1, p2, D, x3, x5, x6, x7, hD, l, f2, h1, h2, q => by
    have := K.cnt
    rw [x_while1]
    walk_at "wx"
    refine x_lenN h1 ?_
    rw [dnF_len, hD]
    have lt : ¬((many : Int) < (cnt : Int)) := by omega
    repeat (first | simp only [decide_eq_false lt] | walk_at "wx")
    exact q S p1 p2 _ _ _ _ _ l f2 h2
  | f + 1, many, cnt, kinds, K, hf_, S, p1, p2, D, x3, x5, x6, x7, hD, l, f2, h1, h2, q => by
    rw [x_while1]
    walk_at "wx"
    refine x_lenN h1 ?_
    rw [dnF_len, hD]
    rw [kLoop] at q
    by_cases lt : many < cnt
    · have lt' : (many : Int) < (cnt : Int) := by omega
      rw [if_pos lt] at q
      have ih := fun S p1 p2 D x3 x5 x6 x7 => k_while (hf := hf) (Dk := Dk) h0 dl sm f cnt _ _ (K.step dl) (by omega) S p1 p2 D x3 x5 x6 x7
      generalize hL : whileN (wB (wOp rLt (wVar 4) (wCall (rLenN hf) (wCons (wVar 1) wNil)))) (l_kinds_of_3 hf sp_renamed sp_doors) (f + 1) Dk = L at *
      have kl := K.len
      repeat (first | simp only [decide_eq_true lt', if_true] | walk_at "wx")
      unfold l_kinds_of_3
      walk_at "wx"
      refine x_lenN h1 ?_
      rw [dnF_len, hD]
      (try walk_at "wx")
      rw [x_nnew]
      intro q1 hq1
      (try walk_at "wx")
      intro q5 hq5
      have l5 : Le S (put (put S q1 (.dn hf [])) q5 (.lst [])) := (Le.put hq1).trans (Le.put hq5)
      have n15 : q1 ≠ q5 := ne_none put_same hq5
      have g5 : S q5 = none := (Le.put hq1).free hq5
      rw [x_zip]
      (try walk_at "wx")
      refine ⟨.ref p0, .ref p2, _, _, rfl, by simp only [rdl, l5 _ _ (l _ _ h0)]; rfl, by simp only [rdl, l5 _ _ h2]; rfl, by rw [List.length_map, natsW_len, kl], ?_⟩
      refine kinds2_loop (S0 := S) (kinds := kinds) (fun S' l' => ⟨by simp only [rdl, l' _ _ (l _ _ h0)], by simp only [rdl, l' _ _ h2]⟩) h2 hq1 g5 n15 rms kinds [] [] _ _ _ _ kl.symm (fun r hr d hd => by rw [kl]; exact dl r hr d hd) (by simpa using sm) (by simpa using sm) l5 (by rw [put_ne n15, put_same]; rfl) (by rw [put_same]; rfl) fun S' x3 x6 x7 l' e1 e2 => ?_
      rw [keysN_map] at e1 e2
      walk_at "wx"
      exact ih S' q1 q5 _ _ _ _ _ rfl (l.trans l') (l.free g5) e1 (by rw [e2]; rfl) q
    · have lt' : ¬((many : Int) < (cnt : Int)) := by omega
      rw [if_neg lt] at q
      repeat (first | simp only [decide_eq_false lt'] | walk_at "wx")
      exact q S p1 p2 _ _ _ _ _ l f2 h2
theorem r_kinds_of (hf : PySem.NestedKey → Int) : ∀ ws S Q, Up Q → sp_kinds_of ws S Q → t_kinds_of hf sp_renamed sp_doors { nx := fun _ S' => Q .non S', rt := Q } (startW 8 ws) S := by
  rintro ws S Q up ⟨p0, rms, rfl, h0, dl, nk, sm, q⟩
  simp only [t_kinds_of]
  walk_at "wx"
  rw [x_nnew]
  intro p1 hp1
  (try walk_at "wx")
  intro p2 hp2
  have n12 : p1 ≠ p2 := ne_none put_same hp2
  have g2 : S p2 = none := (Le.put hp1).free hp2
  have l2 : Le S (put (put S p1 (.dn hf [])) p2 (.lst [])) := (Le.put hp1).trans (Le.put hp2)
  have e0 : seqOf (put (put S p1 (.dn hf [])) p2 (.lst [])) (.ref p0) = some (rms.map Rm.W) := so_l (l2 _ _ h0)
  simp only [e0, onQ_some]
  refine kinds1_loop (S0 := S) (fun S' l' => so_l (l' _ _ h0)) hp1 g2 n12 rms [] [] _ _ nk (by simpa using sm) (by simpa using sm) l2 (by rw [put_ne n12, put_same]; rfl) (by rw [put_same]; rfl) fun S' x3 l' e1 e2 => ?_
  rw [List.nil_append] at e2
  walk_at "wx"
  refine ⟨rms.length + 1 + 1, ?_⟩
  refine k_while h0 dl sm (rms.length + 1) 0 _ _ (kInv0 rms) (by omega) S' p1 p2 _ _ _ _ _ rfl l' g2 e1 (by rw [e2]; rfl) fun S'' p1 p2 x3 x4 x5 x6 x7 l'' f2 e3 => ?_
  (try walk_at "wx")
  exact q S'' p2 l'' f2 e3
end WL
namespace WL
open PySem L2
/-! ### tidied, plain -/
def meet (kd : Nat → Nat) : List Nat → List Nat → List Nat
  | idxs, [] => idxs
  | idxs, d :: ds => meet kd (if kd d ∈ idxs.map kd then idxs else idxs ++ [d]) ds
def doorsAt (rms : List Rm) (i : Nat) : List Nat := match rms[i]? with
  | some r => r.doors
  | none => []
def bfs (rms : List Rm) (kd : Nat → Nat) : Nat → Nat → List Nat → List Nat
  | 0, _, idxs => idxs
  | f + 1, at_, idxs => match idxs[at_]? with
    | some i => bfs rms kd f (at_ + 1) (meet kd idxs (doorsAt rms i))
    | none => idxs
def kdF (rms : List Rm) (d : Nat) : Nat := (kindsF rms).getD d 0
def tidyI (rms : List Rm) (start : Nat) : List Nat := bfs rms (kdF rms) (rms.length + 1) 0 [start]
def numF (kd : Nat → Nat) (idxs : List Nat) (d : Nat) : Nat := (idxs.map kd).idxOf (kd d)
def rmAt (rms : List Rm) (i : Nat) : Rm := rms.getD i ⟨[], .shut, none, none⟩
def tidyF (params slots : Nat) (rms : List Rm) (start : Nat) : Mc := ⟨params, slots, (tidyI rms start).map fun i => (rmAt rms i).ren (numF (kdF rms) (tidyI rms start))⟩
theorem meet_pre (kd : Nat → Nat) : ∀ (ds idxs : List Nat), ∃ E, meet kd idxs ds = idxs ++ E
  | [], idxs => ⟨[], by simp [meet]⟩
  | d :: ds, idxs => by
    rw [meet]
    split
    · exact meet_pre kd ds idxs
    · obtain ⟨E, e⟩ := meet_pre kd ds (idxs ++ [d])
      exact ⟨d :: E, by rw [e, List.append_assoc]; rfl⟩
theorem meet_mem (kd : Nat → Nat) : ∀ (ds idxs : List Nat) (d : Nat), d ∈ ds → kd d ∈ (meet kd idxs ds).map kd
  | x :: ds, idxs, d, h => by
    rw [meet]
    rcases List.mem_cons.mp h with rfl | h
    · obtain ⟨E, e⟩ := meet_pre kd ds (if kd d ∈ idxs.map kd then idxs else idxs ++ [d])
      rw [e, List.map_append]
      refine List.mem_append_left _ ?_
      split
      · assumption
      · simp
    · exact meet_mem kd ds _ d h
theorem meet_lt (kd : Nat → Nat) {n : Nat} : ∀ (ds idxs : List Nat), (∀ d ∈ ds, d < n) → (∀ i ∈ idxs, i < n) → ∀ i ∈ meet kd idxs ds, i < n
  | [], idxs, _, h => h
  | d :: ds, idxs, hd, h => by
    rw [meet]
    refine meet_lt kd ds _ (fun x hx => hd x (List.mem_cons_of_mem _ hx)) ?_
    split
    · exact h
    · intro i hi
      rcases List.mem_append.mp hi with hi | hi
      · exact h i hi
      · simp at hi; subst hi; exact hd _ List.mem_cons_self
theorem meet_nodup (kd : Nat → Nat) : ∀ (ds idxs : List Nat), (idxs.map kd).Nodup → ((meet kd idxs ds).map kd).Nodup
  | [], idxs, h => h
  | d :: ds, idxs, h => by
    rw [meet]
    refine meet_nodup kd ds _ ?_
    split
    · exact h
    · rename_i n
      rw [List.map_append, List.nodup_append]
      exact ⟨h, by simp, fun a ha b hb => by simp at hb; subst hb; exact fun e => n (e ▸ ha)⟩
theorem nodup_lt : ∀ (n : Nat) (L : List Nat), L.Nodup → (∀ x ∈ L, x < n) → L.length ≤ n
  | 0, L, _, h => by
    cases L with
    | nil => exact Nat.le_refl _
    | cons x L => exact absurd (h x List.mem_cons_self) (Nat.not_lt_zero _)
  | n + 1, L, nd, h => by
    by_cases hn : n ∈ L
    · have he : (L.erase n).length = L.length - 1 := List.length_erase_of_mem hn
      have := nodup_lt n (L.erase n) (nd.erase n) fun x hx => by
        have h1 := h x (List.mem_of_mem_erase hx)
        have h2 : x ≠ n := fun e => by subst e; exact (List.Nodup.not_mem_erase nd) hx
        omega
      omega
    · have := nodup_lt n L nd fun x hx => by
        have h1 := h x hx
        have h2 : x ≠ n := fun e => hn (e ▸ hx)
        omega
      omega
theorem nodup_of_map {kd : Nat → Nat} : ∀ {L : List Nat}, (L.map kd).Nodup → L.Nodup
  | [], _ => List.nodup_nil
  | x :: L, h => by
    rw [List.map_cons, List.nodup_cons] at h
    exact List.nodup_cons.mpr ⟨fun m => h.1 (List.mem_map.mpr ⟨x, m, rfl⟩), nodup_of_map h.2⟩
/-- rooms met so far -/
structure BInv (rms : List Rm) (kd : Nat → Nat) (at_ : Nat) (idxs : List Nat) : Prop where
  lt : ∀ i ∈ idxs, i < rms.length
  nd : (idxs.map kd).Nodup
  cl : ∀ (j i : Nat), j < at_ → idxs[j]? = some i → ∀ d ∈ doorsAt rms i, kd d ∈ idxs.map kd
theorem BInv.len {rms : List Rm} {kd : Nat → Nat} {a : Nat} {idxs : List Nat} (h : BInv rms kd a idxs) : idxs.length ≤ rms.length := nodup_lt _ _ (nodup_of_map h.nd) h.lt
theorem doorsAt_lt {rms : List Rm} (dl : ∀ r ∈ rms, ∀ d ∈ r.doors, d < rms.length) (i : Nat) : ∀ d ∈ doorsAt rms i, d < rms.length := by
  intro d hd
  unfold doorsAt at hd
  split at hd
  · rename_i r e
    exact dl r (List.mem_of_getElem? e) d hd
  · simp at hd
theorem BInv.step {rms : List Rm} {kd : Nat → Nat} {a i : Nat} {idxs : List Nat} (dl : ∀ r ∈ rms, ∀ d ∈ r.doors, d < rms.length) (h : BInv rms kd a idxs) (hi : idxs[a]? = some i) : BInv rms kd (a + 1) (meet kd idxs (doorsAt rms i)) := by
  obtain ⟨E, e⟩ := meet_pre kd (doorsAt rms i) idxs
  refine ⟨meet_lt kd _ _ (doorsAt_lt dl i) h.lt, meet_nodup kd _ _ h.nd, fun j i' hj hi' d hd => ?_⟩
  have al := (List.getElem?_eq_some_iff.mp hi).1
  by_cases ja : j < a
  · rw [e, List.getElem?_append_left (by omega)] at hi'
    rw [e, List.map_append]
    exact List.mem_append_left _ (h.cl j i' ja hi' d hd)
  · obtain rfl : j = a := by omega
    rw [e, List.getElem?_append_left al, hi] at hi'
    cases hi'
    exact meet_mem kd _ _ d hd
theorem bfs_ok {rms : List Rm} {kd : Nat → Nat} (dl : ∀ r ∈ rms, ∀ d ∈ r.doors, d < rms.length) : ∀ (f a : Nat) (idxs : List Nat), BInv rms kd a idxs → rms.length + 1 ≤ f + a → (∃ a', BInv rms kd a' (bfs rms kd f a idxs) ∧ (bfs rms kd f a idxs).length ≤ a') ∧ ∃ E, bfs rms kd f a idxs = idxs ++ E
  | 0, a, idxs, h, hf => ⟨⟨a, h, by have := h.len; rw [bfs]; omega⟩, [], by simp [bfs]⟩
  | f + 1, a, idxs, h, hf => by
    rw [bfs]
    split
    · rename_i i hi
      obtain ⟨h1, E, e⟩ := bfs_ok dl f (a + 1) _ (h.step dl hi) (by omega)
      obtain ⟨E', e'⟩ := meet_pre kd (doorsAt rms i) idxs
      exact ⟨h1, E' ++ E, by rw [e, e', List.append_assoc]⟩
    · rename_i hn
      exact ⟨⟨a, h, by simpa using hn⟩, [], by simp⟩
structure TidyOk (rms : List Rm) (kd : Nat → Nat) (start : Nat) (idxs : List Nat) : Prop where
  head : idxs[0]? = some start
  lt : ∀ i ∈ idxs, i < rms.length
  nd : (idxs.map kd).Nodup
  cl : ∀ i ∈ idxs, ∀ d ∈ doorsAt rms i, kd d ∈ idxs.map kd
theorem bInv0 {rms : List Rm} {kd : Nat → Nat} {start : Nat} (h : start < rms.length) : BInv rms kd 0 [start] := ⟨fun i hi => by simp at hi; subst hi; exact h, by simp, fun j i hj => absurd hj (Nat.not_lt_zero _)⟩
theorem tidy_ok {rms : List Rm} (dl : ∀ r ∈ rms, ∀ d ∈ r.doors, d < rms.length) {start : Nat} (h : start < rms.length) : TidyOk rms (kdF rms) start (tidyI rms start) := by
  obtain ⟨⟨a, b, la⟩, E, e⟩ := bfs_ok (kd := kdF rms) dl (rms.length + 1) 0 [start] (bInv0 h) (by omega)
  refine ⟨by unfold tidyI; rw [e]; rfl, b.lt, b.nd, fun i hi d hd => ?_⟩
  obtain ⟨j, hj⟩ := List.mem_iff_getElem?.mp hi
  have jl := (List.getElem?_eq_some_iff.mp hj).1
  exact b.cl j i (Nat.lt_of_lt_of_le jl la) hj d hd
/-! ### a machine and its tidied one run alike -/
theorem ren_eq {a b : Rm} {kd : Nat → Nat} {g : Nat → Nat} (h0 : (a.ren fun _ => 0) = (b.ren fun _ => 0)) (h : a.doors.map kd = b.doors.map kd) : a.ren (fun d => g (kd d)) = b.ren (fun d => g (kd d)) := by
  obtain ⟨la, ea, ca, sa⟩ := a
  obtain ⟨lb, eb, cb, sb⟩ := b
  simp only [Rm.ren, Rm.mk.injEq] at h0
  obtain ⟨rfl, he, hc, hs⟩ := h0
  simp only [Rm.doors, List.map_append] at h
  have hs2 : sa.isSome = sb.isSome := by cases sa <;> cases sb <;> simp at hs ⊢
  have hc2 : ca.isSome = cb.isSome := by
    cases ca <;> cases cb <;> simp at hc ⊢
  have he2 : ea.doors.length = eb.doors.length := by cases ea <;> cases eb <;> simp [Ex.ren] at he <;> rfl
  obtain ⟨h1, h2⟩ := List.append_inj h (by simp [he2])
  obtain ⟨h3, h4⟩ := List.append_inj h2 (by cases ca <;> cases cb <;> simp at hc2 ⊢)
  simp only [Rm.ren, Rm.mk.injEq, true_and]
  refine ⟨?_, ?_, ?_⟩
  · cases ea <;> cases eb <;> simp [Ex.ren, Ex.doors] at he h1 ⊢ <;> simp [he, h1]
  · cases ca <;> cases cb <;> simp at hc h3 hc2 ⊢
    exact ⟨hc, by rw [h3]⟩
  · cases sa <;> cases sb <;> simp at hs2 h4 ⊢
    rw [h4]
end WL
namespace WL
open PySem L2
def Wy.ren (f : Nat → Nat) : Wy → Wy | .go r => .go (f r) | w => w
theorem ex_ren {H : HR} {f : Nat → Nat} {ex : Ex} {s : RS} {x : Wy × RS} (t : exTo H ex s x) : exTo H (ex.ren f) s (x.1.ren f, x.2) := by
  cases ex with
  | go r => cases t; rfl
  | shut => cases t; rfl
  | fork e a b =>
    simp only [exTo, Ex.ren] at t ⊢
    subst t
    cases reck s.1 e with
    | none => rfl
    | some v => by_cases h : v = 0 <;> simp [h, Wy.ren]
  | ends e =>
    simp only [exTo, Ex.ren] at t ⊢
    subst t
    cases reck s.1 e <;> rfl
  | fault e =>
    simp only [exTo, Ex.ren] at t ⊢
    subst t
    cases reck s.1 e <;> rfl
  | give e k r =>
    simp only [exTo, Ex.ren] at t ⊢
    subst t
    cases reck s.1 e with
    | none => rfl
    | some v =>
      simp only
      cases given s.2 v k s.1 with
      | mk w s' => cases w <;> rfl
  | hand w as k r =>
    simp only [exTo, Ex.ren] at t ⊢
    cases q : allReck s.1 as with
    | none => rw [q] at t; subst t; rfl
    | some ns =>
      rw [q] at t
      obtain ⟨y, hy, rfl⟩ := t
      refine ⟨y, hy, ?_⟩
      obtain ⟨y, T⟩ := y
      cases y <;> rfl
theorem rm_ren {H : HR} {f : Nat → Nat} {rm : Rm} {s : RS} {x : Wy × RS} (t : rmTo H rm s x) : rmTo H (rm.ren f) s (x.1.ren f, x.2) := by
  unfold rmTo at t ⊢
  simp only [Rm.ren]
  split at t
  · subst t; rfl
  · exact ex_ren t
theorem next_ren {f : Nat → Nat} {rm : Rm} {x : Wy × RS} : (∀ r s', rm.next x = .inl (r, s') → (rm.ren f).next (x.1.ren f, x.2) = .inl (f r, s')) ∧ ∀ y, rm.next x = .inr y → (rm.ren f).next (x.1.ren f, x.2) = .inr y := by
  obtain ⟨w, sl, T⟩ := x
  obtain ⟨lit, ex, ct, sh⟩ := rm
  cases w with
  | go r => exact ⟨fun r' s' e => by simp [Rm.next, Wy.ren] at e ⊢; exact ⟨by rw [e.1], e.2⟩, fun y e => by simp [Rm.next] at e⟩
  | out => exact ⟨fun r' s' e => by simp [Rm.next] at e, fun y e => by simpa [Rm.next, Wy.ren] using e⟩
  | way w => cases w with
    | fault v =>
      cases ct with
      | none => exact ⟨fun r' s' e => by simp [Rm.next] at e, fun y e => by simpa [Rm.next, Wy.ren, Rm.ren] using e⟩
      | some kr => exact ⟨fun r' s' e => by simp [Rm.next, Wy.ren, Rm.ren] at e ⊢; exact ⟨by rw [e.1], e.2⟩, fun y e => by simp [Rm.next] at e⟩
    | shut =>
      cases sh with
      | none => exact ⟨fun r' s' e => by simp [Rm.next] at e, fun y e => by simpa [Rm.next, Wy.ren, Rm.ren] using e⟩
      | some kr => exact ⟨fun r' s' e => by simp [Rm.next, Wy.ren, Rm.ren] at e ⊢; exact ⟨by rw [e.1], e.2⟩, fun y e => by simp [Rm.next] at e⟩
    | _ => exact ⟨fun r' s' e => by simp [Rm.next] at e, fun y e => by simpa [Rm.next, Wy.ren] using e⟩
theorem ex_door {H : HR} {ex : Ex} {s s' : RS} {r : Nat} (t : exTo H ex s (.go r, s')) : r ∈ ex.doors := by
  cases ex with
  | go r => cases t; simp [Ex.doors]
  | shut => cases t
  | fork e a b =>
    simp only [exTo] at t
    cases q : reck s.1 e with
    | none => rw [q] at t; simp at t
    | some v => rw [q] at t; simp at t; show r ∈ [a, b]; rw [t.1]; split <;> simp
  | ends e => simp only [exTo] at t; cases q : reck s.1 e <;> rw [q] at t <;> simp at t
  | fault e => simp only [exTo] at t; cases q : reck s.1 e <;> rw [q] at t <;> simp at t
  | give e k r =>
    simp only [exTo] at t
    cases q : reck s.1 e with
    | none => rw [q] at t; simp at t
    | some v =>
      rw [q] at t
      cases q2 : given s.2 v k s.1 with
      | mk w s2 => cases w <;> simp only [q2] at t <;> simp at t; rw [t.1]; simp [Ex.doors]
  | hand w as k r =>
    simp only [exTo] at t
    cases q : allReck s.1 as with
    | none => rw [q] at t; simp at t
    | some ns =>
      rw [q] at t
      obtain ⟨⟨y, T⟩, hy, e⟩ := t
      cases y <;> simp [handTo] at e
      rw [e.1]; simp [Ex.doors]
theorem next_door {H : HR} {rm : Rm} {s s' : RS} {x : Wy × RS} {r : Nat} (t : rmTo H rm s x) (e : rm.next x = .inl (r, s')) : r ∈ rm.doors := by
  obtain ⟨w, sl, T⟩ := x
  cases w with
  | go r' =>
    simp [Rm.next] at e
    obtain ⟨rfl, rfl⟩ := e
    unfold rmTo at t
    split at t
    · simp at t
    · exact List.mem_append_left _ (ex_door t)
  | out => simp [Rm.next] at e
  | way w => cases w with
    | fault v =>
      cases q : rm.ct with
      | none => simp [Rm.next, q] at e
      | some kr => simp [Rm.next, q] at e; simp [Rm.doors, q, e.1]
    | shut =>
      cases q : rm.sh with
      | none => simp [Rm.next, q] at e
      | some kr => simp [Rm.next, q] at e; simp [Rm.doors, q, e.1]
    | _ => simp [Rm.next] at e
theorem Goes.sim {H : HR} {rms rms' : List Rm} {f : Nat → Nat} {P : Nat → Prop} (sim : ∀ a r, P a → rms[a]? = some r → rms'[f a]? = some (r.ren f) ∧ ∀ d ∈ r.doors, P d) {a : Nat} {s : RS} {y : Way × Tk} (g : Goes H rms a s y) : P a → Goes H rms' (f a) s y := by
  induction g with
  | step h1 h2 h3 h4 ih =>
    intro p
    obtain ⟨s1, s2⟩ := sim _ _ p h1
    exact .step s1 (rm_ren h2) (next_ren.1 _ _ h3) (ih (s2 _ (next_door h2 h3)))
  | over h1 h2 h3 =>
    intro p
    obtain ⟨s1, s2⟩ := sim _ _ p h1
    exact .over s1 (rm_ren h2) (next_ren.2 _ h3)
theorem Goes.mono {H H' : HR} {rms : List Rm} (h : ∀ w ns T y, H w ns T y → H' w ns T y) {a : Nat} {s : RS} {y : Way × Tk} (g : Goes H rms a s y) : Goes H' rms a s y := by
  have ex : ∀ {ex s x}, exTo H ex s x → exTo H' ex s x := by
    intro ex s x t
    cases ex with
    | hand w as k r =>
      simp only [exTo] at t ⊢
      split at t
      · exact t
      · obtain ⟨y, hy, e⟩ := t
        exact ⟨y, h _ _ _ _ hy, e⟩
    | _ => exact t
  have rm : ∀ {rm s x}, rmTo H rm s x → rmTo H' rm s x := by
    intro rm s x t
    unfold rmTo at t ⊢
    split at t
    · exact t
    · exact ex t
  induction g with
  | step h1 h2 h3 _ ih => exact .step h1 (rm h2) h3 ih
  | over h1 h2 h3 => exact .over h1 (rm h2) h3
theorem rmAt_of {rms : List Rm} {i : Nat} {r : Rm} (h : rms[i]? = some r) : rmAt rms i = r := by simp [rmAt, h]
/-- a tidied machine runs as it did -/
theorem tidy_goes {H : HR} {rms : List Rm} {params slots start : Nat} (dl : ∀ r ∈ rms, ∀ d ∈ r.doors, d < rms.length) (nk : ∀ r ∈ rms, Nk 7 (r.ren fun _ => 0).W) (hs : start < rms.length) {s : RS} {y : Way × Tk} (g : Goes H rms start s y) : Goes H (tidyF params slots rms start).rooms 0 s y := by
  have tk := tidy_ok dl hs
  have ko := kinds_ok dl nk
  have z : numF (kdF rms) (tidyI rms start) start = 0 := by
    unfold numF
    have h := tk.head
    cases e : tidyI rms start with
    | nil => rw [e] at h; simp at h
    | cons x l => rw [e] at h; simp at h; subst h; simp
  rw [← z]
  refine g.sim (P := fun a => a < rms.length ∧ kdF rms a ∈ (tidyI rms start).map (kdF rms)) (fun a r pa ha => ?_) ⟨hs, by
    have h := tk.head
    exact List.mem_map.mpr ⟨start, List.mem_of_getElem? h, rfl⟩⟩
  obtain ⟨pl, pm⟩ := pa
  have il := List.idxOf_lt_length_of_mem pm
  have ei : ((tidyI rms start).map (kdF rms))[((tidyI rms start).map (kdF rms)).idxOf (kdF rms a)]? = some (kdF rms a) := by
    rw [List.getElem?_eq_getElem il, List.getElem_idxOf il]
  rw [List.getElem?_map] at ei
  cases e2 : (tidyI rms start)[((tidyI rms start).map (kdF rms)).idxOf (kdF rms a)]? with
  | none => rw [e2] at ei; simp at ei
  | some i =>
    rw [e2] at ei
    simp at ei
    have hi := tk.lt i (List.mem_of_getElem? e2)
    obtain ⟨r', hr'⟩ := get_of_lt hi
    have kl := ko.len
    obtain ⟨k1, hk1⟩ := get_of_lt (l := kindsF rms) (i := i) (by rw [kl]; exact hi)
    obtain ⟨k2, hk2⟩ := get_of_lt (l := kindsF rms) (i := a) (by rw [kl]; exact pl)
    have ek : k1 = k2 := by
      unfold kdF at ei
      rw [getD_of hk1, getD_of hk2] at ei
      exact ei
    obtain ⟨b1, b2⟩ := ko.same i a r' r hr' ha (by rw [hk1, hk2, ek])
    constructor
    · show ((tidyI rms start).map fun i => (rmAt rms i).ren (numF (kdF rms) (tidyI rms start)))[numF (kdF rms) (tidyI rms start) a]? = _
      unfold numF
      rw [List.getElem?_map, e2]
      simp only [Option.map_some]
      rw [rmAt_of hr']
      exact congrArg some (ren_eq (g := fun k => ((tidyI rms start).map (kdF rms)).idxOf k) (kd := kdF rms) b1 b2)
    · intro d hd
      refine ⟨dl r (List.mem_of_getElem? ha) d hd, ?_⟩
      have md : kdF rms d ∈ r'.doors.map (kdF rms) := by
        have : kdF rms d ∈ r.doors.map (kdF rms) := List.mem_map.mpr ⟨d, hd, rfl⟩
        rw [show r'.doors.map (kdF rms) = r.doors.map (kdF rms) from b2]
        exact this
      obtain ⟨d', hd', e3⟩ := List.mem_map.mp md
      rw [← e3]
      refine tk.cl i (List.mem_of_getElem? e2) d' ?_
      unfold doorsAt
      rw [hr']
      exact hd'
theorem tidy_rooms_ok {ms : List Mc} {m nr : Nat} {rms : List Rm} {params slots start : Nat} (dl : ∀ r ∈ rms, ∀ d ∈ r.doors, d < rms.length) (hs : start < rms.length) (ok : ∀ r ∈ rms, r.ok ms m nr) : ∀ r ∈ (tidyF params slots rms start).rooms, r.ok ms m (tidyF params slots rms start).rooms.length := by
  have tk := tidy_ok dl hs
  intro r hr
  obtain ⟨i, hi, rfl⟩ := List.mem_map.mp hr
  have il := tk.lt i hi
  obtain ⟨r', hr'⟩ := get_of_lt il
  rw [rmAt_of hr']
  refine Rm.ren_ok (fun d hd => ?_) (ok r' (List.mem_of_getElem? hr'))
  have l : (tidyF params slots rms start).rooms.length = (tidyI rms start).length := by simp [tidyF]
  rw [l]
  have m := tk.cl i hi d (by unfold doorsAt; rw [hr']; exact hd)
  have := List.idxOf_lt_length_of_mem m
  rwa [List.length_map] at this
theorem tidy_len {rms : List Rm} {params slots start : Nat} (dl : ∀ r ∈ rms, ∀ d ∈ r.doors, d < rms.length) (hs : start < rms.length) : 0 < (tidyF params slots rms start).rooms.length ∧ (tidyF params slots rms start).rooms.length ≤ rms.length := by
  have tk := tidy_ok dl hs
  have l : (tidyF params slots rms start).rooms.length = (tidyI rms start).length := by simp [tidyF]
  rw [l]
  exact ⟨(List.getElem?_eq_some_iff.mp tk.head).1, nodup_lt _ _ (nodup_of_map tk.nd) tk.lt⟩
end WL
namespace WL
open PySem L2
/-! ### tidied, its walk -/
def dkF : Nat → List Nat → List (Key × W)
  | _, [] => []
  | n, k :: ks => (.inl (k : Int), .int (n : Int)) :: dkF (n + 1) ks
theorem dkF_len : ∀ (ks : List Nat) (n : Nat), (dkF n ks).length = ks.length
  | [], _ => rfl
  | k :: ks, n => by rw [dkF, List.length_cons, List.length_cons, dkF_len ks]
theorem dkF_snoc : ∀ (ks : List Nat) (n k : Nat), dkF n (ks ++ [k]) = dkF n ks ++ [(.inl (k : Int), .int ((n + ks.length : Nat) : Int))]
  | [], n, k => rfl
  | x :: ks, n, k => by
    rw [List.cons_append, dkF, dkF, dkF_snoc ks (n + 1) k, List.cons_append, List.length_cons]
    rw [show n + 1 + ks.length = n + (ks.length + 1) by omega]
theorem dkF_val : ∀ (ks : List Nat) (n k : Nat), valW (dkF n ks) (.inl (k : Int)) = if k ∈ ks then some (.int ((n + ks.idxOf k : Nat) : Int)) else none
  | [], n, k => by simp [dkF, valW]
  | x :: ks, n, k => by
    have ih := dkF_val ks (n + 1) k
    rw [dkF, val_cons, ih]
    by_cases e : x = k
    · subst e; simp
    · have e1 : ¬((Sum.inl (x : Int) : Key) = .inl (k : Int)) := fun z => e (by injection z with z; omega)
      have hb : (x == k) = false := by simp [e]
      rw [if_neg e1]
      by_cases m : k ∈ ks
      · rw [if_pos m, if_pos (List.mem_cons_of_mem _ m), List.idxOf_cons, hb]
        simp only [cond_false, Option.some.injEq, W.int.injEq]
        omega
      · rw [if_neg m, if_neg (fun z => (List.mem_cons.mp z).elim (fun z => e z.symm) m)]
theorem put_new {kvs : List (Key × W)} {k : Key} {w : W} (h : valW kvs k = none) : putKW kvs k w = kvs ++ [(k, w)] := by
  unfold putKW
  rw [if_neg]
  intro z
  rw [List.any_eq_true] at z
  obtain ⟨kv, h1, h2⟩ := z
  unfold valW at h
  rw [Option.map_eq_none_iff, List.find?_eq_none] at h
  exact h kv h1 h2
theorem x_notindk {S : Sto} {Q : WQ} {i : Int} {a : Addr} {kvs : List (Key × W)} (h : S a = some (.dk kvs)) : rInDk true (.int i) (.ref a) S Q = Q (.bl (!(valW kvs (.inl i)).isSome)) S := by
  unfold rInDk
  simp only [key_i, h]
  cases (valW kvs (.inl i)).isSome <;> rfl
theorem dput_i {K : Sto → Prop} {a : Addr} {i : Int} {w : W} {S : Sto} {kvs : List (Key × W)} (h : S a = some (.dk kvs)) : dputW (.ref a) (.int i) w S K = (kvs.length < sizeLine ∧ K (put S a (.dk (putKW kvs (.inl i) w)))) := by
  unfold dputW
  simp only [key_i, h]
theorem dget_i {Q : WQ} {a : Addr} {i : Int} {S : Sto} {kvs : List (Key × W)} {w : W} (h : S a = some (.dk kvs)) (h2 : valW kvs (.inl i) = some w) : rDGet (.ref a) (.int i) S Q = Q w S := by
  unfold rDGet
  simp only [key_i, h, h2]
def dsp1 (x y : W) (p : Addr) (S2 : Sto) (Q : WQ) : Prop := match keysW [(x, y)] with
  | some kvs => (S2 p = some (.dk []) ∧ kvs.length ≤ 15) ∧ Q (.ref p) (put S2 p (.dk (mergeW [] kvs)))
  | none => False
theorem x_disp1 {tk tv : WE} {r : Rho} {S : Sto} {Q : WQ} : wDisp ((tk, tv) :: []) r S Q = ∀ p, S p = none → tk r (put S p (.dk [])) fun x S1 => tv r S1 fun y S2 => dsp1 x y p S2 Q := rfl
theorem dsp_i {i : Int} {y : W} {p : Addr} {S2 : Sto} {Q : WQ} : dsp1 (.int i) y p S2 Q = ((S2 p = some (.dk []) ∧ 1 ≤ 15) ∧ Q (.ref p) (put S2 p (.dk [(.inl i, y)]))) := rfl
def roomsAt (rms : List Rm) (idxs : List Nat) : List W := idxs.map fun i => (rmAt rms i).W
theorem rms_at {rms : List Rm} {d : Nat} (h : d < rms.length) : atI (rms.map Rm.W) (d : Int) = some (rmAt rms d).W := by
  obtain ⟨r, hr⟩ := get_of_lt h
  rw [rmAt_of hr]
  exact atI_map hr
theorem meet_loop {rms : List Rm} {p2 p4 p5 p6 q1 : Addr} {S0 : Sto} {Z : Sto → Prop} {Dk : WD} {x0 x1 x3 x7 x9 : Option W} {lq : List W} (sm : rms.length ≤ 1000000) (hr : S0 p2 = some (.lst (rms.map Rm.W))) (hk : S0 p4 = some (.lst (natsW (kindsF rms)))) (kl : (kindsF rms).length = rms.length) (f5 : S0 p5 = none) (f6 : S0 p6 = none) (n56 : p5 ≠ p6) (m5 : q1 ≠ p5) (m6 : q1 ≠ p6) (hZ : ∀ S, S q1 = some (.lst lq) → Z S) : ∀ (ds idxs : List Nat) (x8 : Option W) (S : Sto), (∀ d ∈ ds, d < rms.length) → (∀ i ∈ idxs, i < rms.length) → (idxs.map (kdF rms)).Nodup → Le S0 S → S q1 = some (.lst lq) →
    S p5 = some (.dk (dkF 0 (idxs.map (kdF rms)))) → S p6 = some (.lst (roomsAt rms idxs)) →
    (∀ S' x8, Le S0 S' → S' p5 = some (.dk (dkF 0 ((meet (kdF rms) idxs ds).map (kdF rms)))) → S' p6 = some (.lst (roomsAt rms (meet (kdF rms) idxs ds))) → Dk.nx [x0, x1, some (.ref p2), x3, some (.ref p4), some (.ref p5), some (.ref p6), x7, x8, x9] S') →
    forW Z (gNameW 8) (l_tidied_1 sp_kinds_of sp_doors sp_renamed) (natsW ds) Dk [x0, x1, some (.ref p2), x3, some (.ref p4), some (.ref p5), some (.ref p6), x7, x8, x9] S
  | [], idxs, x8, S, hd, hi, nd, l, hq, h5, h6, q => by
    simp only [natsW, List.map_nil, forW]
    exact ⟨hZ S hq, q S x8 l h5 h6⟩
  | d :: ds, idxs, x8, S, hd, hi, nd, l, hq, h5, h6, q => by
    have en : natsW (d :: ds) = .int (d : Int) :: natsW ds := rfl
    rw [en]
    simp only [forW]
    refine ⟨hZ S hq, ?_⟩
    have ih := fun idxs S => meet_loop (x0 := x0) (x1 := x1) (x3 := x3) (x7 := x7) (x9 := x9) (Dk := Dk) sm hr hk kl f5 f6 n56 m5 m6 hZ ds idxs (some (.int (d : Int))) S (fun x hx => hd x (List.mem_cons_of_mem _ hx))
    generalize hL : forW Z (gNameW 8) (l_tidied_1 sp_kinds_of sp_doors sp_renamed) (natsW ds) Dk = L at *
    unfold l_tidied_1
    have dlt := hd d List.mem_cons_self
    have e4 := l _ _ hk
    have e2 := l _ _ hr
    have a4 := atI_nats (l := kindsF rms) (d := d) (by rw [kl]; exact dlt)
    have a2 := rms_at dlt
    have kd : (kindsF rms).getD d 0 = kdF rms d := rfl
    rw [kd] at a4
    have vv := dkF_val (idxs.map (kdF rms)) 0 (kdF rms d)
    rw [meet] at q
    repeat (first | simp only [e4, onL_lst, a4, x_notindk h5, vv] | walk_at "wx")
    by_cases m : kdF rms d ∈ idxs.map (kdF rms)
    · rw [if_pos m] at q vv
      repeat (first | simp only [if_pos m, Option.isSome_some, Bool.not_true, Bool.false_eq_true, if_false] | walk_at "wx")
      exact ih idxs S hi nd l hq h5 h6 q
    · rw [if_neg m] at q vv
      have len := nodup_lt _ _ (nodup_of_map nd) hi
      repeat (first | simp only [if_neg m, Option.isSome_none, Bool.not_false, if_true, len_l h6] | walk_at "wx")
      repeat (first | simp only [len_l h6, e4, onL_lst, a4] | walk_at "wx")
      rw [dput_i h5]
      refine ⟨by rw [dkF_len, List.length_map]; exact small_len (by omega), ?_⟩
      have rl : (roomsAt rms idxs).length = idxs.length := List.length_map _
      have ep : putKW (dkF 0 (idxs.map (kdF rms))) (.inl ((kdF rms d : Nat) : Int)) (.int ((roomsAt rms idxs).length : Int)) = dkF 0 ((idxs ++ [d]).map (kdF rms)) := by
        rw [put_new vv, List.map_append, List.map_singleton, dkF_snoc, Nat.zero_add, List.length_map, rl]
      rw [ep]
      have h6' : put S p5 (.dk (dkF 0 ((idxs ++ [d]).map (kdF rms)))) p6 = some (.lst (roomsAt rms idxs)) := by rw [put_ne (Ne.symm n56)]; exact h6
      have e2' : put S p5 (.dk (dkF 0 ((idxs ++ [d]).map (kdF rms)))) p2 = some (.lst (rms.map Rm.W)) := by rw [put_ne (ne_none hr f5)]; exact e2
      have il : isLst (put S p5 (.dk (dkF 0 ((idxs ++ [d]).map (kdF rms))))) (.ref p6) := ⟨_, by simp only [rdl, h6']; rfl⟩
      repeat (first | simp only [h6', e2', onL_lst, a2] | walk_at "wx")
      refine ⟨il, by rw [rl]; exact small_len (by omega), ?_⟩
      have er : roomsAt rms idxs ++ [(rmAt rms d).W] = roomsAt rms (idxs ++ [d]) := by simp [roomsAt]
      rw [er]
      refine ih (idxs ++ [d]) _ (fun i hi' => ?_) ?_ (Le.put2 (Le.put2 l f5) f6) (by rw [put_ne m6, put_ne m5]; exact hq) (by rw [put_ne n56, put_same]) put_same q
      · rcases List.mem_append.mp hi' with z | z
        · exact hi i z
        · simp at z; subst z; exact dlt
      · rw [List.map_append, List.nodup_append]
        exact ⟨nd, by simp, fun a ha b hb => by simp at hb; subst hb; exact fun e => m (e ▸ ha)⟩
end WL
namespace WL
open PySem L2
theorem doorsAt_of {rms : List Rm} {i : Nat} (h : i < rms.length) : doorsAt rms i = (rmAt rms i).doors := by
  obtain ⟨r, hr⟩ := get_of_lt h
  rw [rmAt_of hr]
  unfold doorsAt
  rw [hr]
theorem bfs_while {rms : List Rm} {p2 p4 p5 p6 : Addr} {S0 : Sto} {Dk : WD} {x0 x1 x3 x9 : Option W} (dl : ∀ r ∈ rms, ∀ d ∈ r.doors, d < rms.length) (sm : rms.length ≤ 1000000) (hr : S0 p2 = some (.lst (rms.map Rm.W))) (hk : S0 p4 = some (.lst (natsW (kindsF rms)))) (kl : (kindsF rms).length = rms.length) (f5 : S0 p5 = none) (f6 : S0 p6 = none) (n56 : p5 ≠ p6) : ∀ (f a : Nat) (idxs : List Nat) (x8 : Option W) (S : Sto), BInv rms (kdF rms) a idxs → rms.length + 1 ≤ f + a → Le S0 S →
    S p5 = some (.dk (dkF 0 (idxs.map (kdF rms)))) → S p6 = some (.lst (roomsAt rms idxs)) →
    (∀ S' x7 x8, Le S0 S' → S' p5 = some (.dk (dkF 0 ((bfs rms (kdF rms) f a idxs).map (kdF rms)))) → S' p6 = some (.lst (roomsAt rms (bfs rms (kdF rms) f a idxs))) → Dk.nx [x0, x1, some (.ref p2), x3, some (.ref p4), some (.ref p5), some (.ref p6), x7, x8, x9] S') →
    whileN (wB (wOp rLt (wVar 7) (wCall rLenW (wCons (wVar 6) wNil)))) (l_tidied_2 sp_kinds_of sp_doors sp_renamed) (f + 1) Dk [x0, x1, some (.ref p2), x3, some (.ref p4), some (.ref p5), some (.ref p6), some (.int (a : Int)), x8, x9] S
  | f, a, idxs, x8, S, B, hf, l, h5, h6, q => by
    have bl := B.len
    have rl : (roomsAt rms idxs).length = idxs.length := List.length_map _
    rw [x_while1]
    repeat (first | simp only [len_l h6, rl] | walk_at "wx")
    cases e : idxs[a]? with
    | none =>
      have ge : idxs.length ≤ a := by simpa using e
      have lt : ¬((a : Int) < (idxs.length : Int)) := by omega
      have eb : bfs rms (kdF rms) f a idxs = idxs := by
        cases f with
        | zero => rfl
        | succ f => rw [bfs, e]
      rw [eb] at q
      repeat (first | simp only [decide_eq_false lt] | walk_at "wx")
      exact q S _ _ l h5 h6
    | some i =>
      have al := (List.getElem?_eq_some_iff.mp e).1
      have lt : (a : Int) < (idxs.length : Int) := by omega
      cases f with
      | zero => omega
      | succ f =>
        have ih := fun idxs x8 S => bfs_while (x0 := x0) (x1 := x1) (x3 := x3) (x9 := x9) (Dk := Dk) dl sm hr hk kl f5 f6 n56 f (a + 1) idxs x8 S
        rw [bfs, e] at q
        simp only at q
        have il := B.lt i (List.mem_of_getElem? e)
        have ed := doorsAt_of il
        have a6 : atI (roomsAt rms idxs) (a : Int) = some (rmAt rms i).W := atI_nat (by rw [roomsAt, List.getElem?_map, e]; rfl)
        generalize hL : whileN (wB (wOp rLt (wVar 7) (wCall rLenW (wCons (wVar 6) wNil)))) (l_tidied_2 sp_kinds_of sp_doors sp_renamed) (f + 1) Dk = L at *
        repeat (first | simp only [decide_eq_true lt, if_true] | walk_at "wx")
        unfold l_tidied_2
        repeat (first | simp only [h6, onL_lst, a6] | walk_at "wx")
        refine ⟨rmAt rms i, rfl, fun S1 q1 l1 g1 h1 => ?_⟩
        simp only [so_l h1, onQ_some]
        have h5' := l1 _ _ h5
        have h6' := l1 _ _ h6
        rw [ed] at q
        refine meet_loop sm hr hk kl f5 f6 n56 (Ne.symm (ne_none h5 g1)) (Ne.symm (ne_none h6 g1)) (fun S' e' => so_l e') (rmAt rms i).doors idxs _ S1 (fun d hd => by rw [← ed] at hd; exact doorsAt_lt dl i d hd) B.lt B.nd (l.trans l1) h1 h5' h6' fun S' x8 l' e5 e6 => ?_
        have st := B.step dl e
        rw [ed] at st
        have ea : ((a : Int) + 1) = ((a + 1 : Nat) : Int) := by omega
        repeat (first | simp only [ea] | walk_at "wx")
        (try simp only [ea])
        exact ih _ _ S' st (by omega) l' e5 e6 q
def sp_tidied : WSp := fun ws S Q => ∃ (params slots start : Nat) (p0 : Addr) (rms : List Rm), ws = [.int params, .int slots, .ref p0, .int start] ∧ S p0 = some (.lst (rms.map Rm.W)) ∧ (∀ r ∈ rms, ∀ d ∈ r.doors, d < rms.length) ∧ (∀ r ∈ rms, Nk 7 (r.ren fun _ => 0).W) ∧ start < rms.length ∧ rms.length ≤ 1000000 ∧
  ∀ S' p, Le S S' → S p = none → S' p = some (.lst ((tidyF params slots rms start).rooms.map Rm.W)) → Q (.tup [.int params, .int slots, .ref p]) S'
theorem r_tidied : ∀ ws S Q, Up Q → sp_tidied ws S Q → t_tidied sp_kinds_of sp_doors sp_renamed { nx := fun _ S' => Q .non S', rt := Q } (startW 10 ws) S := by
  rintro ws S Q up ⟨params, slots, start, p2, rms, rfl, h0, dl, nk, hs, sm, q⟩
  have ko := kinds_ok dl nk
  have tk := tidy_ok dl hs
  simp only [t_tidied]
  walk_at "wx"
  refine ⟨p2, rms, rfl, h0, dl, nk, sm, fun S1 p4 l1 g4 h4 => ?_⟩
  have r1 := l1 _ _ h0
  have a4 := atI_nats (l := kindsF rms) (d := start) (by rw [ko.len]; exact hs)
  have a2 := rms_at hs
  have kd : (kindsF rms).getD start 0 = kdF rms start := rfl
  rw [kd] at a4
  (try walk_at "wx")
  rw [x_disp1]
  intro p5 hp5
  have l5 := Le.put (o := .dk []) hp5
  have e4 := l5 _ _ h4
  repeat (first | simp only [e4, onL_lst, a4] | walk_at "wx")
  rw [dsp_i]
  refine ⟨⟨put_same, by decide⟩, ?_⟩
  rw [put_put]
  have e2 := (Le.put (o := .dk [(.inl ((kdF rms start : Nat) : Int), .int 0)]) hp5) _ _ r1
  repeat (first | simp only [e2, onL_lst, a2] | walk_at "wx")
  intro p6 hp6
  have n56 : p5 ≠ p6 := ne_none put_same hp6
  have g6 : S1 p6 = none := (Le.put hp5).free hp6
  (try walk_at "wx")
  refine ⟨rms.length + 1 + 1, ?_⟩
  refine bfs_while (S0 := S1) dl sm r1 h4 ko.len hp5 g6 n56 (rms.length + 1) 0 [start] none _ (bInv0 hs) (by omega) ((Le.put hp5).trans (Le.put hp6)) (by rw [put_ne n56, put_same]; rfl) (by rw [put_same]; rfl) fun S2 x7 x8 l2 e5 e6 => ?_
  have et : bfs rms (kdF rms) (rms.length + 1) 0 [start] = tidyI rms start := rfl
  rw [et] at e5 e6
  have f6 : S p6 = none := l1.free g6
  have l12 := l1.trans l2
  generalize hI : tidyI rms start = idxs at *
  repeat (first | simp only [so_l e6, onQ_some] | walk_at "wx")
  intro p7 hp7
  refine lc_le (F := fun i : Nat => (rmAt rms i).W) (G := fun i => ((rmAt rms i).ren (numF (kdF rms) idxs)).W) hp7 idxs (fun S' l' => so_l (l' _ _ e6)) (fun i hi S3 Q' l3 q' => ?_) (by have := nodup_lt _ _ (nodup_of_map tk.nd) tk.lt; omega) fun S3 l3 e7 => ?_
  · (try walk_at "wx")
    refine ⟨rmAt rms i, rfl, fun S4 q1 l4 g1 h1 => ?_⟩
    simp only [so_l h1, onQ_some]
    intro p8 hp8
    have ilt := tk.lt i hi
    have ed := doorsAt_of ilt
    refine lc_le (F := fun d : Nat => W.int (d : Int)) (G := fun d => W.int ((numF (kdF rms) idxs d : Nat) : Int)) hp8 (rmAt rms i).doors (fun S' l' => so_l (l' _ _ h1)) (fun d hd S5 Q'' l5 q'' => ?_) (by have := doors_le (rmAt rms i); omega) fun S5 l5 e8 => ?_
    · have lt2 : Le S2 S5 := (l3.trans l4).trans l5
      have k4 := lt2 _ _ (l2 _ _ h4)
      have k5 := lt2 _ _ e5
      rw [← ed] at hd
      have dlt := doorsAt_lt dl i d hd
      have ad := atI_nats (l := kindsF rms) (d := d) (by rw [ko.len]; exact dlt)
      rw [show (kindsF rms).getD d 0 = kdF rms d from rfl] at ad
      have vv := dkF_val (idxs.map (kdF rms)) 0 (kdF rms d)
      rw [if_pos (tk.cl i hi d hd), Nat.zero_add] at vv
      repeat (first | simp only [k4, onL_lst, ad, dget_i k5 vv] | walk_at "wx")
      exact q'' S5 Le.refl
    · (try walk_at "wx")
      refine ⟨rmAt rms i, p8, numF (kdF rms) idxs, rfl, ?_, fun S6 l6 => q' S6 ((l4.trans l5).trans l6)⟩
      rw [e8, natsW, List.map_map]
      rfl
  · refine q S3 p7 (l12.trans l3) (l12.free hp7) ?_
    rw [e7]
    simp only [tidyF, List.map_map, hI]
    rfl
end WL
namespace WL
open PySem L2
/-! ### works made into rooms: what Maker does -/
structure Plc where
  flt : Option (Option Nat × Nat)
  sh : Option Nat
  en : Option (Nat × Nat × Nat)
  lv : Option (Option Nat × Nat)
  free : Nat
structure Mst where
  rooms : List Rm
  slots : Nat
abbrev Mk := Nat → Plc → Mst → Nat × Mst
/-! ### what a making leaves as it is -/
structure Gr (σ σ' : Mst) : Prop where
  len : σ.rooms.length ≤ σ'.rooms.length
  old : ∀ i, i < σ.rooms.length → σ'.rooms[i]? = σ.rooms[i]?
  sl : σ.slots ≤ σ'.slots
theorem Gr.refl (σ : Mst) : Gr σ σ := ⟨Nat.le_refl _, fun _ _ => rfl, Nat.le_refl _⟩
theorem Gr.trans {a b c : Mst} (h : Gr a b) (h' : Gr b c) : Gr a c := ⟨Nat.le_trans h.len h'.len, fun i hi => (h'.old i (Nat.lt_of_lt_of_le hi h.len)).trans (h.old i hi), Nat.le_trans h.sl h'.sl⟩
end WL
namespace WL
open PySem L2
/-! ### a made work runs as its tree -/
def Ag (R : List Rm) (σ σ' : Mst) : Prop := ∀ i, σ.rooms.length ≤ i → i < σ'.rooms.length → R[i]? = σ'.rooms[i]?
theorem Ag.r {R : List Rm} {a b c : Mst} (h : Ag R a c) (g : Gr a b) : Ag R b c := fun i h1 h2 => h i (Nat.le_trans g.len h1) h2
structure Agr (m free : Nat) (ms ms' sl' : List Int) : Prop where
  len : ms'.length = ms.length
  tk : ms'.take m = sl'
  mid : ∀ i, m ≤ i → i < free → ms'[i]? = ms[i]?
theorem Agr.refl {m free : Nat} {ms : List Int} : Agr m free ms ms (ms.take m) := ⟨rfl, rfl, fun _ _ _ => rfl⟩
theorem Agr.then {m free free' : Nat} {a b c sl sl' : List Int} (h : Agr m free a b sl) (h' : Agr m free' b c sl') (l : free ≤ free') : Agr m free a c sl' := ⟨h'.len.trans h.len, h'.tk, fun i h1 h2 => (h'.mid i h1 (Nat.lt_of_lt_of_le h2 l)).trans (h.mid i h1 h2)⟩
theorem Agr.weak {m free free' : Nat} {a b sl : List Int} (h : Agr m free' a b sl) (l : free ≤ free') : Agr m free a b sl := ⟨h.len, h.tk, fun i h1 h2 => h.mid i h1 (Nat.lt_of_lt_of_le h2 l)⟩
theorem take_keep {m : Nat} {k : Option Nat} {v : Int} {ms : List Int} : (keep k v ms).take m = keep k v (ms.take m) := by
  cases k with
  | none => rfl
  | some k => exact List.take_set
theorem Agr.keep {m free : Nat} {k : Option Nat} {v : Int} {a b sl : List Int} (h : Agr m free a b sl) (hk : ∀ j, k = some j → j < m) : Agr m free a (WL.keep k v b) (WL.keep k v sl) := by
  refine ⟨len_keep.trans h.len, by rw [take_keep, h.tk], fun i i1 i2 => ?_⟩
  cases k with
  | none => exact h.mid i i1 i2
  | some k =>
    have := hk k rfl
    show (b.set k v)[i]? = _
    rw [List.getElem?_set_ne (by omega)]
    exact h.mid i i1 i2
end WL
namespace WL
open PySem L2
/-- law_program: row most shapes turn slots found number box deep body_here -/
def l_law_program_1 (sp_law_taken sp_law_body sp_law_tower : WSp) : WS :=
  (wSeq (wAsg (wOp rAddW (wC (.int 1)) (wCall sp_law_taken (wCons (wVar 0) (wCons (wC (.int 4)) wNil)))) (gNameW 4))
  (wDrop (wLm rAppW (wVar 2) (wCons (wTup (wCons (wCall sp_law_taken (wCons (wVar 0) (wCons (wCall rMinW (wCons (wC (.int 3)) (wCons (wOp rAddW (wVar 4) (wC (.int 1))) wNil))) wNil))) (wCons (wVar 4) wNil))) wNil))))
end WL
namespace WL
open PySem L2
/-! ### drawn works: what holds of them -/
abbrev Shapes := List (Nat × Nat)
def shW (x : Nat × Nat) : W := .tup [.int x.1, .int x.2]
structure Shp (p : List Work) (sh : Shapes) : Prop where
  len : p.length = sh.length
  at_ : ∀ (i : Nat) (x : Nat × Nat), sh[i]? = some x → ∃ w : Work, p[i]? = some w ∧ w.params = (x.1 : Int) ∧ w.slots = (x.2 : Int)
def ShOk (sh : Shapes) : Prop := ∀ x ∈ sh, 1 ≤ x.2 ∧ x.2 ≤ 4 ∧ x.1 ≤ 2 ∧ x.1 ≤ x.2
mutual
/-- at most so many words, where the works cost H -/
def Step.cost (H : Nat → Nat) : Step → Nat
  | .say _ => 1
  | .ifs _ a b => Steps.cost H a + Steps.cost H b
  | .round (.num n) a => (n % 10).toNat * Steps.cost H a
  | .round _ a => 9 * Steps.cost H a
  | .hand w _ _ => H w.toNat
  | .try0 a l => Steps.cost H a + Steps.cost H l + 1
  | .tryc a _ c l => Steps.cost H a + Steps.cost H c + Steps.cost H l + 1
  | _ => 0
def Steps.cost (H : Nat → Nat) : List Step → Nat
  | [] => 0
  | s :: r => s.cost H + Steps.cost H r
end
def Mf (number r : Nat) : Nat := if number = 0 then (match r with | 0 => 1 | 1 => 9 | _ => 18) else (match r with | 0 => 1 | 1 => 2 | _ => 4)
theorem Mf_mono (number : Nat) {r r' : Nat} (h : r' ≤ r) (h2 : r ≤ 2) : Mf number r' ≤ Mf number r := by
  obtain rfl | rfl | rfl : r = 0 ∨ r = 1 ∨ r = 2 := by omega
  · have : r' = 0 := by omega
    subst this; exact Nat.le_refl _
  · obtain rfl | rfl : r' = 0 ∨ r' = 1 := by omega
    · unfold Mf; split <;> decide
    · exact Nat.le_refl _
  · obtain rfl | rfl | rfl : r' = 0 ∨ r' = 1 ∨ r' = 2 := by omega
    · unfold Mf; split <;> decide
    · unfold Mf; split <;> decide
    · exact Nat.le_refl _
abbrev Bud := Nat × Nat × Nat
def Step.isHand : Step → Bool | .hand _ _ _ => true | _ => false
/-- what was used of a box: steps, rounds, handed works -/
structure Use (k number : Nat) (b b' : Bud) (f : (Nat → Nat) → Nat) (n : List Step) : Prop where
  s : b'.1 ≤ b.1
  r : b'.2.1 ≤ b.2.1
  h : b'.2.2 ≤ b.2.2
  all : n.length ≤ k + (b.1 - b'.1)
  cost : ∀ H X, (∀ w, H w ≤ X) → f H * Mf number b'.2.1 ≤ Mf number b.2.1 * (k + (b.1 - b'.1) + (b.2.2 - b'.2.2) * X)
  hand : n.countP Step.isHand ≤ b.2.2 - b'.2.2
  rnd : n.countP Step.isRound ≤ b.2.1 - b'.2.1
theorem Use.nil {number : Nat} {b : Bud} : Use 0 number b b (fun _ => 0) [] := ⟨Nat.le_refl _, Nat.le_refl _, Nat.le_refl _, Nat.zero_le _, fun H X h => by simp, Nat.zero_le _, Nat.zero_le _⟩
theorem Use.seq {k k' number : Nat} {b b1 b2 : Bud} {f g : (Nat → Nat) → Nat} {n m : List Step} (hr : b.2.1 ≤ 2) (u : Use k number b b1 f n) (v : Use k' number b1 b2 g m) : Use (k + k') number b b2 (fun H => f H + g H) (n ++ m) := by
  obtain ⟨s, r, h⟩ := b
  obtain ⟨s1, r1, h1⟩ := b1
  obtain ⟨s2, r2, h2⟩ := b2
  have us := u.s; have ur := u.r; have uh := u.h; have ua := u.all; have uc := u.hand; have ud := u.rnd
  have vs := v.s; have vr := v.r; have vh := v.h; have va := v.all; have vc := v.hand; have vd := v.rnd
  simp only at us ur uh ua vs vr vh va hr uc ud vc vd
  refine ⟨by simp only; omega, by simp only; omega, by simp only; omega, by simp only [List.length_append]; omega, fun H X hX => ?_, by simp only [List.countP_append]; omega, by simp only [List.countP_append]; omega⟩
  have c1 := u.cost H X hX
  have c2 := v.cost H X hX
  simp only at c1 c2 ⊢
  have m1 := Mf_mono number vr (by omega)
  have m2 := Mf_mono number ur hr
  have a1 : f H * Mf number r2 ≤ Mf number r * (k + (s - s1) + (h - h1) * X) := Nat.le_trans (Nat.mul_le_mul_left _ m1) c1
  have a2 : g H * Mf number r2 ≤ Mf number r * (k' + (s1 - s2) + (h1 - h2) * X) := Nat.le_trans c2 (Nat.mul_le_mul_right _ m2)
  have e : (h - h2) * X = (h - h1) * X + (h1 - h2) * X := by rw [← Nat.add_mul]; congr 1; omega
  have e2 : k + k' + (s - s2) + (h - h2) * X = (k + (s - s1) + (h - h1) * X) + (k' + (s1 - s2) + (h1 - h2) * X) := by rw [e]; omega
  rw [Nat.add_mul, e2, Nat.mul_add]
  exact Nat.add_le_add a1 a2
theorem Use.one {number : Nat} {b : Bud} {c : Nat} {s : Step} (hc : c ≤ 1) (h1 : s.isHand = false) (h2 : s.isRound = false) : Use 1 number b b (fun _ => c) [s] := ⟨Nat.le_refl _, Nat.le_refl _, Nat.le_refl _, by simp, fun H X h => by
  have : c * Mf number b.2.1 ≤ 1 * Mf number b.2.1 := Nat.mul_le_mul_right _ hc
  simp; omega, by simp [h1], by simp [h2]⟩
theorem Use.round {number s r h k : Nat} {b' : Bud} {f : (Nat → Nat) → Nat} {n : List Step} {t : Step} (hr : 1 ≤ r) (hk : k * Mf number (r - 1) ≤ Mf number r) (u : Use 0 number (s, r - 1, h) b' f n) (h1 : t.isHand = false) (h2 : t.isRound = true) : Use 1 number (s, r, h) b' (fun H => k * f H) (t :: n) := by
  have ur := u.r
  have uc := u.hand
  have ud := u.rnd
  simp only at ur uc ud
  refine ⟨u.s, by simp only; omega, u.h, by have := u.all; rw [List.length_cons]; simp only at this ⊢; omega, fun H X hX => ?_, by rw [List.countP_cons_of_neg (by simp [h1])]; exact uc, by rw [List.countP_cons_of_pos (by simp [h2])]; simp only; omega⟩
  have c := u.cost H X hX
  simp only at c ⊢
  rw [Nat.mul_assoc]
  refine Nat.le_trans (Nat.mul_le_mul_left k c) ?_
  rw [← Nat.mul_assoc]
  exact Nat.mul_le_mul hk (by omega)
theorem Use.of {k number : Nat} {b b' : Bud} {f g : (Nat → Nat) → Nat} {n m : List Step} (u : Use k number b b' f n) (hf : ∀ H, g H ≤ f H) (hn : m = n) : Use k number b b' g m := by
  subst hn
  exact ⟨u.s, u.r, u.h, u.all, fun H X hX => Nat.le_trans (Nat.mul_le_mul_right _ (hf H)) (u.cost H X hX), u.hand, u.rnd⟩
/-- a drawn step, a drawn body -/
structure DrS (sh : Shapes) (number : Nat) (inner : Bool) (deep : Nat) (s : Step) : Prop where
  is : ∀ p, Shp p sh → ∀ within, within + deep ≤ 6 → s.isS p number inner within = true
  dep : s.dep ≤ deep
  fit : s.fit
structure Dr (sh : Shapes) (number : Nat) (inner : Bool) (deep : Nat) (b : List Step) : Prop where
  is : ∀ p, Shp p sh → ∀ within, within + deep ≤ 6 → Steps.isB p number inner within b = true
  dep : Steps.dep b ≤ deep
  fit : Steps.fit b
theorem Dr.nil {sh : Shapes} {number : Nat} {inner : Bool} {deep : Nat} : Dr sh number inner deep [] := ⟨fun p _ w _ => by rw [Steps.isB], by simp [Steps.dep], trivial⟩
theorem Dr.cons {sh : Shapes} {number : Nat} {inner : Bool} {deep : Nat} {s : Step} {b : List Step} (h : DrS sh number inner deep s) (h' : Dr sh number inner deep b) : Dr sh number inner deep (s :: b) :=
  ⟨fun p hp w hw => by rw [Steps.isB, h.is p hp w hw, h'.is p hp w hw]; rfl, by rw [Steps.dep]; exact Nat.max_le.mpr ⟨h.dep, h'.dep⟩, ⟨h.fit, h'.fit⟩⟩
theorem isB_append {p : List Work} {number : Nat} {rounds : Bool} {within : Nat} : ∀ {a b : List Step}, Steps.isB p number rounds within (a ++ b) = (Steps.isB p number rounds within a && Steps.isB p number rounds within b)
  | [], b => by rw [List.nil_append, Steps.isB]; rfl
  | s :: a, b => by rw [List.cons_append, Steps.isB, Steps.isB, isB_append, Bool.and_assoc]
theorem dep_append : ∀ {a b : List Step}, Steps.dep (a ++ b) = max (Steps.dep a) (Steps.dep b)
  | [], b => by simp [Steps.dep]
  | s :: a, b => by rw [List.cons_append, Steps.dep, Steps.dep, dep_append, Nat.max_assoc]
theorem fit_append : ∀ {a b : List Step}, Steps.fit (a ++ b) ↔ Steps.fit a ∧ Steps.fit b
  | [], b => by simp [Steps.fit]
  | s :: a, b => by simp only [List.cons_append, Steps.fit, fit_append (a := a), and_assoc]
theorem Dr.snoc {sh : Shapes} {number : Nat} {inner : Bool} {deep : Nat} {s : Step} {b : List Step} (h' : Dr sh number inner deep b) (h : DrS sh number inner deep s) : Dr sh number inner deep (b ++ [s]) :=
  ⟨fun p hp w hw => by rw [isB_append, h'.is p hp w hw, Steps.isB, h.is p hp w hw, Steps.isB]; rfl, by rw [dep_append, Steps.dep, Steps.dep]; have := h.dep; have := h'.dep; omega, fit_append.mpr ⟨h'.fit, h.fit, trivial⟩⟩
section
variable {sh : Shapes} {number : Nat} {inner : Bool} {deep m : Nat}
theorem Shp.sl_ {p : List Work} (h : Shp p sh) {a : Nat} (e : sh[number]? = some (a, m)) : slotsOf p number = (m : Int) := by
  obtain ⟨w, h1, _, h3⟩ := h.at_ _ _ e
  unfold slotsOf
  rw [h1]; exact h3
variable {a : Nat} (e : sh[number]? = some (a, m))
include e
theorem DrS.set {k : Nat} {x : Rk} (hk : k < m) (hx : x.isR m 3 = true) : DrS sh number inner deep (.set (some (k : Int)) x) :=
  ⟨fun p hp w hw => by simp [Step.isS, areParts, isK, hp.sl_ e, hx]; omega, by simp [Step.dep], trivial⟩
theorem DrS.say {x : Rk} (hx : x.isR m 3 = true) : DrS sh number inner deep (.say x) :=
  ⟨fun p hp w hw => by simp [Step.isS, areParts, hp.sl_ e, hx]; omega, by simp [Step.dep], trivial⟩
theorem DrS.fault {x : Rk} (hx : x.isR m 3 = true) : DrS sh number inner deep (.fault x) :=
  ⟨fun p hp w hw => by simp [Step.isS, areParts, hp.sl_ e, hx]; omega, by simp [Step.dep], trivial⟩
theorem DrS.ends {x : Rk} (hx : x.isR m 3 = true) : DrS sh number inner deep (.ends x) :=
  ⟨fun p hp w hw => by simp [Step.isS, areParts, hp.sl_ e, hx]; omega, by simp [Step.dep], trivial⟩
theorem isK_opt {k : Option Nat} (hk : ∀ j, k = some j → j < m) : isK (m : Int) (k.map Int.ofNat) = true := by
  cases k with
  | none => rfl
  | some k => have := hk k rfl; simp [isK]; omega
theorem DrS.give {x : Rk} {k : Option Nat} (hx : x.isR m 3 = true) (hk : ∀ j, k = some j → j < m) : DrS sh number inner deep (.give x (k.map Int.ofNat)) :=
  ⟨fun p hp w hw => by simp [Step.isS, areParts, hp.sl_ e, hx, isK_opt e hk]; omega, by simp [Step.dep], trivial⟩
theorem DrS.leave : DrS sh number true deep .leave := ⟨fun p hp w hw => by simp [Step.isS]; omega, by simp [Step.dep], trivial⟩
theorem DrS.hand {w : Nat} {x : Nat × Nat} {args : List Rk} {k : Option Nat} (hw : number < w) (hx : sh[w]? = some x) (hl : args.length = x.1) (hl2 : args.length < 1000) (ha : ∀ y ∈ args, y.isR m 3 = true) (hk : ∀ j, k = some j → j < m) : DrS sh number inner deep (.hand (w : Int) args (k.map Int.ofNat)) := by
  refine ⟨fun p hp wi hwi => ?_, by simp [Step.dep], ⟨hl2, fun y hy => by have := isR_deep (ha y hy); omega⟩⟩
  obtain ⟨wk, h1, h2, h3⟩ := hp.at_ _ _ hx
  have wl : w < p.length := (List.getElem?_eq_some_iff.mp h1).1
  have : (args.all fun y => y.isR (m : Int) 3) = true := List.all_eq_true.mpr ha
  simp [Step.isS, areParts, hp.sl_ e, isK_opt e hk, handOk, h1, h2, this, hl]
  omega
theorem DrS.ifs {x : Rk} {b c : List Step} (hx : x.isR m 3 = true) (hb : Dr sh number inner deep b) (hc : Dr sh number inner deep c) : DrS sh number inner (deep + 1) (.ifs x b c) :=
  ⟨fun p hp w hw => by simp [Step.isS, areParts, hp.sl_ e, hx, hb.is p hp (w + 1) (by omega), hc.is p hp (w + 1) (by omega)]; omega, by simp only [Step.dep]; have := hb.dep; have := hc.dep; omega, ⟨hb.fit, hc.fit⟩⟩
theorem DrS.round {x : Rk} {b : List Step} (hx : x.isR m 3 = true) (hb : Dr sh number true deep b) : DrS sh number inner (deep + 1) (.round x b) :=
  ⟨fun p hp w hw => by simp [Step.isS, areParts, hp.sl_ e, hx, hb.is p hp (w + 1) (by omega)]; omega, by simp only [Step.dep]; have := hb.dep; omega, hb.fit⟩
theorem DrS.try0 {b c : List Step} (hb : Dr sh number inner deep b) (hc : Dr sh number inner deep c) : DrS sh number inner (deep + 1) (.try0 b c) :=
  ⟨fun p hp w hw => by simp [Step.isS, areParts, hb.is p hp (w + 1) (by omega), hc.is p hp (w + 1) (by omega)]; omega, by simp only [Step.dep]; have := hb.dep; have := hc.dep; omega, ⟨hb.fit, hc.fit⟩⟩
theorem DrS.tryc {b c d : List Step} {k : Option Nat} (hk : ∀ j, k = some j → j < m) (hb : Dr sh number inner deep b) (hc : Dr sh number inner deep c) (hd : Dr sh number inner deep d) : DrS sh number inner (deep + 1) (.tryc b (k.map Int.ofNat) c d) :=
  ⟨fun p hp w hw => by simp [Step.isS, areParts, hp.sl_ e, isK_opt e hk, hb.is p hp (w + 1) (by omega), hc.is p hp (w + 1) (by omega), hd.is p hp (w + 1) (by omega)]; omega, by simp only [Step.dep]; have := hb.dep; have := hc.dep; have := hd.dep; omega, ⟨hb.fit, hc.fit, hd.fit⟩⟩
end
end WL
namespace WL
open PySem L2
/-! ### drawing bodies -/
structure Bx (S : Sto) (row bx sa : Addr) (ns : List Int) (sh : Shapes) (number : Nat) (b : Bud) : Prop where
  R : RowAt S row ns
  box : S bx = some (.lst [.int number, .ref sa, .int b.1, .int b.2.1, .int b.2.2])
  shp : S sa = some (.lst (sh.map shW))
  n1 : bx ≠ row
  n2 : sa ≠ row
  n3 : sa ≠ bx
  num : number < sh.length
  ok : ShOk sh
  len : sh.length ≤ 4
  r2 : b.2.1 ≤ 2
  h2 : b.2.2 ≤ 2
  s40 : b.1 ≤ 1000
def Fr2 (row bx : Addr) (S S' : Sto) : Prop := ∀ x o, x ≠ row → x ≠ bx → S x = some o → S' x = some o
theorem Fr2.refl {row bx : Addr} {S : Sto} : Fr2 row bx S S := fun _ _ _ _ h => h
theorem Fr2.trans {row bx : Addr} {S S1 S2 : Sto} (a : Fr2 row bx S S1) (b : Fr2 row bx S1 S2) : Fr2 row bx S S2 := fun x o n m h => b x o n m (a x o n m h)
theorem Fr2.fr {row bx : Addr} {S S' : Sto} (f : Fr row S S') : Fr2 row bx S S' := fun x o n _ h => f x o n h
theorem Fr2.le {row bx : Addr} {S S' : Sto} (l : Le S S') : Fr2 row bx S S' := fun x o _ _ h => l x o h
theorem Fr2.put {row bx : Addr} {S : Sto} {o : MO} : Fr2 row bx S (WL.put S bx o) := fun x u _ m h => by rw [put_ne m]; exact h
theorem RowAt.off {S : Sto} {row a : Addr} {ns : List Int} {o : MO} (R : RowAt S row ns) (n : a ≠ row) : RowAt (put S a o) row ns := by
  obtain ⟨i, c, d, e, h⟩ := R
  exact ⟨i, c, d, by rw [put_ne (Ne.symm n)]; exact e, h⟩
section
variable {S S' : Sto} {row bx sa : Addr} {ns : List Int} {sh : Shapes} {number : Nat} {b b' : Bud}
theorem Bx.fr (B : Bx S row bx sa ns sh number b) (R : RowAt S' row ns) (F : Fr row S S') : Bx S' row bx sa ns sh number b :=
  ⟨R, F _ _ B.n1 B.box, F _ _ B.n2 B.shp, B.n1, B.n2, B.n3, B.num, B.ok, B.len, B.r2, B.h2, B.s40⟩
theorem Bx.le (B : Bx S row bx sa ns sh number b) (l : Le S S') : Bx S' row bx sa ns sh number b := B.fr (B.R.le l) (Fr.le l)
theorem Bx.off (B : Bx S row bx sa ns sh number b) {a : Addr} {o : MO} (h1 : a ≠ row) (h2 : a ≠ bx) (h3 : a ≠ sa) : Bx (put S a o) row bx sa ns sh number b :=
  ⟨B.R.off h1, by rw [put_ne (Ne.symm h2)]; exact B.box, by rw [put_ne (Ne.symm h3)]; exact B.shp, B.n1, B.n2, B.n3, B.num, B.ok, B.len, B.r2, B.h2, B.s40⟩
end
def sp_law_body (n : Nat) : WSp := fun ws S Q => ∃ (row bx sa : Addr) (ns : List Int) (sh : Shapes) (number : Nat) (b : Bud) (deep : Nat) (inner : Bool) (many : Nat), ws = [.ref row, .ref bx, .int deep, .bl inner, .int many] ∧ deep < n ∧ many ≤ 6 ∧ Bx S row bx sa ns sh number b ∧
  ∀ (st : List Step) S' b', Dr sh number inner deep st → Use 0 number b b' (fun H => Steps.cost H st) (Steps.all st) → st.length ≤ many → Bx S' row bx sa ns sh number b' → Fr2 row bx S S' → Q (.tup (Steps.W st)) S'
end WL
namespace WL
open PySem L2
/-! ### towers -/
theorem ne_tup {S : Sto} {Q : WQ} {ws us : List W} (o1 : okW 60 (.tup ws) = true) (o2 : okW 60 (.tup us) = true) (q : Q (.bl (!PyData.eqv (dW (.tup ws)) (dW (.tup us)))) S) : rNeW (.tup ws) (.tup us) S Q := by
  obtain ⟨h1, h2, h3⟩ := okW_dat (S := S) o1
  obtain ⟨g1, g2, g3⟩ := okW_dat (S := S) o2
  refine ne_dat h1 g1 ?_ ?_ rfl q
  · unfold SeqAt.shaped; rw [h2, decide_eq_true (by omega)]; rfl
  · unfold SeqAt.shaped; rw [g2, decide_eq_true (by omega)]; rfl
structure Tw (d : Nat) (s : Step) : Prop where
  is : ∀ sh number a m inner, sh[number]? = some (a, m) → 1 ≤ m → DrS sh number inner d s
  all : s.all.length ≤ 1 + 4 * d
  cost : ∀ H, s.cost H + 3 ≤ 4 * 2 ^ d
  head : ∃ x r, s.W = .tup (.str x :: r) ∧ x ≠ w_say
def tword (t : Int) : Step := .say (.num (10 + t))
theorem tword_dr {t : Int} (h0 : 0 ≤ t) (h1 : t < 500) {sh : Shapes} {number a m d : Nat} {inner : Bool} (hx : sh[number]? = some (a, m)) : DrS sh number inner d (tword t) := DrS.say hx (by simp [Rk.isR]; omega)
theorem DrS.up {sh : Shapes} {number : Nat} {inner : Bool} {d d' : Nat} {s : Step} (h : DrS sh number inner d s) (l : d ≤ d') : DrS sh number inner d' s := ⟨fun p hp w hw => h.is p hp w (by omega), Nat.le_trans h.dep l, h.fit⟩
theorem Dr.up {sh : Shapes} {number : Nat} {inner : Bool} {d d' : Nat} {s : List Step} (h : Dr sh number inner d s) (l : d ≤ d') : Dr sh number inner d' s := ⟨fun p hp w hw => h.is p hp w (by omega), Nat.le_trans h.dep l, h.fit⟩
theorem Tw.round {d : Nat} {s : Step} {t n : Int} (h : Tw d s) (t0 : 0 ≤ t) (t1 : t < 500) (n0 : 0 ≤ n) (n1 : n ≤ 2) : Tw (d + 1) (.round (.num n) [s, tword t]) := by
  refine ⟨fun sh number a m inner hx hm => DrS.round hx (by simp [Rk.isR]; omega) (Dr.cons (h.is _ _ _ _ _ hx hm) (Dr.cons (tword_dr t0 t1 hx) Dr.nil)), ?_, fun H => ?_, ⟨_, _, rfl, by simp [wd_inj]⟩⟩
  · have := h.all
    simp [Step.all, Steps.all, tword]
    omega
  · have := h.cost H
    simp only [Step.cost, Steps.cost, tword]
    have : (n % 10).toNat * (s.cost H + (1 + 0)) ≤ 2 * (s.cost H + (1 + 0)) := Nat.mul_le_mul_right _ (by omega)
    rw [Nat.pow_succ]
    omega
mutual
theorem okW_up : ∀ {w : W} {n m : Nat}, okW n w = true → n ≤ m → okW m w = true
  | .non, _, _, _, _ => by rw [okW]
  | .bl _, _, _, _, _ => by rw [okW]
  | .int _, _, _, _, _ => by rw [okW]
  | .str x, _, _, h, _ => by rw [okW] at h ⊢; exact h
  | .ty _, _, _, h, _ => by simp [okW] at h
  | .ref _, _, _, h, _ => by simp [okW] at h
  | .rl _, _, _, h, _ => by simp [okW] at h
  | .tup ws, 0, _, h, _ => by simp [okW] at h
  | .tup ws, n + 1, 0, h, l => by omega
  | .tup ws, n + 1, m + 1, h, l => by
    rw [okW] at h ⊢
    exact okWs_up h (by omega)
theorem okWs_up : ∀ {ws : List W} {n m : Nat}, okWs n ws = true → n ≤ m → okWs m ws = true
  | [], _, _, _, _ => by rw [okWs]
  | w :: ws, _, _, h, l => by
    rw [okWs, Bool.and_eq_true] at h ⊢
    exact ⟨okW_up h.1 l, okWs_up h.2 l⟩
end
def sp_law_tower : WSp := fun ws S Q => ∃ (row : Addr) (ns : List Int), ws = [.ref row, .int 22] ∧ RowAt S row ns ∧
  ∀ (st : List Step) S', (∀ sh number a m, sh[number]? = some (a, m) → 1 ≤ m → Dr sh number false 6 st) → (Steps.all st).length ≤ 40 → (∀ H, Steps.cost H st ≤ 300) → RowAt S' row ns → Fr row S S' → Q (.tup (Steps.W st)) S'
end WL
namespace WL
open PySem L2
theorem Fr.free {S S' : Sto} {row p : Addr} (f : Fr row S S') (h : S' p = none) (n : p ≠ row) : S p = none := by
  cases z : S p with
  | none => rfl
  | some o => rw [f p o n z] at h; cases h
/-! ### drawing programs -/
theorem shapes_loop {row sa : Addr} {ns : List Int} {S0 : Sto} {D : WD} {x1 : Option W} {N : Nat} (hN : N ≤ 4) (ff : S0 sa = none) (nr : sa ≠ row) (q : ∀ (sh : Shapes) S' x3 x4 x5 x6 x7 x8 x9, ShOk sh → sh.length = N → RowAt S' row ns → Fr row S0 S' → S' sa = some (.lst (sh.map shW)) → D.nx [some (.ref row), x1, some (.ref sa), x3, x4, x5, x6, x7, x8, x9] S') {spb spt : WSp} : ∀ (xs : List W) (sh : Shapes) (S : Sto) (x3 x4 x5 x6 x7 x8 x9 : Option W), sh.length + xs.length = N → ShOk sh → RowAt S row ns → Fr row S0 S → S sa = some (.lst (sh.map shW)) →
    forW (fun _ => True) (gNameW 3) (l_law_program_1 sp_law_taken spb spt) xs D [some (.ref row), x1, some (.ref sa), x3, x4, x5, x6, x7, x8, x9] S
  | [], sh, S, x3, x4, x5, x6, x7, x8, x9, hl, hs, R, F, hf => by
    simp only [forW]
    exact ⟨trivial, q sh S _ _ _ _ _ _ _ hs (by simpa using hl) R F hf⟩
  | x :: xs, sh, S, x3, x4, x5, x6, x7, x8, x9, hl, hs, R, F, hf => by
    rw [List.length_cons] at hl
    simp only [forW]
    refine ⟨trivial, ?_⟩
    generalize hL : forW (fun _ => True) (gNameW 3) (l_law_program_1 sp_law_taken spb spt) xs D = L
    unfold l_law_program_1
    walk_at "wx"
    refine taken_ok R (by decide) (by decide) fun v S1 v0 v1 R1 F1 => ?_
    have hf1 := F1.ne hf nr
    walk_at "wx"
    refine ⟨is_lst hf1, ?_⟩
    refine taken_ok R1 (by split <;> omega) (by split <;> omega) fun u S2 u0 u1 R2 F2 => ?_
    have hf2 := F2.ne hf1 nr
    simp only [x_app, hf2, onL_lst]
    refine ⟨small_len (by rw [List.length_map]; omega), ?_⟩
    subst hL
    have e : W.tup [.int u, .int (1 + v)] = shW (u.toNat, (1 + v).toNat) := by
      simp only [shW]
      rw [Int.toNat_of_nonneg u0, Int.toNat_of_nonneg (by omega)]
    refine shapes_loop hN ff nr q xs (sh ++ [(u.toNat, (1 + v).toNat)]) _ _ _ _ _ _ _ _ (by rw [List.length_append]; simp only [List.length_cons, List.length_nil]; omega) (fun y hy => ?_) (R2.off nr) (fun y o hy h => ?_) (by rw [put_same, e, List.map_append]; rfl)
    · rcases List.mem_append.mp hy with hy | hy
      · exact hs y hy
      · rw [List.mem_singleton.mp hy]
        simp only
        split at u1 <;> omega
    · rw [put_ne (ne_none h ff)]; exact F2 _ _ hy (F1 _ _ hy (F _ _ hy h))
end WL
namespace WL
open PySem L2
/-! ### deeds, drawn -/
def sp_law_deeds : WSp := fun ws S Q => ∃ (row : Addr) (ns : List Int) (most : Nat), ws = [.ref row, .int most] ∧ most ≤ 500 ∧ RowAt S row ns ∧ ∀ (ds : List Deed) S' p, ds.length ≤ most → (∀ d ∈ ds, d.ok) → RowAt S' row ns → Fr row S S' → S p = none → S' p = some (deedsM ds) → p ≠ row → Q (.ref p) S'
/-! ### closing: every work of a program runs -/
end WL
namespace WL
open PySem L2
/-! ### how many rooms, how many slots -/
/-- at most so many rooms and slots more -/
def Few (n : Nat) (mk : Mk) : Prop := ∀ b p σ, (mk b p σ).2.rooms.length ≤ σ.rooms.length + 16 * n ∧ (mk b p σ).2.slots ≤ max σ.slots (p.free + 2 * n)
theorem Few.mono {n n' : Nat} {mk : Mk} (h : Few n mk) (l : n ≤ n') : Few n' mk := fun b p σ => by
  have := h b p σ
  exact ⟨by omega, by omega⟩
end WL
namespace WL
open PySem L2
/-! ### made, plain -/
theorem Rm.ok_doors {ms : List Mc} {m nr : Nat} {r : Rm} (h : r.ok ms m nr) : ∀ d ∈ r.doors, d < nr := by
  intro d hd
  simp only [Rm.doors, List.mem_append] at hd
  rcases hd with hd | hd | hd
  · have := h.ex
    cases q : r.ex with
    | go r => rw [q] at this hd; simp [Ex.doors] at hd; subst hd; exact this
    | fork e a b => rw [q] at this hd; simp [Ex.doors] at hd; rcases hd with rfl | rfl <;> first | exact this.2.1 | exact this.2.2
    | give e k r => rw [q] at this hd; simp [Ex.doors] at hd; subst hd; exact this.2.2
    | hand w as k r => rw [q] at this hd; simp [Ex.doors] at hd; subst hd; exact this.2.2.2.2
    | ends e => rw [q] at hd; simp [Ex.doors] at hd
    | fault e => rw [q] at hd; simp [Ex.doors] at hd
    | shut => rw [q] at hd; simp [Ex.doors] at hd
  · cases q : r.ct with
    | none => rw [q] at hd; simp at hd
    | some kr => obtain ⟨k, j⟩ := kr; rw [q] at hd; simp at hd; subst hd; exact (h.ct k _ q).1
  · cases q : r.sh with
    | none => rw [q] at hd; simp at hd
    | some j => rw [q] at hd; simp at hd; subst hd; exact h.sh _ q
theorem Rm.ok_nk {ms : List Mc} {m nr : Nat} {r : Rm} (h : r.ok ms m nr) (hn : 0 < nr) : Nk 7 (r.ren fun _ => 0).W := Rm.nk (Rm.ren_ok (nr' := nr) (fun _ _ => hn) h)
end WL
namespace WL
open PySem L2
/-! ### Maker, its walk -/
def enW : Option (Nat × Nat × Nat) → W | none => .non | some (a, b, r) => .tup [.int (a : Int), .int (b : Int), .int (r : Int)]
def Plc.W (p : Plc) : WL.W := .tup [ctW p.flt, optN p.sh, enW p.en, ctW p.lv, .int (p.free : Int)]
structure MkAt (C : Addr) (S : Sto) (me ra : Addr) (σ : Mst) : Prop where
  obj : S me = some (.ins C [(w_rooms, .ref ra), (w_slots, .int (σ.slots : Int))])
  rms : S ra = some (.lst (σ.rooms.map Rm.W))
def FrM (me ra : Addr) (S S' : Sto) : Prop := ∀ a o, a ≠ me → a ≠ ra → S a = some o → S' a = some o
theorem FrM.refl {me ra : Addr} {S : Sto} : FrM me ra S S := fun _ _ _ _ h => h
theorem FrM.trans {me ra : Addr} {S S1 S2 : Sto} (h : FrM me ra S S1) (h' : FrM me ra S1 S2) : FrM me ra S S2 := fun a o n1 n2 e => h' a o n1 n2 (h a o n1 n2 e)
theorem FrM.le {me ra : Addr} {S S' : Sto} (l : Le S S') : FrM me ra S S' := fun a o _ _ e => l a o e
theorem MkAt.ne {C : Addr} {S : Sto} {me ra : Addr} {σ : Mst} (h : MkAt C S me ra σ) : me ≠ ra := ne_obj h.obj h.rms
theorem MkAt.le {C : Addr} {S S' : Sto} {me ra : Addr} {σ : Mst} (h : MkAt C S me ra σ) (l : Le S S') : MkAt C S' me ra σ := ⟨l _ _ h.obj, l _ _ h.rms⟩
end WL
namespace WL
open PySem L2
theorem mo_doors  : MonoSp (sp_doors) := by
  intro ws S Q Q' h q
  unfold sp_doors at q ⊢
  repeat (first | exact h _ _ q | (refine Exists.elim q fun x q => Exists.intro x ?_) | (refine And.intro q.1 ?_; replace q := q.2) | (intro x; replace q := q x) | (refine ⟨fun hh => h _ _ (q.1 hh), ?_⟩; replace q := q.2))
theorem le_doors  : ∀ ws S Q, (sp_doors) ws S Q → ws.length = 1 := by
  intro ws S Q h
  unfold sp_doors at h
  repeat (first | (obtain ⟨rfl, _⟩ := h; rfl) | (obtain ⟨_, h⟩ := h))
theorem mo_renamed  : MonoSp (sp_renamed) := by
  intro ws S Q Q' h q
  unfold sp_renamed at q ⊢
  repeat (first | exact h _ _ q | (refine Exists.elim q fun x q => Exists.intro x ?_) | (refine And.intro q.1 ?_; replace q := q.2) | (intro x; replace q := q x) | (refine ⟨fun hh => h _ _ (q.1 hh), ?_⟩; replace q := q.2))
theorem le_renamed  : ∀ ws S Q, (sp_renamed) ws S Q → ws.length = 2 := by
  intro ws S Q h
  unfold sp_renamed at h
  repeat (first | (obtain ⟨rfl, _⟩ := h; rfl) | (obtain ⟨_, h⟩ := h))
theorem mo_kinds_of  : MonoSp (sp_kinds_of) := by
  intro ws S Q Q' h q
  unfold sp_kinds_of at q ⊢
  repeat (first | exact h _ _ q | (refine Exists.elim q fun x q => Exists.intro x ?_) | (refine And.intro q.1 ?_; replace q := q.2) | (intro x; replace q := q x) | (refine ⟨fun hh => h _ _ (q.1 hh), ?_⟩; replace q := q.2))
theorem le_kinds_of  : ∀ ws S Q, (sp_kinds_of) ws S Q → ws.length = 1 := by
  intro ws S Q h
  unfold sp_kinds_of at h
  repeat (first | (obtain ⟨rfl, _⟩ := h; rfl) | (obtain ⟨_, h⟩ := h))
theorem mo_tidied  : MonoSp (sp_tidied) := by
  intro ws S Q Q' h q
  unfold sp_tidied at q ⊢
  repeat (first | exact h _ _ q | (refine Exists.elim q fun x q => Exists.intro x ?_) | (refine And.intro q.1 ?_; replace q := q.2) | (intro x; replace q := q x) | (refine ⟨fun hh => h _ _ (q.1 hh), ?_⟩; replace q := q.2))
theorem le_tidied  : ∀ ws S Q, (sp_tidied) ws S Q → ws.length = 4 := by
  intro ws S Q h
  unfold sp_tidied at h
  repeat (first | (obtain ⟨rfl, _⟩ := h; rfl) | (obtain ⟨_, h⟩ := h))
end WL
namespace WL
open PySem L2
/-! ### the law's own walk: its talk is a dict -/
structure TdAt (S : Sto) (tk ad at_ as_ : Addr) (T : Tk) : Prop where
  obj : S tk = some (.dk [(.inr w_deeds, .ref ad), (.inr w_told, .ref at_), (.inr w_words, .ref as_)])
  deeds : S ad = some (deedsM T.deeds)
  told : S at_ = some (.lst (T.told.map toldW))
  said : S as_ = some (.lst (T.said.map .int))
  n1 : ad ≠ at_
  n2 : ad ≠ as_
  n3 : at_ ≠ as_
theorem ne_dk {S : Sto} {a b : Addr} {kvs : List (Key × W)} {ws : List W} (h : S a = some (.dk kvs)) (h' : S b = some (.lst ws)) : a ≠ b := fun e => by subst e; rw [h] at h'; cases h'
theorem TdAt.keep {S S' : Sto} {tk ad at_ as_ : Addr} {T : Tk} (h : TdAt S tk ad at_ as_ T) (l : Le S S') : TdAt S' tk ad at_ as_ T := ⟨l _ _ h.obj, l _ _ h.deeds, l _ _ h.told, l _ _ h.said, h.n1, h.n2, h.n3⟩
end WL
namespace WL
open PySem L2
structure LkAt (S : Sto) (pr tk ad at_ as_ sl : Addr) (p : List Work) (s : RS) (m : Nat) : Prop where
  hprog : S pr = some (progM p)
  htk : TdAt S tk ad at_ as_ s.2
  hsl : S sl = some (slotsM s.1)
  d1 : sl ≠ ad
  d2 : sl ≠ at_
  d3 : sl ≠ as_
  e1 : pr ≠ at_
  e2 : pr ≠ as_
  e3 : pr ≠ sl
  rd : Ready s m
  many : s.2.deeds.length ≤ 1000
theorem LkAt.st {S : Sto} {pr tk ad at_ as_ sl : Addr} {p : List Work} {s : RS} {m : Nat} (h : LkAt S pr tk ad at_ as_ sl p s m) : pr ≠ tk ∧ sl ≠ tk := ⟨Ne.symm (ne_dk h.htk.obj h.hprog), Ne.symm (ne_dk h.htk.obj h.hsl)⟩
structure LkTo (S S' : Sto) (tk ad at_ as_ as2 sl : Addr) (s' : RS) : Prop where
  htk : TdAt S' tk ad at_ as2 s'.2
  hsl : S' sl = some (slotsM s'.1)
  keep : Keep4 tk at_ as_ sl S S'
  new : as2 = as_ ∨ S as2 = none
theorem LkAt.to {S S' : Sto} {pr tk ad at_ as_ as2 sl : Addr} {p : List Work} {s s' : RS} {m n : Nat} {w : Option Way} (h : LkAt S pr tk ad at_ as_ sl p s m) (t : LkTo S S' tk ad at_ as_ as2 sl s') (k : Kept s n (w, s')) (hw : w ≠ some .stop) : LkAt S' pr tk ad at_ as2 sl p s' m := by
  have ne : ∀ {x : Addr} {o : MO}, S x = some o → x ≠ as_ → x ≠ as2 := fun {x o} e n => by
    rcases t.new with z | z
    · rw [z]; exact n
    · exact ne_none e z
  exact ⟨t.keep _ _ h.st.1 h.e1 h.e2 h.e3 h.hprog, t.htk, t.hsl, h.d1, h.d2, ne h.hsl h.d3, h.e1, ne h.hprog h.e2, h.e3, k.ready h.rd hw, by rw [show s'.2.deeds = s.2.deeds from k.deeds]; exact h.many⟩
theorem LkTo.refl {S : Sto} {pr tk ad at_ as_ sl : Addr} {p : List Work} {s : RS} {m : Nat} (h : LkAt S pr tk ad at_ as_ sl p s m) : LkTo S S tk ad at_ as_ as_ sl s := ⟨h.htk, h.hsl, fun _ _ _ _ _ _ e => e, .inl rfl⟩
theorem LkTo.trans {S S1 S2 : Sto} {tk ad at_ as_ as1 as2 sl : Addr} {s1 s2 : RS} (a : LkTo S S1 tk ad at_ as_ as1 sl s1) (b : LkTo S1 S2 tk ad at_ as1 as2 sl s2) : LkTo S S2 tk ad at_ as_ as2 sl s2 := by
  refine ⟨b.htk, b.hsl, fun x o h1 h2 h3 h4 e => b.keep x o h1 h2 ?_ h4 (a.keep x o h1 h2 h3 h4 e), ?_⟩
  · rcases a.new with z | z
    · rw [z]; exact h3
    · exact ne_none e z
  · rcases b.new with z | z
    · rw [z]; exact a.new
    · cases q : S as2 with
      | none => exact .inr rfl
      | some o =>
        by_cases h3 : as2 = as_
        · exact .inl h3
        · by_cases h1 : as2 = tk
          · subst h1; rw [a.htk.obj] at z; cases z
          · by_cases h2 : as2 = at_
            · subst h2; rw [a.htk.told] at z; cases z
            · by_cases h4 : as2 = sl
              · subst h4; rw [a.hsl] at z; cases z
              · rw [a.keep as2 o h1 h2 h3 h4 q] at z; cases z
theorem LkTo.le {S S1 S2 : Sto} {tk ad at_ as_ as1 sl : Addr} {s1 : RS} (a : LkTo S S1 tk ad at_ as_ as1 sl s1) (l : Le S1 S2) : LkTo S S2 tk ad at_ as_ as1 sl s1 := ⟨a.htk.keep l, l _ _ a.hsl, fun x o h1 h2 h3 h4 e => l _ _ (a.keep x o h1 h2 h3 h4 e), a.new⟩
theorem LkAt.le {S S' : Sto} {pr tk ad at_ as_ sl : Addr} {p : List Work} {s : RS} {m : Nat} (h : LkAt S pr tk ad at_ as_ sl p s m) (l : Le S S') : LkAt S' pr tk ad at_ as_ sl p s m := ⟨l _ _ h.hprog, h.htk.keep l, l _ _ h.hsl, h.d1, h.d2, h.d3, h.e1, h.e2, h.e3, h.rd, h.many⟩
end WL
namespace WL
open PySem L2
theorem LkAt.hand {S S4 : Sto} {pr tk ad at_ as_ sl sl2 : Addr} {p : List Work} {s : RS} {m m2 : Nat} {l2 : List Int} (h : LkAt S pr tk ad at_ as_ sl p s m) (l : Le S S4) (h4 : S4 sl2 = some (slotsM l2)) (f : S sl2 = none) (rd : Ready (l2, s.2) m2) : LkAt S4 pr tk ad at_ as_ sl2 p (l2, s.2) m2 :=
  ⟨l _ _ h.hprog, h.htk.keep l, h4, Ne.symm (ne_none h.htk.deeds f), Ne.symm (ne_none h.htk.told f), Ne.symm (ne_none h.htk.said f), h.e1, h.e2, ne_none h.hprog f, rd, h.many⟩
theorem LkTo.hand {S S4 S' : Sto} {pr tk ad at_ as_ as2 sl sl2 : Addr} {p : List Work} {s s2 : RS} {m : Nat} (h : LkAt S pr tk ad at_ as_ sl p s m) (l : Le S S4) (f : S sl2 = none) (t : LkTo S4 S' tk ad at_ as_ as2 sl2 s2) : LkTo S S' tk ad at_ as_ as2 sl (s.1, s2.2) := by
  refine ⟨t.htk, t.keep _ _ h.st.2 h.d2 h.d3 (ne_none h.hsl f) (l _ _ h.hsl), fun x o h1 h2 h3 h4 e => t.keep x o h1 h2 h3 (ne_none e f) (l _ _ e), ?_⟩
  rcases t.new with z | z
  · exact .inl z
  · exact .inr (l.free z)
end WL
namespace WL
open PySem L2
def dispW (ps : List (W × W)) (p : Addr) (S2 : Sto) (Q : WQ) : Prop := match keysW ps with
  | some kvs => (S2 p = some (.dk []) ∧ kvs.length ≤ 15) ∧ Q (.ref p) (put S2 p (.dk (mergeW [] kvs)))
  | none => False
theorem x_disp {ts : List (WE × WE)} {r : Rho} {S : Sto} {Q : WQ} : wDisp ts r S Q = ∀ p, S p = none → wPairs ts r (put S p (.dk [])) fun ps S2 => dispW ps p S2 Q := rfl
theorem x_ps0 {r : Rho} {S : Sto} {Q : List (W × W) → Sto → Prop} : wPairs [] r S Q = Q [] S := rfl
theorem x_ps1 {tk tv : WE} {ts : List (WE × WE)} {r : Rho} {S : Sto} {Q : List (W × W) → Sto → Prop} : wPairs ((tk, tv) :: ts) r S Q = tk r S fun x S1 => tv r S1 fun y S2 => wPairs ts r S2 fun ps S3 => Q ((x, y) :: ps) S3 := rfl
end WL
namespace WL
open PySem L2
/-! ### where the law's run of machines stands -/
def Hl (mr : Addr) (ms : List Mc) (ras : List Addr) (x : Addr) (o : MO) : Prop :=
  (x = mr ∧ o = .lst (msW ms ras)) ∨ ∃ (i : Nat) (m : Mc), ms[i]? = some m ∧ ras[i]? = some x ∧ o = .lst (m.rooms.map Rm.W)
structure LnT (S : Sto) (mr tk ad at_ as_ : Addr) (ms : List Mc) (ras : List Addr) (T : Tk) : Prop where
  held : ∀ x o, Hl mr ms ras x o → S x = some o ∧ x ≠ tk ∧ x ≠ at_ ∧ x ≠ as_
  lens : ras.length = ms.length
  htk : TdAt S tk ad at_ as_ T
  many : T.deeds.length ≤ 1000
structure LnAt (S : Sto) (mr tk ad at_ as_ : Addr) (ms : List Mc) (ras : List Addr) (sl : Addr) (s : RS) (m : Nat) : Prop where
  rt : LnT S mr tk ad at_ as_ ms ras s.2
  nsl : ∀ x o, Hl mr ms ras x o → x ≠ sl
  hsl : S sl = some (slotsM s.1)
  d1 : sl ≠ ad
  d2 : sl ≠ at_
  d3 : sl ≠ as_
  rd : Ready s m
section
variable {S S' : Sto} {mr tk ad at_ as_ as2 sl : Addr} {ms : List Mc} {ras : List Addr} {T T' : Tk} {s s' : RS} {m : Nat}
theorem LnT.keep (h : LnT S mr tk ad at_ as_ ms ras T) (t : TdAt S' tk ad at_ as2 T') (k : ∀ x o, x ≠ tk → x ≠ at_ → x ≠ as_ → Hl mr ms ras x o → S x = some o → S' x = some o) (new : as2 = as_ ∨ S as2 = none) (e : T'.deeds = T.deeds) : LnT S' mr tk ad at_ as2 ms ras T' := by
  refine ⟨fun x o hx => ?_, h.lens, t, by rw [e]; exact h.many⟩
  obtain ⟨h1, h2, h3, h4⟩ := h.held x o hx
  refine ⟨k x o h2 h3 h4 hx h1, h2, h3, ?_⟩
  rcases new with z | z
  · rw [z]; exact h4
  · exact ne_none h1 z
theorem LnT.up (h : LnT S mr tk ad at_ as_ ms ras T) (l : Le S S') : LnT S' mr tk ad at_ as_ ms ras T := h.keep (h.htk.keep l) (fun x o _ _ _ _ e => l _ _ e) (.inl rfl) rfl
theorem LnAt.to {p : Prop} (h : LnAt S mr tk ad at_ as_ ms ras sl s m) (t : LkTo S S' tk ad at_ as_ as2 sl s') (k : Kpt s p s') (hp : ¬p) : LnAt S' mr tk ad at_ as2 ms ras sl s' m := by
  refine ⟨h.rt.keep t.htk (fun x o h1 h2 h3 h4 e => t.keep x o h1 h2 h3 (h.nsl x o h4) e) t.new k.deeds, h.nsl, t.hsl, h.d1, h.d2, ?_, k.ready h.rd hp⟩
  rcases t.new with z | z
  · rw [z]; exact h.d3
  · exact ne_none h.hsl z
theorem LnAt.refl (h : LnAt S mr tk ad at_ as_ ms ras sl s m) : LkTo S S tk ad at_ as_ as_ sl s := ⟨h.rt.htk, h.hsl, fun _ _ _ _ _ _ e => e, .inl rfl⟩
end
end WL
namespace WL
open PySem L2
theorem LnAt.le {S S' : Sto} {mr tk ad at_ as_ sl : Addr} {ms : List Mc} {ras : List Addr} {s : RS} {m : Nat} (h : LnAt S mr tk ad at_ as_ ms ras sl s m) (l : Le S S') : LnAt S' mr tk ad at_ as_ ms ras sl s m :=
  ⟨h.rt.up l, h.nsl, l _ _ h.hsl, h.d1, h.d2, h.d3, h.rd⟩
end WL
namespace WL
open PySem L2
def sp_law_run (n : Nat) : WSp := fun ws S Q => ∃ (mr d0 : Addr) (ms : List Mc) (ras : List Addr) (wi : Nat) (ns : List Int) (ds : List Deed) (F : List Told), ws = [.ref mr, .int wi, .tup (ns.map .int), .ref d0] ∧ MsAt S mr ms ras ∧ S d0 = some (deedsM ds) ∧ Runnable ms wi ns ds ∧ Ran ms n wi ns ds F ∧
  ∀ S' q, Le S S' → S q = none → S' q = some (.lst (F.map toldW)) → Q (.ref q) S'
end WL
namespace WL
open PySem L2
theorem Thr.mono {ms : List Mc} : ∀ (d d' : Nat), d ≤ d' → ∀ w ns T y, Thr ms d w ns T y → Thr ms d' w ns T y
  | 0, _, _, _, _, _, _, h => h.elim
  | d + 1, 0, l, _, _, _, _, _ => absurd l (Nat.not_succ_le_zero _)
  | d + 1, d' + 1, l, w, ns, T, y, h => by
    obtain ⟨m, hm, g⟩ := h
    exact ⟨m, hm, g.mono fun w ns T y => Thr.mono d d' (Nat.le_of_succ_le_succ l) w ns T y⟩
theorem Ran.mono {ms : List Mc} {d d' wi : Nat} {ns : List Int} {ds : List Deed} {F : List Told} (l : d ≤ d') (h : Ran ms d wi ns ds F) : Ran ms d' wi ns ds F := by
  cases ds with
  | nil => exact h
  | cons x r => cases x with
    | throw i => exact h
    | shut => exact h
    | ask i =>
      obtain ⟨y, h1, h2, h3⟩ := h
      exact ⟨y, Thr.mono d d' l _ _ _ _ h1, h2, h3⟩
end WL
namespace WL
open PySem L2
/-! ### the two fixed programs -/
def kOne : List Step := [.try0 [.say (.num 1), .leave] [.say (.num 2)]]
def kA : Work := ⟨0, 2, [.round (.num 3) kOne, .say (.num 3)]⟩
/-! ### an expression's value at once -/
def Ev (r : Rho) (te : WE) (w : W) : Prop := ∀ S Q, Q w S → te r S Q
def EvA (r : Rho) (ta : WA) (ws : List W) : Prop := ∀ S Q, Q ws S → ta r S Q
section
variable {r : Rho} {te tf : WE} {ta : WA} {w : W} {ws : List W}
theorem ev_c : Ev r (wC w) w := fun _ _ q => q
theorem ev_nil : EvA r wNil [] := fun _ _ q => q
theorem ev_cons (h : Ev r te w) (h' : EvA r ta ws) : EvA r (wCons te ta) (w :: ws) := fun S Q q => h S _ (h' S _ q)
theorem ev_tup (h : EvA r ta ws) (l : ws.length ≤ sizeLine) : Ev r (wTup ta) (.tup ws) := fun S Q q => h S _ ⟨l, q⟩
theorem ev_var {i : Nat} (h : r[i]? = some (some w)) : Ev r (wVar i) w := fun S Q q => by
  unfold wVar; rw [h]; exact q
end
end WL
namespace WL
open PySem L2
/-- != of two lists of the same data -/
theorem ne_lists {S : Sto} {Q : WQ} {a b : Addr} {us : List W} (ha : S a = some (.lst us)) (hb : S b = some (.lst us)) (ou : okWs 50 us = true) (q : Q (.bl false) S) : rNeW (.ref a) (.ref b) S Q := by
  obtain ⟨d1, s1⟩ := lst_shaped ha (okWs_up ou (by decide))
  obtain ⟨d2, s2⟩ := lst_shaped hb (okWs_up ou (by decide))
  refine ne_dat d1 d2 s1 s2 rfl ?_
  rw [show PyData.eqv (.list (dWs us)) (.list (dWs us)) = true by simp only [PyData.eqv, dWs_refl]]
  exact q
theorem lc_leW {G : W → W} {i : Nat} {te : WE} {Z : Sto → Prop} {D : Addr} {Q : Sto → Prop} {r : Rho} {S0 : Sto} (hD : S0 D = none) (xs : List W) (hZ : ∀ S, Le S0 S → Z S) (he : ∀ x ∈ xs, ∀ S Q', Le S0 S → (∀ S', Le S S' → Q' (G x) S') → te (r.set i (some x)) S Q') (hl : xs.length ≤ 1000000)
    (q : ∀ S', Le S0 S' → S' D = some (.lst (xs.map G)) → Q S') : lcW Z i wYes te D xs r (put S0 D (.lst [])) Q := by
  have := lc_le (F := fun x => x) hD xs hZ he hl q
  rwa [List.map_id'] at this
end WL
namespace WL
open PySem L2
/-! ### a machine tells one thing only -/
/-! ### data that are the same -/
mutual
def nbW : W → Bool
  | .non => true
  | .int _ => true
  | .str _ => true
  | .tup ws => nbWs ws
  | _ => false
def nbWs : List W → Bool
  | [] => true
  | w :: ws => nbW w && nbWs ws
end
mutual
theorem eqv_inj : ∀ {w v : W}, nbW w = true → nbW v = true → PyData.eqv (dW w) (dW v) = true → w = v
  | .non, v, _, hv, h => by cases v <;> simp [nbW] at hv <;> simp [dW, PyData.eqv] at h ⊢
  | .int i, v, _, hv, h => by cases v <;> simp [nbW] at hv <;> simp [dW, PyData.eqv] at h ⊢; exact h
  | .str x, v, _, hv, h => by cases v <;> simp [nbW] at hv <;> simp [dW, PyData.eqv] at h ⊢; exact h
  | .tup ws, v, hw, hv, h => by
    cases v with
    | tup vs =>
      simp only [nbW] at hw hv
      simp only [dW, PyData.eqv] at h
      rw [eqvs_inj hw hv h]
    | _ => simp [nbW] at hv <;> simp [dW, PyData.eqv] at h
  | .bl _, _, hw, _, _ => by simp [nbW] at hw
  | .ty _, _, hw, _, _ => by simp [nbW] at hw
  | .ref _, _, hw, _, _ => by simp [nbW] at hw
  | .rl _, _, hw, _, _ => by simp [nbW] at hw
theorem eqvs_inj : ∀ {ws vs : List W}, nbWs ws = true → nbWs vs = true → PyData.eqvAll (dWs ws) (dWs vs) = true → ws = vs
  | [], vs, _, _, h => by
    cases vs with
    | nil => rfl
    | cons v vs => simp [dWs, PyData.eqvAll] at h
  | w :: ws, vs, hw, hv, h => by
    cases vs with
    | nil => simp [dWs, PyData.eqvAll] at h
    | cons v vs =>
      simp only [nbWs, Bool.and_eq_true] at hw hv
      simp only [dWs, PyData.eqvAll, Bool.and_eq_true] at h
      rw [eqv_inj hw.1 hv.1 h.1, eqvs_inj hw.2 hv.2 h.2]
end
end WL
namespace WL
open PySem L2
/-! ### what a walk tells, deed by deed; what comes later changes nothing -/
def Gifts (ds : List Deed) (k : Nat) (E : List Told) : Prop := ∀ i t, E[i]? = some t → (∃ n, t.2 = .gift n) ∧ ds[k + i]? ≠ some .shut
theorem Gifts.nil {ds : List Deed} {k : Nat} : Gifts ds k [] := fun i t h => by simp at h
theorem Gifts.app {ds : List Deed} {k : Nat} {E F : List Told} (a : Gifts ds k E) (b : Gifts ds (k + E.length) F) : Gifts ds k (E ++ F) := fun i t h => by
  by_cases hi : i < E.length
  · rw [List.getElem?_append_left hi] at h; exact a i t h
  · rw [List.getElem?_append_right (by omega)] at h
    have := b _ t h
    rwa [show k + E.length + (i - E.length) = k + i by omega] at this
theorem Gifts.stay {ds : List Deed} {k : Nat} {E : List Told} (a : Gifts ds k E) (h : ds[k]? = some .shut) : E = [] := by
  cases E with
  | nil => rfl
  | cons t E => exact absurd h (a 0 t rfl).2
structure Rec (s : RS) (r : Option Way × RS) : Prop where
  deeds : r.2.2.deeds = s.2.deeds
  ext : ∃ E : List Told, r.2.2.told = s.2.told ++ E ∧ (Gifts s.2.deeds s.2.told.length E ∧ (r.1 = some .stop → s.2.deeds.length ≤ r.2.2.told.length) ∨
    r.1 = some .stop ∧ ∃ E' w, E = E' ++ [(w, .stubborn)] ∧ Gifts s.2.deeds s.2.told.length E' ∧ s.2.deeds[s.2.told.length + E'.length]? = some .shut)
  shut : r.1 = some .shut → r.2.2.deeds[r.2.2.told.length]? = some .shut
theorem Rec.same {s s' : RS} {w : Option Way} (h1 : s'.2.deeds = s.2.deeds) (h2 : s'.2.told = s.2.told) (h3 : w ≠ some .stop) (h4 : w ≠ some .shut) : Rec s (w, s') :=
  ⟨h1, ⟨[], by simp [h2], .inl ⟨.nil, fun e => absurd e h3⟩⟩, fun e => absurd e h4⟩
theorem Rec.gifts {s s' : RS} {w : Option Way} (h : Rec s (w, s')) (hw : w ≠ some .stop) : ∃ E, s'.2.told = s.2.told ++ E ∧ Gifts s.2.deeds s.2.told.length E := by
  obtain ⟨E, e1, e2⟩ := h.ext
  rcases e2 with ⟨e2, _⟩ | ⟨e2, _⟩
  · exact ⟨E, e1, e2⟩
  · exact absurd e2 hw
theorem Rec.trans {s s1 : RS} {w : Option Way} {r : Option Way × RS} (a : Rec s (w, s1)) (hw : w ≠ some .stop) (b : Rec s1 r) : Rec s r := by
  obtain ⟨E, e1, e2⟩ := a.gifts hw
  have d1 : s1.2.deeds = s.2.deeds := a.deeds
  obtain ⟨F, f1, f2⟩ := b.ext
  have l1 : s1.2.told.length = s.2.told.length + E.length := by rw [e1, List.length_append]
  refine ⟨b.deeds.trans d1, ⟨E ++ F, by rw [f1, e1, List.append_assoc], ?_⟩, b.shut⟩
  rw [d1, l1] at f2
  rcases f2 with ⟨f2, f3⟩ | ⟨f2, F', w', rfl, f3, f4⟩
  · exact .inl ⟨e2.app f2, f3⟩
  · exact .inr ⟨f2, E ++ F', w', by rw [List.append_assoc], e2.app f3, by rw [List.length_append, ← Nat.add_assoc]; exact f4⟩
/-- another way, behind what came -/
theorem Rec.way {s s1 s' : RS} {w : Option Way} (a : Rec s (w, s1)) (hw : w ≠ some .stop) (b : Rec s1 (none, s')) : Rec s (w, s') := by
  have t := a.trans hw b
  obtain ⟨E, e1, e2⟩ := t.gifts (fun e => nomatch e)
  refine ⟨t.deeds, ⟨E, e1, .inl ⟨e2, fun e => absurd e hw⟩⟩, fun e => ?_⟩
  obtain ⟨F, f1, f2⟩ := b.gifts (fun e => nomatch e)
  have z := a.shut e
  have := f2.stay z
  subst this
  rw [List.append_nil] at f1
  have d : s'.2.deeds = s1.2.deeds := b.deeds
  rw [d, f1]
  exact z
/-- the same talk with more deeds behind -/
def Tk.lift (T : Tk) (e : List Deed) : Tk := ⟨T.deeds ++ e, T.told, T.said⟩
def SimD (e : List Deed) (r1 r2 : Option Way × RS) : Prop :=
  (r2 = (r1.1, (r1.2.1, r1.2.2.lift e)) ∧ (r1.1 ≠ some .stop → r1.2.2.told.length < r1.2.2.deeds.length)) ∨
  (r1.1 = some .stop ∧ r1.2.2.told.length = r1.2.2.deeds.length ∧ ∃ E, r2.2.2.told = r1.2.2.told ++ E)
structure Good (f : RS → Option Way × RS) : Prop where
  rc : ∀ s, Rec s (f s)
  sim : ∀ e sl T, T.told.length < T.deeds.length → SimD e (f (sl, T)) (f (sl, T.lift e))
theorem Rec.more {s : RS} {r : Option Way × RS} (h : Rec s r) : ∃ E, r.2.2.told = s.2.told ++ E := ⟨_, h.ext.choose_spec.1⟩
section
variable {f g : RS → Option Way × RS}
/-- one behind the other -/
def thenR (g : RS → Option Way × RS) : Option Way × RS → Option Way × RS
  | (none, s) => g s
  | (some w, s) => (some w, s)
theorem Good.then (hf : Good f) (hg : Good g) : Good fun s => thenR g (f s) := by
  refine ⟨fun s => ?_, fun e sl T ht => ?_⟩
  · have a := hf.rc s
    rcases z : f s with ⟨w, s1⟩
    rw [z] at a
    cases w with
    | none => exact a.trans (fun e => nomatch e) (hg.rc s1)
    | some w => exact a
  · have a := hf.sim e sl T ht
    rcases z : f (sl, T) with ⟨w, sl1, T1⟩
    rw [z] at a
    rcases a with ⟨a, a2⟩ | ⟨a, a2, a3⟩
    · show SimD e (thenR g (w, sl1, T1)) (thenR g (f (sl, T.lift e)))
      rw [a]
      cases w with
      | none => exact hg.sim e sl1 T1 (a2 (fun e => nomatch e))
      | some w => exact .inl ⟨rfl, a2⟩
    · simp only at a
      subst a
      refine .inr ⟨rfl, a2, ?_⟩
      obtain ⟨E, a3⟩ := a3
      rcases z2 : f (sl, T.lift e) with ⟨w2, s2⟩
      rw [z2] at a3
      cases w2 with
      | none =>
        obtain ⟨F, f1⟩ := (hg.rc s2).more
        exact ⟨E ++ F, by simp only [z2, thenR]; rw [f1, a3, List.append_assoc]⟩
      | some w2 => exact ⟨E, by simp only [z2, thenR]; exact a3⟩
end
theorem Good.of {f g : RS → Option Way × RS} (h : Good f) (e : ∀ s, g s = f s) : Good g := by rw [show g = f from funext e]; exact h
end WL
namespace WL
open PySem L2
/-! ### leavings of a round that stands around -/
mutual
def Step.lv : Step → Bool
  | .leave => true
  | .ifs _ a b => Steps.lv a || Steps.lv b
  | .try0 a l => Steps.lv a || Steps.lv l
  | .tryc a _ c l => Steps.lv a || (Steps.lv c || Steps.lv l)
  | _ => false
def Steps.lv : List Step → Bool
  | [] => false
  | s :: r => s.lv || Steps.lv r
end
mutual
def C.lv : C → Bool
  | .leave => true
  | .ifs _ a b => Cs.lv a || Cs.lv b
  | .try0 a l => Cs.lv a || Cs.lv l
  | .tryc a _ c l => Cs.lv a || (Cs.lv c || Cs.lv l)
  | .hand _ _ _ b => Cs.lv b
  | _ => false
def Cs.lv : List C → Bool
  | [] => false
  | s :: r => s.lv || Cs.lv r
end
/-! ### a stretch of steps put within a step -/
theorem Cs.run_append : ∀ (a b : List C) (s : RS), Cs.run (a ++ b) s = thenR (Cs.run b) (Cs.run a s)
  | [], b, s => by simp only [List.nil_append, Cs.run, thenR]
  | c :: a, b, s => by
    simp only [List.cons_append, Cs.run]
    rcases c.run s with ⟨_ | w, s'⟩
    · exact Cs.run_append a b s'
    · rfl
theorem run_cons (c : C) (cs : List C) (s : RS) : Cs.run (c :: cs) s = thenR (Cs.run cs) (c.run s) := by
  simp only [Cs.run]
  rcases c.run s with ⟨_ | w, s'⟩ <;> rfl
/-- one closed tree does as another one -/
structure As (c c' : List C) : Prop where
  run : ∀ s, Cs.run c' s = Cs.run c s
  ok : ∀ m, Cs.ok m c → Cs.ok m c'
  cost : Cs.cost c' ≤ Cs.cost c
theorem As.refl {c : List C} : As c c := ⟨fun _ => rfl, fun _ h => h, Nat.le_refl _⟩
theorem As.trans {a b c : List C} (h : As a b) (h' : As b c) : As a c := ⟨fun s => (h'.run s).trans (h.run s), fun m o => h'.ok m (h.ok m o), Nat.le_trans h'.cost h.cost⟩
theorem ccost_append : ∀ {a b : List C}, Cs.cost (a ++ b) = Cs.cost a + Cs.cost b
  | [], b => by simp [Cs.cost]
  | c :: a, b => by simp only [List.cons_append, Cs.cost, ccost_append, Nat.add_assoc]
theorem ok_append {m : Nat} : ∀ {a b : List C}, Cs.ok m (a ++ b) ↔ Cs.ok m a ∧ Cs.ok m b
  | [], b => by simp [Cs.ok]
  | c :: a, b => by simp only [List.cons_append, Cs.ok, ok_append, and_assoc]
theorem As.app {a a' b b' : List C} (h : As a a') (h' : As b b') : As (a ++ b) (a' ++ b') := by
  refine ⟨fun s => ?_, fun m o => ok_append.mpr ⟨h.ok m (ok_append.mp o).1, h'.ok m (ok_append.mp o).2⟩, by rw [ccost_append, ccost_append]; have := h.cost; have := h'.cost; omega⟩
  rw [Cs.run_append, Cs.run_append, h.run, show Cs.run b' = Cs.run b from funext h'.run]
theorem As.one {c c' : C} (hr : ∀ s, c'.run s = c.run s) (ho : ∀ m, c.ok m → c'.ok m) (hc : c'.cost ≤ c.cost) : As [c] [c'] :=
  ⟨fun s => by rw [run_cons, run_cons, hr], fun m o => ⟨ho m o.1, trivial⟩, by simp only [Cs.cost]; omega⟩
theorem As.ifs {a a' b b' : List C} (e : Rk) (h : As a a') (h' : As b b') : As [.ifs e a b] [.ifs e a' b'] := by
  refine .one (fun s => ?_) (fun m o => ⟨o.1, h.ok m o.2.1, h'.ok m o.2.2⟩) (by simp only [C.cost]; have := h.cost; have := h'.cost; omega)
  obtain ⟨sl, T⟩ := s
  simp only [C.run, show Cs.run a' = Cs.run a from funext h.run, show Cs.run b' = Cs.run b from funext h'.run]
theorem As.round {a a' : List C} (e : Rk) (h : As a a') : As [.round e a] [.round e a'] := by
  refine .one (fun s => ?_) (fun m o => ⟨o.1, h.ok m o.2⟩) (by cases e <;> simp only [C.cost] <;> exact Nat.mul_le_mul_left _ h.cost)
  obtain ⟨sl, T⟩ := s
  simp only [C.run, show Cs.run a' = Cs.run a from funext h.run]
theorem As.try0 {a a' b b' : List C} (h : As a a') (h' : As b b') : As [.try0 a b] [.try0 a' b'] := by
  refine .one (fun s => ?_) (fun m o => ⟨h.ok m o.1, h'.ok m o.2⟩) (by simp only [C.cost]; have := h.cost; have := h'.cost; omega)
  simp only [C.run, show Cs.run a' = Cs.run a from funext h.run, show Cs.run b' = Cs.run b from funext h'.run]
theorem As.tryc {a a' c c' b b' : List C} (k : Option Nat) (h : As a a') (hc : As c c') (h' : As b b') : As [.tryc a k c b] [.tryc a' k c' b'] := by
  refine .one (fun s => ?_) (fun m o => ⟨h.ok m o.1, o.2.1, hc.ok m o.2.2.1, h'.ok m o.2.2.2⟩) (by simp only [C.cost]; have := h.cost; have := hc.cost; have := h'.cost; omega)
  simp only [C.run, show Cs.run a' = Cs.run a from funext h.run, show Cs.run c' = Cs.run c from funext hc.run, show Cs.run b' = Cs.run b from funext h'.run]
theorem As.hand {b b' : List C} (args : List Rk) (k : Option Nat) (ex : Nat) (h : As b b') : As [.hand args k ex b] [.hand args k ex b'] := by
  refine .one (fun s => ?_) (fun m o => ⟨o.1, o.2.1, o.2.2.1, o.2.2.2.1, h.ok _ o.2.2.2.2⟩) (by simp only [C.cost]; exact h.cost)
  obtain ⟨sl, T⟩ := s
  simp only [C.run, show Cs.run b' = Cs.run b from funext h.run]
theorem As.cons {c c' : C} {cs cs' : List C} (h : As [c] [c']) (h' : As cs cs') : As (c :: cs) (c' :: cs') := h.app h'
end WL
namespace WL
open PySem L2
/-! ### == of told machines -/
theorem rk_okW' {m : Nat} {e : Rk} (h : e.ok m ∧ e.deep < 4) {n : Nat} (hn : 5 ≤ n) : okW n e.W = true := Rk.okW e (by omega)
theorem lit_okW {m : Nat} {l : Lit} (h : l.ok m) {n : Nat} (hn : 7 ≤ n) : okW n l.W = true := by
  obtain ⟨k, rfl⟩ : ∃ k, n = k + 1 := ⟨n - 1, by omega⟩
  cases l with
  | set j e => exact tup_okW (cons_okW (w_okW (by decide) _) (cons_okW (int_okW _ _) (cons_okW (rk_okW' h.2 (by omega)) nil_okW)))
  | say e => exact tup_okW (cons_okW (w_okW (by decide) _) (cons_okW (rk_okW' h (by omega)) nil_okW))
  | count j e => exact tup_okW (cons_okW (w_okW (by decide) _) (cons_okW (int_okW _ _) (cons_okW (rk_okW' h.2 (by omega)) nil_okW)))
theorem optN_okW (k : Option Nat) (n : Nat) : okW n (optN k) = true := optI_okW _ _
theorem ex_okW {ms : List Mc} {m nr : Nat} {x : Ex} (h : x.ok ms m nr) {n : Nat} (hn : 8 ≤ n) : okW n x.W = true := by
  obtain ⟨k, rfl⟩ : ∃ k, n = k + 2 := ⟨n - 2, by omega⟩
  cases x with
  | go r => exact tup_okW (cons_okW (w_okW (by decide) _) (cons_okW (int_okW _ _) nil_okW))
  | fork e a b => exact tup_okW (cons_okW (w_okW (by decide) _) (cons_okW (rk_okW' h.1 (by omega)) (cons_okW (int_okW _ _) (cons_okW (int_okW _ _) nil_okW))))
  | give e j r => exact tup_okW (cons_okW (w_okW (by decide) _) (cons_okW (rk_okW' h.1 (by omega)) (cons_okW (optN_okW _ _) (cons_okW (int_okW _ _) nil_okW))))
  | hand w args j r => exact tup_okW (cons_okW (w_okW (by decide) _) (cons_okW (int_okW _ _) (cons_okW (tup_okW (okWs_of fun x hx => by
      obtain ⟨e, he, rfl⟩ := List.mem_map.mp hx
      exact rk_okW' (h.2.2.1 e he) (by omega))) (cons_okW (optN_okW _ _) (cons_okW (int_okW _ _) nil_okW)))))
  | ends e => exact tup_okW (cons_okW (w_okW (by decide) _) (cons_okW (rk_okW' h (by omega)) nil_okW))
  | fault e => exact tup_okW (cons_okW (w_okW (by decide) _) (cons_okW (rk_okW' h (by omega)) nil_okW))
  | shut => exact tup_okW (cons_okW (w_okW (by decide) _) nil_okW)
theorem rm_okW {ms : List Mc} {m nr : Nat} {r : Rm} (h : r.ok ms m nr) : okW 50 r.W = true := by
  refine tup_okW (cons_okW (tup_okW (okWs_of fun x hx => ?_)) (cons_okW (ex_okW h.ex (by decide)) (cons_okW ?_ (cons_okW (optN_okW _ _) nil_okW))))
  · obtain ⟨l, hl, rfl⟩ := List.mem_map.mp hx
    exact lit_okW (h.lits l hl) (by decide)
  · cases hc : r.ct with
    | none => rw [ctW, okW]
    | some kr => exact tup_okW (cons_okW (optN_okW _ _) (cons_okW (int_okW _ _) nil_okW))
theorem rk_nb : ∀ (e : Rk), nbW e.W = true
  | .num _ => rfl
  | .slot _ => rfl
  | .op o a b => by simp only [Rk.W, nbW, nbWs, rk_nb a, rk_nb b, Bool.and_self]
theorem optN_nb (k : Option Nat) : nbW (optN k) = true := by cases k <;> rfl
theorem nbWs_of : ∀ {ws : List W}, (∀ w ∈ ws, nbW w = true) → nbWs ws = true
  | [], _ => rfl
  | w :: ws, h => by rw [nbWs, h w List.mem_cons_self, nbWs_of fun v hv => h v (List.mem_cons_of_mem _ hv)]; rfl
def mcD (m : Mc) : PyData := .tuple [.int (m.params : Int), .int (m.slots : Int), .list (dWs (m.rooms.map Rm.W))]
theorem mcD_refl (m : Mc) : PyData.eqv (mcD m) (mcD m) = true := by
  simp [mcD, PyData.eqv, PyData.eqvAll, dWs_refl]
end WL
namespace WL
open PySem L2
namespace K18
/-! ### other numbers of slots: reckonings -/
def tk (t : List Nat) (k : Nat) : Nat := t.getD k 0
def tI (t : List Nat) (k : Int) : Int := ((tk t k.toNat : Nat) : Int)
def ren (t : List Nat) : Rk → Rk
  | .num n => .num n
  | .slot k => .slot (tI t k)
  | .op o a b => .op o (ren t a) (ren t b)
structure Rl (t : List Nat) (sl sl' : List Int) : Prop where
  len : t.length = sl.length
  at_ : ∀ k, k < sl.length → sl'[tk t k]? = sl[k]?
  nd : t.Nodup
theorem tk_at {t : List Nat} {k : Nat} (h : k < t.length) : t[k]? = some (tk t k) := by
  unfold tk
  rw [List.getD_eq_getElem?_getD, List.getElem?_eq_getElem h]
  rfl
theorem tk_inj {t : List Nat} (nd : t.Nodup) {i j : Nat} (hi : i < t.length) (hj : j < t.length) (e : tk t i = tk t j) : i = j := by
  have h1 := tk_at hi
  have h2 := tk_at hj
  rw [← e] at h2
  exact (List.getElem?_inj hi nd).mp (h1.trans h2.symm)
theorem Rl.set {t : List Nat} {sl sl' : List Int} (h : Rl t sl sl') {k : Nat} (hk : k < sl.length) (v : Int) : Rl t (sl.set k v) (sl'.set (tk t k) v) := by
  refine ⟨by rw [List.length_set]; exact h.len, fun j hj => ?_, h.nd⟩
  rw [List.length_set] at hj
  by_cases e : j = k
  · subst e
    have h1 := h.at_ j hj
    obtain ⟨x, hx⟩ := get_some hj
    rw [hx] at h1
    have l := (List.getElem?_eq_some_iff.mp h1).1
    rw [List.getElem?_set_self l, List.getElem?_set_self hj]
  · have ne : tk t k ≠ tk t j := fun z => e (tk_inj h.nd (by rw [h.len]; exact hk) (by rw [h.len]; exact hj) z).symm
    rw [List.getElem?_set_ne ne, List.getElem?_set_ne (fun z => e z.symm)]
    exact h.at_ j hj
/-! ### closed trees -/
end K18
end WL
namespace WL
open PySem L2
def joinM (m : Mc) : Mc := tidyF m.params m.slots m.rooms 0
structure Jn (ms ms' : List Mc) : Prop where
  len : ms'.length = ms.length
  at_ : ∀ (i : Nat) (m : Mc), ms[i]? = some m → ms'[i]? = some m ∨ ms'[i]? = some (joinM m)
theorem jn_all (ms : List Mc) : Jn ms (ms.map joinM) := ⟨List.length_map _, fun i m h => .inr (by rw [List.getElem?_map, h]; rfl)⟩
section
variable {ms ms' : List Mc}
theorem Jn.back (J : Jn ms ms') {i : Nat} {m' : Mc} (h : ms'[i]? = some m') : ∃ m, ms[i]? = some m ∧ (m' = m ∨ m' = joinM m) := by
  have l := (List.getElem?_eq_some_iff.mp h).1
  rw [J.len] at l
  obtain ⟨m, hm⟩ := get_some l
  refine ⟨m, hm, ?_⟩
  rcases J.at_ i m hm with e | e
  · rw [h] at e; cases e; exact .inl rfl
  · rw [h] at e; cases e; exact .inr rfl
theorem jn_ex (J : Jn ms ms') {m nr : Nat} {e : Ex} (h : e.ok ms m nr) : e.ok ms' m nr := by
  cases e with
  | hand w args k r =>
    obtain ⟨⟨mc, h1, h2⟩, h3⟩ := h
    refine ⟨?_, h3⟩
    rcases J.at_ w mc h1 with e | e
    · exact ⟨_, e, h2⟩
    · exact ⟨_, e, h2⟩
  | _ => exact h
theorem jn_rm (J : Jn ms ms') {m nr : Nat} {r : Rm} (h : r.ok ms m nr) : r.ok ms' m nr := ⟨h.lits, h.many, jn_ex J h.ex, h.ct, h.sh⟩
theorem join_dl {mc : Mc} (h : mc.ok ms) : ∀ r ∈ mc.rooms, ∀ d ∈ r.doors, d < mc.rooms.length := fun r hr => Rm.ok_doors (h.rooms r hr)
theorem join_nk {mc : Mc} (h : mc.ok ms) : ∀ r ∈ mc.rooms, Nk 7 (r.ren fun _ => 0).W := fun r hr => Rm.ok_nk (h.rooms r hr) h.some_
theorem jn_ok (J : Jn ms ms') (oks : ∀ mc ∈ ms, mc.ok ms) : ∀ mc ∈ ms', mc.ok ms' := by
  intro mc hmc
  obtain ⟨i, hi⟩ := List.mem_iff_getElem?.mp hmc
  obtain ⟨m, hm, e⟩ := J.back hi
  have ok := oks m (List.mem_of_getElem? hm)
  rcases e with rfl | rfl
  · exact ⟨ok.le, ok.small, ok.some_, ok.many, fun r hr => jn_rm J (ok.rooms r hr)⟩
  · have dl := join_dl ok
    obtain ⟨t1, t2⟩ := tidy_len (params := m.params) (slots := m.slots) dl ok.some_
    exact ⟨ok.le, ok.small, t1, Nat.le_trans t2 ok.many, tidy_rooms_ok dl ok.some_ fun r hr => jn_rm J (ok.rooms r hr)⟩
theorem jn_thr (J : Jn ms ms') (oks : ∀ mc ∈ ms, mc.ok ms) : ∀ (d w : Nat) (ns : List Int) (T : Tk) (y : Way × Tk), Thr ms d w ns T y → Thr ms' d w ns T y
  | 0, w, ns, T, y, h => h
  | d + 1, w, ns, T, y, ⟨m, hm, g⟩ => by
    have g1 := Goes.mono (fun w ns T y h => jn_thr J oks d w ns T y h) g
    have ok := oks m (List.mem_of_getElem? hm)
    rcases J.at_ w m hm with e | e
    · exact ⟨m, e, g1⟩
    · exact ⟨_, e, tidy_goes (params := m.params) (slots := m.slots) (join_dl ok) (join_nk ok) ok.some_ g1⟩
theorem jn_ran (J : Jn ms ms') {n wi : Nat} {ns : List Int} {ds : List Deed} {F : List Told} (h : Ran ms n wi ns ds F) (R : Runnable ms wi ns ds) : Ran ms' n wi ns ds F ∧ Runnable ms' wi ns ds := by
  refine ⟨?_, jn_ok J R.oks, ?_, R.nin, R.dok, R.dl⟩
  · unfold Ran at h ⊢
    split at h
    · obtain ⟨y, h1, h2, h3⟩ := h
      exact ⟨y, jn_thr J R.oks _ _ _ _ _ h1, h2, h3⟩
    · exact h
  · obtain ⟨mc, h1, h2⟩ := R.at_
    rcases J.at_ _ _ h1 with e | e
    · exact ⟨_, e, h2⟩
    · exact ⟨_, e, h2⟩
end
end WL
namespace WL
open PySem L2
namespace K11
/-- law_typed_room: row shapes number at many slots some little turn e k later ways caught shut work args way -/
def l_law_typed_room_1 (sp_law_reckoning sp_law_taken : WSp) : WS :=
  (wSeq (wAsg (wCall sp_law_reckoning (wCons (wVar 0) (wCons (wVar 5) (wCons (wCall sp_law_taken (wCons (wVar 0) (wCons (wC (.int 3)) wNil))) wNil)))) (gNameW 9))
  (wSeq (wAsg (wCall sp_law_taken (wCons (wVar 0) (wCons (wVar 5) wNil))) (gNameW 10))
  (wDrop (wLm rAppW (wVar 7) (wCons (wOp rIxW (wLst (wCons (wTup (wCons (wC (.str w_set)) (wCons (wVar 10) (wCons (wVar 9) wNil)))) (wCons (wTup (wCons (wC (.str w_say)) (wCons (wVar 9) wNil))) (wCons (wTup (wCons (wC (.str w_count)) (wCons (wVar 10) (wCons (wVar 9) wNil)))) wNil)))) (wCall sp_law_taken (wCons (wVar 0) (wCons (wC (.int 3)) wNil)))) wNil)))))
def l_law_typed_room_2 (sp_law_reckoning sp_law_taken : WSp) : WS :=
  (wSeq (wAsg (wOp rIxW (wVar 12) (wOp rMod (wCall sp_law_taken (wCons (wVar 0) (wCons (wC (.int 12)) wNil))) (wCall rLenW (wCons (wVar 12) wNil)))) (gNameW 17))
  (wRet (wTup (wCons (wCall rTupleW (wCons (wVar 7) wNil)) (wCons (wVar 17) (wCons (wVar 13) (wCons (wVar 14) wNil)))))))
def t_law_typed_room (sp_law_reckoning sp_law_taken : WSp) : WS :=
  (wSeq (wAsg (wOp rIxW (wOp rIxW (wVar 1) (wVar 2)) (wC (.int 1))) (gNameW 5))
  (wSeq (wAsg (wOp rAddW (wLst (wCons (wC .non) wNil)) (wLstR (wVar 5))) (gNameW 6))
  (wSeq (wAsg (wLst wNil) (gNameW 7))
  (wSeq (wForR1 (wCons (wCall sp_law_taken (wCons (wVar 0) (wCons (wC (.int 3)) wNil))) wNil) (gNameW 8)
  (l_law_typed_room_1 sp_law_reckoning sp_law_taken))
  (wSeq (wAsg (wCall sp_law_reckoning (wCons (wVar 0) (wCons (wVar 5) (wCons (wCall sp_law_taken (wCons (wVar 0) (wCons (wC (.int 2)) wNil))) wNil)))) (gNameW 9))
  (wSeq (wAsg (wOp rIxW (wVar 6) (wCall sp_law_taken (wCons (wVar 0) (wCons (wOp rAddW (wVar 5) (wC (.int 1))) wNil)))) (gNameW 10))
  (wSeq (wAsg (wLcR (wCons (wC (.int 4)) wNil) 8 wYes (wOp rAddW (wOp rAddW (wVar 3) (wC (.int 1))) (wCall sp_law_taken (wCons (wVar 0) (wCons (wCall rMaxW (wCons (wC (.int 1)) (wCons (wOp rSubW (wOp rSubW (wVar 4) (wVar 3)) (wC (.int 1))) wNil))) wNil))))) (gNameW 11))
  (wSeq (wAsg (wLst (wCons (wTup (wCons (wC (.str w_give)) (wCons (wVar 9) (wCons (wVar 10) (wCons (wCall sp_law_taken (wCons (wVar 0) (wCons (wVar 4) wNil))) wNil))))) (wCons (wTup (wCons (wC (.str w_fault)) (wCons (wVar 9) wNil))) (wCons (wTup (wCons (wC (.str w_end)) (wCons (wVar 9) wNil))) (wCons (wTup (wCons (wC (.str w_shut)) wNil)) wNil))))) (gNameW 12))
  (wSeq (wAsg (wTup (wCons (wC .non) (wCons (wC .non) wNil))) (gTupW 2 (gConsW (gNameW 13) (gConsW (gNameW 14) gNilW))))
  (wSeq (wIfS (wB (wOp rLt (wVar 3) (wOp rSubW (wVar 4) (wC (.int 1)))))
  (wSeq (wAsg (wOp rAddW (wLst (wCons (wTup (wCons (wC (.str w_go)) (wCons (wOp rIxW (wVar 11) (wC (.int 0))) wNil))) (wCons (wTup (wCons (wC (.str w_fork)) (wCons (wVar 9) (wCons (wOp rIxW (wVar 11) (wC (.int 0))) (wCons (wOp rIxW (wVar 11) (wC (.int 1))) wNil))))) wNil))) (wVar 12)) (gNameW 12))
  (wSeq (wAsg (wOp rIxW (wLst (wCons (wC .non) (wCons (wTup (wCons (wOp rIxW (wVar 6) (wCall sp_law_taken (wCons (wVar 0) (wCons (wOp rAddW (wVar 5) (wC (.int 1))) wNil)))) (wCons (wOp rIxW (wVar 11) (wC (.int 2))) wNil))) wNil))) (wCall rIntW (wCons (wOp rGt (wCall sp_law_taken (wCons (wVar 0) (wCons (wC (.int 3)) wNil))) (wC (.int 0))) wNil))) (gNameW 13))
  (wSeq (wAsg (wOp rIxW (wLst (wCons (wC .non) (wCons (wOp rIxW (wVar 11) (wC (.int 3))) wNil))) (wCall rIntW (wCons (wOp rGt (wCall sp_law_taken (wCons (wVar 0) (wCons (wC (.int 3)) wNil))) (wC (.int 0))) wNil))) (gNameW 14))
  (wIfS (wB (wOp rLt (wVar 2) (wOp rSubW (wCall rLenW (wCons (wVar 1) wNil)) (wC (.int 1)))))
  (wSeq (wAsg (wOp rAddW (wOp rAddW (wVar 2) (wC (.int 1))) (wCall sp_law_taken (wCons (wVar 0) (wCons (wOp rSubW (wOp rSubW (wCall rLenW (wCons (wVar 1) wNil)) (wC (.int 1))) (wVar 2)) wNil)))) (gNameW 15))
  (wSeq (wAsg (wCall rTupleW (wCons (wLcR (wCons (wOp rIxW (wOp rIxW (wVar 1) (wVar 15)) (wC (.int 0))) wNil) 8 wYes (wCall sp_law_reckoning (wCons (wVar 0) (wCons (wVar 5) (wCons (wC (.int 1)) wNil))))) wNil)) (gNameW 16))
  (wAsg (wOp rAddW (wLst (wCons (wTup (wCons (wC (.str w_hand)) (wCons (wVar 15) (wCons (wVar 16) (wCons (wVar 10) (wCons (wOp rIxW (wVar 11) (wC (.int 1))) wNil)))))) wNil)) (wVar 12)) (gNameW 12))))
  wNext))))
  wNext)
  (l_law_typed_room_2 sp_law_reckoning sp_law_taken)))))))))))
/-- law_typed: row most shapes turn slots found number many rooms at -/
def l_law_typed_1 (sp_law_taken sp_law_typed_room : WSp) : WS :=
  (wSeq (wAsg (wOp rAddW (wC (.int 1)) (wCall sp_law_taken (wCons (wVar 0) (wCons (wC (.int 6)) wNil)))) (gNameW 4))
  (wDrop (wLm rAppW (wVar 2) (wCons (wTup (wCons (wCall sp_law_taken (wCons (wVar 0) (wCons (wCall rMinW (wCons (wC (.int 3)) (wCons (wOp rAddW (wVar 4) (wC (.int 1))) wNil))) wNil))) (wCons (wVar 4) wNil))) wNil))))
def l_law_typed_2 (sp_law_taken sp_law_typed_room : WSp) : WS :=
  (wSeq (wAsg (wOp rAddW (wC (.int 1)) (wCall sp_law_taken (wCons (wVar 0) (wCons (wVar 1) wNil)))) (gNameW 7))
  (wSeq (wAsg (wLcR (wCons (wVar 7) wNil) 9 wYes (wCall sp_law_typed_room (wCons (wVar 0) (wCons (wVar 2) (wCons (wVar 6) (wCons (wVar 9) (wCons (wVar 7) wNil))))))) (gNameW 8))
  (wDrop (wLm rAppW (wVar 5) (wCons (wOp rAddW (wOp rIxW (wVar 2) (wVar 6)) (wTup (wCons (wVar 8) wNil))) wNil)))))
def t_law_typed (sp_law_taken sp_law_typed_room : WSp) : WS :=
  (wSeq (wAsg (wLst wNil) (gNameW 2))
  (wSeq (wForR1 (wCons (wOp rAddW (wC (.int 1)) (wCall sp_law_taken (wCons (wVar 0) (wCons (wC (.int 3)) wNil)))) wNil) (gNameW 3)
  (l_law_typed_1 sp_law_taken sp_law_typed_room))
  (wSeq (wAsg (wLst wNil) (gNameW 5))
  (wSeq (wForR1 (wCons (wCall rLenW (wCons (wVar 2) wNil)) wNil) (gNameW 6)
  (l_law_typed_2 sp_law_taken sp_law_typed_room))
  (wRet (wVar 5))))))
/-- law_doors: room_here way found door -/
def l_law_doors_1  : WS :=
  (wRet (wOp rAddW (wVar 2) (wLc (wLst (wCons (wOp rIxW (wVar 0) (wC (.int 3))) wNil)) 3 (wB (wOp rNotN (wVar 3) (wC .non))) (wVar 3))))
def t_law_doors  : WS :=
  (wSeq (wAsg (wOp rIxW (wVar 0) (wC (.int 1))) (gNameW 1))
  (wSeq (wAsg (wCall rListW (wCons (wSl (wVar 1) (wPart (wDGet2 (wDisp (((wC (.str w_go)), (wC (.int 1))) :: (((wC (.str w_fork)), (wC (.int 2))) :: (((wC (.str w_give)), (wC (.int 3))) :: (((wC (.str w_hand)), (wC (.int 4))) :: []))))) (wOp rIxW (wVar 1) (wC (.int 0))) (wCall rLenW (wCons (wVar 1) wNil)))) wNoPart) wNil)) (gNameW 2))
  (wSeq (wIfS (wB (wOp rNotN (wOp rIxW (wVar 0) (wC (.int 2))) (wC .non)))
  (wDrop (wLm rAppW (wVar 2) (wCons (wOp rIxW (wOp rIxW (wVar 0) (wC (.int 2))) (wC (.int 1))) wNil)))
  wNext)
  (l_law_doors_1))))
/-- law_renamed: room_here numbers_here little way caught shut first many -/
def l_law_renamed_1  : WS :=
  (wRet (wTup (wCons (wVar 2) (wCons (wOp rAddW (wSl (wVar 3) wNoPart (wPart (wVar 6))) (wCall rTupleW (wCons (wSl (wVar 1) wNoPart (wPart (wVar 7))) wNil))) (wCons (wVar 4) (wCons (wIf (wB (wOp rIsN (wVar 5) (wC .non))) (wVar 5) (wOp rIxW (wVar 1) (wNeg (wC (.int 1))))) wNil))))))
def t_law_renamed  : WS :=
  (wSeq (wAsg (wVar 0) (gTupW 4 (gConsW (gNameW 2) (gConsW (gNameW 3) (gConsW (gNameW 4) (gConsW (gNameW 5) gNilW))))))
  (wSeq (wAsg (wDGet2 (wDisp (((wC (.str w_go)), (wC (.int 1))) :: (((wC (.str w_fork)), (wC (.int 2))) :: (((wC (.str w_give)), (wC (.int 3))) :: (((wC (.str w_hand)), (wC (.int 4))) :: []))))) (wOp rIxW (wVar 3) (wC (.int 0))) (wCall rLenW (wCons (wVar 3) wNil))) (gNameW 6))
  (wSeq (wAsg (wOp rSubW (wCall rLenW (wCons (wVar 3) wNil)) (wVar 6)) (gNameW 7))
  (wSeq (wIfS (wB (wOp rNotN (wVar 4) (wC .non)))
  (wAsg (wTup (wCons (wOp rIxW (wVar 4) (wC (.int 0))) (wCons (wOp rIxW (wVar 1) (wVar 7)) wNil))) (gNameW 4))
  wNext)
  (l_law_renamed_1)))))
/-- law_grown: row rooms most bases turn found base named door some k -/
def l_law_grown_1 (sp_law_taken sp_law_doors sp_law_renamed : WSp) : WS :=
  (wDrop (wLm rAppW (wVar 3) (wCons (wCall sp_law_taken (wCons (wVar 0) (wCons (wCall rLenW (wCons (wVar 1) wNil)) wNil))) wNil)))
def l_law_grown_2 (sp_law_taken sp_law_doors sp_law_renamed : WSp) : WS :=
  (wSeq (wAsg (wLcR (wCons (wCall rLenW (wCons (wVar 3) wNil)) wNil) 10 (wB (wOp rEqW (wOp rIxW (wVar 3) (wVar 10)) (wVar 8))) (wVar 10)) (gNameW 9))
  (wDrop (wLm rAppW (wVar 7) (wCons (wOp rIxW (wVar 9) (wCall sp_law_taken (wCons (wVar 0) (wCons (wCall rLenW (wCons (wVar 9) wNil)) wNil)))) wNil))))
def l_law_grown_3 (sp_law_taken sp_law_doors sp_law_renamed : WSp) : WS :=
  (wSeq (wAsg (wLst wNil) (gNameW 7))
  (wSeq (wFor (wCall sp_law_doors (wCons (wOp rIxW (wVar 1) (wVar 6)) wNil)) (gNameW 8)
  (l_law_grown_2 sp_law_taken sp_law_doors sp_law_renamed))
  (wDrop (wLm rAppW (wVar 5) (wCons (wCall sp_law_renamed (wCons (wOp rIxW (wVar 1) (wVar 6)) (wCons (wVar 7) wNil))) wNil)))))
def t_law_grown (sp_law_taken sp_law_doors sp_law_renamed : WSp) : WS :=
  (wSeq (wAsg (wLstR (wCall rLenW (wCons (wVar 1) wNil))) (gNameW 3))
  (wSeq (wForR1 (wCons (wCall sp_law_taken (wCons (wVar 0) (wCons (wOp rMulW (wVar 2) (wCall rLenW (wCons (wVar 1) wNil))) wNil))) wNil) (gNameW 4)
  (l_law_grown_1 sp_law_taken sp_law_doors sp_law_renamed))
  (wSeq (wAsg (wLst wNil) (gNameW 5))
  (wSeq (wFor (wVar 3) (gNameW 6)
  (l_law_grown_3 sp_law_taken sp_law_doors sp_law_renamed))
  (wRet (wVar 5))))))
/-- law: script row machines params slots rooms handed other machine one turn work numbers_here deeds_here -/
def l_law_1 (sp_law_grown sp_law_typed sp_law_copied sp_joined sp_law_taken sp_law_numbers sp_law_deeds sp_law_alike sp_law_run sp_ran : WSp) : WS :=
  (wDrop (wLm rAppW (wVar 2) (wCons (wTup (wCons (wVar 3) (wCons (wVar 4) (wCons (wCall sp_law_grown (wCons (wVar 1) (wCons (wVar 5) (wCons (wC (.int 3)) wNil)))) wNil)))) wNil)))
def l_law_2 (sp_law_grown sp_law_typed sp_law_copied sp_joined sp_law_taken sp_law_numbers sp_law_deeds sp_law_alike sp_law_run sp_ran : WSp) : WS :=
  (wSeq (wAsg (wCall sp_law_taken (wCons (wVar 1) (wCons (wCall rLenW (wCons (wVar 2) wNil)) wNil))) (gNameW 11))
  (wSeq (wAsg (wCall sp_law_numbers (wCons (wVar 1) (wCons (wOp rIxW (wOp rIxW (wVar 2) (wVar 11)) (wC (.int 0))) wNil))) (gNameW 12))
  (wSeq (wAsg (wCall sp_law_deeds (wCons (wVar 1) (wCons (wC (.int 9)) wNil))) (gNameW 13))
  (wIfS (wNot (wB (wCall sp_law_alike (wCons (wCall sp_ran (wCons (wVar 7) (wCons (wVar 11) (wCons (wVar 12) (wCons (wVar 13) wNil))))) (wCons (wCall sp_law_run (wCons (wVar 2) (wCons (wVar 11) (wCons (wVar 12) (wCons (wVar 13) wNil))))) wNil)))))
  (wRet (wC (.bl false)))
  wNext))))
def l_law_3 (sp_law_grown sp_law_typed sp_law_copied sp_joined sp_law_taken sp_law_numbers sp_law_deeds sp_law_alike sp_law_run sp_ran : WSp) : WS :=
  (wSeq (wForR1 (wCons (wC (.int 3)) wNil) (gNameW 10)
  (l_law_2 sp_law_grown sp_law_typed sp_law_copied sp_joined sp_law_taken sp_law_numbers sp_law_deeds sp_law_alike sp_law_run sp_ran))
  (wRet (wOp rEqW (wVar 6) (wVar 2))))
def t_law (sp_law_grown sp_law_typed sp_law_copied sp_joined sp_law_taken sp_law_numbers sp_law_deeds sp_law_alike sp_law_run sp_ran : WSp) : WS :=
  (wSeq (wAsg (wLst (wCons (wVar 0) (wCons (wC (.int 0)) (wCons (wC (.int 0)) (wCons (wC (.int 0)) wNil))))) (gNameW 1))
  (wSeq (wAsg (wLst wNil) (gNameW 2))
  (wSeq (wFor (wCall sp_law_typed (wCons (wVar 1) (wCons (wC (.int 6)) wNil))) (gTupW 3 (gConsW (gNameW 3) (gConsW (gNameW 4) (gConsW (gNameW 5) gNilW))))
  (l_law_1 sp_law_grown sp_law_typed sp_law_copied sp_joined sp_law_taken sp_law_numbers sp_law_deeds sp_law_alike sp_law_run sp_ran))
  (wSeq (wAsg (wCall sp_law_copied (wCons (wVar 2) wNil)) (gNameW 6))
  (wSeq (wAsg (wLc (wVar 6) 8 wYes (wCall sp_joined (wCons (wVar 8) wNil))) (gNameW 7))
  (wSeq (wAsg (wCall sp_law_taken (wCons (wVar 1) (wCons (wOp rMulW (wC (.int 2)) (wCall rLenW (wCons (wVar 2) wNil))) wNil))) (gNameW 9))
  (wSeq (wIfS (wB (wOp rLt (wVar 9) (wCall rLenW (wCons (wVar 2) wNil))))
  (wAsg (wOp rAddW (wOp rAddW (wSl (wVar 6) wNoPart (wPart (wVar 9))) (wLst (wCons (wOp rIxW (wVar 7) (wVar 9)) wNil))) (wSl (wVar 6) (wPart (wOp rAddW (wVar 9) (wC (.int 1)))) wNoPart)) (gNameW 7))
  wNext)
  (l_law_3 sp_law_grown sp_law_typed sp_law_copied sp_joined sp_law_taken sp_law_numbers sp_law_deeds sp_law_alike sp_law_run sp_ran))))))))
def Ex.typ (sh : Shapes) (number at_ many m : Nat) : Ex → Prop
  | .go r => at_ < r ∧ r < many
  | .fork e a b => (e.ok m ∧ e.deep < 4) ∧ (at_ < a ∧ a < many) ∧ (at_ < b ∧ b < many)
  | .give e k r => (e.ok m ∧ e.deep < 4) ∧ (∀ j, k = some j → j < m) ∧ r < many
  | .hand w args k r => number < w ∧ (∃ s, sh[w]? = some (args.length, s)) ∧ (∀ e ∈ args, e.ok m ∧ e.deep < 4) ∧ (∀ j, k = some j → j < m) ∧ (at_ < r ∧ r < many)
  | .ends e => e.ok m ∧ e.deep < 4
  | .fault e => e.ok m ∧ e.deep < 4
  | .shut => True
structure RmT (sh : Shapes) (number at_ many m : Nat) (r : Rm) : Prop where
  lits : ∀ l ∈ r.lit, l.ok m
  few : r.lit.length ≤ 2
  ex : Ex.typ sh number at_ many m r.ex
  ct : ∀ k j, r.ct = some (k, j) → (at_ < j ∧ j < many) ∧ ∀ i, k = some i → i < m
  sh : ∀ j, r.sh = some j → at_ < j ∧ j < many
def ShT (sh : Shapes) : Prop := ∀ x ∈ sh, 1 ≤ x.2 ∧ x.2 ≤ 6 ∧ x.1 ≤ 2 ∧ x.1 ≤ x.2
theorem isR_ok' {m d : Nat} : ∀ {e : Rk}, e.isR (m : Int) d = true → e.ok m ∧ e.deep ≤ d
  | .num n, h => by
    have h' : 0 ≤ n ∧ n < 1000 := by cases d <;> simpa only [Rk.isR, Bool.and_eq_true, decide_eq_true_eq] using h
    exact ⟨by simp only [Rk.ok, InR]; omega, Nat.zero_le _⟩
  | .slot k, h => by
    have h' : 0 ≤ k ∧ k < (m : Int) := by cases d <;> simpa only [Rk.isR, Bool.and_eq_true, decide_eq_true_eq] using h
    exact ⟨by simp only [Rk.ok]; omega, Nat.zero_le _⟩
  | .op o a b, h => by
    cases d with
    | zero => simp [Rk.isR] at h
    | succ d =>
      simp only [Rk.isR, Bool.and_eq_true] at h
      obtain ⟨a1, a2⟩ := isR_ok' h.1
      obtain ⟨b1, b2⟩ := isR_ok' h.2
      exact ⟨⟨a1, b1⟩, by simp only [Rk.deep]; omega⟩
theorem reckoning_ok {S : Sto} {row : Addr} {ns : List Int} {m : Nat} {d : Int} {Q : WQ} (R : RowAt S row ns) (h1 : 0 < m) (h2 : m ≤ 1000) (d0 : 0 ≤ d) (d3 : d < 3) (q : ∀ (e : Rk) S', e.ok m → e.deep < 4 → RowAt S' row ns → Fr row S S' → Q e.W S') : sp_law_reckoning 4 [.ref row, .int (m : Int), .int d] S Q := by
  obtain ⟨k, rfl⟩ : ∃ k : Nat, d = (k : Int) := ⟨d.toNat, by omega⟩
  refine ⟨row, ns, m, k, rfl, by omega, by omega, by omega, R, fun e S' he R' F' => ?_⟩
  obtain ⟨a, b⟩ := isR_ok' he
  exact q e S' a (by omega) R' F'
/-- None, or a slot's number -/
def someM (m : Nat) : MO := .lst (.non :: (List.range m).map fun i : Nat => W.int (i : Int))
theorem some_at {m : Nat} {v : Int} (h0 : 0 ≤ v) (h1 : v < (m : Int) + 1) : ∃ k : Option Nat, atI (.non :: (List.range m).map fun i : Nat => W.int (i : Int)) v = some (optN k) ∧ ∀ j, k = some j → j < m := by
  obtain ⟨j, rfl⟩ : ∃ k : Nat, v = (k : Int) := ⟨v.toNat, by omega⟩
  cases j with
  | zero => exact ⟨none, atI_nat rfl, fun j e => nomatch e⟩
  | succ j =>
    refine ⟨some j, atI_nat ?_, fun i e => by cases e; omega⟩
    rw [List.getElem?_cons_succ, List.getElem?_map, List.getElem?_range (by omega)]
    rfl
def LitM (m : Nat) (S : Sto) (la : Addr) (n : Nat) : Prop := ∃ ls : List Lit, S la = some (.lst (ls.map Lit.W)) ∧ ls.length ≤ n ∧ ∀ l ∈ ls, l.ok m
theorem lit_loop {row la : Addr} {ns : List Int} {S0 : Sto} {m : Nat} (m1 : 0 < m) (m2 : m ≤ 6) (nl : la ≠ row) {D : WD} {x1 x2 x3 x4 x6 x11 x12 x13 x14 x15 x16 x17 : Option W}
    (q : ∀ S' x8 x9 x10 n, n ≤ 2 → RowAt S' row ns → (∀ y o, y ≠ row → y ≠ la → S0 y = some o → S' y = some o) → LitM m S' la 2 → D.nx [some (.ref row), x1, x2, x3, x4, some (.int (m : Int)), x6, some (.ref la), x8, x9, x10, x11, x12, x13, x14, x15, x16, x17] S') :
    ∀ (xs : List W) (n : Nat) (S : Sto) (x8 x9 x10 : Option W), n + xs.length ≤ 2 → RowAt S row ns → (∀ y o, y ≠ row → y ≠ la → S0 y = some o → S y = some o) → LitM m S la n →
    forW (fun _ => True) (gNameW 8) (l_law_typed_room_1 (sp_law_reckoning 4) sp_law_taken) xs D [some (.ref row), x1, x2, x3, x4, some (.int (m : Int)), x6, some (.ref la), x8, x9, x10, x11, x12, x13, x14, x15, x16, x17] S
  | [], n, S, x8, x9, x10, hn, R, F, L => by
    simp only [forW]
    obtain ⟨ls, h1, h2, h3⟩ := L
    exact ⟨trivial, q S _ _ _ 2 (Nat.le_refl _) R F ⟨ls, h1, by simp at hn; omega, h3⟩⟩
  | x :: xs, n, S, x8, x9, x10, hn, R, F, L => by
    rw [List.length_cons] at hn
    obtain ⟨ls, hl, h2, h3⟩ := L
    simp only [forW]
    refine ⟨trivial, ?_⟩
    generalize hR : forW (fun _ => True) (gNameW 8) (l_law_typed_room_1 (sp_law_reckoning 4) sp_law_taken) xs D = LL
    unfold l_law_typed_room_1
    walk_at "wx"
    refine taken_ok R (by decide) (by decide) fun v S1 v0 v1 R1 F1 => ?_
    (try walk_at "wx")
    refine reckoning_ok R1 m1 (by omega) v0 v1 fun e S2 e1 e2 R2 F2 => ?_
    (try walk_at "wx")
    refine taken_ok R2 (by omega) (by omega) fun u S3 u0 u1 R3 F3 => ?_
    obtain ⟨k, rfl⟩ : ∃ z : Nat, u = (z : Int) := ⟨u.toNat, by omega⟩
    have hl3 := F3.ne (F2.ne (F1.ne hl nl) nl) nl
    (try walk_at "wx")
    refine ⟨is_lst hl3, fun p hp => ?_⟩
    have n4 : p ≠ row := Ne.symm (R3.ne hp)
    have nlp : la ≠ p := ne_none hl3 hp
    refine taken_ok (R3.le (Le.put hp)) (by decide) (by decide) fun z S4 z0 z1 R4 F4 => ?_
    have h4 := F4.ne (o := .lst [.tup [.str w_set, .int k, e.W], .tup [.str w_say, e.W], .tup [.str w_count, .int k, e.W]]) put_same n4
    have hl4 := F4.ne (Le.put (o := .lst [.tup [.str w_set, .int k, e.W], .tup [.str w_say, e.W], .tup [.str w_count, .int k, e.W]]) hp _ _ hl3) nl
    obtain ⟨l, hz, lok⟩ : ∃ l : Lit, atI [W.tup [.str w_set, .int k, e.W], .tup [.str w_say, e.W], .tup [.str w_count, .int k, e.W]] z = some l.W ∧ l.ok m := by
      obtain rfl | rfl | rfl : z = 0 ∨ z = 1 ∨ z = 2 := by omega
      · exact ⟨.set k e, rfl, by omega, e1, e2⟩
      · exact ⟨.say e, rfl, e1, e2⟩
      · exact ⟨.count k e, rfl, by omega, e1, e2⟩
    simp only [ix_l, h4, onL_lst, hz, onS_some, x_app, hl4]
    refine ⟨small_len (by rw [List.length_map]; omega), ?_⟩
    subst hR
    refine lit_loop m1 m2 nl q xs (n + 1) _ _ _ _ (by omega) (R4.off nl) (fun y o h5 h6 h7 => ?_) ⟨ls ++ [l], by rw [put_same, List.map_append]; rfl, by rw [List.length_append, List.length_singleton]; omega, fun x hx => ?_⟩
    · rw [put_ne h6]
      exact F4 _ _ h5 (Le.put hp _ _ (F3 _ _ h5 (F2 _ _ h5 (F1 _ _ h5 (F _ _ h5 h6 h7)))))
    · rcases List.mem_append.mp hx with hx | hx
      · exact h3 x hx
      · rw [List.mem_singleton.mp hx]; exact lok
end K11
end WL
namespace WL
open PySem L2
namespace K11
def Fr2 (a b : Addr) (S S' : Sto) : Prop := ∀ y o, y ≠ a → y ≠ b → S y = some o → S' y = some o
theorem row_lc {row DD : Addr} {ns : List Int} (n2 : DD ≠ row) {α : Type} {G : α → W} {P : α → Prop} {S0 : Sto} {i : Nat} {te : WE} {r : Rho} {Q : Sto → Prop} (he : ∀ x S Q', RowAt S row ns → Fr2 row DD S0 S → (∀ (a : α) S', P a → RowAt S' row ns → Fr row S S' → Q' (G a) S') → te (r.set i (some x)) S Q') : ∀ (xs : List W) (acc : List α) (S : Sto), acc.length + xs.length ≤ 1000 → (∀ a ∈ acc, P a) → RowAt S row ns → Fr2 row DD S0 S → S DD = some (.lst (acc.map G)) →
    (∀ S' (acc' : List α), acc'.length = acc.length + xs.length → (∀ a ∈ acc', P a) → RowAt S' row ns → Fr2 row DD S0 S' → S' DD = some (.lst (acc'.map G)) → Q S') → lcW (fun _ => True) i wYes te DD xs r S Q
  | [], acc, S, hl, hp, R, F, h, q => ⟨trivial, q S acc rfl hp R F h⟩
  | x :: xs, acc, S, hl, hp, R, F, h, q => by
    rw [List.length_cons] at hl
    simp only [lcW]
    refine ⟨trivial, ?_⟩
    simp only [x_yes, if_true]
    refine he x S _ R F fun a S1 pa R1 F1 => ?_
    refine ⟨_, F1.ne h n2, small_len (by rw [List.length_map]; omega), ?_⟩
    refine row_lc n2 he xs (acc ++ [a]) _ (by rw [List.length_append, List.length_singleton]; omega) (fun b hb => ?_) (R1.off n2) (fun y o h1 h3 h4 => by rw [put_ne h3]; exact F1 _ _ h1 (F _ _ h1 h3 h4)) (by rw [put_same, List.map_append]; rfl) fun S' acc' e h1 h2 h3 h4 => q S' acc' (by rw [e, List.length_append, List.length_singleton, List.length_cons]; omega) h1 h2 h3 h4
    rcases List.mem_append.mp hb with hb | hb
    · exact hp b hb
    · rw [List.mem_singleton.mp hb]; exact pa
def WaysM (sh : Shapes) (number at_ many m : Nat) (S : Sto) (wa : Addr) (n : Nat) : Prop := ∃ exs : List Ex, S wa = some (.lst (exs.map Ex.W)) ∧ 0 < exs.length ∧ exs.length ≤ n ∧ ∀ ex ∈ exs, Ex.typ sh number at_ many m ex
section
variable {row : Addr} {ns : List Int} {sh : Shapes} {number at_ many m : Nat}
theorem fin_ok {S : Sto} {la wa : Addr} {Q : WQ} {nl : la ≠ row} {nw : wa ≠ row} {ct : Option (Option Nat × Nat)} {so : Option Nat} {x1 x2 x3 x4 x5 x6 x8 x9 x10 x11 x15 x16 x17 : Option W} {nx : Rho → Sto → Prop} {bk c : Rho → Sto → Prop}
    (R : RowAt S row ns) (hl : LitM m S la 2) (hw : WaysM sh number at_ many m S wa 100) (hc : ∀ k j, ct = some (k, j) → (at_ < j ∧ j < many) ∧ ∀ i, k = some i → i < m) (hs : ∀ j, so = some j → at_ < j ∧ j < many)
    (q : ∀ r S', RmT sh number at_ many m r → RowAt S' row ns → Fr row S S' → Q r.W S') :
    l_law_typed_room_2 (sp_law_reckoning 4) sp_law_taken { nx := nx, rt := Q, bk := bk, ct := c } [some (.ref row), x1, x2, x3, x4, x5, x6, some (.ref la), x8, x9, x10, x11, some (.ref wa), some (ctW ct), some (optN so), x15, x16, x17] S := by
  obtain ⟨ls, hl1, hl2, hl3⟩ := hl
  obtain ⟨exs, hw1, hw2, hw3, hw4⟩ := hw
  unfold l_law_typed_room_2
  walk_at "wx"
  refine taken_ok R (by decide) (by decide) fun v S1 v0 v1 R1 F1 => ?_
  have hw5 := F1.ne hw1 nw
  have hl5 := F1.ne hl1 nl
  have ll : ∀ Q', rLenW [.ref wa] S1 Q' = Q' (.int (exs.length : Int)) S1 := fun Q' => by rw [len_l hw5, List.length_map]
  repeat (first | simp only [ll] | walk_at "wx")
  have m0 := Int.emod_nonneg v (show (exs.length : Int) ≠ 0 by omega)
  have m1 := Int.emod_lt_of_pos v (show (0 : Int) < exs.length by omega)
  refine ⟨by omega, ?_⟩
  obtain ⟨j, hj⟩ : ∃ j : Nat, v % (exs.length : Int) = (j : Int) := ⟨(v % (exs.length : Int)).toNat, by omega⟩
  obtain ⟨ex, hex⟩ := get_some (l := exs) (n := j) (by omega)
  have hx : atI (exs.map Ex.W) (j : Int) = some ex.W := atI_map hex
  rw [hj]
  repeat (first | simp only [hw5, onL_lst, hx, onS_some, so_l hl5, onQ_some] | walk_at "wx")
  exact q ⟨ls, ex, ct, so⟩ S1 ⟨hl3, hl2, hw4 ex (List.mem_of_getElem? hex), hc, hs⟩ R1 F1
end
def sp_law_typed_room : WSp := fun ws S Q => ∃ (row sa : Addr) (ns : List Int) (sh : Shapes) (number at_ many m a : Nat), ws = [.ref row, .ref sa, .int number, .int at_, .int many] ∧ RowAt S row ns ∧ S sa = some (.lst (sh.map shW)) ∧ sa ≠ row ∧ ShT sh ∧ sh[number]? = some (a, m) ∧ at_ < many ∧ many ≤ 1000 ∧ sh.length ≤ 1000 ∧
  ∀ r S', RmT sh number at_ many m r → RowAt S' row ns → Fr row S S' → Q r.W S'
theorem r_law_typed_room : ∀ ws S Q, Up Q → sp_law_typed_room ws S Q → t_law_typed_room (sp_law_reckoning 4) sp_law_taken { nx := fun _ S' => Q .non S', rt := Q } (startW 18 ws) S := by
  rintro ws S Q up ⟨row, sa, ns, sh, number, at_, many, m, a, rfl, R, hsa, nsr, ST, hn, ham, hmany, hsl, q⟩
  obtain ⟨m1, m6, a2, am⟩ := ST _ (List.mem_of_getElem? hn)
  simp only at m1 m6 a2 am
  have hx : atI (sh.map shW) (number : Int) = some (.tup [.int a, .int m]) := atI_map hn
  have nl := (List.getElem?_eq_some_iff.mp hn).1
  unfold t_law_typed_room
  generalize hL1 : l_law_typed_room_1 (sp_law_reckoning 4) sp_law_taken = LA
  generalize hL2 : l_law_typed_room_2 (sp_law_reckoning 4) sp_law_taken = LB
  repeat (first | simp only [hsa, onL_lst, hx, onS_some] | walk_at "wx")
  intro p1 hp1
  have l1 := Le.put (o := .lst [W.non]) hp1
  have g1 : put S p1 (.lst [W.non]) p1 = some (.lst [W.non]) := put_same
  have R1 := R.le l1
  generalize put S p1 (.lst [W.non]) = S1 at *
  unfold wLstR
  walk_at "wx"
  refine ⟨⟨by omega, by omega⟩, fun p2 hp2 => ?_⟩
  rw [Int.toNat_natCast]
  have l2 := Le.put (o := .lst ((List.range m).map fun i : Nat => W.int (i : Int))) hp2
  have g2 : put S1 p2 (.lst ((List.range m).map fun i : Nat => W.int (i : Int))) p2 = some (.lst ((List.range m).map fun i : Nat => W.int (i : Int))) := put_same
  have g12 := l2 _ _ g1
  have R2 := R1.le l2
  have l02 := l1.trans l2
  generalize put S1 p2 (.lst ((List.range m).map fun i : Nat => W.int (i : Int))) = S2 at *
  simp only [v_addL, g12, g2, onL_lst]
  refine ⟨Nat.le_of_lt (small_len (by simp; omega)), fun so hso => ?_⟩
  have l3 := Le.put (o := .lst ([W.non] ++ (List.range m).map fun i : Nat => W.int (i : Int))) hso
  have g3 : put S2 so (.lst ([W.non] ++ (List.range m).map fun i : Nat => W.int (i : Int))) so = some (someM m) := put_same
  have R3 := R2.le l3
  have l03 := l02.trans l3
  have ns3 : so ≠ row := Ne.symm (R2.ne hso)
  generalize put S2 so (.lst ([W.non] ++ (List.range m).map fun i : Nat => W.int (i : Int))) = S3 at *
  (try walk_at "wx")
  intro la hla
  have l4 := Le.put (o := .lst []) hla
  have g4 : put S3 la (.lst []) la = some (.lst []) := put_same
  have g34 := l4 _ _ g3
  have R4 := R3.le l4
  have l04 := l03.trans l4
  have nla : la ≠ row := Ne.symm (R3.ne hla)
  have nsl : so ≠ la := ne_none g3 hla
  have fla : S la = none := l03.free hla
  have hsa4 := l04 _ _ hsa
  have nal : sa ≠ la := ne_none hsa fla
  generalize put S3 la (.lst []) = S4 at *
  refine taken_ok R4 (by decide) (by decide) fun v S5 v0 v1 R5 F5 => ?_
  have g5 := F5.ne g4 nla
  have g35 := F5.ne g34 ns3
  have hsa5 := F5.ne hsa4 nsr
  refine ⟨⟨by omega, by omega⟩, ?_⟩
  subst hL1
  refine lit_loop (S0 := S5) m1 m6 nla (fun S6 x8 x9 x10 n0 hn0 R6 F6 L6 => ?_) _ 0 S5 _ _ _ (by simp; omega) R5 (fun y o _ _ h => h) ⟨[], g5, by simp, fun l hl => absurd hl List.not_mem_nil⟩
  have g36 := F6 _ _ ns3 nsl g35
  have hsa6 := F6 _ _ nsr nal hsa5
  have F06 : ∀ y o, y ≠ row → S y = some o → S6 y = some o := fun y o h1 h2 => F6 _ _ h1 (ne_none h2 fla) (F5 _ _ h1 (l04 _ _ h2))
  (try walk_at "wx")
  refine taken_ok R6 (by decide) (by decide) fun u S7 u0 u1 R7 F7 => ?_
  (try walk_at "wx")
  refine reckoning_ok R7 m1 (by omega) u0 (by omega) fun e S8 e1 e2 R8 F8 => ?_
  (try walk_at "wx")
  refine taken_ok R8 (by omega) (by omega) fun w S9 w0 w1 R9 F9 => ?_
  have F69 := (F7.trans F8).trans F9
  obtain ⟨k, hk, kok⟩ := some_at (m := m) w0 w1
  have g39 : S9 so = some (.lst (.non :: (List.range m).map fun i : Nat => W.int (i : Int))) := F69.ne g36 ns3
  simp only [ix_l, g39, onL_lst, hk, onS_some]
  (try walk_at "wx")
  obtain ⟨ls, hls1, hls2, hls3⟩ := L6
  have hls := F69.ne hls1 nla
  have hsa9 := F69.ne hsa6 nsr
  have F09 : ∀ y o, y ≠ row → S y = some o → S9 y = some o := fun y o h1 h2 => F69 _ _ h1 (F06 _ _ h1 h2)
  clear R R1 R2 R3 R4 R5 R6 R7 R8 F5 F6 F7 F8 F69 F06 l1 l2 l3 l4 l02 l03 l04 g1 g2 g12 g3 g34 g35 g36 g4 g5 hsa hsa4 hsa5 hsa6 hls1
  refine ⟨⟨by decide, by decide⟩, fun lt hlt => ?_⟩
  have nlt : lt ≠ row := Ne.symm (R9.ne hlt)
  have ntl : la ≠ lt := ne_none hls hlt
  have nts : so ≠ lt := ne_none g39 hlt
  have nta : sa ≠ lt := ne_none hsa9 hlt
  refine row_lc (S0 := S9) (ns := ns) nlt (G := fun j : Nat => W.int (j : Int)) (P := fun j => at_ < j ∧ (at_ + 1 < many → j < many)) (fun x S Q' R' F' q' => ?_) _ [] _ (by simp) (fun a h => absurd h List.not_mem_nil) (R9.le (Le.put hlt)) (fun y o h1 h2 h3 => by rw [put_ne h2]; exact h3) put_same fun S10 acc ea pa R10 F10 h10 => ?_
  · simp only [List.set_cons_succ, List.set_cons_zero]
    walk_at "wx"
    refine taken_ok R' (by split <;> omega) (by split <;> omega) fun z S' z0 z1 R2 F2 => ?_
    have e : (at_ : Int) + 1 + z = ((at_ + 1 + z.toNat : Nat) : Int) := by omega
    rw [v_add, e]
    refine q' _ S' ⟨by omega, fun h => ?_⟩ R2 F2
    split at z1 <;> omega
  have e4 : acc.length = 4 := by simpa using ea
  obtain ⟨d0, d1, d2, d3, rfl⟩ : ∃ a b c d, acc = [a, b, c, d] := by
    match acc, e4 with
    | [a, b, c, d], _ => exact ⟨a, b, c, d, rfl⟩
  have p0 := pa d0 (by simp)
  have p1' := pa d1 (by simp)
  have p2' := pa d2 (by simp)
  have p3 := pa d3 (by simp)
  simp only [List.map_cons, List.map_nil] at h10
  have hls10 := F10 _ _ nla ntl hls
  have g10 := F10 _ _ ns3 nts g39
  have hsa10 := F10 _ _ nsr nta hsa9
  have flt : S lt = none := by
    cases e : S lt with
    | none => rfl
    | some o => have := F09 _ _ nlt e; rw [hlt] at this; cases this
  have F0 : ∀ y o, y ≠ row → S y = some o → S10 y = some o := fun y o h1 h2 => F10 _ _ h1 (ne_none h2 flt) (F09 _ _ h1 h2)
  refine taken_ok R10 (by omega) (by omega) fun g S11 gg0 gg1 R11 F11 => ?_
  obtain ⟨gr, rfl⟩ : ∃ z : Nat, g = (z : Int) := ⟨g.toNat, by omega⟩
  intro wa hwa
  have nwa : wa ≠ row := Ne.symm (R11.ne hwa)
  have l12 := Le.put (o := .lst [W.tup [.str w_give, e.W, optN k, .int (gr : Int)], .tup [.str w_fault, e.W], .tup [.str w_end, e.W], .tup [.str w_shut]]) hwa
  have hwa12 : put S11 wa (.lst [W.tup [.str w_give, e.W, optN k, .int (gr : Int)], .tup [.str w_fault, e.W], .tup [.str w_end, e.W], .tup [.str w_shut]]) wa = some (.lst ([Ex.give e k gr, .fault e, .ends e, .shut].map Ex.W)) := by rw [put_same]; rfl
  have wok : ∀ ex ∈ [Ex.give e k gr, .fault e, .ends e, .shut], Ex.typ sh number at_ many m ex := fun ex hex => by
    simp only [List.mem_cons, List.not_mem_nil, or_false] at hex
    rcases hex with rfl | rfl | rfl | rfl
    · exact ⟨⟨e1, e2⟩, kok, by omega⟩
    · exact ⟨e1, e2⟩
    · exact ⟨e1, e2⟩
    · trivial
  have R12 := R11.le l12
  have F12 : Fr row S10 (put S11 wa (.lst [W.tup [.str w_give, e.W, optN k, .int (gr : Int)], .tup [.str w_fault, e.W], .tup [.str w_end, e.W], .tup [.str w_shut]])) := F11.trans (Fr.le l12)
  generalize put S11 wa (.lst [W.tup [.str w_give, e.W, optN k, .int (gr : Int)], .tup [.str w_fault, e.W], .tup [.str w_end, e.W], .tup [.str w_shut]]) = S12 at *
  have h12 := F12.ne h10 nlt
  have hls12 := F12.ne hls10 nla
  have g12 := F12.ne g10 ns3
  have hsa12 := F12.ne hsa10 nsr
  subst hL2
  by_cases hlast : (at_ : Int) < (many : Int) - 1
  · rw [if_pos (decide_eq_true hlast)]
    repeat (first | simp only [h12, hwa12, onL_lst, onS_some, atI0, atI1, atI2, atI3] | walk_at "wx")
    have am1 : at_ + 1 < many := by omega
    intro p4 hp4
    have l13 := Le.put (o := .lst [W.tup [.str w_go, .int (d0 : Int)], .tup [.str w_fork, e.W, .int (d0 : Int), .int (d1 : Int)]]) hp4
    have hwa13 := l13 _ _ hwa12
    simp only [hwa13, onL_lst]
    refine ⟨Nat.le_of_lt (small_len (by simp)), fun wb hwb => ?_⟩
    have hwb14 : put (put S12 p4 (.lst [W.tup [.str w_go, .int (d0 : Int)], .tup [.str w_fork, e.W, .int (d0 : Int), .int (d1 : Int)]])) wb (.lst (W.tup [.str w_go, .int (d0 : Int)] :: .tup [.str w_fork, e.W, .int (d0 : Int), .int (d1 : Int)] :: [Ex.give e k gr, .fault e, .ends e, .shut].map Ex.W)) wb = some (.lst ([Ex.go d0, .fork e d0 d1, .give e k gr, .fault e, .ends e, .shut].map Ex.W)) := by rw [put_same]; rfl
    have wok2 : ∀ ex ∈ [Ex.go d0, .fork e d0 d1, .give e k gr, .fault e, .ends e, .shut], Ex.typ sh number at_ many m ex := fun ex hex => by
      rcases List.mem_cons.mp hex with rfl | hex
      · exact ⟨p0.1, p0.2 am1⟩
      · rcases List.mem_cons.mp hex with rfl | hex
        · exact ⟨⟨e1, e2⟩, ⟨p0.1, p0.2 am1⟩, ⟨p1'.1, p1'.2 am1⟩⟩
        · exact wok ex hex
    have l14 := l13.trans (Le.put (o := .lst (W.tup [.str w_go, .int (d0 : Int)] :: .tup [.str w_fork, e.W, .int (d0 : Int), .int (d1 : Int)] :: [Ex.give e k gr, .fault e, .ends e, .shut].map Ex.W)) hwb)
    have nwb : wb ≠ row := Ne.symm ((R12.le l13).ne hwb)
    have R14 := R12.le l14
    have h14 := l14 _ _ h12
    have hls14 := l14 _ _ hls12
    have g14 := l14 _ _ g12
    have hsa14 := l14 _ _ hsa12
    have F014 : ∀ y o, y ≠ row → S y = some o → put (put S12 p4 (.lst [W.tup [.str w_go, .int (d0 : Int)], .tup [.str w_fork, e.W, .int (d0 : Int), .int (d1 : Int)]])) wb (.lst (W.tup [.str w_go, .int (d0 : Int)] :: .tup [.str w_fork, e.W, .int (d0 : Int), .int (d1 : Int)] :: [Ex.give e k gr, .fault e, .ends e, .shut].map Ex.W)) y = some o := fun y o h1 h2 => l14 _ _ (F12 _ _ h1 (F0 _ _ h1 h2))
    generalize put (put S12 p4 (.lst [W.tup [.str w_go, .int (d0 : Int)], .tup [.str w_fork, e.W, .int (d0 : Int), .int (d1 : Int)]])) wb (.lst (W.tup [.str w_go, .int (d0 : Int)] :: .tup [.str w_fork, e.W, .int (d0 : Int), .int (d1 : Int)] :: [Ex.give e k gr, .fault e, .ends e, .shut].map Ex.W)) = S14 at *
    clear hwa12 hwa13 h12 hls12 g12 hsa12 F12 F0 l13 l14 R12 l12
    refine taken_ok R14 (by omega) (by omega) fun z S15 z0 z1 R15 F15 => ?_
    obtain ⟨k2, hk2, kok2⟩ := some_at (m := m) z0 z1
    have g15 := F15.ne g14 ns3
    have h15 := F15.ne h14 nlt
    simp only [ix_l, g15, onL_lst, hk2, onS_some, h15, atI2]
    intro p5 hp5
    have np5 : p5 ≠ row := Ne.symm (R15.ne hp5)
    have l16 := Le.put (o := .lst [W.non, .tup [optN k2, .int (d2 : Int)]]) hp5
    have h516 : put S15 p5 (.lst [W.non, .tup [optN k2, .int (d2 : Int)]]) p5 = some (.lst [W.non, .tup [optN k2, .int (d2 : Int)]]) := put_same
    have R16 := R15.le l16
    have F16 : Fr row S14 (put S15 p5 (.lst [W.non, .tup [optN k2, .int (d2 : Int)]])) := F15.trans (Fr.le l16)
    generalize put S15 p5 (.lst [W.non, .tup [optN k2, .int (d2 : Int)]]) = S16 at *
    refine taken_ok R16 (by decide) (by decide) fun y S17 y0 y1 R17 F17 => ?_
    have F17 := F16.trans F17
    have h517 := (show Fr row S16 S17 from by assumption).ne h516 np5
    have h17 := F17.ne h14 nlt
    obtain ⟨ct, hct, ctok⟩ : ∃ ct : Option (Option Nat × Nat), atI [W.non, .tup [optN k2, .int (d2 : Int)]] (if decide (0 < y) = true then 1 else 0) = some (ctW ct) ∧ ∀ kk j, ct = some (kk, j) → (at_ < j ∧ j < many) ∧ ∀ i, kk = some i → i < m := by
      by_cases hy : 0 < y
      · exact ⟨some (k2, d2), by rw [decide_eq_true hy]; rfl, fun kk j h => by cases h; exact ⟨⟨p2'.1, p2'.2 am1⟩, kok2⟩⟩
      · exact ⟨none, by rw [decide_eq_false hy]; rfl, fun kk j h => nomatch h⟩
    (try walk_at "wx")
    simp only [h517, h17, onL_lst, hct, onS_some, atI3]
    intro p6 hp6
    have np6 : p6 ≠ row := Ne.symm (R17.ne hp6)
    have l18 := Le.put (o := .lst [W.non, .int (d3 : Int)]) hp6
    have h618 : put S17 p6 (.lst [W.non, .int (d3 : Int)]) p6 = some (.lst [W.non, .int (d3 : Int)]) := put_same
    have R18 := R17.le l18
    have F18 : Fr row S14 (put S17 p6 (.lst [W.non, .int (d3 : Int)])) := F17.trans (Fr.le l18)
    generalize put S17 p6 (.lst [W.non, .int (d3 : Int)]) = S18 at *
    refine taken_ok R18 (by decide) (by decide) fun t S19 t0 t1 R19 F19 => ?_
    have h619 := F19.ne h618 np6
    have F19 := F18.trans F19
    obtain ⟨sh2, hsh, shok⟩ : ∃ o : Option Nat, atI [W.non, .int (d3 : Int)] (if decide (0 < t) = true then 1 else 0) = some (optN o) ∧ ∀ j, o = some j → at_ < j ∧ j < many := by
      by_cases ht : 0 < t
      · exact ⟨some d3, by rw [decide_eq_true ht]; rfl, fun j h => by cases h; exact ⟨p3.1, p3.2 am1⟩⟩
      · exact ⟨none, by rw [decide_eq_false ht]; rfl, fun j h => nomatch h⟩
    have hsa19 : S19 sa = some (.lst (sh.map shW)) := F19.ne hsa14 nsr
    have hwb19 := F19.ne hwb14 nwb
    have hls19 := F19.ne hls14 nla
    have h19 := F19.ne h14 nlt
    have F019 : ∀ y o, y ≠ row → S y = some o → S19 y = some o := fun y o h1 h2 => F19 _ _ h1 (F014 _ _ h1 h2)
    have ll : ∀ Q', rLenW [.ref sa] S19 Q' = Q' (.int (sh.length : Int)) S19 := fun Q' => by rw [len_l hsa19, List.length_map]
    clear h14 hls14 g14 hsa14 h15 g15 h516 h517 h17 h618 R14 R15 R16 R17 R18 F15 F16 F17 F18 hwb14
    repeat (first | simp only [h619, onL_lst, hsh, onS_some, ll] | walk_at "wx")
    by_cases hlater : (number : Int) < (sh.length : Int) - 1
    · rw [if_pos (decide_eq_true hlater)]
      refine taken_ok R19 (by omega) (by omega) fun x S20 xx0 xx1 R20 F20 => ?_
      obtain ⟨wk, hwk⟩ : ∃ wk : Nat, (number : Int) + 1 + x = (wk : Int) := ⟨number + 1 + x.toNat, by omega⟩
      obtain ⟨⟨a3, m3⟩, hw3⟩ := get_some (l := sh) (n := wk) (by omega)
      obtain ⟨q1, q2, q3, q4⟩ := ST _ (List.mem_of_getElem? hw3)
      simp only at q1 q2 q3 q4
      have hx3 : atI (sh.map shW) (wk : Int) = some (.tup [.int a3, .int m3]) := atI_map hw3
      have hsa20 := F20.ne hsa19 nsr
      have h20 := F20.ne h19 nlt
      simp only [v_add, hwk]
      repeat (first | simp only [hsa20, onL_lst, hx3, onS_some] | walk_at "wx")
      refine ⟨⟨by omega, by omega⟩, fun p7 hp7 => ?_⟩
      rw [Int.toNat_natCast]
      have np7 : p7 ≠ row := Ne.symm (R20.ne hp7)
      have hwb20 := F20.ne hwb19 nwb
      have hls20 := F20.ne hls19 nla
      refine row_lc (S0 := S20) (ns := ns) np7 (G := Rk.W) (P := fun e : Rk => e.ok m ∧ e.deep < 4) (fun x S Q' R' F' q' => ?_) _ [] _ (by simp; omega) (fun a h => absurd h List.not_mem_nil) (R20.le (Le.put hp7)) (fun y o h1 h2 h3 => by rw [put_ne h2]; exact h3) put_same fun S21 args ea pa R21 F21 h21 => ?_
      · simp only [List.set_cons_succ, List.set_cons_zero]
        walk_at "wx"
        exact reckoning_ok R' m1 (by omega) (by decide) (by decide) fun e S' h1 h2 h3 h4 => q' e S' ⟨h1, h2⟩ h3 h4
      have al : args.length = a3 := by simpa using ea
      have hwb21 := F21 _ _ nwb (ne_none hwb20 hp7) hwb20
      have hls21 := F21 _ _ nla (ne_none hls20 hp7) hls20
      have hlt21 := F21 _ _ nlt (ne_none h20 hp7) h20
      repeat (first | simp only [so_l h21, onQ_some, hlt21, onL_lst, onS_some, atI1] | walk_at "wx")
      intro p8 hp8
      have l22 := Le.put (o := .lst [W.tup [.str w_hand, .int (wk : Int), .tup (args.map Rk.W), optN k, .int (d1 : Int)]]) hp8
      simp only [l22 _ _ hwb21, onL_lst]
      refine ⟨Nat.le_of_lt (small_len (by simp)), fun wc hwc => ?_⟩
      have l23 := l22.trans (Le.put (o := .lst (W.tup [.str w_hand, .int (wk : Int), .tup (args.map Rk.W), optN k, .int (d1 : Int)] :: [Ex.go d0, .fork e d0 d1, .give e k gr, .fault e, .ends e, .shut].map Ex.W)) hwc)
      have nwc : wc ≠ row := Ne.symm ((R21.le l22).ne hwc)
      have hwc23 : put (put S21 p8 (.lst [W.tup [.str w_hand, .int (wk : Int), .tup (args.map Rk.W), optN k, .int (d1 : Int)]])) wc (.lst (W.tup [.str w_hand, .int (wk : Int), .tup (args.map Rk.W), optN k, .int (d1 : Int)] :: [Ex.go d0, .fork e d0 d1, .give e k gr, .fault e, .ends e, .shut].map Ex.W)) wc = some (.lst ((Ex.hand wk args k d1 :: [Ex.go d0, .fork e d0 d1, .give e k gr, .fault e, .ends e, .shut]).map Ex.W)) := by rw [put_same]; rfl
      refine fin_ok (nl := nla) (nw := nwc) (ct := ct) (so := sh2) (R21.le l23) ⟨ls, l23 _ _ hls21, hls2, hls3⟩ ⟨_, hwc23, by simp, by simp, fun ex hex => ?_⟩ ctok shok fun r S' hr R' F' => q r S' hr R' fun y o h1 h2 => F' _ _ h1 (l23 _ _ (F21 _ _ h1 (ne_none (F20 _ _ h1 (F019 _ _ h1 h2)) hp7) (F20 _ _ h1 (F019 _ _ h1 h2))))
      rcases List.mem_cons.mp hex with rfl | hex
      · exact ⟨by omega, ⟨m3, by rw [hw3, al]⟩, pa, kok, ⟨p1'.1, p1'.2 am1⟩⟩
      · exact wok2 ex hex
    · rw [if_neg (by simpa using hlater)]
      exact fin_ok (nl := nla) (nw := nwb) (ct := ct) (so := sh2) R19 ⟨ls, hls19, hls2, hls3⟩ ⟨_, hwb19, by simp, by simp, wok2⟩ ctok shok fun r S' hr R' F' => q r S' hr R' fun y o h1 h2 => F' _ _ h1 (F019 _ _ h1 h2)
  · rw [if_neg (by simpa using hlast)]
    refine fin_ok (nl := nla) (nw := nwa) (ct := none) (so := none) R12 ⟨ls, hls12, hls2, hls3⟩ ⟨_, hwa12, by simp, by simp, wok⟩ (fun k j h => nomatch h) (fun j h => nomatch h) fun r S' hr R' F' => q r S' hr R' fun y o h1 h2 => F' _ _ h1 (F12 _ _ h1 (F0 _ _ h1 h2))
end K11
end WL
namespace WL
open PySem L2
namespace K11
abbrev mW (m : Mc) (a : Addr) : W := .tup [.int (m.params : Int), .int (m.slots : Int), .ref a]
theorem msW_snoc {ms : List Mc} {ras : List Addr} (h : ras.length = ms.length) (m : Mc) (a : Addr) : msW (ms ++ [m]) (ras ++ [a]) = msW ms ras ++ [mW m a] := by
  unfold msW
  rw [List.zipWith_append h.symm]
  rfl
structure Jd (S : Sto) (DD : Addr) (ms : List Mc) (ras : List Addr) : Prop where
  lens : ras.length = ms.length
  rms : ∀ (i : Nat) (m : Mc) (a : Addr), ms[i]? = some m → ras[i]? = some a → S a = some (.lst (m.rooms.map Rm.W)) ∧ a ≠ DD
theorem Jd.snoc {S : Sto} {DD : Addr} {ms : List Mc} {ras : List Addr} (J : Jd S DD ms ras) {m : Mc} {a : Addr} (h : S a = some (.lst (m.rooms.map Rm.W))) (n : a ≠ DD) : Jd S DD (ms ++ [m]) (ras ++ [a]) := by
  refine ⟨by rw [List.length_append, List.length_append, J.lens]; rfl, fun i m' a' h2 h3 => ?_⟩
  by_cases hi : i < ms.length
  · rw [List.getElem?_append_left hi] at h2
    rw [List.getElem?_append_left (by rw [J.lens]; exact hi)] at h3
    exact J.rms i m' a' h2 h3
  · have il := (List.getElem?_eq_some_iff.mp h2).1
    rw [List.length_append, List.length_singleton] at il
    have : i = ms.length := by omega
    subst this
    rw [List.getElem?_append_right (Nat.le_refl _), Nat.sub_self] at h2
    rw [List.getElem?_append_right (by rw [J.lens]; exact Nat.le_refl _), J.lens, Nat.sub_self] at h3
    cases h2
    cases h3
    exact ⟨h, n⟩
theorem Jd.put {S S' : Sto} {DD : Addr} {ms : List Mc} {ras : List Addr} (J : Jd S DD ms ras) (F : ∀ y x, y ≠ DD → S y = some x → S' y = some x) : Jd S' DD ms ras := ⟨J.lens, fun i m a h1 h2 => ⟨F _ _ (J.rms i m a h1 h2).2 (J.rms i m a h1 h2).1, (J.rms i m a h1 h2).2⟩⟩
theorem Jd.ms {S : Sto} {DD : Addr} {ms : List Mc} {ras : List Addr} (J : Jd S DD ms ras) (h : S DD = some (.lst (msW ms ras))) : MsAt S DD ms ras := ⟨h, J.lens, fun i m a h1 h2 => (J.rms i m a h1 h2).1⟩
/-- machines of machines -/
theorem ms_lc {DD : Addr} {S0 : Sto} {Z : Sto → Prop} (hZ : ∀ S, Fr DD S0 S → Z S) {f : Mc → Mc} {ok : Mc → Prop} {i : Nat} {te : WE} {r : Rho} {Q : Sto → Prop} (he : ∀ m a S Q', ok m → S a = some (.lst (m.rooms.map Rm.W)) → (∀ S1 p, Le S S1 → S p = none → S1 p = some (.lst ((f m).rooms.map Rm.W)) → Q' (mW (f m) p) S1) → te (r.set i (some (mW m a))) S Q') : ∀ (ms : List Mc) (ras : List Addr) (am : List Mc) (ar : List Addr) (S : Sto), ras.length = ms.length → (∀ m ∈ ms, ok m) → (∀ (i : Nat) (m : Mc) (a : Addr), ms[i]? = some m → ras[i]? = some a → S0 a = some (.lst (m.rooms.map Rm.W)) ∧ a ≠ DD) → am.length + ms.length ≤ 1000 → Fr DD S0 S → S DD = some (.lst (msW am ar)) → Jd S DD am ar →
    (∀ S' ar', Fr DD S0 S' → MsAt S' DD (am ++ ms.map f) ar' → (∀ a ∈ ar', a ∈ ar ∨ S0 a = none ∨ a = DD) → Q S') → lcW Z i wYes te DD (msW ms ras) r S Q
  | [], [], am, ar, S, hl, ok', hr, hn, F, hD, J, q => ⟨hZ _ F, q S ar F ⟨by simpa using hD, by simpa using J.lens, fun i m a h1 h2 => (J.rms i m a (by simpa using h1) h2).1⟩ fun a h => .inl h⟩
  | [], _ :: _, am, ar, S, hl, ok', hr, hn, F, hD, J, q => by simp at hl
  | _ :: _, [], am, ar, S, hl, ok', hr, hn, F, hD, J, q => by simp at hl
  | m :: ms, a :: ras, am, ar, S, hl, ok', hr, hn, F, hD, J, q => by
    rw [List.length_cons] at hn
    obtain ⟨ha, nad⟩ := hr 0 m a rfl rfl
    have e : msW (m :: ms) (a :: ras) = mW m a :: msW ms ras := rfl
    rw [e]
    simp only [lcW]
    refine ⟨hZ _ F, ?_⟩
    simp only [x_yes, if_true]
    refine he m a S _ (ok' m List.mem_cons_self) (F.ne ha nad) fun S1 p l1 f1 h1 => ?_
    have hD1 := l1 _ _ hD
    have npd : p ≠ DD := fun z => by rw [z, hD] at f1; cases f1
    have al : (msW am ar).length = am.length := ms_len J.lens
    refine ⟨_, hD1, small_len (by omega), ?_⟩
    rw [← msW_snoc J.lens (f m) p]
    have F1 : ∀ y o, y ≠ DD → S1 y = some o → put S1 DD (.lst (msW (am ++ [f m]) (ar ++ [p]))) y = some o := fun y o hy h => by rw [put_ne hy]; exact h
    have J1 : Jd (put S1 DD (.lst (msW (am ++ [f m]) (ar ++ [p])))) DD am ar := J.put fun y o hy h => F1 _ _ hy (l1 _ _ h)
    refine ms_lc hZ he ms ras (am ++ [f m]) (ar ++ [p]) _ (by simpa using hl) (fun x hx => ok' x (List.mem_cons_of_mem _ hx)) (fun i m' a' h2 h3 => hr (i + 1) m' a' (by simpa using h2) (by simpa using h3)) (by rw [List.length_append, List.length_singleton]; omega) (fun y o hy h => F1 _ _ hy (l1 _ _ (F y o hy h))) put_same (J1.snoc (by rw [put_ne npd]; exact h1) npd) fun S' ar' F' M' hx => q S' ar' F' (by rw [List.append_assoc] at M'; exact M') fun b hb => ?_
    rcases hx b hb with h | h | h
    · rcases List.mem_append.mp h with h | h
      · exact .inl h
      · rw [List.mem_singleton.mp h]
        refine .inr (.inl ?_)
        cases z : S0 p with
        | none => rfl
        | some o => have := F _ _ npd z; rw [f1] at this; cases this
    · exact .inr (.inl h)
    · exact .inr (.inr h)
/-! ### the law's copies -/
def sp_law_copied : WSp := fun ws S Q => ∃ (mr : Addr) (ms : List Mc) (ras : List Addr), ws = [.ref mr] ∧ MsAt S mr ms ras ∧ ms.length ≤ 100 ∧ (∀ m ∈ ms, m.rooms.length ≤ 1000000) ∧ ∀ S' q ras', Le S S' → S q = none → MsAt S' q ms ras' → (∀ a ∈ ras', S a = none) → Q (.ref q) S'
end K11
end WL
namespace WL
open PySem L2
namespace K11
structure Typd (sh : Shapes) (i most : Nat) (mc : Mc) : Prop where
  shape : sh[i]? = some (mc.params, mc.slots)
  l1 : 1 ≤ mc.rooms.length
  l2 : mc.rooms.length ≤ most
  rooms : ∀ (j : Nat) (r : Rm), mc.rooms[j]? = some r → RmT sh i j mc.rooms.length mc.slots r
theorem shapes_loop {row sa : Addr} {ns : List Int} {S0 : Sto} {D : WD} {x1 : Option W} {N : Nat} (hN : N ≤ 4) (ff : S0 sa = none) (nr : sa ≠ row) {sp : WSp} (q : ∀ (sh : Shapes) S' x3 x4 x5 x6 x7 x8 x9, ShT sh → sh.length = N → RowAt S' row ns → Fr row S0 S' → S' sa = some (.lst (sh.map shW)) → D.nx [some (.ref row), x1, some (.ref sa), x3, x4, x5, x6, x7, x8, x9] S') : ∀ (xs : List W) (sh : Shapes) (S : Sto) (x3 x4 x5 x6 x7 x8 x9 : Option W), sh.length + xs.length = N → ShT sh → RowAt S row ns → Fr row S0 S → S sa = some (.lst (sh.map shW)) →
    forW (fun _ => True) (gNameW 3) (l_law_typed_1 sp_law_taken sp) xs D [some (.ref row), x1, some (.ref sa), x3, x4, x5, x6, x7, x8, x9] S
  | [], sh, S, x3, x4, x5, x6, x7, x8, x9, hl, hs, R, F, hf => by
    simp only [forW]
    exact ⟨trivial, q sh S _ _ _ _ _ _ _ hs (by simpa using hl) R F hf⟩
  | x :: xs, sh, S, x3, x4, x5, x6, x7, x8, x9, hl, hs, R, F, hf => by
    rw [List.length_cons] at hl
    simp only [forW]
    refine ⟨trivial, ?_⟩
    generalize hL : forW (fun _ => True) (gNameW 3) (l_law_typed_1 sp_law_taken sp) xs D = L
    unfold l_law_typed_1
    walk_at "wx"
    refine taken_ok R (by decide) (by decide) fun v S1 v0 v1 R1 F1 => ?_
    have hf1 := F1.ne hf nr
    walk_at "wx"
    refine ⟨is_lst hf1, ?_⟩
    refine taken_ok R1 (by split <;> omega) (by split <;> omega) fun u S2 u0 u1 R2 F2 => ?_
    have hf2 := F2.ne hf1 nr
    simp only [x_app, hf2, onL_lst]
    refine ⟨small_len (by rw [List.length_map]; omega), ?_⟩
    subst hL
    have e : W.tup [.int u, .int (1 + v)] = shW (u.toNat, (1 + v).toNat) := by
      simp only [shW]
      rw [Int.toNat_of_nonneg u0, Int.toNat_of_nonneg (by omega)]
    refine shapes_loop hN ff nr q xs (sh ++ [(u.toNat, (1 + v).toNat)]) _ _ _ _ _ _ _ _ (by rw [List.length_append]; simp only [List.length_cons, List.length_nil]; omega) (fun y hy => ?_) (R2.off nr) (fun y o hy h => ?_) (by rw [put_same, e, List.map_append]; rfl)
    · rcases List.mem_append.mp hy with hy | hy
      · exact hs y hy
      · rw [List.mem_singleton.mp hy]
        simp only
        split at u1 <;> omega
    · rw [put_ne (ne_none h ff)]; exact F2 _ _ hy (F1 _ _ hy (F _ _ hy h))
theorem row_lcI {row DD : Addr} {ns : List Int} (n2 : DD ≠ row) {α : Type} {G : α → W} {P : Nat → α → Prop} {S0 : Sto} {i N : Nat} {te : WE} {r : Rho} {Q : Sto → Prop} (he : ∀ (j : Nat) S Q', j < N → RowAt S row ns → Fr2 row DD S0 S → (∀ (a : α) S', P j a → RowAt S' row ns → Fr row S S' → Q' (G a) S') → te (r.set i (some (.int (j : Int)))) S Q') : ∀ (n : Nat) (acc : List α) (S : Sto), acc.length + n = N → N ≤ 1000 → (∀ k a, acc[k]? = some a → P k a) → RowAt S row ns → Fr2 row DD S0 S → S DD = some (.lst (acc.map G)) →
    (∀ S' (acc' : List α), acc'.length = N → (∀ k a, acc'[k]? = some a → P k a) → RowAt S' row ns → Fr2 row DD S0 S' → S' DD = some (.lst (acc'.map G)) → Q S') → lcW (fun _ => True) i wYes te DD ((List.range' acc.length n).map fun i : Nat => W.int (i : Int)) r S Q
  | 0, acc, S, hl, hN, hp, R, F, h, q => ⟨trivial, q S acc (by omega) hp R F h⟩
  | n + 1, acc, S, hl, hN, hp, R, F, h, q => by
    simp only [List.range', List.map_cons, lcW]
    refine ⟨trivial, ?_⟩
    simp only [x_yes, if_true]
    refine he acc.length S _ (by omega) R F fun a S1 pa R1 F1 => ?_
    refine ⟨_, F1.ne h n2, small_len (by rw [List.length_map]; omega), ?_⟩
    have A := row_lcI n2 he n (acc ++ [a]) (put S1 DD (.lst (acc.map G ++ [G a]))) (by rw [List.length_append, List.length_singleton]; omega) hN (fun k b hb => ?_) (R1.off n2) (fun y o h1 h3 h4 => by rw [put_ne h3]; exact F1 _ _ h1 (F _ _ h1 h3 h4)) (by rw [put_same, List.map_append]; rfl) q
    · rw [List.length_append, List.length_singleton] at A
      exact A
    · by_cases e : k < acc.length
      · rw [List.getElem?_append_left e] at hb
        exact hp k b hb
      · rw [List.getElem?_append_right (by omega)] at hb
        have hl2 := (List.getElem?_eq_some_iff.mp hb).1
        simp at hl2
        have : k = acc.length := by omega
        subst this
        simp at hb
        rw [← hb]; exact pa
theorem machs_loop {row sa fo : Addr} {ns : List Int} {S0 : Sto} {D : WD} {most : Nat} (hm : most ≤ 100) (hm1 : 1 ≤ most) {sh : Shapes} (hsh : ShT sh) (hs4 : sh.length ≤ 4) (ff : S0 fo = none) (nr : fo ≠ row) (nsr : sa ≠ row) (nfs : fo ≠ sa) {x3 x4 : Option W} (q : ∀ (ms : List Mc) ras S' x6 x7 x8 x9, ms.length = sh.length → (∀ (i : Nat) (mc : Mc), ms[i]? = some mc → Typd sh i most mc) → RowAt S' row ns → Fr row S0 S' → S' fo = some (.lst (msW ms ras)) → Jd S' fo ms ras → D.nx [some (.ref row), some (.int most), some (.ref sa), x3, x4, some (.ref fo), x6, x7, x8, x9] S') :
    ∀ (n : Nat) (ms : List Mc) (ras : List Addr) (S : Sto) (x6 x7 x8 x9 : Option W), ms.length + n = sh.length → (∀ (i : Nat) (mc : Mc), ms[i]? = some mc → Typd sh i most mc) → RowAt S row ns → Fr row S0 S → S sa = some (.lst (sh.map shW)) → S fo = some (.lst (msW ms ras)) → Jd S fo ms ras → (∀ a ∈ ras, a ≠ row) →
    forW (fun _ => True) (gNameW 6) (l_law_typed_2 sp_law_taken sp_law_typed_room) ((List.range' ms.length n).map fun i => W.int (i : Nat)) D [some (.ref row), some (.int most), some (.ref sa), x3, x4, some (.ref fo), x6, x7, x8, x9] S
  | 0, ms, ras, S, x6, x7, x8, x9, hl, hp, R, F, hsa, hf, J, nra => by
    simp only [List.range', List.map_nil, forW]
    exact ⟨trivial, q ms ras S _ _ _ _ (by omega) hp R F hf J⟩
  | n + 1, ms, ras, S, x6, x7, x8, x9, hl, hp, R, F, hsa, hf, J, nra => by
    simp only [List.range', List.map_cons, forW]
    refine ⟨trivial, ?_⟩
    generalize hL : forW (fun _ => True) (gNameW 6) (l_law_typed_2 sp_law_taken sp_law_typed_room) ((List.range' (ms.length + 1) n).map fun i => W.int (i : Nat)) D = L
    obtain ⟨⟨a, m⟩, hx⟩ := get_some (l := sh) (n := ms.length) (by omega)
    have hix : atI (sh.map shW) (ms.length : Int) = some (.tup [.int a, .int m]) := atI_map hx
    unfold l_law_typed_2
    walk_at "wx"
    refine taken_ok R (by omega) (by omega) fun v S1 v0 v1 R1 F1 => ?_
    (try walk_at "wx")
    have hsa1 := F1.ne hsa nsr
    have hf1 := F1.ne hf nr
    obtain ⟨N, hN⟩ : ∃ N : Nat, 1 + v = (N : Int) := ⟨(1 + v).toNat, by omega⟩
    rw [hN]
    refine ⟨⟨by omega, by omega⟩, fun p hp0 => ?_⟩
    rw [Int.toNat_natCast, List.range_eq_range']
    have npr : p ≠ row := Ne.symm (R1.ne hp0)
    have nsp : sa ≠ p := ne_none hsa1 hp0
    have nfp : fo ≠ p := ne_none hf1 hp0
    refine row_lcI (S0 := put S1 p (.lst [])) (ns := ns) npr (G := Rm.W) (P := fun j r => RmT sh ms.length j N m r) (N := N) (fun j S2 Q' hj R2 F2 q2 => ?_) N [] _ (by simp) (by omega) (fun k b h => by simp at h) (R1.le (Le.put hp0)) (fun y o _ _ h => h) put_same fun S3 rms el pr R3 F3 h3 => ?_
    · simp only [List.set_cons_succ, List.set_cons_zero]
      walk_at "wx"
      exact ⟨row, sa, ns, sh, ms.length, j, N, m, a, rfl, R2, F2 _ _ nsr nsp (Le.put hp0 _ _ hsa1), nsr, hsh, hx, hj, by omega, by omega, fun r S' h1 h2 h3 => q2 r S' h1 h2 h3⟩
    have F13 : ∀ y o, y ≠ row → S1 y = some o → S3 y = some o := fun y o h1 h2 => F3 _ _ h1 (ne_none h2 hp0) (Le.put hp0 _ _ h2)
    have hf3 := F13 _ _ nr hf1
    have hsa3 := F13 _ _ nsr hsa1
    repeat (first | simp only [hsa3, onL_lst, hix, onS_some] | walk_at "wx")
    refine ⟨is_lst hf3, ?_⟩
    simp only [hf3, onL_lst]
    have ml : (msW ms ras).length = ms.length := ms_len J.lens
    refine ⟨small_len (by omega), ?_⟩
    have e2 : msW ms ras ++ [.tup [.int (a : Int), .int (m : Int), .ref p]] = msW (ms ++ [⟨a, m, rms⟩]) (ras ++ [p]) := (msW_snoc J.lens ⟨a, m, rms⟩ p).symm
    rw [e2]
    subst hL
    have F0 : ∀ y o, y ≠ row → S0 y = some o → S3 y = some o := fun y o h1 h2 => F13 _ _ h1 (F1 _ _ h1 (F _ _ h1 h2))
    have J3 : Jd (put S3 fo (.lst (msW (ms ++ [⟨a, m, rms⟩]) (ras ++ [p])))) fo ms ras := ⟨J.lens, fun i mc b h1 h2 => by
      obtain ⟨g1, g2⟩ := J.rms i mc b h1 h2
      have := nra b (List.mem_of_getElem? h2)
      exact ⟨by rw [put_ne g2]; exact F13 _ _ this (F1 _ _ this g1), g2⟩⟩
    have A := machs_loop hm hm1 hsh hs4 ff nr nsr nfs q n (ms ++ [⟨a, m, rms⟩]) (ras ++ [p]) (put S3 fo (.lst (msW (ms ++ [⟨a, m, rms⟩]) (ras ++ [p])))) (some (.int (ms.length : Int))) (some (.int (N : Int))) (some (.ref p)) x9 (by rw [List.length_append, List.length_singleton]; omega) (fun i mc hi => ?_) (R3.off nr) (fun y o hy h => by rw [put_ne (ne_none h ff)]; exact F0 _ _ hy h) (by rw [put_ne nfs.symm]; exact hsa3) put_same (J3.snoc (by rw [put_ne nfp.symm]; exact h3) nfp.symm) (fun b hb => ?_)
    · rw [List.length_append, List.length_singleton] at A
      exact A
    · by_cases e : i < ms.length
      · rw [List.getElem?_append_left e] at hi
        exact hp i mc hi
      · rw [List.getElem?_append_right (by omega)] at hi
        have hl2 := (List.getElem?_eq_some_iff.mp hi).1
        simp at hl2
        have : i = ms.length := by omega
        subst this
        simp at hi
        rw [← hi]
        exact ⟨hx, by simp only; omega, by simp only; omega, fun j r hj => by simp only [el]; exact pr j r hj⟩
    · rcases List.mem_append.mp hb with hb | hb
      · exact nra b hb
      · rw [List.mem_singleton.mp hb]; exact npr
def sp_law_typed : WSp := fun ws S Q => ∃ (row : Addr) (ns : List Int) (most : Nat), ws = [.ref row, .int most] ∧ RowAt S row ns ∧ 1 ≤ most ∧ most ≤ 100 ∧ ∀ (sh : Shapes) (ms : List Mc) (ras : List Addr) S' q, ShT sh → 1 ≤ sh.length → sh.length ≤ 3 → ms.length = sh.length → (∀ (i : Nat) (mc : Mc), ms[i]? = some mc → Typd sh i most mc) → RowAt S' row ns → Fr row S S' → S q = none → MsAt S' q ms ras → Q (.ref q) S'
theorem r_law_typed : ∀ ws S Q, Up Q → sp_law_typed ws S Q → t_law_typed sp_law_taken sp_law_typed_room { nx := fun _ S' => Q .non S', rt := Q } (startW 10 ws) S := by
  rintro ws S Q up ⟨row, ns, most, rfl, R, hm1, hm, q⟩
  unfold t_law_typed
  generalize hL1 : l_law_typed_1 sp_law_taken sp_law_typed_room = LA
  generalize hL2 : l_law_typed_2 sp_law_taken sp_law_typed_room = LB
  walk_at "wx"
  intro sa hsa
  have l1 := Le.put (o := .lst []) hsa
  have n1 : sa ≠ row := Ne.symm (R.ne hsa)
  refine taken_ok (R.le l1) (by decide) (by decide) fun v S1 v0 v1 R1 F1 => ?_
  have hs1 := F1.ne (o := .lst []) put_same n1
  have F2 : Fr row S S1 := (Fr.le l1).trans F1
  (try walk_at "wx")
  obtain ⟨N, hN⟩ : ∃ N : Nat, 1 + v = (N : Int) := ⟨(1 + v).toNat, by omega⟩
  rw [hN]
  refine ⟨⟨by omega, by omega⟩, ?_⟩
  rw [Int.toNat_natCast]
  subst hL1
  refine shapes_loop (S0 := S) (N := N) (by omega) hsa n1 (fun sh S2 x3 x4 x5 x6 x7 x8 x9 hsh hl R2 F3 h2 => ?_) _ [] S1 _ _ _ _ _ _ _ (by simp) (fun x hx => absurd hx List.not_mem_nil) R1 F2 hs1
  walk_at "wx"
  intro fo hfo
  have n3 := R2.ne hfo
  have n4 : sa ≠ fo := ne_none h2 hfo
  have hf0 : S fo = none := F3.free hfo (Ne.symm n3)
  have h2' := Le.put (o := .lst []) hfo _ _ h2
  simp only [len_l h2', List.length_map]
  refine ⟨⟨by omega, by omega⟩, ?_⟩
  rw [Int.toNat_natCast, List.range_eq_range']
  subst hL2
  refine machs_loop (S0 := S) (ms := []) (ras := []) hm hm1 hsh (by omega) hf0 (Ne.symm n3) n1 (Ne.symm n4) (fun ms ras S3 x6 x7 x8 x9 ml mp R3 F4 h3 J3 => ?_) sh.length _ _ _ _ _ (by simp) (fun i mc h => by simp at h) (R2.le (Le.put hfo)) (F3.trans (Fr.le (Le.put hfo))) h2' put_same ⟨rfl, fun i m a h => by simp at h⟩ (fun a h => absurd h List.not_mem_nil)
  walk_at "wx"
  exact q sh ms ras S3 fo hsh (by omega) (by omega) ml mp R3 F4 hf0 (J3.ms h3)
end K11
end WL
namespace WL
open PySem L2
namespace K11
abbrev DSP : WE := (wDisp (((wC (.str w_go)), (wC (.int 1))) :: (((wC (.str w_fork)), (wC (.int 2))) :: (((wC (.str w_give)), (wC (.int 3))) :: (((wC (.str w_hand)), (wC (.int 4))) :: [])))))
theorem disp4 {a b c d : Str} {x y z u : W} {p : Addr} {S2 : Sto} {Q : WQ} : dispW [(.str a, x), (.str b, y), (.str c, z), (.str d, u)] p S2 Q = ((S2 p = some (.dk []) ∧ 4 ≤ 15) ∧ Q (.ref p) (put S2 p (.dk (mergeW [] [(.inr a, x), (.inr b, y), (.inr c, z), (.inr d, u)])))) := rfl
theorem vat4 {x y z u : W} : mergeW [] [((.inr w_go : Key), x), (.inr w_fork, y), (.inr w_give, z), (.inr w_hand, u)] = [(.inr w_go, x), (.inr w_fork, y), (.inr w_give, z), (.inr w_hand, u)] := by
  simp [mergeW, putKW, wd_inj]
def exWord : Ex → Str
  | .go _ => w_go | .fork _ _ _ => w_fork | .give _ _ _ => w_give | .hand _ _ _ _ => w_hand | .ends _ => w_end | .fault _ => w_fault | .shut => w_shut
def exLen : Ex → Nat
  | .go _ => 2 | .fork _ _ _ => 4 | .give _ _ _ => 4 | .hand _ _ _ _ => 5 | .ends _ => 2 | .fault _ => 2 | .shut => 1
def exFirst : Ex → Nat
  | .go _ => 1 | .fork _ _ _ => 2 | .give _ _ _ => 3 | .hand _ _ _ _ => 4 | .ends _ => 2 | .fault _ => 2 | .shut => 1
theorem first_ok {ex : Ex} {te tl : WE} {r : Rho} {S : Sto} {Q : WQ} (he : ∀ S' Q', Q' (.str (exWord ex)) S' → te r S' Q') (hl : ∀ S' Q', Q' (.int (exLen ex)) S' → tl r S' Q') (q : ∀ S', Le S S' → Q (.int (exFirst ex)) S') : wDGet2 DSP te tl r S Q := by
  unfold wDGet2 DSP
  simp only [x_disp, x_ps0, x_ps1]
  intro p hp
  walk_at "wx"
  simp only [disp4, vat4]
  have hkv : put (put S p (.dk [])) p (.dk [((.inr w_go : Key), W.int 1), (.inr w_fork, .int 2), (.inr w_give, .int 3), (.inr w_hand, .int 4)]) p = some (.dk [((.inr w_go : Key), W.int 1), (.inr w_fork, .int 2), (.inr w_give, .int 3), (.inr w_hand, .int 4)]) := put_same
  refine ⟨⟨put_same, by decide⟩, p, _, rfl, hkv, he _ _ (hl _ _ ⟨_, .inr (exWord ex), hkv, rfl, ?_⟩)⟩
  have l : Le S (put (put S p (.dk [])) p (.dk [((.inr w_go : Key), W.int 1), (.inr w_fork, .int 2), (.inr w_give, .int 3), (.inr w_hand, .int 4)])) := by rw [put_put]; exact Le.put hp
  have e : (valW [((.inr w_go : Key), W.int 1), (.inr w_fork, .int 2), (.inr w_give, .int 3), (.inr w_hand, .int 4)] (.inr (exWord ex))).getD (.int (exLen ex)) = .int (exFirst ex) := by
    cases ex <;> simp [valW, exWord, exLen, exFirst, wd_inj]
  rw [e]
  exact q _ l
theorem exW_head (ex : Ex) : ∃ ws, ex.W = .tup (.str (exWord ex) :: ws) ∧ ws.length + 1 = exLen ex := by cases ex <;> exact ⟨_, rfl, rfl⟩
theorem exW_cut (ex : Ex) : ∃ ws, ex.W = .tup ws ∧ cutW ws (some (exFirst ex : Int)) none = natsW ex.doors ∧ ws.length = exLen ex := by
  cases ex <;> exact ⟨_, rfl, cut_drop, rfl⟩
def sp_law_doors : WSp := fun ws S Q => ∃ r : Rm, ws = [r.W] ∧ ∀ S' p, Le S S' → S p = none → S' p = some (.lst (natsW r.doors)) → Q (.ref p) S'
theorem r_law_doors : ∀ ws S Q, Up Q → sp_law_doors ws S Q → t_law_doors { nx := fun _ S' => Q .non S', rt := Q } (startW 4 ws) S := by
  rintro ws S Q up ⟨⟨lit, ex, ct, sh⟩, rfl, q⟩
  obtain ⟨h1, e1, l1⟩ := exW_head ex
  obtain ⟨h2, e2, c2, l2⟩ := exW_cut ex
  unfold t_law_doors
  generalize hL : l_law_doors_1 = LD
  simp only [Rm.W]
  generalize hT : (wDGet2 (wDisp (((wC (.str w_go)), (wC (.int 1))) :: (((wC (.str w_fork)), (wC (.int 2))) :: (((wC (.str w_give)), (wC (.int 3))) :: (((wC (.str w_hand)), (wC (.int 4))) :: []))))) (wOp rIxW (wVar 1) (wC (.int 0))) (wCall rLenW (wCons (wVar 1) wNil))) = TD
  walk_at "wx"
  rw [← hT]
  refine first_ok (ex := ex) (fun S' Q' q' => ?_) (fun S' Q' q' => ?_) fun S1 le1 => ?_
  · rw [e1]
    walk_at "wx"
    exact q'
  · rw [e2]
    walk_at "wx"
    rw [l2]
    exact q'
  rw [e2]
  walk_at "wx"
  rw [c2]
  intro p hp
  have g2 : put S1 p (.lst (natsW ex.doors)) p = some (.lst (natsW ex.doors)) := put_same
  have le2 := le1.trans (Le.put (o := .lst (natsW ex.doors)) hp)
  have fp : S p = none := le1.free hp
  have el : ex.doors.length ≤ 2 := by cases ex <;> simp [Ex.doors]
  generalize put S1 p (.lst (natsW ex.doors)) = S2 at *
  have last : ∀ (S3 : Sto) (ds : List Nat) x2' w1 w2 w3, ds = ex.doors ++ (ct.map (·.2)).toList → (∀ y o, y ≠ p → S2 y = some o → S3 y = some o) → S3 p = some (.lst (natsW ds)) → LD { nx := fun _ S' => Q .non S', rt := Q } [some (.tup [w1, w2, w3, optN sh]), x2', some (.ref p), none] S3 := fun S3 ds x2' w1 w2 w3 hds F3 h3 => by
    subst hL
    unfold l_law_doors_1
    walk_at "wx"
    intro p4 hp4
    have g4 : put S3 p4 (.lst [optN sh]) p4 = some (.lst [optN sh]) := put_same
    have l4 := Le.put (o := .lst [optN sh]) hp4
    have h34 := l4 _ _ h3
    generalize put S3 p4 (.lst [optN sh]) = S4 at *
    intro p5 hp5
    have l5 := Le.put (o := .lst []) hp5
    have g5 : put S4 p5 (.lst []) p5 = some (.lst []) := put_same
    have h35 := l5 _ _ h34
    have g45 := l5 _ _ g4
    have n5 : p ≠ p5 := ne_none h34 hp5
    have n45 : p4 ≠ p5 := ne_none g4 hp5
    generalize put S4 p5 (.lst []) = S5 at *
    have Fz : ∀ y o, y ≠ p → S2 y = some o → S5 y = some o := fun y o h1 h2 => l5 _ _ (l4 _ _ (F3 _ _ h1 h2))
    have done : ∀ (S6 : Sto), (∀ y o, y ≠ p5 → S5 y = some o → S6 y = some o) → S6 p5 = some (.lst (natsW sh.toList)) → rAddW (.ref p) (.ref p5) S6 Q := fun S6 F6 h6 => by
      have h36 := F6 _ _ n5 h35
      simp only [v_addL, h36, h6, onL_lst]
      refine ⟨Nat.le_of_lt (small_len ?_), fun p7 hp7 => ?_⟩
      · subst hds
        simp only [natsW, List.length_map, List.length_append]
        cases ct <;> cases sh <;> simp <;> omega
      · have L : Le S (put S6 p7 (.lst (natsW ds ++ natsW sh.toList))) := fun y o h => by
          have a1 := le2 _ _ h
          have ny : y ≠ p := ne_none h fp
          have a5 := Fz _ _ ny a1
          have ny5 : y ≠ p5 := fun z => by
            subst z
            have : S4 y = some o := l4 _ _ (F3 _ _ ny a1)
            rw [hp5] at this; cases this
          exact Le.put hp7 _ _ (F6 _ _ ny5 a5)
        have f7 : S p7 = none := by
          cases z : S p7 with
          | none => rfl
          | some o =>
            have a1 := le2 _ _ z
            have ny : p7 ≠ p := ne_none z fp
            have a5 := Fz _ _ ny a1
            have ny5 : p7 ≠ p5 := fun z' => by
              subst z'
              have : S4 p7 = some o := l4 _ _ (F3 _ _ ny a1)
              rw [hp5] at this; cases this
            have := F6 _ _ ny5 a5
            rw [hp7] at this; cases this
        refine q _ p7 L f7 ?_
        rw [put_same]
        subst hds
        simp only [natsW, Rm.doors, List.map_append, List.append_assoc]
    cases sh with
    | none =>
      simp only [optN, Option.map_none, optI]
      simp only [lcW, List.set_cons_succ, List.set_cons_zero]
      refine ⟨so_l g45, ?_⟩
      walk_at "wx"
      exact ⟨so_l g45, Eq.mp v_addL (done S5 (fun y o _ h => h) g5)⟩
    | some j =>
      simp only [optN, Option.map_some, optI]
      simp only [lcW, List.set_cons_succ, List.set_cons_zero]
      refine ⟨so_l g45, ?_⟩
      walk_at "wx"
      refine ⟨_, g5, by decide, ?_⟩
      have z := done (put S5 p5 (.lst ([] ++ [W.int (Int.ofNat j)]))) (fun y o h1 h2 => by rw [put_ne h1]; exact h2) (by rw [put_same]; rfl)
      rw [v_addL] at z
      simp only [put_same, onL_lst] at z
      exact ⟨so_l (by rw [put_ne n45]; exact g45), z⟩
  cases ct with
  | none =>
    simp only [ctW]
    walk_at "wx"
    exact last S2 ex.doors _ _ _ _ (by simp) (fun y o _ h => h) g2
  | some kr =>
    obtain ⟨k, j⟩ := kr
    simp only [ctW]
    walk_at "wx"
    refine ⟨is_lst g2, ?_⟩
    simp only [g2, onL_lst]
    refine ⟨small_len (by simp [natsW]; omega), ?_⟩
    refine last _ (ex.doors ++ [j]) _ _ _ _ (by simp) (fun y o h1 h2 => by rw [put_ne h1]; exact h2) ?_
    rw [put_same, natsW, natsW, List.map_append]
    rfl
end K11
end WL
namespace WL
open PySem L2
namespace K11
def exPut : Ex → List Nat → Ex
  | .go _, l => .go (l.getD 0 0)
  | .fork e _ _, l => .fork e (l.getD 0 0) (l.getD 1 0)
  | .give e k _, l => .give e k (l.getD 0 0)
  | .hand w a k _, l => .hand w a k (l.getD 0 0)
  | x, _ => x
def rmPut (r : Rm) (l : List Nat) : Rm := ⟨r.lit, exPut r.ex l, r.ct.map fun kr => (kr.1, l.getD r.ex.doors.length 0), r.sh.map fun _ => l.getD (r.doors.length - 1) 0⟩
theorem exPut_W (ex : Ex) {l : List Nat} (h : ex.doors.length ≤ l.length) : ∃ ws ws', ex.W = .tup ws ∧ (exPut ex l).W = .tup ws' ∧ cutW ws none (some (exFirst ex : Int)) ++ natsW (l.take ex.doors.length) = ws' ∧ ws.length = exLen ex := by
  cases ex with
  | go r =>
    obtain ⟨a, l', rfl⟩ : ∃ a l', l = a :: l' := by cases l with
      | nil => simp [Ex.doors] at h
      | cons a l' => exact ⟨a, l', rfl⟩
    exact ⟨_, _, rfl, rfl, rfl, rfl⟩
  | fork e a b =>
    obtain ⟨a, b, l', rfl⟩ : ∃ a b l', l = a :: b :: l' := by
      match l, h with
      | a :: b :: l', _ => exact ⟨a, b, l', rfl⟩
      | [_], h => simp [Ex.doors] at h
      | [], h => simp [Ex.doors] at h
    exact ⟨_, _, rfl, rfl, rfl, rfl⟩
  | give e k r =>
    obtain ⟨a, l', rfl⟩ : ∃ a l', l = a :: l' := by cases l with
      | nil => simp [Ex.doors] at h
      | cons a l' => exact ⟨a, l', rfl⟩
    exact ⟨_, _, rfl, rfl, rfl, rfl⟩
  | hand w as k r =>
    obtain ⟨a, l', rfl⟩ : ∃ a l', l = a :: l' := by cases l with
      | nil => simp [Ex.doors] at h
      | cons a l' => exact ⟨a, l', rfl⟩
    exact ⟨_, _, rfl, rfl, rfl, rfl⟩
  | ends e => exact ⟨_, _, rfl, rfl, by simp [Ex.doors, natsW]; rfl, rfl⟩
  | fault e => exact ⟨_, _, rfl, rfl, by simp [Ex.doors, natsW]; rfl, rfl⟩
  | shut => exact ⟨_, _, rfl, rfl, by simp [Ex.doors, natsW]; rfl, rfl⟩
theorem ex_many (ex : Ex) : (exLen ex : Int) - (exFirst ex : Int) = (ex.doors.length : Int) := by cases ex <;> rfl
def sp_law_renamed : WSp := fun ws S Q => ∃ (r : Rm) (na : Addr) (l : List Nat), ws = [r.W, .ref na] ∧ S na = some (.lst (natsW l)) ∧ l.length = r.doors.length ∧ ∀ S', Le S S' → Q (rmPut r l).W S'
theorem r_law_renamed : ∀ ws S Q, Up Q → sp_law_renamed ws S Q → t_law_renamed { nx := fun _ S' => Q .non S', rt := Q } (startW 8 ws) S := by
  rintro ws S Q up ⟨⟨lit, ex, ct, sh⟩, na, l, rfl, hna, hl, q⟩
  simp only [Rm.doors, List.length_append] at hl
  obtain ⟨ws, ws', e1, e2, e3, e4⟩ := exPut_W ex (l := l) (by omega)
  obtain ⟨h1, e5, l5⟩ := exW_head ex
  unfold t_law_renamed
  generalize hL : l_law_renamed_1 = LR
  simp only [Rm.W]
  generalize hT : (wDGet2 (wDisp (((wC (.str w_go)), (wC (.int 1))) :: (((wC (.str w_fork)), (wC (.int 2))) :: (((wC (.str w_give)), (wC (.int 3))) :: (((wC (.str w_hand)), (wC (.int 4))) :: []))))) (wOp rIxW (wVar 3) (wC (.int 0))) (wCall rLenW (wCons (wVar 3) wNil))) = TD
  walk_at "wx"
  rw [← hT]
  refine first_ok (ex := ex) (fun S' Q' q' => ?_) (fun S' Q' q' => ?_) fun S1 le1 => ?_
  · rw [e5]
    walk_at "wx"
    exact q'
  · rw [e1]
    walk_at "wx"
    rw [e4]
    exact q'
  have hna1 := le1 _ _ hna
  rw [e1]
  walk_at "wx"
  rw [e4, ex_many]
  have last : ∀ w1 (ct' : Option (Option Nat × Nat)), ct' = (ct.map fun kr => (kr.1, l.getD ex.doors.length 0)) → LR { nx := fun _ S' => Q .non S', rt := Q } [w1, some (.ref na), some (.tup (lit.map Lit.W)), some (.tup ws), some (ctW ct'), some (optN sh), some (.int (exFirst ex : Int)), some (.int (ex.doors.length : Int))] S1 := fun w1 ct' hct => by
    subst hL
    unfold l_law_renamed_1
    walk_at "wx"
    simp only [sl_l, hna1, onL_lst, cut_take]
    intro p hp
    have l2 := Le.put (o := .lst ((natsW l).take ex.doors.length)) hp
    have g2 : put S1 p (.lst ((natsW l).take ex.doors.length)) p = some (.lst ((natsW l).take ex.doors.length)) := put_same
    have hna2 := l2 _ _ hna1
    generalize put S1 p (.lst ((natsW l).take ex.doors.length)) = S2 at *
    have tk : (natsW l).take ex.doors.length = natsW (l.take ex.doors.length) := by rw [natsW, natsW, List.map_take]
    have e3' : ws.take (exFirst ex) ++ (natsW l).take ex.doors.length = ws' := by rw [← e3, cut_take, tk]
    rw [tk] at g2
    repeat (first | simp only [so_l g2, onQ_some, e3] | walk_at "wx")
    refine ⟨Nat.le_of_lt (small_len ?_), ?_⟩
    · have : ws.length ≤ 5 := by rw [e4]; cases ex <;> simp [exLen]
      have c : (cutW ws none (some (exFirst ex : Int))).length ≤ ws.length := by rw [cut_take, List.length_take]; exact Nat.min_le_right _ _
      have d : ex.doors.length ≤ 2 := by cases ex <;> simp [Ex.doors]
      simp only [natsW, List.length_map, List.length_take]
      omega
    · cases sh with
      | none =>
        simp only [optN, Option.map_none, optI]
        walk_at "wx"
        have z := q S2 (le1.trans l2)
        simp only [Rm.W, rmPut, e2, ← hct, Option.map_none, optN, optI] at z
        rw [e3']
        exact z
      | some j =>
        simp only [Option.toList, List.length_cons, List.length_nil] at hl
        have ln : l ≠ [] := fun z => by rw [z] at hl; simp at hl
        have hx : atI (natsW l) (-1) = some (.int ((l.getD (l.length - 1) 0 : Nat) : Int)) := by
          obtain ⟨us, v, rfl⟩ : ∃ us v, l = us ++ [v] := by
            rcases List.eq_nil_or_concat l with h | ⟨us, v, h⟩
            · exact absurd h ln
            · exact ⟨us, v, by rw [h, List.concat_eq_append]⟩
          rw [natsW, List.map_append, List.map_singleton]
          rw [atI_lst]
          simp
        simp only [optN, Option.map_some, optI]
        repeat (first | simp only [hna2, onL_lst, hx, onS_some] | walk_at "wx")
        have z := q S2 (le1.trans l2)
        have el : (Rm.doors ⟨lit, ex, ct, some j⟩).length = l.length := by simp only [Rm.doors, List.length_append, Option.toList, List.length_cons, List.length_nil]; omega
        simp only [Rm.W, rmPut, e2, ← hct, Option.map_some, optN, optI, el] at z
        rw [e3']
        exact z
  cases ct with
  | none =>
    simp only [ctW]
    walk_at "wx"
    exact last _ none rfl
  | some kr =>
    obtain ⟨k, j⟩ := kr
    simp only [Option.map_some, Option.toList, List.length_cons, List.length_nil] at hl
    have hx : atI (natsW l) (ex.doors.length : Int) = some (.int ((l.getD ex.doors.length 0 : Nat) : Int)) := by
      have lt : ex.doors.length < l.length := by omega
      refine atI_map (f := fun r : Nat => W.int (r : Int)) ?_
      rw [List.getD_eq_getElem?_getD, List.getElem?_eq_getElem lt]
      rfl
    simp only [ctW]
    repeat (first | simp only [hna1, onL_lst, hx, onS_some] | walk_at "wx")
    exact last _ (some (k, l.getD ex.doors.length 0)) rfl
end K11
end WL
namespace WL
open PySem L2
namespace K11
structure Nm (B ds l : List Nat) : Prop where
  len : l.length = ds.length
  at_ : ∀ (i d : Nat), ds[i]? = some d → ∃ d', l[i]? = some d' ∧ B[d']? = some d
theorem Nm.snoc {B ds l : List Nat} (h : Nm B ds l) {d d' : Nat} (e : B[d']? = some d) : Nm B (ds ++ [d]) (l ++ [d']) := by
  refine ⟨by rw [List.length_append, List.length_append, h.len]; rfl, fun i x hx => ?_⟩
  by_cases hi : i < ds.length
  · rw [List.getElem?_append_left hi] at hx
    rw [List.getElem?_append_left (by rw [h.len]; exact hi)]
    exact h.at_ i x hx
  · have il := (List.getElem?_eq_some_iff.mp hx).1
    rw [List.length_append, List.length_singleton] at il
    have : i = ds.length := by omega
    subst this
    rw [List.getElem?_append_right (Nat.le_refl _), Nat.sub_self] at hx
    rw [List.getElem?_append_right (by rw [h.len]; exact Nat.le_refl _), h.len, Nat.sub_self]
    cases hx
    exact ⟨d', rfl, e⟩
structure Grown (rms rms' : List Rm) (B : List Nat) : Prop where
  len : rms'.length = B.length
  id : ∀ i, i < rms.length → B[i]? = some i
  lt : ∀ b ∈ B, b < rms.length
  many : B.length ≤ 4 * rms.length
  rooms : ∀ (j b : Nat) (r : Rm), B[j]? = some b → rms[b]? = some r → ∃ l, rms'[j]? = some (rmPut r l) ∧ Nm B r.doors l
abbrev G1 : WS := l_law_grown_1 sp_law_taken sp_law_doors sp_law_renamed
abbrev G2 : WS := l_law_grown_2 sp_law_taken sp_law_doors sp_law_renamed
abbrev G3 : WS := l_law_grown_3 sp_law_taken sp_law_doors sp_law_renamed
structure BOk (n : Nat) (B : List Nat) : Prop where
  id : ∀ i, i < n → B[i]? = some i
  lt : ∀ b ∈ B, b < n
theorem bases_loop {row ra ba : Addr} {ns : List Int} {S0 : Sto} {rms : List Rm} (n1 : ba ≠ row) (n2 : ra ≠ row) (n3 : ra ≠ ba) (h1 : 1 ≤ rms.length) (h30 : rms.length ≤ 100) {D : WD} {x2 x5 x6 x7 x8 x9 x10 : Option W}
    (q : ∀ S' x4 B, BOk rms.length B → B.length ≤ 4 * rms.length → RowAt S' row ns → Fr2 row ba S0 S' → S' ba = some (.lst (natsW B)) → D.nx [some (.ref row), some (.ref ra), x2, some (.ref ba), x4, x5, x6, x7, x8, x9, x10] S') :
    ∀ (xs : List W) (B : List Nat) (S : Sto) (x4 : Option W), BOk rms.length B → B.length + xs.length ≤ 4 * rms.length → RowAt S row ns → Fr2 row ba S0 S → S ba = some (.lst (natsW B)) → S ra = some (.lst (rms.map Rm.W)) →
    forW (fun _ => True) (gNameW 4) G1 xs D [some (.ref row), some (.ref ra), x2, some (.ref ba), x4, x5, x6, x7, x8, x9, x10] S
  | [], B, S, x4, ok, hl, R, F, hb, hr => by
    simp only [forW]
    exact ⟨trivial, q S _ B ok (by simpa using hl) R F hb⟩
  | x :: xs, B, S, x4, ok, hl, R, F, hb, hr => by
    rw [List.length_cons] at hl
    simp only [forW]
    refine ⟨trivial, ?_⟩
    generalize hR : forW (fun _ => True) (gNameW 4) G1 xs D = L
    have ll : ∀ Q', rLenW [.ref ra] S Q' = Q' (.int (rms.length : Int)) S := fun Q' => by rw [len_l hr, List.length_map]
    unfold G1 l_law_grown_1
    repeat (first | simp only [ll] | walk_at "wx")
    refine ⟨is_lst hb, ?_⟩
    refine taken_ok R (by omega) (by omega) fun v S1 v0 v1 R1 F1 => ?_
    obtain ⟨k, rfl⟩ : ∃ z : Nat, v = (z : Int) := ⟨v.toNat, by omega⟩
    have hb1 := F1.ne hb n1
    have hr1 := F1.ne hr n2
    simp only [x_app, hb1, onL_lst]
    refine ⟨small_len (by simp [natsW]; omega), ?_⟩
    subst hR
    refine bases_loop n1 n2 n3 h1 h30 q xs (B ++ [k]) _ _ ⟨fun i hi => ?_, fun b hb => ?_⟩ (by rw [List.length_append, List.length_singleton]; omega) (R1.off n1) (fun y o a1 a2 a3 => by rw [put_ne a2]; exact F1 _ _ a1 (F _ _ a1 a2 a3)) (by rw [put_same, natsW, natsW, List.map_append]; rfl) (by rw [put_ne n3]; exact hr1)
    · have := ok.id i hi
      rw [List.getElem?_append_left (List.getElem?_eq_some_iff.mp this).1]
      exact this
    · rcases List.mem_append.mp hb with hb | hb
      · exact ok.lt b hb
      · rw [List.mem_singleton.mp hb]; omega
def tkB (t : List Nat) (k : Nat) : Nat := t.getD k 0
theorem tkB_at {t : List Nat} {k : Nat} (h : k < t.length) : t[k]? = some (tkB t k) := by
  unfold tkB
  rw [List.getD_eq_getElem?_getD, List.getElem?_eq_getElem h]
  rfl
theorem doors_loop {row ba na : Addr} {dd' : List Nat} {ns : List Int} {S0 : Sto} {n : Nat} {B : List Nat} (ok : BOk n B) (hB : B.length ≤ 1000) (n1 : na ≠ row) (n2 : ba ≠ row) (n3 : ba ≠ na) {Z : Sto → Prop} (hZ : ∀ S, Fr2 row na S0 S → Z S) {D : WD} {x1 x2 x4 x5 x6 : Option W}
    (q : ∀ S' x8 x9 x10 ds l, ds = dd' → Nm B ds l → RowAt S' row ns → Fr2 row na S0 S' → S' na = some (.lst (natsW l)) → D.nx [some (.ref row), x1, x2, some (.ref ba), x4, x5, x6, some (.ref na), x8, x9, x10] S') :
    ∀ (todo done l : List Nat) (S : Sto) (x8 x9 x10 : Option W), done ++ todo = dd' → (∀ d ∈ todo, d < n) → l.length + todo.length ≤ 1000 → Nm B done l → RowAt S row ns → Fr2 row na S0 S → S na = some (.lst (natsW l)) → S ba = some (.lst (natsW B)) →
    forW Z (gNameW 8) G2 (natsW todo) D [some (.ref row), x1, x2, some (.ref ba), x4, x5, x6, some (.ref na), x8, x9, x10] S
  | [], done, l, S, x8, x9, x10, e, hd, hl, N, R, F, hn, hb => by
    simp only [natsW, List.map_nil, forW]
    exact ⟨hZ _ F, q S _ _ _ done l (by simpa using e) N R F hn⟩
  | d :: todo, done, l, S, x8, x9, x10, e, hd, hl, N, R, F, hn, hb => by
    rw [List.length_cons] at hl
    simp only [natsW, List.map_cons, forW]
    refine ⟨hZ _ F, ?_⟩
    generalize hR : forW Z (gNameW 8) G2 (todo.map fun r : Nat => W.int (r : Int)) D = L
    have ll : ∀ Q', rLenW [.ref ba] S Q' = Q' (.int (B.length : Int)) S := fun Q' => by rw [len_l hb]; simp [natsW]
    unfold G2 l_law_grown_2
    repeat (first | simp only [ll] | walk_at "wx")
    refine ⟨⟨by omega, by omega⟩, fun p hp => ?_⟩
    rw [Int.toNat_natCast]
    have np : ba ≠ p := ne_none hb hp
    refine lc_pureA (F := fun i : Nat => W.int (i : Int)) (G := fun i : Nat => W.int (i : Int)) (b := fun k => decide (((tkB B k : Nat) : Int) = (d : Int))) (fun ws => trivial) (List.range B.length) [] (fun k hk ws Q' q' => ?_) (fun k hk _ ws Q' q' => ?_) (by simp; omega) ?_
    · have kl := List.mem_range.mp hk
      have hx : atI (natsW B) (k : Int) = some (.int ((tkB B k : Nat) : Int)) := atI_map (f := fun r : Nat => W.int (r : Int)) (tkB_at kl)
      have hb' : put S p (.lst ws) ba = some (.lst (natsW B)) := by rw [put_ne np]; exact hb
      simp only [List.set_cons_succ, List.set_cons_zero]
      repeat (first | simp only [hb', onL_lst, hx, onS_some] | walk_at "wx")
      exact q'
    · simp only [List.set_cons_succ, List.set_cons_zero]
      walk_at "wx"
      exact q'
    rw [List.nil_append]
    obtain ⟨T, hT⟩ : ∃ T, T = (List.range B.length).filter fun k => decide (((tkB B k : Nat) : Int) = (d : Int)) := ⟨_, rfl⟩
    have dn := hd d List.mem_cons_self
    have hBd := ok.id d dn
    have dl := (List.getElem?_eq_some_iff.mp hBd).1
    have dT : d ∈ T := by
      rw [hT]
      refine List.mem_filter.mpr ⟨List.mem_range.mpr dl, ?_⟩
      have := tkB_at dl
      rw [hBd] at this
      simp only [Option.some.injEq] at this
      rw [← this]
      exact decide_eq_true rfl
    have Tl : T.length ≤ 1000 := by rw [hT]; exact Nat.le_trans (List.length_filter_le _ _) (by rw [List.length_range]; exact hB)
    have Tp : 0 < T.length := List.length_pos_of_mem dT
    rw [← hT]
    have gp : put S p (.lst (T.map fun i : Nat => W.int (i : Int))) p = some (.lst (T.map fun i : Nat => W.int (i : Int))) := put_same
    have lp := Le.put (o := .lst (T.map fun i : Nat => W.int (i : Int))) hp
    have Rp := R.le lp
    have hnp := lp _ _ hn
    have hbp := lp _ _ hb
    have npr : p ≠ row := Ne.symm (R.ne hp)
    generalize put S p (.lst (T.map fun i : Nat => W.int (i : Int))) = S2 at *
    have lT : ∀ Q', rLenW [.ref p] S2 Q' = Q' (.int (T.length : Int)) S2 := fun Q' => by rw [len_l gp, List.length_map]
    repeat (first | simp only [lT] | walk_at "wx")
    refine ⟨is_lst hnp, ?_⟩
    refine taken_ok Rp (by omega) (by omega) fun v S3 v0 v1 R3 F3 => ?_
    obtain ⟨j, rfl⟩ : ∃ z : Nat, v = (z : Int) := ⟨v.toNat, by omega⟩
    obtain ⟨d', hd'⟩ := get_some (l := T) (n := j) (by omega)
    have hx : atI (T.map fun i : Nat => W.int (i : Int)) (j : Int) = some (.int (d' : Int)) := atI_map (f := fun i : Nat => W.int (i : Int)) hd'
    have gp3 := F3.ne gp npr
    have hn3 := F3.ne hnp n1
    have hb3 := F3.ne hbp n2
    simp only [ix_l, gp3, onL_lst, hx, onS_some, x_app, hn3]
    refine ⟨small_len (by simp [natsW]; omega), ?_⟩
    have dm := List.mem_of_getElem? hd'
    rw [hT] at dm
    obtain ⟨dm1, dm2⟩ := List.mem_filter.mp dm
    have hB' : B[d']? = some d := by
      rw [tkB_at (List.mem_range.mp dm1)]
      have := of_decide_eq_true dm2
      rw [show tkB B d' = d by omega]
    subst hR
    exact doors_loop ok hB n1 n2 n3 hZ q todo (done ++ [d]) (l ++ [d']) _ _ _ _ (by rw [List.append_assoc]; exact e) (fun x hx => hd x (List.mem_cons_of_mem _ hx)) (by rw [List.length_append, List.length_singleton]; omega) (N.snoc hB') (R3.off n1) (fun y o a1 a2 a3 => by rw [put_ne a2]; exact F3 _ _ a1 (lp _ _ (F _ _ a1 a2 a3))) (by rw [put_same, natsW, natsW, List.map_append]; rfl) (by rw [put_ne n3]; exact hb3)
theorem doors_few (r : Rm) : r.doors.length ≤ 4 := by
  have : r.ex.doors.length ≤ 2 := by cases r.ex <;> simp [Ex.doors]
  simp only [Rm.doors, List.length_append]
  cases r.ct <;> cases r.sh <;> simp <;> omega
theorem base_ok {row ra ba fo : Addr} {ns : List Int} {rms : List Rm} {B : List Nat} (ok : BOk rms.length B) (hB : B.length ≤ 900) (nrow : fo ≠ row) (n2 : ba ≠ row) (n3 : ra ≠ row) (nfb : fo ≠ ba) (nfr : fo ≠ ra) {b : Nat} {r : Rm} (hr : rms[b]? = some r) (dl : ∀ d ∈ r.doors, d < rms.length) {done : List Rm} (hl : done.length ≤ 1000) {D : WD} {x2 x4 x7 x8 x9 x10 : Option W} {S : Sto}
    (R : RowAt S row ns) (ha : S ra = some (.lst (rms.map Rm.W))) (hb : S ba = some (.lst (natsW B))) (hf : S fo = some (.lst (done.map Rm.W)))
    (q : ∀ S' x7 x8 x9 x10 l, Nm B r.doors l → RowAt S' row ns → Fr2 row fo S S' → S' fo = some (.lst ((done ++ [rmPut r l]).map Rm.W)) → D.nx [some (.ref row), some (.ref ra), x2, some (.ref ba), x4, some (.ref fo), some (.int (b : Int)), x7, x8, x9, x10] S') :
    G3 D [some (.ref row), some (.ref ra), x2, some (.ref ba), x4, some (.ref fo), some (.int (b : Int)), x7, x8, x9, x10] S := by
  have hx : atI (rms.map Rm.W) (b : Int) = some r.W := atI_map hr
  unfold G3 l_law_grown_3
  generalize hG : l_law_grown_2 sp_law_taken sp_law_doors sp_law_renamed = LG
  walk_at "wx"
  intro na hna
  have l1 := Le.put (o := .lst []) hna
  have gn : put S na (.lst []) na = some (.lst []) := put_same
  have ha1 := l1 _ _ ha
  have hb1 := l1 _ _ hb
  have hf1 := l1 _ _ hf
  have R1 := R.le l1
  have nn : na ≠ row := Ne.symm (R.ne hna)
  have nbn : ba ≠ na := ne_none hb hna
  have nan : ra ≠ na := ne_none ha hna
  have nfn : fo ≠ na := ne_none hf hna
  generalize put S na (.lst []) = S1 at *
  repeat (first | simp only [ha1, onL_lst, hx, onS_some] | walk_at "wx")
  refine ⟨r, rfl, fun S2 dd l2 fd hd => ?_⟩
  have R2 := R1.le l2
  have ndn : dd ≠ na := fun z => by rw [z, gn] at fd; cases fd
  have ndr : dd ≠ row := Ne.symm (R1.ne fd)
  simp only [so_l hd, onQ_some]
  subst hG
  have few := doors_few r
  refine doors_loop (S0 := S2) (dd' := r.doors) ok (by omega) nn n2 nbn (fun S' F' => so_l (F' _ _ ndr ndn hd)) (fun S3 x8 x9 x10 ds l e N R3 F3 h3 => ?_) r.doors [] [] _ _ _ _ (by simp) dl (by simp; omega) ⟨rfl, fun i d h => by simp at h⟩ R2 (fun y o _ _ h => h) (l2 _ _ gn) (l2 _ _ hb1)
  subst e
  have ha3 := F3 _ _ n3 nan (l2 _ _ ha1)
  have hf3 := F3 _ _ nrow nfn (l2 _ _ hf1)
  repeat (first | simp only [ha3, onL_lst, hx, onS_some] | walk_at "wx")
  refine ⟨is_lst hf3, ?_⟩
  refine ⟨r, na, l, rfl, h3, N.len, fun S4 l4 => ?_⟩
  have hf4 := l4 _ _ hf3
  simp only [hf4, onL_lst]
  refine ⟨small_len (by rw [List.length_map]; omega), ?_⟩
  exact q _ _ _ _ _ l N ((R3.le l4).off nrow) (fun y o a1 a2 a3 => by rw [put_ne a2]; exact l4 _ _ (F3 _ _ a1 (ne_none a3 hna) (l2 _ _ (l1 _ _ a3)))) (by rw [put_same, List.map_append]; rfl)
theorem grow_loop {row ra ba fo : Addr} {ns : List Int} {rms : List Rm} {B : List Nat} {S0 : Sto} (ok : BOk rms.length B) (hB : B.length ≤ 900) (nrow : fo ≠ row) (n2 : ba ≠ row) (n3 : ra ≠ row) (nfb : fo ≠ ba) (nfr : fo ≠ ra) (dl : ∀ r ∈ rms, ∀ d ∈ r.doors, d < rms.length) {Z : Sto → Prop} (hZ : ∀ S, Fr2 row fo S0 S → Z S) (ha : S0 ra = some (.lst (rms.map Rm.W))) (hb : S0 ba = some (.lst (natsW B))) {D : WD} {x2 x4 : Option W}
    (q : ∀ S' x6 x7 x8 x9 x10 (rms' : List Rm), rms'.length = B.length → (∀ (j b : Nat) (r : Rm), B[j]? = some b → rms[b]? = some r → ∃ l, rms'[j]? = some (rmPut r l) ∧ Nm B r.doors l) → RowAt S' row ns → Fr2 row fo S0 S' → S' fo = some (.lst (rms'.map Rm.W)) → D.nx [some (.ref row), some (.ref ra), x2, some (.ref ba), x4, some (.ref fo), x6, x7, x8, x9, x10] S') :
    ∀ (todo : List Nat) (done : List Rm) (S : Sto) (x6 x7 x8 x9 x10 : Option W), B.drop done.length = todo → done.length ≤ B.length → (∀ (j b : Nat) (r : Rm), j < done.length → B[j]? = some b → rms[b]? = some r → ∃ l, done[j]? = some (rmPut r l) ∧ Nm B r.doors l) → RowAt S row ns → Fr2 row fo S0 S → S fo = some (.lst (done.map Rm.W)) →
    forW Z (gNameW 6) G3 (natsW todo) D [some (.ref row), some (.ref ra), x2, some (.ref ba), x4, some (.ref fo), x6, x7, x8, x9, x10] S
  | [], done, S, x6, x7, x8, x9, x10, e, hl, hd, R, F, hf => by
    have e2 : done.length = B.length := by
      have := congrArg List.length e
      rw [List.length_drop] at this
      simp at this
      omega
    simp only [natsW, List.map_nil, forW]
    exact ⟨hZ _ F, q S _ _ _ _ _ done e2 (fun j b r h1 h2 => hd j b r (by rw [e2]; exact (List.getElem?_eq_some_iff.mp h1).1) h1 h2) R F hf⟩
  | b :: todo, done, S, x6, x7, x8, x9, x10, e, hl, hd, R, F, hf => by
    have hlt : done.length < B.length := by
      have := congrArg List.length e
      rw [List.length_drop, List.length_cons] at this
      omega
    have hbj : B[done.length]? = some b := by
      have := congrArg (fun l => l[0]?) e
      simpa [List.getElem?_drop] using this
    have e3 : B.drop (done.length + 1) = todo := by
      have := congrArg (List.drop 1) e
      simpa [List.drop_drop] using this
    obtain ⟨r, hr⟩ := get_some (l := rms) (n := b) (ok.lt b (List.mem_of_getElem? hbj))
    simp only [natsW, List.map_cons, forW]
    refine ⟨hZ _ F, ?_⟩
    show G3 _ [some (.ref row), some (.ref ra), x2, some (.ref ba), x4, some (.ref fo), some (.int (b : Int)), x7, x8, x9, x10] S
    refine base_ok ok hB nrow n2 n3 nfb nfr hr (dl r (List.mem_of_getElem? hr)) (by omega) R (F _ _ n3 nfr.symm ha) (F _ _ n2 nfb.symm hb) hf fun S1 x7 x8 x9 x10 l N R1 F1 h1 => ?_
    refine grow_loop ok hB nrow n2 n3 nfb nfr dl hZ ha hb q todo (done ++ [rmPut r l]) S1 _ _ _ _ _ (by rw [List.length_append, List.length_singleton]; exact e3) (by rw [List.length_append, List.length_singleton]; omega) (fun j c s hj hc hs => ?_) R1 (fun y o a1 a2 a3 => F1 _ _ a1 a2 (F _ _ a1 a2 a3)) h1
    rw [List.length_append, List.length_singleton] at hj
    by_cases hjd : j < done.length
    · obtain ⟨l', g1, g2⟩ := hd j c s hjd hc hs
      exact ⟨l', by rw [List.getElem?_append_left hjd]; exact g1, g2⟩
    · have : j = done.length := by omega
      subst this
      rw [hbj] at hc
      cases hc
      rw [hr] at hs
      cases hs
      exact ⟨l, by rw [List.getElem?_append_right (Nat.le_refl _), Nat.sub_self]; rfl, N⟩
def sp_law_grown : WSp := fun ws S Q => ∃ (row ra : Addr) (ns : List Int) (rms : List Rm), ws = [.ref row, .ref ra, .int 3] ∧ RowAt S row ns ∧ S ra = some (.lst (rms.map Rm.W)) ∧ ra ≠ row ∧ 1 ≤ rms.length ∧ rms.length ≤ 100 ∧ (∀ r ∈ rms, ∀ d ∈ r.doors, d < rms.length) ∧
  ∀ (rms' : List Rm) (B : List Nat) S' q, Grown rms rms' B → RowAt S' row ns → Fr row S S' → S q = none → S' q = some (.lst (rms'.map Rm.W)) → Q (.ref q) S'
theorem r_law_grown : ∀ ws S Q, Up Q → sp_law_grown ws S Q → t_law_grown sp_law_taken sp_law_doors sp_law_renamed { nx := fun _ S' => Q .non S', rt := Q } (startW 11 ws) S := by
  rintro ws S Q up ⟨row, ra, ns, rms, rfl, R, ha, nra, h1, h100, dl, q⟩
  unfold t_law_grown
  generalize hG1 : l_law_grown_1 sp_law_taken sp_law_doors sp_law_renamed = LA
  generalize hG3 : l_law_grown_3 sp_law_taken sp_law_doors sp_law_renamed = LC
  have ll : ∀ S', Fr row S S' → ∀ Q', rLenW [.ref ra] S' Q' = Q' (.int (rms.length : Int)) S' := fun S' F' Q' => by rw [len_l (F'.ne ha nra), List.length_map]
  have l0 := ll S (fun y o _ h => h)
  walk_at "wx"
  unfold wLstR
  repeat (first | simp only [l0] | walk_at "wx")
  refine ⟨⟨by omega, by omega⟩, fun ba hba => ?_⟩
  rw [Int.toNat_natCast]
  have l1 := Le.put (o := .lst ((List.range rms.length).map fun i : Nat => W.int (i : Int))) hba
  have gb : put S ba (.lst ((List.range rms.length).map fun i : Nat => W.int (i : Int))) ba = some (.lst (natsW (List.range rms.length))) := put_same
  have nb : ba ≠ row := Ne.symm (R.ne hba)
  have R1 := R.le l1
  have ha1 := l1 _ _ ha
  have nab : ra ≠ ba := ne_none ha hba
  have l1' := ll _ (Fr.le l1)
  generalize put S ba (.lst ((List.range rms.length).map fun i : Nat => W.int (i : Int))) = S1 at *
  repeat (first | simp only [l1'] | walk_at "wx")
  refine ⟨.inl (by decide), ?_⟩
  refine taken_ok R1 (by omega) (by omega) fun v S2 v0 v1 R2 F2 => ?_
  (try walk_at "wx")
  refine ⟨⟨by omega, by omega⟩, ?_⟩
  subst hG1
  refine bases_loop (S0 := S2) nb nra nab h1 h100 (fun S3 x4 B ok hB R3 F3 h3 => ?_) _ (List.range rms.length) S2 _ ⟨fun i hi => by rw [List.getElem?_range hi], fun b hb => List.mem_range.mp hb⟩ (by rw [List.length_range, List.length_map, List.length_range]; omega) R2 (fun y o _ _ h => h) (F2.ne gb nb) (F2.ne ha1 nra)
  have ha3 := F3 _ _ nra nab (F2.ne ha1 nra)
  walk_at "wx"
  intro fo hfo
  have l4 := Le.put (o := .lst []) hfo
  have gf : put S3 fo (.lst []) fo = some (.lst []) := put_same
  have nf : fo ≠ row := Ne.symm (R3.ne hfo)
  have nfb : fo ≠ ba := (ne_none h3 hfo).symm
  have nfa : fo ≠ ra := (ne_none ha3 hfo).symm
  have hb4 := l4 _ _ h3
  have ha4 := l4 _ _ ha3
  have R4 := R3.le l4
  have F04 : Fr row S (put S3 fo (.lst [])) := fun y o a1 a2 => l4 _ _ (F3 _ _ a1 (ne_none a2 hba) (F2 _ _ a1 (l1 _ _ a2)))
  have ff : S fo = none := by
    cases z : S fo with
    | none => rfl
    | some o => have := F3 _ _ nf (ne_none z hba) (F2 _ _ nf (l1 _ _ z)); rw [hfo] at this; cases this
  generalize put S3 fo (.lst []) = S4 at *
  simp only [so_l hb4, onQ_some]
  subst hG3
  refine grow_loop (S0 := S4) ok (by omega) nf nb nra nfb nfa dl (fun S' F' => so_l (F' _ _ nb nfb.symm hb4)) ha4 hb4 (fun S5 x6 x7 x8 x9 x10 rms' e hr R5 F5 h5 => ?_) B [] S4 _ _ _ _ _ rfl (Nat.zero_le _) (fun j b r h => absurd h (Nat.not_lt_zero _)) R4 (fun y o _ _ h => h) gf
  walk_at "wx"
  exact q rms' B S5 fo ⟨e, ok.id, ok.lt, hB, hr⟩ R5 (fun y o a1 a2 => F5 _ _ a1 (ne_none a2 ff) (F04 _ _ a1 a2)) ff h5
end K11
end WL
namespace WL
open PySem L2
namespace K11
def Ex.gm (sh : Shapes) (i m nr : Nat) (p : Nat → Prop) : Ex → Prop
  | .go r => r < nr ∧ p r
  | .fork e a b => (e.ok m ∧ e.deep < 4) ∧ (a < nr ∧ p a) ∧ (b < nr ∧ p b)
  | .give e k r => (e.ok m ∧ e.deep < 4) ∧ (∀ j, k = some j → j < m) ∧ r < nr
  | .hand w args k r => i < w ∧ (∃ s, sh[w]? = some (args.length, s)) ∧ (∀ e ∈ args, e.ok m ∧ e.deep < 4) ∧ (∀ j, k = some j → j < m) ∧ (r < nr ∧ p r)
  | .ends e => e.ok m ∧ e.deep < 4
  | .fault e => e.ok m ∧ e.deep < 4
  | .shut => True
structure Gr (sh : Shapes) (i m nr : Nat) (p : Nat → Prop) (r : Rm) : Prop where
  lits : ∀ l ∈ r.lit, l.ok m
  few : r.lit.length ≤ 2
  ex : Ex.gm sh i m nr p r.ex
  ct : ∀ k j, r.ct = some (k, j) → (j < nr ∧ p j) ∧ ∀ u, k = some u → u < m
  sh : ∀ j, r.sh = some j → j < nr ∧ p j
structure Gm (sh : Shapes) (i : Nat) (mc : Mc) (bs : Nat → Nat) : Prop where
  shape : sh[i]? = some (mc.params, mc.slots)
  l1 : 0 < mc.rooms.length
  l2 : mc.rooms.length ≤ 1000
  rooms : ∀ (j : Nat) (r : Rm), mc.rooms[j]? = some r → bs j < 6 ∧ Gr sh i mc.slots mc.rooms.length (fun d => bs j < bs d) r
theorem typ_doors {sh : Shapes} {i at_ many m : Nat} {r : Rm} (h : RmT sh i at_ many m r) (ha : at_ < many) : ∀ d ∈ r.doors, d < many := by
  intro d hd
  simp only [Rm.doors, List.mem_append] at hd
  rcases hd with hd | hd | hd
  · have e := h.ex
    cases q : r.ex with
    | go x => rw [q] at e hd; simp [Ex.doors] at hd; subst hd; exact e.2
    | fork x a b => rw [q] at e hd; simp [Ex.doors] at hd; rcases hd with rfl | rfl <;> first | exact e.2.1.2 | exact e.2.2.2
    | give x k y => rw [q] at e hd; simp [Ex.doors] at hd; subst hd; exact e.2.2
    | hand w as k y => rw [q] at e hd; simp [Ex.doors] at hd; subst hd; exact e.2.2.2.2.2
    | ends x => rw [q] at hd; simp [Ex.doors] at hd
    | fault x => rw [q] at hd; simp [Ex.doors] at hd
    | shut => rw [q] at hd; simp [Ex.doors] at hd
  · cases q : r.ct with
    | none => rw [q] at hd; simp at hd
    | some kr => obtain ⟨k, j⟩ := kr; rw [q] at hd; simp at hd; subst hd; exact (h.ct k _ q).1.2
  · cases q : r.sh with
    | none => rw [q] at hd; simp at hd
    | some j => rw [q] at hd; simp at hd; subst hd; exact (h.sh _ q).2
theorem last_at (a c : List Nat) (x : Nat) : (a ++ (c ++ [x]))[(a ++ (c ++ [x])).length - 1]? = some x := by
  rw [← List.append_assoc, List.length_append, List.length_singleton, Nat.add_sub_cancel, List.getElem?_append_right (Nat.le_refl _), Nat.sub_self]
  rfl
theorem grown_gm {sh : Shapes} {i : Nat} {mc : Mc} {rms' : List Rm} {B : List Nat} (T : Typd sh i 6 mc) (G : Grown mc.rooms rms' B) : Gm sh i ⟨mc.params, mc.slots, rms'⟩ (tkB B) := by
  have t1 := T.l1
  have t2 := T.l2
  have gl := G.len
  have b0 := (List.getElem?_eq_some_iff.mp (G.id 0 t1)).1
  have gm := G.many
  refine ⟨T.shape, by simp only; omega, by simp only; omega, fun j r' hj => ?_⟩
  have jl : j < B.length := by rw [← gl]; exact (List.getElem?_eq_some_iff.mp hj).1
  have hb := tkB_at jl
  have bl := G.lt _ (List.mem_of_getElem? hb)
  obtain ⟨r, hr⟩ := get_some (l := mc.rooms) (n := tkB B j) bl
  obtain ⟨l, h1, N⟩ := G.rooms j _ r hb hr
  simp only at hj
  rw [hj] at h1
  cases h1
  have R := T.rooms _ r hr
  have door : ∀ (t d : Nat), r.doors[t]? = some d → l.getD t 0 < rms'.length ∧ tkB B (l.getD t 0) = d := fun t d hd => by
    obtain ⟨d', e1, e2⟩ := N.at_ t d hd
    have lt := (List.getElem?_eq_some_iff.mp e2).1
    rw [List.getD_eq_getElem?_getD, e1]
    refine ⟨by show d' < _; omega, ?_⟩
    have := tkB_at lt
    rw [e2] at this
    simp only [Option.some.injEq] at this
    exact this.symm
  refine ⟨by omega, R.lits, R.few, ?_, fun k u hk => ?_, fun u hu => ?_⟩
  · have e := R.ex
    cases q : r.ex with
    | go x =>
      rw [q] at e
      obtain ⟨d1, d2⟩ := door 0 x (by simp [Rm.doors, q, Ex.doors])
      simp only [rmPut, q, exPut]
      exact ⟨d1, by show tkB B j < tkB B _; rw [d2]; exact e.1⟩
    | fork x a b =>
      rw [q] at e
      obtain ⟨d1, d2⟩ := door 0 a (by simp [Rm.doors, q, Ex.doors])
      obtain ⟨d3, d4⟩ := door 1 b (by simp [Rm.doors, q, Ex.doors])
      simp only [rmPut, q, exPut]
      exact ⟨e.1, ⟨d1, by show tkB B j < tkB B _; rw [d2]; exact e.2.1.1⟩, ⟨d3, by show tkB B j < tkB B _; rw [d4]; exact e.2.2.1⟩⟩
    | give x k y =>
      rw [q] at e
      obtain ⟨d1, d2⟩ := door 0 y (by simp [Rm.doors, q, Ex.doors])
      simp only [rmPut, q, exPut]
      exact ⟨e.1, e.2.1, d1⟩
    | hand w as k y =>
      rw [q] at e
      obtain ⟨d1, d2⟩ := door 0 y (by simp [Rm.doors, q, Ex.doors])
      simp only [rmPut, q, exPut]
      exact ⟨e.1, e.2.1, e.2.2.1, e.2.2.2.1, ⟨d1, by show tkB B j < tkB B _; rw [d2]; exact e.2.2.2.2.1⟩⟩
    | ends x => rw [q] at e; simp only [rmPut, q, exPut]; exact e
    | fault x => rw [q] at e; simp only [rmPut, q, exPut]; exact e
    | shut => simp only [rmPut, q, exPut]; trivial
  · cases q : r.ct with
    | none => simp [rmPut, q] at hk
    | some kr =>
      obtain ⟨k0, j0⟩ := kr
      simp only [rmPut, q, Option.map_some, Option.some.injEq, Prod.mk.injEq] at hk
      obtain ⟨rfl, rfl⟩ := hk
      obtain ⟨d1, d2⟩ := door r.ex.doors.length j0 (by simp [Rm.doors, q])
      have c := R.ct _ _ q
      exact ⟨⟨d1, by show tkB B j < tkB B _; rw [d2]; exact c.1.1⟩, c.2⟩
  · cases q : r.sh with
    | none => simp [rmPut, q] at hu
    | some j0 =>
      simp only [rmPut, q, Option.map_some, Option.some.injEq] at hu
      subst hu
      obtain ⟨d1, d2⟩ := door (r.doors.length - 1) j0 (by
        unfold Rm.doors
        rw [q]
        exact last_at _ _ _)
      have c := R.sh _ q
      exact ⟨d1, by show tkB B j < tkB B _; rw [d2]; exact c.1⟩
/-- all machines are typed ones, grown -/
structure AllG (sh : Shapes) (ms : List Mc) : Prop where
  st : ShT sh
  len : ms.length = sh.length
  at_ : ∀ (i : Nat) (mc : Mc), ms[i]? = some mc → ∃ bs, Gm sh i mc bs
section
variable {sh : Shapes} {ms : List Mc}
theorem gr_ok (A : AllG sh ms) {i m nr : Nat} {p : Nat → Prop} {r : Rm} (h : Gr sh i m nr p r) : r.ok ms m nr := by
  refine ⟨h.lits, by have := h.few; omega, ?_, fun k j e => ⟨(h.ct k j e).1.1, (h.ct k j e).2⟩, fun j e => (h.sh j e).1⟩
  have e := h.ex
  cases q : r.ex with
  | go x => rw [q] at e; exact e.1
  | fork x a b => rw [q] at e; exact ⟨e.1, e.2.1.1, e.2.2.1⟩
  | give x k y => rw [q] at e; exact e
  | hand w as k y =>
    rw [q] at e
    obtain ⟨_, ⟨s, hs⟩, e3, e4, e5⟩ := e
    obtain ⟨mc, hmc⟩ := get_some (l := ms) (n := w) (by rw [A.len]; exact (List.getElem?_eq_some_iff.mp hs).1)
    obtain ⟨bs, g⟩ := A.at_ w mc hmc
    have sp := g.shape
    rw [hs] at sp
    simp only [Option.some.injEq, Prod.mk.injEq] at sp
    have := A.st _ (List.mem_of_getElem? hs)
    simp only at this
    exact ⟨⟨mc, hmc, sp.1.symm⟩, by omega, e3, e4, e5.1⟩
  | ends x => rw [q] at e; exact e
  | fault x => rw [q] at e; exact e
  | shut => trivial
theorem all_ok (A : AllG sh ms) : ∀ mc ∈ ms, mc.ok ms := by
  intro mc hmc
  obtain ⟨i, hi⟩ := List.mem_iff_getElem?.mp hmc
  obtain ⟨bs, g⟩ := A.at_ i mc hi
  have s := A.st _ (List.mem_of_getElem? g.shape)
  simp only at s
  have := g.l2
  refine ⟨by omega, by omega, g.l1, by omega, fun r hr => ?_⟩
  obtain ⟨j, hj⟩ := List.mem_iff_getElem?.mp hr
  exact gr_ok A (g.rooms j r hj).2
end
end K11
end WL
namespace WL
open PySem L2
namespace K11
theorem lit_told (l : Lit) (s : RS) : (l.run s).2.2.told = s.2.told ∧ (l.run s).2.2.tw ≤ s.2.tw + 1 := by
  obtain ⟨sl, T⟩ := s
  cases l with
  | set k e =>
    simp only [Lit.run]
    cases reck sl e <;> exact ⟨rfl, Nat.le_succ _⟩
  | say e =>
    simp only [Lit.run]
    cases reck sl e with
    | none => exact ⟨rfl, Nat.le_succ _⟩
    | some v => exact ⟨rfl, by rw [say_tw]; exact Nat.le_refl _⟩
  | count k e =>
    simp only [Lit.run]
    cases reck sl e <;> exact ⟨rfl, Nat.le_succ _⟩
theorem lits_told : ∀ (ls : List Lit) (s : RS), (litsRun ls s).2.2.told = s.2.told ∧ (litsRun ls s).2.2.tw ≤ s.2.tw + ls.length
  | [], s => ⟨rfl, Nat.le_refl _⟩
  | l :: ls, s => by
    obtain ⟨h1, h2⟩ := lit_told l s
    rw [litsRun]
    cases e : l.run s with
    | mk b s' =>
      rw [e] at h1 h2
      cases b with
      | true => exact ⟨h1, by simp only [List.length_cons] at *; omega⟩
      | false =>
        obtain ⟨k1, k2⟩ := lits_told ls s'
        simp only at h1 h2 ⊢
        exact ⟨k1.trans h1, by rw [List.length_cons]; omega⟩
theorem gift_told (T : Tk) (v : Int) : (T.gift v).2.told.length = T.told.length + 1 := by
  unfold Tk.gift
  split <;> simp [Tk.tell]
theorem given_told (T : Tk) (v : Int) (k : Option Nat) (sl : List Int) : (given T v k sl).2.2.told.length = T.told.length + 1 := by
  have g := gift_told T v
  unfold given
  cases e : T.gift v with
  | mk d T' =>
    rw [e] at g
    cases d with
    | none => exact g
    | some d => cases d <;> exact g
/-- what a hand may do -/
structure HEx (ms : List Mc) (H : HR) (i b D : Nat) : Prop where
  ok : HOk ms H
  ex : ∀ (w : Nat) (mc : Mc) (ns : List Int) (T : Tk), i < w → ms[w]? = some mc → ns.length = mc.params → (∀ x ∈ ns, InR x) → (∀ d ∈ T.deeds, d.ok) → T.told.length < T.deeds.length → T.deeds.length = D → ∃ y, H w ns T y ∧ y.2.tw ≤ T.tw + b ∧ T.told.length ≤ y.2.told.length
def Good (bs : Nat → Nat) (a : Nat) (s : RS) (x : Wy × RS) : Prop := s.2.told.length ≤ x.2.2.told.length ∧ ∀ r, x.1 = .go r → (bs a < bs r ∨ s.2.told.length < x.2.2.told.length)
section
variable {sh : Shapes} {ms : List Mc}
theorem ex_ex (A : AllG sh ms) {H : HR} {i b D m nr a : Nat} {bs : Nat → Nat} (hH : HEx ms H i b D) {ex : Ex} (g : Ex.gm sh i m nr (fun d => bs a < bs d) ex) {s : RS} (R : Ready s m) (hD : s.2.deeds.length = D) : ∃ x, exTo H ex s x ∧ x.2.2.tw ≤ s.2.tw + b ∧ Good bs a s x := by
  have same : ∀ {w : Wy}, (∀ r, w = .go r → bs a < bs r) → (w, s).2.2.tw ≤ s.2.tw + b ∧ Good bs a s (w, s) := fun h => ⟨Nat.le_add_right _ _, Nat.le_refl _, fun r e => .inl (h r e)⟩
  cases ex with
  | go r => exact ⟨_, rfl, same fun r' e => by cases e; exact g.2⟩
  | shut => exact ⟨_, rfl, same fun r' e => nomatch e⟩
  | fork e p q =>
    simp only [exTo]
    cases reck s.1 e with
    | none => exact ⟨_, rfl, same fun r' e => nomatch e⟩
    | some v =>
      refine ⟨_, rfl, same fun r' e => ?_⟩
      cases e
      split
      · exact g.2.2.2
      · exact g.2.1.2
  | ends e =>
    simp only [exTo]
    cases reck s.1 e <;> exact ⟨_, rfl, same fun r' e => nomatch e⟩
  | fault e =>
    simp only [exTo]
    cases reck s.1 e <;> exact ⟨_, rfl, same fun r' e => nomatch e⟩
  | give e k r =>
    simp only [exTo]
    cases reck s.1 e with
    | none => exact ⟨_, rfl, same fun r' e => nomatch e⟩
    | some v =>
      have gt := given_told s.2 v k s.1
      have gw := given_tw s.2 v k s.1
      simp only
      cases eg : given s.2 v k s.1 with
      | mk w s' =>
        rw [eg] at gt gw
        simp only at gt gw
        cases w with
        | none => exact ⟨_, rfl, by show s'.2.tw ≤ _; omega, by show s.2.told.length ≤ s'.2.told.length; omega, fun r' e => .inr (by show s.2.told.length < s'.2.told.length; omega)⟩
        | some w => exact ⟨_, rfl, by show s'.2.tw ≤ _; omega, by show s.2.told.length ≤ s'.2.told.length; omega, fun r' e => nomatch e⟩
  | hand w args k r =>
    obtain ⟨h1, ⟨sl, hs⟩, h3, h4, h5⟩ := g
    simp only [exTo]
    cases ea : allReck s.1 args with
    | none => exact ⟨_, rfl, same fun r' e => nomatch e⟩
    | some ns =>
      obtain ⟨mc, hmc⟩ := get_some (l := ms) (n := w) (by rw [A.len]; exact (List.getElem?_eq_some_iff.mp hs).1)
      obtain ⟨bs', g'⟩ := A.at_ w mc hmc
      have sp := g'.shape
      rw [hs] at sp
      simp only [Option.some.injEq, Prod.mk.injEq] at sp
      have nl : ns.length = args.length := by
        have e := congrArg List.length (allReck_some ea).1
        simpa using e.symm
      have nin : ∀ x ∈ ns, InR x := (allReck_some ea).2.2.1 m R.inr R.len.symm fun e he => (h3 e he).1
      obtain ⟨y, y1, y2, y3⟩ := hH.ex w mc ns s.2 h1 hmc (by omega) nin R.dok R.run hD
      refine ⟨_, ⟨y, y1, rfl⟩, ?_⟩
      obtain ⟨yw, yT⟩ := y
      simp only at y2 y3
      cases yw with
      | ends v => exact ⟨y2, y3, fun r' e => by cases e; exact .inl h5.2⟩
      | _ => exact ⟨y2, y3, fun r' e => nomatch e⟩
theorem rm_ex (A : AllG sh ms) {H : HR} {i b D m nr a : Nat} {bs : Nat → Nat} (hH : HEx ms H i b D) {rm : Rm} (g : Gr sh i m nr (fun d => bs a < bs d) rm) {s : RS} (R : Ready s m) (hD : s.2.deeds.length = D) : ∃ x, rmTo H rm s x ∧ x.2.2.tw ≤ s.2.tw + 2 + b ∧ Good bs a s x := by
  have lk := lits_kept rm.lit R g.lits
  obtain ⟨lt, lw⟩ := lits_told rm.lit s
  have few := g.few
  unfold rmTo
  cases e : litsRun rm.lit s with
  | mk f s' =>
    rw [e] at lk lt lw
    simp only at lk lt lw
    cases f with
    | true => exact ⟨_, rfl, by show s'.2.tw ≤ _; omega, by show s.2.told.length ≤ s'.2.told.length; rw [lt]; exact Nat.le_refl _, fun r e => nomatch e⟩
    | false =>
      obtain ⟨x, x1, x2, x3, x4⟩ := ex_ex A hH g.ex (lk.ready R id) (by rw [lk.deeds]; exact hD)
      rw [lt] at x3 x4
      exact ⟨x, x1, by omega, x3, x4⟩
theorem goes_ex (A : AllG sh ms) {H : HR} {i b D : Nat} {bs : Nat → Nat} (hH : HEx ms H i b D) {mc : Mc} (g : Gm sh i mc bs) : ∀ (μ a : Nat) (s : RS), Ready s mc.slots → s.2.deeds.length = D → a < mc.rooms.length → (D - s.2.told.length) * 6 + (6 - bs a) ≤ μ → ∃ y, Goes H mc.rooms a s y ∧ y.2.tw ≤ s.2.tw + μ * (2 + b) ∧ s.2.told.length ≤ y.2.told.length
  | 0, a, s, R, hD, ha, hμ => by
    have := R.run
    omega
  | μ + 1, a, s, R, hD, ha, hμ => by
    obtain ⟨rm, hr⟩ := get_some ha
    obtain ⟨g1, g2⟩ := g.rooms a rm hr
    have ok := gr_ok A g2
    obtain ⟨x, x1, x2, x3, x4⟩ := rm_ex A hH g2 R hD
    obtain ⟨k1, k2⟩ := rm_kept hH.ok R ok x1
    obtain ⟨n1, n2⟩ := next_kept R ok k1 k2
    have run := R.run
    have e1 : (μ + 1) * (2 + b) = μ * (2 + b) + (2 + b) := Nat.succ_mul _ _
    cases en : rm.next x with
    | inr y =>
      have yt : y.2 = x.2.2 := by
        obtain ⟨w, sl, T⟩ := x
        cases w with
        | go r => simp [Rm.next] at en
        | out => simp only [Rm.next, Sum.inr.injEq] at en; rw [← en]
        | way w => cases w with
          | fault n =>
            simp only [Rm.next] at en
            split at en
            · cases en
            · simp only [Sum.inr.injEq] at en; rw [← en]
          | shut =>
            simp only [Rm.next] at en
            split at en
            · cases en
            · simp only [Sum.inr.injEq] at en; rw [← en]
          | _ => simp only [Rm.next, Sum.inr.injEq] at en; rw [← en]
      refine ⟨y, .over hr x1 en, ?_, ?_⟩
      · rw [yt, e1]
        have := Nat.zero_le (μ * (2 + b))
        omega
      · rw [yt]; exact x3
    | inl rs =>
      obtain ⟨r, s'⟩ := rs
      obtain ⟨m1, m2⟩ := n1 r s' en
      have st : s'.2 = x.2.2 ∧ (bs a < bs r ∨ s.2.told.length < x.2.2.told.length) := by
        obtain ⟨w, sl, T⟩ := x
        cases w with
        | go r0 =>
          simp only [Rm.next, Sum.inl.injEq, Prod.mk.injEq] at en
          obtain ⟨rfl, rfl⟩ := en
          exact ⟨rfl, x4 _ rfl⟩
        | out => simp [Rm.next] at en
        | way w => cases w with
          | fault n =>
            simp only [Rm.next] at en
            cases ec : rm.ct with
            | none => rw [ec] at en; cases en
            | some kr =>
              obtain ⟨k, j⟩ := kr
              rw [ec] at en
              simp only [Sum.inl.injEq, Prod.mk.injEq] at en
              obtain ⟨rfl, rfl⟩ := en
              exact ⟨rfl, .inl (g2.ct k _ ec).1.2⟩
          | shut =>
            simp only [Rm.next] at en
            cases ec : rm.sh with
            | none => rw [ec] at en; cases en
            | some j =>
              rw [ec] at en
              simp only [Sum.inl.injEq, Prod.mk.injEq] at en
              obtain ⟨rfl, rfl⟩ := en
              exact ⟨rfl, .inl (g2.sh _ ec).2⟩
          | leave => simp [Rm.next] at en
          | ends v => simp [Rm.next] at en
          | stop => simp [Rm.next] at en
      obtain ⟨st1, st2⟩ := st
      have R' := m2.ready R id
      have D' : s'.2.deeds.length = D := by rw [m2.deeds]; exact hD
      have run' := R'.run
      obtain ⟨rm', hr'⟩ := get_some m1
      have b6 := (g.rooms r rm' hr').1
      rw [← st1] at x2 x3 st2
      obtain ⟨y, y1, y2, y3⟩ := goes_ex A hH g μ r s' R' D' m1 (by omega)
      exact ⟨y, .step hr x1 en y1, by rw [e1]; omega, Nat.le_trans x3 y3⟩
def Bd : Nat → Nat
  | 0 => 0
  | d + 1 => 60 * (2 + Bd d)
theorem thr_ex (A : AllG sh ms) {D : Nat} (hD : D ≤ 9) : ∀ (d w : Nat) (mc : Mc) (ns : List Int) (T : Tk), ms[w]? = some mc → ms.length ≤ w + d → ns.length = mc.params → (∀ x ∈ ns, InR x) → (∀ dd ∈ T.deeds, dd.ok) → T.told.length < T.deeds.length → T.deeds.length = D → ∃ y, Thr ms d w ns T y ∧ y.2.tw ≤ T.tw + Bd d ∧ T.told.length ≤ y.2.told.length
  | 0, w, mc, ns, T, hm, hl, _, _, _, _, _ => by
    have := (List.getElem?_eq_some_iff.mp hm).1
    omega
  | d + 1, w, mc, ns, T, hm, hl, hn, nin, dok, run, eD => by
    obtain ⟨bs, g⟩ := A.at_ w mc hm
    have H : HEx ms (Thr ms d) w (Bd d) D := ⟨Thr.kept (all_ok A) d, fun w' mc' ns' T' h1 h2 h3 h4 h5 h6 h7 => thr_ex A hD d w' mc' ns' T' h2 (by omega) h3 h4 h5 h6 h7⟩
    have R := Mc.ready (all_ok A mc (List.mem_of_getElem? hm)) hn nin dok run
    obtain ⟨y, y1, y2, y3⟩ := goes_ex A H g 60 0 (mc.start ns T) R eD g.l1 (by
      show (D - T.told.length) * 6 + (6 - bs 0) ≤ 60
      omega)
    exact ⟨y, ⟨mc, hm, y1⟩, y2, y3⟩
end
end K11
end WL
namespace WL
open PySem L2
namespace K11
theorem mcs_dat {S : Sto} {mr : Addr} {ms : List Mc} {ras : List Addr} (M : MsAt S mr ms ras) (ok : ∀ m ∈ ms, m.ok ms) : Dat S (.ref mr) (.list (ms.map mcD)) ∧ SeqAt.shaped (.list (ms.map mcD)) = true := by
  have go : ∀ (xs : List Mc) (rs : List Addr), rs.length = xs.length → (∀ m ∈ xs, m.ok ms) → (∀ (i : Nat) (m : Mc) (a : Addr), xs[i]? = some m → rs[i]? = some a → S a = some (.lst (m.rooms.map Rm.W))) → DatL S (msW xs rs) (xs.map mcD) ∧ PyData.canLayAll0 (xs.map mcD) = true ∧ PyData.depthAll (xs.map mcD) ≤ 55 := by
    intro xs
    induction xs with
    | nil => intro rs _ _ _; exact ⟨.nil, rfl, by simp [PyData.depthAll]⟩
    | cons m xs ih =>
      intro rs hl hok hr
      cases rs with
      | nil => simp at hl
      | cons a rs =>
        obtain ⟨i1, i2, i3⟩ := ih rs (by simpa using hl) (fun x hx => hok x (List.mem_cons_of_mem _ hx)) fun i m' a' h1 h2 => hr (i + 1) m' a' (by simpa using h1) (by simpa using h2)
        have o := okWs_of (n := 50) (ws := m.rooms.map Rm.W) fun w hw => by
          obtain ⟨r, hr, rfl⟩ := List.mem_map.mp hw
          exact rm_okW ((hok m List.mem_cons_self).rooms r hr)
        obtain ⟨h1, h2, h3⟩ := okWs_dat (S := S) o
        refine ⟨.cons (.tup (.cons (.int _) (.cons (.int _) (.cons (.lst (hr 0 m a rfl rfl) h1) .nil)))) i1, ?_, ?_⟩
        · rw [List.map_cons, PyData.canLayAll0, i2]
          simp [mcD, PyData.canLay0, PyData.canLayAll0, h2]
        · rw [List.map_cons, PyData.depthAll]
          simp only [mcD, PyData.depth, PyData.depthAll]
          omega
  obtain ⟨g1, g2, g3⟩ := go ms ras M.lens ok M.rms
  refine ⟨.lst M.lst g1, ?_⟩
  unfold SeqAt.shaped
  rw [PyData.canLay0, g2, PyData.depth]
  simp; omega
theorem eq_machs {S : Sto} {Q : WQ} {a b : Addr} {ms : List Mc} {ras ras' : List Addr} (M : MsAt S a ms ras) (M' : MsAt S b ms ras') (ok : ∀ m ∈ ms, m.ok ms) (q : Q (.bl true) S) : rEqW (.ref a) (.ref b) S Q := by
  obtain ⟨d1, s1⟩ := mcs_dat M ok
  obtain ⟨d2, s2⟩ := mcs_dat M' ok
  refine eq_dat d1 d2 s1 s2 rfl ?_
  have e : ∀ xs : List Mc, PyData.eqvAll (xs.map mcD) (xs.map mcD) = true := fun xs => by
    induction xs with
    | nil => rfl
    | cons m xs ih => simp only [List.map_cons, PyData.eqvAll, mcD_refl, ih, Bool.and_self]
  rw [show PyData.eqv (.list (ms.map mcD)) (.list (ms.map mcD)) = true by simp only [PyData.eqv]; exact e ms]
  exact q
def sp_joined : WSp := fun ws S Q => ∃ (mc : Mc) (ms : List Mc) (ra : Addr), ws = [.tup [.int mc.params, .int mc.slots, .ref ra]] ∧ S ra = some (.lst (mc.rooms.map Rm.W)) ∧ mc.ok ms ∧ ∀ S' p, Le S S' → S p = none → S' p = some (.lst ((joinM mc).rooms.map Rm.W)) → Q (.tup [.int mc.params, .int mc.slots, .ref p]) S'
/-- joined: machine params slots rooms -/
def t_joined (sp_tidied : WSp) : WS :=
  (wSeq (wAsg (wVar 0) (gTupW 3 (gConsW (gNameW 1) (gConsW (gNameW 2) (gConsW (gNameW 3) gNilW)))))
  (wRet (wCall sp_tidied (wCons (wVar 1) (wCons (wVar 2) (wCons (wVar 3) (wCons (wC (.int 0)) wNil)))))))
theorem r_joined : ∀ ws S Q, Up Q → sp_joined ws S Q → t_joined sp_tidied { nx := fun _ S' => Q .non S', rt := Q } (startW 4 ws) S := by
  rintro ws S Q up ⟨mc, ms, ra, rfl, h, ok, q⟩
  unfold t_joined
  walk_at "wx"
  refine ⟨mc.params, mc.slots, 0, ra, mc.rooms, rfl, h, join_dl ok, join_nk ok, ok.some_, ok.many, fun S' p l f h => q S' p l f h⟩
abbrev L1 : WS := l_law_1 sp_law_grown sp_law_typed sp_law_copied sp_joined sp_law_taken sp_law_numbers sp_law_deeds (sp_law_alike 20) (sp_law_run 4) (sp_ran 4)
abbrev L2 : WS := l_law_2 sp_law_grown sp_law_typed sp_law_copied sp_joined sp_law_taken sp_law_numbers sp_law_deeds (sp_law_alike 20) (sp_law_run 4) (sp_ran 4)
abbrev L3 : WS := l_law_3 sp_law_grown sp_law_typed sp_law_copied sp_joined sp_law_taken sp_law_numbers sp_law_deeds (sp_law_alike 20) (sp_law_run 4) (sp_ran 4)
theorem grow_all {row ma : Addr} {ns : List Int} {S0 : Sto} {sh : Shapes} (nma : ma ≠ row) {Z : Sto → Prop} (hZ : ∀ S, Fr2 row ma S0 S → Z S) {D : WD} {x0 x6 x7 x8 x9 x10 x11 x12 x13 : Option W} {ms0 : List Mc} {ras0 : List Addr} (M0l : ras0.length = ms0.length) (ty : ∀ (i : Nat) (mc : Mc), ms0[i]? = some mc → Typd sh i 6 mc) (h0 : ∀ (i : Nat) (m : Mc) (a : Addr), ms0[i]? = some m → ras0[i]? = some a → S0 a = some (.lst (m.rooms.map Rm.W)) ∧ a ≠ row ∧ a ≠ ma) (few : ms0.length ≤ 3)
    (q : ∀ S' x3 x4 x5 ms ras, ms.length = ms0.length → (∀ (i : Nat) (mc : Mc), ms[i]? = some mc → ∃ bs, Gm sh i mc bs) → RowAt S' row ns → Fr2 row ma S0 S' → S' ma = some (.lst (msW ms ras)) → Jd S' ma ms ras → (∀ a ∈ ras, a ≠ row) → D.nx [x0, some (.ref row), some (.ref ma), x3, x4, x5, x6, x7, x8, x9, x10, x11, x12, x13] S') :
    ∀ (todo : List Mc) (tr : List Addr) (ms : List Mc) (ras : List Addr) (S : Sto) (x3 x4 x5 : Option W), ms0.drop ms.length = todo → ras0.drop ms.length = tr → ms.length ≤ ms0.length → (∀ (i : Nat) (mc : Mc), ms[i]? = some mc → ∃ bs, Gm sh i mc bs) → RowAt S row ns → Fr2 row ma S0 S → S ma = some (.lst (msW ms ras)) → Jd S ma ms ras → (∀ a ∈ ras, a ≠ row) →
    forW Z (gTupW 3 (gConsW (gNameW 3) (gConsW (gNameW 4) (gConsW (gNameW 5) gNilW)))) L1 (msW todo tr) D [x0, some (.ref row), some (.ref ma), x3, x4, x5, x6, x7, x8, x9, x10, x11, x12, x13] S
  | [], tr, ms, ras, S, x3, x4, x5, e, e', hl, hg, R, F, hm, J, nra => by
    have e2 : ms.length = ms0.length := by
      have := congrArg List.length e
      rw [List.length_drop] at this
      simp at this
      omega
    have ew : msW ([] : List Mc) tr = [] := by cases tr <;> rfl
    rw [ew]
    simp only [forW]
    exact ⟨hZ _ F, q S _ _ _ ms ras e2 hg R F hm J nra⟩
  | m :: todo, tr, ms, ras, S, x3, x4, x5, e, e', hl, hg, R, F, hm, J, nra => by
    have hlt : ms.length < ms0.length := by
      have := congrArg List.length e
      rw [List.length_drop, List.length_cons] at this
      omega
    have hmj : ms0[ms.length]? = some m := by
      have := congrArg (fun l => l[0]?) e
      simpa [List.getElem?_drop] using this
    have e3 : ms0.drop (ms.length + 1) = todo := by
      have := congrArg (List.drop 1) e
      simpa [List.drop_drop] using this
    obtain ⟨a, hra⟩ := get_some (l := ras0) (n := ms.length) (by omega)
    have e4 : tr = a :: ras0.drop (ms.length + 1) := by
      rw [← e', List.drop_eq_getElem_cons (by omega)]
      congr 1
      exact (List.getElem?_eq_some_iff.mp hra).2
    subst e4
    obtain ⟨g1, g2, g3⟩ := h0 _ m a hmj hra
    have T := ty _ m hmj
    have ha := F _ _ g2 g3 g1
    have ew : msW (m :: todo) (a :: ras0.drop (ms.length + 1)) = mW m a :: msW todo (ras0.drop (ms.length + 1)) := rfl
    rw [ew]
    simp only [forW]
    refine ⟨hZ _ F, ?_⟩
    generalize hR : forW Z (gTupW 3 (gConsW (gNameW 3) (gConsW (gNameW 4) (gConsW (gNameW 5) gNilW)))) L1 (msW todo (ras0.drop (ms.length + 1))) D = L
    unfold L1 l_law_1
    walk_at "wx"
    refine ⟨is_lst hm, ?_⟩
    have t1 := T.l1
    have t2 := T.l2
    refine ⟨row, a, ns, m.rooms, rfl, R, ha, g2, t1, by omega, fun r hr d hd => ?_, fun rms' B S1 p G R1 F1 fp hp => ?_⟩
    · obtain ⟨j, hj⟩ := List.mem_iff_getElem?.mp hr
      exact typ_doors (T.rooms j r hj) (List.getElem?_eq_some_iff.mp hj).1 d hd
    have hm1 := F1.ne hm nma
    have npm : p ≠ ma := fun z => by rw [z, hm] at fp; cases fp
    have npr : p ≠ row := Ne.symm (R.ne fp)
    have ml : (msW ms ras).length = ms.length := ms_len J.lens
    simp only [hm1, onL_lst]
    refine ⟨small_len (by omega), ?_⟩
    have e2 : msW ms ras ++ [.tup [.int (m.params : Int), .int (m.slots : Int), .ref p]] = msW (ms ++ [⟨m.params, m.slots, rms'⟩]) (ras ++ [p]) := (msW_snoc J.lens ⟨m.params, m.slots, rms'⟩ p).symm
    rw [e2]
    subst hR
    have J1 : Jd (put S1 ma (.lst (msW (ms ++ [⟨m.params, m.slots, rms'⟩]) (ras ++ [p])))) ma ms ras := ⟨J.lens, fun i mc b h1 h2 => by
      obtain ⟨k1, k2⟩ := J.rms i mc b h1 h2
      exact ⟨by rw [put_ne k2]; exact F1 _ _ (nra b (List.mem_of_getElem? h2)) k1, k2⟩⟩
    refine grow_all nma hZ M0l ty h0 few q todo (ras0.drop (ms.length + 1)) (ms ++ [⟨m.params, m.slots, rms'⟩]) (ras ++ [p]) _ _ _ _ (by rw [List.length_append, List.length_singleton]; exact e3) (by rw [List.length_append, List.length_singleton]) (by rw [List.length_append, List.length_singleton]; omega) (fun i mc hi => ?_) (R1.off nma) (fun y o a1 a2 a3 => by rw [put_ne a2]; exact F1 _ _ a1 (F _ _ a1 a2 a3)) put_same (J1.snoc (by rw [put_ne npm]; exact hp) npm) (fun b hb => ?_)
    · by_cases hi2 : i < ms.length
      · rw [List.getElem?_append_left hi2] at hi
        exact hg i mc hi
      · have il := (List.getElem?_eq_some_iff.mp hi).1
        rw [List.length_append, List.length_singleton] at il
        have : i = ms.length := by omega
        subst this
        rw [List.getElem?_append_right (Nat.le_refl _), Nat.sub_self] at hi
        cases hi
        exact ⟨_, grown_gm T G⟩
    · rcases List.mem_append.mp hb with hb | hb
      · exact nra b hb
      · rw [List.mem_singleton.mp hb]; exact npr
end K11
end WL
namespace WL
open PySem L2
namespace K11
theorem msW_set : ∀ (ms : List Mc) (ras : List Addr) (k : Nat) (m : Mc) (a : Addr), (msW ms ras).set k (mW m a) = msW (ms.set k m) (ras.set k a)
  | [], ras, k, m, a => by simp [msW]
  | _ :: _, [], k, m, a => by simp [msW]
  | x :: ms, b :: ras, 0, m, a => rfl
  | x :: ms, b :: ras, k + 1, m, a => by
    have e := msW_set ms ras k m a
    simp only [msW, List.zipWith_cons_cons, List.set_cons_succ] at e ⊢
    rw [e]
theorem set_cut {α : Type} {l : List α} {k : Nat} (h : k < l.length) (x : α) : l.take k ++ [x] ++ l.drop (k + 1) = l.set k x := by
  rw [List.set_eq_take_append_cons_drop, if_pos h, List.append_assoc]
  rfl
theorem jn_set {ms : List Mc} {k : Nat} {m : Mc} (h : ms[k]? = some m) : Jn ms (ms.set k (joinM m)) := by
  refine ⟨List.length_set, fun i x hx => ?_⟩
  have kl := (List.getElem?_eq_some_iff.mp h).1
  by_cases e : i = k
  · subst e
    rw [h] at hx
    cases hx
    exact .inr (List.getElem?_set_self kl)
  · exact .inl (by rw [List.getElem?_set_ne (fun z => e z.symm)]; exact hx)
theorem ms_set {S : Sto} {a p : Addr} {ms ms2 : List Mc} {ras ras2 : List Addr} {k : Nat} {m : Mc} {b : Addr} (M : MsAt S a ms ras) (hm : ms2[k]? = some m) (hb : ras2[k]? = some b) (h2 : S b = some (.lst (m.rooms.map Rm.W))) (hk : k < ms.length) (hp : S p = some (.lst (msW (ms.set k m) (ras.set k b)))) : MsAt S p (ms.set k m) (ras.set k b) := by
  refine ⟨hp, by rw [List.length_set, List.length_set]; exact M.lens, fun i x c h1 h3 => ?_⟩
  by_cases e : i = k
  · subst e
    rw [List.getElem?_set_self hk] at h1
    rw [List.getElem?_set_self (by rw [M.lens]; exact hk)] at h3
    cases h1
    cases h3
    exact h2
  · rw [List.getElem?_set_ne (fun z => e z.symm)] at h1 h3
    exact M.rms i x c h1 h3
theorem ms_fr {S S' : Sto} {row mr : Addr} {ms : List Mc} {ras : List Addr} (F : Fr row S S') (n : mr ≠ row) (nra : ∀ a ∈ ras, a ≠ row) (h : MsAt S mr ms ras) : MsAt S' mr ms ras :=
  ⟨F.ne h.lst n, h.lens, fun i m a h1 h2 => F.ne (h.rms i m a h1 h2) (nra a (List.mem_of_getElem? h2))⟩
theorem ms_row {S : Sto} {row mr : Addr} {ns : List Int} {ms : List Mc} {ras : List Addr} (R : RowAt S row ns) (M : MsAt S mr ms ras) : ∀ a ∈ ras, a ≠ row := by
  rintro a ha rfl
  obtain ⟨i, hi⟩ := List.mem_iff_getElem?.mp ha
  have hil := (List.getElem?_eq_some_iff.mp hi).1
  rw [M.lens] at hil
  obtain ⟨m, hm⟩ := get_some hil
  have hra := M.rms i m a hm hi
  obtain ⟨i', c, d, e, _⟩ := R
  rw [hra] at e
  cases hmr : m.rooms with
  | nil => rw [hmr] at e; simp at e
  | cons x xs => rw [hmr] at e; simp [Rm.W] at e
structure St (S : Sto) (row ma ha oa : Addr) (ns0 : List Int) (ms ms' : List Mc) (ras rash raso : List Addr) : Prop where
  R : RowAt S row ns0
  M : MsAt S ma ms ras
  H : MsAt S ha ms rash
  O : MsAt S oa ms' raso
structure Ne (row ma ha oa : Addr) (ras rash raso : List Addr) : Prop where
  n1 : ma ≠ row
  n2 : ha ≠ row
  n3 : oa ≠ row
  n4 : ∀ a ∈ ras, a ≠ row
  n5 : ∀ a ∈ rash, a ≠ row
  n6 : ∀ a ∈ raso, a ≠ row
section
variable {S S' : Sto} {row ma ha oa : Addr} {ns0 : List Int} {ms ms' : List Mc} {ras rash raso : List Addr} {sh : Shapes}
theorem St.le (h : St S row ma ha oa ns0 ms ms' ras rash raso) (l : Le S S') : St S' row ma ha oa ns0 ms ms' ras rash raso := ⟨h.R.le l, h.M.keep l, h.H.keep l, h.O.keep l⟩
theorem St.fr (h : St S row ma ha oa ns0 ms ms' ras rash raso) (N : Ne row ma ha oa ras rash raso) (R : RowAt S' row ns0) (F : Fr row S S') : St S' row ma ha oa ns0 ms ms' ras rash raso :=
  ⟨R, ms_fr F N.n1 N.n4 h.M, ms_fr F N.n2 N.n5 h.H, ms_fr F N.n3 N.n6 h.O⟩
theorem ms_ix {a : Addr} (M : MsAt S a ms ras) {k : Nat} {m : Mc} (hm : ms[k]? = some m) : ∃ b, ras[k]? = some b ∧ atI (msW ms ras) (k : Int) = some (mW m b) := by
  obtain ⟨b, hb⟩ := get_some (l := ras) (n := k) (by rw [M.lens]; exact (List.getElem?_eq_some_iff.mp hm).1)
  refine ⟨b, hb, atI_nat ?_⟩
  simp only [msW, List.getElem?_zipWith, hm, hb]
theorem close_deeds (T : Tk) (w : Way) : (T.close w).deeds = T.deeds := by
  unfold Tk.close
  split
  · rfl
  · split <;> rfl
  · rfl
theorem all_ran2 (A : AllG sh ms) (h3 : sh.length ≤ 3) {wi : Nat} {mc : Mc} (hm : ms[wi]? = some mc) {ns : List Int} {ds : List Deed} (hn : ns.length = mc.params) (nin : ∀ x ∈ ns, InR x) (dok : ∀ d ∈ ds, d.ok) (dl : ds.length ≤ 9) : ∃ F : List Told, Ran ms 4 wi ns ds F ∧ Runnable ms wi ns ds ∧ F.length ≤ 1000000 ∧ ∀ w ∈ F.map toldW, Plain 3 w := by
  have R : Runnable ms wi ns ds := ⟨all_ok A, ⟨mc, hm, hn⟩, nin, dok, by omega⟩
  have al := A.len
  have pl : ∀ {F : List Told}, (∀ t ∈ F, t.1.length ≤ 1000000) → ∀ w ∈ F.map toldW, Plain 3 w := fun h w hw => by
    obtain ⟨t, ht, rfl⟩ := List.mem_map.mp hw
    exact told_plain (h t ht)
  have un : ∀ (l : List Deed) (t : Told), t ∈ l.map untouched → t.1.length ≤ 1000000 := fun l t h => by
    obtain ⟨d, _, rfl⟩ := List.mem_map.mp h
    cases d <;> exact Nat.zero_le _
  unfold Ran
  split
  · rename_i i r
    obtain ⟨y, y1, y2, y3⟩ := thr_ex A (D := (Deed.ask i :: r).length) dl 3 wi mc ns ⟨.ask i :: r, [], []⟩ hm (by omega) hn nin dok (by simp) rfl
    have e : Bd 3 = 439320 := by decide
    have t0 : (⟨Deed.ask i :: r, [], []⟩ : Tk).tw = 0 := by simp [Tk.tw]
    obtain ⟨k1, k2, k3, _⟩ := Thr.kept (all_ok A) 3 wi ns ⟨.ask i :: r, [], []⟩ y mc hm hn nin dok (by simp) y1
    have cl := close_len (T := y.2) (w := y.1)
    have cd := close_deeds y.2 y.1
    have ct := close_tw y.2 y.1
    refine ⟨_, ⟨y, Thr.mono 3 4 (by decide) _ _ _ _ y1, by omega, rfl⟩, R, ?_, pl fun t ht => ?_⟩
    · simp only [Tk.all, List.length_append, List.length_map, List.length_drop, cd, k1]
      simp only at k3 dl
      omega
    · unfold Tk.all at ht
      rcases List.mem_append.mp ht with ht | ht
      · have := tw_le ht
        omega
      · exact un _ t ht
  · refine ⟨_, rfl, R, ?_, pl fun t ht => ?_⟩
    · simp [Tk.all]; omega
    · unfold Tk.all at ht
      rcases List.mem_append.mp ht with ht | ht
      · cases ht
      · exact un _ t ht
theorem turn_ok (A : AllG sh ms) (h3 : sh.length ≤ 3) (h1 : 1 ≤ sh.length) (J : Jn ms ms') (N : Ne row ma ha oa ras rash raso) {D : WD} {x0 x3 x4 x5 x8 x9 x10 x11 x12 x13 : Option W}
    (again : ∀ (S : Sto) x11 x12 x13, St S row ma ha oa ns0 ms ms' ras rash raso → D.nx [x0, some (.ref row), some (.ref ma), x3, x4, x5, some (.ref ha), some (.ref oa), x8, x9, x10, x11, x12, x13] S) (h : St S row ma ha oa ns0 ms ms' ras rash raso) :
    L2 D [x0, some (.ref row), some (.ref ma), x3, x4, x5, some (.ref ha), some (.ref oa), x8, x9, x10, x11, x12, x13] S := by
  have al := A.len
  have lst := h.M.lst
  have wl : (msW ms ras).length = ms.length := ms_len h.M.lens
  have ll : ∀ Q', rLenW [.ref ma] S Q' = Q' (.int (ms.length : Int)) S := fun Q' => by rw [len_l lst, wl]
  unfold L2 l_law_2
  repeat (first | simp only [ll] | walk_at "wx")
  refine taken_ok h.R (by omega) (by omega) fun v S1 v0 v1 R1 F1 => ?_
  obtain ⟨k, rfl⟩ : ∃ z : Nat, v = (z : Int) := ⟨v.toNat, by omega⟩
  have h1' := h.fr N R1 F1
  obtain ⟨m, hm⟩ := get_some (l := ms) (n := k) (by omega)
  obtain ⟨b, hb, hx⟩ := ms_ix h1'.M hm
  obtain ⟨bs, g⟩ := A.at_ k m hm
  have sp := A.st _ (List.mem_of_getElem? g.shape)
  simp only at sp
  have lst1 := h1'.M.lst
  repeat (first | simp only [lst1, onL_lst, hx, onS_some] | walk_at "wx")
  refine numbers_ok h1'.R (by omega) (by omega) fun l S2 hl hin R2 F2 => ?_
  have h2 := h1'.fr N R2 F2
  (try walk_at "wx")
  refine ⟨row, ns0, 9, rfl, by decide, R2, fun ds S3 pd dl dok R3 F3 fd hd nd => ?_⟩
  have h3' := h2.fr N R3 F3
  obtain ⟨F, RA, RO, fl, tp⟩ := all_ran2 A h3 hm (ns := l) (ds := ds) (by omega) hin dok dl
  obtain ⟨RA', RO'⟩ := jn_ran J RA RO
  (try walk_at "wx")
  refine ⟨oa, pd, ms', raso, k, l, ds, F, rfl, h3'.O, hd, RO', RA', fun S4 q4 l4 f4 g4 => ?_⟩
  (try walk_at "wx")
  refine ⟨ma, pd, ms, ras, k, l, ds, F, rfl, (h3'.le l4).M, l4 _ _ hd, RO, RA, fun S5 q5 l5 f5 g5 => ?_⟩
  (try walk_at "wx")
  refine ⟨4, by decide, .inr ⟨q4, q5, _, 3, rfl, l5 _ _ g4, g5, by rw [List.length_map]; exact fl, rfl, tp⟩, fun S6 l6 => ?_⟩
  (try walk_at "wx")
  exact again _ _ _ _ (((h3'.le l4).le l5).le l6)
theorem turns (A : AllG sh ms) (h3 : sh.length ≤ 3) (h1 : 1 ≤ sh.length) (J : Jn ms ms') (N : Ne row ma ha oa ras rash raso) {D : WD} {x0 x3 x4 x5 x8 x9 : Option W}
    (again : ∀ (S : Sto) x10 x11 x12 x13, St S row ma ha oa ns0 ms ms' ras rash raso → D.nx [x0, some (.ref row), some (.ref ma), x3, x4, x5, some (.ref ha), some (.ref oa), x8, x9, x10, x11, x12, x13] S) : ∀ (xs : List W) (S : Sto) (x10 x11 x12 x13 : Option W), St S row ma ha oa ns0 ms ms' ras rash raso →
    forW (fun _ => True) (gNameW 10) L2 xs D [x0, some (.ref row), some (.ref ma), x3, x4, x5, some (.ref ha), some (.ref oa), x8, x9, x10, x11, x12, x13] S
  | [], S, x10, x11, x12, x13, h => by simp only [forW]; exact ⟨trivial, again S _ _ _ _ h⟩
  | x :: xs, S, x10, x11, x12, x13, h => by
    simp only [forW]
    exact ⟨trivial, turn_ok A h3 h1 J N (fun S' x11 x12 x13 h' => turns A h3 h1 J N again xs S' _ x11 x12 x13 h') h⟩
theorem end_ok (A : AllG sh ms) (h3 : sh.length ≤ 3) (h1 : 1 ≤ sh.length) (J : Jn ms ms') (N : Ne row ma ha oa ras rash raso) {Q : WQ} (q : ∀ S', Q (.bl true) S') {x0 x3 x4 x5 x8 x9 x10 x11 x12 x13 : Option W} {nx : Rho → Sto → Prop} {bk ct : Rho → Sto → Prop} (h : St S row ma ha oa ns0 ms ms' ras rash raso) :
    L3 { nx := nx, rt := Q, bk := bk, ct := ct } [x0, some (.ref row), some (.ref ma), x3, x4, x5, some (.ref ha), some (.ref oa), x8, x9, x10, x11, x12, x13] S := by
  unfold L3 l_law_3
  generalize hL : l_law_2 sp_law_grown sp_law_typed sp_law_copied sp_joined sp_law_taken sp_law_numbers sp_law_deeds (sp_law_alike 20) (sp_law_run 4) (sp_ran 4) = LB
  walk_at "wx"
  refine ⟨⟨by decide, by decide⟩, ?_⟩
  subst hL
  refine turns A h3 h1 J N (fun S' x10 x11 x12 x13 h' => ?_) _ S _ _ _ _ h
  walk_at "wx"
  exact eq_machs h'.H h'.M (all_ok A) (q S')
end
def sp_law : WSp := fun ws S Q => ∃ ns : List Int, ws = [.rl (ns.map .int)] ∧ ∀ S', Q (.bl true) S'
theorem r_law : ∀ ws S Q, Up Q → sp_law ws S Q → t_law sp_law_grown sp_law_typed sp_law_copied sp_joined sp_law_taken sp_law_numbers sp_law_deeds (sp_law_alike 20) (sp_law_run 4) (sp_ran 4) { nx := fun _ S' => Q .non S', rt := Q } (startW 14 ws) S := by
  rintro ws S Q up ⟨ns0, rfl, q⟩
  unfold t_law
  generalize hL1 : l_law_1 sp_law_grown sp_law_typed sp_law_copied sp_joined sp_law_taken sp_law_numbers sp_law_deeds (sp_law_alike 20) (sp_law_run 4) (sp_ran 4) = LA
  generalize hL3 : l_law_3 sp_law_grown sp_law_typed sp_law_copied sp_joined sp_law_taken sp_law_numbers sp_law_deeds (sp_law_alike 20) (sp_law_run 4) (sp_ran 4) = LC
  walk_at "wx"
  intro row hr
  have R0 : RowAt (put S row (.lst [.rl (ns0.map .int), .int 0, .int 0, .int 0])) row ns0 := ⟨0, 0, 0, put_same, by decide, by decide, by decide⟩
  generalize put S row (.lst [.rl (ns0.map .int), .int 0, .int 0, .int 0]) = S0 at *
  intro ma hma
  have nma : ma ≠ row := Ne.symm (R0.ne hma)
  have R1 := R0.le (Le.put (o := .lst []) hma)
  have hm1 : put S0 ma (.lst []) ma = some (.lst []) := put_same
  generalize put S0 ma (.lst []) = S1 at *
  refine ⟨row, ns0, 6, rfl, R1, by decide, by decide, fun sh ms0 ras0 S2 q0 ST s1 s3 ml ty R2 F2 fq M2 => ?_⟩
  have hm2 := F2.ne hm1 nma
  have lst2 := M2.lst
  have nq0 : q0 ≠ row := Ne.symm (R1.ne fq)
  have nqm : q0 ≠ ma := fun z => by rw [z, hm1] at fq; cases fq
  have nra := ms_row R2 M2
  have nrm : ∀ a ∈ ras0, a ≠ ma := by
    rintro a ha rfl
    obtain ⟨i, hi⟩ := List.mem_iff_getElem?.mp ha
    have hil := (List.getElem?_eq_some_iff.mp hi).1
    rw [M2.lens] at hil
    obtain ⟨m, hm⟩ := get_some hil
    have h := M2.rms i m a hm hi
    rw [hm2] at h
    have t1 := (ty i m hm).l1
    cases hmr : m.rooms with
    | nil => rw [hmr] at t1; simp at t1
    | cons x xs => rw [hmr] at h; simp at h
  simp only [so_l lst2, onQ_some]
  subst hL1
  refine grow_all (S0 := S2) (ns := ns0) (sh := sh) nma (fun S' F' => so_l (F' _ _ nq0 nqm lst2)) M2.lens ty (fun i m a h1 h2 => ⟨M2.rms i m a h1 h2, nra a (List.mem_of_getElem? h2), nrm a (List.mem_of_getElem? h2)⟩) (by omega) (fun S3 x3 x4 x5 ms ras el hg R3 F3 h3 J3 nr3 => ?_) ms0 ras0 [] [] S2 _ _ _ rfl rfl (Nat.zero_le _) (fun i mc h => by simp at h) R2 (fun y o _ _ h => h) hm2 ⟨rfl, fun i m a h => by simp at h⟩ (fun a h => absurd h List.not_mem_nil)
  have A : AllG sh ms := ⟨ST, by omega, hg⟩
  have M3 := J3.ms h3
  have aok := all_ok A
  (try walk_at "wx")
  refine ⟨ma, ms, ras, rfl, M3, by omega, fun m hm => (aok m hm).many, fun S4 ha rash l4 fh H4 nh => ?_⟩
  have M4 := M3.keep l4
  have R4 := R3.le l4
  have nha : ha ≠ row := Ne.symm (R3.ne fh)
  have lst4 := H4.lst
  repeat (first | simp only [so_l lst4, onQ_some] | walk_at "wx")
  intro oa hoa
  have l5 := Le.put (o := .lst []) hoa
  have noa : oa ≠ row := Ne.symm (R4.ne hoa)
  refine ms_lc (S0 := put S4 oa (.lst [])) (f := joinM) (ok := fun m => m.ok ms) (fun S' F' => so_l (F' _ _ (ne_none lst4 hoa) (l5 _ _ lst4))) (fun m a S Q' hm h q' => ?_) ms rash [] [] _ H4.lens aok (fun i m a h1 h2 => ⟨l5 _ _ (H4.rms i m a h1 h2), ne_none (H4.rms i m a h1 h2) hoa⟩) (by simp; omega) (fun y o _ h => h) put_same ⟨rfl, fun i m a h => by simp at h⟩ fun S6 raso F6 O6 hx => ?_
  · simp only [List.set_cons_succ, List.set_cons_zero]
    walk_at "wx"
    exact ⟨m, ms, a, rfl, h, hm, fun S' p l' f' h' => q' S' p l' f' h'⟩
  rw [List.nil_append] at O6
  have l46 : Le S4 S6 := fun y o h => F6 _ _ (ne_none h hoa) (l5 _ _ h)
  have R6 := R4.le l46
  have M6 := M4.keep l46
  have H6 := H4.keep l46
  have wl : (msW ms ras).length = ms.length := ms_len M6.lens
  have lst6 := M6.lst
  have ll : ∀ S', S' ma = some (.lst (msW ms ras)) → ∀ Q', rLenW [.ref ma] S' Q' = Q' (.int (ms.length : Int)) S' := fun S' h Q' => by rw [len_l h, wl]
  have ll6 := ll S6 lst6
  repeat (first | simp only [ll6] | walk_at "wx")
  refine ⟨.inl (by decide), ?_⟩
  have al := A.len
  refine taken_ok R6 (by omega) (by omega) fun v S7 v0 v1 R7 F7 => ?_
  obtain ⟨k, rfl⟩ : ∃ z : Nat, v = (z : Int) := ⟨v.toNat, by omega⟩
  have N : Ne row ma ha oa ras rash raso := ⟨nma, nha, noa, nr3, ms_row R4 H4, ms_row R6 O6⟩
  have h6 : St S6 row ma ha oa ns0 ms (ms.map joinM) ras rash raso := ⟨R6, M6, H6, O6⟩
  have h7 := h6.fr N R7 F7
  have ll7 := ll S7 h7.M.lst
  repeat (first | simp only [ll7] | walk_at "wx")
  subst hL3
  by_cases hk : (k : Int) < (ms.length : Int)
  · rw [if_pos (decide_eq_true hk)]
    have kl : k < ms.length := by omega
    obtain ⟨m, hm⟩ := get_some kl
    have hjm : (ms.map joinM)[k]? = some (joinM m) := by rw [List.getElem?_map, hm]; rfl
    obtain ⟨b, hb, hx⟩ := ms_ix h7.O hjm
    have hH := h7.H.lst
    have hO := h7.O.lst
    have wh : (msW ms rash).length = ms.length := ms_len h7.H.lens
    simp only [hH, onL_lst, cut_take]
    intro p1 hp1
    have l8 := Le.put (o := .lst ((msW ms rash).take k)) hp1
    have g8 : put S7 p1 (.lst ((msW ms rash).take k)) p1 = some (.lst ((msW ms rash).take k)) := put_same
    have hO8 := l8 _ _ hO
    have hH8 := l8 _ _ hH
    have l78 := l8
    generalize put S7 p1 (.lst ((msW ms rash).take k)) = S8 at *
    simp only [hO8, onL_lst, hx, onS_some]
    intro p2 hp2
    have l9 := Le.put (o := .lst [mW (joinM m) b]) hp2
    have g89 := l9 _ _ g8
    have hH9 := l9 _ _ hH8
    have l79 := l78.trans l9
    generalize put S8 p2 (.lst [mW (joinM m) b]) = S9 at *
    simp only [g89, onL_lst]
    have cl : ((msW ms rash).take k).length ≤ 3 := by rw [List.length_take]; omega
    refine ⟨Nat.le_of_lt (small_len (by omega)), fun p3 hp3 => ?_⟩
    have l10 := Le.put (o := .lst ((msW ms rash).take k ++ [mW (joinM m) b])) hp3
    have g10 : put S9 p3 (.lst ((msW ms rash).take k ++ [mW (joinM m) b])) p3 = some (.lst ((msW ms rash).take k ++ [mW (joinM m) b])) := put_same
    have hH10 := l10 _ _ hH9
    have l710 := l79.trans l10
    generalize put S9 p3 (.lst ((msW ms rash).take k ++ [mW (joinM m) b])) = S10 at *
    simp only [hH10, onL_lst]
    have ck : cutW (msW ms rash) (some ((k : Int) + 1)) none = (msW ms rash).drop (k + 1) := by
      rw [show (k : Int) + 1 = ((k + 1 : Nat) : Int) by omega]; exact cut_drop
    rw [ck]
    intro p4 hp4
    have l11 := Le.put (o := .lst ((msW ms rash).drop (k + 1))) hp4
    have g11 := l11 _ _ g10
    have l711 := l710.trans l11
    generalize put S10 p4 (.lst ((msW ms rash).drop (k + 1))) = S11 at *
    simp only [g11, onL_lst]
    have dl : ((msW ms rash).drop (k + 1)).length ≤ 3 := by rw [List.length_drop]; omega
    refine ⟨Nat.le_of_lt (small_len (by rw [List.length_append, List.length_singleton]; omega)), fun p5 hp5 => ?_⟩
    rw [set_cut (by omega), msW_set]
    have l12 := Le.put (o := .lst (msW (ms.set k (joinM m)) (rash.set k b))) hp5
    have g12 : put S11 p5 (.lst (msW (ms.set k (joinM m)) (rash.set k b))) p5 = some (.lst (msW (ms.set k (joinM m)) (rash.set k b))) := put_same
    have l712 := l711.trans l12
    have n5 : p5 ≠ row := Ne.symm ((h7.R.le l711).ne hp5)
    generalize put S11 p5 (.lst (msW (ms.set k (joinM m)) (rash.set k b))) = S12 at *
    have h12 := h7.le l712
    have O12 := ms_set h12.H hjm hb (h12.O.rms k _ b hjm hb) kl g12
    have N12 : Ne row ma ha p5 ras rash (rash.set k b) := ⟨nma, nha, n5, nr3, N.n5, ms_row h12.R O12⟩
    exact end_ok A s3 s1 (jn_set hm) N12 q ⟨h12.R, h12.M, h12.H, O12⟩
  · rw [if_neg (by simpa using hk)]
    exact end_ok A s3 s1 (jn_all ms) N q h7
theorem le_law : ∀ ws S Q, sp_law ws S Q → ws.length = 1 := fun ws S Q ⟨a, b, _⟩ => by rw [b]; rfl
end K11
end WL
namespace WL
open PySem L2
/-! ### kindsF is the coarsest split -/
def all2 (R : Nat → Nat → Prop) : List Nat → List Nat → Prop
  | [], [] => True
  | a :: l, b :: m => R a b ∧ all2 R l m
  | _, _ => False
theorem all2_mono {R R' : Nat → Nat → Prop} : ∀ {l m : List Nat}, (∀ a ∈ l, ∀ b ∈ m, R a b → R' a b) → all2 R l m → all2 R' l m
  | [], [], _, _ => trivial
  | [], _ :: _, _, h => h
  | _ :: _, [], _, h => h
  | a :: l, b :: m, f, h => ⟨f a List.mem_cons_self b List.mem_cons_self h.1, all2_mono (fun x hx y hy => f x (List.mem_cons_of_mem _ hx) y (List.mem_cons_of_mem _ hy)) h.2⟩
theorem all2_symm {R : Nat → Nat → Prop} (h : ∀ a b, R a b → R b a) : ∀ {l m : List Nat}, all2 R l m → all2 R m l
  | [], [], _ => trivial
  | [], _ :: _, h' => h'
  | _ :: _, [], h' => h'
  | a :: l, b :: m, h' => ⟨h _ _ h'.1, all2_symm h h'.2⟩
theorem all2_trans {R : Nat → Nat → Prop} (h : ∀ a b c, R a b → R b c → R a c) : ∀ {l m k : List Nat}, all2 R l m → all2 R m k → all2 R l k
  | [], [], k, _, h2 => h2
  | [], _ :: _, k, h1, _ => h1.elim
  | _ :: _, [], k, h1, _ => h1.elim
  | a :: l, b :: m, [], _, h2 => h2
  | a :: l, b :: m, c :: k, h1, h2 => ⟨h _ _ _ h1.1 h2.1, all2_trans h h1.2 h2.2⟩
theorem all2_map {f : Nat → Nat} : ∀ {l m : List Nat}, l.map f = m.map f ↔ all2 (fun a b => f a = f b) l m
  | [], [] => ⟨fun _ => trivial, fun _ => rfl⟩
  | [], _ :: _ => ⟨fun h => by simp at h, fun h => h.elim⟩
  | _ :: _, [] => ⟨fun h => by simp at h, fun h => h.elim⟩
  | a :: l, b :: m => by
    simp only [List.map_cons, List.cons.injEq, all2]
    rw [all2_map]
theorem all2_maps {R : Nat → Nat → Prop} {f g : Nat → Nat} : ∀ {l m : List Nat}, all2 R (l.map f) (m.map g) ↔ all2 (fun a b => R (f a) (g b)) l m
  | [], [] => Iff.rfl
  | [], _ :: _ => Iff.rfl
  | _ :: _, [] => Iff.rfl
  | a :: l, b :: m => by simp only [List.map_cons, all2]; rw [all2_maps]
def simN (rms : List Rm) : Nat → Nat → Nat → Prop
  | 0, i, j => (rmAt rms i).ren (fun _ => 0) = (rmAt rms j).ren (fun _ => 0)
  | t + 1, i, j => simN rms t i j ∧ all2 (simN rms t) (rmAt rms i).doors (rmAt rms j).doors
variable {rms : List Rm}
theorem simN_symm : ∀ (t i j : Nat), simN rms t i j → simN rms t j i
  | 0, i, j, h => Eq.symm h
  | t + 1, i, j, h => ⟨simN_symm t i j h.1, all2_symm (simN_symm t) h.2⟩
theorem simN_trans : ∀ (t i j k : Nat), simN rms t i j → simN rms t j k → simN rms t i k
  | 0, i, j, k, h, h' => Eq.trans h h'
  | t + 1, i, j, k, h, h' => ⟨simN_trans t i j k h.1 h'.1, all2_trans (simN_trans t) h.2 h'.2⟩
theorem simN_down : ∀ {t s : Nat}, s ≤ t → ∀ {i j : Nat}, simN rms t i j → simN rms s i j
  | 0, s, h, i, j, z => by rw [Nat.le_zero.mp h]; exact z
  | t + 1, s, h, i, j, z => by
    by_cases e : s = t + 1
    · subst e; exact z
    · exact simN_down (by omega) z.1
/-- the kinds behind so many turns -/
def stg (rms : List Rm) : Nat → List Nat
  | 0 => rks (rms.map key0)
  | t + 1 => rks (keysN rms (stg rms t))
def cntG (rms : List Rm) : Nat → Nat
  | 0 => (dd [] (rms.map key0)).length
  | t + 1 => (dd [] (keysN rms (stg rms t))).length
def mnyG (rms : List Rm) : Nat → Nat
  | 0 => 0
  | t + 1 => cntG rms t
theorem stg_len : ∀ t, (stg rms t).length = rms.length
  | 0 => by rw [stg, rks_len, List.length_map]
  | t + 1 => by rw [stg, rks_len, keysN_len (stg_len t)]
theorem cntG_le : ∀ t, cntG rms t ≤ rms.length
  | 0 => by rw [cntG]; simpa using dd_len (rms.map key0) []
  | t + 1 => by rw [cntG, ← keysN_len (stg_len (rms := rms) t)]; simpa using dd_len (keysN rms (stg rms t)) []
theorem mnyG_le : ∀ t, mnyG rms t ≤ rms.length
  | 0 => Nat.zero_le _
  | t + 1 => cntG_le t
theorem stg_inv (dl : ∀ r ∈ rms, ∀ d ∈ r.doors, d < rms.length) : ∀ t, KInv rms (mnyG rms t) (cntG rms t) (stg rms t)
  | 0 => kInv0 rms
  | t + 1 => (stg_inv dl t).step dl
theorem kLoop_stg (dl : ∀ r ∈ rms, ∀ d ∈ r.doors, d < rms.length) : ∀ (f t : Nat), t ≤ mnyG rms t → rms.length + 1 ≤ f + mnyG rms t → ∃ t', t' ≤ rms.length ∧ kLoop rms f (mnyG rms t) (cntG rms t) (stg rms t) = stg rms t' ∧ ¬mnyG rms t' < cntG rms t'
  | 0, t, h, hf => by have := mnyG_le (rms := rms) t; omega
  | f + 1, t, h, hf => by
    rw [kLoop]
    split
    · rename_i lt
      exact kLoop_stg dl f (t + 1) (by simp only [mnyG]; omega) (by simp only [mnyG]; omega)
    · rename_i lt
      exact ⟨t, Nat.le_trans h (mnyG_le t), rfl, lt⟩
theorem kindsF_stg (dl : ∀ r ∈ rms, ∀ d ∈ r.doors, d < rms.length) : ∃ t, t ≤ rms.length ∧ kindsF rms = stg rms t ∧ ¬mnyG rms t < cntG rms t :=
  kLoop_stg dl (rms.length + 1) 0 (Nat.zero_le _) (by omega)
theorem keyN_eq {kinds : List Nat} {r r' : Rm} {k k' : Nat} (h : k = k') (e : r.doors.map (fun d => kinds.getD d 0) = r'.doors.map (fun d => kinds.getD d 0)) : keyN kinds r k = keyN kinds r' k' := by
  subst h
  have aux : ∀ (a b : List Nat), a.map (fun d => kinds.getD d 0) = b.map (fun d => kinds.getD d 0) → (a.map fun d => PySem.NestedKey.num ((kinds.getD d 0 : Nat) : Int)) = (b.map fun d => PySem.NestedKey.num ((kinds.getD d 0 : Nat) : Int)) := by
    intro a b e
    have := congrArg (List.map fun n : Nat => PySem.NestedKey.num (n : Int)) e
    simpa [List.map_map, Function.comp_def] using this
  unfold keyN
  rw [aux _ _ e]
theorem getD_eq {l : List Nat} {i j : Nat} (hi : i < l.length) (hj : j < l.length) : l.getD i 0 = l.getD j 0 ↔ l[i]? = l[j]? := by
  simp [List.getD_eq_getElem?_getD, List.getElem?_eq_getElem hi, List.getElem?_eq_getElem hj]
theorem rm_get {i : Nat} (h : i < rms.length) : rms[i]? = some (rmAt rms i) := by
  obtain ⟨r, e⟩ := get_of_lt h
  rw [e, rmAt_of e]
theorem rm_mem {i : Nat} (h : i < rms.length) : rmAt rms i ∈ rms := List.mem_of_getElem? (rm_get h)
theorem key0_eq {a b : Rm} (ha : Nk 7 (a.ren fun _ => 0).W) (hb : Nk 7 (b.ren fun _ => 0).W) : key0 a = key0 b ↔ (a.ren fun _ => 0) = (b.ren fun _ => 0) := by
  obtain ⟨k, ek, _⟩ := ha
  obtain ⟨k', ek', _⟩ := hb
  constructor
  · intro z
    simp only [key0, ek, ek', Option.getD_some] at z
    subst z
    exact Rm.inj (nkW_inj ek ek')
  · intro z
    simp only [key0, z]
theorem stg_sim (dl : ∀ r ∈ rms, ∀ d ∈ r.doors, d < rms.length) (nk : ∀ r ∈ rms, Nk 7 (r.ren fun _ => 0).W) : ∀ (t i j : Nat), i < rms.length → j < rms.length → ((stg rms t)[i]? = (stg rms t)[j]? ↔ simN rms t i j)
  | 0, i, j, hi, hj => by
    have h1 := rm_get hi
    have h2 := rm_get hj
    have e1 : (rms.map key0)[i]? = some (key0 (rmAt rms i)) := by rw [List.getElem?_map, h1]; rfl
    have e2 : (rms.map key0)[j]? = some (key0 (rmAt rms j)) := by rw [List.getElem?_map, h2]; rfl
    rw [stg, rks_inj e1 e2, key0_eq (nk _ (rm_mem hi)) (nk _ (rm_mem hj))]
    rfl
  | t + 1, i, j, hi, hj => by
    have sl := stg_len (rms := rms) t
    obtain ⟨k, hk⟩ := get_of_lt (l := stg rms t) (by rw [sl]; exact hi)
    obtain ⟨k', hk'⟩ := get_of_lt (l := stg rms t) (by rw [sl]; exact hj)
    have ih := stg_sim dl nk t i j hi hj
    rw [stg, rks_inj (keysN_at (rm_get hi) hk) (keysN_at (rm_get hj) hk'), simN, ← ih, hk, hk', Option.some.injEq]
    have di := dl _ (rm_mem hi)
    have dj := dl _ (rm_mem hj)
    have aux : ∀ l m : List Nat, (∀ d ∈ l, d < rms.length) → (∀ d ∈ m, d < rms.length) → (l.map (fun d => (stg rms t).getD d 0) = m.map (fun d => (stg rms t).getD d 0) ↔ all2 (simN rms t) l m) := fun l m hl hm => by
      rw [all2_map]
      constructor
      · exact all2_mono fun a ha b hb e => (stg_sim dl nk t a b (hl a ha) (hm b hb)).mp ((getD_eq (by rw [sl]; exact hl a ha) (by rw [sl]; exact hm b hb)).mp e)
      · exact all2_mono fun a ha b hb e => (getD_eq (by rw [sl]; exact hl a ha) (by rw [sl]; exact hm b hb)).mpr ((stg_sim dl nk t a b (hl a ha) (hm b hb)).mpr e)
    rw [← aux _ _ di dj]
    constructor
    · intro z
      exact keyN_inj z
    · rintro ⟨z1, z2⟩
      exact keyN_eq z1 z2
/-- two rooms are of one kind just when nothing ever tells them from one another -/
theorem kinds_sim (dl : ∀ r ∈ rms, ∀ d ∈ r.doors, d < rms.length) (nk : ∀ r ∈ rms, Nk 7 (r.ren fun _ => 0).W) {i j : Nat} (hi : i < rms.length) (hj : j < rms.length) : (kdF rms i = kdF rms j → ∀ s, simN rms s i j) ∧ (simN rms rms.length i j → kdF rms i = kdF rms j) := by
  obtain ⟨t, tl, et, st⟩ := kindsF_stg dl
  have sl := stg_len (rms := rms) t
  have dn := (stg_inv dl t).done.resolve_left st
  have up : ∀ (s a b : Nat), a < rms.length → b < rms.length → simN rms t a b → simN rms s a b := by
    intro s
    induction s with
    | zero => intro a b _ _ z; exact simN_down (Nat.zero_le _) z
    | succ s ih =>
      intro a b ha hb z
      refine ⟨ih a b ha hb z, ?_⟩
      have e := dn a b _ _ (rm_get ha) (rm_get hb) ((stg_sim dl nk t a b ha hb).mpr z)
      have da := dl _ (rm_mem ha)
      have db := dl _ (rm_mem hb)
      refine all2_mono (fun x hx y hy e => ?_) (all2_map.mp e)
      exact ih x y (da x hx) (db y hy) ((stg_sim dl nk t x y (da x hx) (db y hy)).mp ((getD_eq (by rw [sl]; exact da x hx) (by rw [sl]; exact db y hy)).mp e))
  constructor
  · intro e s
    unfold kdF at e
    rw [et] at e
    exact up s i j hi hj ((stg_sim dl nk t i j hi hj).mp ((getD_eq (by rw [sl]; exact hi) (by rw [sl]; exact hj)).mp e))
  · intro z
    unfold kdF
    rw [et]
    exact (getD_eq (by rw [sl]; exact hi) (by rw [sl]; exact hj)).mpr ((stg_sim dl nk t i j hi hj).mpr (simN_down tl z))
/-! ### the rooms told -/
theorem ren_doors {r : Rm} {f : Nat → Nat} : (r.ren f).doors = r.doors.map f := by
  obtain ⟨l, x, c, s⟩ := r
  cases x <;> cases c <;> cases s <;> rfl
theorem ren_ren {r : Rm} {f g : Nat → Nat} : (r.ren f).ren g = r.ren (fun d => g (f d)) := by
  obtain ⟨l, x, c, s⟩ := r
  cases x <;> cases c <;> cases s <;> rfl
theorem ren_id {r : Rm} {f : Nat → Nat} (h : ∀ d ∈ r.doors, f d = d) : r.ren f = r := by
  obtain ⟨l, x, c, s⟩ := r
  cases x <;> cases c <;> cases s <;> simp [Rm.doors, Ex.doors] at h <;> simp [Rm.ren, Ex.ren, h]
abbrev tdR (rms : List Rm) : List Rm := (tidyF 0 0 rms 0).rooms
theorem tdR_len : (tdR rms).length = (tidyI rms 0).length := by simp [tdR, tidyF]
abbrev nmF (rms : List Rm) : Nat → Nat := numF (kdF rms) (tidyI rms 0)
abbrev ixF (rms : List Rm) (k : Nat) : Nat := (tidyI rms 0).getD k 0
theorem tdR_at {k : Nat} (h : k < (tdR rms).length) : rmAt (tdR rms) k = (rmAt rms (ixF rms k)).ren (nmF rms) := by
  rw [tdR_len] at h
  apply rmAt_of
  simp only [tdR, tidyF, List.getElem?_map, List.getElem?_eq_getElem h, Option.map_some, ixF, List.getD_eq_getElem?_getD, Option.getD_some]
section
variable (dl : ∀ r ∈ rms, ∀ d ∈ r.doors, d < rms.length) (h0 : 0 < rms.length)
include dl h0
theorem ix_lt {k : Nat} (h : k < (tdR rms).length) : ixF rms k < rms.length := by
  rw [tdR_len] at h
  refine (tidy_ok dl h0).lt _ ?_
  simp only [ixF, List.getD_eq_getElem?_getD, List.getElem?_eq_getElem h, Option.getD_some]
  exact List.getElem_mem h
theorem nm_door {k : Nat} (h : k < (tdR rms).length) {d : Nat} (hd : d ∈ (rmAt rms (ixF rms k)).doors) : nmF rms d < (tdR rms).length ∧ kdF rms (ixF rms (nmF rms d)) = kdF rms d := by
  have T := tidy_ok dl h0
  have il := ix_lt dl h0 h
  have m : kdF rms d ∈ (tidyI rms 0).map (kdF rms) := T.cl (ixF rms k) (by
    rw [tdR_len] at h
    simp only [ixF, List.getD_eq_getElem?_getD, List.getElem?_eq_getElem h, Option.getD_some]
    exact List.getElem_mem h) d (by rw [doorsAt_of il]; exact hd)
  have lt := List.idxOf_lt_length_of_mem m
  have lt' : nmF rms d < (tidyI rms 0).length := by rw [List.length_map] at lt; exact lt
  refine ⟨by rw [tdR_len]; exact lt', ?_⟩
  have e := List.getElem_idxOf lt
  rw [List.getElem_map] at e
  simp only [ixF, List.getD_eq_getElem?_getD, List.getElem?_eq_getElem lt', Option.getD_some]
  exact e
theorem tdR_dl : ∀ r ∈ tdR rms, ∀ d ∈ r.doors, d < (tdR rms).length := by
  intro r hr d hd
  obtain ⟨k, hk⟩ := List.mem_iff_getElem?.mp hr
  have kl := (List.getElem?_eq_some_iff.mp hk).1
  have e := tdR_at kl
  rw [rmAt_of hk] at e
  subst e
  rw [ren_doors] at hd
  obtain ⟨x, hx, rfl⟩ := List.mem_map.mp hd
  exact (nm_door dl h0 kl hx).1
theorem tdR_nk (nk : ∀ r ∈ rms, Nk 7 (r.ren fun _ => 0).W) : ∀ r ∈ tdR rms, Nk 7 (r.ren fun _ => 0).W := by
  intro r hr
  obtain ⟨k, hk⟩ := List.mem_iff_getElem?.mp hr
  have kl := (List.getElem?_eq_some_iff.mp hk).1
  have e := tdR_at kl
  rw [rmAt_of hk] at e
  subst e
  rw [ren_ren]
  exact nk _ (rm_mem (ix_lt dl h0 kl))
theorem sim_back (nk : ∀ r ∈ rms, Nk 7 (r.ren fun _ => 0).W) : ∀ (t k l : Nat), k < (tdR rms).length → l < (tdR rms).length → simN (tdR rms) t k l → simN rms t (ixF rms k) (ixF rms l)
  | 0, k, l, hk, hl, h => by
    simp only [simN] at h ⊢
    rw [tdR_at hk, tdR_at hl, ren_ren, ren_ren] at h
    exact h
  | t + 1, k, l, hk, hl, h => by
    refine ⟨sim_back nk t k l hk hl h.1, ?_⟩
    have z := h.2
    rw [tdR_at hk, tdR_at hl, ren_doors, ren_doors, all2_maps] at z
    refine all2_mono (fun a ha b hb e => ?_) z
    obtain ⟨a1, a2⟩ := nm_door dl h0 hk ha
    obtain ⟨b1, b2⟩ := nm_door dl h0 hl hb
    have al := dl _ (rm_mem (ix_lt dl h0 hk)) a ha
    have bl := dl _ (rm_mem (ix_lt dl h0 hl)) b hb
    have e1 := sim_back nk t _ _ a1 b1 e
    have e2 := (kinds_sim dl nk (ix_lt dl h0 a1) al).1 a2 t
    have e3 := (kinds_sim dl nk (ix_lt dl h0 b1) bl).1 b2 t
    exact simN_trans t _ _ _ (simN_symm t _ _ e2) (simN_trans t _ _ _ e1 e3)
/-- no two told rooms are alike -/
theorem none_alike (nk : ∀ r ∈ rms, Nk 7 (r.ren fun _ => 0).W) {k l : Nat} (hk : k < (tdR rms).length) (hl : l < (tdR rms).length) (h : simN (tdR rms) (tdR rms).length k l) : k = l := by
  have z := (kinds_sim (tdR_dl dl h0) (tdR_nk dl h0 nk) hk hl)
  have e := sim_back dl h0 nk rms.length k l hk hl (z.1 (z.2 h) rms.length)
  have e' := (kinds_sim dl nk (ix_lt dl h0 hk) (ix_lt dl h0 hl)).2 e
  have nd := (tidy_ok dl h0).nd
  have hk' := hk
  have hl' := hl
  rw [tdR_len] at hk' hl'
  simp only [ixF, List.getD_eq_getElem?_getD, List.getElem?_eq_getElem hk', List.getElem?_eq_getElem hl', Option.getD_some] at e'
  have m := List.pairwise_iff_getElem.mp nd
  rcases Nat.lt_trichotomy k l with lt | lt | lt
  · exact absurd (by rw [List.getElem_map, List.getElem_map]; exact e') (m k l (by rw [List.length_map]; exact hk') (by rw [List.length_map]; exact hl') lt)
  · exact lt
  · exact absurd (by rw [List.getElem_map, List.getElem_map]; exact e'.symm) (m l k (by rw [List.length_map]; exact hl') (by rw [List.length_map]; exact hk') lt)
end
theorem dd_all : ∀ (ks D : List PySem.NestedKey), (D ++ ks).Nodup → dd D ks = D ++ ks
  | [], D, _ => by simp [dd]
  | k :: ks, D, h => by
    have n : k ∉ D := fun m => by
      rw [List.nodup_append] at h
      exact h.2.2 k m k List.mem_cons_self rfl
    rw [dd, if_neg n, dd_all ks (D ++ [k]) (by rw [List.append_assoc]; exact h), List.append_assoc]
    rfl
theorem rks_range {ks : List PySem.NestedKey} (h : ks.Nodup) : rks ks = List.range ks.length := by
  apply List.ext_getElem?
  intro i
  unfold rks
  rw [dd_all ks [] h, List.nil_append, List.getElem?_map]
  by_cases hi : i < ks.length
  · rw [List.getElem?_eq_getElem hi, Option.map_some, List.getElem?_range hi, h.idxOf_getElem i hi]
  · rw [List.getElem?_eq_none (by omega), List.getElem?_eq_none (by rw [List.length_range]; omega)]
    rfl
/-- where no two rooms are alike the kinds are the rooms -/
theorem kinds_range (dl : ∀ r ∈ rms, ∀ d ∈ r.doors, d < rms.length) (nk : ∀ r ∈ rms, Nk 7 (r.ren fun _ => 0).W) (h : ∀ k l, k < rms.length → l < rms.length → simN rms rms.length k l → k = l) : kindsF rms = List.range rms.length := by
  obtain ⟨t, tl, et, st⟩ := kindsF_stg dl
  obtain ⟨ks, e, _, el⟩ := (stg_inv dl t).of
  have inj : ∀ k l, k < rms.length → l < rms.length → (kindsF rms)[k]? = (kindsF rms)[l]? → k = l := fun k l hk hl z => by
    have kl := (kinds_ok dl nk).len
    exact h k l hk hl ((kinds_sim dl nk hk hl).1 ((getD_eq (by rw [kl]; exact hk) (by rw [kl]; exact hl)).mpr z) _)
  rw [et, e] at inj ⊢
  rw [← el]
  apply rks_range
  refine List.pairwise_iff_getElem.mpr fun i j hi jl ij z => ?_
  have a := List.getElem?_eq_getElem hi
  have b := List.getElem?_eq_getElem jl
  have := inj i j (by omega) (by omega) ((rks_inj a b).mpr z)
  omega
end WL
namespace WL
open PySem L2
namespace K10
/-! ### a room but for the numbers of rooms -/
def exPre : Ex → List W
  | .go _ => [.str w_go]
  | .fork e _ _ => [.str w_fork, e.W]
  | .give e k _ => [.str w_give, e.W, optN k]
  | .hand w as k _ => [.str w_hand, .int (w : Int), .tup (as.map Rk.W), optN k]
  | .ends e => [.str w_end, e.W]
  | .fault e => [.str w_fault, e.W]
  | .shut => [.str w_shut]
def ctPre : Option (Option Nat × Nat) → W
  | none => .non
  | some (k, _) => .tup [optN k]
def shapeW (r : Rm) : W := .tup [.tup (r.lit.map Lit.W), .tup (exPre r.ex), ctPre r.ct, .bl r.sh.isNone]
theorem exPre_iff {x y : Ex} : exPre x = exPre y ↔ x.ren (fun _ => 0) = y.ren (fun _ => 0) := by
  constructor
  · intro h
    cases x <;> cases y <;> simp only [exPre, List.cons.injEq, W.str.injEq, W.tup.injEq, W.int.injEq, wd_inj, Nat.reduceLT, Nat.reduceEqDiff, and_true, true_and, false_and, reduceCtorEq, and_false] at h
    · rfl
    · rw [Ex.ren, Ex.ren, Rk.inj h]
    · rw [Ex.ren, Ex.ren, Rk.inj h.1, optN_inj h.2]
    · rw [Ex.ren, Ex.ren, show _ = _ from Int.ofNat.inj h.1, Rks.inj h.2.1, optN_inj h.2.2]
    · rw [Rk.inj h]
    · rw [Rk.inj h]
    · rfl
  · intro h
    cases x <;> cases y <;> simp [Ex.ren] at h <;> simp [exPre, h]
theorem ctPre_iff {c d : Option (Option Nat × Nat)} : ctPre c = ctPre d ↔ (c.map fun kr => (kr.1, 0)) = (d.map fun kr => (kr.1, 0)) := by
  cases c with
  | none => cases d with
    | none => simp
    | some b => obtain ⟨k, r⟩ := b; simp [ctPre]
  | some a =>
    obtain ⟨k, r⟩ := a
    cases d with
    | none => simp [ctPre]
    | some b =>
      obtain ⟨k', r'⟩ := b
      simp only [ctPre, W.tup.injEq, List.cons.injEq, and_true, Option.map_some, Option.some.injEq, Prod.mk.injEq]
      exact ⟨optN_inj, fun e => by rw [e]⟩
theorem shape_iff {a b : Rm} : shapeW a = shapeW b ↔ (a.ren fun _ => 0) = (b.ren fun _ => 0) := by
  simp only [shapeW, W.tup.injEq, List.cons.injEq, W.bl.injEq, and_true, Rm.ren, Rm.mk.injEq, exPre_iff, ctPre_iff]
  constructor
  · rintro ⟨h1, h2, h3, h4⟩
    exact ⟨Lits.inj h1, h2, h3, by cases ha : a.sh <;> cases hb : b.sh <;> simp [ha, hb] at h4 ⊢⟩
  · rintro ⟨h1, h2, h3, h4⟩
    exact ⟨by rw [h1], h2, h3, by cases ha : a.sh <;> cases hb : b.sh <;> simp [ha, hb] at h4 ⊢⟩
theorem exPre_nb (x : Ex) : nbWs (exPre x) = true := by
  cases x with
  | hand w args k q =>
    have : nbWs (args.map Rk.W) = true := nbWs_of fun w hw => by
      obtain ⟨e, _, rfl⟩ := List.mem_map.mp hw
      exact rk_nb e
    simp [exPre, nbW, nbWs, this, optN_nb]
  | _ => simp [exPre, nbW, nbWs, rk_nb, optN_nb]
theorem lits_nb (l : List Lit) : nbWs (l.map Lit.W) = true := nbWs_of fun w hw => by
  obtain ⟨l, _, rfl⟩ := List.mem_map.mp hw
  cases l <;> simp [Lit.W, nbW, nbWs, rk_nb]
theorem ctPre_nb (c : Option (Option Nat × Nat)) : nbW (ctPre c) = true := by
  cases c with
  | none => rfl
  | some kr => obtain ⟨k, r⟩ := kr; simp [ctPre, nbW, nbWs, optN_nb]
/-- data that are told from one another -/
def Faith (ws : List W) : Prop := ∀ a ∈ ws, ∀ b ∈ ws, PyData.eqv (dW a) (dW b) = true ↔ a = b
mutual
theorem eqv_self : ∀ {n : Nat} {w : W}, okW n w = true → PyData.eqv (dW w) (dW w) = true
  | _, .non, _ => by simp [dW, PyData.eqv]
  | _, .int _, _ => by simp [dW, PyData.eqv]
  | _, .bl _, _ => by simp [dW, PyData.eqv]
  | _, .str _, _ => by simp [dW, PyData.eqv]
  | 0, .tup ws, h => by simp [okW] at h
  | n + 1, .tup ws, h => by
    rw [okW] at h
    simp only [dW, PyData.eqv]
    exact eqvs_self h
  | _, .rl _, h => by simp [okW] at h
  | _, .ref _, h => by simp [okW] at h
  | _, .ty _, h => by simp [okW] at h
theorem eqvs_self : ∀ {n : Nat} {ws : List W}, okWs n ws = true → PyData.eqvAll (dWs ws) (dWs ws) = true
  | _, [], _ => by simp [dWs, PyData.eqvAll]
  | n, w :: ws, h => by
    rw [okWs, Bool.and_eq_true] at h
    simp only [dWs, PyData.eqvAll, eqv_self h.1, eqvs_self h.2, Bool.and_self]
end
theorem exPre_okW {ms : List Mc} {m nr : Nat} {x : Ex} (h : x.ok ms m nr) : okWs 20 (exPre x) = true := by
  cases x with
  | go r => exact cons_okW (w_okW (by decide) _) nil_okW
  | fork e a b => exact cons_okW (w_okW (by decide) _) (cons_okW (rk_okW' h.1 (by omega)) nil_okW)
  | give e j r => exact cons_okW (w_okW (by decide) _) (cons_okW (rk_okW' h.1 (by omega)) (cons_okW (optN_okW _ _) nil_okW))
  | hand w args j r => exact cons_okW (w_okW (by decide) _) (cons_okW (int_okW _ _) (cons_okW (tup_okW (okWs_of fun x hx => by
      obtain ⟨e, he, rfl⟩ := List.mem_map.mp hx
      exact rk_okW' (h.2.2.1 e he) (by omega))) (cons_okW (optN_okW _ _) nil_okW)))
  | ends e => exact cons_okW (w_okW (by decide) _) (cons_okW (rk_okW' h (by omega)) nil_okW)
  | fault e => exact cons_okW (w_okW (by decide) _) (cons_okW (rk_okW' h (by omega)) nil_okW)
  | shut => exact cons_okW (w_okW (by decide) _) nil_okW
theorem bl_okW (b : Bool) (n : Nat) : okW n (.bl b) = true := by cases n <;> rfl
theorem shape_okW {ms : List Mc} {m nr : Nat} {r : Rm} (h : r.ok ms m nr) : okW 22 (shapeW r) = true := by
  refine tup_okW (cons_okW (tup_okW (okWs_of fun x hx => ?_)) (cons_okW (tup_okW (exPre_okW h.ex)) (cons_okW ?_ (cons_okW (bl_okW _ _) nil_okW))))
  · obtain ⟨l, hl, rfl⟩ := List.mem_map.mp hx
    exact lit_okW (h.lits l hl) (by decide)
  · cases hc : r.ct with
    | none => rw [ctPre, okW]
    | some kr => exact tup_okW (cons_okW (optN_okW _ _) nil_okW)
theorem shape_eqv {a b : Rm} (h : PyData.eqv (dW (shapeW a)) (dW (shapeW b)) = true) : shapeW a = shapeW b := by
  simp only [shapeW, dW, dWs, PyData.eqv, PyData.eqvAll, Bool.and_eq_true, Bool.and_true] at h ⊢
  obtain ⟨h1, h2, h3, h4⟩ := h
  rw [eqvs_inj (lits_nb _) (lits_nb _) h1, eqvs_inj (exPre_nb _) (exPre_nb _) h2, eqv_inj (ctPre_nb _) (ctPre_nb _) h3]
  have : a.sh.isNone = b.sh.isNone := by
    cases ha : a.sh.isNone <;> cases hb : b.sh.isNone <;> rw [ha, hb] at h4 <;> first | rfl | (simp at h4)
  rw [this]
/-- the first place of an equal one -/
def idxD (ws : List W) (w : W) : Nat := ws.findIdx fun z => PyData.eqv (dW z) (dW w)
def kindsL (ws : List W) : List Nat := ws.map (idxD ws)
theorem kindsL_len {ws : List W} : (kindsL ws).length = ws.length := List.length_map _
theorem idx_spec {ws : List W} (F : Faith ws) {w : W} (h : w ∈ ws) : idxD ws w < ws.length ∧ ws[idxD ws w]? = some w := by
  have lt : idxD ws w < ws.length := List.findIdx_lt_length_of_exists ⟨w, h, (F w h w h).mpr rfl⟩
  refine ⟨lt, ?_⟩
  have e := List.findIdx_getElem (w := lt)
  rw [List.getElem?_eq_getElem lt]
  exact congrArg some ((F _ (List.getElem_mem lt) _ h).mp e)
theorem idx_first {ws : List W} (F : Faith ws) {w : W} (h : w ∈ ws) {m : Nat} (hm : m < idxD ws w) {z : W} (hz : ws[m]? = some z) : PyData.eqv (dW z) (dW w) = false := by
  obtain ⟨lt, e⟩ := List.getElem?_eq_some_iff.mp hz
  have := List.not_of_lt_findIdx hm
  rw [e] at this
  simpa using this
theorem idx_inj {ws : List W} (F : Faith ws) {a b : W} (ha : a ∈ ws) (hb : b ∈ ws) : idxD ws a = idxD ws b ↔ a = b := by
  constructor
  · intro e
    have h1 := (idx_spec F ha).2
    have h2 := (idx_spec F hb).2
    rw [e, h2] at h1
    exact (Option.some.inj h1).symm
  · intro e; rw [e]
theorem kinds_at {ws : List W} {i : Nat} {w : W} (h : ws[i]? = some w) : (kindsL ws)[i]? = some (idxD ws w) := by rw [kindsL, List.getElem?_map, h]; rfl
theorem kinds_inj {ws : List W} (F : Faith ws) {i j : Nat} (hi : i < ws.length) (hj : j < ws.length) : (kindsL ws).getD i 0 = (kindsL ws).getD j 0 ↔ ws[i]? = ws[j]? := by
  have a := List.getElem?_eq_getElem hi
  have b := List.getElem?_eq_getElem hj
  rw [List.getD_eq_getElem?_getD, List.getD_eq_getElem?_getD, kinds_at a, kinds_at b, a, b, Option.getD_some, Option.getD_some, Option.some.injEq]
  exact idx_inj F (List.getElem_mem hi) (List.getElem_mem hj)
/-- where all are unlike each is the first of its kind -/
theorem idx_own {ws : List W} (F : Faith ws) (inj : ∀ i j, i < ws.length → j < ws.length → ws[i]? = ws[j]? → i = j) {k : Nat} {w : W} (h : ws[k]? = some w) : idxD ws w = k := by
  obtain ⟨lt, e⟩ := idx_spec F (List.mem_of_getElem? h)
  exact inj _ _ lt (List.getElem?_eq_some_iff.mp h).1 (by rw [e, h])
/-! ### the law's keys behind so many turns -/
def keyW (kinds : List Nat) (r : Rm) (k : Nat) : W := .tup (.int (kinds.getD k 0 : Nat) :: r.doors.map fun d => .int (kinds.getD d 0 : Nat))
def keys0 (T : List Rm) : List W := T.map fun r => .tup [shapeW r]
def keysS (T : List Rm) (ws : List W) : List W := (List.range T.length).map fun k => keyW (kindsL ws) (rmAt T k) k
structure KeysAt (T : List Rm) (t : Nat) (ws : List W) : Prop where
  len : ws.length = T.length
  ok : okWs 40 ws = true
  faith : Faith ws
  sim : ∀ i j, i < T.length → j < T.length → (ws[i]? = ws[j]? ↔ simN T t i j)
theorem keyW_eq (kinds : List Nat) (r : Rm) (k : Nat) : keyW kinds r k = .tup ((((kinds.getD k 0 : Nat) : Int) :: r.doors.map fun d => ((kinds.getD d 0 : Nat) : Int)).map W.int) := by
  simp only [keyW, List.map_cons, List.map_map]
  rfl
theorem ints_nb (l : List Int) : nbWs (l.map W.int) = true := nbWs_of fun w hw => by
  obtain ⟨i, _, rfl⟩ := List.mem_map.mp hw
  rfl
theorem keyW_ok (kinds : List Nat) (r : Rm) (k : Nat) : okW 40 (keyW kinds r k) = true := by
  rw [keyW_eq]
  refine tup_okW ?_
  exact okWs_of fun w hw => by
    obtain ⟨i, _, rfl⟩ := List.mem_map.mp hw
    exact int_okW _ _
theorem keyW_nb (kinds : List Nat) (r : Rm) (k : Nat) : nbW (keyW kinds r k) = true := by
  rw [keyW_eq]
  exact ints_nb _
theorem keys0_ok {ms : List Mc} {m nr : Nat} {T : List Rm} (ok : ∀ r ∈ T, r.ok ms m nr) : KeysAt T 0 (keys0 T) := by
  refine ⟨List.length_map _, okWs_of fun w hw => ?_, fun a ha b hb => ?_, fun i j hi hj => ?_⟩
  · obtain ⟨r, hr, rfl⟩ := List.mem_map.mp hw
    exact okW_up (tup_okW (n := 22) (cons_okW (shape_okW (ok r hr)) nil_okW)) (by decide)
  · obtain ⟨r, hr, rfl⟩ := List.mem_map.mp ha
    obtain ⟨r', hr', rfl⟩ := List.mem_map.mp hb
    constructor
    · intro h
      simp only [dW, dWs, PyData.eqv, PyData.eqvAll, Bool.and_true] at h
      rw [shape_eqv h]
    · intro h
      rw [h]
      exact eqv_self (tup_okW (n := 22) (cons_okW (shape_okW (ok r' hr')) nil_okW))
  · simp only [keys0, List.getElem?_map, rm_get hi, rm_get hj, Option.map_some, Option.some.injEq, W.tup.injEq, List.cons.injEq, and_true]
    exact shape_iff
theorem keysS_at {T : List Rm} {ws : List W} {i : Nat} (h : i < T.length) : (keysS T ws)[i]? = some (keyW (kindsL ws) (rmAt T i) i) := by
  rw [keysS, List.getElem?_map, List.getElem?_range h]
  rfl
theorem keysS_ok {T : List Rm} {t : Nat} {ws : List W} (dl : ∀ r ∈ T, ∀ d ∈ r.doors, d < T.length) (K : KeysAt T t ws) : KeysAt T (t + 1) (keysS T ws) := by
  have mem : ∀ w ∈ keysS T ws, ∃ k, w = keyW (kindsL ws) (rmAt T k) k := fun w hw => by
    obtain ⟨k, _, rfl⟩ := List.mem_map.mp hw
    exact ⟨k, rfl⟩
  refine ⟨by rw [keysS, List.length_map, List.length_range], okWs_of fun w hw => ?_, fun a ha b hb => ?_, fun i j hi hj => ?_⟩
  · obtain ⟨k, rfl⟩ := mem w hw
    exact keyW_ok _ _ _
  · obtain ⟨k, rfl⟩ := mem a ha
    obtain ⟨k', rfl⟩ := mem b hb
    exact ⟨eqv_inj (keyW_nb _ _ _) (keyW_nb _ _ _), fun h => by rw [h]; exact eqv_self (keyW_ok _ _ _)⟩
  · rw [keysS_at hi, keysS_at hj, Option.some.injEq, simN]
    have aux : ∀ l m : List Nat, (∀ d ∈ l, d < T.length) → (∀ d ∈ m, d < T.length) → ((l.map fun d => W.int ((kindsL ws).getD d 0 : Nat)) = (m.map fun d => W.int ((kindsL ws).getD d 0 : Nat)) ↔ all2 (simN T t) l m) := by
      intro l
      induction l with
      | nil => intro m _ _; cases m <;> simp [all2]
      | cons a l ih =>
        intro m hl hm
        cases m with
        | nil => simp [all2]
        | cons b m =>
          have z := (kinds_inj K.faith (i := a) (j := b) (by rw [K.len]; exact hl a List.mem_cons_self) (by rw [K.len]; exact hm b List.mem_cons_self)).trans (K.sim a b (hl a List.mem_cons_self) (hm b List.mem_cons_self))
          simp only [List.map_cons, List.cons.injEq, all2, W.int.injEq]
          rw [ih m (fun d hd => hl d (List.mem_cons_of_mem _ hd)) (fun d hd => hm d (List.mem_cons_of_mem _ hd)), ← z]
          constructor
          · rintro ⟨h1, h2⟩; exact ⟨by omega, h2⟩
          · rintro ⟨h1, h2⟩; exact ⟨by omega, h2⟩
    have z := (kinds_inj K.faith (i := i) (j := j) (by rw [K.len]; exact hi) (by rw [K.len]; exact hj)).trans (K.sim i j hi hj)
    rw [← aux _ _ (dl _ (rm_mem hi)) (dl _ (rm_mem hj)), ← z]
    simp only [keyW, W.tup.injEq, List.cons.injEq, W.int.injEq]
    constructor
    · rintro ⟨h1, h2⟩; exact ⟨by omega, h2⟩
    · rintro ⟨h1, h2⟩; exact ⟨by omega, h2⟩
end K10
end WL
namespace WL
open PySem L2
namespace K10
/-! ### numbered as they are met -/
def metI : Nat → List Nat → Option Nat
  | m, [] => some m
  | m, d :: ds => if d ≤ m then metI (max m (d + 1)) ds else none
inductive MetFrom (T : List Rm) : Nat → Nat → Prop
  | done (m : Nat) : m = T.length → MetFrom T m m
  | step (a m m' : Nat) : a < m → m ≤ T.length → metI m (rmAt T a).doors = some m' → MetFrom T (a + 1) m' → MetFrom T a m
theorem idx_pre {A E : List Nat} {x : Nat} (h : x ∈ A) : (A ++ E).idxOf x = A.idxOf x := by rw [List.idxOf_append, if_pos h]
theorem idx_new {A E : List Nat} {x : Nat} (h : x ∉ A) : (A ++ x :: E).idxOf x = A.length := by
  rw [List.idxOf_append, if_neg h, List.idxOf_cons_self, Nat.zero_add]
theorem meet_num {kd : Nat → Nat} {F : List Nat} {kT : Nat → Nat} {N : Nat} (hN : N = F.length) (hk : ∀ d, d < N → kT d = d) : ∀ (ds idxs E : List Nat), F = meet kd idxs ds ++ E →
    meet kT (List.range idxs.length) (ds.map (numF kd F)) = List.range (meet kd idxs ds).length ∧ metI idxs.length (ds.map (numF kd F)) = some (meet kd idxs ds).length
  | [], idxs, E, h => ⟨rfl, rfl⟩
  | d :: ds, idxs, E, h => by
    rw [meet] at h ⊢
    have rg : ∀ m, m ≤ N → (List.range m).map kT = List.range m := fun m hm => by
      rw [List.map_congr_left (g := id) fun x hx => hk x (by rw [List.mem_range] at hx; omega), List.map_id]
    split at h
    · rename_i mem
      rw [if_pos mem]
      obtain ⟨E', e⟩ := meet_pre kd ds idxs
      have nd : numF kd F d = (idxs.map kd).idxOf (kd d) := by
        unfold numF
        rw [h, e, List.append_assoc, List.map_append, idx_pre mem]
      have lt : numF kd F d < idxs.length := by rw [nd]; have := List.idxOf_lt_length_of_mem mem; rw [List.length_map] at this; exact this
      have il : idxs.length ≤ N := by rw [hN, h, e, List.append_assoc, List.length_append]; omega
      obtain ⟨i1, i2⟩ := meet_num hN hk ds idxs E h
      rw [List.map_cons, meet, rg _ il, hk _ (by omega), if_pos (List.mem_range.mpr lt), metI, if_pos (by omega), Nat.max_eq_left (by omega)]
      exact ⟨i1, i2⟩
    · rename_i mem
      rw [if_neg mem]
      obtain ⟨E', e⟩ := meet_pre kd ds (idxs ++ [d])
      have nd : numF kd F d = idxs.length := by
        unfold numF
        rw [h, e, List.append_assoc, List.append_assoc, List.map_append, List.map_append, List.map_cons, List.map_nil, List.singleton_append, idx_new mem, List.length_map]
      have il : idxs.length + 1 ≤ N := by rw [hN, h, e, List.append_assoc, List.append_assoc, List.length_append, List.length_append, List.length_singleton]; omega
      obtain ⟨i1, i2⟩ := meet_num hN hk ds (idxs ++ [d]) E h
      rw [List.length_append, List.length_singleton] at i1 i2
      rw [List.map_cons, meet, rg _ (by omega), hk _ (by omega), if_neg (by rw [nd, List.mem_range]; omega), metI, if_pos (by omega), nd, Nat.max_eq_right (by omega), ← List.range_succ]
      exact ⟨i1, i2⟩
theorem bfs_num {rms : List Rm} {kd : Nat → Nat} {F : List Nat} {T : List Rm} {kT : Nat → Nat} (dl : ∀ r ∈ rms, ∀ d ∈ r.doors, d < rms.length) (hl : T.length = F.length) (hT : ∀ (k i : Nat), F[k]? = some i → rmAt T k = (rmAt rms i).ren (numF kd F)) (hk : ∀ d, d < F.length → kT d = d) :
    ∀ (f f' a : Nat) (idxs : List Nat), F = bfs rms kd f a idxs → BInv rms kd a idxs → rms.length + 1 ≤ f + a → F.length + 1 ≤ f' + a → a ≤ idxs.length → bfs T kT f' a (List.range idxs.length) = List.range F.length ∧ MetFrom T a idxs.length
  | 0, f', a, idxs, hF, B, h1, h2, h3 => by
    have := B.len
    omega
  | f + 1, f', a, idxs, hF, B, h1, h2, h3 => by
    rw [bfs] at hF
    split at hF
    · rename_i i hi
      have al := (List.getElem?_eq_some_iff.mp hi).1
      have B' := B.step dl hi
      obtain ⟨⟨_, _, _⟩, E, e⟩ := bfs_ok (kd := kd) dl f (a + 1) _ B' (by omega)
      obtain ⟨E', e'⟩ := meet_pre kd (doorsAt rms i) idxs
      have hFi : F[a]? = some i := by rw [hF, e, e', List.append_assoc, List.getElem?_append_left al]; exact hi
      have il := B.lt i (List.mem_of_getElem? hi)
      have ra := hT a i hFi
      have fl := (List.getElem?_eq_some_iff.mp hFi).1
      obtain ⟨g, rfl⟩ : ∃ g, f' = g + 1 := ⟨f' - 1, by omega⟩
      have ed : doorsAt T a = (doorsAt rms i).map (numF kd F) := by rw [doorsAt_of (by omega), ra, ren_doors, doorsAt_of il]
      obtain ⟨m1, m2⟩ := meet_num (kT := kT) rfl hk (doorsAt rms i) idxs E (by rw [hF]; exact e)
      have ml : idxs.length ≤ (meet kd idxs (doorsAt rms i)).length := by rw [e', List.length_append]; omega
      obtain ⟨i1, i2⟩ := bfs_num dl hl hT hk f g (a + 1) _ hF B' (by omega) (by omega) (by omega)
      rw [bfs, List.getElem?_range al]
      simp only
      rw [ed, m1]
      refine ⟨i1, .step _ _ _ al (by rw [hl, hF, e, e', List.append_assoc, List.length_append]; omega) ?_ i2⟩
      rw [← doorsAt_of (by omega), ed]
      exact m2
    · rename_i hi
      have al : a = idxs.length := by
        have := List.getElem?_eq_none_iff.mp hi
        omega
      subst hF
      refine ⟨?_, ?_⟩
      · cases f' with
        | zero => rfl
        | succ g => rw [bfs, List.getElem?_eq_none (by rw [List.length_range]; omega)]
      · rw [al]
        exact .done _ hl.symm
section
variable {rms : List Rm} (dl : ∀ r ∈ rms, ∀ d ∈ r.doors, d < rms.length) (h0 : 0 < rms.length) (nk : ∀ r ∈ rms, Nk 7 (r.ren fun _ => 0).W)
include dl h0
include nk
theorem kdT_id : ∀ d, d < (tdR rms).length → kdF (tdR rms) d = d := by
  intro d hd
  unfold kdF
  rw [kinds_range (tdR_dl dl h0) (tdR_nk dl h0 nk) fun k l hk hl h => none_alike dl h0 nk hk hl h, List.getD_eq_getElem?_getD, List.getElem?_range hd]
  rfl
theorem met_ok : tidyI (tdR rms) 0 = List.range (tdR rms).length ∧ MetFrom (tdR rms) 0 1 := by
  have tl := tdR_len (rms := rms)
  have z := bfs_num (rms := rms) (kd := kdF rms) (F := tidyI rms 0) (T := tdR rms) (kT := kdF (tdR rms)) dl tl (fun k i hk => by
    have kl := (List.getElem?_eq_some_iff.mp hk).1
    rw [tdR_at (by rw [tl]; exact kl)]
    simp only [ixF, List.getD_eq_getElem?_getD, hk, Option.getD_some]) (fun d hd => kdT_id dl h0 nk d (by rw [tl]; exact hd)) (rms.length + 1) ((tdR rms).length + 1) 0 [0] rfl (bInv0 h0) (by omega) (by omega) (by simp)
  rw [← tl] at z
  exact z
/-- joined once more it stays -/
theorem tdR_again : tdR (tdR rms) = tdR rms := by
  have e := (met_ok dl h0 nk).1
  have hid := kdT_id dl h0 nk
  have hn : ∀ d, d < (tdR rms).length → nmF (tdR rms) d = d := fun d hd => by
    unfold nmF numF
    rw [e]
    have rg : (List.range (tdR rms).length).map (kdF (tdR rms)) = List.range (tdR rms).length := by
      rw [List.map_congr_left (g := id) fun x hx => hid x (List.mem_range.mp hx), List.map_id]
    rw [rg, hid d hd]
    have nd := List.nodup_range (n := (tdR rms).length)
    have := nd.idxOf_getElem d (by rw [List.length_range]; exact hd)
    rwa [List.getElem_range] at this
  apply List.ext_getElem?
  intro k
  have len : (tdR (tdR rms)).length = (tdR rms).length := by rw [tdR_len, e, List.length_range]
  by_cases hk : k < (tdR rms).length
  · rw [rm_get (by rw [len]; exact hk), rm_get hk, tdR_at (by rw [len]; exact hk)]
    have ek : ixF (tdR rms) k = k := by
      unfold ixF
      rw [e, List.getD_eq_getElem?_getD, List.getElem?_range hk]
      rfl
    rw [ek]
    exact congrArg some (ren_id fun d hd => hn d (tdR_dl dl h0 _ (rm_mem hk) d hd))
  · rw [List.getElem?_eq_none (by omega), List.getElem?_eq_none (by omega)]
/-- each room that is come to stands for one of the told ones -/
theorem stands_ok {a : Nat} (ha : a < rms.length) (ka : kdF rms a ∈ (tidyI rms 0).map (kdF rms)) : nmF rms a < (tdR rms).length ∧ shapeW (rmAt rms a) = shapeW (rmAt (tdR rms) (nmF rms a)) ∧ (rmAt (tdR rms) (nmF rms a)).doors = (rmAt rms a).doors.map (nmF rms) ∧
    ∀ d ∈ (rmAt rms a).doors, d < rms.length ∧ kdF rms d ∈ (tidyI rms 0).map (kdF rms) := by
  have ko := kinds_ok dl nk
  have lt := List.idxOf_lt_length_of_mem ka
  have nl' : nmF rms a < (tidyI rms 0).length := by rw [List.length_map] at lt; exact lt
  have nl : nmF rms a < (tdR rms).length := by rw [tdR_len]; exact nl'
  have il := ix_lt dl h0 nl
  have ek : kdF rms (ixF rms (nmF rms a)) = kdF rms a := by
    have e := List.getElem_idxOf lt
    rw [List.getElem_map] at e
    simp only [ixF, List.getD_eq_getElem?_getD, List.getElem?_eq_getElem nl', Option.getD_some]
    exact e
  have same := ko.same _ _ _ _ (rm_get il) (rm_get ha) ((getD_eq (by rw [ko.len]; exact il) (by rw [ko.len]; exact ha)).mp ek)
  have T := tidy_ok dl h0
  have im : ixF rms (nmF rms a) ∈ tidyI rms 0 := by
    simp only [ixF, List.getD_eq_getElem?_getD, List.getElem?_eq_getElem nl', Option.getD_some]
    exact List.getElem_mem nl'
  refine ⟨nl, ?_, ?_, fun d hd => ⟨dl _ (rm_mem ha) d hd, ?_⟩⟩
  · rw [tdR_at nl]
    apply shape_iff.mpr
    rw [ren_ren]
    exact same.1.symm
  · rw [tdR_at nl, ren_doors]
    have := same.2
    have z := congrArg (List.map fun n => ((tidyI rms 0).map (kdF rms)).idxOf n) this
    simp only [List.map_map] at z
    exact z
  · have m1 : kdF rms d ∈ (rmAt rms a).doors.map (fun d => (kindsF rms).getD d 0) := List.mem_map.mpr ⟨d, hd, rfl⟩
    rw [← same.2] at m1
    obtain ⟨d', hd', e'⟩ := List.mem_map.mp m1
    have c := T.cl _ im d' (by rw [doorsAt_of il]; exact hd')
    have e2 : kdF rms d' = kdF rms d := e'
    rw [← e2]
    exact c
omit nk
theorem stands_0 : nmF rms 0 = 0 ∧ kdF rms 0 ∈ (tidyI rms 0).map (kdF rms) := by
  have T := tidy_ok dl h0
  obtain ⟨x, xs, e⟩ : ∃ x xs, tidyI rms 0 = x :: xs := by
    cases q : tidyI rms 0 with
    | nil => have := T.head; rw [q] at this; simp at this
    | cons x xs => exact ⟨x, xs, rfl⟩
  have := T.head
  rw [e] at this
  simp only [List.getElem?_cons_zero, Option.some.injEq] at this
  subst this
  refine ⟨?_, by rw [e]; exact List.mem_cons_self⟩
  unfold nmF numF
  rw [e, List.map_cons, List.idxOf_cons_self]
end
end K10
end WL
namespace WL
open PySem PySem.Spec PyProof.Rows L2
section
variable {X : Cx}
/-! ### list.index(x), both data -/
def rIdxW : W → List W → Sto → WQ → Prop := fun x ws S Q => match ws with
  | [y] => ∃ (ds : List PyData) (d : PyData) (j : Nat) (z : PyData), Dat S x (.list ds) ∧ Dat S y d ∧ SeqAt.shaped (.list ds) = true ∧ SeqAt.shaped d = true ∧ ds[j]? = some z ∧ PyData.eqv z d = true ∧ (∀ (m : Nat) (z' : PyData), m < j → ds[m]? = some z' → PyData.eqv z' d = false) ∧ Q (.int (j : Nat)) S
  | _ => False
theorem mw_index (hu : X.A.units + 65 < cLine) : MtW X "list.index" rIdxW := by
  refine ⟨fun x ws S Q Q' h q => ?_, fun pins s st H x vs v us Q I rx rv ⟨w, ws, S, gs, r1, r2, q⟩ => ?_⟩
  · unfold rIdxW at q ⊢
    split at q
    · obtain ⟨ds, d, j, z, h1, h2, h3, h4, h5, h6, h7, q⟩ := q
      exact ⟨ds, d, j, z, h1, h2, h3, h4, h5, h6, h7, h _ _ q⟩
    · exact q
  · unfold rIdxW at q
    split at q
    · rename_i y
      obtain ⟨ds, d, j, z, h1, h2, h3, h4, h5, h6, h7, q⟩ := q
      obtain ⟨vy, vr, rfl, ry, r3⟩ := Rels.cons.mp r2
      obtain rfl := Rels.nil.mp r3
      have dx := Dat.dp gs _ h1 r1
      have dy := Dat.dp gs _ h2 ry
      cases dx with
      | lst hs ha => exact mt_indexD hu pins s st H _ _ v us Q I rx rv ⟨_, vy, d, ds, j, z, rfl, rfl, .lst hs ha, dy, h3, h4, h5, h6, h7, q H _ Ext.refl gs (by simp only [Rel])⟩
    · exact q.elim
end
theorem hu65_of {A : Around} {k : Nat} (hr : Room k A) : A.units + 65 < cLine := by have := hr.un; omega
end WL
namespace WL
open PySem L2
namespace K10
open K11 (sp_law_doors sp_law_typed sp_law_grown sp_joined sp_law_renamed sp_law_typed_room t_law_doors l_law_doors_1 r_law_doors t_law_typed l_law_typed_1 l_law_typed_2 r_law_typed t_law_grown l_law_grown_1 l_law_grown_2 l_law_grown_3 r_law_grown t_law_renamed l_law_renamed_1 r_law_renamed t_law_typed_room l_law_typed_room_1 l_law_typed_room_2 r_law_typed_room t_joined r_joined)
/-- law_shape: room little way caught shut -/
def t_law_shape  : WS :=
  (wSeq (wAsg (wVar 0) (gTupW 4 (gConsW (gNameW 1) (gConsW (gNameW 2) (gConsW (gNameW 3) (gConsW (gNameW 4) gNilW))))))
  (wSeq (wAsg (wSl (wVar 2) wNoPart (wPart (wDGet2 (wDisp (((wC (.str w_go)), (wC (.int 1))) :: (((wC (.str w_fork)), (wC (.int 2))) :: (((wC (.str w_give)), (wC (.int 3))) :: (((wC (.str w_hand)), (wC (.int 4))) :: []))))) (wOp rIxW (wVar 2) (wC (.int 0))) (wCall rLenW (wCons (wVar 2) wNil))))) (gNameW 2))
  (wRet (wTup (wCons (wVar 1) (wCons (wVar 2) (wCons (wIf (wB (wOp rIsN (wVar 3) (wC .non))) (wC .non) (wSl (wVar 3) wNoPart (wPart (wC (.int 1))))) (wCons (wOp rIsN (wVar 4) (wC .non)) wNil))))))))
/-- law_none_alike: rooms keys room turn kinds key k door -/
def l_law_none_alike_1 (sp_law_shape sp_law_doors : WSp) : WS :=
  (wSeq (wAsg (wLc (wVar 1) 5 wYes (wLm rIdxW (wVar 1) (wCons (wVar 5) wNil))) (gNameW 4))
  (wSeq (wIfS (wB (wOp rEqW (wVar 4) (wLstR (wCall rLenW (wCons (wVar 0) wNil)))))
  (wRet (wC (.bl true)))
  wNext)
  (wAsg (wLcR (wCons (wCall rLenW (wCons (wVar 0) wNil)) wNil) 6 wYes (wOp rAddW (wTup (wCons (wOp rIxW (wVar 4) (wVar 6)) wNil)) (wCall rTupleW (wCons (wLc (wCall sp_law_doors (wCons (wOp rIxW (wVar 0) (wVar 6)) wNil)) 7 wYes (wOp rIxW (wVar 4) (wVar 7))) wNil)))) (gNameW 1))))
def t_law_none_alike (sp_law_shape sp_law_doors : WSp) : WS :=
  (wSeq (wAsg (wLc (wVar 0) 2 wYes (wTup (wCons (wCall sp_law_shape (wCons (wVar 2) wNil)) wNil))) (gNameW 1))
  (wSeq (wForR1 (wCons (wCall rLenW (wCons (wVar 0) wNil)) wNil) (gNameW 3)
  (l_law_none_alike_1 sp_law_shape sp_law_doors))
  (wRet (wOp rEqW (wLcR (wCons (wCall rLenW (wCons (wVar 1) wNil)) wNil) 6 (wB (wOp rNeW (wLm rIdxW (wVar 1) (wCons (wOp rIxW (wVar 1) (wVar 6)) wNil)) (wVar 6))) (wVar 6)) (wLst wNil)))))
/-- law_as_met: rooms met at door -/
def l_law_as_met_1 (sp_law_doors : WSp) : WS :=
  (wSeq (wIfS (wNot (wB (wChain rLe rLe (wC (.int 0)) (wVar 3) (wVar 1))))
  (wRet (wC (.bl false)))
  wNext)
  (wAsg (wCall rMaxW (wCons (wVar 1) (wCons (wOp rAddW (wVar 3) (wC (.int 1))) wNil))) (gNameW 1)))
def l_law_as_met_2 (sp_law_doors : WSp) : WS :=
  (wSeq (wIfS (wB (wOp rEqW (wVar 2) (wVar 1)))
  (wRet (wC (.bl false)))
  wNext)
  (wFor (wCall sp_law_doors (wCons (wOp rIxW (wVar 0) (wVar 2)) wNil)) (gNameW 3)
  (l_law_as_met_1 sp_law_doors)))
def t_law_as_met (sp_law_doors : WSp) : WS :=
  (wSeq (wAsg (wC (.int 1)) (gNameW 1))
  (wSeq (wForR1 (wCons (wCall rLenW (wCons (wVar 0) wNil)) wNil) (gNameW 2)
  (l_law_as_met_2 sp_law_doors))
  (wRet (wOp rEqW (wVar 1) (wCall rLenW (wCons (wVar 0) wNil))))))
/-- law_changed: row rooms at little way caught shut sort -/
def l_law_changed_1 (sp_law_taken : WSp) : WS :=
  (wRet (wOp rAddW (wOp rAddW (wSl (wVar 1) wNoPart (wPart (wVar 2))) (wLst (wCons (wTup (wCons (wVar 3) (wCons (wVar 4) (wCons (wVar 5) (wCons (wVar 6) wNil))))) wNil))) (wSl (wVar 1) (wPart (wOp rAddW (wVar 2) (wC (.int 1)))) wNoPart)))
def l_law_changed_2 (sp_law_taken : WSp) : WS :=
  (wSeq (wIfS (wB (wOp rEqW (wVar 7) (wC (.int 3))))
  (wAsg (wTup (wCons (wC (.str w_go)) (wCons (wCall sp_law_taken (wCons (wVar 0) (wCons (wCall rLenW (wCons (wVar 1) wNil)) wNil))) wNil))) (gNameW 4))
  wNext)
  (l_law_changed_1 sp_law_taken))
def l_law_changed_3 (sp_law_taken : WSp) : WS :=
  (wSeq (wIfS (wB (wOp rEqW (wVar 7) (wC (.int 2))))
  (wAsg (wC .non) (gNameW 6))
  wNext)
  (l_law_changed_2 sp_law_taken))
def l_law_changed_4 (sp_law_taken : WSp) : WS :=
  (wSeq (wIfS (wB (wOp rEqW (wVar 7) (wC (.int 1))))
  (wAsg (wC .non) (gNameW 5))
  wNext)
  (l_law_changed_3 sp_law_taken))
def t_law_changed (sp_law_taken : WSp) : WS :=
  (wSeq (wAsg (wCall sp_law_taken (wCons (wVar 0) (wCons (wCall rLenW (wCons (wVar 1) wNil)) wNil))) (gNameW 2))
  (wSeq (wAsg (wOp rIxW (wVar 1) (wVar 2)) (gTupW 4 (gConsW (gNameW 3) (gConsW (gNameW 4) (gConsW (gNameW 5) (gConsW (gNameW 6) gNilW))))))
  (wSeq (wAsg (wCall sp_law_taken (wCons (wVar 0) (wCons (wC (.int 4)) wNil))) (gNameW 7))
  (wSeq (wIfS (wB (wOp rEqW (wVar 7) (wC (.int 0))))
  (wAsg (wOp rAddW (wVar 3) (wTup (wCons (wTup (wCons (wC (.str w_say)) (wCons (wTup (wCons (wC (.str w_num)) (wCons (wC (.int 5)) wNil))) wNil))) wNil))) (gNameW 3))
  wNext)
  (l_law_changed_4 sp_law_taken)))))
/-- law_chain: row many odd rooms k -/
def l_law_chain_1 (sp_law_taken : WSp) : WS :=
  (wDrop (wLm rAppW (wVar 3) (wCons (wTup (wCons (wTup (wCons (wTup (wCons (wC (.str w_say)) (wCons (wTup (wCons (wC (.str w_num)) (wCons (wOp rAddW (wC (.int 1)) (wCall rIntW (wCons (wOp rEqW (wVar 4) (wVar 2)) wNil))) wNil))) wNil))) wNil)) (wCons (wTup (wCons (wC (.str w_go)) (wCons (wOp rAddW (wVar 4) (wC (.int 1))) wNil))) (wCons (wC .non) (wCons (wC .non) wNil))))) wNil)))
def t_law_chain (sp_law_taken : WSp) : WS :=
  (wSeq (wAsg (wOp rAddW (wC (.int 1)) (wCall sp_law_taken (wCons (wVar 0) (wCons (wC (.int 30)) wNil)))) (gNameW 1))
  (wSeq (wAsg (wCall sp_law_taken (wCons (wVar 0) (wCons (wVar 1) wNil))) (gNameW 2))
  (wSeq (wAsg (wLst wNil) (gNameW 3))
  (wSeq (wForR1 (wCons (wVar 1) wNil) (gNameW 4)
  (l_law_chain_1 sp_law_taken))
  (wRet (wOp rAddW (wVar 3) (wLst (wCons (wTup (wCons (wTup wNil) (wCons (wTup (wCons (wC (.str w_end)) (wCons (wTup (wCons (wC (.str w_num)) (wCons (wC (.int 0)) wNil))) wNil))) (wCons (wC .non) (wCons (wC .non) wNil))))) wNil))))))))
/-- law_stands_for: old new stands left at one other tos to door -/
def l_law_stands_for_1 (sp_law_doors sp_law_shape : WSp) : WS :=
  (wIfS (wB (wOp rNeW (wOp rDGet (wVar 2) (wVar 9)) (wVar 8)))
  (wRet (wC (.bl false)))
  wNext)
def l_law_stands_for_2 (sp_law_doors sp_law_shape : WSp) : WS :=
  (wSeq (wIfS (wB (wOp (rInDk true) (wVar 9) (wVar 2)))
  (wSeq (wDPut (wVar 2) (wVar 9) (wVar 8))
  (wDrop (wLm rAppW (wVar 3) (wCons (wVar 9) wNil))))
  wNext)
  (l_law_stands_for_1 sp_law_doors sp_law_shape))
def l_law_stands_for_3 (sp_law_doors sp_law_shape : WSp) : WS :=
  (wSeq (wAsg (wLm0 rPopW (wVar 3)) (gNameW 4))
  (wSeq (wAsg (wTup (wCons (wOp rIxW (wVar 0) (wVar 4)) (wCons (wOp rIxW (wVar 1) (wOp rDGet (wVar 2) (wVar 4))) wNil))) (gTupW 2 (gConsW (gNameW 5) (gConsW (gNameW 6) gNilW))))
  (wSeq (wAsg (wCall sp_law_doors (wCons (wVar 6) wNil)) (gNameW 7))
  (wSeq (wIfS (wOr (wB (wOp rNeW (wCall sp_law_shape (wCons (wVar 5) wNil)) (wCall sp_law_shape (wCons (wVar 6) wNil)))) (wB (wOp rNeW (wLc (wVar 7) 8 (wNot (wB (wChain rLe rLt (wC (.int 0)) (wVar 8) (wCall rLenW (wCons (wVar 1) wNil))))) (wVar 8)) (wLst wNil))))
  (wRet (wC (.bl false)))
  wNext)
  (wForZip (wCons (wCall sp_law_doors (wCons (wVar 5) wNil)) (wCons (wVar 7) wNil)) (gTupW 2 (gConsW (gNameW 9) (gConsW (gNameW 8) gNilW)))
  (l_law_stands_for_2 sp_law_doors sp_law_shape))))))
def t_law_stands_for (sp_law_doors sp_law_shape : WSp) : WS :=
  (wSeq (wAsg (wDisp (((wC (.int 0)), (wC (.int 0))) :: [])) (gNameW 2))
  (wSeq (wAsg (wLst (wCons (wC (.int 0)) wNil)) (gNameW 3))
  (wSeq (wWhile (wB (wOp rNeW (wVar 3) (wLst wNil)))
  (l_law_stands_for_3 sp_law_doors sp_law_shape))
  (wRet (wC (.bl true))))))
/-- law_is_kept: fork first last rooms -/
def t_law_is_kept (sp_joined : WSp) : WS :=
  (wSeq (wAsg (wTup (wCons (wTup (wCons (wC (.str w_fork)) (wCons (wTup (wCons (wC (.str w_slot)) (wCons (wC (.int 0)) wNil))) (wCons (wC (.int 3)) (wCons (wC (.int 3)) wNil))))) (wCons (wTup (wCons (wC (.str w_end)) (wCons (wTup (wCons (wC (.str w_num)) (wCons (wC (.int 1)) wNil))) wNil))) (wCons (wTup (wCons (wC (.str w_end)) (wCons (wTup (wCons (wC (.str w_num)) (wCons (wC (.int 2)) wNil))) wNil))) wNil)))) (gTupW 3 (gConsW (gNameW 0) (gConsW (gNameW 1) (gConsW (gNameW 2) gNilW)))))
  (wSeq (wAsg (wLst (wCons (wTup (wCons (wTup wNil) (wCons (wTup (wCons (wC (.str w_fork)) (wCons (wTup (wCons (wC (.str w_slot)) (wCons (wC (.int 0)) wNil))) (wCons (wC (.int 1)) (wCons (wC (.int 2)) wNil))))) (wCons (wC .non) (wCons (wC .non) wNil))))) (wCons (wTup (wCons (wTup wNil) (wCons (wVar 0) (wCons (wTup (wCons (wC .non) (wCons (wC (.int 3)) wNil))) (wCons (wC (.int 3)) wNil))))) (wCons (wTup (wCons (wTup wNil) (wCons (wVar 0) (wCons (wTup (wCons (wC .non) (wCons (wC (.int 3)) wNil))) (wCons (wC (.int 4)) wNil))))) wNil)))) (gNameW 3))
  (wSeq (wAsg (wOp rAddW (wVar 3) (wLst (wCons (wTup (wCons (wTup wNil) (wCons (wVar 1) (wCons (wC .non) (wCons (wC .non) wNil))))) (wCons (wTup (wCons (wTup wNil) (wCons (wVar 2) (wCons (wC .non) (wCons (wC .non) wNil))))) wNil)))) (gNameW 3))
  (wRet (wOp rEqW (wCall sp_joined (wCons (wTup (wCons (wC (.int 1)) (wCons (wC (.int 1)) (wCons (wCall rListW (wCons (wVar 3) wNil)) wNil)))) wNil)) (wTup (wCons (wC (.int 1)) (wCons (wC (.int 1)) (wCons (wVar 3) wNil)))))))))
/-- law: script row turn params slots rooms handed found told room -/
def l_law_1 (sp_law_is_kept sp_law_typed sp_law_grown sp_law_taken sp_law_chain sp_law_changed sp_joined sp_law_stands_for sp_law_none_alike sp_law_as_met : WSp) : WS :=
  (wSeq (wAsg (wCall rListW (wCons (wVar 5) wNil)) (gNameW 6))
  (wSeq (wAsg (wCall sp_joined (wCons (wTup (wCons (wVar 3) (wCons (wVar 4) (wCons (wVar 6) wNil)))) wNil)) (gNameW 7))
  (wSeq (wIfS (wOr (wNot (wB (wCall rIsiW (wCons (wVar 7) (wCons (wC (.ty "tuple")) wNil))))) (wOr (wB (wOp rNeW (wSl (wVar 7) wNoPart (wPart (wC (.int 2)))) (wTup (wCons (wVar 3) (wCons (wVar 4) wNil))))) (wNot (wB (wCall rIsiW (wCons (wOp rIxW (wVar 7) (wC (.int 2))) (wCons (wC (.ty "list")) wNil)))))))
  (wRet (wC (.bl false)))
  wNext)
  (wSeq (wAsg (wCall rListW (wCons (wOp rIxW (wVar 7) (wC (.int 2))) wNil)) (gNameW 8))
  (wSeq (wIfS (wOr (wB (wOp rNeW (wVar 6) (wVar 5))) (wOr (wB (wOp rEqW (wVar 8) (wLst wNil))) (wB (wOp rNeW (wLc (wVar 8) 9 (wNot (wB (wCall rIsiW (wCons (wVar 9) (wCons (wC (.ty "tuple")) wNil))))) (wVar 9)) (wLst wNil)))))
  (wRet (wC (.bl false)))
  wNext)
  (wSeq (wIfS (wOr (wNot (wB (wCall sp_law_stands_for (wCons (wVar 5) (wCons (wVar 8) wNil))))) (wOr (wNot (wB (wCall sp_law_none_alike (wCons (wVar 8) wNil)))) (wNot (wB (wCall sp_law_as_met (wCons (wVar 8) wNil))))))
  (wRet (wC (.bl false)))
  wNext)
  (wSeq (wIfS (wB (wOp rNeW (wCall sp_joined (wCons (wTup (wCons (wVar 3) (wCons (wVar 4) (wCons (wCall rListW (wCons (wVar 8) wNil)) wNil)))) wNil)) (wTup (wCons (wVar 3) (wCons (wVar 4) (wCons (wVar 8) wNil))))))
  (wRet (wC (.bl false)))
  wNext)
  (wSeq (wDrop (wLm0 rClrW (wOp rIxW (wVar 7) (wC (.int 2)))))
  (wIfS (wOr (wB (wOp rNeW (wCall sp_joined (wCons (wTup (wCons (wVar 3) (wCons (wVar 4) (wCons (wVar 6) wNil)))) wNil)) (wTup (wCons (wVar 3) (wCons (wVar 4) (wCons (wVar 8) wNil)))))) (wB (wOp rNeW (wVar 6) (wVar 5))))
  (wRet (wC (.bl false)))
  wNext)))))))))
def l_law_2 (sp_law_is_kept sp_law_typed sp_law_grown sp_law_taken sp_law_chain sp_law_changed sp_joined sp_law_stands_for sp_law_none_alike sp_law_as_met : WSp) : WS :=
  (wSeq (wIfS (wB (wOp rEqW (wCall sp_law_taken (wCons (wVar 1) (wCons (wC (.int 2)) wNil))) (wC (.int 0))))
  (wAsg (wCall sp_law_changed (wCons (wVar 1) (wCons (wVar 5) wNil))) (gNameW 5))
  wNext)
  (l_law_1 sp_law_is_kept sp_law_typed sp_law_grown sp_law_taken sp_law_chain sp_law_changed sp_joined sp_law_stands_for sp_law_none_alike sp_law_as_met))
def l_law_3 (sp_law_is_kept sp_law_typed sp_law_grown sp_law_taken sp_law_chain sp_law_changed sp_joined sp_law_stands_for sp_law_none_alike sp_law_as_met : WSp) : WS :=
  (wSeq (wAsg (wOp rIxW (wCall sp_law_typed (wCons (wVar 1) (wCons (wC (.int 7)) wNil))) (wC (.int 0))) (gTupW 3 (gConsW (gNameW 3) (gConsW (gNameW 4) (gConsW (gNameW 5) gNilW)))))
  (wSeq (wAsg (wCall sp_law_grown (wCons (wVar 1) (wCons (wVar 5) (wCons (wC (.int 3)) wNil)))) (gNameW 5))
  (wSeq (wIfS (wB (wOp rEqW (wCall sp_law_taken (wCons (wVar 1) (wCons (wC (.int 4)) wNil))) (wC (.int 3))))
  (wAsg (wCall sp_law_chain (wCons (wVar 1) wNil)) (gNameW 5))
  wNext)
  (l_law_2 sp_law_is_kept sp_law_typed sp_law_grown sp_law_taken sp_law_chain sp_law_changed sp_joined sp_law_stands_for sp_law_none_alike sp_law_as_met))))
def t_law (sp_law_is_kept sp_law_typed sp_law_grown sp_law_taken sp_law_chain sp_law_changed sp_joined sp_law_stands_for sp_law_none_alike sp_law_as_met : WSp) : WS :=
  (wSeq (wAsg (wLst (wCons (wVar 0) (wCons (wC (.int 0)) (wCons (wC (.int 0)) (wCons (wC (.int 0)) wNil))))) (gNameW 1))
  (wSeq (wIfS (wNot (wB (wCall sp_law_is_kept wNil)))
  (wRet (wC (.bl false)))
  wNext)
  (wSeq (wForR1 (wCons (wC (.int 3)) wNil) (gNameW 2)
  (l_law_3 sp_law_is_kept sp_law_typed sp_law_grown sp_law_taken sp_law_chain sp_law_changed sp_joined sp_law_stands_for sp_law_none_alike sp_law_as_met))
  (wRet (wC (.bl true))))))
theorem exW_pre (ex : Ex) : ∃ ws, ex.W = .tup ws ∧ cutW ws none (some (K11.exFirst ex : Int)) = exPre ex ∧ ws.length = K11.exLen ex := by
  cases ex <;> exact ⟨_, rfl, cut_take, rfl⟩
def sp_law_shape : WSp := fun ws S Q => ∃ r : Rm, ws = [r.W] ∧ ∀ S', Le S S' → Q (shapeW r) S'
theorem r_law_shape : ∀ ws S Q, Up Q → sp_law_shape ws S Q → t_law_shape { nx := fun _ S' => Q .non S', rt := Q } (startW 5 ws) S := by
  rintro ws S Q up ⟨⟨lit, ex, ct, sh⟩, rfl, q⟩
  obtain ⟨h1, e1, l1⟩ := K11.exW_head ex
  obtain ⟨h2, e2, c2, l2⟩ := exW_pre ex
  unfold t_law_shape
  simp only [Rm.W, shapeW] at q ⊢
  generalize hT : (wDGet2 (wDisp (((wC (.str w_go)), (wC (.int 1))) :: (((wC (.str w_fork)), (wC (.int 2))) :: (((wC (.str w_give)), (wC (.int 3))) :: (((wC (.str w_hand)), (wC (.int 4))) :: []))))) (wOp rIxW (wVar 2) (wC (.int 0))) (wCall rLenW (wCons (wVar 2) wNil))) = TD
  walk_at "wx"
  rw [e2]
  (try walk_at "wx")
  rw [← hT]
  refine K11.first_ok (ex := ex) (fun S' Q' q' => ?_) (fun S' Q' q' => ?_) fun S1 le1 => ?_
  · rw [← e2, e1]
    walk_at "wx"
    exact q'
  · walk_at "wx"
    rw [l2]
    exact q'
  walk_at "wx"
  rw [c2]
  cases ct with
  | none =>
    simp only [ctW, ctPre] at q ⊢
    cases sh with
    | none =>
      simp only [optN, Option.map_none, optI] at q ⊢
      walk_at "wx"
      exact q S1 le1
    | some j =>
      simp only [optN, Option.map_some, optI] at q ⊢
      walk_at "wx"
      exact q S1 le1
  | some kr =>
    obtain ⟨k, j⟩ := kr
    simp only [ctW, ctPre] at q ⊢
    have ec : ∀ a b : W, cutW [a, b] none (some 1) = [a] := fun a b => cut_take (n := 1)
    cases sh with
    | none =>
      generalize optN k = ok at *
      simp only [optN, Option.map_none, optI] at q ⊢
      repeat (first | simp only [ec] | walk_at "wx")
      exact q S1 le1
    | some i =>
      generalize optN k = ok at *
      simp only [optN, Option.map_some, optI] at q ⊢
      repeat (first | simp only [ec] | walk_at "wx")
      exact q S1 le1
/-! ### as met -/
theorem met_in {D : WD} {Z : Sto → Prop} {x0 x2 : Option W} {S : Sto} (hz : Z S) {m' : Nat} (q : ∀ x3, D.nx [x0, some (.int (m' : Nat)), x2, x3] S) : ∀ (ds : List Nat) (m : Nat) (x3 : Option W), metI m ds = some m' → m + ds.length ≤ 100000 →
    forW Z (gNameW 3) (l_law_as_met_1 sp_law_doors) (natsW ds) D [x0, some (.int (m : Nat)), x2, x3] S
  | [], m, x3, h, hl => by
    simp only [metI, Option.some.injEq] at h
    subst h
    simp only [natsW, List.map_nil, forW]
    exact ⟨hz, q _⟩
  | d :: ds, m, x3, h, hl => by
    rw [metI] at h
    split at h
    · rename_i le
      have ih := fun x3 => met_in hz q ds (max m (d + 1)) x3 h (by simp at hl; omega)
      simp only [natsW, List.map_cons, forW] at ih ⊢
      refine ⟨hz, ?_⟩
      unfold l_law_as_met_1
      have h1 : (0 : Int) ≤ (d : Int) := by omega
      have h2 : (d : Int) ≤ (m : Int) := by omega
      have h3 : (if (d : Int) + 1 > (m : Int) then (d : Int) + 1 else (m : Int)) = ((max m (d + 1) : Nat) : Int) := by split <;> omega
      repeat (first | simp only [h1, h2, h3, decide_true] | walk_at "wx")
      exact ih _
    · cases h
def sp_law_as_met : WSp := fun ws S Q => ∃ (pa : Addr) (T : List Rm), ws = [.ref pa] ∧ S pa = some (.lst (T.map Rm.W)) ∧ MetFrom T 0 1 ∧ T.length ≤ 1000 ∧ ∀ S', Le S S' → Q (.bl true) S'
theorem met_out {pa : Addr} {T : List Rm} {D : WD} {S0 : Sto} (hT : T.length ≤ 1000) (hp : S0 pa = some (.lst (T.map Rm.W))) (q : ∀ S' x2 x3, Le S0 S' → D.nx [some (.ref pa), some (.int (T.length : Nat)), x2, x3] S') : ∀ (k a m : Nat) (S : Sto) (x2 x3 : Option W), MetFrom T a m → a + k = T.length → Le S0 S →
    forW (fun _ => True) (gNameW 2) (l_law_as_met_2 sp_law_doors) ((List.range' a k).map fun i => W.int (i : Nat)) D [some (.ref pa), some (.int (m : Nat)), x2, x3] S
  | 0, a, m, S, x2, x3, h, hk, l => by
    simp only [List.range', List.map_nil, forW]
    cases h with
    | done _ e => subst e; exact ⟨trivial, q S _ _ l⟩
    | step _ _ m' h1 h2 => omega
  | k + 1, a, m, S, x2, x3, h, hk, l => by
    cases h with
    | done _ e => omega
    | step _ _ m' h1 h2 h3 h4 =>
      have ih := fun S x2 x3 => met_out (D := D) hT hp q k (a + 1) m' S x2 x3 h4 (by omega)
      simp only [List.range', List.map_cons, forW]
      generalize hL : forW (fun _ => True) (gNameW 2) (l_law_as_met_2 sp_law_doors) ((List.range' (a + 1) k).map fun i => W.int (i : Nat)) D = L at *
      refine ⟨trivial, ?_⟩
      unfold l_law_as_met_2
      have hS := l _ _ hp
      have ea := rms_at (rms := T) (d := a) (by omega)
      have ne : ¬((a : Int) = (m : Int)) := by omega
      have dlen : (rmAt T a).doors.length ≤ 100 := by
        generalize rmAt T a = r
        obtain ⟨l, x, c, s⟩ := r
        cases x <;> cases c <;> cases s <;> simp [Rm.doors, Ex.doors]
      repeat (first | simp only [hS, onL_lst, ea, onS_some, decide_eq_false ne] | walk_at "wx")
      refine ⟨rmAt T a, rfl, fun S1 p1 l1 f1 e1 => ?_⟩
      simp only [so_l e1, onQ_some]
      refine met_in (S := S1) (so_l e1) (fun x3' => ?_) (rmAt T a).doors m _ h3 (by omega)
      exact ih S1 _ _ (l.trans l1)
theorem r_law_as_met : ∀ ws S Q, Up Q → sp_law_as_met ws S Q → t_law_as_met sp_law_doors { nx := fun _ S' => Q .non S', rt := Q } (startW 4 ws) S := by
  rintro ws S Q up ⟨pa, T, rfl, hp, M, hT, q⟩
  unfold t_law_as_met
  have ll : ∀ S', S' pa = some (.lst (T.map Rm.W)) → ∀ Q', rLenW [.ref pa] S' Q' = Q' (.int (T.length : Int)) S' := fun S' h Q' => by rw [len_l h, List.length_map]
  have l0 := ll S hp
  generalize hL : l_law_as_met_2 sp_law_doors = LB
  repeat (first | simp only [l0] | walk_at "wx")
  refine ⟨⟨by omega, by omega⟩, ?_⟩
  rw [Int.toNat_natCast, List.range_eq_range']
  subst hL
  refine met_out hT hp (fun S' x2 x3 l => ?_) T.length 0 1 S _ _ M (by omega) Le.refl
  have l1 := ll S' (l _ _ hp)
  repeat (first | simp only [l1, decide_true] | walk_at "wx")
  exact q S' l
/-! ### stands for -/
def stD (f : Nat → Nat) (ks : List Nat) : List (Key × W) := ks.map fun (d : Nat) => (.inl (d : Int), .int (f d : Nat))
theorem stD_val {f : Nat → Nat} : ∀ (ks : List Nat) (d : Nat), valW (stD f ks) (.inl (d : Int)) = if d ∈ ks then some (.int (f d : Nat)) else none
  | [], d => by simp [stD, valW]
  | x :: ks, d => by
    have ih := stD_val (f := f) ks d
    simp only [stD, List.map_cons] at ih ⊢
    rw [val_cons, ih]
    by_cases e : x = d
    · subst e; simp
    · have e1 : ¬((Sum.inl (x : Int) : Key) = .inl (d : Int)) := fun z => e (by injection z with z; omega)
      rw [if_neg e1]
      by_cases m : d ∈ ks
      · rw [if_pos m, if_pos (List.mem_cons_of_mem _ m)]
      · rw [if_neg m, if_neg (fun z => (List.mem_cons.mp z).elim (fun z => e z.symm) m)]
theorem stD_put {f : Nat → Nat} {ks : List Nat} {d : Nat} (h : d ∉ ks) : putKW (stD f ks) (.inl (d : Int)) (.int (f d : Nat)) = stD f (ks ++ [d]) := by
  rw [put_new (by rw [stD_val, if_neg h])]
  simp [stD]
structure Lf (n : Nat) (P : Nat → Prop) (ks ls : List Nat) : Prop where
  nd : ks.Nodup
  lt : ∀ k ∈ ks, k < n ∧ P k
  sub : ∀ l ∈ ls, l ∈ ks
  few : ls.length ≤ ks.length
theorem Lf.len {n : Nat} {P : Nat → Prop} {ks ls : List Nat} (h : Lf n P ks ls) : ks.length ≤ n := nodup_lt n ks h.nd fun k hk => (h.lt k hk).1
theorem Lf.new {n : Nat} {P : Nat → Prop} {ks ls : List Nat} (h : Lf n P ks ls) {d : Nat} (hd : d < n ∧ P d) (m : d ∉ ks) : Lf n P (ks ++ [d]) (ls ++ [d]) := by
  refine ⟨?_, fun k hk => ?_, fun l hl => ?_, by rw [List.length_append, List.length_append]; have := h.few; simp; omega⟩
  · rw [List.nodup_append]
    exact ⟨h.nd, by simp, fun a ha b hb => by simp at hb; subst hb; exact fun e => m (e ▸ ha)⟩
  · rcases List.mem_append.mp hk with hk | hk
    · exact h.lt k hk
    · rw [List.mem_singleton.mp hk]; exact hd
  · rcases List.mem_append.mp hl with hl | hl
    · exact List.mem_append_left _ (h.sub l hl)
    · exact List.mem_append_right _ hl
theorem zip_in {n : Nat} (hn : n ≤ 100000) {P : Nat → Prop} {f : Nat → Nat} {ps pl : Addr} (nsl : ps ≠ pl) {Z : Sto → Prop} {S0 : Sto} (hZ : ∀ S', K11.Fr2 ps pl S0 S' → Z S') {D : WD} {x0 x1 x4 x5 x6 x7 : Option W} {c : Nat}
    (q : ∀ ks ls S' x8 x9, Lf n P ks ls → ls.length + n = c + ks.length → K11.Fr2 ps pl S0 S' → S' ps = some (.dk (stD f ks)) → S' pl = some (.lst (natsW ls)) → D.nx [x0, x1, some (.ref ps), some (.ref pl), x4, x5, x6, x7, x8, x9] S') :
    ∀ (ds : List Nat) (ks ls : List Nat) (S : Sto) (x8 x9 : Option W), (∀ d ∈ ds, d < n ∧ P d) → Lf n P ks ls → ls.length + n = c + ks.length → K11.Fr2 ps pl S0 S → S ps = some (.dk (stD f ks)) → S pl = some (.lst (natsW ls)) →
    forW Z (gTupW 2 (gConsW (gNameW 9) (gConsW (gNameW 8) gNilW))) (l_law_stands_for_2 sp_law_doors sp_law_shape) (pairsW (natsW ds) (natsW (ds.map f))) D [x0, x1, some (.ref ps), some (.ref pl), x4, x5, x6, x7, x8, x9] S
  | [], ks, ls, S, x8, x9, hd, L, hc, F, h1, h2 => by
    simp only [natsW, List.map_nil, pairsW, forW]
    exact ⟨hZ S F, q ks ls S _ _ L hc F h1 h2⟩
  | d :: ds, ks, ls, S, x8, x9, hd, L, hc, F, h1, h2 => by
    have ih := fun ks ls S x8 x9 => zip_in hn nsl hZ q ds ks ls S x8 x9 fun x hx => hd x (List.mem_cons_of_mem _ hx)
    have d0 := hd d List.mem_cons_self
    simp only [natsW, List.map_cons, pairsW, forW] at ih ⊢
    refine ⟨hZ S F, ?_⟩
    have ln := L.len
    have hv := stD_val (f := f) ks d
    unfold l_law_stands_for_2 l_law_stands_for_1
    by_cases m : d ∈ ks
    · rw [if_pos m] at hv
      have hg : ∀ Q' : WQ, rDGet (.ref ps) (.int (d : Int)) S Q' = Q' (.int (f d : Nat)) S := fun Q' => dget_i h1 hv
      repeat (first | simp only [x_notindk h1, hv, Option.isSome_some, Bool.not_true, hg] | walk_at "wx")
      (try simp only [decide_true, Bool.not_true, if_false, Bool.false_eq_true])
      exact ih ks ls S _ _ L hc F h1 h2
    · rw [if_neg m] at hv
      have hput := stD_put (f := f) m
      have e1 : put S ps (.dk (stD f (ks ++ [d]))) ps = some (.dk (stD f (ks ++ [d]))) := put_same
      have e2 : put S ps (.dk (stD f (ks ++ [d]))) pl = some (.lst (natsW ls)) := by rw [put_ne (Ne.symm nsl)]; exact h2
      have hv2 := stD_val (f := f) (ks ++ [d]) d
      rw [if_pos (by simp)] at hv2
      have kl : (stD f ks).length < sizeLine := small_len (by simp [stD]; omega)
      have lf := L.few
      repeat (first | simp only [x_notindk h1, hv, Option.isSome_none, Bool.not_false, dput_i h1, hput] | walk_at "wx")
      refine ⟨kl, ?_⟩
      have F1 : K11.Fr2 ps pl S0 (put S ps (.dk (stD f (ks ++ [d])))) := fun y o n1 n2 h => by rw [put_ne n1]; exact F y o n1 n2 h
      generalize put S ps (.dk (stD f (ks ++ [d]))) = S1 at *
      (try walk_at "wx")
      refine ⟨is_lst e2, ?_⟩
      simp only [e2, onL_lst]
      refine ⟨small_len (by simp [natsW]; omega), ?_⟩
      have e3 : put S1 pl (.lst (natsW (ls ++ [d]))) pl = some (.lst (natsW (ls ++ [d]))) := put_same
      have e4 : put S1 pl (.lst (natsW (ls ++ [d]))) ps = some (.dk (stD f (ks ++ [d]))) := by rw [put_ne nsl]; exact e1
      have F2 : K11.Fr2 ps pl S0 (put S1 pl (.lst (natsW (ls ++ [d])))) := fun y o n1 n2 h => by rw [put_ne n2]; exact F1 y o n1 n2 h
      have ew : natsW ls ++ [W.int (d : Int)] = natsW (ls ++ [d]) := by simp [natsW]
      rw [ew]
      generalize put S1 pl (.lst (natsW (ls ++ [d]))) = S2 at *
      have hg : ∀ Q' : WQ, rDGet (.ref ps) (.int (d : Int)) S2 Q' = Q' (.int (f d : Nat)) S2 := fun Q' => dget_i e4 hv2
      repeat (first | simp only [hg] | walk_at "wx")
      (try simp only [decide_true, Bool.not_true, if_false, Bool.false_eq_true])
      exact ih (ks ++ [d]) (ls ++ [d]) S2 _ _ (L.new d0 m) (by simp; omega) F2 e4 e3
end K10
end WL
namespace WL
open PySem L2
namespace K10
open K11 (sp_law_doors sp_law_typed sp_law_grown sp_joined sp_law_renamed sp_law_typed_room t_law_doors l_law_doors_1 r_law_doors t_law_typed l_law_typed_1 l_law_typed_2 r_law_typed t_law_grown l_law_grown_1 l_law_grown_2 l_law_grown_3 r_law_grown t_law_renamed l_law_renamed_1 r_law_renamed t_law_typed_room l_law_typed_room_1 l_law_typed_room_2 r_law_typed_room t_joined r_joined)
theorem ints_okW60 (l : List Nat) : okWs 60 (natsW l) = true := okWs_of fun w hw => by
  obtain ⟨i, _, rfl⟩ := List.mem_map.mp hw
  exact int_okW _ _
theorem le_fr2 {a b : Addr} {S0 S1 S' : Sto} (l : Le S0 S1) (F : K11.Fr2 a b S1 S') (h1 : S0 a = none) (h2 : S0 b = none) : Le S0 S' := fun y o e => F y o (ne_none e h1) (ne_none e h2) (l y o e)
theorem natsW_snoc (l : List Nat) (d : Nat) : natsW (l ++ [d]) = natsW l ++ [W.int (d : Int)] := by simp [natsW]
theorem doors_few (r : Rm) : r.doors.length ≤ 4 := by
  obtain ⟨l, x, c, s⟩ := r
  cases x <;> cases c <;> cases s <;> simp [Rm.doors, Ex.doors]
theorem x_popL {a : Addr} {S : Sto} {xs : List W} {y : W} {Q : WQ} (h : S a = some (.lst (xs ++ [y]))) (q : Q y (put S a (.lst xs))) : rPopW (.ref a) [] S Q := by
  unfold rPopW
  simp only [h]
  rw [List.length_append, List.length_singleton, Nat.add_sub_cancel, List.getElem?_append_right (Nat.le_refl _), Nat.sub_self]
  simp only [List.getElem?_cons_zero, List.take_left]
  exact q
section
variable {mc : Mc} {ms : List Mc}
theorem stands_while (ok : mc.ok ms) (sm : mc.rooms.length ≤ 1000) {pa pb ps pl : Addr} (nsl : ps ≠ pl) {S0 : Sto} (ha : S0 pa = some (.lst (mc.rooms.map Rm.W))) (hb : S0 pb = some (.lst ((tdR mc.rooms).map Rm.W))) (f1 : S0 ps = none) (f2 : S0 pl = none)
    {D : WD} (q : ∀ S' x4 x5 x6 x7 x8 x9, Le S0 S' → D.nx [some (.ref pa), some (.ref pb), some (.ref ps), some (.ref pl), x4, x5, x6, x7, x8, x9] S') :
    ∀ (fuel : Nat) (ks ls : List Nat) (S : Sto) (x4 x5 x6 x7 x8 x9 : Option W), Lf mc.rooms.length (fun d => kdF mc.rooms d ∈ (tidyI mc.rooms 0).map (kdF mc.rooms)) ks ls → ls.length + mc.rooms.length < fuel + ks.length → Le S0 S → S ps = some (.dk (stD (nmF mc.rooms) ks)) → S pl = some (.lst (natsW ls)) →
    whileN (wB (wOp rNeW (wVar 3) (wLst wNil))) (l_law_stands_for_3 sp_law_doors sp_law_shape) fuel D [some (.ref pa), some (.ref pb), some (.ref ps), some (.ref pl), x4, x5, x6, x7, x8, x9] S
  | 0, ks, ls, S, x4, x5, x6, x7, x8, x9, L, hf, l, h1, h2 => by
    have := L.len
    omega
  | fuel + 1, ks, ls, S, x4, x5, x6, x7, x8, x9, L, hf, l, h1, h2 => by
    have dl := join_dl ok
    have nk := join_nk ok
    have h0 := ok.some_
    rw [x_while1]
    have ih := fun ks ls S x4 x5 x6 x7 x8 x9 => stands_while (D := D) ok sm nsl ha hb f1 f2 q fuel ks ls S x4 x5 x6 x7 x8 x9
    generalize hL : whileN (wB (wOp rNeW (wVar 3) (wLst wNil))) (l_law_stands_for_3 sp_law_doors sp_law_shape) fuel D = LL at *
    generalize hB : l_law_stands_for_3 sp_law_doors sp_law_shape = LB
    walk_at "wx"
    intro p hp
    have l1 := Le.put (o := .lst []) hp
    have h1' := l1 _ _ h1
    have h2' := l1 _ _ h2
    have hpe : put S p (.lst []) p = some (.lst []) := put_same
    have ll := l.trans l1
    generalize put S p (.lst []) = S1 at *
    refine ne_empty h2' hpe (ints_okW60 ls) ?_
    rcases List.eq_nil_or_concat ls with rfl | ⟨l0, a, rfl⟩
    · simp only [natsW, List.map_nil, List.isEmpty_nil, Bool.not_true, Bool.false_eq_true, if_false]
      exact q _ _ _ _ _ _ _ ll
    · have ie : (natsW (l0 ++ [a])).isEmpty = false := by simp [natsW]
      rw [List.concat_eq_append] at *
      rw [ie]
      simp only [Bool.not_false, if_true]
      subst hB
      have ak := L.sub a (by simp)
      obtain ⟨an, ka⟩ := L.lt a ak
      obtain ⟨s1, s2, s3, s4⟩ := stands_ok dl h0 nk an ka
      have tl := (tidy_len (params := 0) (slots := 0) dl h0).2
      have L1 : Lf mc.rooms.length (fun d => kdF mc.rooms d ∈ (tidyI mc.rooms 0).map (kdF mc.rooms)) ks l0 := ⟨L.nd, L.lt, fun x hx => L.sub x (by simp [hx]), by have := L.few; simp at this; omega⟩
      have hva := stD_val (f := nmF mc.rooms) ks a
      rw [if_pos ak] at hva
      have la := rms_at (rms := mc.rooms) an
      have lb := rms_at (rms := tdR mc.rooms) s1
      have oka := shape_okW (ok.rooms _ (rm_mem an))
      unfold l_law_stands_for_3
      walk_at "wx"
      rw [natsW_snoc] at h2'
      refine ⟨is_lst h2', x_popL h2' ?_⟩
      have F1 : K11.Fr2 ps pl S1 (put S1 pl (.lst (natsW l0))) := fun y o n1 n2 h => by rw [put_ne n2]; exact h
      have e1 : put S1 pl (.lst (natsW l0)) ps = some (.dk (stD (nmF mc.rooms) ks)) := by rw [put_ne nsl]; exact h1'
      have e2 : put S1 pl (.lst (natsW l0)) pl = some (.lst (natsW l0)) := put_same
      have l2 := le_fr2 ll F1 f1 f2
      generalize put S1 pl (.lst (natsW l0)) = S2 at *
      have ha2 := l2 _ _ ha
      have hb2 := l2 _ _ hb
      have hg : ∀ Q' : WQ, rDGet (.ref ps) (.int (a : Int)) S2 Q' = Q' (.int (nmF mc.rooms a : Nat)) S2 := fun Q' => dget_i e1 hva
      repeat (first | simp only [ha2, hb2, hg, la, lb, onL_lst, onS_some] | walk_at "wx")
      refine ⟨_, rfl, fun S3 p7 l3 f7 e7 => ?_⟩
      rw [s3] at e7
      (try walk_at "wx")
      refine ⟨_, rfl, fun S4 l4 => ?_⟩
      (try walk_at "wx")
      refine ⟨_, rfl, fun S5 l5 => ?_⟩
      rw [← s2]
      refine ne_tup (okW_up oka (by decide)) (okW_up oka (by decide)) ?_
      rw [show PyData.eqv (dW (.tup [.tup ((rmAt mc.rooms a).lit.map Lit.W), .tup (exPre (rmAt mc.rooms a).ex), ctPre (rmAt mc.rooms a).ct, .bl (rmAt mc.rooms a).sh.isNone])) (dW (.tup [.tup ((rmAt mc.rooms a).lit.map Lit.W), .tup (exPre (rmAt mc.rooms a).ex), ctPre (rmAt mc.rooms a).ct, .bl (rmAt mc.rooms a).sh.isNone])) = true from eqv_self oka]
      have l25 := (l3.trans l4).trans l5
      have e75 := (l4.trans l5) _ _ e7
      have hb5 := l25 _ _ hb2
      have n7 : ∀ x, S2 x = none → S2 x = none := fun x h => h
      repeat (first | simp only [Bool.not_true, Bool.false_eq_true, if_false, so_l e75, onQ_some] | walk_at "wx")
      intro p8 h8
      have l6 := Le.put (o := .lst []) h8
      have e76 := l6 _ _ e75
      rw [natsW]
      refine lc_pure (α := Nat) (F := fun n => W.int (n : Int)) (G := fun n => W.int (n : Int)) (b := fun _ => false) _ (fun ws => so_l (Le.put h8 _ _ e75)) (fun x hx ws Q' q' => ?_) (fun x hx e => by cases e) (by rw [List.length_map]; have := doors_few (rmAt mc.rooms a); omega) ?_
      · simp only [List.set_cons_succ, List.set_cons_zero]
        obtain ⟨d, hd, rfl⟩ := List.mem_map.mp hx
        have hb6 := Le.put (o := .lst ws) h8 _ _ hb5
        have dn := (stands_ok dl h0 nk (s4 d hd).1 (s4 d hd).2).1
        have ll6 : ∀ Q', rLenW [.ref pb] (put S5 p8 (.lst ws)) Q' = Q' (.int ((tdR mc.rooms).length : Int)) (put S5 p8 (.lst ws)) := fun Q' => by rw [len_l hb6, List.length_map]
        have c1 : (0 : Int) ≤ (nmF mc.rooms d : Nat) := by omega
        have c2 : ((nmF mc.rooms d : Nat) : Int) < ((tdR mc.rooms).length : Nat) := by omega
        repeat (first | simp only [c1, c2, ll6, decide_true] | walk_at "wx")
        exact q'
      · have ef : List.filter (fun _ : Nat => false) ((rmAt mc.rooms a).doors.map (nmF mc.rooms)) = [] := by simp
        rw [ef, List.map_nil]
        have e8 : put S5 p8 (.lst []) p8 = some (.lst []) := put_same
        have l26 := l25.trans l6
        generalize put S5 p8 (.lst []) = S6 at *
        (try walk_at "wx")
        intro p9 h9
        have l7 := Le.put (o := .lst []) h9
        have e89 := l7 _ _ e8
        have e9 : put S6 p9 (.lst []) p9 = some (.lst []) := put_same
        have e77 := l7 _ _ e76
        have l27 := l26.trans l7
        generalize put S6 p9 (.lst []) = S7 at *
        refine ne_empty e89 e9 (by rw [okWs]) ?_
        simp only [List.isEmpty_nil, Bool.not_true, Bool.false_eq_true, if_false]
        unfold wForZip
        walk_at "wx"
        refine ⟨_, rfl, fun S8 pd l8 fd ed => ?_⟩
        have e78 := l8 _ _ e77
        have l28 := l27.trans l8
        have e1' := l28 _ _ e1
        have e2' := l28 _ _ e2
        have npd1 : pd ≠ ps := fun z => by subst z; rw [e1'] at ed; cases ed
        have npd2 : pd ≠ pl := fun z => by subst z; rw [l27 _ _ e2] at fd; cases fd
        have n71 : p7 ≠ ps := fun z => by subst z; rw [e1] at f7; cases f7
        have n72 : p7 ≠ pl := fun z => by subst z; rw [e2] at f7; cases f7
        refine ⟨_, _, natsW (rmAt mc.rooms a).doors, natsW ((rmAt mc.rooms a).doors.map (nmF mc.rooms)), rfl, by simp only [rdl, ed], by simp only [rdl, e78], by simp [natsW], ?_⟩
        have l08 := l2.trans l28
        subst hL
        refine zip_in (n := mc.rooms.length) (P := fun d => kdF mc.rooms d ∈ (tidyI mc.rooms 0).map (kdF mc.rooms)) (c := l0.length + mc.rooms.length - ks.length) (S0 := S8) (by omega) nsl (fun S' F => ⟨by simp only [rdl, F _ _ npd1 npd2 ed], by simp only [rdl, F _ _ n71 n72 e78]⟩) (fun ks' ls' S' x8' x9' L' hc F g1 g2 => ?_) _ ks l0 S8 _ _ s4 L1 (by have := L1.len; omega) (fun y o _ _ h => h) e1' e2'
        refine ih ks' ls' S' _ _ _ _ _ _ L' ?_ (le_fr2 l08 F f1 f2) g1 g2
        have := L1.len
        simp at hf
        omega
end
def sp_law_stands_for : WSp := fun ws S Q => ∃ (pa pb : Addr) (mc : Mc) (ms : List Mc), ws = [.ref pa, .ref pb] ∧ mc.ok ms ∧ mc.rooms.length ≤ 1000 ∧ S pa = some (.lst (mc.rooms.map Rm.W)) ∧ S pb = some (.lst ((tdR mc.rooms).map Rm.W)) ∧ ∀ S', Le S S' → Q (.bl true) S'
theorem r_law_stands_for : ∀ ws S Q, Up Q → sp_law_stands_for ws S Q → t_law_stands_for sp_law_doors sp_law_shape { nx := fun _ S' => Q .non S', rt := Q } (startW 10 ws) S := by
  rintro ws S Q up ⟨pa, pb, mc, ms, rfl, ok, sm, ha, hb, q⟩
  have dl := join_dl ok
  have h0 := ok.some_
  obtain ⟨z1, z2⟩ := stands_0 dl h0
  unfold t_law_stands_for
  generalize hB : l_law_stands_for_3 sp_law_doors sp_law_shape = LB
  walk_at "wx"
  rw [x_disp1]
  intro ps h1
  walk_at "wx"
  rw [dsp_i]
  refine ⟨⟨put_same, by decide⟩, ?_⟩
  rw [put_put]
  have l1 := Le.put (o := .dk [(.inl (0 : Int), .int 0)]) h1
  have e1 : put S ps (.dk [(.inl (0 : Int), .int 0)]) ps = some (.dk [(.inl (0 : Int), .int 0)]) := put_same
  generalize put S ps (.dk [(.inl (0 : Int), .int 0)]) = S1 at *
  (try walk_at "wx")
  intro pl h2
  have l2 := Le.put (o := .lst [W.int 0]) h2
  have e2 : put S1 pl (.lst [W.int 0]) pl = some (.lst [W.int 0]) := put_same
  have e12 := l2 _ _ e1
  have nsl : ps ≠ pl := ne_none e1 h2
  have l12 := l1.trans l2
  have fl : S pl = none := l1.free h2
  generalize put S1 pl (.lst [W.int 0]) = S2 at *
  (try walk_at "wx")
  refine ⟨mc.rooms.length + 1, ?_⟩
  subst hB
  refine stands_while (S0 := S) ok sm nsl ha hb h1 fl (fun S' x4 x5 x6 x7 x8 x9 l => ?_) (mc.rooms.length + 1) [0] [0] S2 _ _ _ _ _ _ ⟨by simp, fun k hk => by simp at hk; subst hk; exact ⟨h0, z2⟩, fun l h => h, Nat.le_refl _⟩ (by simp only [List.length_singleton]; omega) l12 (by rw [e12]; simp [stD, z1]) (by rw [e2]; rfl)
  walk_at "wx"
  exact q S' l
end K10
end WL
namespace WL
open PySem L2
namespace K10
open K11 (sp_law_doors sp_law_typed sp_law_grown sp_joined sp_law_renamed sp_law_typed_room t_law_doors l_law_doors_1 r_law_doors t_law_typed l_law_typed_1 l_law_typed_2 r_law_typed t_law_grown l_law_grown_1 l_law_grown_2 l_law_grown_3 r_law_grown t_law_renamed l_law_renamed_1 r_law_renamed t_law_typed_room l_law_typed_room_1 l_law_typed_room_2 r_law_typed_room t_joined r_joined)
theorem dWs_map : ∀ (ws : List W), dWs ws = ws.map dW
  | [] => rfl
  | w :: ws => by rw [dWs, dWs_map ws]; rfl
theorem okWs_in : ∀ {n : Nat} {ws : List W}, okWs n ws = true → ∀ w ∈ ws, okW n w = true
  | _, [], _, w, h => by simp at h
  | n, x :: ws, ok, w, h => by
    rw [okWs, Bool.and_eq_true] at ok
    rcases List.mem_cons.mp h with rfl | h
    · exact ok.1
    · exact okWs_in ok.2 w h
theorem idx_ok {S : Sto} {pk : Addr} {ws : List W} {w : W} {Q : WQ} (h : S pk = some (.lst ws)) (ok : okWs 40 ws = true) (F : Faith ws) (m : w ∈ ws) (q : Q (.int (idxD ws w : Nat)) S) : rIdxW (.ref pk) [w] S Q := by
  obtain ⟨d1, s1⟩ := lst_shaped h (okWs_up ok (by decide))
  have ow := okWs_in ok w m
  obtain ⟨h1, h2, h3⟩ := okW_dat (S := S) ow
  obtain ⟨i1, i2⟩ := idx_spec F m
  refine ⟨dWs ws, dW w, idxD ws w, dW w, d1, h1, s1, ?_, ?_, eqv_self ow, fun k z' hk hz => ?_, q⟩
  · unfold SeqAt.shaped; rw [h2, decide_eq_true (by omega)]; rfl
  · rw [dWs_map, List.getElem?_map, i2]; rfl
  · rw [dWs_map, List.getElem?_map] at hz
    obtain ⟨lt, _⟩ : k < ws.length ∧ True := ⟨by omega, trivial⟩
    rw [List.getElem?_eq_getElem lt] at hz
    cases hz
    exact idx_first F m hk (List.getElem?_eq_getElem lt)
theorem eq_ints {S : Sto} {Q : WQ} {p p1 : Addr} {ws us : List W} (h : S p = some (.lst ws)) (h' : S p1 = some (.lst us)) (ok : okWs 60 ws = true) (ok' : okWs 60 us = true) (q : ∀ b : Bool, Q (.bl b) S) : rEqW (.ref p) (.ref p1) S Q := by
  obtain ⟨d1, s1⟩ := lst_shaped h ok
  obtain ⟨d2, s2⟩ := lst_shaped h' ok'
  exact eq_dat d1 d2 s1 s2 rfl (q _)
def sp_law_none_alike : WSp := fun ws S Q => ∃ (pa : Addr) (T : List Rm) (ms : List Mc) (m nr : Nat), ws = [.ref pa] ∧ S pa = some (.lst (T.map Rm.W)) ∧ (∀ r ∈ T, r.ok ms m nr) ∧ (∀ r ∈ T, ∀ d ∈ r.doors, d < T.length) ∧ T.length ≤ 1000 ∧ (∀ i j, i < T.length → j < T.length → simN T T.length i j → i = j) ∧ ∀ S', Le S S' → Q (.bl true) S'
theorem na_loop {pa : Addr} {T : List Rm} {D : WD} {S0 : Sto} (hT : T.length ≤ 1000) (dl : ∀ r ∈ T, ∀ d ∈ r.doors, d < T.length) (hp : S0 pa = some (.lst (T.map Rm.W))) (rt : ∀ S', Le S0 S' → D.rt (.bl true) S')
    (q : ∀ S' pk ws x2 x3 x4 x5 x6 x7, KeysAt T T.length ws → S' pk = some (.lst ws) → Le S0 S' → D.nx [some (.ref pa), some (.ref pk), x2, x3, x4, x5, x6, x7] S') : ∀ (k t : Nat) (pk : Addr) (ws : List W) (S : Sto) (x2 x3 x4 x5 x6 x7 : Option W), KeysAt T t ws → t + k = T.length → S pk = some (.lst ws) → Le S0 S →
    forW (fun _ => True) (gNameW 3) (l_law_none_alike_1 sp_law_shape sp_law_doors) ((List.range' t k).map fun i => W.int (i : Nat)) D [some (.ref pa), some (.ref pk), x2, x3, x4, x5, x6, x7] S
  | 0, t, pk, ws, S, x2, x3, x4, x5, x6, x7, K, hk, h1, l => by
    simp only [List.range', List.map_nil, forW]
    have e : t = T.length := by omega
    subst e
    exact ⟨trivial, q S pk ws _ _ _ _ _ _ K h1 l⟩
  | k + 1, t, pk, ws, S, x2, x3, x4, x5, x6, x7, K, hk, h1, l => by
    have ih := fun pk ws S x2 x3 x4 x5 x6 x7 => na_loop (D := D) hT dl hp rt q k (t + 1) pk ws S x2 x3 x4 x5 x6 x7
    simp only [List.range', List.map_cons, forW]
    generalize hL : forW (fun _ => True) (gNameW 3) (l_law_none_alike_1 sp_law_shape sp_law_doors) ((List.range' (t + 1) k).map fun i => W.int (i : Nat)) D = L at *
    refine ⟨trivial, ?_⟩
    have kl := K.len
    have wl : ws.length ≤ 1000 := by omega
    unfold l_law_none_alike_1
    repeat (first | simp only [so_l h1, onQ_some] | walk_at "wx")
    intro p2 h2
    refine lc_leW (G := fun w => W.int (idxD ws w : Nat)) h2 ws (fun S' l' => so_l (l' _ _ h1)) (fun x hx S' Q' l' q' => ?_) (by omega) fun S1 l1 e1 => ?_
    · simp only [List.set_cons_succ, List.set_cons_zero]
      have h1' := l' _ _ h1
      walk_at "wx"
      exact ⟨is_lst h1', idx_ok h1' K.ok K.faith hx (q' S' Le.refl)⟩
    have ek : (ws.map fun w => W.int (idxD ws w : Nat)) = natsW (kindsL ws) := by simp [natsW, kindsL]
    rw [ek] at e1
    have h11 := l1 _ _ h1
    have hpa := (l.trans l1) _ _ hp
    have lp : ∀ S', S' pa = some (.lst (T.map Rm.W)) → ∀ Q', rLenW [.ref pa] S' Q' = Q' (.int (T.length : Int)) S' := fun S' h Q' => by rw [len_l h, List.length_map]
    have lpa := lp S1 hpa
    unfold wLstR
    repeat (first | simp only [lpa] | walk_at "wx")
    refine ⟨⟨by omega, by omega⟩, fun p3 h3 => ?_⟩
    have l2 := Le.put (o := .lst ((List.range ((T.length : Nat) : Int).toNat).map fun i => W.int (i : Nat))) h3
    have e3 : put S1 p3 (.lst ((List.range ((T.length : Nat) : Int).toNat).map fun i => W.int (i : Nat))) p3 = some (.lst (natsW (List.range T.length))) := by rw [put_same, Int.toNat_natCast]; rfl
    have e12 := l2 _ _ e1
    have hpa2 := l2 _ _ hpa
    have l02 := l.trans (l1.trans l2)
    generalize put S1 p3 (.lst ((List.range ((T.length : Nat) : Int).toNat).map fun i => W.int (i : Nat))) = S2 at *
    refine eq_ints e12 e3 (ints_okW60 _) (ints_okW60 _) fun b => ?_
    cases b with
    | true =>
      simp only [onB, if_true]
      exact rt _ l02
    | false =>
      simp only [onB, Bool.false_eq_true, if_false]
      have lpa2 := lp S2 hpa2
      repeat (first | simp only [lpa2] | walk_at "wx")
      refine ⟨⟨by omega, by omega⟩, fun p4 h4 => ?_⟩
      rw [Int.toNat_natCast]
      have kk : (kindsL ws).length = T.length := by rw [kindsL_len, kl]
      refine lc_le (α := Nat) (F := fun i => W.int (i : Nat)) (G := fun k => keyW (kindsL ws) (rmAt T k) k) h4 (List.range T.length) (fun _ _ => trivial) (fun x hx S' Q' l' q' => ?_) (by rw [List.length_range]; omega) fun S3 l3 e4 => ?_
      · simp only [List.set_cons_succ, List.set_cons_zero]
        have xl := List.mem_range.mp hx
        have e1' := l' _ _ e12
        have hpa' := l' _ _ hpa2
        have ek' : atI (natsW (kindsL ws)) (x : Int) = some (.int ((kindsL ws).getD x 0 : Nat)) := atI_nats (by rw [kk]; exact xl)
        have er := rms_at (rms := T) xl
        repeat (first | simp only [e1', hpa', onL_lst, onS_some, ek', er] | walk_at "wx")
        refine ⟨_, rfl, fun S4 pd l4 fd ed => ?_⟩
        have e14 := l4 _ _ e1'
        repeat (first | simp only [so_l ed, onQ_some] | walk_at "wx")
        intro p6 h6
        have dd := dl _ (rm_mem xl)
        have e16 := Le.put (o := .lst []) h6 _ _ e14
        have lc := fun QQ : Sto → Prop => lc_pure (Q := QQ) (α := Nat) (F := fun n => W.int (n : Int)) (G := fun d => W.int ((kindsL ws).getD d 0 : Nat)) (b := fun _ => true) (i := 7) (tt := wYes) (te := wOp rIxW (wVar 4) (wVar 7)) (Z := fun S => seqOf S (.ref pd) = some (natsW (rmAt T x).doors)) (D := p6) (r := [some (W.ref pa), some (W.ref pk), x2, some (W.int (t : Nat)), some (W.ref p2), x5, some (W.int (x : Nat)), x7]) (S0 := S4) (rmAt T x).doors (fun ws' => so_l (Le.put (o := .lst ws') h6 _ _ ed)) (fun y hy ws' Q'' q'' => yes_ok q'') (fun y hy _ ws' Q'' q'' => by
          simp only [List.set_cons_succ, List.set_cons_zero]
          have e7 := Le.put (o := .lst ws') h6 _ _ e14
          have ey : atI (natsW (kindsL ws)) (y : Int) = some (.int ((kindsL ws).getD y 0 : Nat)) := atI_nats (by rw [kk]; exact dd y hy)
          repeat (first | simp only [e7, onL_lst, onS_some, ey] | walk_at "wx")
          exact q'') (by have := doors_few (rmAt T x); omega)
        refine lc _ ?_
        rw [filter_true]
        rw [so_lp]
        simp only [onQ_some]
        exact ⟨by rw [List.length_map]; exact Nat.le_of_lt (small_len (by have := doors_few (rmAt T x); omega)), q' _ (l4.trans (Le.put h6))⟩
      · exact ih p4 (keysS T ws) S3 _ _ _ _ _ _ (keysS_ok dl K) (by omega) e4 (l02.trans l3)
theorem r_law_none_alike : ∀ ws S Q, Up Q → sp_law_none_alike ws S Q → t_law_none_alike sp_law_shape sp_law_doors { nx := fun _ S' => Q .non S', rt := Q } (startW 8 ws) S := by
  rintro ws S Q up ⟨pa, T, ms, m, nr, rfl, hp, ok, dl, hT, inj, q⟩
  unfold t_law_none_alike
  generalize hB : l_law_none_alike_1 sp_law_shape sp_law_doors = LB
  repeat (first | simp only [so_l hp, onQ_some] | walk_at "wx")
  intro p1 h1
  refine lc_le (α := Rm) (F := Rm.W) (G := fun r => .tup [shapeW r]) h1 T (fun S' l => so_l (l _ _ hp)) (fun r hr S' Q' l q' => ?_) (by omega) fun S1 l1 e1 => ?_
  · simp only [List.set_cons_succ, List.set_cons_zero]
    walk_at "wx"
    exact ⟨r, rfl, fun S'' l'' => q' S'' l''⟩
  have hp1 := l1 _ _ hp
  have lp : ∀ S', S' pa = some (.lst (T.map Rm.W)) → ∀ Q', rLenW [.ref pa] S' Q' = Q' (.int (T.length : Int)) S' := fun S' h Q' => by rw [len_l h, List.length_map]
  have lp1 := lp S1 hp1
  repeat (first | simp only [lp1] | walk_at "wx")
  refine ⟨⟨by omega, by omega⟩, ?_⟩
  rw [Int.toNat_natCast, List.range_eq_range']
  subst hB
  refine na_loop (S0 := S) hT dl hp (fun S' l => q S' l) (fun S2 pk ws x2 x3 x4 x5 x6 x7 K e2 l2 => ?_) T.length 0 p1 (keys0 T) S1 _ _ _ _ _ _ (keys0_ok ok) (by omega) e1 l1
  have kl := K.len
  have lk : ∀ Q', rLenW [.ref pk] S2 Q' = Q' (.int (T.length : Int)) S2 := fun Q' => by rw [len_l e2, kl]
  repeat (first | simp only [lk] | walk_at "wx")
  refine ⟨⟨by omega, by omega⟩, fun p3 h3 => ?_⟩
  rw [Int.toNat_natCast]
  refine lc_pure (α := Nat) (F := fun n => W.int (n : Nat)) (G := fun n => W.int (n : Nat)) (b := fun _ => false) _ (fun _ => trivial) (fun x hx ws' Q' q' => ?_) (fun x hx e => by cases e) (by rw [List.length_range]; omega) ?_
  · simp only [List.set_cons_succ, List.set_cons_zero]
    have xl := List.mem_range.mp hx
    have e2' := Le.put (o := .lst ws') h3 _ _ e2
    obtain ⟨w, hw⟩ := get_of_lt (l := ws) (i := x) (by omega)
    have ea : atI ws (x : Int) = some w := atI_nat hw
    have own := idx_own K.faith (fun i j hi hj e => inj i j (by omega) (by omega) ((K.sim i j (by omega) (by omega)).mp e)) hw
    repeat (first | simp only [e2', onL_lst, onS_some, ea] | walk_at "wx")
    refine ⟨is_lst e2', idx_ok e2' K.ok K.faith (List.mem_of_getElem? hw) ?_⟩
    rw [own]
    repeat (first | simp only [decide_true, Bool.not_true] | walk_at "wx")
    exact q'
  · rw [show List.filter (fun _ : Nat => false) (List.range T.length) = [] by simp, List.map_nil]
    have e3 : put S2 p3 (.lst []) p3 = some (.lst []) := put_same
    have l3 := l2.trans (Le.put (o := .lst []) h3)
    generalize put S2 p3 (.lst []) = S3 at *
    (try walk_at "wx")
    intro p4 h4
    have e34 := Le.put (o := .lst []) h4 _ _ e3
    exact eq_empty e34 put_same (by rw [okWs]) (q _ (l3.trans (Le.put h4)))
end K10
end WL
namespace WL
open PySem L2
namespace K10
open K11 (sp_law_doors sp_law_typed sp_law_grown sp_joined sp_law_renamed sp_law_typed_room t_law_doors l_law_doors_1 r_law_doors t_law_typed l_law_typed_1 l_law_typed_2 r_law_typed t_law_grown l_law_grown_1 l_law_grown_2 l_law_grown_3 r_law_grown t_law_renamed l_law_renamed_1 r_law_renamed t_law_typed_room l_law_typed_room_1 l_law_typed_room_2 r_law_typed_room t_joined r_joined)
/-! ### one room told otherwise -/
theorem set_map {α β : Type} (f : α → β) (l : List α) (k : Nat) (x : α) : (l.set k x).map f = (l.map f).set k (f x) := List.map_set
theorem ch_tail {sp : WSp} {Q : WQ} {S : Sto} {ra : Addr} {rms : List Rm} {k : Nat} {x0 x7 : Option W} {nx bk ct : Rho → Sto → Prop} (h : S ra = some (.lst (rms.map Rm.W))) (hk : k < rms.length) (hl : rms.length ≤ 1000) (r : Rm) (q : ∀ S' p, Le S S' → S p = none → S' p = some (.lst ((rms.set k r).map Rm.W)) → Q (.ref p) S') :
    l_law_changed_1 sp { nx := nx, rt := Q, bk := bk, ct := ct } [x0, some (.ref ra), some (.int (k : Nat)), some (.tup (r.lit.map Lit.W)), some r.ex.W, some (ctW r.ct), some (optN r.sh), x7] S := by
  unfold l_law_changed_1
  generalize hr1 : W.tup (r.lit.map Lit.W) = w1
  generalize hr2 : r.ex.W = w2
  generalize hr3 : ctW r.ct = w3
  generalize hr4 : optN r.sh = w4
  have hw : W.tup [w1, w2, w3, w4] = r.W := by rw [← hr1, ← hr2, ← hr3, ← hr4]; rfl
  clear hr1 hr2 hr3 hr4
  repeat (first | simp only [h, onL_lst, cut_take] | walk_at "wx")
  intro p1 hp1
  have l1 := Le.put (o := .lst ((rms.map Rm.W).take k)) hp1
  have g1 : put S p1 (.lst ((rms.map Rm.W).take k)) p1 = some (.lst ((rms.map Rm.W).take k)) := put_same
  have h1 := l1 _ _ h
  generalize put S p1 (.lst ((rms.map Rm.W).take k)) = S1 at *
  (try walk_at "wx")
  intro p2 hp2
  have l2 := Le.put (o := .lst [.tup [w1, w2, w3, w4]]) hp2
  have g2 : put S1 p2 (.lst [.tup [w1, w2, w3, w4]]) p2 = some (.lst [.tup [w1, w2, w3, w4]]) := put_same
  have g12 := l2 _ _ g1
  have h2 := l2 _ _ h1
  have l02 := l1.trans l2
  generalize put S1 p2 (.lst [.tup [w1, w2, w3, w4]]) = S2 at *
  have cl : ((rms.map Rm.W).take k).length ≤ 1000 := by rw [List.length_take, List.length_map]; omega
  repeat (first | simp only [g12, g2, onL_lst] | walk_at "wx")
  refine ⟨Nat.le_of_lt (small_len (by omega)), fun p3 hp3 => ?_⟩
  have l3 := Le.put (o := .lst ((rms.map Rm.W).take k ++ [.tup [w1, w2, w3, w4]])) hp3
  have g3 : put S2 p3 (.lst ((rms.map Rm.W).take k ++ [.tup [w1, w2, w3, w4]])) p3 = some (.lst ((rms.map Rm.W).take k ++ [.tup [w1, w2, w3, w4]])) := put_same
  have h3 := l3 _ _ h2
  have l03 := l02.trans l3
  generalize put S2 p3 (.lst ((rms.map Rm.W).take k ++ [.tup [w1, w2, w3, w4]])) = S3 at *
  have ck : cutW (rms.map Rm.W) (some ((k : Int) + 1)) none = (rms.map Rm.W).drop (k + 1) := by
    rw [show (k : Int) + 1 = ((k + 1 : Nat) : Int) by omega]; exact cut_drop
  repeat (first | simp only [h3, onL_lst, ck] | walk_at "wx")
  intro p4 hp4
  have l4 := Le.put (o := .lst ((rms.map Rm.W).drop (k + 1))) hp4
  have g4 : put S3 p4 (.lst ((rms.map Rm.W).drop (k + 1))) p4 = some (.lst ((rms.map Rm.W).drop (k + 1))) := put_same
  have g34 := l4 _ _ g3
  have l04 := l03.trans l4
  generalize put S3 p4 (.lst ((rms.map Rm.W).drop (k + 1))) = S4 at *
  have dl : ((rms.map Rm.W).drop (k + 1)).length ≤ 1000 := by rw [List.length_drop, List.length_map]; omega
  repeat (first | simp only [g34, g4, onL_lst] | walk_at "wx")
  refine ⟨Nat.le_of_lt (small_len (by rw [List.length_append, List.length_singleton]; omega)), fun p5 hp5 => ?_⟩
  refine q _ p5 (l04.trans (Le.put hp5)) (l04.free hp5) ?_
  rw [put_same, K11.set_cut (by rw [List.length_map]; exact hk), hw, ← set_map]
theorem set_ok {ms : List Mc} {m nr : Nat} {rms : List Rm} {k : Nat} {r : Rm} (ok : ∀ x ∈ rms, x.ok ms m nr) (h : r.ok ms m nr) : ∀ x ∈ rms.set k r, x.ok ms m nr := fun x hx => by
  rcases List.mem_or_eq_of_mem_set hx with hx | rfl
  · exact ok x hx
  · exact h
def sp_law_changed : WSp := fun ws S Q => ∃ (row ra : Addr) (ns : List Int) (rms : List Rm) (ms : List Mc) (m : Nat), ws = [.ref row, .ref ra] ∧ RowAt S row ns ∧ S ra = some (.lst (rms.map Rm.W)) ∧ ra ≠ row ∧ 1 ≤ rms.length ∧ rms.length ≤ 1000 ∧ (∀ r ∈ rms, r.ok ms m rms.length ∧ r.lit.length ≤ 2) ∧
  ∀ (rms' : List Rm) S' p, rms'.length = rms.length → (∀ r ∈ rms', r.ok ms m rms.length) → RowAt S' row ns → Fr row S S' → S p = none → S' p = some (.lst (rms'.map Rm.W)) → Q (.ref p) S'
theorem lv2 {D : WD} {S : Sto} {x0 x1 x2 x3 x4 x5 x6 : Option W} {v : Int} (n : v ≠ 3) (q : l_law_changed_1 sp_law_taken D [x0, x1, x2, x3, x4, x5, x6, some (.int v)] S) : l_law_changed_2 sp_law_taken D [x0, x1, x2, x3, x4, x5, x6, some (.int v)] S := by
  unfold l_law_changed_2
  generalize l_law_changed_1 sp_law_taken = T at *
  repeat (first | simp only [decide_eq_false n] | walk_at "wx")
  exact q
theorem lv3 {D : WD} {S : Sto} {x0 x1 x2 x3 x4 x5 x6 : Option W} {v : Int} (n : v ≠ 2) (q : l_law_changed_2 sp_law_taken D [x0, x1, x2, x3, x4, x5, x6, some (.int v)] S) : l_law_changed_3 sp_law_taken D [x0, x1, x2, x3, x4, x5, x6, some (.int v)] S := by
  unfold l_law_changed_3
  generalize l_law_changed_2 sp_law_taken = T at *
  repeat (first | simp only [decide_eq_false n] | walk_at "wx")
  exact q
theorem lv4 {D : WD} {S : Sto} {x0 x1 x2 x3 x4 x5 x6 : Option W} {v : Int} (n : v ≠ 1) (q : l_law_changed_3 sp_law_taken D [x0, x1, x2, x3, x4, x5, x6, some (.int v)] S) : l_law_changed_4 sp_law_taken D [x0, x1, x2, x3, x4, x5, x6, some (.int v)] S := by
  unfold l_law_changed_4
  generalize l_law_changed_3 sp_law_taken = T at *
  repeat (first | simp only [decide_eq_false n] | walk_at "wx")
  exact q
theorem lv2y {D : WD} {S : Sto} {ra : Addr} {x2 x3 x4 x5 x6 : Option W} {row : Addr} {ns : List Int} {rms : List Rm} (R : RowAt S row ns) (h : S ra = some (.lst (rms.map Rm.W))) (h1 : 1 ≤ rms.length) (h2 : rms.length ≤ 1000) (q : ∀ (j : Nat) S', j < rms.length → RowAt S' row ns → Fr row S S' → l_law_changed_1 sp_law_taken D [some (.ref row), some (.ref ra), x2, x3, some (Ex.W (.go j)), x5, x6, some (.int 3)] S') : l_law_changed_2 sp_law_taken D [some (.ref row), some (.ref ra), x2, x3, x4, x5, x6, some (.int 3)] S := by
  unfold l_law_changed_2
  generalize l_law_changed_1 sp_law_taken = T at *
  have l0 : ∀ Q', rLenW [.ref ra] S Q' = Q' (.int (rms.length : Int)) S := fun Q' => by rw [len_l h, List.length_map]
  repeat (first | simp only [l0] | walk_at "wx")
  refine taken_ok R (by omega) (by omega) fun v S1 v0 v1 R1 F1 => ?_
  obtain ⟨k, rfl⟩ : ∃ z : Nat, v = (z : Int) := ⟨v.toNat, by omega⟩
  (try walk_at "wx")
  exact q k S1 (by omega) R1 F1
theorem lv3y {D : WD} {S : Sto} {x0 x1 x2 x3 x4 x5 x6 : Option W} (q : l_law_changed_2 sp_law_taken D [x0, x1, x2, x3, x4, x5, some .non, some (.int 2)] S) : l_law_changed_3 sp_law_taken D [x0, x1, x2, x3, x4, x5, x6, some (.int 2)] S := by
  unfold l_law_changed_3
  generalize l_law_changed_2 sp_law_taken = T at *
  walk_at "wx"
  exact q
theorem lv4y {D : WD} {S : Sto} {x0 x1 x2 x3 x4 x5 x6 : Option W} (q : l_law_changed_3 sp_law_taken D [x0, x1, x2, x3, x4, some .non, x6, some (.int 1)] S) : l_law_changed_4 sp_law_taken D [x0, x1, x2, x3, x4, x5, x6, some (.int 1)] S := by
  unfold l_law_changed_4
  generalize l_law_changed_3 sp_law_taken = T at *
  walk_at "wx"
  exact q
def l5 (sp : WSp) : WS := (wSeq (wIfS (wB (wOp rEqW (wVar 7) (wC (.int 0))))
  (wAsg (wOp rAddW (wVar 3) (wTup (wCons (wTup (wCons (wC (.str w_say)) (wCons (wTup (wCons (wC (.str w_num)) (wCons (wC (.int 5)) wNil))) wNil))) wNil))) (gNameW 3))
  wNext)
  (l_law_changed_4 sp))
theorem t_changed_eq (sp : WSp) : t_law_changed sp = (wSeq (wAsg (wCall sp (wCons (wVar 0) (wCons (wCall rLenW (wCons (wVar 1) wNil)) wNil))) (gNameW 2))
  (wSeq (wAsg (wOp rIxW (wVar 1) (wVar 2)) (gTupW 4 (gConsW (gNameW 3) (gConsW (gNameW 4) (gConsW (gNameW 5) (gConsW (gNameW 6) gNilW))))))
  (wSeq (wAsg (wCall sp (wCons (wVar 0) (wCons (wC (.int 4)) wNil))) (gNameW 7))
  (l5 sp)))) := rfl
def sayW : W := .tup [.str w_say, .tup [.str w_num, .int 5]]
theorem sayC_ev {r : Rho} : Ev r (wTup (wCons (wTup (wCons (wC (.str w_say)) (wCons (wTup (wCons (wC (.str w_num)) (wCons (wC (.int 5)) wNil))) wNil))) wNil)) (.tup [.tup [.str w_say, .tup [.str w_num, .int 5]]]) := ev_tup (ev_cons (ev_tup (ev_cons ev_c (ev_cons (ev_tup (ev_cons ev_c (ev_cons ev_c ev_nil)) (by decide)) ev_nil)) (by decide)) ev_nil) (by decide)
theorem lv5g {T : WS} {C : WE} {sw : W} {D : WD} {S : Sto} {x0 x1 x2 x4 x5 x6 : Option W} {ws : List W} (ev : ∀ r, Ev r C (.tup [sw])) (hl : ws.length ≤ 1000) (q : T D [x0, x1, x2, some (.tup (ws ++ [sw])), x4, x5, x6, some (.int 0)] S) :
    (wSeq (wIfS (wB (wOp rEqW (wVar 7) (wC (.int 0)))) (wAsg (wOp rAddW (wVar 3) C) (gNameW 3)) wNext) T) D [x0, x1, x2, some (.tup ws), x4, x5, x6, some (.int 0)] S := by
  walk_at "wx"
  refine ev _ _ _ ?_
  simp only [v_addT]
  exact ⟨Nat.le_of_lt (small_len (by simp; omega)), q⟩
theorem lv5n {T : WS} {C : WE} {D : WD} {S : Sto} {x0 x1 x2 x3 x4 x5 x6 : Option W} {v : Int} (n : v ≠ 0) (q : T D [x0, x1, x2, x3, x4, x5, x6, some (.int v)] S) :
    (wSeq (wIfS (wB (wOp rEqW (wVar 7) (wC (.int 0)))) (wAsg (wOp rAddW (wVar 3) C) (gNameW 3)) wNext) T) D [x0, x1, x2, x3, x4, x5, x6, some (.int v)] S := by
  repeat (first | simp only [decide_eq_false n] | walk_at "wx")
  exact q
theorem lv5 {D : WD} {S : Sto} {x0 x1 x2 x3 x4 x5 x6 : Option W} {v : Int} (n : v ≠ 0) (q : l_law_changed_4 sp_law_taken D [x0, x1, x2, x3, x4, x5, x6, some (.int v)] S) : l5 sp_law_taken D [x0, x1, x2, x3, x4, x5, x6, some (.int v)] S := lv5n n q
theorem lv5y {D : WD} {S : Sto} {x0 x1 x2 x4 x5 x6 : Option W} {ws : List W} (hl : ws.length ≤ 1000) (q : l_law_changed_4 sp_law_taken D [x0, x1, x2, some (.tup (ws ++ [sayW])), x4, x5, x6, some (.int 0)] S) : l5 sp_law_taken D [x0, x1, x2, some (.tup ws), x4, x5, x6, some (.int 0)] S := lv5g (fun r => sayC_ev) hl q
theorem r_law_changed : ∀ ws S Q, Up Q → sp_law_changed ws S Q → t_law_changed sp_law_taken { nx := fun _ S' => Q .non S', rt := Q } (startW 8 ws) S := by
  rintro ws S Q up ⟨row, ra, ns, rms, ms, m, rfl, R, h, nra, h1, h1000, ok, q⟩
  have l0 : ∀ Q', rLenW [.ref ra] S Q' = Q' (.int (rms.length : Int)) S := fun Q' => by rw [len_l h, List.length_map]
  have fin : ∀ (k : Nat) (r : Rm) S3 x0 x7 (D : WD), D.rt = Q → k < rms.length → r.ok ms m rms.length → RowAt S3 row ns → Fr row S S3 → l_law_changed_1 sp_law_taken D [x0, some (.ref ra), some (.int (k : Nat)), some (.tup (r.lit.map Lit.W)), some r.ex.W, some (ctW r.ct), some (optN r.sh), x7] S3 := fun k r S3 x0 x7 D hD kl hok R3 F3 => by
    have z := fun (nx : Rho → Sto → Prop) bk ct => ch_tail (sp := sp_law_taken) (Q := Q) (x0 := x0) (x7 := x7) (nx := nx) (bk := bk) (ct := ct) (F3 _ _ nra h) kl h1000 r fun S' p l f e => q _ S' p (List.length_set) (set_ok (fun x hx => (ok x hx).1) hok) (R3.le l) (fun y o ny hy => l _ _ (F3 y o ny hy)) (by
      cases z : S p with
      | none => rfl
      | some o =>
        have := F3 p o (fun e' => by subst e'; exact (R3.ne f rfl)) z
        rw [f] at this; cases this) e
    subst hD
    exact z D.nx D.bk D.ct
  rw [t_changed_eq]
  generalize hT : l5 sp_law_taken = T5
  repeat (first | simp only [l0] | walk_at "wx")
  refine taken_ok R (by omega) (by omega) fun v S1 v0 v1 R1 F1 => ?_
  obtain ⟨k, rfl⟩ : ∃ z : Nat, v = (z : Int) := ⟨v.toNat, by omega⟩
  have kl : k < rms.length := by omega
  have g1 := F1 _ _ nra h
  have ek := rms_at (rms := rms) kl
  obtain ⟨ok1, few⟩ := ok _ (rm_mem kl)
  generalize rmAt rms k = r at *
  obtain ⟨lit, ex, ct, sh⟩ := r
  simp only [Rm.W] at ek few
  have ok0 : (⟨lit ++ [Lit.say (.num 5)], ex, ct, sh⟩ : Rm).ok ms m rms.length := ⟨fun l hl => by
      rcases List.mem_append.mp hl with hl | hl
      · exact ok1.lits l hl
      · rw [List.mem_singleton.mp hl]; exact ⟨by simp [Rk.ok, InR], by simp [Rk.deep]⟩, by simp; omega, ok1.ex, ok1.ct, ok1.sh⟩
  have ok_1 : (⟨lit, ex, none, sh⟩ : Rm).ok ms m rms.length := ⟨ok1.lits, ok1.many, ok1.ex, fun k j e => by simp at e, ok1.sh⟩
  have ok_2 : (⟨lit, ex, ct, none⟩ : Rm).ok ms m rms.length := ⟨ok1.lits, ok1.many, ok1.ex, ok1.ct, fun j e => by simp at e⟩
  have ok_3 : ∀ j, j < rms.length → (⟨lit, .go j, ct, sh⟩ : Rm).ok ms m rms.length := fun j hj => ⟨ok1.lits, ok1.many, hj, ok1.ct, ok1.sh⟩
  have f0 := fun S3 x0 x7 D hD => fin k _ S3 x0 x7 D hD kl ok0
  have f1 := fun S3 x0 x7 D hD => fin k _ S3 x0 x7 D hD kl ok_1
  have f2 := fun S3 x0 x7 D hD => fin k _ S3 x0 x7 D hD kl ok_2
  have f3 := fun j hj S3 x0 x7 D hD => fin k _ S3 x0 x7 D hD kl (ok_3 j hj)
  have ll : (lit.map Lit.W).length ≤ 1000 := by rw [List.length_map]; omega
  have el : (lit ++ [Lit.say (.num 5)]).map Lit.W = lit.map Lit.W ++ [sayW] := by rw [List.map_append]; rfl
  simp only [el] at f0
  have ec : ctW none = .non := rfl
  have eo : optN none = .non := rfl
  simp only [ec] at f1
  simp only [eo] at f2
  simp only at f3
  clear fin ok0 ok_1 ok_2 ok_3 el ok1 few
  generalize lit.map Lit.W = wl at *
  generalize ex.W = wy at *
  generalize ctW ct = wc at *
  generalize optN sh = wz at *
  repeat (first | simp only [g1, onL_lst, ek, onS_some] | walk_at "wx")
  refine taken_ok R1 (by decide) (by decide) fun v S2 w0 w1 R2 F2 => ?_
  have F02 := F1.trans F2
  (try walk_at "wx")
  subst hT
  obtain rfl | rfl | rfl | rfl : v = 0 ∨ v = 1 ∨ v = 2 ∨ v = 3 := by omega
  · exact lv5y ll (lv4 (by decide) (lv3 (by decide) (lv2 (by decide) (f0 S2 _ _ _ rfl R2 F02))))
  · exact lv5 (by decide) (lv4y (lv3 (by decide) (lv2 (by decide) (f1 S2 _ _ _ rfl R2 F02))))
  · exact lv5 (by decide) (lv4 (by decide) (lv3y (lv2 (by decide) (f2 S2 _ _ _ rfl R2 F02))))
  · exact lv5 (by decide) (lv4 (by decide) (lv3 (by decide) (lv2y R2 (F02 _ _ nra h) h1 h1000 fun j S3 hj R3 F3 => f3 j hj S3 _ _ _ rfl R3 (F02.trans F3))))
end K10
end WL
namespace WL
open PySem L2
namespace K10
open K11 (sp_law_doors sp_law_typed sp_law_grown sp_joined sp_law_renamed sp_law_typed_room t_law_doors l_law_doors_1 r_law_doors t_law_typed l_law_typed_1 l_law_typed_2 r_law_typed t_law_grown l_law_grown_1 l_law_grown_2 l_law_grown_3 r_law_grown t_law_renamed l_law_renamed_1 r_law_renamed t_law_typed_room l_law_typed_room_1 l_law_typed_room_2 r_law_typed_room t_joined r_joined)
theorem mc_dat {S : Sto} {p : Addr} {ws : List W} {a b : Int} (h : S p = some (.lst ws)) (ok : okWs 50 ws = true) : Dat S (.tup [.int a, .int b, .ref p]) (.tuple [.int a, .int b, .list (dWs ws)]) ∧ SeqAt.shaped (.tuple [.int a, .int b, .list (dWs ws)]) = true ∧ PyData.eqv (.tuple [.int a, .int b, .list (dWs ws)]) (.tuple [.int a, .int b, .list (dWs ws)]) = true := by
  obtain ⟨h1, h2, h3⟩ := okWs_dat (S := S) ok
  refine ⟨.tup (.cons (.int _) (.cons (.int _) (.cons (.lst h h1) .nil))), ?_, ?_⟩
  · unfold SeqAt.shaped
    simp [PyData.canLay0, PyData.canLayAll0, h2, PyData.depth, PyData.depthAll]
    omega
  · simp [PyData.eqv, PyData.eqvAll, eqvs_self ok]
theorem eq_mc {S : Sto} {Q : WQ} {p p' : Addr} {ws : List W} {a b : Int} (h : S p = some (.lst ws)) (h' : S p' = some (.lst ws)) (ok : okWs 50 ws = true) (q : Q (.bl true) S) : rEqW (.tup [.int a, .int b, .ref p]) (.tup [.int a, .int b, .ref p']) S Q := by
  obtain ⟨d1, s1, e⟩ := mc_dat (a := a) (b := b) h ok
  obtain ⟨d2, s2, _⟩ := mc_dat (a := a) (b := b) h' ok
  refine eq_dat d1 d2 s1 s2 rfl ?_
  rw [e]
  exact q
theorem ne_mc {S : Sto} {Q : WQ} {p p' : Addr} {ws : List W} {a b : Int} (h : S p = some (.lst ws)) (h' : S p' = some (.lst ws)) (ok : okWs 50 ws = true) (q : Q (.bl false) S) : rNeW (.tup [.int a, .int b, .ref p]) (.tup [.int a, .int b, .ref p']) S Q := by
  obtain ⟨d1, s1, e⟩ := mc_dat (a := a) (b := b) h ok
  obtain ⟨d2, s2, _⟩ := mc_dat (a := a) (b := b) h' ok
  refine ne_dat d1 d2 s1 s2 rfl ?_
  rw [e]
  exact q
theorem rms_okWs {ms : List Mc} {m nr : Nat} {rms : List Rm} (ok : ∀ r ∈ rms, r.ok ms m nr) : okWs 50 (rms.map Rm.W) = true := okWs_of fun w hw => by
  obtain ⟨r, hr, rfl⟩ := List.mem_map.mp hw
  exact rm_okW (ok r hr)
/-! ### rooms in a row -/
def chRm (odd k : Nat) : Rm := ⟨[Lit.say (.num (1 + if (k : Int) = (odd : Int) then 1 else 0))], .go (k + 1), none, none⟩
def chEnd : Rm := ⟨[], .ends (.num 0), none, none⟩
def chainR (many odd : Nat) : List Rm := (List.range many).map (chRm odd) ++ [chEnd]
theorem chRm_W (odd k : Nat) : (chRm odd k).W = .tup [.tup [.tup [.str w_say, .tup [.str w_num, .int (1 + if (k : Int) = (odd : Int) then 1 else 0)]]], .tup [.str w_go, .int ((k : Int) + 1)], .non, .non] := rfl
theorem ev_odd {r : Rho} {k odd : Nat} (h4 : r[4]? = some (some (.int (k : Nat)))) (h2 : r[2]? = some (some (.int (odd : Nat)))) : Ev r (wOp rAddW (wC (.int 1)) (wCall rIntW (wCons (wOp rEqW (wVar 4) (wVar 2)) wNil))) (.int (1 + if (k : Int) = (odd : Int) then 1 else 0)) := fun S Q q => by
  have e1 : ∀ Q', wVar 4 r S Q' = Q' (.int (k : Nat)) S := fun Q' => by unfold wVar; rw [h4]
  have e2 : ∀ Q', wVar 2 r S Q' = Q' (.int (odd : Nat)) S := fun Q' => by unfold wVar; rw [h2]
  repeat (first | simp only [e1, e2] | walk_at "wx")
  simpa using q
theorem ev_suc {r : Rho} {k : Nat} (h4 : r[4]? = some (some (.int (k : Nat)))) : Ev r (wOp rAddW (wVar 4) (wC (.int 1))) (.int ((k : Int) + 1)) := fun S Q q => by
  have e1 : ∀ Q', wVar 4 r S Q' = Q' (.int (k : Nat)) S := fun Q' => by unfold wVar; rw [h4]
  repeat (first | simp only [e1] | walk_at "wx")
  exact q
theorem ch_ev {r : Rho} {k odd : Nat} (h4 : r[4]? = some (some (.int (k : Nat)))) (h2 : r[2]? = some (some (.int (odd : Nat)))) : Ev r (wTup (wCons (wTup (wCons (wTup (wCons (wC (.str w_say)) (wCons (wTup (wCons (wC (.str w_num)) (wCons (wOp rAddW (wC (.int 1)) (wCall rIntW (wCons (wOp rEqW (wVar 4) (wVar 2)) wNil))) wNil))) wNil))) wNil)) (wCons (wTup (wCons (wC (.str w_go)) (wCons (wOp rAddW (wVar 4) (wC (.int 1))) wNil))) (wCons (wC .non) (wCons (wC .non) wNil))))) (chRm odd k).W := by
  rw [chRm_W]
  exact ev_tup (ev_cons (ev_tup (ev_cons (ev_tup (ev_cons ev_c (ev_cons (ev_tup (ev_cons ev_c (ev_cons (ev_odd h4 h2) ev_nil)) (show 2 ≤ sizeLine by decide)) ev_nil)) (show 2 ≤ sizeLine by decide)) ev_nil) (show 1 ≤ sizeLine by decide)) (ev_cons (ev_tup (ev_cons ev_c (ev_cons (ev_suc h4) ev_nil)) (show 2 ≤ sizeLine by decide)) (ev_cons ev_c (ev_cons ev_c ev_nil)))) (show 4 ≤ sizeLine by decide)
theorem app_g {C : WE} {w : W} {D : WD} {S : Sto} {x0 x1 x2 x4 : Option W} {p : Addr} {ws : List W} (ev : Ev [x0, x1, x2, some (.ref p), x4] C w) (h : S p = some (.lst ws)) (hl : ws.length ≤ 1000) (q : D.nx [x0, x1, x2, some (.ref p), x4] (put S p (.lst (ws ++ [w])))) : (wDrop (wLm rAppW (wVar 3) (wCons C wNil))) D [x0, x1, x2, some (.ref p), x4] S := by
  walk_at "wx"
  refine ⟨is_lst h, ev _ _ ?_⟩
  simp only [h, onL_lst]
  exact ⟨small_len (by omega), q⟩
theorem ch_loop {D : WD} {row p : Addr} {ns : List Int} (nr : p ≠ row) {S0 : Sto} (f0 : S0 p = none) {x0 x1 : Option W} {odd : Nat} {many : Nat} (hm : many ≤ 100) (q : ∀ S' x4, Fr row S0 S' → RowAt S' row ns → S' p = some (.lst (((List.range many).map (chRm odd)).map Rm.W)) → D.nx [x0, x1, some (.int (odd : Nat)), some (.ref p), x4] S') : ∀ (k done : Nat) (S : Sto) (x4 : Option W), done + k = many → Fr row S0 S → RowAt S row ns → S p = some (.lst (((List.range done).map (chRm odd)).map Rm.W)) →
    forW (fun _ => True) (gNameW 4) (l_law_chain_1 sp_law_taken) ((List.range' done k).map fun i => W.int (i : Nat)) D [x0, x1, some (.int (odd : Nat)), some (.ref p), x4] S
  | 0, done, S, x4, hk, F, R, h => by
    simp only [List.range', List.map_nil, forW]
    have e : done = many := by omega
    subst e
    exact ⟨trivial, q S _ F R h⟩
  | k + 1, done, S, x4, hk, F, R, h => by
    have ih := fun S x4 => ch_loop nr f0 hm q k (done + 1) S x4 (by omega)
    simp only [List.range', List.map_cons, forW]
    generalize hL : forW (fun _ => True) (gNameW 4) (l_law_chain_1 sp_law_taken) ((List.range' (done + 1) k).map fun i => W.int (i : Nat)) D = L at *
    refine ⟨trivial, ?_⟩
    refine app_g (D := { D with nx := L, bk := D.nx, ct := L }) (ch_ev (k := done) (odd := odd) rfl rfl) h (by simp; omega) ?_
    refine ih _ _ (fun y o n e => ?_) ?_ ?_
    · have ny : y ≠ p := ne_none e f0
      rw [put_ne ny]; exact F y o n e
    · obtain ⟨i, c, d, e, z⟩ := R
      exact ⟨i, c, d, by rw [put_ne (Ne.symm nr)]; exact e, z⟩
    · rw [put_same, List.range_succ, List.map_append, List.map_append]
      rfl
def sp_law_chain : WSp := fun ws S Q => ∃ (row : Addr) (ns : List Int), ws = [.ref row] ∧ RowAt S row ns ∧ ∀ (many odd : Nat) S' p, 1 ≤ many → many ≤ 30 → RowAt S' row ns → Fr row S S' → S p = none → S' p = some (.lst ((chainR many odd).map Rm.W)) → Q (.ref p) S'
theorem end_ev {r : Rho} : Ev r (wTup (wCons (wTup wNil) (wCons (wTup (wCons (wC (.str w_end)) (wCons (wTup (wCons (wC (.str w_num)) (wCons (wC (.int 0)) wNil))) wNil))) (wCons (wC .non) (wCons (wC .non) wNil))))) chEnd.W := ev_tup (ev_cons (ev_tup ev_nil (by decide)) (ev_cons (ev_tup (ev_cons ev_c (ev_cons (ev_tup (ev_cons ev_c (ev_cons ev_c ev_nil)) (show 2 ≤ sizeLine by decide)) ev_nil)) (show 2 ≤ sizeLine by decide)) (ev_cons ev_c (ev_cons ev_c ev_nil)))) (show 4 ≤ sizeLine by decide)
theorem ret_g {C : WE} {w : W} {D : WD} {S : Sto} {x0 x1 x2 x4 : Option W} {p : Addr} {ws : List W} (ev : Ev [x0, x1, x2, some (.ref p), x4] C w) (h : S p = some (.lst ws)) (hl : ws.length ≤ 1000) (q : ∀ S' p', Le S S' → S p' = none → S' p' = some (.lst (ws ++ [w])) → D.rt (.ref p') S') : (wRet (wOp rAddW (wVar 3) (wLst (wCons C wNil)))) D [x0, x1, x2, some (.ref p), x4] S := by
  walk_at "wx"
  refine ev _ _ fun p1 hp1 => ?_
  have l1 := Le.put (o := .lst [w]) hp1
  have h1 := l1 _ _ h
  simp only [h1, onL_lst]
  exact ⟨Nat.le_of_lt (small_len (by omega)), fun p2 hp2 => q _ p2 (l1.trans (Le.put hp2)) (l1.free hp2) put_same⟩
theorem r_law_chain : ∀ ws S Q, Up Q → sp_law_chain ws S Q → t_law_chain sp_law_taken { nx := fun _ S' => Q .non S', rt := Q } (startW 5 ws) S := by
  rintro ws S Q up ⟨row, ns, rfl, R, q⟩
  unfold t_law_chain
  generalize hB : l_law_chain_1 sp_law_taken = LB
  generalize hC : wTup (wCons (wTup wNil) (wCons (wTup (wCons (wC (.str w_end)) (wCons (wTup (wCons (wC (.str w_num)) (wCons (wC (.int 0)) wNil))) wNil))) (wCons (wC .non) (wCons (wC .non) wNil)))) = C
  generalize hE : wRet (wOp rAddW (wVar 3) (wLst (wCons C wNil))) = E
  walk_at "wx"
  refine taken_ok R (by decide) (by decide) fun v S1 v0 v1 R1 F1 => ?_
  obtain ⟨a, rfl⟩ : ∃ z : Nat, v = (z : Int) := ⟨v.toNat, by omega⟩
  have ea : (1 : Int) + (a : Int) = ((1 + a : Nat) : Int) := by omega
  repeat (first | simp only [ea] | walk_at "wx")
  refine taken_ok R1 (by omega) (by omega) fun v S2 w0 w1 R2 F2 => ?_
  obtain ⟨b, rfl⟩ : ∃ z : Nat, v = (z : Int) := ⟨v.toNat, by omega⟩
  (try walk_at "wx")
  intro p hp
  have R3 := R2.le (Le.put (o := .lst []) hp)
  have nr : p ≠ row := Ne.symm (R2.ne hp)
  have l3 := Le.put (o := .lst []) hp
  have F3 : Fr row S (put S2 p (.lst [])) := fun y o ny e => l3 _ _ (F2 y o ny (F1 y o ny e))
  have fp : S p = none := by
    cases z : S p with
    | none => rfl
    | some o =>
      have := F2 p o nr (F1 p o nr z)
      rw [hp] at this; cases this
  have h3 : put S2 p (.lst []) p = some (.lst []) := put_same
  generalize put S2 p (.lst []) = S3 at *
  (try walk_at "wx")
  refine ⟨⟨by omega, by omega⟩, ?_⟩
  rw [Int.toNat_natCast, List.range_eq_range']
  subst hB
  refine ch_loop (S0 := S) nr fp (many := 1 + a) (by omega) (fun S4 x4 F4 R4 h4 => ?_) (1 + a) 0 S3 _ (by omega) F3 R3 (by rw [h3]; rfl)
  · subst hE hC
    refine ret_g end_ev h4 (by simp; omega) fun S5 p5 l5 f5 h5 => ?_
    refine q (1 + a) b S5 p5 (by omega) (by omega) (R4.le l5) (fun y o ny e => l5 _ _ (F4 y o ny e)) ?_ ?_
    · cases z : S p5 with
      | none => rfl
      | some o =>
        have n5 : p5 ≠ row := Ne.symm (R4.ne f5)
        have := F4 p5 o n5 z
        rw [f5] at this; cases this
    · rw [h5, chainR, List.map_append]
      rfl
/-! ### a machine that is kept -/
def rms5 : List Rm := [⟨[], .fork (.slot 0) 1 2, none, none⟩, ⟨[], .fork (.slot 0) 3 3, some (none, 3), some 3⟩, ⟨[], .fork (.slot 0) 3 3, some (none, 3), some 4⟩, ⟨[], .ends (.num 1), none, none⟩, ⟨[], .ends (.num 2), none, none⟩]
theorem k5 : kindsF rms5 = [0, 1, 2, 3, 4] := by decide +kernel
theorem t5 : tidyI rms5 0 = [0, 1, 2, 3, 4] := by decide +kernel
theorem td5 : tdR rms5 = rms5 := by
  unfold tdR tidyF
  rw [t5]
  have n : ∀ d, d < 5 → numF (kdF rms5) [0, 1, 2, 3, 4] d = d := by
    intro d hd
    unfold numF kdF
    rw [k5]
    obtain rfl | rfl | rfl | rfl | rfl : d = 0 ∨ d = 1 ∨ d = 2 ∨ d = 3 ∨ d = 4 := by omega
    all_goals decide
  have id5 : ∀ i, i < 5 → (rmAt rms5 i).ren (numF (kdF rms5) [0, 1, 2, 3, 4]) = rmAt rms5 i := fun i hi => ren_id fun d hd => n d (by
    obtain rfl | rfl | rfl | rfl | rfl : i = 0 ∨ i = 1 ∨ i = 2 ∨ i = 3 ∨ i = 4 := by omega
    all_goals (simp [rms5, rmAt, Rm.doors, Ex.doors] at hd; try omega))
  simp only [List.map_cons, List.map_nil]
  rw [id5 0 (by omega), id5 1 (by omega), id5 2 (by omega), id5 3 (by omega), id5 4 (by omega)]
  rfl
theorem ok5 : (⟨1, 1, rms5⟩ : Mc).ok [] := by
  refine ⟨Nat.le_refl _, by simp, by simp [rms5], by simp [rms5], fun r hr => ?_⟩
  simp only [rms5, List.mem_cons, List.not_mem_nil, or_false] at hr
  have z : ∀ (x : Ex) (c : Option (Option Nat × Nat)) (s : Option Nat), x.ok [] 1 5 → (∀ k j, c = some (k, j) → j < 5 ∧ ∀ i, k = some i → i < 1) → (∀ j, s = some j → j < 5) → Rm.ok [] 1 5 ⟨[], x, c, s⟩ := fun x c s h1 h2 h3 => ⟨fun l hl => by simp at hl, by simp, h1, h2, h3⟩
  have e1 : (Ex.fork (.slot 0) 1 2).ok [] 1 5 := ⟨⟨by simp [Rk.ok], by simp [Rk.deep]⟩, by omega, by omega⟩
  have e2 : (Ex.fork (.slot 0) 3 3).ok [] 1 5 := ⟨⟨by simp [Rk.ok], by simp [Rk.deep]⟩, by omega, by omega⟩
  have e3 : (Ex.ends (.num 1)).ok [] 1 5 := ⟨by simp [Rk.ok, InR], by simp [Rk.deep]⟩
  have e4 : (Ex.ends (.num 2)).ok [] 1 5 := ⟨by simp [Rk.ok, InR], by simp [Rk.deep]⟩
  have c1 : ∀ k j, (none : Option (Option Nat × Nat)) = some (k, j) → j < 5 ∧ ∀ i, k = some i → i < 1 := fun k j e => by simp at e
  have c2 : ∀ k j, (some (none, 3) : Option (Option Nat × Nat)) = some (k, j) → j < 5 ∧ ∀ i, k = some i → i < 1 := fun k j e => by
    simp only [Option.some.injEq, Prod.mk.injEq] at e
    obtain ⟨rfl, rfl⟩ := e
    exact ⟨by omega, fun i e => by simp at e⟩
  have s1 : ∀ j, (none : Option Nat) = some j → j < 5 := fun j e => by simp at e
  have s2 : ∀ (x : Nat), x < 5 → ∀ j, (some x : Option Nat) = some j → j < 5 := fun x hx j e => by cases e; exact hx
  rcases hr with rfl | rfl | rfl | rfl | rfl
  · exact z _ _ _ e1 c1 s1
  · exact z _ _ _ e2 c2 (s2 3 (by omega))
  · exact z _ _ _ e2 c2 (s2 4 (by omega))
  · exact z _ _ _ e3 c1 s1
  · exact z _ _ _ e4 c1 s1
def sp_law_is_kept : WSp := fun ws S Q => ws = [] ∧ ∀ S', Le S S' → Q (.bl true) S'
theorem kept_g {A B0 B1 B2 B3 B4 : WE} {f0 f1 f2 r0 r1 r2 r3 r4 : W} {D : WD} {S : Sto} {x0 x1 x2 x3 : Option W} (eA : ∀ r, Ev r A (.tup [f0, f1, f2])) (e0 : ∀ r, Ev r B0 r0) (e1 : ∀ r : Rho, r[0]? = some (some f0) → Ev r B1 r1) (e2 : ∀ r : Rho, r[0]? = some (some f0) → Ev r B2 r2) (e3 : ∀ r : Rho, r[1]? = some (some f1) → Ev r B3 r3) (e4 : ∀ r : Rho, r[2]? = some (some f2) → Ev r B4 r4)
    (hw : [r0, r1, r2, r3, r4] = rms5.map Rm.W) (q : ∀ S', Le S S' → D.rt (.bl true) S') :
    (wSeq (wAsg A (gTupW 3 (gConsW (gNameW 0) (gConsW (gNameW 1) (gConsW (gNameW 2) gNilW)))))
  (wSeq (wAsg (wLst (wCons B0 (wCons B1 (wCons B2 wNil)))) (gNameW 3))
  (wSeq (wAsg (wOp rAddW (wVar 3) (wLst (wCons B3 (wCons B4 wNil)))) (gNameW 3))
  (wRet (wOp rEqW (wCall sp_joined (wCons (wTup (wCons (wC (.int 1)) (wCons (wC (.int 1)) (wCons (wCall rListW (wCons (wVar 3) wNil)) wNil)))) wNil)) (wTup (wCons (wC (.int 1)) (wCons (wC (.int 1)) (wCons (wVar 3) wNil))))))))) D [x0, x1, x2, x3] S := by
  walk_at "wx"
  refine eA _ _ _ ?_
  (try walk_at "wx")
  refine e0 _ _ _ (e1 _ rfl _ _ (e2 _ rfl _ _ fun p hp => e3 _ rfl _ _ (e4 _ rfl _ _ fun p1 hp1 => ?_)))
  have l1 := Le.put (o := .lst [r0, r1, r2]) hp
  have g1 : put S p (.lst [r0, r1, r2]) p = some (.lst [r0, r1, r2]) := put_same
  generalize put S p (.lst [r0, r1, r2]) = S1 at *
  have l2 := l1.trans (Le.put (o := .lst [r3, r4]) hp1)
  have g2 := Le.put (o := .lst [r3, r4]) hp1 _ _ g1
  generalize put S1 p1 (.lst [r3, r4]) = S2 at *
  simp only [g2, onL_lst]
  refine ⟨(show 5 ≤ sizeLine by decide), fun p2 hp2 p3 hp3 => ?_⟩
  rw [show [r0, r1, r2] ++ [r3, r4] = rms5.map Rm.W from hw] at hp3 ⊢
  have l3 := l2.trans (Le.put (o := .lst (rms5.map Rm.W)) hp2)
  have g3 : put S2 p2 (.lst (rms5.map Rm.W)) p2 = some (.lst (rms5.map Rm.W)) := put_same
  generalize put S2 p2 (.lst (rms5.map Rm.W)) = S3 at *
  have l4 := l3.trans (Le.put (o := .lst (rms5.map Rm.W)) hp3)
  have g34 := Le.put (o := .lst (rms5.map Rm.W)) hp3 _ _ g3
  have g4 : put S3 p3 (.lst (rms5.map Rm.W)) p3 = some (.lst (rms5.map Rm.W)) := put_same
  generalize put S3 p3 (.lst (rms5.map Rm.W)) = S4 at *
  refine ⟨⟨1, 1, rms5⟩, [], p3, rfl, g4, ok5, fun S5 p5 l5 f5 h5 => ?_⟩
  have e5 : (joinM ⟨1, 1, rms5⟩).rooms = rms5 := td5
  rw [e5] at h5
  exact eq_mc h5 (l5 _ _ g34) (rms_okWs ok5.rooms) (q S5 (l4.trans l5))
abbrev kf0 : W := W.tup [.str w_fork, .tup [.str w_slot, .int 0], .int 3, .int 3]
abbrev kf1 : W := W.tup [.str w_end, .tup [.str w_num, .int 1]]
abbrev kf2 : W := W.tup [.str w_end, .tup [.str w_num, .int 2]]
theorem kA (r : Rho) : Ev r (wTup (wCons (wTup (wCons (wC (.str w_fork)) (wCons (wTup (wCons (wC (.str w_slot)) (wCons (wC (.int 0)) wNil))) (wCons (wC (.int 3)) (wCons (wC (.int 3)) wNil))))) (wCons (wTup (wCons (wC (.str w_end)) (wCons (wTup (wCons (wC (.str w_num)) (wCons (wC (.int 1)) wNil))) wNil))) (wCons (wTup (wCons (wC (.str w_end)) (wCons (wTup (wCons (wC (.str w_num)) (wCons (wC (.int 2)) wNil))) wNil))) wNil)))) (.tup [kf0, kf1, kf2]) := (ev_tup (ev_cons (ev_tup (ev_cons ev_c (ev_cons (ev_tup (ev_cons ev_c (ev_cons ev_c ev_nil)) (show _ ≤ sizeLine by decide)) (ev_cons ev_c (ev_cons ev_c ev_nil)))) (show _ ≤ sizeLine by decide)) (ev_cons (ev_tup (ev_cons ev_c (ev_cons (ev_tup (ev_cons ev_c (ev_cons ev_c ev_nil)) (show _ ≤ sizeLine by decide)) ev_nil)) (show _ ≤ sizeLine by decide)) (ev_cons (ev_tup (ev_cons ev_c (ev_cons (ev_tup (ev_cons ev_c (ev_cons ev_c ev_nil)) (show _ ≤ sizeLine by decide)) ev_nil)) (show _ ≤ sizeLine by decide)) ev_nil))) (show _ ≤ sizeLine by decide))
abbrev kr0 : W := W.tup [.tup [], .tup [.str w_fork, .tup [.str w_slot, .int 0], .int 1, .int 2], .non, .non]
theorem kB0 (r : Rho) : Ev r (wTup (wCons (wTup wNil) (wCons (wTup (wCons (wC (.str w_fork)) (wCons (wTup (wCons (wC (.str w_slot)) (wCons (wC (.int 0)) wNil))) (wCons (wC (.int 1)) (wCons (wC (.int 2)) wNil))))) (wCons (wC .non) (wCons (wC .non) wNil))))) kr0 := (ev_tup (ev_cons (ev_tup ev_nil (show _ ≤ sizeLine by decide)) (ev_cons (ev_tup (ev_cons ev_c (ev_cons (ev_tup (ev_cons ev_c (ev_cons ev_c ev_nil)) (show _ ≤ sizeLine by decide)) (ev_cons ev_c (ev_cons ev_c ev_nil)))) (show _ ≤ sizeLine by decide)) (ev_cons ev_c (ev_cons ev_c ev_nil)))) (show _ ≤ sizeLine by decide))
abbrev kr1 : W := W.tup [.tup [], kf0, .tup [.non, .int 3], .int 3]
theorem kB1 (r : Rho) (h : r[0]? = some (some kf0)) : Ev r (wTup (wCons (wTup wNil) (wCons (wVar 0) (wCons (wTup (wCons (wC .non) (wCons (wC (.int 3)) wNil))) (wCons (wC (.int 3)) wNil))))) kr1 := (ev_tup (ev_cons (ev_tup ev_nil (show _ ≤ sizeLine by decide)) (ev_cons (ev_var h) (ev_cons (ev_tup (ev_cons ev_c (ev_cons ev_c ev_nil)) (show _ ≤ sizeLine by decide)) (ev_cons ev_c ev_nil)))) (show _ ≤ sizeLine by decide))
abbrev kr2 : W := W.tup [.tup [], kf0, .tup [.non, .int 3], .int 4]
theorem kB2 (r : Rho) (h : r[0]? = some (some kf0)) : Ev r (wTup (wCons (wTup wNil) (wCons (wVar 0) (wCons (wTup (wCons (wC .non) (wCons (wC (.int 3)) wNil))) (wCons (wC (.int 4)) wNil))))) kr2 := (ev_tup (ev_cons (ev_tup ev_nil (show _ ≤ sizeLine by decide)) (ev_cons (ev_var h) (ev_cons (ev_tup (ev_cons ev_c (ev_cons ev_c ev_nil)) (show _ ≤ sizeLine by decide)) (ev_cons ev_c ev_nil)))) (show _ ≤ sizeLine by decide))
abbrev kr3 : W := W.tup [.tup [], kf1, .non, .non]
theorem kB3 (r : Rho) (h : r[1]? = some (some kf1)) : Ev r (wTup (wCons (wTup wNil) (wCons (wVar 1) (wCons (wC .non) (wCons (wC .non) wNil))))) kr3 := (ev_tup (ev_cons (ev_tup ev_nil (show _ ≤ sizeLine by decide)) (ev_cons (ev_var h) (ev_cons ev_c (ev_cons ev_c ev_nil)))) (show _ ≤ sizeLine by decide))
abbrev kr4 : W := W.tup [.tup [], kf2, .non, .non]
theorem kB4 (r : Rho) (h : r[2]? = some (some kf2)) : Ev r (wTup (wCons (wTup wNil) (wCons (wVar 2) (wCons (wC .non) (wCons (wC .non) wNil))))) kr4 := (ev_tup (ev_cons (ev_tup ev_nil (show _ ≤ sizeLine by decide)) (ev_cons (ev_var h) (ev_cons ev_c (ev_cons ev_c ev_nil)))) (show _ ≤ sizeLine by decide))
theorem kW : [kr0, kr1, kr2, kr3, kr4] = rms5.map Rm.W := rfl
theorem r_law_is_kept : ∀ ws S Q, Up Q → sp_law_is_kept ws S Q → t_law_is_kept sp_joined { nx := fun _ S' => Q .non S', rt := Q } (startW 4 ws) S := by
  rintro ws S Q up ⟨rfl, q⟩
  exact kept_g kA kB0 kB1 kB2 kB3 kB4 kW q
end K10
end WL
namespace WL
open PySem L2
namespace K10
open K11 (sp_law_doors sp_law_typed sp_law_grown sp_joined sp_law_renamed sp_law_typed_room t_law_doors l_law_doors_1 r_law_doors t_law_typed l_law_typed_1 l_law_typed_2 r_law_typed t_law_grown l_law_grown_1 l_law_grown_2 l_law_grown_3 r_law_grown t_law_renamed l_law_renamed_1 r_law_renamed t_law_typed_room l_law_typed_room_1 l_law_typed_room_2 r_law_typed_room t_joined r_joined)
def kk8 (sp_joined sp_law_stands_for sp_law_none_alike sp_law_as_met : WSp) : WS := (wIfS (wOr (wB (wOp rNeW (wCall sp_joined (wCons (wTup (wCons (wVar 3) (wCons (wVar 4) (wCons (wVar 6) wNil)))) wNil)) (wTup (wCons (wVar 3) (wCons (wVar 4) (wCons (wVar 8) wNil)))))) (wB (wOp rNeW (wVar 6) (wVar 5)))) (wRet (wC (.bl false))) wNext)
def kk7 (sp_joined sp_law_stands_for sp_law_none_alike sp_law_as_met : WSp) : WS := (wSeq (wDrop (wLm0 rClrW (wOp rIxW (wVar 7) (wC (.int 2))))) (kk8 sp_joined sp_law_stands_for sp_law_none_alike sp_law_as_met))
def kk6 (sp_joined sp_law_stands_for sp_law_none_alike sp_law_as_met : WSp) : WS := (wSeq (wIfS (wB (wOp rNeW (wCall sp_joined (wCons (wTup (wCons (wVar 3) (wCons (wVar 4) (wCons (wCall rListW (wCons (wVar 8) wNil)) wNil)))) wNil)) (wTup (wCons (wVar 3) (wCons (wVar 4) (wCons (wVar 8) wNil)))))) (wRet (wC (.bl false))) wNext) (kk7 sp_joined sp_law_stands_for sp_law_none_alike sp_law_as_met))
def kk5 (sp_joined sp_law_stands_for sp_law_none_alike sp_law_as_met : WSp) : WS := (wSeq (wIfS (wOr (wNot (wB (wCall sp_law_stands_for (wCons (wVar 5) (wCons (wVar 8) wNil))))) (wOr (wNot (wB (wCall sp_law_none_alike (wCons (wVar 8) wNil)))) (wNot (wB (wCall sp_law_as_met (wCons (wVar 8) wNil)))))) (wRet (wC (.bl false))) wNext) (kk6 sp_joined sp_law_stands_for sp_law_none_alike sp_law_as_met))
def kk4 (sp_joined sp_law_stands_for sp_law_none_alike sp_law_as_met : WSp) : WS := (wSeq (wIfS (wOr (wB (wOp rNeW (wVar 6) (wVar 5))) (wOr (wB (wOp rEqW (wVar 8) (wLst wNil))) (wB (wOp rNeW (wLc (wVar 8) 9 (wNot (wB (wCall rIsiW (wCons (wVar 9) (wCons (wC (.ty "tuple")) wNil))))) (wVar 9)) (wLst wNil))))) (wRet (wC (.bl false))) wNext) (kk5 sp_joined sp_law_stands_for sp_law_none_alike sp_law_as_met))
def kk3 (sp_joined sp_law_stands_for sp_law_none_alike sp_law_as_met : WSp) : WS := (wSeq (wAsg (wCall rListW (wCons (wOp rIxW (wVar 7) (wC (.int 2))) wNil)) (gNameW 8)) (kk4 sp_joined sp_law_stands_for sp_law_none_alike sp_law_as_met))
def kk2 (sp_joined sp_law_stands_for sp_law_none_alike sp_law_as_met : WSp) : WS := (wSeq (wIfS (wOr (wNot (wB (wCall rIsiW (wCons (wVar 7) (wCons (wC (.ty "tuple")) wNil))))) (wOr (wB (wOp rNeW (wSl (wVar 7) wNoPart (wPart (wC (.int 2)))) (wTup (wCons (wVar 3) (wCons (wVar 4) wNil))))) (wNot (wB (wCall rIsiW (wCons (wOp rIxW (wVar 7) (wC (.int 2))) (wCons (wC (.ty "list")) wNil))))))) (wRet (wC (.bl false))) wNext) (kk3 sp_joined sp_law_stands_for sp_law_none_alike sp_law_as_met))
def kk1 (sp_joined sp_law_stands_for sp_law_none_alike sp_law_as_met : WSp) : WS := (wSeq (wAsg (wCall sp_joined (wCons (wTup (wCons (wVar 3) (wCons (wVar 4) (wCons (wVar 6) wNil)))) wNil)) (gNameW 7)) (kk2 sp_joined sp_law_stands_for sp_law_none_alike sp_law_as_met))
def kk0 (sp_joined sp_law_stands_for sp_law_none_alike sp_law_as_met : WSp) : WS := (wSeq (wAsg (wCall rListW (wCons (wVar 5) wNil)) (gNameW 6)) (kk1 sp_joined sp_law_stands_for sp_law_none_alike sp_law_as_met))
theorem k_eq (sp_law_is_kept sp_law_typed sp_law_grown sp_law_taken sp_law_chain sp_law_changed sp_joined sp_law_stands_for sp_law_none_alike sp_law_as_met : WSp) : l_law_1 sp_law_is_kept sp_law_typed sp_law_grown sp_law_taken sp_law_chain sp_law_changed sp_joined sp_law_stands_for sp_law_none_alike sp_law_as_met = kk0 sp_joined sp_law_stands_for sp_law_none_alike sp_law_as_met := rfl
abbrev KK1 : WS := kk1 sp_joined sp_law_stands_for sp_law_none_alike sp_law_as_met
abbrev KK4 : WS := kk4 sp_joined sp_law_stands_for sp_law_none_alike sp_law_as_met
abbrev KK5 : WS := kk5 sp_joined sp_law_stands_for sp_law_none_alike sp_law_as_met
abbrev KK6 : WS := kk6 sp_joined sp_law_stands_for sp_law_none_alike sp_law_as_met
abbrev KK7 : WS := kk7 sp_joined sp_law_stands_for sp_law_none_alike sp_law_as_met
abbrev KK8 : WS := kk8 sp_joined sp_law_stands_for sp_law_none_alike sp_law_as_met
abbrev L1 : WS := l_law_1 sp_law_is_kept sp_law_typed sp_law_grown sp_law_taken sp_law_chain sp_law_changed sp_joined sp_law_stands_for sp_law_none_alike sp_law_as_met
abbrev L2 : WS := l_law_2 sp_law_is_kept sp_law_typed sp_law_grown sp_law_taken sp_law_chain sp_law_changed sp_joined sp_law_stands_for sp_law_none_alike sp_law_as_met
abbrev L3 : WS := l_law_3 sp_law_is_kept sp_law_typed sp_law_grown sp_law_taken sp_law_chain sp_law_changed sp_joined sp_law_stands_for sp_law_none_alike sp_law_as_met
section
variable {mc : Mc} {ms : List Mc}
theorem td_ok (ok : mc.ok ms) : (⟨mc.params, mc.slots, tdR mc.rooms⟩ : Mc).ok ms := by
  have dl := join_dl ok
  obtain ⟨t1, t2⟩ := tidy_len (params := 0) (slots := 0) dl ok.some_
  exact ⟨ok.le, ok.small, t1, Nat.le_trans t2 ok.many, tidy_rooms_ok (params := 0) (slots := 0) dl ok.some_ ok.rooms⟩
theorem tdR_again' (ok : mc.ok ms) : tdR (tdR mc.rooms) = tdR mc.rooms := tdR_again (join_dl ok) ok.some_ (join_nk ok)
/-- where one turn stands -/
structure Tn (S : Sto) (row ra p1 p2 p3 : Addr) (ns : List Int) (mc : Mc) : Prop where
  R : RowAt S row ns
  ha : S ra = some (.lst (mc.rooms.map Rm.W))
  h1 : S p1 = some (.lst (mc.rooms.map Rm.W))
  h2 : S p2 = some (.lst ((tdR mc.rooms).map Rm.W))
  h3 : S p3 = some (.lst ((tdR mc.rooms).map Rm.W))
structure Tne (row ra p1 p2 p3 : Addr) : Prop where
  n1 : row ≠ p2
  n2 : ra ≠ p2
  n3 : p1 ≠ p2
  n4 : p3 ≠ p2
theorem Tn.le {S S' : Sto} {row ra p1 p2 p3 : Addr} {ns : List Int} (h : Tn S row ra p1 p2 p3 ns mc) (l : Le S S') : Tn S' row ra p1 p2 p3 ns mc := ⟨h.R.le l, l _ _ h.ha, l _ _ h.h1, l _ _ h.h2, l _ _ h.h3⟩
variable {row ra p1 p2 p3 : Addr} {ns : List Int} {D : WD} {S : Sto} {x0 x2 x6 x7 x8 x9 : Option W}
/-- the call of joined -/
theorem call_joined (ok : mc.ok ms) {p : Addr} {S : Sto} {Q : WQ} (h : S p = some (.lst (mc.rooms.map Rm.W))) (q : ∀ S' p', Le S S' → S p' = none → S' p' = some (.lst ((tdR mc.rooms).map Rm.W)) → Q (.tup [.int mc.params, .int mc.slots, .ref p']) S') : sp_joined [.tup [.int mc.params, .int mc.slots, .ref p]] S Q := ⟨mc, ms, p, rfl, h, ok, fun S' p' l f e => q S' p' l f e⟩
theorem c8_ok (ok : mc.ok ms) {S0 : Sto} (R : RowAt S row ns) (ha : S ra = some (.lst (mc.rooms.map Rm.W))) (h1 : S p1 = some (.lst (mc.rooms.map Rm.W))) (h3 : S p3 = some (.lst ((tdR mc.rooms).map Rm.W))) (again : ∀ S', Le S S' → D.nx [x0, some (.ref row), x2, some (.int mc.params), some (.int mc.slots), some (.ref ra), some (.ref p1), x7, some (.ref p3), x9] S') :
    KK8 D [x0, some (.ref row), x2, some (.int mc.params), some (.int mc.slots), some (.ref ra), some (.ref p1), x7, some (.ref p3), x9] S := by
  unfold KK8 kk8
  walk_at "wx"
  refine call_joined ok h1 fun S1 p l1 f1 e1 => ?_
  refine ne_mc e1 (l1 _ _ h3) (rms_okWs (td_ok ok).rooms) ?_
  simp only [onB, Bool.false_eq_true, if_false]
  refine ne_lists (l1 _ _ h1) (l1 _ _ ha) (rms_okWs ok.rooms) ?_
  simp only [onB, Bool.false_eq_true, if_false]
  exact again S1 l1
theorem c7_ok (ok : mc.ok ms) (T : Tn S row ra p1 p2 p3 ns mc) (N : Tne row ra p1 p2 p3) (again : ∀ S', RowAt S' row ns → S' ra = some (.lst (mc.rooms.map Rm.W)) → D.nx [x0, some (.ref row), x2, some (.int mc.params), some (.int mc.slots), some (.ref ra), some (.ref p1), some (.tup [.int mc.params, .int mc.slots, .ref p2]), some (.ref p3), x9] S') :
    KK7 D [x0, some (.ref row), x2, some (.int mc.params), some (.int mc.slots), some (.ref ra), some (.ref p1), some (.tup [.int mc.params, .int mc.slots, .ref p2]), some (.ref p3), x9] S := by
  unfold KK7 kk7
  generalize hK : kk8 sp_joined sp_law_stands_for sp_law_none_alike sp_law_as_met = KK
  walk_at "wx"
  refine ⟨is_lst T.h2, ?_⟩
  simp only [T.h2, onL_lst]
  subst hK
  obtain ⟨i, c, d, e, z⟩ := T.R
  have R' : RowAt (put S p2 (.lst [])) row ns := ⟨i, c, d, by rw [put_ne N.n1]; exact e, z⟩
  have ha' : put S p2 (.lst []) ra = some (.lst (mc.rooms.map Rm.W)) := by rw [put_ne N.n2]; exact T.ha
  exact c8_ok (S0 := S) ok R' ha' (by rw [put_ne N.n3]; exact T.h1) (by rw [put_ne N.n4]; exact T.h3) fun S' l => again S' (R'.le l) (l _ _ ha')
theorem c6_ok (ok : mc.ok ms) (T : Tn S row ra p1 p2 p3 ns mc) (N : Tne row ra p1 p2 p3) (again : ∀ S', RowAt S' row ns → S' ra = some (.lst (mc.rooms.map Rm.W)) → D.nx [x0, some (.ref row), x2, some (.int mc.params), some (.int mc.slots), some (.ref ra), some (.ref p1), some (.tup [.int mc.params, .int mc.slots, .ref p2]), some (.ref p3), x9] S') :
    KK6 D [x0, some (.ref row), x2, some (.int mc.params), some (.int mc.slots), some (.ref ra), some (.ref p1), some (.tup [.int mc.params, .int mc.slots, .ref p2]), some (.ref p3), x9] S := by
  unfold KK6 kk6
  generalize hK : kk7 sp_joined sp_law_stands_for sp_law_none_alike sp_law_as_met = KK
  repeat (first | simp only [T.h3, so_l T.h3, onL_lst, onQ_some] | walk_at "wx")
  intro p4 hp4
  have l1 := Le.put (o := .lst ((tdR mc.rooms).map Rm.W)) hp4
  have T1 := T.le l1
  have g4 : put S p4 (.lst ((tdR mc.rooms).map Rm.W)) p4 = some (.lst ((tdR mc.rooms).map Rm.W)) := put_same
  generalize put S p4 (.lst ((tdR mc.rooms).map Rm.W)) = S1 at *
  have ok2 := td_ok ok
  refine call_joined (mc := ⟨mc.params, mc.slots, tdR mc.rooms⟩) ok2 g4 fun S2 p l2 f2 e2 => ?_
  rw [tdR_again' ok] at e2
  refine ne_mc e2 (l2 _ _ T1.h3) (rms_okWs ok2.rooms) ?_
  simp only [onB, Bool.false_eq_true, if_false]
  subst hK
  exact c7_ok ok (T1.le l2) N again
theorem c5_ok (ok : mc.ok ms) (sm : mc.rooms.length ≤ 1000) (T : Tn S row ra p1 p2 p3 ns mc) (N : Tne row ra p1 p2 p3) (again : ∀ S', RowAt S' row ns → S' ra = some (.lst (mc.rooms.map Rm.W)) → D.nx [x0, some (.ref row), x2, some (.int mc.params), some (.int mc.slots), some (.ref ra), some (.ref p1), some (.tup [.int mc.params, .int mc.slots, .ref p2]), some (.ref p3), x9] S') :
    KK5 D [x0, some (.ref row), x2, some (.int mc.params), some (.int mc.slots), some (.ref ra), some (.ref p1), some (.tup [.int mc.params, .int mc.slots, .ref p2]), some (.ref p3), x9] S := by
  have dl := join_dl ok
  have nk := join_nk ok
  have h0 := ok.some_
  have ok2 := td_ok ok
  have tl := (tidy_len (params := 0) (slots := 0) dl h0).2
  have tl2 : (tdR mc.rooms).length ≤ 1000 := Nat.le_trans tl sm
  unfold KK5 kk5
  generalize hK : kk6 sp_joined sp_law_stands_for sp_law_none_alike sp_law_as_met = KK
  walk_at "wx"
  refine ⟨ra, p3, mc, ms, rfl, ok, sm, T.ha, T.h3, fun S1 l1 => ?_⟩
  have T1 := T.le l1
  simp only [onB, Bool.not_true, Bool.false_eq_true, if_false]
  refine ⟨p3, tdR mc.rooms, ms, mc.slots, _, rfl, T1.h3, ok2.rooms, tdR_dl dl h0, tl2, fun i j hi hj h => none_alike dl h0 nk hi hj h, fun S2 l2 => ?_⟩
  have T2 := T1.le l2
  simp only [onB, Bool.not_true, Bool.false_eq_true, if_false]
  refine ⟨p3, tdR mc.rooms, rfl, T2.h3, (met_ok dl h0 nk).2, tl2, fun S3 l3 => ?_⟩
  simp only [onB, Bool.not_true, Bool.false_eq_true, if_false]
  subst hK
  exact c6_ok ok (T2.le l3) N again
theorem c4_ok (ok : mc.ok ms) (sm : mc.rooms.length ≤ 1000) (T : Tn S row ra p1 p2 p3 ns mc) (N : Tne row ra p1 p2 p3) (again : ∀ S', RowAt S' row ns → S' ra = some (.lst (mc.rooms.map Rm.W)) → D.nx [x0, some (.ref row), x2, some (.int mc.params), some (.int mc.slots), some (.ref ra), some (.ref p1), some (.tup [.int mc.params, .int mc.slots, .ref p2]), some (.ref p3), x9] S') :
    KK4 D [x0, some (.ref row), x2, some (.int mc.params), some (.int mc.slots), some (.ref ra), some (.ref p1), some (.tup [.int mc.params, .int mc.slots, .ref p2]), some (.ref p3), x9] S := by
  unfold KK4 kk4
  generalize hK : kk5 sp_joined sp_law_stands_for sp_law_none_alike sp_law_as_met = KK
  walk_at "wx"
  refine ne_lists T.h1 T.ha (rms_okWs ok.rooms) ?_
  simp only [onB, Bool.false_eq_true, if_false]
  intro p4 hp4
  have l1 := Le.put (o := .lst []) hp4
  have T1 := T.le l1
  have g4 : put S p4 (.lst []) p4 = some (.lst []) := put_same
  generalize put S p4 (.lst []) = S1 at *
  have ok2 := td_ok ok
  refine eq_empty T1.h3 g4 (okWs_up (rms_okWs ok2.rooms) (by decide)) ?_
  have ne : ((tdR mc.rooms).map Rm.W).isEmpty = false := by
    have := ok2.some_
    simp only at this
    cases q : tdR mc.rooms with
    | nil => rw [q] at this; simp at this
    | cons x xs => rfl
  rw [ne]
  simp only [onB, Bool.false_eq_true, if_false, so_l T1.h3, onQ_some]
  intro p5 hp5
  have T2 := T1.le (Le.put (o := .lst []) hp5)
  refine lc_pure (α := Rm) (F := Rm.W) (G := Rm.W) (b := fun _ => false) _ (fun ws => so_l (Le.put hp5 _ _ T1.h3)) (fun x hx ws Q' q' => ?_) (fun x hx e => by cases e) (by have := ok2.many; exact this) ?_
  · simp only [List.set_cons_succ, List.set_cons_zero, Rm.W]
    walk_at "wx"
    exact q'
  rw [show List.filter (fun _ : Rm => false) (tdR mc.rooms) = [] by simp, List.map_nil]
  have g5 : put S1 p5 (.lst []) p5 = some (.lst []) := put_same
  generalize put S1 p5 (.lst []) = S2 at *
  intro p6 hp6
  have T3 := T2.le (Le.put (o := .lst []) hp6)
  have g56 := Le.put (o := .lst []) hp6 _ _ g5
  refine ne_empty g56 put_same (by rw [okWs]) ?_
  simp only [List.isEmpty_nil, onB, Bool.not_true, Bool.false_eq_true, if_false]
  subst hK
  exact c5_ok ok sm T3 N again
theorem c1_ok (ok : mc.ok ms) (sm : mc.rooms.length ≤ 1000) (nr : row ≠ ra) (R : RowAt S row ns) (ha : S ra = some (.lst (mc.rooms.map Rm.W))) (h1 : S p1 = some (.lst (mc.rooms.map Rm.W))) (again : ∀ S' x6 x7 x8 x9, RowAt S' row ns → S' ra = some (.lst (mc.rooms.map Rm.W)) → D.nx [x0, some (.ref row), x2, some (.int mc.params), some (.int mc.slots), some (.ref ra), x6, x7, x8, x9] S') :
    KK1 D [x0, some (.ref row), x2, some (.int mc.params), some (.int mc.slots), some (.ref ra), some (.ref p1), x7, x8, x9] S := by
  unfold KK1 kk1
  generalize hK : kk2 sp_joined sp_law_stands_for sp_law_none_alike sp_law_as_met = KK
  walk_at "wx"
  refine call_joined ok h1 fun S1 p2 l1 f2 h2 => ?_
  subst hK
  unfold kk2
  generalize hK : kk3 sp_joined sp_law_stands_for sp_law_none_alike sp_law_as_met = KK
  have ct : cutW [W.int mc.params, .int mc.slots, .ref p2] none (some 2) = [W.int mc.params, .int mc.slots] := cut_take (n := 2)
  repeat (first | simp only [ct, is_lst h2, h2, onL_lst] | walk_at "wx")
  have o2 : okW 60 (.tup [W.int mc.params, .int mc.slots]) = true := tup_okW (n := 59) (cons_okW (int_okW _ _) (cons_okW (int_okW _ _) nil_okW))
  have isl : ∀ Q' : WQ, rIsiW [.ref p2, .ty "list"] S1 Q' = Q' (.bl true) S1 := fun Q' => by simp only [rIsiW, tyW, h2]; rfl
  refine ne_tup o2 o2 ?_
  rw [eqv_self o2]
  simp only [onB, Bool.not_true, Bool.false_eq_true, if_false, isl]
  subst hK
  unfold kk3
  generalize hK : kk4 sp_joined sp_law_stands_for sp_law_none_alike sp_law_as_met = KK
  repeat (first | simp only [so_l h2, onQ_some] | walk_at "wx")
  intro p3 hp3
  have l2 := Le.put (o := .lst ((tdR mc.rooms).map Rm.W)) hp3
  have g3 : put S1 p3 (.lst ((tdR mc.rooms).map Rm.W)) p3 = some (.lst ((tdR mc.rooms).map Rm.W)) := put_same
  have g2 := l2 _ _ h2
  have l12 := l1.trans l2
  have n3 : p3 ≠ p2 := Ne.symm (ne_none h2 hp3)
  generalize put S1 p3 (.lst ((tdR mc.rooms).map Rm.W)) = S2 at *
  subst hK
  refine c4_ok ok sm ⟨R.le l12, l12 _ _ ha, l12 _ _ h1, g2, g3⟩ ⟨R.ne f2, ne_none ha f2, ne_none h1 f2, n3⟩ fun S' r a => again S' _ _ _ _ r a
theorem c0_ok (ok : mc.ok ms) (sm : mc.rooms.length ≤ 1000) (nr : row ≠ ra) (R : RowAt S row ns) (ha : S ra = some (.lst (mc.rooms.map Rm.W))) (again : ∀ S' x6 x7 x8 x9, RowAt S' row ns → S' ra = some (.lst (mc.rooms.map Rm.W)) → D.nx [x0, some (.ref row), x2, some (.int mc.params), some (.int mc.slots), some (.ref ra), x6, x7, x8, x9] S') :
    L1 D [x0, some (.ref row), x2, some (.int mc.params), some (.int mc.slots), some (.ref ra), x6, x7, x8, x9] S := by
  unfold L1
  rw [k_eq]
  unfold kk0
  generalize hK : kk1 sp_joined sp_law_stands_for sp_law_none_alike sp_law_as_met = KK
  repeat (first | simp only [so_l ha, onQ_some] | walk_at "wx")
  intro p1 hp1
  have l1 := Le.put (o := .lst (mc.rooms.map Rm.W)) hp1
  have g1 : put S p1 (.lst (mc.rooms.map Rm.W)) p1 = some (.lst (mc.rooms.map Rm.W)) := put_same
  generalize put S p1 (.lst (mc.rooms.map Rm.W)) = S1 at *
  subst hK
  exact c1_ok ok sm nr (R.le l1) (l1 _ _ ha) g1 again
theorem l2_ok (ok : mc.ok ms) (sm : mc.rooms.length ≤ 1000) (few : ∀ r ∈ mc.rooms, r.lit.length ≤ 2) (nr : ra ≠ row) (R : RowAt S row ns) (ha : S ra = some (.lst (mc.rooms.map Rm.W))) (again : ∀ S' x5 x6 x7 x8 x9, RowAt S' row ns → D.nx [x0, some (.ref row), x2, some (.int mc.params), some (.int mc.slots), x5, x6, x7, x8, x9] S') :
    L2 D [x0, some (.ref row), x2, some (.int mc.params), some (.int mc.slots), some (.ref ra), x6, x7, x8, x9] S := by
  unfold L2 l_law_2
  generalize hL : l_law_1 sp_law_is_kept sp_law_typed sp_law_grown sp_law_taken sp_law_chain sp_law_changed sp_joined sp_law_stands_for sp_law_none_alike sp_law_as_met = LL
  walk_at "wx"
  refine taken_ok R (by decide) (by decide) fun v S1 v0 v1 R1 F1 => ?_
  have h1 := F1 _ _ nr ha
  by_cases e : v = 0
  · subst e
    walk_at "wx"
    refine ⟨row, ra, ns, mc.rooms, ms, mc.slots, rfl, R1, h1, nr, ok.some_, sm, fun r hr => ⟨ok.rooms r hr, few r hr⟩, fun rms' S2 p hl hok R2 F2 f2 h2 => ?_⟩
    (try walk_at "wx")
    subst hL
    have ok' : (⟨mc.params, mc.slots, rms'⟩ : Mc).ok ms := ⟨ok.le, ok.small, by have := ok.some_; simp only; omega, by have := ok.many; simp only; omega, fun r hr => by simp only; rw [hl]; exact hok r hr⟩
    exact c0_ok (mc := ⟨mc.params, mc.slots, rms'⟩) ok' (by simp only; omega) (R1.ne f2) R2 h2 fun S' x6 x7 x8 x9 r _ => again S' _ _ _ _ _ r
  · repeat (first | simp only [decide_eq_false e] | walk_at "wx")
    subst hL
    exact c0_ok ok sm (Ne.symm nr) R1 h1 fun S' x6 x7 x8 x9 r _ => again S' _ _ _ _ _ r
end
theorem chain_ok {mc : Mc} {ms : List Mc} (ok : mc.ok ms) {many odd : Nat} (h1 : 1 ≤ many) (h2 : many ≤ 30) : (⟨mc.params, mc.slots, chainR many odd⟩ : Mc).ok ms ∧ (∀ r ∈ chainR many odd, r.lit.length ≤ 2) ∧ (chainR many odd).length ≤ 1000 := by
  have len : (chainR many odd).length = many + 1 := by simp [chainR]
  refine ⟨⟨ok.le, ok.small, by simp only; omega, by simp only; omega, fun r hr => ?_⟩, fun r hr => ?_, by omega⟩
  · simp only [len] at hr ⊢
    rcases List.mem_append.mp hr with hr | hr
    · obtain ⟨k, hk, rfl⟩ := List.mem_map.mp hr
      have kl := List.mem_range.mp hk
      refine ⟨fun l hl => ?_, by simp [chRm], ?_, fun a b e => by simp [chRm] at e, fun a e => by simp [chRm] at e⟩
      · simp only [chRm, List.mem_singleton] at hl
        subst hl
        refine ⟨?_, by simp [Rk.deep]⟩
        simp only [Rk.ok, InR]
        split <;> omega
      · show k + 1 < many + 1
        omega
    · rw [List.mem_singleton.mp hr]
      exact ⟨fun l hl => by simp [chEnd] at hl, by simp [chEnd], ⟨by simp [Rk.ok, InR], by simp [Rk.deep]⟩, fun a b e => by simp [chEnd] at e, fun a e => by simp [chEnd] at e⟩
  · rcases List.mem_append.mp hr with hr | hr
    · obtain ⟨k, hk, rfl⟩ := List.mem_map.mp hr
      simp [chRm]
    · rw [List.mem_singleton.mp hr]
      simp [chEnd]
theorem grown_ok {sh : Shapes} {ms : List Mc} (ST : K11.ShT sh) (ml : ms.length = sh.length) (ty : ∀ (i : Nat) (mc : Mc), ms[i]? = some mc → K11.Typd sh i 7 mc) {n : Nat} {mc : Mc} (hm : ms[n]? = some mc) {rms' : List Rm} {B : List Nat} (G : K11.Grown mc.rooms rms' B) :
    (⟨mc.params, mc.slots, rms'⟩ : Mc).ok ms ∧ (∀ r ∈ rms', r.lit.length ≤ 2) ∧ rms'.length ≤ 1000 := by
  have T := ty n mc hm
  have t1 := T.l1
  have t2 := T.l2
  have gl := G.len
  have b0 := (List.getElem?_eq_some_iff.mp (G.id 0 t1)).1
  have gm := G.many
  have sp := ST _ (List.mem_of_getElem? T.shape)
  simp only at sp
  have each : ∀ r' ∈ rms', r'.lit.length ≤ 2 ∧ r'.ok ms mc.slots rms'.length := fun r' hr' => by
    obtain ⟨j, hj⟩ := List.mem_iff_getElem?.mp hr'
    have jl : j < B.length := by rw [← gl]; exact (List.getElem?_eq_some_iff.mp hj).1
    obtain ⟨b, hb⟩ := get_of_lt jl
    have bl := G.lt _ (List.mem_of_getElem? hb)
    obtain ⟨r, hr⟩ := get_of_lt (l := mc.rooms) (i := b) bl
    obtain ⟨l, h1, N⟩ := G.rooms j _ r hb hr
    rw [hj] at h1
    cases h1
    have R := T.rooms _ r hr
    have door : ∀ (t d : Nat), r.doors[t]? = some d → l.getD t 0 < rms'.length := fun t d hd => by
      obtain ⟨d', e1, e2⟩ := N.at_ t d hd
      have lt := (List.getElem?_eq_some_iff.mp e2).1
      rw [List.getD_eq_getElem?_getD, e1]
      show d' < _
      omega
    refine ⟨R.few, R.lits, by have := R.few; show r.lit.length ≤ 1000; omega, ?_, fun k u hk => ?_, fun u hu => ?_⟩
    · have e := R.ex
      cases q : r.ex with
      | go x =>
        simp only [K11.rmPut, q, K11.exPut]
        exact door 0 x (by simp [Rm.doors, q, Ex.doors])
      | fork x a b =>
        rw [q] at e
        simp only [K11.rmPut, q, K11.exPut]
        exact ⟨e.1, door 0 a (by simp [Rm.doors, q, Ex.doors]), door 1 b (by simp [Rm.doors, q, Ex.doors])⟩
      | give x k y =>
        rw [q] at e
        simp only [K11.rmPut, q, K11.exPut]
        exact ⟨e.1, e.2.1, door 0 y (by simp [Rm.doors, q, Ex.doors])⟩
      | hand w as k y =>
        rw [q] at e
        obtain ⟨_, ⟨s, hs⟩, e3, e4, e5⟩ := e
        obtain ⟨m2, hm2⟩ := get_of_lt (l := ms) (i := w) (by rw [ml]; exact (List.getElem?_eq_some_iff.mp hs).1)
        have sh2 := (ty w m2 hm2).shape
        rw [hs] at sh2
        simp only [Option.some.injEq, Prod.mk.injEq] at sh2
        have p2 := ST _ (List.mem_of_getElem? hs)
        simp only at p2
        simp only [K11.rmPut, q, K11.exPut]
        exact ⟨⟨m2, hm2, sh2.1.symm⟩, by omega, e3, e4, door 0 y (by simp [Rm.doors, q, Ex.doors])⟩
      | ends x => rw [q] at e; simp only [K11.rmPut, q, K11.exPut]; exact e
      | fault x => rw [q] at e; simp only [K11.rmPut, q, K11.exPut]; exact e
      | shut => simp only [K11.rmPut, q, K11.exPut]; trivial
    · cases q : r.ct with
      | none => simp [K11.rmPut, q] at hk
      | some kr =>
        obtain ⟨k0, j0⟩ := kr
        simp only [K11.rmPut, q, Option.map_some, Option.some.injEq, Prod.mk.injEq] at hk
        obtain ⟨rfl, rfl⟩ := hk
        exact ⟨door r.ex.doors.length j0 (by simp [Rm.doors, q]), (R.ct _ _ q).2⟩
    · cases q : r.sh with
      | none => simp [K11.rmPut, q] at hu
      | some j0 =>
        simp only [K11.rmPut, q, Option.map_some, Option.some.injEq] at hu
        subst hu
        exact door (r.doors.length - 1) j0 (by
          unfold Rm.doors
          rw [q]
          exact K11.last_at _ _ _)
  exact ⟨⟨by simp only; omega, by simp only; omega, by simp only; omega, by simp only; omega, fun r hr => (each r hr).2⟩, fun r hr => (each r hr).1, by omega⟩
def sp_law : WSp := fun ws S Q => ∃ ns : List Int, ws = [.rl (ns.map .int)] ∧ ∀ S', Q (.bl true) S'
theorem l3_ok {row : Addr} {ns : List Int} {D : WD} {S : Sto} {x0 x2 x3 x4 x5 x6 x7 x8 x9 : Option W} (R : RowAt S row ns) (again : ∀ S' x3 x4 x5 x6 x7 x8 x9, RowAt S' row ns → D.nx [x0, some (.ref row), x2, x3, x4, x5, x6, x7, x8, x9] S') :
    L3 D [x0, some (.ref row), x2, x3, x4, x5, x6, x7, x8, x9] S := by
  unfold L3 l_law_3
  generalize hL : l_law_2 sp_law_is_kept sp_law_typed sp_law_grown sp_law_taken sp_law_chain sp_law_changed sp_joined sp_law_stands_for sp_law_none_alike sp_law_as_met = LL
  walk_at "wx"
  refine ⟨row, ns, 7, rfl, R, by decide, by decide, fun sh ms ras S1 q1 ST s1 s3 ml ty R1 F1 f1 M1 => ?_⟩
  have lst := M1.lst
  obtain ⟨m, hm⟩ := get_of_lt (l := ms) (i := 0) (by omega)
  obtain ⟨a, ha, hx⟩ := K11.ms_ix M1 hm
  have hr := M1.rms 0 m a hm ha
  have T := ty 0 m hm
  have t1 := T.l1
  have t2 := T.l2
  have na : a ≠ row := by
    rintro rfl
    obtain ⟨i, c, d, e, _⟩ := R1
    rw [hr] at e
    cases q : m.rooms with
    | nil => rw [q] at t1; simp at t1
    | cons x xs => rw [q] at e; simp [Rm.W] at e
  have hx0 : atI (msW ms ras) 0 = some (K11.mW m a) := hx
  repeat (first | simp only [lst, onL_lst, hx0, onS_some, K11.mW] | walk_at "wx")
  refine ⟨row, a, ns, m.rooms, rfl, R1, hr, na, t1, by omega, fun r hr' d hd => ?_, fun rms' B S2 q2 G R2 F2 f2 h2 => ?_⟩
  · obtain ⟨j, hj⟩ := List.mem_iff_getElem?.mp hr'
    exact K11.typ_doors (T.rooms j r hj) (List.getElem?_eq_some_iff.mp hj).1 d hd
  obtain ⟨gok, gfew, glen⟩ := grown_ok ST ml ty hm G
  have n2 : q2 ≠ row := Ne.symm (R1.ne f2)
  (try walk_at "wx")
  refine taken_ok R2 (by decide) (by decide) fun v S3 v0 v1 R3 F3 => ?_
  have h3 := F3 _ _ n2 h2
  by_cases e : v = 3
  · subst e
    walk_at "wx"
    refine ⟨row, ns, rfl, R3, fun many odd S4 p c1 c2 R4 F4 f4 h4 => ?_⟩
    (try walk_at "wx")
    subst hL
    obtain ⟨cok, cfew, clen⟩ := chain_ok gok (many := many) (odd := odd) c1 c2
    exact l2_ok (mc := ⟨m.params, m.slots, chainR many odd⟩) cok clen cfew (Ne.symm (R3.ne f4)) R4 h4 fun S' x5 x6 x7 x8 x9 r => again S' _ _ _ _ _ _ _ r
  · repeat (first | simp only [decide_eq_false e] | walk_at "wx")
    subst hL
    exact l2_ok (mc := ⟨m.params, m.slots, rms'⟩) gok glen gfew n2 R3 h3 fun S' x5 x6 x7 x8 x9 r => again S' _ _ _ _ _ _ _ r
theorem turns {row : Addr} {ns : List Int} {D : WD} {x0 : Option W} (q : ∀ S' x2 x3 x4 x5 x6 x7 x8 x9, D.nx [x0, some (.ref row), x2, x3, x4, x5, x6, x7, x8, x9] S') : ∀ (xs : List W) (S : Sto) (x2 x3 x4 x5 x6 x7 x8 x9 : Option W), RowAt S row ns →
    forW (fun _ => True) (gNameW 2) L3 xs D [x0, some (.ref row), x2, x3, x4, x5, x6, x7, x8, x9] S
  | [], S, x2, x3, x4, x5, x6, x7, x8, x9, R => by simp only [forW]; exact ⟨trivial, q S _ _ _ _ _ _ _ _⟩
  | x :: xs, S, x2, x3, x4, x5, x6, x7, x8, x9, R => by
    simp only [forW]
    exact ⟨trivial, l3_ok R fun S' x3 x4 x5 x6 x7 x8 x9 R' => turns q xs S' _ _ _ _ _ _ _ _ R'⟩
theorem r_law : ∀ ws S Q, Up Q → sp_law ws S Q → t_law sp_law_is_kept sp_law_typed sp_law_grown sp_law_taken sp_law_chain sp_law_changed sp_joined sp_law_stands_for sp_law_none_alike sp_law_as_met { nx := fun _ S' => Q .non S', rt := Q } (startW 10 ws) S := by
  rintro ws S Q up ⟨ns0, rfl, q⟩
  unfold t_law
  generalize hL3 : l_law_3 sp_law_is_kept sp_law_typed sp_law_grown sp_law_taken sp_law_chain sp_law_changed sp_joined sp_law_stands_for sp_law_none_alike sp_law_as_met = LC
  walk_at "wx"
  intro row hr
  have R0 : RowAt (put S row (.lst [.rl (ns0.map .int), .int 0, .int 0, .int 0])) row ns0 := ⟨0, 0, 0, put_same, by decide, by decide, by decide⟩
  generalize put S row (.lst [.rl (ns0.map .int), .int 0, .int 0, .int 0]) = S0 at *
  (try walk_at "wx")
  refine ⟨rfl, fun S1 l1 => ?_⟩
  (try simp only [onB, Bool.not_true, Bool.false_eq_true, if_false])
  (try walk_at "wx")
  refine ⟨⟨by decide, by decide⟩, ?_⟩
  subst hL3
  exact turns (fun S' x2 x3 x4 x5 x6 x7 x8 x9 => q S') _ S1 _ _ _ _ _ _ _ _ (R0.le l1)
end K10
end WL
namespace WL.K10
open PySem L2
open K11 (sp_law_doors sp_law_typed sp_law_grown sp_joined sp_law_renamed sp_law_typed_room t_law_doors l_law_doors_1 r_law_doors t_law_typed l_law_typed_1 l_law_typed_2 r_law_typed t_law_grown l_law_grown_1 l_law_grown_2 l_law_grown_3 r_law_grown t_law_renamed l_law_renamed_1 r_law_renamed t_law_typed_room l_law_typed_room_1 l_law_typed_room_2 r_law_typed_room t_joined r_joined)
theorem mo_joined  : MonoSp (sp_joined) := by
  intro ws S Q Q' h q
  unfold sp_joined at q ⊢
  repeat (first | exact h _ _ q | (refine Exists.elim q fun x q => Exists.intro x ?_) | (refine And.intro q.1 ?_; replace q := q.2) | (intro x; replace q := q x) | (refine ⟨fun hh => h _ _ (q.1 hh), ?_⟩; replace q := q.2))
theorem le_joined  : ∀ ws S Q, (sp_joined) ws S Q → ws.length = 1 := by
  intro ws S Q h
  unfold sp_joined at h
  repeat (first | (obtain ⟨rfl, _⟩ := h; rfl) | (obtain ⟨_, h⟩ := h))
theorem mo_law_typed_room  : MonoSp (sp_law_typed_room) := by
  intro ws S Q Q' h q
  unfold sp_law_typed_room at q ⊢
  repeat (first | exact h _ _ q | (refine Exists.elim q fun x q => Exists.intro x ?_) | (refine And.intro q.1 ?_; replace q := q.2) | (intro x; replace q := q x) | (refine ⟨fun hh => h _ _ (q.1 hh), ?_⟩; replace q := q.2))
theorem le_law_typed_room  : ∀ ws S Q, (sp_law_typed_room) ws S Q → ws.length = 5 := by
  intro ws S Q h
  unfold sp_law_typed_room at h
  repeat (first | (obtain ⟨rfl, _⟩ := h; rfl) | (obtain ⟨_, h⟩ := h))
theorem mo_law_typed  : MonoSp (sp_law_typed) := by
  intro ws S Q Q' h q
  unfold sp_law_typed at q ⊢
  repeat (first | exact h _ _ q | (refine Exists.elim q fun x q => Exists.intro x ?_) | (refine And.intro q.1 ?_; replace q := q.2) | (intro x; replace q := q x) | (refine ⟨fun hh => h _ _ (q.1 hh), ?_⟩; replace q := q.2))
theorem le_law_typed  : ∀ ws S Q, (sp_law_typed) ws S Q → ws.length = 2 := by
  intro ws S Q h
  unfold sp_law_typed at h
  repeat (first | (obtain ⟨rfl, _⟩ := h; rfl) | (obtain ⟨_, h⟩ := h))
theorem mo_law_doors  : MonoSp (sp_law_doors) := by
  intro ws S Q Q' h q
  unfold sp_law_doors at q ⊢
  repeat (first | exact h _ _ q | (refine Exists.elim q fun x q => Exists.intro x ?_) | (refine And.intro q.1 ?_; replace q := q.2) | (intro x; replace q := q x) | (refine ⟨fun hh => h _ _ (q.1 hh), ?_⟩; replace q := q.2))
theorem le_law_doors  : ∀ ws S Q, (sp_law_doors) ws S Q → ws.length = 1 := by
  intro ws S Q h
  unfold sp_law_doors at h
  repeat (first | (obtain ⟨rfl, _⟩ := h; rfl) | (obtain ⟨_, h⟩ := h))
theorem mo_law_shape  : MonoSp (sp_law_shape) := by
  intro ws S Q Q' h q
  unfold sp_law_shape at q ⊢
  repeat (first | exact h _ _ q | (refine Exists.elim q fun x q => Exists.intro x ?_) | (refine And.intro q.1 ?_; replace q := q.2) | (intro x; replace q := q x) | (refine ⟨fun hh => h _ _ (q.1 hh), ?_⟩; replace q := q.2))
theorem le_law_shape  : ∀ ws S Q, (sp_law_shape) ws S Q → ws.length = 1 := by
  intro ws S Q h
  unfold sp_law_shape at h
  repeat (first | (obtain ⟨rfl, _⟩ := h; rfl) | (obtain ⟨_, h⟩ := h))
theorem mo_law_none_alike  : MonoSp (sp_law_none_alike) := by
  intro ws S Q Q' h q
  unfold sp_law_none_alike at q ⊢
  repeat (first | exact h _ _ q | (refine Exists.elim q fun x q => Exists.intro x ?_) | (refine And.intro q.1 ?_; replace q := q.2) | (intro x; replace q := q x) | (refine ⟨fun hh => h _ _ (q.1 hh), ?_⟩; replace q := q.2))
theorem le_law_none_alike  : ∀ ws S Q, (sp_law_none_alike) ws S Q → ws.length = 1 := by
  intro ws S Q h
  unfold sp_law_none_alike at h
  repeat (first | (obtain ⟨rfl, _⟩ := h; rfl) | (obtain ⟨_, h⟩ := h))
theorem mo_law_as_met  : MonoSp (sp_law_as_met) := by
  intro ws S Q Q' h q
  unfold sp_law_as_met at q ⊢
  repeat (first | exact h _ _ q | (refine Exists.elim q fun x q => Exists.intro x ?_) | (refine And.intro q.1 ?_; replace q := q.2) | (intro x; replace q := q x) | (refine ⟨fun hh => h _ _ (q.1 hh), ?_⟩; replace q := q.2))
theorem le_law_as_met  : ∀ ws S Q, (sp_law_as_met) ws S Q → ws.length = 1 := by
  intro ws S Q h
  unfold sp_law_as_met at h
  repeat (first | (obtain ⟨rfl, _⟩ := h; rfl) | (obtain ⟨_, h⟩ := h))
theorem mo_law_renamed  : MonoSp (sp_law_renamed) := by
  intro ws S Q Q' h q
  unfold sp_law_renamed at q ⊢
  repeat (first | exact h _ _ q | (refine Exists.elim q fun x q => Exists.intro x ?_) | (refine And.intro q.1 ?_; replace q := q.2) | (intro x; replace q := q x) | (refine ⟨fun hh => h _ _ (q.1 hh), ?_⟩; replace q := q.2))
theorem le_law_renamed  : ∀ ws S Q, (sp_law_renamed) ws S Q → ws.length = 2 := by
  intro ws S Q h
  unfold sp_law_renamed at h
  repeat (first | (obtain ⟨rfl, _⟩ := h; rfl) | (obtain ⟨_, h⟩ := h))
theorem mo_law_grown  : MonoSp (sp_law_grown) := by
  intro ws S Q Q' h q
  unfold sp_law_grown at q ⊢
  repeat (first | exact h _ _ q | (refine Exists.elim q fun x q => Exists.intro x ?_) | (refine And.intro q.1 ?_; replace q := q.2) | (intro x; replace q := q x) | (refine ⟨fun hh => h _ _ (q.1 hh), ?_⟩; replace q := q.2))
theorem le_law_grown  : ∀ ws S Q, (sp_law_grown) ws S Q → ws.length = 3 := by
  intro ws S Q h
  unfold sp_law_grown at h
  repeat (first | (obtain ⟨rfl, _⟩ := h; rfl) | (obtain ⟨_, h⟩ := h))
theorem mo_law_changed  : MonoSp (sp_law_changed) := by
  intro ws S Q Q' h q
  unfold sp_law_changed at q ⊢
  repeat (first | exact h _ _ q | (refine Exists.elim q fun x q => Exists.intro x ?_) | (refine And.intro q.1 ?_; replace q := q.2) | (intro x; replace q := q x) | (refine ⟨fun hh => h _ _ (q.1 hh), ?_⟩; replace q := q.2))
theorem le_law_changed  : ∀ ws S Q, (sp_law_changed) ws S Q → ws.length = 2 := by
  intro ws S Q h
  unfold sp_law_changed at h
  repeat (first | (obtain ⟨rfl, _⟩ := h; rfl) | (obtain ⟨_, h⟩ := h))
theorem mo_law_chain  : MonoSp (sp_law_chain) := by
  intro ws S Q Q' h q
  unfold sp_law_chain at q ⊢
  repeat (first | exact h _ _ q | (refine Exists.elim q fun x q => Exists.intro x ?_) | (refine And.intro q.1 ?_; replace q := q.2) | (intro x; replace q := q x) | (refine ⟨fun hh => h _ _ (q.1 hh), ?_⟩; replace q := q.2))
theorem le_law_chain  : ∀ ws S Q, (sp_law_chain) ws S Q → ws.length = 1 := by
  intro ws S Q h
  unfold sp_law_chain at h
  repeat (first | (obtain ⟨rfl, _⟩ := h; rfl) | (obtain ⟨_, h⟩ := h))
theorem mo_law_stands_for  : MonoSp (sp_law_stands_for) := by
  intro ws S Q Q' h q
  unfold sp_law_stands_for at q ⊢
  repeat (first | exact h _ _ q | (refine Exists.elim q fun x q => Exists.intro x ?_) | (refine And.intro q.1 ?_; replace q := q.2) | (intro x; replace q := q x) | (refine ⟨fun hh => h _ _ (q.1 hh), ?_⟩; replace q := q.2))
theorem le_law_stands_for  : ∀ ws S Q, (sp_law_stands_for) ws S Q → ws.length = 2 := by
  intro ws S Q h
  unfold sp_law_stands_for at h
  repeat (first | (obtain ⟨rfl, _⟩ := h; rfl) | (obtain ⟨_, h⟩ := h))
theorem mo_law_is_kept  : MonoSp (sp_law_is_kept) := by
  intro ws S Q Q' h q
  unfold sp_law_is_kept at q ⊢
  repeat (first | exact h _ _ q | (refine Exists.elim q fun x q => Exists.intro x ?_) | (refine And.intro q.1 ?_; replace q := q.2) | (intro x; replace q := q x) | (refine ⟨fun hh => h _ _ (q.1 hh), ?_⟩; replace q := q.2))
theorem le_law_is_kept  : ∀ ws S Q, (sp_law_is_kept) ws S Q → ws.length = 0 := by
  intro ws S Q h
  unfold sp_law_is_kept at h
  repeat (first | (obtain ⟨rfl, _⟩ := h; rfl) | (obtain ⟨_, h⟩ := h))
theorem le_law  : ∀ ws S Q, (sp_law) ws S Q → ws.length = 1 := by
  intro ws S Q h
  unfold sp_law at h
  repeat (first | (obtain ⟨rfl, _⟩ := h; rfl) | (obtain ⟨_, h⟩ := h))
def top (i : Nat) : Stmt := PySem.Challenge.pw_pausewright_k10_whole_joined.main.body.getD i (.Pass ⟨0, 0, 0, 0⟩)
abbrev s_doors : Stmt := top 2
abbrev N_doors : List Str := ["room", "way", "found"]
abbrev P_doors : List Str := ["room"]
theorem sc_doors : FnScope N_doors P_doors (defScope s_doors) := ⟨rfl, rfl, rfl, by decide +kernel, rfl, by decide +kernel, by decide +kernel⟩
abbrev s_renamed : Stmt := top 3
abbrev N_renamed : List Str := ["room", "numbers", "little", "way", "caught", "shut", "many"]
abbrev P_renamed : List Str := ["room", "numbers"]
theorem sc_renamed : FnScope N_renamed P_renamed (defScope s_renamed) := ⟨rfl, rfl, rfl, by decide +kernel, rfl, by decide +kernel, by decide +kernel⟩
abbrev s_kinds_of : Stmt := top 4
abbrev N_kinds_of : List Str := ["rooms", "known", "kinds", "room", "many", "finer", "kind", "door"]
abbrev P_kinds_of : List Str := ["rooms"]
theorem sc_kinds_of : FnScope N_kinds_of P_kinds_of (defScope s_kinds_of) := ⟨rfl, rfl, rfl, by decide +kernel, rfl, by decide +kernel, by decide +kernel⟩
abbrev s_tidied : Stmt := top 5
abbrev N_tidied : List Str := ["params", "slots", "rooms", "start", "kinds", "numbers", "some", "at", "door", "room"]
abbrev P_tidied : List Str := ["params", "slots", "rooms", "start"]
theorem sc_tidied : FnScope N_tidied P_tidied (defScope s_tidied) := ⟨rfl, rfl, rfl, by decide +kernel, rfl, by decide +kernel, by decide +kernel⟩
abbrev s_joined : Stmt := top 6
abbrev N_joined : List Str := ["machine", "params", "slots", "rooms"]
abbrev P_joined : List Str := ["machine"]
theorem sc_joined : FnScope N_joined P_joined (defScope s_joined) := ⟨rfl, rfl, rfl, by decide +kernel, rfl, by decide +kernel, by decide +kernel⟩
abbrev s_law_taken : Stmt := top 8
abbrev N_law_taken : List Str := ["_law_row", "_law_many", "_law_found", "_law_cell"]
abbrev P_law_taken : List Str := ["_law_row", "_law_many"]
theorem sc_law_taken : FnScope N_law_taken P_law_taken (defScope s_law_taken) := ⟨rfl, rfl, rfl, by decide +kernel, rfl, by decide +kernel, by decide +kernel⟩
abbrev s_law_reckoning : Stmt := top 9
abbrev N_law_reckoning : List Str := ["_law_row", "_law_slots", "_law_deep", "_law_way", "_law_word"]
abbrev P_law_reckoning : List Str := ["_law_row", "_law_slots", "_law_deep"]
theorem sc_law_reckoning : FnScope N_law_reckoning P_law_reckoning (defScope s_law_reckoning) := ⟨rfl, rfl, rfl, by decide +kernel, rfl, by decide +kernel, by decide +kernel⟩
abbrev s_law_typed_room : Stmt := top 10
abbrev N_law_typed_room : List Str := ["_law_row", "_law_shapes", "_law_number", "_law_at", "_law_many", "_law_slots", "_law_some", "_law_little", "_law_turn", "_law_e", "_law_k", "_law_later", "_law_ways", "_law_caught", "_law_shut", "_law_work", "_law_args", "_law_way"]
abbrev P_law_typed_room : List Str := ["_law_row", "_law_shapes", "_law_number", "_law_at", "_law_many"]
theorem sc_law_typed_room : FnScope N_law_typed_room P_law_typed_room (defScope s_law_typed_room) := ⟨rfl, rfl, rfl, by decide +kernel, rfl, by decide +kernel, by decide +kernel⟩
abbrev s_law_typed : Stmt := top 11
abbrev N_law_typed : List Str := ["_law_row", "_law_most", "_law_shapes", "_law_turn", "_law_slots", "_law_found", "_law_number", "_law_many", "_law_rooms", "_law_at"]
abbrev P_law_typed : List Str := ["_law_row", "_law_most"]
theorem sc_law_typed : FnScope N_law_typed P_law_typed (defScope s_law_typed) := ⟨rfl, rfl, rfl, by decide +kernel, rfl, by decide +kernel, by decide +kernel⟩
abbrev s_law_doors : Stmt := top 12
abbrev N_law_doors : List Str := ["_law_room", "_law_way", "_law_found", "_law_door"]
abbrev P_law_doors : List Str := ["_law_room"]
theorem sc_law_doors : FnScope N_law_doors P_law_doors (defScope s_law_doors) := ⟨rfl, rfl, rfl, by decide +kernel, rfl, by decide +kernel, by decide +kernel⟩
abbrev s_law_shape : Stmt := top 13
abbrev N_law_shape : List Str := ["_law_room", "_law_little", "_law_way", "_law_caught", "_law_shut"]
abbrev P_law_shape : List Str := ["_law_room"]
theorem sc_law_shape : FnScope N_law_shape P_law_shape (defScope s_law_shape) := ⟨rfl, rfl, rfl, by decide +kernel, rfl, by decide +kernel, by decide +kernel⟩
abbrev s_law_none_alike : Stmt := top 14
abbrev N_law_none_alike : List Str := ["_law_rooms", "_law_keys", "_law_room", "_law_turn", "_law_kinds", "_law_key", "_law_k", "_law_door"]
abbrev P_law_none_alike : List Str := ["_law_rooms"]
theorem sc_law_none_alike : FnScope N_law_none_alike P_law_none_alike (defScope s_law_none_alike) := ⟨rfl, rfl, rfl, by decide +kernel, rfl, by decide +kernel, by decide +kernel⟩
abbrev s_law_as_met : Stmt := top 15
abbrev N_law_as_met : List Str := ["_law_rooms", "_law_met", "_law_at", "_law_door"]
abbrev P_law_as_met : List Str := ["_law_rooms"]
theorem sc_law_as_met : FnScope N_law_as_met P_law_as_met (defScope s_law_as_met) := ⟨rfl, rfl, rfl, by decide +kernel, rfl, by decide +kernel, by decide +kernel⟩
abbrev s_law_renamed : Stmt := top 16
abbrev N_law_renamed : List Str := ["_law_room", "_law_numbers", "_law_little", "_law_way", "_law_caught", "_law_shut", "_law_first", "_law_many"]
abbrev P_law_renamed : List Str := ["_law_room", "_law_numbers"]
theorem sc_law_renamed : FnScope N_law_renamed P_law_renamed (defScope s_law_renamed) := ⟨rfl, rfl, rfl, by decide +kernel, rfl, by decide +kernel, by decide +kernel⟩
abbrev s_law_grown : Stmt := top 17
abbrev N_law_grown : List Str := ["_law_row", "_law_rooms", "_law_most", "_law_bases", "_law_turn", "_law_found", "_law_base", "_law_named", "_law_door", "_law_some", "_law_k"]
abbrev P_law_grown : List Str := ["_law_row", "_law_rooms", "_law_most"]
theorem sc_law_grown : FnScope N_law_grown P_law_grown (defScope s_law_grown) := ⟨rfl, rfl, rfl, by decide +kernel, rfl, by decide +kernel, by decide +kernel⟩
abbrev s_law_changed : Stmt := top 18
abbrev N_law_changed : List Str := ["_law_row", "_law_rooms", "_law_at", "_law_little", "_law_way", "_law_caught", "_law_shut", "_law_sort"]
abbrev P_law_changed : List Str := ["_law_row", "_law_rooms"]
theorem sc_law_changed : FnScope N_law_changed P_law_changed (defScope s_law_changed) := ⟨rfl, rfl, rfl, by decide +kernel, rfl, by decide +kernel, by decide +kernel⟩
abbrev s_law_chain : Stmt := top 19
abbrev N_law_chain : List Str := ["_law_row", "_law_many", "_law_odd", "_law_rooms", "_law_k"]
abbrev P_law_chain : List Str := ["_law_row"]
theorem sc_law_chain : FnScope N_law_chain P_law_chain (defScope s_law_chain) := ⟨rfl, rfl, rfl, by decide +kernel, rfl, by decide +kernel, by decide +kernel⟩
abbrev s_law_stands_for : Stmt := top 20
abbrev N_law_stands_for : List Str := ["_law_old", "_law_new", "_law_stands", "_law_left", "_law_at", "_law_one", "_law_other", "_law_tos", "_law_to", "_law_door"]
abbrev P_law_stands_for : List Str := ["_law_old", "_law_new"]
theorem sc_law_stands_for : FnScope N_law_stands_for P_law_stands_for (defScope s_law_stands_for) := ⟨rfl, rfl, rfl, by decide +kernel, rfl, by decide +kernel, by decide +kernel⟩
abbrev s_law_is_kept : Stmt := top 21
abbrev N_law_is_kept : List Str := ["_law_fork", "_law_first", "_law_last", "_law_rooms"]
abbrev P_law_is_kept : List Str := []
theorem sc_law_is_kept : FnScope N_law_is_kept P_law_is_kept (defScope s_law_is_kept) := ⟨rfl, rfl, rfl, by decide +kernel, rfl, by decide +kernel, by decide +kernel⟩
abbrev s_law : Stmt := top 22
abbrev N_law : List Str := ["_law_script", "_law_row", "_law_turn", "_law_params", "_law_slots", "_law_rooms", "_law_handed", "_law_found", "_law_told", "_law_room"]
abbrev P_law : List Str := ["_law_script"]
theorem sc_law : FnScope N_law P_law (defScope s_law) := ⟨rfl, rfl, rfl, by decide +kernel, rfl, by decide +kernel, by decide +kernel⟩
structure Adr where
  (f_doors f_renamed f_kinds_of f_tidied f_joined f_law_taken f_law_reckoning f_law_typed_room f_law_typed f_law_doors f_law_shape f_law_none_alike f_law_as_met f_law_renamed f_law_grown f_law_changed f_law_chain f_law_stands_for f_law_is_kept f_law : Addr)
  (d_doors d_renamed d_kinds_of d_tidied d_joined d_law_taken d_law_reckoning d_law_typed_room d_law_typed d_law_doors d_law_shape d_law_none_alike d_law_as_met d_law_renamed d_law_grown d_law_changed d_law_chain d_law_stands_for d_law_is_kept d_law : FuncData)
  (a_DOORS : Addr)
structure Txt (K : PySem.W.Frag) (mg : Str → Option Value) (w : World) (A : Adr) : Prop where
  F_doors : Fun K "doors" "doors" s_doors A.f_doors A.d_doors
  b_doors : Binds K A.d_doors P_doors []
  m_doors : mg "doors" = some (.ref A.f_doors)
  F_renamed : Fun K "renamed" "renamed" s_renamed A.f_renamed A.d_renamed
  b_renamed : Binds K A.d_renamed P_renamed []
  m_renamed : mg "renamed" = some (.ref A.f_renamed)
  F_kinds_of : Fun K "kinds_of" "kinds_of" s_kinds_of A.f_kinds_of A.d_kinds_of
  b_kinds_of : Binds K A.d_kinds_of P_kinds_of []
  m_kinds_of : mg "kinds_of" = some (.ref A.f_kinds_of)
  F_tidied : Fun K "tidied" "tidied" s_tidied A.f_tidied A.d_tidied
  b_tidied : Binds K A.d_tidied P_tidied []
  m_tidied : mg "tidied" = some (.ref A.f_tidied)
  F_joined : Fun K "joined" "joined" s_joined A.f_joined A.d_joined
  b_joined : Binds K A.d_joined P_joined []
  m_joined : mg "joined" = some (.ref A.f_joined)
  F_law_taken : Fun K "_law_taken" "_law_taken" s_law_taken A.f_law_taken A.d_law_taken
  b_law_taken : Binds K A.d_law_taken P_law_taken []
  m_law_taken : mg "_law_taken" = some (.ref A.f_law_taken)
  F_law_reckoning : Fun K "_law_reckoning" "_law_reckoning" s_law_reckoning A.f_law_reckoning A.d_law_reckoning
  b_law_reckoning : Binds K A.d_law_reckoning P_law_reckoning []
  m_law_reckoning : mg "_law_reckoning" = some (.ref A.f_law_reckoning)
  F_law_typed_room : Fun K "_law_typed_room" "_law_typed_room" s_law_typed_room A.f_law_typed_room A.d_law_typed_room
  b_law_typed_room : Binds K A.d_law_typed_room P_law_typed_room []
  m_law_typed_room : mg "_law_typed_room" = some (.ref A.f_law_typed_room)
  F_law_typed : Fun K "_law_typed" "_law_typed" s_law_typed A.f_law_typed A.d_law_typed
  b_law_typed : Binds K A.d_law_typed P_law_typed []
  m_law_typed : mg "_law_typed" = some (.ref A.f_law_typed)
  F_law_doors : Fun K "_law_doors" "_law_doors" s_law_doors A.f_law_doors A.d_law_doors
  b_law_doors : Binds K A.d_law_doors P_law_doors []
  m_law_doors : mg "_law_doors" = some (.ref A.f_law_doors)
  F_law_shape : Fun K "_law_shape" "_law_shape" s_law_shape A.f_law_shape A.d_law_shape
  b_law_shape : Binds K A.d_law_shape P_law_shape []
  m_law_shape : mg "_law_shape" = some (.ref A.f_law_shape)
  F_law_none_alike : Fun K "_law_none_alike" "_law_none_alike" s_law_none_alike A.f_law_none_alike A.d_law_none_alike
  b_law_none_alike : Binds K A.d_law_none_alike P_law_none_alike []
  m_law_none_alike : mg "_law_none_alike" = some (.ref A.f_law_none_alike)
  F_law_as_met : Fun K "_law_as_met" "_law_as_met" s_law_as_met A.f_law_as_met A.d_law_as_met
  b_law_as_met : Binds K A.d_law_as_met P_law_as_met []
  m_law_as_met : mg "_law_as_met" = some (.ref A.f_law_as_met)
  F_law_renamed : Fun K "_law_renamed" "_law_renamed" s_law_renamed A.f_law_renamed A.d_law_renamed
  b_law_renamed : Binds K A.d_law_renamed P_law_renamed []
  m_law_renamed : mg "_law_renamed" = some (.ref A.f_law_renamed)
  F_law_grown : Fun K "_law_grown" "_law_grown" s_law_grown A.f_law_grown A.d_law_grown
  b_law_grown : Binds K A.d_law_grown P_law_grown []
  m_law_grown : mg "_law_grown" = some (.ref A.f_law_grown)
  F_law_changed : Fun K "_law_changed" "_law_changed" s_law_changed A.f_law_changed A.d_law_changed
  b_law_changed : Binds K A.d_law_changed P_law_changed []
  m_law_changed : mg "_law_changed" = some (.ref A.f_law_changed)
  F_law_chain : Fun K "_law_chain" "_law_chain" s_law_chain A.f_law_chain A.d_law_chain
  b_law_chain : Binds K A.d_law_chain P_law_chain []
  m_law_chain : mg "_law_chain" = some (.ref A.f_law_chain)
  F_law_stands_for : Fun K "_law_stands_for" "_law_stands_for" s_law_stands_for A.f_law_stands_for A.d_law_stands_for
  b_law_stands_for : Binds K A.d_law_stands_for P_law_stands_for []
  m_law_stands_for : mg "_law_stands_for" = some (.ref A.f_law_stands_for)
  F_law_is_kept : Fun K "_law_is_kept" "_law_is_kept" s_law_is_kept A.f_law_is_kept A.d_law_is_kept
  b_law_is_kept : Binds K A.d_law_is_kept P_law_is_kept []
  m_law_is_kept : mg "_law_is_kept" = some (.ref A.f_law_is_kept)
  F_law : Fun K "law" "law" s_law A.f_law A.d_law
  b_law : Binds K A.d_law P_law []
  m_DOORS : mg "DOORS" = some (.ref A.a_DOORS)
  kt_DOORS : KTab K w A.a_DOORS tab_DOORS
  z_int : mg "int" = none
  z_isinstance : mg "isinstance" = none
  z_len : mg "len" = none
  z_list : mg "list" = none
  z_max : mg "max" = none
  z_min : mg "min" = none
  z_range : mg "range" = none
  z_tuple : mg "tuple" = none
  z_zip : mg "zip" = none
section
variable {P : Program} {w : World} {K : PySem.W.Frag} {mg : Str → Option Value} {base : Heap} {A : Adr}
theorem ok_doors (T : Txt K mg w A) {k : Nat}  {sp : WSp} (len : ∀ ws S Q, sp ws S Q → ws.length = 1)
    (read : ∀ ws S Q, Up Q → sp ws S Q → t_doors A.a_DOORS { nx := fun _ S' => Q .non S', rt := Q } (startW 3 ws) S) : FnOk P w K mg base CX0 (k + 1) A.f_doors A.d_doors P_doors (LowSp K sp) :=
  fnW (t := t_doors A.a_DOORS) T.F_doors sc_doors len (fun cdv AA outer s H E hr => (dss_cons (ds_set (i := 1) sc_doors.nd rfl (by first | exact Or.inl rfl | exact Or.inr rfl) (de_ix (de_var (pv 0)) de_int (fun _ _ => rfl)))
  (dss_cons (ds_set (i := 2) sc_doors.nd rfl (by first | exact Or.inl rfl | exact Or.inr rfl) (de_if (dt_cmp (ow_inkd T.kt_DOORS) (de_ix (de_var (pv 1)) de_int (fun _ _ => rfl)) (de_glob (v := V.ref A.a_DOORS) rfl T.m_DOORS rfl (fun _ => by simp only [Rel])) (by with_unfolding_all rfl)) (de_callTy cw_list rfl T.z_list (by decide +kernel) (da_cons (de_slice (de_var (pv 1)) (do_some (de_kget T.kt_DOORS (de_glob (v := V.ref A.a_DOORS) rfl T.m_DOORS rfl (fun _ => by simp only [Rel])) (de_ix (de_var (pv 1)) de_int (fun _ _ => rfl)))) do_none) da_nil)) (de_lst da_nil)))
  (dss_cons (ds_if (dt_cmp ow_notN (de_ix (de_var (pv 0)) de_int (fun _ _ => rfl)) de_non (nomark _))
  (dss_one (ds_expr (de_lm PySem.F.plainAttrs_list PySem.F.slot_list_append PySem.F.type_list_append mw_append (de_var (pv 2)) (da_cons (de_ix (de_ix (de_var (pv 0)) de_int (fun _ _ => rfl)) de_int (fun _ _ => rfl)) da_nil))))
  dss_nil)
  (dss_cons (ds_if (dt_cmp ow_notN (de_ix (de_var (pv 0)) de_int (fun _ _ => rfl)) de_non (nomark _))
  (dss_one (ds_expr (de_lm PySem.F.plainAttrs_list PySem.F.slot_list_append PySem.F.type_list_append mw_append (de_var (pv 2)) (da_cons (de_ix (de_var (pv 0)) de_int (fun _ _ => rfl)) da_nil))))
  dss_nil)
  (dss_one (ds_ret (de_var (pv 2))))))))) read
theorem ok_renamed (T : Txt K mg w A) {k : Nat}  {sp : WSp} (len : ∀ ws S Q, sp ws S Q → ws.length = 2)
    (read : ∀ ws S Q, Up Q → sp ws S Q → t_renamed A.a_DOORS { nx := fun _ S' => Q .non S', rt := Q } (startW 7 ws) S) : FnOk P w K mg base CX0 (k + 1) A.f_renamed A.d_renamed P_renamed (LowSp K sp) :=
  fnW (t := t_renamed A.a_DOORS) T.F_renamed sc_renamed len (fun cdv AA outer s H E hr => (dss_cons (ds_asg (de_var (pv 0)) (dg_tup rfl (dgs_cons (dg_name (i := 2) sc_renamed.nd rfl (by first | exact Or.inl rfl | exact Or.inr rfl)) (dgs_cons (dg_name (i := 3) sc_renamed.nd rfl (by first | exact Or.inl rfl | exact Or.inr rfl)) (dgs_cons (dg_name (i := 4) sc_renamed.nd rfl (by first | exact Or.inl rfl | exact Or.inr rfl)) (dgs_cons (dg_name (i := 5) sc_renamed.nd rfl (by first | exact Or.inl rfl | exact Or.inr rfl)) dgs_nil))))))
  (dss_cons (ds_set (i := 6) sc_renamed.nd rfl (by first | exact Or.inl rfl | exact Or.inr rfl) (de_if (dt_cmp (ow_inkd T.kt_DOORS) (de_ix (de_var (pv 3)) de_int (fun _ _ => rfl)) (de_glob (v := V.ref A.a_DOORS) rfl T.m_DOORS rfl (fun _ => by simp only [Rel])) (by with_unfolding_all rfl)) (de_op ow_sub (de_callB cw_len rfl T.z_len (by decide +kernel) (da_cons (de_var (pv 3)) da_nil)) (de_kget T.kt_DOORS (de_glob (v := V.ref A.a_DOORS) rfl T.m_DOORS rfl (fun _ => by simp only [Rel])) (de_ix (de_var (pv 3)) de_int (fun _ _ => rfl)))) de_int))
  (dss_cons (ds_set (i := 3) sc_renamed.nd rfl (by first | exact Or.inl rfl | exact Or.inr rfl) (de_op ow_add (de_slice (de_var (pv 3)) do_none (do_some (de_op ow_sub (de_callB cw_len rfl T.z_len (by decide +kernel) (da_cons (de_var (pv 3)) da_nil)) (de_var (pv 6))))) (de_callTy cw_tuple rfl T.z_tuple (by decide +kernel) (da_cons (de_slice (de_var (pv 1)) do_none (do_some (de_var (pv 6)))) da_nil))))
  (dss_cons (ds_if (dt_cmp ow_notN (de_var (pv 4)) de_non (nomark _))
  (dss_one (ds_set (i := 4) sc_renamed.nd rfl (by first | exact Or.inl rfl | exact Or.inr rfl) (de_tup (da_cons (de_ix (de_var (pv 4)) de_int (fun _ _ => rfl)) (da_cons (de_ix (de_var (pv 1)) (de_var (pv 6)) (fun _ _ => rfl)) da_nil)))))
  dss_nil)
  (dss_cons (ds_if (dt_cmp ow_notN (de_var (pv 5)) de_non (nomark _))
  (dss_one (ds_set (i := 5) sc_renamed.nd rfl (by first | exact Or.inl rfl | exact Or.inr rfl) (de_ix (de_var (pv 1)) (de_neg de_int) (fun _ _ => rfl))))
  dss_nil)
  (dss_one (ds_ret (de_tup (da_cons (de_var (pv 2)) (da_cons (de_var (pv 3)) (da_cons (de_var (pv 4)) (da_cons (de_var (pv 5)) da_nil))))))))))))) read
theorem ok_kinds_of (T : Txt K mg w A) {k : Nat} {k_renamed : Nat} {sp_renamed : WSp} (G_renamed : FnOk P w K mg base CX0 k_renamed A.f_renamed A.d_renamed P_renamed (LowSp K sp_renamed) ∧ MonoSp sp_renamed) (e_renamed : k_renamed ≤ k) {k_doors : Nat} {sp_doors : WSp} (G_doors : FnOk P w K mg base CX0 k_doors A.f_doors A.d_doors P_doors (LowSp K sp_doors) ∧ MonoSp sp_doors) (e_doors : k_doors ≤ k) {sp : WSp} (len : ∀ ws S Q, sp ws S Q → ws.length = 1)
    (read : ∀ ws S Q, Up Q → sp ws S Q → t_kinds_of (PySem.NestedKey.hash w) sp_renamed sp_doors { nx := fun _ S' => Q .non S', rt := Q } (startW 8 ws) S) : FnOk P w K mg base CX0 (k + 1) A.f_kinds_of A.d_kinds_of P_kinds_of (LowSp K sp) :=
  fnW (t := t_kinds_of (PySem.NestedKey.hash w) sp_renamed sp_doors) T.F_kinds_of sc_kinds_of len (fun cdv AA outer s H E hr => (dss_cons (ds_set (i := 1) sc_kinds_of.nd rfl (by first | exact Or.inl rfl | exact Or.inr rfl) (de_nnew rfl))
  (dss_cons (ds_set (i := 2) sc_kinds_of.nd rfl (by first | exact Or.inl rfl | exact Or.inr rfl) (de_lst da_nil))
  (dss_cons (ds_for PassesOwn.never rfl (de_var (pv 0)) (dg_name (i := 3) sc_kinds_of.nd rfl (by first | exact Or.inl rfl | exact Or.inr rfl))
  (dss_one (ds_expr (de_lm PySem.F.plainAttrs_list PySem.F.slot_list_append PySem.F.type_list_append mw_append (de_var (pv 2)) (da_cons (de_nset rfl (hu16_of hr) (de_var (pv 1)) (de_call G_renamed.1 G_renamed.2 (hr.mono (by omega)) rfl T.m_renamed T.F_renamed.kp T.b_renamed (da_cons (de_var (pv 3)) (da_cons (de_op ow_mul (de_lst (da_cons de_int da_nil)) (de_callB cw_len rfl T.z_len (by decide +kernel) (da_cons (de_call G_doors.1 G_doors.2 (hr.mono (by omega)) rfl T.m_doors T.F_doors.kp T.b_doors (da_cons (de_var (pv 3)) da_nil)) da_nil))) da_nil))) (de_callB (cw_lenN rfl) rfl T.z_len (by decide +kernel) (da_cons (de_var (pv 1)) da_nil)) ⟨rfl, rfl, rfl, rfl⟩) da_nil)))))
  (dss_cons (ds_set (i := 4) sc_kinds_of.nd rfl (by first | exact Or.inl rfl | exact Or.inr rfl) de_int)
  (dss_cons (ds_while PassesOwn.never (dt_cmp ow_lt (de_var (pv 4)) (de_callB (cw_lenN rfl) rfl T.z_len (by decide +kernel) (da_cons (de_var (pv 1)) da_nil)) (nomark _))
  (dss_cons (ds_set (i := 4) sc_kinds_of.nd rfl (by first | exact Or.inl rfl | exact Or.inr rfl) (de_callB (cw_lenN rfl) rfl T.z_len (by decide +kernel) (da_cons (de_var (pv 1)) da_nil)))
  (dss_cons (ds_set (i := 1) sc_kinds_of.nd rfl (by first | exact Or.inl rfl | exact Or.inr rfl) (de_nnew rfl))
  (dss_cons (ds_set (i := 5) sc_kinds_of.nd rfl (by first | exact Or.inl rfl | exact Or.inr rfl) (de_lst da_nil))
  (dss_cons (ds_forZip2 PassesOwn.never rfl rfl T.z_zip (da_cons (de_var (pv 0)) (da_cons (de_var (pv 2)) da_nil)) (dg_tup rfl (dgs_cons (dg_name (i := 3) sc_kinds_of.nd rfl (by first | exact Or.inl rfl | exact Or.inr rfl)) (dgs_cons (dg_name (i := 6) sc_kinds_of.nd rfl (by first | exact Or.inl rfl | exact Or.inr rfl)) dgs_nil)))
  (dss_one (ds_expr (de_lm PySem.F.plainAttrs_list PySem.F.slot_list_append PySem.F.type_list_append mw_append (de_var (pv 5)) (da_cons (de_nset rfl (hu16_of hr) (de_var (pv 1)) (de_op ow_add (de_tup (da_cons (de_var (pv 6)) da_nil)) (de_callTy cw_tuple rfl T.z_tuple (by decide +kernel) (da_cons (de_lc (x := ("door" : Str)) (i := 7) rfl sc_kinds_of.nd (de_call G_doors.1 G_doors.2 (hr.mono (by omega)) rfl T.m_doors T.F_doors.kp T.b_doors (da_cons (de_var (pv 3)) da_nil)) (blkOk_by (N := N_kinds_of) (sc := defScope s_kinds_of) (by decide +kernel)) (fun _ _ _ _ _ => pg_name (i := 7) sc_kinds_of.nd rfl (by first | exact Or.inl rfl | exact Or.inr rfl)) (fun _ _ _ _ _ => dts_nil) (fun _ _ _ _ _ => (de_ix (de_var (pv 2)) (de_var (pv 7)) (fun _ _ => rfl)))) da_nil))) (de_callB (cw_lenN rfl) rfl T.z_len (by decide +kernel) (da_cons (de_var (pv 1)) da_nil)) ⟨rfl, rfl, rfl, rfl⟩) da_nil)))))
  (dss_one (ds_set (i := 2) sc_kinds_of.nd rfl (by first | exact Or.inl rfl | exact Or.inr rfl) (de_var (pv 5)))))))))
  (dss_one (ds_ret (de_var (pv 2)))))))))) read
theorem ok_tidied (T : Txt K mg w A) {k : Nat} {k_kinds_of : Nat} {sp_kinds_of : WSp} (G_kinds_of : FnOk P w K mg base CX0 k_kinds_of A.f_kinds_of A.d_kinds_of P_kinds_of (LowSp K sp_kinds_of) ∧ MonoSp sp_kinds_of) (e_kinds_of : k_kinds_of ≤ k) {k_doors : Nat} {sp_doors : WSp} (G_doors : FnOk P w K mg base CX0 k_doors A.f_doors A.d_doors P_doors (LowSp K sp_doors) ∧ MonoSp sp_doors) (e_doors : k_doors ≤ k) {k_renamed : Nat} {sp_renamed : WSp} (G_renamed : FnOk P w K mg base CX0 k_renamed A.f_renamed A.d_renamed P_renamed (LowSp K sp_renamed) ∧ MonoSp sp_renamed) (e_renamed : k_renamed ≤ k) {sp : WSp} (len : ∀ ws S Q, sp ws S Q → ws.length = 4)
    (read : ∀ ws S Q, Up Q → sp ws S Q → t_tidied sp_kinds_of sp_doors sp_renamed { nx := fun _ S' => Q .non S', rt := Q } (startW 10 ws) S) : FnOk P w K mg base CX0 (k + 1) A.f_tidied A.d_tidied P_tidied (LowSp K sp) :=
  fnW (t := t_tidied sp_kinds_of sp_doors sp_renamed) T.F_tidied sc_tidied len (fun cdv AA outer s H E hr => (dss_cons (ds_set (i := 4) sc_tidied.nd rfl (by first | exact Or.inl rfl | exact Or.inr rfl) (de_call G_kinds_of.1 G_kinds_of.2 (hr.mono (by omega)) rfl T.m_kinds_of T.F_kinds_of.kp T.b_kinds_of (da_cons (de_var (pv 2)) da_nil)))
  (dss_cons (ds_set (i := 5) sc_tidied.nd rfl (by first | exact Or.inl rfl | exact Or.inr rfl) (de_disp (dps_cons (de_ix (de_var (pv 4)) (de_var (pv 3)) (fun _ _ => rfl)) de_int dps_nil)))
  (dss_cons (ds_set (i := 6) sc_tidied.nd rfl (by first | exact Or.inl rfl | exact Or.inr rfl) (de_lst (da_cons (de_ix (de_var (pv 2)) (de_var (pv 3)) (fun _ _ => rfl)) da_nil)))
  (dss_cons (ds_set (i := 7) sc_tidied.nd rfl (by first | exact Or.inl rfl | exact Or.inr rfl) de_int)
  (dss_cons (ds_while PassesOwn.never (dt_cmp ow_lt (de_var (pv 7)) (de_callB cw_len rfl T.z_len (by decide +kernel) (da_cons (de_var (pv 6)) da_nil)) (nomark _))
  (dss_cons (ds_for PassesOwn.never rfl (de_call G_doors.1 G_doors.2 (hr.mono (by omega)) rfl T.m_doors T.F_doors.kp T.b_doors (da_cons (de_ix (de_var (pv 6)) (de_var (pv 7)) (fun _ _ => rfl)) da_nil)) (dg_name (i := 8) sc_tidied.nd rfl (by first | exact Or.inl rfl | exact Or.inr rfl))
  (dss_one (ds_if (dt_cmp (ow_notindk (hu_of hr)) (de_ix (de_var (pv 4)) (de_var (pv 8)) (fun _ _ => rfl)) (de_var (pv 5)) (by with_unfolding_all rfl))
  (dss_cons (ds_dput (hu_of hr) (de_var (pv 5)) (de_ix (de_var (pv 4)) (de_var (pv 8)) (fun _ _ => rfl)) (de_callB cw_len rfl T.z_len (by decide +kernel) (da_cons (de_var (pv 6)) da_nil)))
  (dss_one (ds_expr (de_lm PySem.F.plainAttrs_list PySem.F.slot_list_append PySem.F.type_list_append mw_append (de_var (pv 6)) (da_cons (de_ix (de_var (pv 2)) (de_var (pv 8)) (fun _ _ => rfl)) da_nil)))))
  dss_nil)))
  (dss_one (ds_set (i := 7) sc_tidied.nd rfl (by first | exact Or.inl rfl | exact Or.inr rfl) (de_op ow_add (de_var (pv 7)) de_int)))))
  (dss_one (ds_ret (de_tup (da_cons (de_var (pv 0)) (da_cons (de_var (pv 1)) (da_cons (de_lc (x := ("room" : Str)) (i := 9) rfl sc_tidied.nd (de_var (pv 6)) (blkOk_by (N := N_tidied) (sc := defScope s_tidied) (by decide +kernel)) (fun _ _ _ _ _ => pg_name (i := 9) sc_tidied.nd rfl (by first | exact Or.inl rfl | exact Or.inr rfl)) (fun _ _ _ _ _ => dts_nil) (fun _ _ _ _ _ => (de_call G_renamed.1 G_renamed.2 (hr.mono (by omega)) rfl T.m_renamed T.F_renamed.kp T.b_renamed (da_cons (de_var (pv 9)) (da_cons (de_lc (x := ("door" : Str)) (i := 8) rfl sc_tidied.nd (de_call G_doors.1 G_doors.2 (hr.mono (by omega)) rfl T.m_doors T.F_doors.kp T.b_doors (da_cons (de_var (pv 9)) da_nil)) (blkOk_in (N := N_tidied) (sc := { kind := ScopeKind.function, names := [((".0" : Str), NameKind.local), (("room" : Str), NameKind.local), (("renamed" : Str), NameKind.globalImplicit), (("doors" : Str), NameKind.globalImplicit), (("kinds" : Str), NameKind.cell), (("numbers" : Str), NameKind.cell)], isGenerator := false, isCoroutine := false }) (by decide +kernel)) (fun _ _ _ _ _ => pg_name (i := 8) sc_tidied.nd rfl (by first | exact Or.inl rfl | exact Or.inr rfl)) (fun _ _ _ _ _ => dts_nil) (fun _ _ _ _ _ => (de_dget (hu_of hr) (de_var (pv 5)) (de_ix (de_var (pv 4)) (de_var (pv 8)) (fun _ _ => rfl))))) da_nil))))) da_nil)))))))))))) read
theorem ok_joined (T : Txt K mg w A) {k : Nat} {k_tidied : Nat} {sp_tidied : WSp} (G_tidied : FnOk P w K mg base CX0 k_tidied A.f_tidied A.d_tidied P_tidied (LowSp K sp_tidied) ∧ MonoSp sp_tidied) (e_tidied : k_tidied ≤ k) {sp : WSp} (len : ∀ ws S Q, sp ws S Q → ws.length = 1)
    (read : ∀ ws S Q, Up Q → sp ws S Q → t_joined sp_tidied { nx := fun _ S' => Q .non S', rt := Q } (startW 4 ws) S) : FnOk P w K mg base CX0 (k + 1) A.f_joined A.d_joined P_joined (LowSp K sp) :=
  fnW (t := t_joined sp_tidied) T.F_joined sc_joined len (fun cdv AA outer s H E hr => (dss_cons (ds_asg (de_var (pv 0)) (dg_tup rfl (dgs_cons (dg_name (i := 1) sc_joined.nd rfl (by first | exact Or.inl rfl | exact Or.inr rfl)) (dgs_cons (dg_name (i := 2) sc_joined.nd rfl (by first | exact Or.inl rfl | exact Or.inr rfl)) (dgs_cons (dg_name (i := 3) sc_joined.nd rfl (by first | exact Or.inl rfl | exact Or.inr rfl)) dgs_nil)))))
  (dss_one (ds_ret (de_call G_tidied.1 G_tidied.2 (hr.mono (by omega)) rfl T.m_tidied T.F_tidied.kp T.b_tidied (da_cons (de_var (pv 1)) (da_cons (de_var (pv 2)) (da_cons (de_var (pv 3)) (da_cons de_int da_nil))))))))) read
theorem ok_law_taken (T : Txt K mg w A) {k : Nat}  {sp : WSp} (len : ∀ ws S Q, sp ws S Q → ws.length = 2)
    (read : ∀ ws S Q, Up Q → sp ws S Q → t_law_taken  { nx := fun _ S' => Q .non S', rt := Q } (startW 4 ws) S) : FnOk P w K mg base CX0 (k + 1) A.f_law_taken A.d_law_taken P_law_taken (LowSp K sp) :=
  fnW (t := t_law_taken ) T.F_law_taken sc_law_taken len (fun cdv AA outer s H E hr => (dss_cons (ds_if (dt_cmp ow_gt (de_ix (de_var (pv 0)) de_int (fun _ _ => rfl)) de_int (nomark _))
  (dss_cons (ds_set (i := 2) sc_law_taken.nd rfl (by first | exact Or.inl rfl | exact Or.inr rfl) (de_op ow_mod (de_ix (de_var (pv 0)) de_int (fun _ _ => rfl)) (de_var (pv 1))))
  (dss_cons (ds_asg (de_op ow_fdiv (de_ix (de_var (pv 0)) de_int (fun _ _ => rfl)) (de_var (pv 1))) (dg_sub (de_var (pv 0)) de_int))
  (dss_one (ds_ret (de_var (pv 2))))))
  dss_nil)
  (dss_cons (ds_asg (de_op ow_add (de_ix (de_var (pv 0)) de_int (fun _ _ => rfl)) de_int) (dg_sub (de_var (pv 0)) de_int))
  (dss_cons (ds_if (dt_cmp ow_gt (de_ix (de_var (pv 0)) de_int (fun _ _ => rfl)) (de_callB cw_len rfl T.z_len (by decide +kernel) (da_cons (de_ix (de_var (pv 0)) de_int (fun _ _ => rfl)) da_nil)) (nomark _))
  (dss_cons (ds_asg (de_op ow_mod (de_op ow_add (de_op ow_mul (de_ix (de_var (pv 0)) de_int (fun _ _ => rfl)) de_int) de_int) de_int) (dg_sub (de_var (pv 0)) de_int))
  (dss_one (ds_ret (de_op ow_mod (de_op ow_fdiv (de_ix (de_var (pv 0)) de_int (fun _ _ => rfl)) de_int) (de_var (pv 1))))))
  dss_nil)
  (dss_cons (ds_set (i := 3) sc_law_taken.nd rfl (by first | exact Or.inl rfl | exact Or.inr rfl) (de_ix (de_ix (de_var (pv 0)) de_int (fun _ _ => rfl)) (de_op ow_sub (de_ix (de_var (pv 0)) de_int (fun _ _ => rfl)) de_int) (fun _ _ => rfl)))
  (dss_cons (ds_asg (de_op ow_mod (de_op ow_add (de_op ow_add (de_op ow_mul (de_ix (de_var (pv 0)) de_int (fun _ _ => rfl)) de_int) (de_var (pv 3))) de_int) de_int) (dg_sub (de_var (pv 0)) de_int))
  (dss_cons (ds_if (dt_cmp ow_ge (de_var (pv 3)) (de_op ow_pow de_int de_int) (nomark _))
  (dss_one (ds_asg (de_op ow_fdiv (de_var (pv 3)) (de_var (pv 1))) (dg_sub (de_var (pv 0)) de_int)))
  dss_nil)
  (dss_one (ds_ret (de_op ow_mod (de_var (pv 3)) (de_var (pv 1)))))))))))) read
theorem ok_law_reckoning (T : Txt K mg w A) {k : Nat} {k_law_taken : Nat} {sp_law_taken : WSp} (G_law_taken : FnOk P w K mg base CX0 k_law_taken A.f_law_taken A.d_law_taken P_law_taken (LowSp K sp_law_taken) ∧ MonoSp sp_law_taken) (e_law_taken : k_law_taken ≤ k) {k_law_reckoning : Nat} {sp_law_reckoning : WSp} (G_law_reckoning : FnOk P w K mg base CX0 k_law_reckoning A.f_law_reckoning A.d_law_reckoning P_law_reckoning (LowSp K sp_law_reckoning) ∧ MonoSp sp_law_reckoning) (e_law_reckoning : k_law_reckoning ≤ k) {sp : WSp} (len : ∀ ws S Q, sp ws S Q → ws.length = 3)
    (read : ∀ ws S Q, Up Q → sp ws S Q → t_law_reckoning sp_law_taken sp_law_reckoning { nx := fun _ S' => Q .non S', rt := Q } (startW 5 ws) S) : FnOk P w K mg base CX0 (k + 1) A.f_law_reckoning A.d_law_reckoning P_law_reckoning (LowSp K sp) :=
  fnW (t := t_law_reckoning sp_law_taken sp_law_reckoning) T.F_law_reckoning sc_law_reckoning len (fun cdv AA outer s H E hr => (dss_cons (ds_set (i := 3) sc_law_reckoning.nd rfl (by first | exact Or.inl rfl | exact Or.inr rfl) (de_call G_law_taken.1 G_law_taken.2 (hr.mono (by omega)) rfl T.m_law_taken T.F_law_taken.kp T.b_law_taken (da_cons (de_var (pv 0)) (da_cons de_int da_nil))))
  (dss_cons (ds_if (DW.dt (dw_and (dt_cmp ow_gt (de_var (pv 3)) de_int (nomark _)) (dw_and1 (dt_cmp ow_gt (de_var (pv 2)) de_int (nomark _)))))
  (dss_cons (ds_set (i := 4) sc_law_reckoning.nd rfl (by first | exact Or.inl rfl | exact Or.inr rfl) (de_ix (de_lst (da_cons de_str (da_cons de_str (da_cons de_str (da_cons de_str (da_cons de_str (da_cons de_str da_nil))))))) (de_call G_law_taken.1 G_law_taken.2 (hr.mono (by omega)) rfl T.m_law_taken T.F_law_taken.kp T.b_law_taken (da_cons (de_var (pv 0)) (da_cons de_int da_nil))) (fun _ _ => rfl)))
  (dss_one (ds_ret (de_tup (da_cons (de_var (pv 4)) (da_cons (de_call G_law_reckoning.1 G_law_reckoning.2 (hr.mono (by omega)) rfl T.m_law_reckoning T.F_law_reckoning.kp T.b_law_reckoning (da_cons (de_var (pv 0)) (da_cons (de_var (pv 1)) (da_cons (de_op ow_sub (de_var (pv 2)) de_int) da_nil)))) (da_cons (de_call G_law_reckoning.1 G_law_reckoning.2 (hr.mono (by omega)) rfl T.m_law_reckoning T.F_law_reckoning.kp T.b_law_reckoning (da_cons (de_var (pv 0)) (da_cons (de_var (pv 1)) (da_cons (de_op ow_sub (de_var (pv 2)) de_int) da_nil)))) da_nil)))))))
  dss_nil)
  (dss_cons (ds_if (dt_cmp ow_lt (de_var (pv 3)) de_int (nomark _))
  (dss_one (ds_ret (de_tup (da_cons de_str (da_cons (de_call G_law_taken.1 G_law_taken.2 (hr.mono (by omega)) rfl T.m_law_taken T.F_law_taken.kp T.b_law_taken (da_cons (de_var (pv 0)) (da_cons (de_ix (de_lst (da_cons de_int (da_cons de_int (da_cons de_int da_nil)))) (de_var (pv 3)) (fun _ _ => rfl)) da_nil))) da_nil)))))
  dss_nil)
  (dss_one (ds_ret (de_tup (da_cons de_str (da_cons (de_call G_law_taken.1 G_law_taken.2 (hr.mono (by omega)) rfl T.m_law_taken T.F_law_taken.kp T.b_law_taken (da_cons (de_var (pv 0)) (da_cons (de_var (pv 1)) da_nil))) da_nil))))))))) read
theorem ok_law_typed_room (T : Txt K mg w A) {k : Nat} {k_law_reckoning : Nat} {sp_law_reckoning : WSp} (G_law_reckoning : FnOk P w K mg base CX0 k_law_reckoning A.f_law_reckoning A.d_law_reckoning P_law_reckoning (LowSp K sp_law_reckoning) ∧ MonoSp sp_law_reckoning) (e_law_reckoning : k_law_reckoning ≤ k) {k_law_taken : Nat} {sp_law_taken : WSp} (G_law_taken : FnOk P w K mg base CX0 k_law_taken A.f_law_taken A.d_law_taken P_law_taken (LowSp K sp_law_taken) ∧ MonoSp sp_law_taken) (e_law_taken : k_law_taken ≤ k) {sp : WSp} (len : ∀ ws S Q, sp ws S Q → ws.length = 5)
    (read : ∀ ws S Q, Up Q → sp ws S Q → t_law_typed_room sp_law_reckoning sp_law_taken { nx := fun _ S' => Q .non S', rt := Q } (startW 18 ws) S) : FnOk P w K mg base CX0 (k + 1) A.f_law_typed_room A.d_law_typed_room P_law_typed_room (LowSp K sp) :=
  fnW (t := t_law_typed_room sp_law_reckoning sp_law_taken) T.F_law_typed_room sc_law_typed_room len (fun cdv AA outer s H E hr => (dss_cons (ds_set (i := 5) sc_law_typed_room.nd rfl (by first | exact Or.inl rfl | exact Or.inr rfl) (de_ix (de_ix (de_var (pv 1)) (de_var (pv 2)) (fun _ _ => rfl)) de_int (fun _ _ => rfl)))
  (dss_cons (ds_set (i := 6) sc_law_typed_room.nd rfl (by first | exact Or.inl rfl | exact Or.inr rfl) (de_op ow_add (de_lst (da_cons de_non da_nil)) (de_lstR rfl rfl T.z_range rfl T.z_list (de_var (pv 5)))))
  (dss_cons (ds_set (i := 7) sc_law_typed_room.nd rfl (by first | exact Or.inl rfl | exact Or.inr rfl) (de_lst da_nil))
  (dss_cons (ds_forR1 PassesOwn.never rfl rfl T.z_range (da_cons (de_call G_law_taken.1 G_law_taken.2 (hr.mono (by omega)) rfl T.m_law_taken T.F_law_taken.kp T.b_law_taken (da_cons (de_var (pv 0)) (da_cons de_int da_nil))) da_nil) (dg_name (i := 8) sc_law_typed_room.nd rfl (by first | exact Or.inl rfl | exact Or.inr rfl))
  (dss_cons (ds_set (i := 9) sc_law_typed_room.nd rfl (by first | exact Or.inl rfl | exact Or.inr rfl) (de_call G_law_reckoning.1 G_law_reckoning.2 (hr.mono (by omega)) rfl T.m_law_reckoning T.F_law_reckoning.kp T.b_law_reckoning (da_cons (de_var (pv 0)) (da_cons (de_var (pv 5)) (da_cons (de_call G_law_taken.1 G_law_taken.2 (hr.mono (by omega)) rfl T.m_law_taken T.F_law_taken.kp T.b_law_taken (da_cons (de_var (pv 0)) (da_cons de_int da_nil))) da_nil)))))
  (dss_cons (ds_set (i := 10) sc_law_typed_room.nd rfl (by first | exact Or.inl rfl | exact Or.inr rfl) (de_call G_law_taken.1 G_law_taken.2 (hr.mono (by omega)) rfl T.m_law_taken T.F_law_taken.kp T.b_law_taken (da_cons (de_var (pv 0)) (da_cons (de_var (pv 5)) da_nil))))
  (dss_one (ds_expr (de_lm PySem.F.plainAttrs_list PySem.F.slot_list_append PySem.F.type_list_append mw_append (de_var (pv 7)) (da_cons (de_ix (de_lst (da_cons (de_tup (da_cons de_str (da_cons (de_var (pv 10)) (da_cons (de_var (pv 9)) da_nil)))) (da_cons (de_tup (da_cons de_str (da_cons (de_var (pv 9)) da_nil))) (da_cons (de_tup (da_cons de_str (da_cons (de_var (pv 10)) (da_cons (de_var (pv 9)) da_nil)))) da_nil)))) (de_call G_law_taken.1 G_law_taken.2 (hr.mono (by omega)) rfl T.m_law_taken T.F_law_taken.kp T.b_law_taken (da_cons (de_var (pv 0)) (da_cons de_int da_nil))) (fun _ _ => rfl)) da_nil)))))))
  (dss_cons (ds_set (i := 9) sc_law_typed_room.nd rfl (by first | exact Or.inl rfl | exact Or.inr rfl) (de_call G_law_reckoning.1 G_law_reckoning.2 (hr.mono (by omega)) rfl T.m_law_reckoning T.F_law_reckoning.kp T.b_law_reckoning (da_cons (de_var (pv 0)) (da_cons (de_var (pv 5)) (da_cons (de_call G_law_taken.1 G_law_taken.2 (hr.mono (by omega)) rfl T.m_law_taken T.F_law_taken.kp T.b_law_taken (da_cons (de_var (pv 0)) (da_cons de_int da_nil))) da_nil)))))
  (dss_cons (ds_set (i := 10) sc_law_typed_room.nd rfl (by first | exact Or.inl rfl | exact Or.inr rfl) (de_ix (de_var (pv 6)) (de_call G_law_taken.1 G_law_taken.2 (hr.mono (by omega)) rfl T.m_law_taken T.F_law_taken.kp T.b_law_taken (da_cons (de_var (pv 0)) (da_cons (de_op ow_add (de_var (pv 5)) de_int) da_nil))) (fun _ _ => rfl)))
  (dss_cons (ds_setLcR (x := ("_law_turn" : Str)) (i := 8) (j := 11) rfl sc_law_typed_room.nd rfl rfl (sw_true rfl rfl rfl (by decide +kernel)) rfl T.z_range (da_cons de_int da_nil) (blkOk_by (N := N_law_typed_room) (sc := defScope s_law_typed_room) (by decide +kernel)) (fun _ _ _ _ _ => pg_name (i := 8) sc_law_typed_room.nd rfl (by first | exact Or.inl rfl | exact Or.inr rfl)) (fun _ _ _ _ _ => dts_nil) (fun _ _ _ _ _ => (de_op ow_add (de_op ow_add (de_var (pv 3)) de_int) (de_call G_law_taken.1 G_law_taken.2 (hr.mono (by omega)) rfl T.m_law_taken T.F_law_taken.kp T.b_law_taken (da_cons (de_var (pv 0)) (da_cons (de_callB (cw_max rfl) rfl T.z_max (by decide +kernel) (da_cons de_int (da_cons (de_op ow_sub (de_op ow_sub (de_var (pv 4)) (de_var (pv 3))) de_int) da_nil))) da_nil))))))
  (dss_cons (ds_set (i := 12) sc_law_typed_room.nd rfl (by first | exact Or.inl rfl | exact Or.inr rfl) (de_lst (da_cons (de_tup (da_cons de_str (da_cons (de_var (pv 9)) (da_cons (de_var (pv 10)) (da_cons (de_call G_law_taken.1 G_law_taken.2 (hr.mono (by omega)) rfl T.m_law_taken T.F_law_taken.kp T.b_law_taken (da_cons (de_var (pv 0)) (da_cons (de_var (pv 4)) da_nil))) da_nil))))) (da_cons (de_tup (da_cons de_str (da_cons (de_var (pv 9)) da_nil))) (da_cons (de_tup (da_cons de_str (da_cons (de_var (pv 9)) da_nil))) (da_cons (de_tup (da_cons de_str da_nil)) da_nil))))))
  (dss_cons (ds_asg (de_tup (da_cons de_non (da_cons de_non da_nil))) (dg_tup rfl (dgs_cons (dg_name (i := 13) sc_law_typed_room.nd rfl (by first | exact Or.inl rfl | exact Or.inr rfl)) (dgs_cons (dg_name (i := 14) sc_law_typed_room.nd rfl (by first | exact Or.inl rfl | exact Or.inr rfl)) dgs_nil))))
  (dss_cons (ds_if (dt_cmp ow_lt (de_var (pv 3)) (de_op ow_sub (de_var (pv 4)) de_int) (nomark _))
  (dss_cons (ds_set (i := 12) sc_law_typed_room.nd rfl (by first | exact Or.inl rfl | exact Or.inr rfl) (de_op ow_add (de_lst (da_cons (de_tup (da_cons de_str (da_cons (de_ix (de_var (pv 11)) de_int (fun _ _ => rfl)) da_nil))) (da_cons (de_tup (da_cons de_str (da_cons (de_var (pv 9)) (da_cons (de_ix (de_var (pv 11)) de_int (fun _ _ => rfl)) (da_cons (de_ix (de_var (pv 11)) de_int (fun _ _ => rfl)) da_nil))))) da_nil))) (de_var (pv 12))))
  (dss_cons (ds_set (i := 13) sc_law_typed_room.nd rfl (by first | exact Or.inl rfl | exact Or.inr rfl) (de_ix (de_lst (da_cons de_non (da_cons (de_tup (da_cons (de_ix (de_var (pv 6)) (de_call G_law_taken.1 G_law_taken.2 (hr.mono (by omega)) rfl T.m_law_taken T.F_law_taken.kp T.b_law_taken (da_cons (de_var (pv 0)) (da_cons (de_op ow_add (de_var (pv 5)) de_int) da_nil))) (fun _ _ => rfl)) (da_cons (de_ix (de_var (pv 11)) de_int (fun _ _ => rfl)) da_nil))) da_nil))) (de_callTy cw_int rfl T.z_int (by decide +kernel) (da_cons (de_cmp ow_gt (de_call G_law_taken.1 G_law_taken.2 (hr.mono (by omega)) rfl T.m_law_taken T.F_law_taken.kp T.b_law_taken (da_cons (de_var (pv 0)) (da_cons de_int da_nil))) de_int (nomark _)) da_nil)) (fun _ _ => rfl)))
  (dss_cons (ds_set (i := 14) sc_law_typed_room.nd rfl (by first | exact Or.inl rfl | exact Or.inr rfl) (de_ix (de_lst (da_cons de_non (da_cons (de_ix (de_var (pv 11)) de_int (fun _ _ => rfl)) da_nil))) (de_callTy cw_int rfl T.z_int (by decide +kernel) (da_cons (de_cmp ow_gt (de_call G_law_taken.1 G_law_taken.2 (hr.mono (by omega)) rfl T.m_law_taken T.F_law_taken.kp T.b_law_taken (da_cons (de_var (pv 0)) (da_cons de_int da_nil))) de_int (nomark _)) da_nil)) (fun _ _ => rfl)))
  (dss_one (ds_if (dt_cmp ow_lt (de_var (pv 2)) (de_op ow_sub (de_callB cw_len rfl T.z_len (by decide +kernel) (da_cons (de_var (pv 1)) da_nil)) de_int) (nomark _))
  (dss_cons (ds_set (i := 15) sc_law_typed_room.nd rfl (by first | exact Or.inl rfl | exact Or.inr rfl) (de_op ow_add (de_op ow_add (de_var (pv 2)) de_int) (de_call G_law_taken.1 G_law_taken.2 (hr.mono (by omega)) rfl T.m_law_taken T.F_law_taken.kp T.b_law_taken (da_cons (de_var (pv 0)) (da_cons (de_op ow_sub (de_op ow_sub (de_callB cw_len rfl T.z_len (by decide +kernel) (da_cons (de_var (pv 1)) da_nil)) de_int) (de_var (pv 2))) da_nil)))))
  (dss_cons (ds_set (i := 16) sc_law_typed_room.nd rfl (by first | exact Or.inl rfl | exact Or.inr rfl) (de_callTy cw_tuple rfl T.z_tuple (by decide +kernel) (da_cons (de_lcR (x := ("_law_turn" : Str)) (i := 8) rfl sc_law_typed_room.nd rfl T.z_range (da_cons (de_ix (de_ix (de_var (pv 1)) (de_var (pv 15)) (fun _ _ => rfl)) de_int (fun _ _ => rfl)) da_nil) (blkOk_by (N := N_law_typed_room) (sc := defScope s_law_typed_room) (by decide +kernel)) (fun _ _ _ _ _ => pg_name (i := 8) sc_law_typed_room.nd rfl (by first | exact Or.inl rfl | exact Or.inr rfl)) (fun _ _ _ _ _ => dts_nil) (fun _ _ _ _ _ => (de_call G_law_reckoning.1 G_law_reckoning.2 (hr.mono (by omega)) rfl T.m_law_reckoning T.F_law_reckoning.kp T.b_law_reckoning (da_cons (de_var (pv 0)) (da_cons (de_var (pv 5)) (da_cons de_int da_nil)))))) da_nil)))
  (dss_one (ds_set (i := 12) sc_law_typed_room.nd rfl (by first | exact Or.inl rfl | exact Or.inr rfl) (de_op ow_add (de_lst (da_cons (de_tup (da_cons de_str (da_cons (de_var (pv 15)) (da_cons (de_var (pv 16)) (da_cons (de_var (pv 10)) (da_cons (de_ix (de_var (pv 11)) de_int (fun _ _ => rfl)) da_nil)))))) da_nil)) (de_var (pv 12)))))))
  dss_nil)))))
  dss_nil)
  (dss_cons (ds_set (i := 17) sc_law_typed_room.nd rfl (by first | exact Or.inl rfl | exact Or.inr rfl) (de_ix (de_var (pv 12)) (de_op ow_mod (de_call G_law_taken.1 G_law_taken.2 (hr.mono (by omega)) rfl T.m_law_taken T.F_law_taken.kp T.b_law_taken (da_cons (de_var (pv 0)) (da_cons de_int da_nil))) (de_callB cw_len rfl T.z_len (by decide +kernel) (da_cons (de_var (pv 12)) da_nil))) (fun _ _ => rfl)))
  (dss_one (ds_ret (de_tup (da_cons (de_callTy cw_tuple rfl T.z_tuple (by decide +kernel) (da_cons (de_var (pv 7)) da_nil)) (da_cons (de_var (pv 17)) (da_cons (de_var (pv 13)) (da_cons (de_var (pv 14)) da_nil))))))))))))))))))) read
theorem ok_law_typed (T : Txt K mg w A) {k : Nat} {k_law_taken : Nat} {sp_law_taken : WSp} (G_law_taken : FnOk P w K mg base CX0 k_law_taken A.f_law_taken A.d_law_taken P_law_taken (LowSp K sp_law_taken) ∧ MonoSp sp_law_taken) (e_law_taken : k_law_taken ≤ k) {k_law_typed_room : Nat} {sp_law_typed_room : WSp} (G_law_typed_room : FnOk P w K mg base CX0 k_law_typed_room A.f_law_typed_room A.d_law_typed_room P_law_typed_room (LowSp K sp_law_typed_room) ∧ MonoSp sp_law_typed_room) (e_law_typed_room : k_law_typed_room ≤ k) {sp : WSp} (len : ∀ ws S Q, sp ws S Q → ws.length = 2)
    (read : ∀ ws S Q, Up Q → sp ws S Q → t_law_typed sp_law_taken sp_law_typed_room { nx := fun _ S' => Q .non S', rt := Q } (startW 10 ws) S) : FnOk P w K mg base CX0 (k + 1) A.f_law_typed A.d_law_typed P_law_typed (LowSp K sp) :=
  fnW (t := t_law_typed sp_law_taken sp_law_typed_room) T.F_law_typed sc_law_typed len (fun cdv AA outer s H E hr => (dss_cons (ds_set (i := 2) sc_law_typed.nd rfl (by first | exact Or.inl rfl | exact Or.inr rfl) (de_lst da_nil))
  (dss_cons (ds_forR1 PassesOwn.never rfl rfl T.z_range (da_cons (de_op ow_add de_int (de_call G_law_taken.1 G_law_taken.2 (hr.mono (by omega)) rfl T.m_law_taken T.F_law_taken.kp T.b_law_taken (da_cons (de_var (pv 0)) (da_cons de_int da_nil)))) da_nil) (dg_name (i := 3) sc_law_typed.nd rfl (by first | exact Or.inl rfl | exact Or.inr rfl))
  (dss_cons (ds_set (i := 4) sc_law_typed.nd rfl (by first | exact Or.inl rfl | exact Or.inr rfl) (de_op ow_add de_int (de_call G_law_taken.1 G_law_taken.2 (hr.mono (by omega)) rfl T.m_law_taken T.F_law_taken.kp T.b_law_taken (da_cons (de_var (pv 0)) (da_cons de_int da_nil)))))
  (dss_one (ds_expr (de_lm PySem.F.plainAttrs_list PySem.F.slot_list_append PySem.F.type_list_append mw_append (de_var (pv 2)) (da_cons (de_tup (da_cons (de_call G_law_taken.1 G_law_taken.2 (hr.mono (by omega)) rfl T.m_law_taken T.F_law_taken.kp T.b_law_taken (da_cons (de_var (pv 0)) (da_cons (de_callB (cw_min rfl) rfl T.z_min (by decide +kernel) (da_cons de_int (da_cons (de_op ow_add (de_var (pv 4)) de_int) da_nil))) da_nil))) (da_cons (de_var (pv 4)) da_nil))) da_nil))))))
  (dss_cons (ds_set (i := 5) sc_law_typed.nd rfl (by first | exact Or.inl rfl | exact Or.inr rfl) (de_lst da_nil))
  (dss_cons (ds_forR1 PassesOwn.never rfl rfl T.z_range (da_cons (de_callB cw_len rfl T.z_len (by decide +kernel) (da_cons (de_var (pv 2)) da_nil)) da_nil) (dg_name (i := 6) sc_law_typed.nd rfl (by first | exact Or.inl rfl | exact Or.inr rfl))
  (dss_cons (ds_set (i := 7) sc_law_typed.nd rfl (by first | exact Or.inl rfl | exact Or.inr rfl) (de_op ow_add de_int (de_call G_law_taken.1 G_law_taken.2 (hr.mono (by omega)) rfl T.m_law_taken T.F_law_taken.kp T.b_law_taken (da_cons (de_var (pv 0)) (da_cons (de_var (pv 1)) da_nil)))))
  (dss_cons (ds_setLcR (x := ("_law_at" : Str)) (i := 9) (j := 8) rfl sc_law_typed.nd rfl rfl (sw_true rfl rfl rfl (by decide +kernel)) rfl T.z_range (da_cons (de_var (pv 7)) da_nil) (blkOk_by (N := N_law_typed) (sc := defScope s_law_typed) (by decide +kernel)) (fun _ _ _ _ _ => pg_name (i := 9) sc_law_typed.nd rfl (by first | exact Or.inl rfl | exact Or.inr rfl)) (fun _ _ _ _ _ => dts_nil) (fun _ _ _ _ _ => (de_call G_law_typed_room.1 G_law_typed_room.2 (hr.mono (by omega)) rfl T.m_law_typed_room T.F_law_typed_room.kp T.b_law_typed_room (da_cons (de_var (pv 0)) (da_cons (de_var (pv 2)) (da_cons (de_var (pv 6)) (da_cons (de_var (pv 9)) (da_cons (de_var (pv 7)) da_nil))))))))
  (dss_one (ds_expr (de_lm PySem.F.plainAttrs_list PySem.F.slot_list_append PySem.F.type_list_append mw_append (de_var (pv 5)) (da_cons (de_op ow_add (de_ix (de_var (pv 2)) (de_var (pv 6)) (fun _ _ => rfl)) (de_tup (da_cons (de_var (pv 8)) da_nil))) da_nil)))))))
  (dss_one (ds_ret (de_var (pv 5))))))))) read
theorem ok_law_doors (T : Txt K mg w A) {k : Nat}  {sp : WSp} (len : ∀ ws S Q, sp ws S Q → ws.length = 1)
    (read : ∀ ws S Q, Up Q → sp ws S Q → t_law_doors  { nx := fun _ S' => Q .non S', rt := Q } (startW 4 ws) S) : FnOk P w K mg base CX0 (k + 1) A.f_law_doors A.d_law_doors P_law_doors (LowSp K sp) :=
  fnW (t := t_law_doors ) T.F_law_doors sc_law_doors len (fun cdv AA outer s H E hr => (dss_cons (ds_set (i := 1) sc_law_doors.nd rfl (by first | exact Or.inl rfl | exact Or.inr rfl) (de_ix (de_var (pv 0)) de_int (fun _ _ => rfl)))
  (dss_cons (ds_set (i := 2) sc_law_doors.nd rfl (by first | exact Or.inl rfl | exact Or.inr rfl) (de_callTy cw_list rfl T.z_list (by decide +kernel) (da_cons (de_slice (de_var (pv 1)) (do_some (de_dget2 (hu_of hr) (de_disp (dps_cons de_str de_int (dps_cons de_str de_int (dps_cons de_str de_int (dps_cons de_str de_int dps_nil))))) (de_ix (de_var (pv 1)) de_int (fun _ _ => rfl)) (de_callB cw_len rfl T.z_len (by decide +kernel) (da_cons (de_var (pv 1)) da_nil)) ⟨rfl, rfl, rfl, rfl⟩)) do_none) da_nil)))
  (dss_cons (ds_if (dt_cmp ow_notN (de_ix (de_var (pv 0)) de_int (fun _ _ => rfl)) de_non (nomark _))
  (dss_one (ds_expr (de_lm PySem.F.plainAttrs_list PySem.F.slot_list_append PySem.F.type_list_append mw_append (de_var (pv 2)) (da_cons (de_ix (de_ix (de_var (pv 0)) de_int (fun _ _ => rfl)) de_int (fun _ _ => rfl)) da_nil))))
  dss_nil)
  (dss_one (ds_ret (de_op ow_add (de_var (pv 2)) (de_lc (x := ("_law_door" : Str)) (i := 3) rfl sc_law_doors.nd (de_lst (da_cons (de_ix (de_var (pv 0)) de_int (fun _ _ => rfl)) da_nil)) (blkOk_by (N := N_law_doors) (sc := defScope s_law_doors) (by decide +kernel)) (fun _ _ _ _ _ => pg_name (i := 3) sc_law_doors.nd rfl (by first | exact Or.inl rfl | exact Or.inr rfl)) (fun _ _ _ _ _ => (dts_one (dt_cmp ow_notN (de_var (pv 3)) de_non (nomark _)))) (fun _ _ _ _ _ => (de_var (pv 3))))))))))) read
theorem ok_law_shape (T : Txt K mg w A) {k : Nat}  {sp : WSp} (len : ∀ ws S Q, sp ws S Q → ws.length = 1)
    (read : ∀ ws S Q, Up Q → sp ws S Q → t_law_shape  { nx := fun _ S' => Q .non S', rt := Q } (startW 5 ws) S) : FnOk P w K mg base CX0 (k + 1) A.f_law_shape A.d_law_shape P_law_shape (LowSp K sp) :=
  fnW (t := t_law_shape ) T.F_law_shape sc_law_shape len (fun cdv AA outer s H E hr => (dss_cons (ds_asg (de_var (pv 0)) (dg_tup rfl (dgs_cons (dg_name (i := 1) sc_law_shape.nd rfl (by first | exact Or.inl rfl | exact Or.inr rfl)) (dgs_cons (dg_name (i := 2) sc_law_shape.nd rfl (by first | exact Or.inl rfl | exact Or.inr rfl)) (dgs_cons (dg_name (i := 3) sc_law_shape.nd rfl (by first | exact Or.inl rfl | exact Or.inr rfl)) (dgs_cons (dg_name (i := 4) sc_law_shape.nd rfl (by first | exact Or.inl rfl | exact Or.inr rfl)) dgs_nil))))))
  (dss_cons (ds_set (i := 2) sc_law_shape.nd rfl (by first | exact Or.inl rfl | exact Or.inr rfl) (de_slice (de_var (pv 2)) do_none (do_some (de_dget2 (hu_of hr) (de_disp (dps_cons de_str de_int (dps_cons de_str de_int (dps_cons de_str de_int (dps_cons de_str de_int dps_nil))))) (de_ix (de_var (pv 2)) de_int (fun _ _ => rfl)) (de_callB cw_len rfl T.z_len (by decide +kernel) (da_cons (de_var (pv 2)) da_nil)) ⟨rfl, rfl, rfl, rfl⟩))))
  (dss_one (ds_ret (de_tup (da_cons (de_var (pv 1)) (da_cons (de_var (pv 2)) (da_cons (de_if (dt_cmp ow_isN (de_var (pv 3)) de_non (nomark _)) de_non (de_slice (de_var (pv 3)) do_none (do_some de_int))) (da_cons (de_cmp ow_isN (de_var (pv 4)) de_non (nomark _)) da_nil)))))))))) read
theorem ok_law_none_alike (T : Txt K mg w A) {k : Nat} {k_law_shape : Nat} {sp_law_shape : WSp} (G_law_shape : FnOk P w K mg base CX0 k_law_shape A.f_law_shape A.d_law_shape P_law_shape (LowSp K sp_law_shape) ∧ MonoSp sp_law_shape) (e_law_shape : k_law_shape ≤ k) {k_law_doors : Nat} {sp_law_doors : WSp} (G_law_doors : FnOk P w K mg base CX0 k_law_doors A.f_law_doors A.d_law_doors P_law_doors (LowSp K sp_law_doors) ∧ MonoSp sp_law_doors) (e_law_doors : k_law_doors ≤ k) {sp : WSp} (len : ∀ ws S Q, sp ws S Q → ws.length = 1)
    (read : ∀ ws S Q, Up Q → sp ws S Q → t_law_none_alike sp_law_shape sp_law_doors { nx := fun _ S' => Q .non S', rt := Q } (startW 8 ws) S) : FnOk P w K mg base CX0 (k + 1) A.f_law_none_alike A.d_law_none_alike P_law_none_alike (LowSp K sp) :=
  fnW (t := t_law_none_alike sp_law_shape sp_law_doors) T.F_law_none_alike sc_law_none_alike len (fun cdv AA outer s H E hr => (dss_cons (ds_set (i := 1) sc_law_none_alike.nd rfl (by first | exact Or.inl rfl | exact Or.inr rfl) (de_lc (x := ("_law_room" : Str)) (i := 2) rfl sc_law_none_alike.nd (de_var (pv 0)) (blkOk_by (N := N_law_none_alike) (sc := defScope s_law_none_alike) (by decide +kernel)) (fun _ _ _ _ _ => pg_name (i := 2) sc_law_none_alike.nd rfl (by first | exact Or.inl rfl | exact Or.inr rfl)) (fun _ _ _ _ _ => dts_nil) (fun _ _ _ _ _ => (de_tup (da_cons (de_call G_law_shape.1 G_law_shape.2 (hr.mono (by omega)) rfl T.m_law_shape T.F_law_shape.kp T.b_law_shape (da_cons (de_var (pv 2)) da_nil)) da_nil)))))
  (dss_cons (ds_forR1 PassesOwn.never rfl rfl T.z_range (da_cons (de_callB cw_len rfl T.z_len (by decide +kernel) (da_cons (de_var (pv 0)) da_nil)) da_nil) (dg_name (i := 3) sc_law_none_alike.nd rfl (by first | exact Or.inl rfl | exact Or.inr rfl))
  (dss_cons (ds_set (i := 4) sc_law_none_alike.nd rfl (by first | exact Or.inl rfl | exact Or.inr rfl) (de_lc (x := ("_law_key" : Str)) (i := 5) rfl sc_law_none_alike.nd (de_var (pv 1)) (blkOk_by (N := N_law_none_alike) (sc := defScope s_law_none_alike) (by decide +kernel)) (fun _ _ _ _ _ => pg_name (i := 5) sc_law_none_alike.nd rfl (by first | exact Or.inl rfl | exact Or.inr rfl)) (fun _ _ _ _ _ => dts_nil) (fun _ _ _ _ _ => (de_lm PySem.F.plainAttrs_list PySem.F.slot_list_index PySem.F.type_list_index (mw_index (hu65_of hr)) (de_var (pv 1)) (da_cons (de_var (pv 5)) da_nil)))))
  (dss_cons (ds_if (dt_cmp (ow_eq hr.units) (de_var (pv 4)) (de_lstR rfl rfl T.z_range rfl T.z_list (de_callB cw_len rfl T.z_len (by decide +kernel) (da_cons (de_var (pv 0)) da_nil))) (nomark _))
  (dss_one (ds_ret de_bl))
  dss_nil)
  (dss_one (ds_set (i := 1) sc_law_none_alike.nd rfl (by first | exact Or.inl rfl | exact Or.inr rfl) (de_lcR (x := ("_law_k" : Str)) (i := 6) rfl sc_law_none_alike.nd rfl T.z_range (da_cons (de_callB cw_len rfl T.z_len (by decide +kernel) (da_cons (de_var (pv 0)) da_nil)) da_nil) (blkOk_by (N := N_law_none_alike) (sc := defScope s_law_none_alike) (by decide +kernel)) (fun _ _ _ _ _ => pg_name (i := 6) sc_law_none_alike.nd rfl (by first | exact Or.inl rfl | exact Or.inr rfl)) (fun _ _ _ _ _ => dts_nil) (fun _ _ _ _ _ => (de_op ow_add (de_tup (da_cons (de_ix (de_var (pv 4)) (de_var (pv 6)) (fun _ _ => rfl)) da_nil)) (de_callTy cw_tuple rfl T.z_tuple (by decide +kernel) (da_cons (de_lc (x := ("_law_door" : Str)) (i := 7) rfl sc_law_none_alike.nd (de_call G_law_doors.1 G_law_doors.2 (hr.mono (by omega)) rfl T.m_law_doors T.F_law_doors.kp T.b_law_doors (da_cons (de_ix (de_var (pv 0)) (de_var (pv 6)) (fun _ _ => rfl)) da_nil)) (blkOk_in (N := N_law_none_alike) (sc := { kind := ScopeKind.function, names := [((".0" : Str), NameKind.local), (("_law_k" : Str), NameKind.local), (("tuple" : Str), NameKind.globalImplicit), (("_law_doors" : Str), NameKind.globalImplicit), (("_law_kinds" : Str), NameKind.cell), (("_law_rooms" : Str), NameKind.cell)], isGenerator := false, isCoroutine := false }) (by decide +kernel)) (fun _ _ _ _ _ => pg_name (i := 7) sc_law_none_alike.nd rfl (by first | exact Or.inl rfl | exact Or.inr rfl)) (fun _ _ _ _ _ => dts_nil) (fun _ _ _ _ _ => (de_ix (de_var (pv 4)) (de_var (pv 7)) (fun _ _ => rfl)))) da_nil))))))))))
  (dss_one (ds_ret (de_cmp (ow_eq hr.units) (de_lcR (x := ("_law_k" : Str)) (i := 6) rfl sc_law_none_alike.nd rfl T.z_range (da_cons (de_callB cw_len rfl T.z_len (by decide +kernel) (da_cons (de_var (pv 1)) da_nil)) da_nil) (blkOk_by (N := N_law_none_alike) (sc := defScope s_law_none_alike) (by decide +kernel)) (fun _ _ _ _ _ => pg_name (i := 6) sc_law_none_alike.nd rfl (by first | exact Or.inl rfl | exact Or.inr rfl)) (fun _ _ _ _ _ => (dts_one (dt_cmp (ow_ne hr.units) (de_lm PySem.F.plainAttrs_list PySem.F.slot_list_index PySem.F.type_list_index (mw_index (hu65_of hr)) (de_var (pv 1)) (da_cons (de_ix (de_var (pv 1)) (de_var (pv 6)) (fun _ _ => rfl)) da_nil)) (de_var (pv 6)) (nomark _)))) (fun _ _ _ _ _ => (de_var (pv 6)))) (de_lst da_nil) (nomark _))))))) read
theorem ok_law_as_met (T : Txt K mg w A) {k : Nat} {k_law_doors : Nat} {sp_law_doors : WSp} (G_law_doors : FnOk P w K mg base CX0 k_law_doors A.f_law_doors A.d_law_doors P_law_doors (LowSp K sp_law_doors) ∧ MonoSp sp_law_doors) (e_law_doors : k_law_doors ≤ k) {sp : WSp} (len : ∀ ws S Q, sp ws S Q → ws.length = 1)
    (read : ∀ ws S Q, Up Q → sp ws S Q → t_law_as_met sp_law_doors { nx := fun _ S' => Q .non S', rt := Q } (startW 4 ws) S) : FnOk P w K mg base CX0 (k + 1) A.f_law_as_met A.d_law_as_met P_law_as_met (LowSp K sp) :=
  fnW (t := t_law_as_met sp_law_doors) T.F_law_as_met sc_law_as_met len (fun cdv AA outer s H E hr => (dss_cons (ds_set (i := 1) sc_law_as_met.nd rfl (by first | exact Or.inl rfl | exact Or.inr rfl) de_int)
  (dss_cons (ds_forR1 PassesOwn.never rfl rfl T.z_range (da_cons (de_callB cw_len rfl T.z_len (by decide +kernel) (da_cons (de_var (pv 0)) da_nil)) da_nil) (dg_name (i := 2) sc_law_as_met.nd rfl (by first | exact Or.inl rfl | exact Or.inr rfl))
  (dss_cons (ds_if (dt_cmp (ow_eq hr.units) (de_var (pv 2)) (de_var (pv 1)) (nomark _))
  (dss_one (ds_ret de_bl))
  dss_nil)
  (dss_one (ds_for PassesOwn.never rfl (de_call G_law_doors.1 G_law_doors.2 (hr.mono (by omega)) rfl T.m_law_doors T.F_law_doors.kp T.b_law_doors (da_cons (de_ix (de_var (pv 0)) (de_var (pv 2)) (fun _ _ => rfl)) da_nil)) (dg_name (i := 3) sc_law_as_met.nd rfl (by first | exact Or.inl rfl | exact Or.inr rfl))
  (dss_cons (ds_if (dt_not (dt_chain ow_le ow_le de_int (de_var (pv 3)) (de_var (pv 1))))
  (dss_one (ds_ret de_bl))
  dss_nil)
  (dss_one (ds_set (i := 1) sc_law_as_met.nd rfl (by first | exact Or.inl rfl | exact Or.inr rfl) (de_callB (cw_max rfl) rfl T.z_max (by decide +kernel) (da_cons (de_var (pv 1)) (da_cons (de_op ow_add (de_var (pv 3)) de_int) da_nil))))))))))
  (dss_one (ds_ret (de_cmp (ow_eq hr.units) (de_var (pv 1)) (de_callB cw_len rfl T.z_len (by decide +kernel) (da_cons (de_var (pv 0)) da_nil)) (nomark _))))))) read
theorem ok_law_renamed (T : Txt K mg w A) {k : Nat}  {sp : WSp} (len : ∀ ws S Q, sp ws S Q → ws.length = 2)
    (read : ∀ ws S Q, Up Q → sp ws S Q → t_law_renamed  { nx := fun _ S' => Q .non S', rt := Q } (startW 8 ws) S) : FnOk P w K mg base CX0 (k + 1) A.f_law_renamed A.d_law_renamed P_law_renamed (LowSp K sp) :=
  fnW (t := t_law_renamed ) T.F_law_renamed sc_law_renamed len (fun cdv AA outer s H E hr => (dss_cons (ds_asg (de_var (pv 0)) (dg_tup rfl (dgs_cons (dg_name (i := 2) sc_law_renamed.nd rfl (by first | exact Or.inl rfl | exact Or.inr rfl)) (dgs_cons (dg_name (i := 3) sc_law_renamed.nd rfl (by first | exact Or.inl rfl | exact Or.inr rfl)) (dgs_cons (dg_name (i := 4) sc_law_renamed.nd rfl (by first | exact Or.inl rfl | exact Or.inr rfl)) (dgs_cons (dg_name (i := 5) sc_law_renamed.nd rfl (by first | exact Or.inl rfl | exact Or.inr rfl)) dgs_nil))))))
  (dss_cons (ds_set (i := 6) sc_law_renamed.nd rfl (by first | exact Or.inl rfl | exact Or.inr rfl) (de_dget2 (hu_of hr) (de_disp (dps_cons de_str de_int (dps_cons de_str de_int (dps_cons de_str de_int (dps_cons de_str de_int dps_nil))))) (de_ix (de_var (pv 3)) de_int (fun _ _ => rfl)) (de_callB cw_len rfl T.z_len (by decide +kernel) (da_cons (de_var (pv 3)) da_nil)) ⟨rfl, rfl, rfl, rfl⟩))
  (dss_cons (ds_set (i := 7) sc_law_renamed.nd rfl (by first | exact Or.inl rfl | exact Or.inr rfl) (de_op ow_sub (de_callB cw_len rfl T.z_len (by decide +kernel) (da_cons (de_var (pv 3)) da_nil)) (de_var (pv 6))))
  (dss_cons (ds_if (dt_cmp ow_notN (de_var (pv 4)) de_non (nomark _))
  (dss_one (ds_set (i := 4) sc_law_renamed.nd rfl (by first | exact Or.inl rfl | exact Or.inr rfl) (de_tup (da_cons (de_ix (de_var (pv 4)) de_int (fun _ _ => rfl)) (da_cons (de_ix (de_var (pv 1)) (de_var (pv 7)) (fun _ _ => rfl)) da_nil)))))
  dss_nil)
  (dss_one (ds_ret (de_tup (da_cons (de_var (pv 2)) (da_cons (de_op ow_add (de_slice (de_var (pv 3)) do_none (do_some (de_var (pv 6)))) (de_callTy cw_tuple rfl T.z_tuple (by decide +kernel) (da_cons (de_slice (de_var (pv 1)) do_none (do_some (de_var (pv 7)))) da_nil))) (da_cons (de_var (pv 4)) (da_cons (de_if (dt_cmp ow_isN (de_var (pv 5)) de_non (nomark _)) (de_var (pv 5)) (de_ix (de_var (pv 1)) (de_neg de_int) (fun _ _ => rfl))) da_nil)))))))))))) read
theorem ok_law_grown (T : Txt K mg w A) {k : Nat} {k_law_taken : Nat} {sp_law_taken : WSp} (G_law_taken : FnOk P w K mg base CX0 k_law_taken A.f_law_taken A.d_law_taken P_law_taken (LowSp K sp_law_taken) ∧ MonoSp sp_law_taken) (e_law_taken : k_law_taken ≤ k) {k_law_doors : Nat} {sp_law_doors : WSp} (G_law_doors : FnOk P w K mg base CX0 k_law_doors A.f_law_doors A.d_law_doors P_law_doors (LowSp K sp_law_doors) ∧ MonoSp sp_law_doors) (e_law_doors : k_law_doors ≤ k) {k_law_renamed : Nat} {sp_law_renamed : WSp} (G_law_renamed : FnOk P w K mg base CX0 k_law_renamed A.f_law_renamed A.d_law_renamed P_law_renamed (LowSp K sp_law_renamed) ∧ MonoSp sp_law_renamed) (e_law_renamed : k_law_renamed ≤ k) {sp : WSp} (len : ∀ ws S Q, sp ws S Q → ws.length = 3)
    (read : ∀ ws S Q, Up Q → sp ws S Q → t_law_grown sp_law_taken sp_law_doors sp_law_renamed { nx := fun _ S' => Q .non S', rt := Q } (startW 11 ws) S) : FnOk P w K mg base CX0 (k + 1) A.f_law_grown A.d_law_grown P_law_grown (LowSp K sp) :=
  fnW (t := t_law_grown sp_law_taken sp_law_doors sp_law_renamed) T.F_law_grown sc_law_grown len (fun cdv AA outer s H E hr => (dss_cons (ds_set (i := 3) sc_law_grown.nd rfl (by first | exact Or.inl rfl | exact Or.inr rfl) (de_lstR rfl rfl T.z_range rfl T.z_list (de_callB cw_len rfl T.z_len (by decide +kernel) (da_cons (de_var (pv 1)) da_nil))))
  (dss_cons (ds_forR1 PassesOwn.never rfl rfl T.z_range (da_cons (de_call G_law_taken.1 G_law_taken.2 (hr.mono (by omega)) rfl T.m_law_taken T.F_law_taken.kp T.b_law_taken (da_cons (de_var (pv 0)) (da_cons (de_op ow_mul (de_var (pv 2)) (de_callB cw_len rfl T.z_len (by decide +kernel) (da_cons (de_var (pv 1)) da_nil))) da_nil))) da_nil) (dg_name (i := 4) sc_law_grown.nd rfl (by first | exact Or.inl rfl | exact Or.inr rfl))
  (dss_one (ds_expr (de_lm PySem.F.plainAttrs_list PySem.F.slot_list_append PySem.F.type_list_append mw_append (de_var (pv 3)) (da_cons (de_call G_law_taken.1 G_law_taken.2 (hr.mono (by omega)) rfl T.m_law_taken T.F_law_taken.kp T.b_law_taken (da_cons (de_var (pv 0)) (da_cons (de_callB cw_len rfl T.z_len (by decide +kernel) (da_cons (de_var (pv 1)) da_nil)) da_nil))) da_nil)))))
  (dss_cons (ds_set (i := 5) sc_law_grown.nd rfl (by first | exact Or.inl rfl | exact Or.inr rfl) (de_lst da_nil))
  (dss_cons (ds_for PassesOwn.never rfl (de_var (pv 3)) (dg_name (i := 6) sc_law_grown.nd rfl (by first | exact Or.inl rfl | exact Or.inr rfl))
  (dss_cons (ds_set (i := 7) sc_law_grown.nd rfl (by first | exact Or.inl rfl | exact Or.inr rfl) (de_lst da_nil))
  (dss_cons (ds_for PassesOwn.never rfl (de_call G_law_doors.1 G_law_doors.2 (hr.mono (by omega)) rfl T.m_law_doors T.F_law_doors.kp T.b_law_doors (da_cons (de_ix (de_var (pv 1)) (de_var (pv 6)) (fun _ _ => rfl)) da_nil)) (dg_name (i := 8) sc_law_grown.nd rfl (by first | exact Or.inl rfl | exact Or.inr rfl))
  (dss_cons (ds_setLcR (x := ("_law_k" : Str)) (i := 10) (j := 9) rfl sc_law_grown.nd rfl rfl (sw_true rfl rfl rfl (by decide +kernel)) rfl T.z_range (da_cons (de_callB cw_len rfl T.z_len (by decide +kernel) (da_cons (de_var (pv 3)) da_nil)) da_nil) (blkOk_by (N := N_law_grown) (sc := defScope s_law_grown) (by decide +kernel)) (fun _ _ _ _ _ => pg_name (i := 10) sc_law_grown.nd rfl (by first | exact Or.inl rfl | exact Or.inr rfl)) (fun _ _ _ _ _ => (dts_one (dt_cmp (ow_eq hr.units) (de_ix (de_var (pv 3)) (de_var (pv 10)) (fun _ _ => rfl)) (de_var (pv 8)) (nomark _)))) (fun _ _ _ _ _ => (de_var (pv 10))))
  (dss_one (ds_expr (de_lm PySem.F.plainAttrs_list PySem.F.slot_list_append PySem.F.type_list_append mw_append (de_var (pv 7)) (da_cons (de_ix (de_var (pv 9)) (de_call G_law_taken.1 G_law_taken.2 (hr.mono (by omega)) rfl T.m_law_taken T.F_law_taken.kp T.b_law_taken (da_cons (de_var (pv 0)) (da_cons (de_callB cw_len rfl T.z_len (by decide +kernel) (da_cons (de_var (pv 9)) da_nil)) da_nil))) (fun _ _ => rfl)) da_nil))))))
  (dss_one (ds_expr (de_lm PySem.F.plainAttrs_list PySem.F.slot_list_append PySem.F.type_list_append mw_append (de_var (pv 5)) (da_cons (de_call G_law_renamed.1 G_law_renamed.2 (hr.mono (by omega)) rfl T.m_law_renamed T.F_law_renamed.kp T.b_law_renamed (da_cons (de_ix (de_var (pv 1)) (de_var (pv 6)) (fun _ _ => rfl)) (da_cons (de_var (pv 7)) da_nil))) da_nil)))))))
  (dss_one (ds_ret (de_var (pv 5))))))))) read
theorem ok_law_changed (T : Txt K mg w A) {k : Nat} {k_law_taken : Nat} {sp_law_taken : WSp} (G_law_taken : FnOk P w K mg base CX0 k_law_taken A.f_law_taken A.d_law_taken P_law_taken (LowSp K sp_law_taken) ∧ MonoSp sp_law_taken) (e_law_taken : k_law_taken ≤ k) {sp : WSp} (len : ∀ ws S Q, sp ws S Q → ws.length = 2)
    (read : ∀ ws S Q, Up Q → sp ws S Q → t_law_changed sp_law_taken { nx := fun _ S' => Q .non S', rt := Q } (startW 8 ws) S) : FnOk P w K mg base CX0 (k + 1) A.f_law_changed A.d_law_changed P_law_changed (LowSp K sp) :=
  fnW (t := t_law_changed sp_law_taken) T.F_law_changed sc_law_changed len (fun cdv AA outer s H E hr => (dss_cons (ds_set (i := 2) sc_law_changed.nd rfl (by first | exact Or.inl rfl | exact Or.inr rfl) (de_call G_law_taken.1 G_law_taken.2 (hr.mono (by omega)) rfl T.m_law_taken T.F_law_taken.kp T.b_law_taken (da_cons (de_var (pv 0)) (da_cons (de_callB cw_len rfl T.z_len (by decide +kernel) (da_cons (de_var (pv 1)) da_nil)) da_nil))))
  (dss_cons (ds_asg (de_ix (de_var (pv 1)) (de_var (pv 2)) (fun _ _ => rfl)) (dg_tup rfl (dgs_cons (dg_name (i := 3) sc_law_changed.nd rfl (by first | exact Or.inl rfl | exact Or.inr rfl)) (dgs_cons (dg_name (i := 4) sc_law_changed.nd rfl (by first | exact Or.inl rfl | exact Or.inr rfl)) (dgs_cons (dg_name (i := 5) sc_law_changed.nd rfl (by first | exact Or.inl rfl | exact Or.inr rfl)) (dgs_cons (dg_name (i := 6) sc_law_changed.nd rfl (by first | exact Or.inl rfl | exact Or.inr rfl)) dgs_nil))))))
  (dss_cons (ds_set (i := 7) sc_law_changed.nd rfl (by first | exact Or.inl rfl | exact Or.inr rfl) (de_call G_law_taken.1 G_law_taken.2 (hr.mono (by omega)) rfl T.m_law_taken T.F_law_taken.kp T.b_law_taken (da_cons (de_var (pv 0)) (da_cons de_int da_nil))))
  (dss_cons (ds_if (dt_cmp (ow_eq hr.units) (de_var (pv 7)) de_int (nomark _))
  (dss_one (ds_set (i := 3) sc_law_changed.nd rfl (by first | exact Or.inl rfl | exact Or.inr rfl) (de_op ow_add (de_var (pv 3)) (de_tup (da_cons (de_tup (da_cons de_str (da_cons (de_tup (da_cons de_str (da_cons de_int da_nil))) da_nil))) da_nil)))))
  dss_nil)
  (dss_cons (ds_if (dt_cmp (ow_eq hr.units) (de_var (pv 7)) de_int (nomark _))
  (dss_one (ds_set (i := 5) sc_law_changed.nd rfl (by first | exact Or.inl rfl | exact Or.inr rfl) de_non))
  dss_nil)
  (dss_cons (ds_if (dt_cmp (ow_eq hr.units) (de_var (pv 7)) de_int (nomark _))
  (dss_one (ds_set (i := 6) sc_law_changed.nd rfl (by first | exact Or.inl rfl | exact Or.inr rfl) de_non))
  dss_nil)
  (dss_cons (ds_if (dt_cmp (ow_eq hr.units) (de_var (pv 7)) de_int (nomark _))
  (dss_one (ds_set (i := 4) sc_law_changed.nd rfl (by first | exact Or.inl rfl | exact Or.inr rfl) (de_tup (da_cons de_str (da_cons (de_call G_law_taken.1 G_law_taken.2 (hr.mono (by omega)) rfl T.m_law_taken T.F_law_taken.kp T.b_law_taken (da_cons (de_var (pv 0)) (da_cons (de_callB cw_len rfl T.z_len (by decide +kernel) (da_cons (de_var (pv 1)) da_nil)) da_nil))) da_nil)))))
  dss_nil)
  (dss_one (ds_ret (de_op ow_add (de_op ow_add (de_slice (de_var (pv 1)) do_none (do_some (de_var (pv 2)))) (de_lst (da_cons (de_tup (da_cons (de_var (pv 3)) (da_cons (de_var (pv 4)) (da_cons (de_var (pv 5)) (da_cons (de_var (pv 6)) da_nil))))) da_nil))) (de_slice (de_var (pv 1)) (do_some (de_op ow_add (de_var (pv 2)) de_int)) do_none)))))))))))) read
theorem ok_law_chain (T : Txt K mg w A) {k : Nat} {k_law_taken : Nat} {sp_law_taken : WSp} (G_law_taken : FnOk P w K mg base CX0 k_law_taken A.f_law_taken A.d_law_taken P_law_taken (LowSp K sp_law_taken) ∧ MonoSp sp_law_taken) (e_law_taken : k_law_taken ≤ k) {sp : WSp} (len : ∀ ws S Q, sp ws S Q → ws.length = 1)
    (read : ∀ ws S Q, Up Q → sp ws S Q → t_law_chain sp_law_taken { nx := fun _ S' => Q .non S', rt := Q } (startW 5 ws) S) : FnOk P w K mg base CX0 (k + 1) A.f_law_chain A.d_law_chain P_law_chain (LowSp K sp) :=
  fnW (t := t_law_chain sp_law_taken) T.F_law_chain sc_law_chain len (fun cdv AA outer s H E hr => (dss_cons (ds_set (i := 1) sc_law_chain.nd rfl (by first | exact Or.inl rfl | exact Or.inr rfl) (de_op ow_add de_int (de_call G_law_taken.1 G_law_taken.2 (hr.mono (by omega)) rfl T.m_law_taken T.F_law_taken.kp T.b_law_taken (da_cons (de_var (pv 0)) (da_cons de_int da_nil)))))
  (dss_cons (ds_set (i := 2) sc_law_chain.nd rfl (by first | exact Or.inl rfl | exact Or.inr rfl) (de_call G_law_taken.1 G_law_taken.2 (hr.mono (by omega)) rfl T.m_law_taken T.F_law_taken.kp T.b_law_taken (da_cons (de_var (pv 0)) (da_cons (de_var (pv 1)) da_nil))))
  (dss_cons (ds_set (i := 3) sc_law_chain.nd rfl (by first | exact Or.inl rfl | exact Or.inr rfl) (de_lst da_nil))
  (dss_cons (ds_forR1 PassesOwn.never rfl rfl T.z_range (da_cons (de_var (pv 1)) da_nil) (dg_name (i := 4) sc_law_chain.nd rfl (by first | exact Or.inl rfl | exact Or.inr rfl))
  (dss_one (ds_expr (de_lm PySem.F.plainAttrs_list PySem.F.slot_list_append PySem.F.type_list_append mw_append (de_var (pv 3)) (da_cons (de_tup (da_cons (de_tup (da_cons (de_tup (da_cons de_str (da_cons (de_tup (da_cons de_str (da_cons (de_op ow_add de_int (de_callTy cw_int rfl T.z_int (by decide +kernel) (da_cons (de_cmp (ow_eq hr.units) (de_var (pv 4)) (de_var (pv 2)) (nomark _)) da_nil))) da_nil))) da_nil))) da_nil)) (da_cons (de_tup (da_cons de_str (da_cons (de_op ow_add (de_var (pv 4)) de_int) da_nil))) (da_cons de_non (da_cons de_non da_nil))))) da_nil)))))
  (dss_one (ds_ret (de_op ow_add (de_var (pv 3)) (de_lst (da_cons (de_tup (da_cons (de_tup da_nil) (da_cons (de_tup (da_cons de_str (da_cons (de_tup (da_cons de_str (da_cons de_int da_nil))) da_nil))) (da_cons de_non (da_cons de_non da_nil))))) da_nil)))))))))) read
theorem ok_law_stands_for (T : Txt K mg w A) {k : Nat} {k_law_doors : Nat} {sp_law_doors : WSp} (G_law_doors : FnOk P w K mg base CX0 k_law_doors A.f_law_doors A.d_law_doors P_law_doors (LowSp K sp_law_doors) ∧ MonoSp sp_law_doors) (e_law_doors : k_law_doors ≤ k) {k_law_shape : Nat} {sp_law_shape : WSp} (G_law_shape : FnOk P w K mg base CX0 k_law_shape A.f_law_shape A.d_law_shape P_law_shape (LowSp K sp_law_shape) ∧ MonoSp sp_law_shape) (e_law_shape : k_law_shape ≤ k) {sp : WSp} (len : ∀ ws S Q, sp ws S Q → ws.length = 2)
    (read : ∀ ws S Q, Up Q → sp ws S Q → t_law_stands_for sp_law_doors sp_law_shape { nx := fun _ S' => Q .non S', rt := Q } (startW 10 ws) S) : FnOk P w K mg base CX0 (k + 1) A.f_law_stands_for A.d_law_stands_for P_law_stands_for (LowSp K sp) :=
  fnW (t := t_law_stands_for sp_law_doors sp_law_shape) T.F_law_stands_for sc_law_stands_for len (fun cdv AA outer s H E hr => (dss_cons (ds_set (i := 2) sc_law_stands_for.nd rfl (by first | exact Or.inl rfl | exact Or.inr rfl) (de_disp (dps_cons de_int de_int dps_nil)))
  (dss_cons (ds_set (i := 3) sc_law_stands_for.nd rfl (by first | exact Or.inl rfl | exact Or.inr rfl) (de_lst (da_cons de_int da_nil)))
  (dss_cons (ds_while PassesOwn.never (dt_cmp (ow_ne hr.units) (de_var (pv 3)) (de_lst da_nil) (nomark _))
  (dss_cons (ds_set (i := 4) sc_law_stands_for.nd rfl (by first | exact Or.inl rfl | exact Or.inr rfl) (de_lm0 PySem.F.plainAttrs_list PySem.F.slot_list_pop PySem.F.type_list_pop mw_pop (de_var (pv 3))))
  (dss_cons (by first | exact ds_par (i := 5) (j := 6) rfl sc_law_stands_for.nd rfl rfl (by decide) rfl rfl (da_cons (de_ix (de_var (pv 0)) (de_var (pv 4)) (fun _ _ => rfl)) (da_cons (de_ix (de_var (pv 1)) (de_dget (hu_of hr) (de_var (pv 2)) (de_var (pv 4))) (fun _ _ => rfl)) da_nil)) | exact ds_asg (de_tup (da_cons (de_ix (de_var (pv 0)) (de_var (pv 4)) (fun _ _ => rfl)) (da_cons (de_ix (de_var (pv 1)) (de_dget (hu_of hr) (de_var (pv 2)) (de_var (pv 4))) (fun _ _ => rfl)) da_nil))) (dg_tup rfl (dgs_cons (dg_name (i := 5) sc_law_stands_for.nd rfl (by first | exact Or.inl rfl | exact Or.inr rfl)) (dgs_cons (dg_name (i := 6) sc_law_stands_for.nd rfl (by first | exact Or.inl rfl | exact Or.inr rfl)) dgs_nil))))
  (dss_cons (ds_set (i := 7) sc_law_stands_for.nd rfl (by first | exact Or.inl rfl | exact Or.inr rfl) (de_call G_law_doors.1 G_law_doors.2 (hr.mono (by omega)) rfl T.m_law_doors T.F_law_doors.kp T.b_law_doors (da_cons (de_var (pv 6)) da_nil)))
  (dss_cons (ds_if (DW.dt (dw_or (dt_cmp (ow_ne hr.units) (de_call G_law_shape.1 G_law_shape.2 (hr.mono (by omega)) rfl T.m_law_shape T.F_law_shape.kp T.b_law_shape (da_cons (de_var (pv 5)) da_nil)) (de_call G_law_shape.1 G_law_shape.2 (hr.mono (by omega)) rfl T.m_law_shape T.F_law_shape.kp T.b_law_shape (da_cons (de_var (pv 6)) da_nil)) (nomark _)) (dw_or1 (dt_cmp (ow_ne hr.units) (de_lc (x := ("_law_to" : Str)) (i := 8) rfl sc_law_stands_for.nd (de_var (pv 7)) (blkOk_by (N := N_law_stands_for) (sc := defScope s_law_stands_for) (by decide +kernel)) (fun _ _ _ _ _ => pg_name (i := 8) sc_law_stands_for.nd rfl (by first | exact Or.inl rfl | exact Or.inr rfl)) (fun _ _ _ _ _ => (dts_one (dt_not (dt_chain ow_le ow_lt de_int (de_var (pv 8)) (de_callB cw_len rfl T.z_len (by decide +kernel) (da_cons (de_var (pv 1)) da_nil)))))) (fun _ _ _ _ _ => (de_var (pv 8)))) (de_lst da_nil) (nomark _)))))
  (dss_one (ds_ret de_bl))
  dss_nil)
  (dss_one (ds_forZip2 PassesOwn.never rfl rfl T.z_zip (da_cons (de_call G_law_doors.1 G_law_doors.2 (hr.mono (by omega)) rfl T.m_law_doors T.F_law_doors.kp T.b_law_doors (da_cons (de_var (pv 5)) da_nil)) (da_cons (de_var (pv 7)) da_nil)) (dg_tup rfl (dgs_cons (dg_name (i := 9) sc_law_stands_for.nd rfl (by first | exact Or.inl rfl | exact Or.inr rfl)) (dgs_cons (dg_name (i := 8) sc_law_stands_for.nd rfl (by first | exact Or.inl rfl | exact Or.inr rfl)) dgs_nil)))
  (dss_cons (ds_if (dt_cmp (ow_notindk (hu_of hr)) (de_var (pv 9)) (de_var (pv 2)) (by with_unfolding_all rfl))
  (dss_cons (ds_dput (hu_of hr) (de_var (pv 2)) (de_var (pv 9)) (de_var (pv 8)))
  (dss_one (ds_expr (de_lm PySem.F.plainAttrs_list PySem.F.slot_list_append PySem.F.type_list_append mw_append (de_var (pv 3)) (da_cons (de_var (pv 9)) da_nil)))))
  dss_nil)
  (dss_one (ds_if (dt_cmp (ow_ne hr.units) (de_dget (hu_of hr) (de_var (pv 2)) (de_var (pv 9))) (de_var (pv 8)) (nomark _))
  (dss_one (ds_ret de_bl))
  dss_nil))))))))))
  (dss_one (ds_ret de_bl)))))) read
theorem ok_law_is_kept (T : Txt K mg w A) {k : Nat} {k_joined : Nat} {sp_joined : WSp} (G_joined : FnOk P w K mg base CX0 k_joined A.f_joined A.d_joined P_joined (LowSp K sp_joined) ∧ MonoSp sp_joined) (e_joined : k_joined ≤ k) {sp : WSp} (len : ∀ ws S Q, sp ws S Q → ws.length = 0)
    (read : ∀ ws S Q, Up Q → sp ws S Q → t_law_is_kept sp_joined { nx := fun _ S' => Q .non S', rt := Q } (startW 4 ws) S) : FnOk P w K mg base CX0 (k + 1) A.f_law_is_kept A.d_law_is_kept P_law_is_kept (LowSp K sp) :=
  fnW (t := t_law_is_kept sp_joined) T.F_law_is_kept sc_law_is_kept len (fun cdv AA outer s H E hr => (dss_cons (ds_asg (de_tup (da_cons (de_tup (da_cons de_str (da_cons (de_tup (da_cons de_str (da_cons de_int da_nil))) (da_cons de_int (da_cons de_int da_nil))))) (da_cons (de_tup (da_cons de_str (da_cons (de_tup (da_cons de_str (da_cons de_int da_nil))) da_nil))) (da_cons (de_tup (da_cons de_str (da_cons (de_tup (da_cons de_str (da_cons de_int da_nil))) da_nil))) da_nil)))) (dg_tup rfl (dgs_cons (dg_name (i := 0) sc_law_is_kept.nd rfl (by first | exact Or.inl rfl | exact Or.inr rfl)) (dgs_cons (dg_name (i := 1) sc_law_is_kept.nd rfl (by first | exact Or.inl rfl | exact Or.inr rfl)) (dgs_cons (dg_name (i := 2) sc_law_is_kept.nd rfl (by first | exact Or.inl rfl | exact Or.inr rfl)) dgs_nil)))))
  (dss_cons (ds_set (i := 3) sc_law_is_kept.nd rfl (by first | exact Or.inl rfl | exact Or.inr rfl) (de_lst (da_cons (de_tup (da_cons (de_tup da_nil) (da_cons (de_tup (da_cons de_str (da_cons (de_tup (da_cons de_str (da_cons de_int da_nil))) (da_cons de_int (da_cons de_int da_nil))))) (da_cons de_non (da_cons de_non da_nil))))) (da_cons (de_tup (da_cons (de_tup da_nil) (da_cons (de_var (pv 0)) (da_cons (de_tup (da_cons de_non (da_cons de_int da_nil))) (da_cons de_int da_nil))))) (da_cons (de_tup (da_cons (de_tup da_nil) (da_cons (de_var (pv 0)) (da_cons (de_tup (da_cons de_non (da_cons de_int da_nil))) (da_cons de_int da_nil))))) da_nil)))))
  (dss_cons (ds_set (i := 3) sc_law_is_kept.nd rfl (by first | exact Or.inl rfl | exact Or.inr rfl) (de_op ow_add (de_var (pv 3)) (de_lst (da_cons (de_tup (da_cons (de_tup da_nil) (da_cons (de_var (pv 1)) (da_cons de_non (da_cons de_non da_nil))))) (da_cons (de_tup (da_cons (de_tup da_nil) (da_cons (de_var (pv 2)) (da_cons de_non (da_cons de_non da_nil))))) da_nil)))))
  (dss_one (ds_ret (de_cmp (ow_eq hr.units) (de_call G_joined.1 G_joined.2 (hr.mono (by omega)) rfl T.m_joined T.F_joined.kp T.b_joined (da_cons (de_tup (da_cons de_int (da_cons de_int (da_cons (de_callTy cw_list rfl T.z_list (by decide +kernel) (da_cons (de_var (pv 3)) da_nil)) da_nil)))) da_nil)) (de_tup (da_cons de_int (da_cons de_int (da_cons (de_var (pv 3)) da_nil)))) (nomark _)))))))) read
theorem ok_law (T : Txt K mg w A) {k : Nat} {k_law_is_kept : Nat} {sp_law_is_kept : WSp} (G_law_is_kept : FnOk P w K mg base CX0 k_law_is_kept A.f_law_is_kept A.d_law_is_kept P_law_is_kept (LowSp K sp_law_is_kept) ∧ MonoSp sp_law_is_kept) (e_law_is_kept : k_law_is_kept ≤ k) {k_law_typed : Nat} {sp_law_typed : WSp} (G_law_typed : FnOk P w K mg base CX0 k_law_typed A.f_law_typed A.d_law_typed P_law_typed (LowSp K sp_law_typed) ∧ MonoSp sp_law_typed) (e_law_typed : k_law_typed ≤ k) {k_law_grown : Nat} {sp_law_grown : WSp} (G_law_grown : FnOk P w K mg base CX0 k_law_grown A.f_law_grown A.d_law_grown P_law_grown (LowSp K sp_law_grown) ∧ MonoSp sp_law_grown) (e_law_grown : k_law_grown ≤ k) {k_law_taken : Nat} {sp_law_taken : WSp} (G_law_taken : FnOk P w K mg base CX0 k_law_taken A.f_law_taken A.d_law_taken P_law_taken (LowSp K sp_law_taken) ∧ MonoSp sp_law_taken) (e_law_taken : k_law_taken ≤ k) {k_law_chain : Nat} {sp_law_chain : WSp} (G_law_chain : FnOk P w K mg base CX0 k_law_chain A.f_law_chain A.d_law_chain P_law_chain (LowSp K sp_law_chain) ∧ MonoSp sp_law_chain) (e_law_chain : k_law_chain ≤ k) {k_law_changed : Nat} {sp_law_changed : WSp} (G_law_changed : FnOk P w K mg base CX0 k_law_changed A.f_law_changed A.d_law_changed P_law_changed (LowSp K sp_law_changed) ∧ MonoSp sp_law_changed) (e_law_changed : k_law_changed ≤ k) {k_joined : Nat} {sp_joined : WSp} (G_joined : FnOk P w K mg base CX0 k_joined A.f_joined A.d_joined P_joined (LowSp K sp_joined) ∧ MonoSp sp_joined) (e_joined : k_joined ≤ k) {k_law_stands_for : Nat} {sp_law_stands_for : WSp} (G_law_stands_for : FnOk P w K mg base CX0 k_law_stands_for A.f_law_stands_for A.d_law_stands_for P_law_stands_for (LowSp K sp_law_stands_for) ∧ MonoSp sp_law_stands_for) (e_law_stands_for : k_law_stands_for ≤ k) {k_law_none_alike : Nat} {sp_law_none_alike : WSp} (G_law_none_alike : FnOk P w K mg base CX0 k_law_none_alike A.f_law_none_alike A.d_law_none_alike P_law_none_alike (LowSp K sp_law_none_alike) ∧ MonoSp sp_law_none_alike) (e_law_none_alike : k_law_none_alike ≤ k) {k_law_as_met : Nat} {sp_law_as_met : WSp} (G_law_as_met : FnOk P w K mg base CX0 k_law_as_met A.f_law_as_met A.d_law_as_met P_law_as_met (LowSp K sp_law_as_met) ∧ MonoSp sp_law_as_met) (e_law_as_met : k_law_as_met ≤ k) {sp : WSp} (len : ∀ ws S Q, sp ws S Q → ws.length = 1)
    (read : ∀ ws S Q, Up Q → sp ws S Q → t_law sp_law_is_kept sp_law_typed sp_law_grown sp_law_taken sp_law_chain sp_law_changed sp_joined sp_law_stands_for sp_law_none_alike sp_law_as_met { nx := fun _ S' => Q .non S', rt := Q } (startW 10 ws) S) : FnOk P w K mg base CX0 (k + 1) A.f_law A.d_law P_law (LowSp K sp) :=
  fnW (t := t_law sp_law_is_kept sp_law_typed sp_law_grown sp_law_taken sp_law_chain sp_law_changed sp_joined sp_law_stands_for sp_law_none_alike sp_law_as_met) T.F_law sc_law len (fun cdv AA outer s H E hr => (dss_cons (ds_set (i := 1) sc_law.nd rfl (by first | exact Or.inl rfl | exact Or.inr rfl) (de_lst (da_cons (de_var (pv 0)) (da_cons de_int (da_cons de_int (da_cons de_int da_nil))))))
  (dss_cons (ds_if (dt_not (dt_val (de_call0 G_law_is_kept.1 G_law_is_kept.2 (hr.mono (by omega)) rfl T.m_law_is_kept T.F_law_is_kept.kp T.b_law_is_kept)))
  (dss_one (ds_ret de_bl))
  dss_nil)
  (dss_cons (ds_forR1 PassesOwn.never rfl rfl T.z_range (da_cons de_int da_nil) (dg_name (i := 2) sc_law.nd rfl (by first | exact Or.inl rfl | exact Or.inr rfl))
  (dss_cons (ds_asg (de_ix (de_call G_law_typed.1 G_law_typed.2 (hr.mono (by omega)) rfl T.m_law_typed T.F_law_typed.kp T.b_law_typed (da_cons (de_var (pv 1)) (da_cons de_int da_nil))) de_int (fun _ _ => rfl)) (dg_tup rfl (dgs_cons (dg_name (i := 3) sc_law.nd rfl (by first | exact Or.inl rfl | exact Or.inr rfl)) (dgs_cons (dg_name (i := 4) sc_law.nd rfl (by first | exact Or.inl rfl | exact Or.inr rfl)) (dgs_cons (dg_name (i := 5) sc_law.nd rfl (by first | exact Or.inl rfl | exact Or.inr rfl)) dgs_nil)))))
  (dss_cons (ds_set (i := 5) sc_law.nd rfl (by first | exact Or.inl rfl | exact Or.inr rfl) (de_call G_law_grown.1 G_law_grown.2 (hr.mono (by omega)) rfl T.m_law_grown T.F_law_grown.kp T.b_law_grown (da_cons (de_var (pv 1)) (da_cons (de_var (pv 5)) (da_cons de_int da_nil)))))
  (dss_cons (ds_if (dt_cmp (ow_eq hr.units) (de_call G_law_taken.1 G_law_taken.2 (hr.mono (by omega)) rfl T.m_law_taken T.F_law_taken.kp T.b_law_taken (da_cons (de_var (pv 1)) (da_cons de_int da_nil))) de_int (nomark _))
  (dss_one (ds_set (i := 5) sc_law.nd rfl (by first | exact Or.inl rfl | exact Or.inr rfl) (de_call G_law_chain.1 G_law_chain.2 (hr.mono (by omega)) rfl T.m_law_chain T.F_law_chain.kp T.b_law_chain (da_cons (de_var (pv 1)) da_nil))))
  dss_nil)
  (dss_cons (ds_if (dt_cmp (ow_eq hr.units) (de_call G_law_taken.1 G_law_taken.2 (hr.mono (by omega)) rfl T.m_law_taken T.F_law_taken.kp T.b_law_taken (da_cons (de_var (pv 1)) (da_cons de_int da_nil))) de_int (nomark _))
  (dss_one (ds_set (i := 5) sc_law.nd rfl (by first | exact Or.inl rfl | exact Or.inr rfl) (de_call G_law_changed.1 G_law_changed.2 (hr.mono (by omega)) rfl T.m_law_changed T.F_law_changed.kp T.b_law_changed (da_cons (de_var (pv 1)) (da_cons (de_var (pv 5)) da_nil)))))
  dss_nil)
  (dss_cons (ds_set (i := 6) sc_law.nd rfl (by first | exact Or.inl rfl | exact Or.inr rfl) (de_callTy cw_list rfl T.z_list (by decide +kernel) (da_cons (de_var (pv 5)) da_nil)))
  (dss_cons (ds_set (i := 7) sc_law.nd rfl (by first | exact Or.inl rfl | exact Or.inr rfl) (de_call G_joined.1 G_joined.2 (hr.mono (by omega)) rfl T.m_joined T.F_joined.kp T.b_joined (da_cons (de_tup (da_cons (de_var (pv 3)) (da_cons (de_var (pv 4)) (da_cons (de_var (pv 6)) da_nil)))) da_nil)))
  (dss_cons (ds_if (DW.dt (dw_or (dt_not (dt_val (de_callB cw_isi rfl T.z_isinstance (by decide +kernel) (da_cons (de_var (pv 7)) (da_cons (de_ty rfl T.z_tuple (by decide +kernel)) da_nil))))) (dw_or (dt_cmp (ow_ne hr.units) (de_slice (de_var (pv 7)) do_none (do_some de_int)) (de_tup (da_cons (de_var (pv 3)) (da_cons (de_var (pv 4)) da_nil))) (nomark _)) (dw_or1 (dt_not (dt_val (de_callB cw_isi rfl T.z_isinstance (by decide +kernel) (da_cons (de_ix (de_var (pv 7)) de_int (fun _ _ => rfl)) (da_cons (de_ty rfl T.z_list (by decide +kernel)) da_nil)))))))))
  (dss_one (ds_ret de_bl))
  dss_nil)
  (dss_cons (ds_set (i := 8) sc_law.nd rfl (by first | exact Or.inl rfl | exact Or.inr rfl) (de_callTy cw_list rfl T.z_list (by decide +kernel) (da_cons (de_ix (de_var (pv 7)) de_int (fun _ _ => rfl)) da_nil)))
  (dss_cons (ds_if (DW.dt (dw_or (dt_cmp (ow_ne hr.units) (de_var (pv 6)) (de_var (pv 5)) (nomark _)) (dw_or (dt_cmp (ow_eq hr.units) (de_var (pv 8)) (de_lst da_nil) (nomark _)) (dw_or1 (dt_cmp (ow_ne hr.units) (de_lc (x := ("_law_room" : Str)) (i := 9) rfl sc_law.nd (de_var (pv 8)) (blkOk_by (N := N_law) (sc := defScope s_law) (by decide +kernel)) (fun _ _ _ _ _ => pg_name (i := 9) sc_law.nd rfl (by first | exact Or.inl rfl | exact Or.inr rfl)) (fun _ _ _ _ _ => (dts_one (dt_not (dt_val (de_callB cw_isi rfl T.z_isinstance (by decide +kernel) (da_cons (de_var (pv 9)) (da_cons (de_ty rfl T.z_tuple (by decide +kernel)) da_nil))))))) (fun _ _ _ _ _ => (de_var (pv 9)))) (de_lst da_nil) (nomark _))))))
  (dss_one (ds_ret de_bl))
  dss_nil)
  (dss_cons (ds_if (DW.dt (dw_or (dt_not (dt_val (de_call G_law_stands_for.1 G_law_stands_for.2 (hr.mono (by omega)) rfl T.m_law_stands_for T.F_law_stands_for.kp T.b_law_stands_for (da_cons (de_var (pv 5)) (da_cons (de_var (pv 8)) da_nil))))) (dw_or (dt_not (dt_val (de_call G_law_none_alike.1 G_law_none_alike.2 (hr.mono (by omega)) rfl T.m_law_none_alike T.F_law_none_alike.kp T.b_law_none_alike (da_cons (de_var (pv 8)) da_nil)))) (dw_or1 (dt_not (dt_val (de_call G_law_as_met.1 G_law_as_met.2 (hr.mono (by omega)) rfl T.m_law_as_met T.F_law_as_met.kp T.b_law_as_met (da_cons (de_var (pv 8)) da_nil))))))))
  (dss_one (ds_ret de_bl))
  dss_nil)
  (dss_cons (ds_if (dt_cmp (ow_ne hr.units) (de_call G_joined.1 G_joined.2 (hr.mono (by omega)) rfl T.m_joined T.F_joined.kp T.b_joined (da_cons (de_tup (da_cons (de_var (pv 3)) (da_cons (de_var (pv 4)) (da_cons (de_callTy cw_list rfl T.z_list (by decide +kernel) (da_cons (de_var (pv 8)) da_nil)) da_nil)))) da_nil)) (de_tup (da_cons (de_var (pv 3)) (da_cons (de_var (pv 4)) (da_cons (de_var (pv 8)) da_nil)))) (nomark _))
  (dss_one (ds_ret de_bl))
  dss_nil)
  (dss_cons (ds_expr (de_lm0 PySem.F.plainAttrs_list PySem.F.slot_list_clear PySem.F.type_list_clear mw_clear (de_ix (de_var (pv 7)) de_int (fun _ _ => rfl))))
  (dss_one (ds_if (DW.dt (dw_or (dt_cmp (ow_ne hr.units) (de_call G_joined.1 G_joined.2 (hr.mono (by omega)) rfl T.m_joined T.F_joined.kp T.b_joined (da_cons (de_tup (da_cons (de_var (pv 3)) (da_cons (de_var (pv 4)) (da_cons (de_var (pv 6)) da_nil)))) da_nil)) (de_tup (da_cons (de_var (pv 3)) (da_cons (de_var (pv 4)) (da_cons (de_var (pv 8)) da_nil)))) (nomark _)) (dw_or1 (dt_cmp (ow_ne hr.units) (de_var (pv 6)) (de_var (pv 5)) (nomark _)))))
  (dss_one (ds_ret de_bl))
  dss_nil)))))))))))))))
  (dss_one (ds_ret de_bl)))))) read
end
end WL.K10
namespace WL.K10
open PySem L2
open K11 (sp_law_doors sp_law_typed sp_law_grown sp_joined sp_law_renamed sp_law_typed_room t_law_doors l_law_doors_1 r_law_doors t_law_typed l_law_typed_1 l_law_typed_2 r_law_typed t_law_grown l_law_grown_1 l_law_grown_2 l_law_grown_3 r_law_grown t_law_renamed l_law_renamed_1 r_law_renamed t_law_typed_room l_law_typed_room_1 l_law_typed_room_2 r_law_typed_room t_joined r_joined)
section
variable {P : Program} {w : World} {K : PySem.W.Frag} {mg : Str → Option Value} {base : Heap} {A : Adr}
theorem g_law_taken (T : Txt K mg w A) : FnOk P w K mg base CX0 1 A.f_law_taken A.d_law_taken P_law_taken (LowSp K sp_law_taken) := ok_law_taken T le_law_taken r_law_taken
theorem g_law_reckoning (T : Txt K mg w A) : ∀ n, FnOk P w K mg base CX0 (n + 2) A.f_law_reckoning A.d_law_reckoning P_law_reckoning (LowSp K (sp_law_reckoning n))
  | 0 => fn_no no_law_reckoning
  | n + 1 => ok_law_reckoning T ⟨g_law_taken T, mo_law_taken⟩ (by omega) ⟨g_law_reckoning T n, mo_law_reckoning⟩ (by omega) le_law_reckoning (r_law_reckoning n)
theorem g_doors (T : Txt K mg w A) : FnOk P w K mg base CX0 1 A.f_doors A.d_doors P_doors (LowSp K sp_doors) := ok_doors T  le_doors (r_doors A.a_DOORS)
theorem g_renamed (T : Txt K mg w A) : FnOk P w K mg base CX0 1 A.f_renamed A.d_renamed P_renamed (LowSp K sp_renamed) := ok_renamed T  le_renamed (r_renamed A.a_DOORS)
theorem g_kinds_of (T : Txt K mg w A) : FnOk P w K mg base CX0 2 A.f_kinds_of A.d_kinds_of P_kinds_of (LowSp K sp_kinds_of) := ok_kinds_of T ⟨g_renamed T, mo_renamed⟩ (by omega) ⟨g_doors T, mo_doors⟩ (by omega) le_kinds_of (r_kinds_of (PySem.NestedKey.hash w))
theorem g_tidied (T : Txt K mg w A) : FnOk P w K mg base CX0 3 A.f_tidied A.d_tidied P_tidied (LowSp K sp_tidied) := ok_tidied T ⟨g_kinds_of T, mo_kinds_of⟩ (by omega) ⟨g_doors T, mo_doors⟩ (by omega) ⟨g_renamed T, mo_renamed⟩ (by omega) le_tidied r_tidied
theorem g_joined (T : Txt K mg w A) : FnOk P w K mg base CX0 4 A.f_joined A.d_joined P_joined (LowSp K sp_joined) := ok_joined T ⟨g_tidied T, mo_tidied⟩ (by omega) le_joined r_joined
theorem g_law_typed_room (T : Txt K mg w A) : FnOk P w K mg base CX0 7 A.f_law_typed_room A.d_law_typed_room P_law_typed_room (LowSp K sp_law_typed_room) := ok_law_typed_room T ⟨g_law_reckoning T 4, mo_law_reckoning⟩ (by omega) ⟨g_law_taken T, mo_law_taken⟩ (by omega) le_law_typed_room r_law_typed_room
theorem g_law_typed (T : Txt K mg w A) : FnOk P w K mg base CX0 8 A.f_law_typed A.d_law_typed P_law_typed (LowSp K sp_law_typed) := ok_law_typed T ⟨g_law_taken T, mo_law_taken⟩ (by omega) ⟨g_law_typed_room T, mo_law_typed_room⟩ (by omega) le_law_typed r_law_typed
theorem g_law_doors (T : Txt K mg w A) : FnOk P w K mg base CX0 1 A.f_law_doors A.d_law_doors P_law_doors (LowSp K sp_law_doors) := ok_law_doors T  le_law_doors r_law_doors
theorem g_law_shape (T : Txt K mg w A) : FnOk P w K mg base CX0 1 A.f_law_shape A.d_law_shape P_law_shape (LowSp K sp_law_shape) := ok_law_shape T  le_law_shape r_law_shape
theorem g_law_none_alike (T : Txt K mg w A) : FnOk P w K mg base CX0 2 A.f_law_none_alike A.d_law_none_alike P_law_none_alike (LowSp K sp_law_none_alike) := ok_law_none_alike T ⟨g_law_shape T, mo_law_shape⟩ (by omega) ⟨g_law_doors T, mo_law_doors⟩ (by omega) le_law_none_alike r_law_none_alike
theorem g_law_as_met (T : Txt K mg w A) : FnOk P w K mg base CX0 2 A.f_law_as_met A.d_law_as_met P_law_as_met (LowSp K sp_law_as_met) := ok_law_as_met T ⟨g_law_doors T, mo_law_doors⟩ (by omega) le_law_as_met r_law_as_met
theorem g_law_renamed (T : Txt K mg w A) : FnOk P w K mg base CX0 1 A.f_law_renamed A.d_law_renamed P_law_renamed (LowSp K sp_law_renamed) := ok_law_renamed T  le_law_renamed r_law_renamed
theorem g_law_grown (T : Txt K mg w A) : FnOk P w K mg base CX0 2 A.f_law_grown A.d_law_grown P_law_grown (LowSp K sp_law_grown) := ok_law_grown T ⟨g_law_taken T, mo_law_taken⟩ (by omega) ⟨g_law_doors T, mo_law_doors⟩ (by omega) ⟨g_law_renamed T, mo_law_renamed⟩ (by omega) le_law_grown r_law_grown
theorem g_law_changed (T : Txt K mg w A) : FnOk P w K mg base CX0 2 A.f_law_changed A.d_law_changed P_law_changed (LowSp K sp_law_changed) := ok_law_changed T ⟨g_law_taken T, mo_law_taken⟩ (by omega) le_law_changed r_law_changed
theorem g_law_chain (T : Txt K mg w A) : FnOk P w K mg base CX0 2 A.f_law_chain A.d_law_chain P_law_chain (LowSp K sp_law_chain) := ok_law_chain T ⟨g_law_taken T, mo_law_taken⟩ (by omega) le_law_chain r_law_chain
theorem g_law_stands_for (T : Txt K mg w A) : FnOk P w K mg base CX0 2 A.f_law_stands_for A.d_law_stands_for P_law_stands_for (LowSp K sp_law_stands_for) := ok_law_stands_for T ⟨g_law_doors T, mo_law_doors⟩ (by omega) ⟨g_law_shape T, mo_law_shape⟩ (by omega) le_law_stands_for r_law_stands_for
theorem g_law_is_kept (T : Txt K mg w A) : FnOk P w K mg base CX0 5 A.f_law_is_kept A.d_law_is_kept P_law_is_kept (LowSp K sp_law_is_kept) := ok_law_is_kept T ⟨g_joined T, mo_joined⟩ (by omega) le_law_is_kept r_law_is_kept
theorem g_law (T : Txt K mg w A) : FnOk P w K mg base CX0 130 A.f_law A.d_law P_law (LowSp K sp_law) := ok_law T ⟨g_law_is_kept T, mo_law_is_kept⟩ (by omega) ⟨g_law_typed T, mo_law_typed⟩ (by omega) ⟨g_law_grown T, mo_law_grown⟩ (by omega) ⟨g_law_taken T, mo_law_taken⟩ (by omega) ⟨g_law_chain T, mo_law_chain⟩ (by omega) ⟨g_law_changed T, mo_law_changed⟩ (by omega) ⟨g_joined T, mo_joined⟩ (by omega) ⟨g_law_stands_for T, mo_law_stands_for⟩ (by omega) ⟨g_law_none_alike T, mo_law_none_alike⟩ (by omega) ⟨g_law_as_met T, mo_law_as_met⟩ (by omega) le_law r_law
end
end WL.K10
namespace WL.K10
open PySem L2
theorem of_len0 {α : Type} {P : List α → Prop} (h : P []) : ∀ us : List α, us.length = 0 → P us
  | [], _ => h
theorem of_len1 {α : Type} {P : List α → Prop} (h : ∀ a0 : α, P [a0]) : ∀ us : List α, us.length = 1 → P us
  | [a0], _ => h a0
theorem of_len2 {α : Type} {P : List α → Prop} (h : ∀ a0 a1 : α, P [a0, a1]) : ∀ us : List α, us.length = 2 → P us
  | [a0, a1], _ => h a0 a1
theorem of_len3 {α : Type} {P : List α → Prop} (h : ∀ a0 a1 a2 : α, P [a0, a1, a2]) : ∀ us : List α, us.length = 3 → P us
  | [a0, a1, a2], _ => h a0 a1 a2
theorem of_len4 {α : Type} {P : List α → Prop} (h : ∀ a0 a1 a2 a3 : α, P [a0, a1, a2, a3]) : ∀ us : List α, us.length = 4 → P us
  | [a0, a1, a2, a3], _ => h a0 a1 a2 a3
theorem of_len5 {α : Type} {P : List α → Prop} (h : ∀ a0 a1 a2 a3 a4 : α, P [a0, a1, a2, a3, a4]) : ∀ us : List α, us.length = 5 → P us
  | [a0, a1, a2, a3, a4], _ => h a0 a1 a2 a3 a4
theorem all_mk {l : PySem.W.OpenLaw} {w : World} {K : PySem.W.Frag} {h : Heap} {mg : Str → Option Value} {fa : Addr} (X : K.In h) (G : h.Ns mainGlobals mg) (hfa : mg "law" = some (.ref fa))
    {f_doors f_renamed f_kinds_of f_tidied f_joined f_law_taken f_law_reckoning f_law_typed_room f_law_typed f_law_doors f_law_shape f_law_none_alike f_law_as_met f_law_renamed f_law_grown f_law_changed f_law_chain f_law_stands_for f_law_is_kept f_law a_DOORS : Addr}
    {od_doors an_doors : Option Addr} {sl_doors : Array (Option Value)} {oc_doors kv_doors dc_doors pm_doors cd_doors ct_doors : Value}
    {od_renamed an_renamed : Option Addr} {sl_renamed : Array (Option Value)} {oc_renamed kv_renamed dc_renamed pm_renamed cd_renamed ct_renamed : Value}
    {od_kinds_of an_kinds_of : Option Addr} {sl_kinds_of : Array (Option Value)} {oc_kinds_of kv_kinds_of dc_kinds_of pm_kinds_of cd_kinds_of ct_kinds_of : Value}
    {od_tidied an_tidied : Option Addr} {sl_tidied : Array (Option Value)} {oc_tidied kv_tidied dc_tidied pm_tidied cd_tidied ct_tidied : Value}
    {od_joined an_joined : Option Addr} {sl_joined : Array (Option Value)} {oc_joined kv_joined dc_joined pm_joined cd_joined ct_joined : Value}
    {od_law_taken an_law_taken : Option Addr} {sl_law_taken : Array (Option Value)} {oc_law_taken kv_law_taken dc_law_taken pm_law_taken cd_law_taken ct_law_taken : Value}
    {od_law_reckoning an_law_reckoning : Option Addr} {sl_law_reckoning : Array (Option Value)} {oc_law_reckoning kv_law_reckoning dc_law_reckoning pm_law_reckoning cd_law_reckoning ct_law_reckoning : Value}
    {od_law_typed_room an_law_typed_room : Option Addr} {sl_law_typed_room : Array (Option Value)} {oc_law_typed_room kv_law_typed_room dc_law_typed_room pm_law_typed_room cd_law_typed_room ct_law_typed_room : Value}
    {od_law_typed an_law_typed : Option Addr} {sl_law_typed : Array (Option Value)} {oc_law_typed kv_law_typed dc_law_typed pm_law_typed cd_law_typed ct_law_typed : Value}
    {od_law_doors an_law_doors : Option Addr} {sl_law_doors : Array (Option Value)} {oc_law_doors kv_law_doors dc_law_doors pm_law_doors cd_law_doors ct_law_doors : Value}
    {od_law_shape an_law_shape : Option Addr} {sl_law_shape : Array (Option Value)} {oc_law_shape kv_law_shape dc_law_shape pm_law_shape cd_law_shape ct_law_shape : Value}
    {od_law_none_alike an_law_none_alike : Option Addr} {sl_law_none_alike : Array (Option Value)} {oc_law_none_alike kv_law_none_alike dc_law_none_alike pm_law_none_alike cd_law_none_alike ct_law_none_alike : Value}
    {od_law_as_met an_law_as_met : Option Addr} {sl_law_as_met : Array (Option Value)} {oc_law_as_met kv_law_as_met dc_law_as_met pm_law_as_met cd_law_as_met ct_law_as_met : Value}
    {od_law_renamed an_law_renamed : Option Addr} {sl_law_renamed : Array (Option Value)} {oc_law_renamed kv_law_renamed dc_law_renamed pm_law_renamed cd_law_renamed ct_law_renamed : Value}
    {od_law_grown an_law_grown : Option Addr} {sl_law_grown : Array (Option Value)} {oc_law_grown kv_law_grown dc_law_grown pm_law_grown cd_law_grown ct_law_grown : Value}
    {od_law_changed an_law_changed : Option Addr} {sl_law_changed : Array (Option Value)} {oc_law_changed kv_law_changed dc_law_changed pm_law_changed cd_law_changed ct_law_changed : Value}
    {od_law_chain an_law_chain : Option Addr} {sl_law_chain : Array (Option Value)} {oc_law_chain kv_law_chain dc_law_chain pm_law_chain cd_law_chain ct_law_chain : Value}
    {od_law_stands_for an_law_stands_for : Option Addr} {sl_law_stands_for : Array (Option Value)} {oc_law_stands_for kv_law_stands_for dc_law_stands_for pm_law_stands_for cd_law_stands_for ct_law_stands_for : Value}
    {od_law_is_kept an_law_is_kept : Option Addr} {sl_law_is_kept : Array (Option Value)} {oc_law_is_kept kv_law_is_kept dc_law_is_kept pm_law_is_kept cd_law_is_kept ct_law_is_kept : Value}
    {od_law an_law : Option Addr} {sl_law : Array (Option Value)} {oc_law kv_law dc_law pm_law cd_law ct_law : Value}
    {h_DOORS_0 h_DOORS_1 h_DOORS_2 h_DOORS_3 : Int} {t_DOORS_0 v_DOORS_0 t_DOORS_1 v_DOORS_1 t_DOORS_2 v_DOORS_2 t_DOORS_3 v_DOORS_3 : Tok} {n_DOORS : Nat}
    (a_doors : PySem.W.nsIn K mainGlobals "doors" = some (some (.ref f_doors)))
    (l_doors : K.lookup f_doors = some ⟨oc_doors, od_doors, .func (PySem.W.fnOf "doors" "doors" (defArgs s_doors) (defBody s_doors) (defScope s_doors) .none kv_doors dc_doors pm_doors an_doors cd_doors ct_doors), sl_doors⟩)
    (c_doors : PySem.W.codeIn K cd_doors "doors" = true)
    (k_doors : PySem.W.keepIn K (.ref f_doors) = true)
    (a_renamed : PySem.W.nsIn K mainGlobals "renamed" = some (some (.ref f_renamed)))
    (l_renamed : K.lookup f_renamed = some ⟨oc_renamed, od_renamed, .func (PySem.W.fnOf "renamed" "renamed" (defArgs s_renamed) (defBody s_renamed) (defScope s_renamed) .none kv_renamed dc_renamed pm_renamed an_renamed cd_renamed ct_renamed), sl_renamed⟩)
    (c_renamed : PySem.W.codeIn K cd_renamed "renamed" = true)
    (k_renamed : PySem.W.keepIn K (.ref f_renamed) = true)
    (a_kinds_of : PySem.W.nsIn K mainGlobals "kinds_of" = some (some (.ref f_kinds_of)))
    (l_kinds_of : K.lookup f_kinds_of = some ⟨oc_kinds_of, od_kinds_of, .func (PySem.W.fnOf "kinds_of" "kinds_of" (defArgs s_kinds_of) (defBody s_kinds_of) (defScope s_kinds_of) .none kv_kinds_of dc_kinds_of pm_kinds_of an_kinds_of cd_kinds_of ct_kinds_of), sl_kinds_of⟩)
    (c_kinds_of : PySem.W.codeIn K cd_kinds_of "kinds_of" = true)
    (k_kinds_of : PySem.W.keepIn K (.ref f_kinds_of) = true)
    (a_tidied : PySem.W.nsIn K mainGlobals "tidied" = some (some (.ref f_tidied)))
    (l_tidied : K.lookup f_tidied = some ⟨oc_tidied, od_tidied, .func (PySem.W.fnOf "tidied" "tidied" (defArgs s_tidied) (defBody s_tidied) (defScope s_tidied) .none kv_tidied dc_tidied pm_tidied an_tidied cd_tidied ct_tidied), sl_tidied⟩)
    (c_tidied : PySem.W.codeIn K cd_tidied "tidied" = true)
    (k_tidied : PySem.W.keepIn K (.ref f_tidied) = true)
    (a_joined : PySem.W.nsIn K mainGlobals "joined" = some (some (.ref f_joined)))
    (l_joined : K.lookup f_joined = some ⟨oc_joined, od_joined, .func (PySem.W.fnOf "joined" "joined" (defArgs s_joined) (defBody s_joined) (defScope s_joined) .none kv_joined dc_joined pm_joined an_joined cd_joined ct_joined), sl_joined⟩)
    (c_joined : PySem.W.codeIn K cd_joined "joined" = true)
    (k_joined : PySem.W.keepIn K (.ref f_joined) = true)
    (a_law_taken : PySem.W.nsIn K mainGlobals "_law_taken" = some (some (.ref f_law_taken)))
    (l_law_taken : K.lookup f_law_taken = some ⟨oc_law_taken, od_law_taken, .func (PySem.W.fnOf "_law_taken" "_law_taken" (defArgs s_law_taken) (defBody s_law_taken) (defScope s_law_taken) .none kv_law_taken dc_law_taken pm_law_taken an_law_taken cd_law_taken ct_law_taken), sl_law_taken⟩)
    (c_law_taken : PySem.W.codeIn K cd_law_taken "_law_taken" = true)
    (k_law_taken : PySem.W.keepIn K (.ref f_law_taken) = true)
    (a_law_reckoning : PySem.W.nsIn K mainGlobals "_law_reckoning" = some (some (.ref f_law_reckoning)))
    (l_law_reckoning : K.lookup f_law_reckoning = some ⟨oc_law_reckoning, od_law_reckoning, .func (PySem.W.fnOf "_law_reckoning" "_law_reckoning" (defArgs s_law_reckoning) (defBody s_law_reckoning) (defScope s_law_reckoning) .none kv_law_reckoning dc_law_reckoning pm_law_reckoning an_law_reckoning cd_law_reckoning ct_law_reckoning), sl_law_reckoning⟩)
    (c_law_reckoning : PySem.W.codeIn K cd_law_reckoning "_law_reckoning" = true)
    (k_law_reckoning : PySem.W.keepIn K (.ref f_law_reckoning) = true)
    (a_law_typed_room : PySem.W.nsIn K mainGlobals "_law_typed_room" = some (some (.ref f_law_typed_room)))
    (l_law_typed_room : K.lookup f_law_typed_room = some ⟨oc_law_typed_room, od_law_typed_room, .func (PySem.W.fnOf "_law_typed_room" "_law_typed_room" (defArgs s_law_typed_room) (defBody s_law_typed_room) (defScope s_law_typed_room) .none kv_law_typed_room dc_law_typed_room pm_law_typed_room an_law_typed_room cd_law_typed_room ct_law_typed_room), sl_law_typed_room⟩)
    (c_law_typed_room : PySem.W.codeIn K cd_law_typed_room "_law_typed_room" = true)
    (k_law_typed_room : PySem.W.keepIn K (.ref f_law_typed_room) = true)
    (a_law_typed : PySem.W.nsIn K mainGlobals "_law_typed" = some (some (.ref f_law_typed)))
    (l_law_typed : K.lookup f_law_typed = some ⟨oc_law_typed, od_law_typed, .func (PySem.W.fnOf "_law_typed" "_law_typed" (defArgs s_law_typed) (defBody s_law_typed) (defScope s_law_typed) .none kv_law_typed dc_law_typed pm_law_typed an_law_typed cd_law_typed ct_law_typed), sl_law_typed⟩)
    (c_law_typed : PySem.W.codeIn K cd_law_typed "_law_typed" = true)
    (k_law_typed : PySem.W.keepIn K (.ref f_law_typed) = true)
    (a_law_doors : PySem.W.nsIn K mainGlobals "_law_doors" = some (some (.ref f_law_doors)))
    (l_law_doors : K.lookup f_law_doors = some ⟨oc_law_doors, od_law_doors, .func (PySem.W.fnOf "_law_doors" "_law_doors" (defArgs s_law_doors) (defBody s_law_doors) (defScope s_law_doors) .none kv_law_doors dc_law_doors pm_law_doors an_law_doors cd_law_doors ct_law_doors), sl_law_doors⟩)
    (c_law_doors : PySem.W.codeIn K cd_law_doors "_law_doors" = true)
    (k_law_doors : PySem.W.keepIn K (.ref f_law_doors) = true)
    (a_law_shape : PySem.W.nsIn K mainGlobals "_law_shape" = some (some (.ref f_law_shape)))
    (l_law_shape : K.lookup f_law_shape = some ⟨oc_law_shape, od_law_shape, .func (PySem.W.fnOf "_law_shape" "_law_shape" (defArgs s_law_shape) (defBody s_law_shape) (defScope s_law_shape) .none kv_law_shape dc_law_shape pm_law_shape an_law_shape cd_law_shape ct_law_shape), sl_law_shape⟩)
    (c_law_shape : PySem.W.codeIn K cd_law_shape "_law_shape" = true)
    (k_law_shape : PySem.W.keepIn K (.ref f_law_shape) = true)
    (a_law_none_alike : PySem.W.nsIn K mainGlobals "_law_none_alike" = some (some (.ref f_law_none_alike)))
    (l_law_none_alike : K.lookup f_law_none_alike = some ⟨oc_law_none_alike, od_law_none_alike, .func (PySem.W.fnOf "_law_none_alike" "_law_none_alike" (defArgs s_law_none_alike) (defBody s_law_none_alike) (defScope s_law_none_alike) .none kv_law_none_alike dc_law_none_alike pm_law_none_alike an_law_none_alike cd_law_none_alike ct_law_none_alike), sl_law_none_alike⟩)
    (c_law_none_alike : PySem.W.codeIn K cd_law_none_alike "_law_none_alike" = true)
    (k_law_none_alike : PySem.W.keepIn K (.ref f_law_none_alike) = true)
    (a_law_as_met : PySem.W.nsIn K mainGlobals "_law_as_met" = some (some (.ref f_law_as_met)))
    (l_law_as_met : K.lookup f_law_as_met = some ⟨oc_law_as_met, od_law_as_met, .func (PySem.W.fnOf "_law_as_met" "_law_as_met" (defArgs s_law_as_met) (defBody s_law_as_met) (defScope s_law_as_met) .none kv_law_as_met dc_law_as_met pm_law_as_met an_law_as_met cd_law_as_met ct_law_as_met), sl_law_as_met⟩)
    (c_law_as_met : PySem.W.codeIn K cd_law_as_met "_law_as_met" = true)
    (k_law_as_met : PySem.W.keepIn K (.ref f_law_as_met) = true)
    (a_law_renamed : PySem.W.nsIn K mainGlobals "_law_renamed" = some (some (.ref f_law_renamed)))
    (l_law_renamed : K.lookup f_law_renamed = some ⟨oc_law_renamed, od_law_renamed, .func (PySem.W.fnOf "_law_renamed" "_law_renamed" (defArgs s_law_renamed) (defBody s_law_renamed) (defScope s_law_renamed) .none kv_law_renamed dc_law_renamed pm_law_renamed an_law_renamed cd_law_renamed ct_law_renamed), sl_law_renamed⟩)
    (c_law_renamed : PySem.W.codeIn K cd_law_renamed "_law_renamed" = true)
    (k_law_renamed : PySem.W.keepIn K (.ref f_law_renamed) = true)
    (a_law_grown : PySem.W.nsIn K mainGlobals "_law_grown" = some (some (.ref f_law_grown)))
    (l_law_grown : K.lookup f_law_grown = some ⟨oc_law_grown, od_law_grown, .func (PySem.W.fnOf "_law_grown" "_law_grown" (defArgs s_law_grown) (defBody s_law_grown) (defScope s_law_grown) .none kv_law_grown dc_law_grown pm_law_grown an_law_grown cd_law_grown ct_law_grown), sl_law_grown⟩)
    (c_law_grown : PySem.W.codeIn K cd_law_grown "_law_grown" = true)
    (k_law_grown : PySem.W.keepIn K (.ref f_law_grown) = true)
    (a_law_changed : PySem.W.nsIn K mainGlobals "_law_changed" = some (some (.ref f_law_changed)))
    (l_law_changed : K.lookup f_law_changed = some ⟨oc_law_changed, od_law_changed, .func (PySem.W.fnOf "_law_changed" "_law_changed" (defArgs s_law_changed) (defBody s_law_changed) (defScope s_law_changed) .none kv_law_changed dc_law_changed pm_law_changed an_law_changed cd_law_changed ct_law_changed), sl_law_changed⟩)
    (c_law_changed : PySem.W.codeIn K cd_law_changed "_law_changed" = true)
    (k_law_changed : PySem.W.keepIn K (.ref f_law_changed) = true)
    (a_law_chain : PySem.W.nsIn K mainGlobals "_law_chain" = some (some (.ref f_law_chain)))
    (l_law_chain : K.lookup f_law_chain = some ⟨oc_law_chain, od_law_chain, .func (PySem.W.fnOf "_law_chain" "_law_chain" (defArgs s_law_chain) (defBody s_law_chain) (defScope s_law_chain) .none kv_law_chain dc_law_chain pm_law_chain an_law_chain cd_law_chain ct_law_chain), sl_law_chain⟩)
    (c_law_chain : PySem.W.codeIn K cd_law_chain "_law_chain" = true)
    (k_law_chain : PySem.W.keepIn K (.ref f_law_chain) = true)
    (a_law_stands_for : PySem.W.nsIn K mainGlobals "_law_stands_for" = some (some (.ref f_law_stands_for)))
    (l_law_stands_for : K.lookup f_law_stands_for = some ⟨oc_law_stands_for, od_law_stands_for, .func (PySem.W.fnOf "_law_stands_for" "_law_stands_for" (defArgs s_law_stands_for) (defBody s_law_stands_for) (defScope s_law_stands_for) .none kv_law_stands_for dc_law_stands_for pm_law_stands_for an_law_stands_for cd_law_stands_for ct_law_stands_for), sl_law_stands_for⟩)
    (c_law_stands_for : PySem.W.codeIn K cd_law_stands_for "_law_stands_for" = true)
    (k_law_stands_for : PySem.W.keepIn K (.ref f_law_stands_for) = true)
    (a_law_is_kept : PySem.W.nsIn K mainGlobals "_law_is_kept" = some (some (.ref f_law_is_kept)))
    (l_law_is_kept : K.lookup f_law_is_kept = some ⟨oc_law_is_kept, od_law_is_kept, .func (PySem.W.fnOf "_law_is_kept" "_law_is_kept" (defArgs s_law_is_kept) (defBody s_law_is_kept) (defScope s_law_is_kept) .none kv_law_is_kept dc_law_is_kept pm_law_is_kept an_law_is_kept cd_law_is_kept ct_law_is_kept), sl_law_is_kept⟩)
    (c_law_is_kept : PySem.W.codeIn K cd_law_is_kept "_law_is_kept" = true)
    (k_law_is_kept : PySem.W.keepIn K (.ref f_law_is_kept) = true)
    (a_law : PySem.W.nsIn K mainGlobals "law" = some (some (.ref f_law)))
    (l_law : K.lookup f_law = some ⟨oc_law, od_law, .func (PySem.W.fnOf "law" "law" (defArgs s_law) (defBody s_law) (defScope s_law) .none kv_law dc_law pm_law an_law cd_law ct_law), sl_law⟩)
    (c_law : PySem.W.codeIn K cd_law "law" = true)
    (k_law : PySem.W.keepIn K (.ref f_law) = true)
    (m_DOORS : PySem.W.nsIn K mainGlobals "DOORS" = some (some (.ref a_DOORS)))
    (lk_DOORS : K.lookup a_DOORS = some ⟨.type "dict", none, .dict #[⟨h_DOORS_0, .str "go" t_DOORS_0, .int 1 v_DOORS_0⟩, ⟨h_DOORS_1, .str "fork" t_DOORS_1, .int 2 v_DOORS_1⟩, ⟨h_DOORS_2, .str "give" t_DOORS_2, .int 3 v_DOORS_2⟩, ⟨h_DOORS_3, .str "hand" t_DOORS_3, .int 4 v_DOORS_3⟩] n_DOORS, #[]⟩)
    (hh_DOORS_0 : h_DOORS_0 = PyData.keyHash w.params "go")
    (hh_DOORS_1 : h_DOORS_1 = PyData.keyHash w.params "fork")
    (hh_DOORS_2 : h_DOORS_2 = PyData.keyHash w.params "give")
    (hh_DOORS_3 : h_DOORS_3 = PyData.keyHash w.params "hand")
    (lo_DOORS : (a_DOORS == sysModules) = false)
    (e_DOORS_0 : PySem.W.nsIn K a_DOORS "go" = some (some (.int 1 v_DOORS_0)))
    (e_DOORS_1 : PySem.W.nsIn K a_DOORS "fork" = some (some (.int 2 v_DOORS_1)))
    (e_DOORS_2 : PySem.W.nsIn K a_DOORS "give" = some (some (.int 3 v_DOORS_2)))
    (e_DOORS_3 : PySem.W.nsIn K a_DOORS "hand" = some (some (.int 4 v_DOORS_3)))
    (e_DOORS_no_end : PySem.W.nsIn K a_DOORS "end" = some none)
    (e_DOORS_no_fault : PySem.W.nsIn K a_DOORS "fault" = some none)
    (e_DOORS_no_shut : PySem.W.nsIn K a_DOORS "shut" = some none)
    (z_int : PySem.W.nsIn K mainGlobals "int" = some none)
    (z_isinstance : PySem.W.nsIn K mainGlobals "isinstance" = some none)
    (z_len : PySem.W.nsIn K mainGlobals "len" = some none)
    (z_list : PySem.W.nsIn K mainGlobals "list" = some none)
    (z_max : PySem.W.nsIn K mainGlobals "max" = some none)
    (z_min : PySem.W.nsIn K mainGlobals "min" = some none)
    (z_range : PySem.W.nsIn K mainGlobals "range" = some none)
    (z_tuple : PySem.W.nsIn K mainGlobals "tuple" = some none)
    (z_zip : PySem.W.nsIn K mainGlobals "zip" = some none)
    : ∃ fd : FuncData, (∀ (s : Shared) (v : Value), BindsTo s fd ⟨[v], []⟩ [("_law_script", v)]) ∧ ∀ base : Heap, K.In base → base.Ns mainGlobals mg → FnOk l.prog w K mg base CX0 130 fa fd ["_law_script"] (LowSp K sp_law) := by
  have e := hfa.symm.trans (PySem.W.mg_of X G a_law)
  cases e
  have F_doors := fun_mk (st := s_doors) l_doors c_doors k_doors
  have b_doors := F_doors.binds (ps := P_doors) fun _ _ _ _ _ _ us hl => of_len1 (P := fun us => bindArgs _ { pos := us } = pure (List.zip _ us)) (fun _ => rfl) us hl
  have F_renamed := fun_mk (st := s_renamed) l_renamed c_renamed k_renamed
  have b_renamed := F_renamed.binds (ps := P_renamed) fun _ _ _ _ _ _ us hl => of_len2 (P := fun us => bindArgs _ { pos := us } = pure (List.zip _ us)) (fun _ _ => rfl) us hl
  have F_kinds_of := fun_mk (st := s_kinds_of) l_kinds_of c_kinds_of k_kinds_of
  have b_kinds_of := F_kinds_of.binds (ps := P_kinds_of) fun _ _ _ _ _ _ us hl => of_len1 (P := fun us => bindArgs _ { pos := us } = pure (List.zip _ us)) (fun _ => rfl) us hl
  have F_tidied := fun_mk (st := s_tidied) l_tidied c_tidied k_tidied
  have b_tidied := F_tidied.binds (ps := P_tidied) fun _ _ _ _ _ _ us hl => of_len4 (P := fun us => bindArgs _ { pos := us } = pure (List.zip _ us)) (fun _ _ _ _ => rfl) us hl
  have F_joined := fun_mk (st := s_joined) l_joined c_joined k_joined
  have b_joined := F_joined.binds (ps := P_joined) fun _ _ _ _ _ _ us hl => of_len1 (P := fun us => bindArgs _ { pos := us } = pure (List.zip _ us)) (fun _ => rfl) us hl
  have F_law_taken := fun_mk (st := s_law_taken) l_law_taken c_law_taken k_law_taken
  have b_law_taken := F_law_taken.binds (ps := P_law_taken) fun _ _ _ _ _ _ us hl => of_len2 (P := fun us => bindArgs _ { pos := us } = pure (List.zip _ us)) (fun _ _ => rfl) us hl
  have F_law_reckoning := fun_mk (st := s_law_reckoning) l_law_reckoning c_law_reckoning k_law_reckoning
  have b_law_reckoning := F_law_reckoning.binds (ps := P_law_reckoning) fun _ _ _ _ _ _ us hl => of_len3 (P := fun us => bindArgs _ { pos := us } = pure (List.zip _ us)) (fun _ _ _ => rfl) us hl
  have F_law_typed_room := fun_mk (st := s_law_typed_room) l_law_typed_room c_law_typed_room k_law_typed_room
  have b_law_typed_room := F_law_typed_room.binds (ps := P_law_typed_room) fun _ _ _ _ _ _ us hl => of_len5 (P := fun us => bindArgs _ { pos := us } = pure (List.zip _ us)) (fun _ _ _ _ _ => rfl) us hl
  have F_law_typed := fun_mk (st := s_law_typed) l_law_typed c_law_typed k_law_typed
  have b_law_typed := F_law_typed.binds (ps := P_law_typed) fun _ _ _ _ _ _ us hl => of_len2 (P := fun us => bindArgs _ { pos := us } = pure (List.zip _ us)) (fun _ _ => rfl) us hl
  have F_law_doors := fun_mk (st := s_law_doors) l_law_doors c_law_doors k_law_doors
  have b_law_doors := F_law_doors.binds (ps := P_law_doors) fun _ _ _ _ _ _ us hl => of_len1 (P := fun us => bindArgs _ { pos := us } = pure (List.zip _ us)) (fun _ => rfl) us hl
  have F_law_shape := fun_mk (st := s_law_shape) l_law_shape c_law_shape k_law_shape
  have b_law_shape := F_law_shape.binds (ps := P_law_shape) fun _ _ _ _ _ _ us hl => of_len1 (P := fun us => bindArgs _ { pos := us } = pure (List.zip _ us)) (fun _ => rfl) us hl
  have F_law_none_alike := fun_mk (st := s_law_none_alike) l_law_none_alike c_law_none_alike k_law_none_alike
  have b_law_none_alike := F_law_none_alike.binds (ps := P_law_none_alike) fun _ _ _ _ _ _ us hl => of_len1 (P := fun us => bindArgs _ { pos := us } = pure (List.zip _ us)) (fun _ => rfl) us hl
  have F_law_as_met := fun_mk (st := s_law_as_met) l_law_as_met c_law_as_met k_law_as_met
  have b_law_as_met := F_law_as_met.binds (ps := P_law_as_met) fun _ _ _ _ _ _ us hl => of_len1 (P := fun us => bindArgs _ { pos := us } = pure (List.zip _ us)) (fun _ => rfl) us hl
  have F_law_renamed := fun_mk (st := s_law_renamed) l_law_renamed c_law_renamed k_law_renamed
  have b_law_renamed := F_law_renamed.binds (ps := P_law_renamed) fun _ _ _ _ _ _ us hl => of_len2 (P := fun us => bindArgs _ { pos := us } = pure (List.zip _ us)) (fun _ _ => rfl) us hl
  have F_law_grown := fun_mk (st := s_law_grown) l_law_grown c_law_grown k_law_grown
  have b_law_grown := F_law_grown.binds (ps := P_law_grown) fun _ _ _ _ _ _ us hl => of_len3 (P := fun us => bindArgs _ { pos := us } = pure (List.zip _ us)) (fun _ _ _ => rfl) us hl
  have F_law_changed := fun_mk (st := s_law_changed) l_law_changed c_law_changed k_law_changed
  have b_law_changed := F_law_changed.binds (ps := P_law_changed) fun _ _ _ _ _ _ us hl => of_len2 (P := fun us => bindArgs _ { pos := us } = pure (List.zip _ us)) (fun _ _ => rfl) us hl
  have F_law_chain := fun_mk (st := s_law_chain) l_law_chain c_law_chain k_law_chain
  have b_law_chain := F_law_chain.binds (ps := P_law_chain) fun _ _ _ _ _ _ us hl => of_len1 (P := fun us => bindArgs _ { pos := us } = pure (List.zip _ us)) (fun _ => rfl) us hl
  have F_law_stands_for := fun_mk (st := s_law_stands_for) l_law_stands_for c_law_stands_for k_law_stands_for
  have b_law_stands_for := F_law_stands_for.binds (ps := P_law_stands_for) fun _ _ _ _ _ _ us hl => of_len2 (P := fun us => bindArgs _ { pos := us } = pure (List.zip _ us)) (fun _ _ => rfl) us hl
  have F_law_is_kept := fun_mk (st := s_law_is_kept) l_law_is_kept c_law_is_kept k_law_is_kept
  have b_law_is_kept := F_law_is_kept.binds (ps := P_law_is_kept) fun _ _ _ _ _ _ us hl => of_len0 (P := fun us => bindArgs _ { pos := us } = pure (List.zip _ us)) (rfl) us hl
  have F_law := fun_mk (st := s_law) l_law c_law k_law
  have b_law := F_law.binds (ps := P_law) fun _ _ _ _ _ _ us hl => of_len1 (P := fun us => bindArgs _ { pos := us } = pure (List.zip _ us)) (fun _ => rfl) us hl
  have kt_DOORS : KTab K w a_DOORS tab_DOORS := by
    refine ⟨⟨_, _, lk_DOORS, ⟨⟨_, _, rfl, hh_DOORS_0⟩, ⟨⟨_, _, rfl, hh_DOORS_1⟩, ⟨⟨_, _, rfl, hh_DOORS_2⟩, ⟨⟨_, _, rfl, hh_DOORS_3⟩, trivial⟩⟩⟩⟩, lo_DOORS⟩, fun z r h => ?_⟩
    unfold tab_DOORS at h
    by_cases z0 : z = w_go
    · rw [if_pos z0] at h; cases h; subst z0; exact ⟨_, e_DOORS_0, _, .int _, rfl, ⟨_, rfl⟩, fun _ => by simp only [Rel]⟩
    rw [if_neg z0] at h
    by_cases z1 : z = w_fork
    · rw [if_pos z1] at h; cases h; subst z1; exact ⟨_, e_DOORS_1, _, .int _, rfl, ⟨_, rfl⟩, fun _ => by simp only [Rel]⟩
    rw [if_neg z1] at h
    by_cases z2 : z = w_give
    · rw [if_pos z2] at h; cases h; subst z2; exact ⟨_, e_DOORS_2, _, .int _, rfl, ⟨_, rfl⟩, fun _ => by simp only [Rel]⟩
    rw [if_neg z2] at h
    by_cases z3 : z = w_hand
    · rw [if_pos z3] at h; cases h; subst z3; exact ⟨_, e_DOORS_3, _, .int _, rfl, ⟨_, rfl⟩, fun _ => by simp only [Rel]⟩
    rw [if_neg z3] at h
    by_cases y0 : z = w_end
    · rw [if_pos y0] at h; cases h; subst y0; exact ⟨none, e_DOORS_no_end, rfl⟩
    rw [if_neg y0] at h
    by_cases y1 : z = w_fault
    · rw [if_pos y1] at h; cases h; subst y1; exact ⟨none, e_DOORS_no_fault, rfl⟩
    rw [if_neg y1] at h
    by_cases y2 : z = w_shut
    · rw [if_pos y2] at h; cases h; subst y2; exact ⟨none, e_DOORS_no_shut, rfl⟩
    rw [if_neg y2] at h
    cases h
  have T : Txt K mg w ⟨f_doors, f_renamed, f_kinds_of, f_tidied, f_joined, f_law_taken, f_law_reckoning, f_law_typed_room, f_law_typed, f_law_doors, f_law_shape, f_law_none_alike, f_law_as_met, f_law_renamed, f_law_grown, f_law_changed, f_law_chain, f_law_stands_for, f_law_is_kept, fa, PySem.W.fnOf "doors" "doors" (defArgs s_doors) (defBody s_doors) (defScope s_doors) .none kv_doors dc_doors pm_doors an_doors cd_doors ct_doors, PySem.W.fnOf "renamed" "renamed" (defArgs s_renamed) (defBody s_renamed) (defScope s_renamed) .none kv_renamed dc_renamed pm_renamed an_renamed cd_renamed ct_renamed, PySem.W.fnOf "kinds_of" "kinds_of" (defArgs s_kinds_of) (defBody s_kinds_of) (defScope s_kinds_of) .none kv_kinds_of dc_kinds_of pm_kinds_of an_kinds_of cd_kinds_of ct_kinds_of, PySem.W.fnOf "tidied" "tidied" (defArgs s_tidied) (defBody s_tidied) (defScope s_tidied) .none kv_tidied dc_tidied pm_tidied an_tidied cd_tidied ct_tidied, PySem.W.fnOf "joined" "joined" (defArgs s_joined) (defBody s_joined) (defScope s_joined) .none kv_joined dc_joined pm_joined an_joined cd_joined ct_joined, PySem.W.fnOf "_law_taken" "_law_taken" (defArgs s_law_taken) (defBody s_law_taken) (defScope s_law_taken) .none kv_law_taken dc_law_taken pm_law_taken an_law_taken cd_law_taken ct_law_taken, PySem.W.fnOf "_law_reckoning" "_law_reckoning" (defArgs s_law_reckoning) (defBody s_law_reckoning) (defScope s_law_reckoning) .none kv_law_reckoning dc_law_reckoning pm_law_reckoning an_law_reckoning cd_law_reckoning ct_law_reckoning, PySem.W.fnOf "_law_typed_room" "_law_typed_room" (defArgs s_law_typed_room) (defBody s_law_typed_room) (defScope s_law_typed_room) .none kv_law_typed_room dc_law_typed_room pm_law_typed_room an_law_typed_room cd_law_typed_room ct_law_typed_room, PySem.W.fnOf "_law_typed" "_law_typed" (defArgs s_law_typed) (defBody s_law_typed) (defScope s_law_typed) .none kv_law_typed dc_law_typed pm_law_typed an_law_typed cd_law_typed ct_law_typed, PySem.W.fnOf "_law_doors" "_law_doors" (defArgs s_law_doors) (defBody s_law_doors) (defScope s_law_doors) .none kv_law_doors dc_law_doors pm_law_doors an_law_doors cd_law_doors ct_law_doors, PySem.W.fnOf "_law_shape" "_law_shape" (defArgs s_law_shape) (defBody s_law_shape) (defScope s_law_shape) .none kv_law_shape dc_law_shape pm_law_shape an_law_shape cd_law_shape ct_law_shape, PySem.W.fnOf "_law_none_alike" "_law_none_alike" (defArgs s_law_none_alike) (defBody s_law_none_alike) (defScope s_law_none_alike) .none kv_law_none_alike dc_law_none_alike pm_law_none_alike an_law_none_alike cd_law_none_alike ct_law_none_alike, PySem.W.fnOf "_law_as_met" "_law_as_met" (defArgs s_law_as_met) (defBody s_law_as_met) (defScope s_law_as_met) .none kv_law_as_met dc_law_as_met pm_law_as_met an_law_as_met cd_law_as_met ct_law_as_met, PySem.W.fnOf "_law_renamed" "_law_renamed" (defArgs s_law_renamed) (defBody s_law_renamed) (defScope s_law_renamed) .none kv_law_renamed dc_law_renamed pm_law_renamed an_law_renamed cd_law_renamed ct_law_renamed, PySem.W.fnOf "_law_grown" "_law_grown" (defArgs s_law_grown) (defBody s_law_grown) (defScope s_law_grown) .none kv_law_grown dc_law_grown pm_law_grown an_law_grown cd_law_grown ct_law_grown, PySem.W.fnOf "_law_changed" "_law_changed" (defArgs s_law_changed) (defBody s_law_changed) (defScope s_law_changed) .none kv_law_changed dc_law_changed pm_law_changed an_law_changed cd_law_changed ct_law_changed, PySem.W.fnOf "_law_chain" "_law_chain" (defArgs s_law_chain) (defBody s_law_chain) (defScope s_law_chain) .none kv_law_chain dc_law_chain pm_law_chain an_law_chain cd_law_chain ct_law_chain, PySem.W.fnOf "_law_stands_for" "_law_stands_for" (defArgs s_law_stands_for) (defBody s_law_stands_for) (defScope s_law_stands_for) .none kv_law_stands_for dc_law_stands_for pm_law_stands_for an_law_stands_for cd_law_stands_for ct_law_stands_for, PySem.W.fnOf "_law_is_kept" "_law_is_kept" (defArgs s_law_is_kept) (defBody s_law_is_kept) (defScope s_law_is_kept) .none kv_law_is_kept dc_law_is_kept pm_law_is_kept an_law_is_kept cd_law_is_kept ct_law_is_kept, PySem.W.fnOf "law" "law" (defArgs s_law) (defBody s_law) (defScope s_law) .none kv_law dc_law pm_law an_law cd_law ct_law, a_DOORS⟩ := by
    exact ⟨F_doors, b_doors, PySem.W.mg_of X G a_doors, F_renamed, b_renamed, PySem.W.mg_of X G a_renamed, F_kinds_of, b_kinds_of, PySem.W.mg_of X G a_kinds_of, F_tidied, b_tidied, PySem.W.mg_of X G a_tidied, F_joined, b_joined, PySem.W.mg_of X G a_joined, F_law_taken, b_law_taken, PySem.W.mg_of X G a_law_taken, F_law_reckoning, b_law_reckoning, PySem.W.mg_of X G a_law_reckoning, F_law_typed_room, b_law_typed_room, PySem.W.mg_of X G a_law_typed_room, F_law_typed, b_law_typed, PySem.W.mg_of X G a_law_typed, F_law_doors, b_law_doors, PySem.W.mg_of X G a_law_doors, F_law_shape, b_law_shape, PySem.W.mg_of X G a_law_shape, F_law_none_alike, b_law_none_alike, PySem.W.mg_of X G a_law_none_alike, F_law_as_met, b_law_as_met, PySem.W.mg_of X G a_law_as_met, F_law_renamed, b_law_renamed, PySem.W.mg_of X G a_law_renamed, F_law_grown, b_law_grown, PySem.W.mg_of X G a_law_grown, F_law_changed, b_law_changed, PySem.W.mg_of X G a_law_changed, F_law_chain, b_law_chain, PySem.W.mg_of X G a_law_chain, F_law_stands_for, b_law_stands_for, PySem.W.mg_of X G a_law_stands_for, F_law_is_kept, b_law_is_kept, PySem.W.mg_of X G a_law_is_kept, F_law, b_law, PySem.W.mg_of X G m_DOORS, kt_DOORS, PySem.W.mg_none_of X G z_int, PySem.W.mg_none_of X G z_isinstance, PySem.W.mg_none_of X G z_len, PySem.W.mg_none_of X G z_list, PySem.W.mg_none_of X G z_max, PySem.W.mg_none_of X G z_min, PySem.W.mg_none_of X G z_range, PySem.W.mg_none_of X G z_tuple, PySem.W.mg_none_of X G z_zip⟩
  exact ⟨_, fun s v => .of_eq rfl, fun base _ _ => g_law T⟩
theorem walk {l : PySem.W.OpenLaw} {q : Program} {loose : List Str} {XP : (Str → Option Value) → Heap → Prop} {YP : World → Heap → Prop} {d : DefRec} {K : Params → PySem.W.Frag} (hn : l.most = some 63) (hdf : d.params.defaults = [])
    (hY : ∀ (w : World) (h : Heap), YP w h → (K w.params).In h)
    (F : ∀ (w : World) (mg : Str → Option Value) (fa : Addr) (h : Heap), (K w.params).In h → h.Ns mainGlobals mg → mg d.name = some (.ref fa) →
      ∃ fd : FuncData, (∀ (s : Shared) (u : Value), BindsTo s fd ⟨[u], []⟩ [("_law_script", u)]) ∧ ∀ base : Heap, (K w.params).In base → base.Ns mainGlobals mg → FnOk l.prog w (K w.params) mg base CX0 130 fa fd ["_law_script"] (LowSp (K w.params) sp_law)) :
    PySem.W.WalkO q loose XP YP l.row.toRowW d [] (fun f vs => PySem.call f vs) :=
  L2.walk_of (n := 63) (k := 130) (x := "_law_script") (CX := fun _ => CX0) (sp := fun w => LowSp (K w.params) sp_law) hn (by decide) hdf ⟨rfl, by decide, by decide⟩ hY F
    (fun w H a ns hl hO hS => ⟨[.rl (ns.map .int)], fun _ => none, Rels.one (by
      simp only [Rel]
      refine ⟨a, ns.map V.int, rfl, ?_, ?_⟩
      · rcases hS with hS | hS
        · rcases hS with hS | hS
          · rcases hO a with e | ⟨o, xs, e⟩
            · rw [e] at hS; cases hS
            · rw [e] at hS; cases hS
          · exact .inl hS
        · exact .inr hS
      · clear hS hl
        induction ns with
        | nil => simp only [List.map_nil, Rels]
        | cons n ns ih => simp only [List.map_cons, Rels]; exact ⟨_, _, rfl, by simp only [Rel], ih⟩), (fun _ _ e => nomatch e), ns, rfl, fun S' H' v e g r => by simpa only [Rel] using r⟩) fun _ _ _ _ _ z => z
end WL.K10
open PySem PySem.W PyProof.Rows in
set_option maxRecDepth 100000 in
set_option maxHeartbeats 0 in
theorem PySem.Challenge.cw_pausewright_k10_whole_joined_holds : PySem.Challenge.rw_pausewright_k10_whole_joined.Holds := by
  w_on; o_law; k_head; (case hw => w_witness2)
  k_fill
  refine WL.K10.walk (l := PySem.Challenge.rw_pausewright_k10_whole_joined) rfl rfl (fun w h Y => PySem.W.kIn_of Y) ?F
  case F =>
    intro w mg fa h KX G hmg
    refine' WL.K10.all_mk KX G hmg ?a_doors ?l_doors ?c_doors ?k_doors ?a_renamed ?l_renamed ?c_renamed ?k_renamed ?a_kinds_of ?l_kinds_of ?c_kinds_of ?k_kinds_of ?a_tidied ?l_tidied ?c_tidied ?k_tidied ?a_joined ?l_joined ?c_joined ?k_joined ?a_law_taken ?l_law_taken ?c_law_taken ?k_law_taken ?a_law_reckoning ?l_law_reckoning ?c_law_reckoning ?k_law_reckoning ?a_law_typed_room ?l_law_typed_room ?c_law_typed_room ?k_law_typed_room ?a_law_typed ?l_law_typed ?c_law_typed ?k_law_typed ?a_law_doors ?l_law_doors ?c_law_doors ?k_law_doors ?a_law_shape ?l_law_shape ?c_law_shape ?k_law_shape ?a_law_none_alike ?l_law_none_alike ?c_law_none_alike ?k_law_none_alike ?a_law_as_met ?l_law_as_met ?c_law_as_met ?k_law_as_met ?a_law_renamed ?l_law_renamed ?c_law_renamed ?k_law_renamed ?a_law_grown ?l_law_grown ?c_law_grown ?k_law_grown ?a_law_changed ?l_law_changed ?c_law_changed ?k_law_changed ?a_law_chain ?l_law_chain ?c_law_chain ?k_law_chain ?a_law_stands_for ?l_law_stands_for ?c_law_stands_for ?k_law_stands_for ?a_law_is_kept ?l_law_is_kept ?c_law_is_kept ?k_law_is_kept ?a_law ?l_law ?c_law ?k_law ?m_DOORS ?lk_DOORS ?hh_DOORS_0 ?hh_DOORS_1 ?hh_DOORS_2 ?hh_DOORS_3 ?lo_DOORS ?e_DOORS_0 ?e_DOORS_1 ?e_DOORS_2 ?e_DOORS_3 ?e_DOORS_no_end ?e_DOORS_no_fault ?e_DOORS_no_shut ?z_int ?z_isinstance ?z_len ?z_list ?z_max ?z_min ?z_range ?z_tuple ?z_zip
    (case a_doors => k_is)
    (case l_doors => k_is)
    (case c_doors => k_is)
    (case k_doors => k_is)
    (case a_renamed => k_is)
    (case l_renamed => k_is)
    (case c_renamed => k_is)
    (case k_renamed => k_is)
    (case a_kinds_of => k_is)
    (case l_kinds_of => k_is)
    (case c_kinds_of => k_is)
    (case k_kinds_of => k_is)
    (case a_tidied => k_is)
    (case l_tidied => k_is)
    (case c_tidied => k_is)
    (case k_tidied => k_is)
    (case a_joined => k_is)
    (case l_joined => k_is)
    (case c_joined => k_is)
    (case k_joined => k_is)
    (case a_law_taken => k_is)
    (case l_law_taken => k_is)
    (case c_law_taken => k_is)
    (case k_law_taken => k_is)
    (case a_law_reckoning => k_is)
    (case l_law_reckoning => k_is)
    (case c_law_reckoning => k_is)
    (case k_law_reckoning => k_is)
    (case a_law_typed_room => k_is)
    (case l_law_typed_room => k_is)
    (case c_law_typed_room => k_is)
    (case k_law_typed_room => k_is)
    (case a_law_typed => k_is)
    (case l_law_typed => k_is)
    (case c_law_typed => k_is)
    (case k_law_typed => k_is)
    (case a_law_doors => k_is)
    (case l_law_doors => k_is)
    (case c_law_doors => k_is)
    (case k_law_doors => k_is)
    (case a_law_shape => k_is)
    (case l_law_shape => k_is)
    (case c_law_shape => k_is)
    (case k_law_shape => k_is)
    (case a_law_none_alike => k_is)
    (case l_law_none_alike => k_is)
    (case c_law_none_alike => k_is)
    (case k_law_none_alike => k_is)
    (case a_law_as_met => k_is)
    (case l_law_as_met => k_is)
    (case c_law_as_met => k_is)
    (case k_law_as_met => k_is)
    (case a_law_renamed => k_is)
    (case l_law_renamed => k_is)
    (case c_law_renamed => k_is)
    (case k_law_renamed => k_is)
    (case a_law_grown => k_is)
    (case l_law_grown => k_is)
    (case c_law_grown => k_is)
    (case k_law_grown => k_is)
    (case a_law_changed => k_is)
    (case l_law_changed => k_is)
    (case c_law_changed => k_is)
    (case k_law_changed => k_is)
    (case a_law_chain => k_is)
    (case l_law_chain => k_is)
    (case c_law_chain => k_is)
    (case k_law_chain => k_is)
    (case a_law_stands_for => k_is)
    (case l_law_stands_for => k_is)
    (case c_law_stands_for => k_is)
    (case k_law_stands_for => k_is)
    (case a_law_is_kept => k_is)
    (case l_law_is_kept => k_is)
    (case c_law_is_kept => k_is)
    (case k_law_is_kept => k_is)
    (case a_law => k_is)
    (case l_law => k_is)
    (case c_law => k_is)
    (case k_law => k_is)
    (case m_DOORS => k_is)
    (case lk_DOORS => k_is)
    (case hh_DOORS_0 => rfl)
    (case hh_DOORS_1 => rfl)
    (case hh_DOORS_2 => rfl)
    (case hh_DOORS_3 => rfl)
    (case lo_DOORS => rfl)
    (case e_DOORS_0 => k_is)
    (case e_DOORS_1 => k_is)
    (case e_DOORS_2 => k_is)
    (case e_DOORS_3 => k_is)
    (case e_DOORS_no_end => k_is)
    (case e_DOORS_no_fault => k_is)
    (case e_DOORS_no_shut => k_is)
    (case z_int => k_is)
    (case z_isinstance => k_is)
    (case z_len => k_is)
    (case z_list => k_is)
    (case z_max => k_is)
    (case z_min => k_is)
    (case z_range => k_is)
    (case z_tuple => k_is)
    (case z_zip => k_is)
