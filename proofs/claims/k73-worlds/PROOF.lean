import PyProof.Rows.All
import Wide.All
import OpenK.AllK
import Wide.FinOn
import HandS.ForMost
import HandS.TupAny
import HandS.Deep
import PySem.Challenge.RW_linecourt_k73_worlds_with_meanings
import HandS.IsInst
import HandS.TupMul
import HandS.Style
import HandS.Conv
import HandS.NoneIn
import HandS.Zip
import KE.SortData
import KE.KDictPairs
import HandS.FStrTup
set_option Elab.async false
set_option maxRecDepth 100000
/-! DL: values as data (tuples by what they hold), a store of lists and dicts, and the hand layer's judgements over these. -/
namespace DL
open PySem PySem.Spec PyProof.Rows L2

/-- a value by what it is: a tuple by its items, a list or dict by its place -/
inductive D where
  | non | bl (b : Bool) | int (i : Int) | str (x : Str) | ref (a : Addr) | ty (n : String) | tup (ds : List D)
  /-- a list that nobody changes (the script) -/
  | rol (ds : List D)
  /-- a tuple whose very object is known (made by tuple(..)): dict(..) takes it -/
  | ftup (ds : List D)

/-- a list that nobody changes: frozen, or of the module -/
def SqR (K : PySem.W.Frag) (H : Hp) (a : Addr) (xs : List V) : Prop :=
  (∃ o, H a = some (.frz o (.lst xs))) ∨
    ∃ (o : Obj) (its : Array Value) (n : Nat), K.lookup a = some o ∧ o.cls = .type "list" ∧ o.dict = none ∧ o.data = .seq its n ∧ its.size ≤ sizeLine ∧ Vals xs its.toList
theorem SqR.sq {K : PySem.W.Frag} {H : Hp} {a : Addr} {xs : List V} (h : SqR K H a xs) : SqL K H a xs := by
  rcases h with ⟨o, h⟩ | h
  · exact .inl (.inr ⟨o, h⟩)
  · exact .inr h
/-- a tuple known to its object -/
def SqF (K : PySem.W.Frag) (H : Hp) (a : Addr) (xs : List V) : Prop := ∃ (o : Obj), H a = some (.frz o (.tup xs)) ∧ o.dict = none ∧ o.cls = .type "tuple"
theorem SqF.sq {K : PySem.W.Frag} {H : Hp} {a : Addr} {xs : List V} (h : SqF K H a xs) : SqT K H a xs := let ⟨o, h, _⟩ := h; .inl (.inr ⟨o, h⟩)
mutual
def RD (K : PySem.W.Frag) (H : Hp) : D → V → Prop
  | .non, v => v = .non
  | .bl b, v => v = .bl b
  | .int i, v => v = .int i
  | .str x, v => v = .str x
  | .ref a, v => v = .ref a
  | .ty n, v => v = .ty n
  | .tup ds, v => ∃ p vs, v = .ref p ∧ SqT K H p vs ∧ RDs K H ds vs
  | .rol ds, v => ∃ p vs, v = .ref p ∧ SqR K H p vs ∧ RDs K H ds vs
  | .ftup ds, v => ∃ p vs, v = .ref p ∧ SqF K H p vs ∧ RDs K H ds vs
def RDs (K : PySem.W.Frag) (H : Hp) : List D → List V → Prop
  | [], vs => vs = []
  | d :: ds, vs => ∃ v r, vs = v :: r ∧ RD K H d v ∧ RDs K H ds r
end

/-- tuples stay -/
def Ext (K : PySem.W.Frag) (H H' : Hp) : Prop := (∀ p vs, SqT K H p vs → SqT K H' p vs) ∧ (∀ p vs, SqR K H p vs → SqR K H' p vs) ∧ ∀ p vs, SqF K H p vs → SqF K H' p vs
section
variable {K : PySem.W.Frag} {H H1 H2 : Hp}
theorem Ext.refl : Ext K H H := ⟨fun _ _ h => h, fun _ _ h => h, fun _ _ h => h⟩
theorem Ext.trans (a : Ext K H H1) (b : Ext K H1 H2) : Ext K H H2 := ⟨fun p vs h => b.1 p vs (a.1 p vs h), fun p vs h => b.2.1 p vs (a.2.1 p vs h), fun p vs h => b.2.2 p vs (a.2.2 p vs h)⟩
/-- what a tuple, or a frozen thing, is not -/
def soft : HO → Prop
  | .tup _ => False
  | .frz _ _ => False
  | _ => True
theorem Ext.upd {a : Addr} {o : HO} (h : ∀ u, H a = some u → soft u) : Ext K H (upd H a o) := by
 refine ⟨fun p vs hp => ?_, fun p vs hp => ?_, fun p vs hp => ?_⟩
 · rcases hp with (hp | ⟨ob, hp⟩) | hp
   · refine .inl (.inl ?_)
     rw [upd_ne ?_]
     · exact hp
     · rintro rfl
       exact h _ hp
   · refine .inl (.inr ⟨ob, ?_⟩)
     rw [upd_ne ?_]
     · exact hp
     · rintro rfl
       exact h _ hp
   · exact .inr hp
 · rcases hp with ⟨ob, hp⟩ | hp
   · refine .inl ⟨ob, ?_⟩
     rw [upd_ne ?_]
     · exact hp
     · rintro rfl
       exact h _ hp
   · exact .inr hp
 · obtain ⟨ob, hp, r⟩ := hp
   refine ⟨ob, ?_, r⟩
   rw [upd_ne ?_]
   · exact hp
   · rintro rfl
     exact h _ hp
theorem Ext.new {a : Addr} {o : HO} (h : H a = none) : Ext K H (L2.upd H a o) := Ext.upd fun u e => by rw [h] at e; cases e
theorem Ext.put {a : Addr} {o u : HO} (h : H a = some u) (s : soft u) : Ext K H (L2.upd H a o) := Ext.upd fun v e => by rw [h] at e; cases e; exact s
mutual
theorem RD.ext (e : Ext K H H1) : ∀ {d : D} {v : V}, RD K H d v → RD K H1 d v
  | .non, _, h => h
  | .bl _, _, h => h
  | .int _, _, h => h
  | .str _, _, h => h
  | .ref _, _, h => h
  | .ty _, _, h => h
  | .tup ds, v, h => by
    obtain ⟨p, vs, rfl, ht, hd⟩ := h
    exact ⟨p, vs, rfl, e.1 p vs ht, RDs.ext e hd⟩
  | .rol ds, v, h => by
    obtain ⟨p, vs, rfl, ht, hd⟩ := h
    exact ⟨p, vs, rfl, e.2.1 p vs ht, RDs.ext e hd⟩
  | .ftup ds, v, h => by
    obtain ⟨p, vs, rfl, ht, hd⟩ := h
    exact ⟨p, vs, rfl, e.2.2 p vs ht, RDs.ext e hd⟩
theorem RDs.ext (e : Ext K H H1) : ∀ {ds : List D} {vs : List V}, RDs K H ds vs → RDs K H1 ds vs
  | [], _, h => h
  | d :: ds, _, h => by
    obtain ⟨v, r, rfl, h1, h2⟩ := h
    exact ⟨v, r, rfl, RD.ext e h1, RDs.ext e h2⟩
end
theorem RDs.length : ∀ {ds : List D} {vs : List V}, RDs K H ds vs → vs.length = ds.length
  | [], _, h => by cases (show _ = [] from h); rfl
  | d :: ds, _, h => by
    obtain ⟨v, r, rfl, _, h2⟩ := h
    rw [List.length_cons, List.length_cons, RDs.length h2]
theorem RDs.get : ∀ {ds : List D} {vs : List V} {i : Nat} {d : D}, RDs K H ds vs → ds[i]? = some d → ∃ v, vs[i]? = some v ∧ RD K H d v
  | [], _, _, _, _, e => by simp at e
  | d :: ds, _, 0, _, h, e => by
    obtain ⟨v, r, rfl, h1, h2⟩ := h
    simp at e
    subst e
    exact ⟨v, by simp, h1⟩
  | d :: ds, _, i + 1, _, h, e => by
    obtain ⟨v, r, rfl, h1, h2⟩ := h
    obtain ⟨w, e1, q⟩ := RDs.get (i := i) h2 (by simpa using e)
    exact ⟨w, by simpa using e1, q⟩
theorem RDs.getV : ∀ {ds : List D} {vs : List V} {i : Nat} {v : V}, RDs K H ds vs → vs[i]? = some v → ∃ d, ds[i]? = some d ∧ RD K H d v
  | [], _, _, _, h, e => by cases (show _ = [] from h); simp at e
  | d :: ds, _, 0, _, h, e => by
    obtain ⟨v, r, rfl, h1, h2⟩ := h
    simp at e
    subst e
    exact ⟨d, by simp, h1⟩
  | d :: ds, _, i + 1, _, h, e => by
    obtain ⟨v, r, rfl, h1, h2⟩ := h
    obtain ⟨w, e1, q⟩ := RDs.getV (i := i) h2 (by simpa using e)
    exact ⟨w, by simpa using e1, q⟩
theorem RDs.append : ∀ {ds es : List D} {vs ws : List V}, RDs K H ds vs → RDs K H es ws → RDs K H (ds ++ es) (vs ++ ws)
  | [], _, _, _, h, g => by cases (show _ = [] from h); exact g
  | d :: ds, _, _, _, h, g => by
    obtain ⟨v, r, rfl, h1, h2⟩ := h
    exact ⟨v, r ++ _, rfl, h1, RDs.append h2 g⟩
theorem RDs.take : ∀ (n : Nat) {ds : List D} {vs : List V}, RDs K H ds vs → RDs K H (ds.take n) (vs.take n)
  | 0, _, _, _ => rfl
  | n + 1, [], _, h => by cases (show _ = [] from h); exact rfl
  | n + 1, d :: ds, _, h => by
    obtain ⟨v, r, rfl, h1, h2⟩ := h
    exact ⟨v, r.take n, rfl, h1, RDs.take n h2⟩
theorem RDs.drop : ∀ (n : Nat) {ds : List D} {vs : List V}, RDs K H ds vs → RDs K H (ds.drop n) (vs.drop n)
  | 0, _, _, h => h
  | n + 1, [], _, h => by cases (show _ = [] from h); exact rfl
  | n + 1, d :: ds, _, h => by
    obtain ⟨v, r, rfl, h1, h2⟩ := h
    exact RDs.drop n h2
theorem RDs.set : ∀ (n : Nat) {ds : List D} {vs : List V} {d : D} {v : V}, RDs K H ds vs → RD K H d v → RDs K H (ds.set n d) (vs.set n v)
  | _, [], _, _, _, h, _ => by cases (show _ = [] from h); exact rfl
  | 0, d :: ds, _, _, _, h, q => by
    obtain ⟨v, r, rfl, h1, h2⟩ := h
    exact ⟨_, r, rfl, q, h2⟩
  | n + 1, d :: ds, _, _, _, h, q => by
    obtain ⟨v, r, rfl, h1, h2⟩ := h
    exact ⟨v, _, rfl, h1, RDs.set n h2 q⟩
theorem RDs.eraseIdx : ∀ (n : Nat) {ds : List D} {vs : List V}, RDs K H ds vs → RDs K H (ds.eraseIdx n) (vs.eraseIdx n)
  | _, [], _, h => by cases (show _ = [] from h); exact rfl
  | 0, d :: ds, _, h => by
    obtain ⟨v, r, rfl, h1, h2⟩ := h
    exact h2
  | n + 1, d :: ds, _, h => by
    obtain ⟨v, r, rfl, h1, h2⟩ := h
    exact ⟨v, _, rfl, h1, RDs.eraseIdx n h2⟩
theorem RDs.snoc {ds : List D} {vs : List V} {d : D} {v : V} (h : RDs K H ds vs) (q : RD K H d v) : RDs K H (ds ++ [d]) (vs ++ [v]) :=
  h.append ⟨v, [], rfl, q, rfl⟩
theorem RDs.reverse : ∀ {ds : List D} {vs : List V}, RDs K H ds vs → RDs K H ds.reverse vs.reverse
  | [], _, h => by cases (show _ = [] from h); exact rfl
  | d :: ds, _, h => by
    obtain ⟨v, r, rfl, h1, h2⟩ := h
    rw [List.reverse_cons, List.reverse_cons]
    exact RDs.snoc (RDs.reverse h2) h1
theorem RDs.dropLast : ∀ {ds : List D} {vs : List V}, RDs K H ds vs → RDs K H ds.dropLast vs.dropLast := fun {ds vs} h => by
  rw [List.dropLast_eq_take, List.dropLast_eq_take, h.length]
  exact h.take _
theorem RDs.nil_iff {ds : List D} {vs : List V} (h : RDs K H ds vs) : vs = [] ↔ ds = [] := by
  rw [← List.length_eq_zero_iff, ← List.length_eq_zero_iff, h.length]
/-- lists whose items are plain: known on both sides -/
theorem RDs.map {α : Type} (f : α → D) (g : α → V) (e : ∀ a v, RD K H (f a) v → v = g a) : ∀ {xs : List α} {vs : List V}, RDs K H (xs.map f) vs → vs = xs.map g
  | [], _, h => h
  | x :: xs, _, h => by
    obtain ⟨v, r, rfl, h1, h2⟩ := h
    rw [List.map_cons, e x v h1, RDs.map f g e h2]
theorem RDs.ints {xs : List Int} {vs : List V} (h : RDs K H (xs.map D.int) vs) : vs = xs.map V.int := RDs.map D.int V.int (fun _ _ q => q) h
theorem RDs.strs {xs : List Str} {vs : List V} (h : RDs K H (xs.map D.str) vs) : vs = xs.map V.str := RDs.map D.str V.str (fun _ _ q => q) h
theorem RDs.bls {xs : List Bool} {vs : List V} (h : RDs K H (xs.map D.bl) vs) : vs = xs.map V.bl := RDs.map D.bl V.bl (fun _ _ q => q) h
theorem RDs.of_map {α : Type} {f : α → D} {g : α → V} (e : ∀ a, RD K H (f a) (g a)) : ∀ (xs : List α), RDs K H (xs.map f) (xs.map g)
  | [] => rfl
  | x :: xs => ⟨g x, _, rfl, e x, RDs.of_map e xs⟩
end

/-! ### the store -/
inductive DO where
  /-- a list -/
  | lst (ds : List D)
  /-- a dict with ints and texts for keys -/
  | dk (kvs : List (Key × D))
  /-- an instance of the class at C -/
  | ins (C : Addr) (fs : List (Str × D))
abbrev Store := Addr → Option DO
def put (S : Store) (a : Addr) (o : DO) : Store := fun b => if b = a then some o else S b
theorem put_same {S : Store} {a : Addr} {o : DO} : put S a o a = some o := by unfold put; rw [if_pos rfl]
theorem put_ne {S : Store} {a b : Addr} {o : DO} (h : b ≠ a) : put S a o b = S b := by unfold put; rw [if_neg h]
theorem put_put {S : Store} {a : Addr} {o u : DO} : put (put S a o) a u = put S a u := by funext b; unfold put; split <;> rfl
/-- less is known -/
def Sub (S S' : Store) : Prop := ∀ a o, S a = some o → S' a = some o
theorem Sub.refl {S : Store} : Sub S S := fun _ _ h => h
theorem Sub.trans {S S1 S2 : Store} (a : Sub S S1) (b : Sub S1 S2) : Sub S S2 := fun p o h => b p o (a p o h)
theorem Sub.new {S : Store} {a : Addr} {o : DO} (h : S a = none) : Sub S (put S a o) := fun b u e => by
  rw [put_ne]
  · exact e
  · rintro rfl
    rw [h] at e; cases e

def RKV (K : PySem.W.Frag) (H : Hp) {κ : Type} : List (κ × D) → List (κ × V) → Prop
  | [], ws => ws = []
  | (k, d) :: r, ws => ∃ v t, ws = (k, v) :: t ∧ RD K H d v ∧ RKV K H r t
def RO (K : PySem.W.Frag) (H : Hp) (a : Addr) : DO → Prop
  | .lst ds => ∃ vs, H a = some (.lst vs) ∧ RDs K H ds vs
  | .dk kvs => ∃ ws, H a = some (.dK ws) ∧ RKV K H kvs ws
  | .ins C fs => ∃ dx ws, H a = some (.ins C dx ws) ∧ RKV K H fs ws
def RS (K : PySem.W.Frag) (H : Hp) (S : Store) : Prop := ∀ a o, S a = some o → RO K H a o
section
variable {K : PySem.W.Frag} {H H1 : Hp} {S S' : Store}
theorem RKV.ext (e : Ext K H H1) {κ : Type} : ∀ {kvs : List (κ × D)} {ws : List (κ × V)}, RKV K H kvs ws → RKV K H1 kvs ws
  | [], _, h => h
  | (k, d) :: r, _, h => by
    obtain ⟨v, t, rfl, h1, h2⟩ := h
    exact ⟨v, t, rfl, RD.ext e h1, RKV.ext e h2⟩
theorem RKV.length {κ : Type} : ∀ {kvs : List (κ × D)} {ws : List (κ × V)}, RKV K H kvs ws → ws.length = kvs.length
  | [], _, h => by cases (show _ = [] from h); rfl
  | (k, d) :: r, _, h => by
    obtain ⟨v, t, rfl, h1, h2⟩ := h
    rw [List.length_cons, List.length_cons, RKV.length h2]
theorem RKV.keys {κ : Type} : ∀ {kvs : List (κ × D)} {ws : List (κ × V)}, RKV K H kvs ws → ws.map (·.1) = kvs.map (·.1)
  | [], _, h => by cases (show _ = [] from h); rfl
  | (k, d) :: r, _, h => by
    obtain ⟨v, t, rfl, h1, h2⟩ := h
    rw [List.map_cons, List.map_cons, RKV.keys h2]
theorem RKV.vals {κ : Type} : ∀ {kvs : List (κ × D)} {ws : List (κ × V)}, RKV K H kvs ws → RDs K H (kvs.map (·.2)) (ws.map (·.2))
  | [], _, h => by cases (show _ = [] from h); exact rfl
  | (k, d) :: r, _, h => by
    obtain ⟨v, t, rfl, h1, h2⟩ := h
    exact ⟨v, _, rfl, h1, RKV.vals h2⟩
theorem RO.stable {a : Addr} {o : DO} (e : Ext K H H1) (k : ∀ u, H a = some u → H1 a = some u) (h : RO K H a o) : RO K H1 a o := by
  cases o with
  | lst ds => obtain ⟨vs, h1, h2⟩ := h; exact ⟨vs, k _ h1, h2.ext e⟩
  | dk kvs => obtain ⟨ws, h1, h2⟩ := h; exact ⟨ws, k _ h1, h2.ext e⟩
  | ins C fs => obtain ⟨dx, ws, h1, h2⟩ := h; exact ⟨dx, ws, k _ h1, h2.ext e⟩
theorem RS.sub (h : RS K H S') (q : Sub S S') : RS K H S := fun a o e => h a o (q a o e)
/-- heap grown at p by what the store doesn't hold -/
theorem RS.grow {p : Addr} {u : HO} (h : RS K H S) (n : H p = none) : RS K (upd H p u) S := fun a o e =>
  (h a o e).stable (Ext.new n) fun w hw => by rw [upd_ne (ne_of_none hw n)]; exact hw
theorem RS.new {p : Addr} {u : HO} {o : DO} (h : RS K H S) (n : H p = none) (q : RO K (upd H p u) p o) : RS K (upd H p u) (put S p o) := fun a v e => by
  by_cases z : a = p
  · subst z
    rw [put_same] at e
    cases e
    exact q
  · rw [put_ne z] at e
    exact h.grow n a v e
theorem RS.put {p : Addr} {u w : HO} {o : DO} (h : RS K H S) (n : H p = some w) (s : soft w) (q : RO K (upd H p u) p o) : RS K (upd H p u) (put S p o) := fun a v e => by
  by_cases z : a = p
  · subst z
    rw [put_same] at e
    cases e
    exact q
  · rw [put_ne z] at e
    exact (h a v e).stable (Ext.put n s) fun x hx => by rw [upd_ne z]; exact hx
theorem RS.lst {a : Addr} {ds : List D} (h : RS K H S) (e : S a = some (.lst ds)) : ∃ vs, H a = some (.lst vs) ∧ RDs K H ds vs := h a _ e
theorem RS.free {a : Addr} (h : RS K H S) (n : H a = none) : S a = none := by
  cases e : S a with
  | none => rfl
  | some o =>
    cases o with
    | lst ds => obtain ⟨vs, h1, _⟩ := h a _ e; rw [n] at h1; cases h1
    | dk ds => obtain ⟨vs, h1, _⟩ := h a _ e; rw [n] at h1; cases h1
    | ins C ds => obtain ⟨dx, vs, h1, _⟩ := h a _ e; rw [n] at h1; cases h1
end
end DL

set_option Elab.async false
set_option maxRecDepth 100000
/-! DLb: the judgements over data: expressions, tests, arguments, statements, targets. -/
namespace DL
open PySem PySem.Spec PyProof.Rows L2

/-! ### the slots -/
abbrev StD := List (Option D)
def lk : StD → Nat → Option D
  | [], _ => none
  | x :: _, 0 => x
  | _ :: r, n + 1 => lk r n
def sto : StD → Nat → Option D → StD
  | [], _, _ => []
  | _ :: r, 0, d => d :: r
  | x :: r, n + 1, d => x :: sto r n d
def RSt (K : PySem.W.Frag) (H : Hp) : StD → L2.St → Prop
  | [], σ => σ = []
  | o :: r, σ => ∃ v t, σ = v :: t ∧ (∀ d, o = some d → ∃ x, v = some x ∧ RD K H d x) ∧ RSt K H r t
section
variable {K : PySem.W.Frag} {H H1 : Hp}
theorem RSt.ext (e : Ext K H H1) : ∀ {δ : StD} {σ : L2.St}, RSt K H δ σ → RSt K H1 δ σ
  | [], _, h => h
  | o :: r, _, h => by
    obtain ⟨v, t, rfl, h1, h2⟩ := h
    exact ⟨v, t, rfl, fun d hd => let ⟨x, e1, q⟩ := h1 d hd; ⟨x, e1, q.ext e⟩, RSt.ext e h2⟩
theorem RSt.lk : ∀ {δ : StD} {σ : L2.St} {i : Nat} {d : D}, RSt K H δ σ → DL.lk δ i = some d → ∃ v, σ[i]? = some (some v) ∧ RD K H d v
  | [], _, _, _, _, e => by cases e
  | o :: r, _, 0, d, h, e => by
    obtain ⟨v, t, rfl, h1, h2⟩ := h
    obtain ⟨x, e1, q⟩ := h1 d e
    exact ⟨x, by simp [e1], q⟩
  | o :: r, _, i + 1, d, h, e => by
    obtain ⟨v, t, rfl, h1, h2⟩ := h
    obtain ⟨x, e1, q⟩ := RSt.lk (i := i) h2 e
    exact ⟨x, by simpa using e1, q⟩
theorem RSt.sto : ∀ {δ : StD} {σ : L2.St} {i : Nat} {d : D} {v : V}, RSt K H δ σ → RD K H d v → RSt K H (DL.sto δ i (some d)) (σ.set i (some v))
  | [], _, _, _, _, h, _ => by cases (show _ = [] from h); exact rfl
  | o :: r, _, 0, d, v, h, q => by
    obtain ⟨w, t, rfl, h1, h2⟩ := h
    exact ⟨some v, t, rfl, fun d' hd => by cases hd; exact ⟨v, rfl, q⟩, h2⟩
  | o :: r, _, i + 1, d, v, h, q => by
    obtain ⟨w, t, rfl, h1, h2⟩ := h
    exact ⟨w, _, rfl, h1, RSt.sto (i := i) h2 q⟩
theorem RSt.stn : ∀ {δ : StD} {σ : L2.St} {i : Nat}, RSt K H δ σ → RSt K H (DL.sto δ i none) (σ.set i none)
  | [], _, _, h => by cases (show _ = [] from h); exact rfl
  | o :: r, _, 0, h => by
    obtain ⟨w, t, rfl, h1, h2⟩ := h
    exact ⟨none, t, rfl, fun d' hd => (nomatch hd), h2⟩
  | o :: r, _, i + 1, h => by
    obtain ⟨w, t, rfl, h1, h2⟩ := h
    exact ⟨w, _, rfl, h1, RSt.stn (i := i) h2⟩
theorem RSt.nones : ∀ n : Nat, RSt K H (List.replicate n none) (List.replicate n none)
  | 0 => rfl
  | n + 1 => ⟨none, _, rfl, fun d e => (nomatch e), RSt.nones n⟩
theorem RSt.args : ∀ {ds : List D} {vs : List V} {n : Nat}, RDs K H ds vs → RSt K H (ds.map some ++ List.replicate n none) (vs.map some ++ List.replicate n none)
  | [], _, n, h => by cases (show _ = [] from h); exact RSt.nones n
  | d :: ds, _, n, h => by
    obtain ⟨v, r, rfl, h1, h2⟩ := h
    exact ⟨some v, _, rfl, fun d' e => by cases e; exact ⟨v, rfl, h1⟩, RSt.args h2⟩
end
def startD (N : List Str) (ds : List D) : StD := ds.map some ++ List.replicate (N.length - ds.length) none

/-! ### judgements -/
abbrev KD := D → Store → Prop
abbrev TED := StD → Store → KD → Prop
abbrev TTD := StD → Store → (Bool → Store → Prop) → Prop
abbrev TAD := StD → Store → (List D → Store → Prop) → Prop
structure EndsD where
  nx : StD → Store → Prop
  rt : KD
  bk : StD → Store → Prop := fun _ _ => False
  ct : StD → Store → Prop := fun _ _ => False
abbrev TSD := EndsD → StD → Store → Prop
def liftE (K : PySem.W.Frag) (t : TED) : TE := fun σ H Q => ∃ δ S Q0, RSt K H δ σ ∧ RS K H S ∧ t δ S Q0 ∧ ∀ d S' v H', Q0 d S' → Ext K H H' → RD K H' d v → RS K H' S' → Q v H'
def liftT (K : PySem.W.Frag) (t : TTD) : TT := fun σ H Q => ∃ δ S Q0, RSt K H δ σ ∧ RS K H S ∧ t δ S Q0 ∧ ∀ b S' H', Q0 b S' → Ext K H H' → RS K H' S' → Q b H'
def liftA (K : PySem.W.Frag) (t : TAD) : TA := fun σ H Q => ∃ δ S Q0, RSt K H δ σ ∧ RS K H S ∧ t δ S Q0 ∧ ∀ ds S' vs H', Q0 ds S' → Ext K H H' → RDs K H' ds vs → RS K H' S' → Q vs H'
def liftS (K : PySem.W.Frag) (t : TSD) : TS := fun E σ H => ∃ δ S G, RSt K H δ σ ∧ RS K H S ∧ t G δ S ∧
  (∀ δ' S' σ' H', G.nx δ' S' → Ext K H H' → RSt K H' δ' σ' → RS K H' S' → E.nx σ' H') ∧ (∀ d S' v H', G.rt d S' → Ext K H H' → RD K H' d v → RS K H' S' → E.rt v H') ∧
  (∀ δ' S' σ' H', G.bk δ' S' → Ext K H H' → RSt K H' δ' σ' → RS K H' S' → E.bk σ' H') ∧ (∀ δ' S' σ' H', G.ct δ' S' → Ext K H H' → RSt K H' δ' σ' → RS K H' S' → E.ct σ' H')
def DE (X : Cx) (e : Expr) (t : TED) : Prop := PE X e (liftE X.K t)
def DT (X : Cx) (e : Expr) (t : TTD) : Prop := PT X e (liftT X.K t)
def DW (X : Cx) (e : Expr) (t : TTD) : Prop := PW X e (liftT X.K t)
def DA (X : Cx) (es : List Expr) (t : TAD) : Prop := PA X es (liftA X.K t)
def DS (X : Cx) (st : Stmt) (t : TSD) : Prop := PS X st (liftS X.K t)
def DSs (X : Cx) (st : List Stmt) (t : TSD) : Prop := PSs X st (liftS X.K t)

section
variable {X : Cx}
theorem PEi {e : Expr} {t t' : TE} (h : PE X e t') (w : ∀ σ H Q, t σ H Q → t' σ H Q) : PE X e t := ⟨fun pins s σ H Q I q => h.run pins s σ H Q I (w _ _ _ q)⟩
theorem PTi {e : Expr} {t t' : TT} (h : PT X e t') (w : ∀ σ H Q, t σ H Q → t' σ H Q) : PT X e t := ⟨fun pins s σ H Q I q => h.run pins s σ H Q I (w _ _ _ q)⟩
theorem PWi {e : Expr} {t t' : TT} (h : PW X e t') (w : ∀ σ H Q, t σ H Q → t' σ H Q) : PW X e t := ⟨fun wh pins s σ H Q I q => h.run wh pins s σ H Q I (w _ _ _ q)⟩
theorem PAi {e : List Expr} {t t' : TA} (h : PA X e t') (w : ∀ σ H Q, t σ H Q → t' σ H Q) : PA X e t := ⟨fun pos pins s σ H Q I q => h.run pos pins s σ H Q I (w _ _ _ q)⟩
theorem PSi {e : Stmt} {t t' : TS} (h : PS X e t') (w : ∀ E σ H, t E σ H → t' E σ H) : PS X e t := ⟨fun pins s σ H E I q => h.run pins s σ H E I (w _ _ _ q)⟩
theorem PSsi {e : List Stmt} {t t' : TS} (h : PSs X e t') (w : ∀ E σ H, t E σ H → t' E σ H) : PSs X e t := ⟨fun pins s σ H E I q => h.run pins s σ H E I (w _ _ _ q)⟩
theorem OpRi {f : Value → Value → Sem Value} {r r' : R2} (h : OpR X f r') (w : ∀ x y H Q, r x y H Q → r' x y H Q) : OpR X f r := fun pins s σ H x y v u Q I rx ry q => h pins s σ H x y v u Q I rx ry (w _ _ _ _ q)
theorem CallRi {f : Value} {r r' : List V → Hp → VK → Prop} (h : CallR X f r') (w : ∀ xs H Q, r xs H Q → r' xs H Q) : CallR X f r := fun pins s σ H xs us Q I rs q => h pins s σ H xs us Q I rs (w _ _ _ q)
end

/-! ### values by two, by many -/
abbrev R2D := D → D → Store → KD → Prop
abbrev R1D := D → Store → KD → Prop
abbrev RAD := List D → Store → KD → Prop
def lift2 (K : PySem.W.Frag) (r : R2D) : R2 := fun x y H Q => ∃ dx dy S Q0, RD K H dx x ∧ RD K H dy y ∧ RS K H S ∧ r dx dy S Q0 ∧ ∀ d S' v H', Q0 d S' → Ext K H H' → RD K H' d v → RS K H' S' → Q v H'
def liftC (K : PySem.W.Frag) (r : RAD) : List V → Hp → VK → Prop := fun xs H Q => ∃ ds S Q0, RDs K H ds xs ∧ RS K H S ∧ r ds S Q0 ∧ ∀ d S' v H', Q0 d S' → Ext K H H' → RD K H' d v → RS K H' S' → Q v H'
def OpD (X : Cx) (f : Value → Value → Sem Value) (r : R2D) : Prop := OpR X f (lift2 X.K r)
def CallD (X : Cx) (f : Value) (r : RAD) : Prop := CallR X f (liftC X.K r)

/-! ### names, constants -/
def tVarD (i : Nat) : TED := fun δ S Q => match lk δ i with
  | some d => Q d S
  | none => False
def tCD (d : D) : TED := fun _ S Q => Q d S
section
variable {X : Cx} {pos : Pos}
theorem dv (i : Nat) {x : Str} (hN : X.N[i]? = some x := by rfl) (hv : Vis X.env.scope x := by first | exact Or.inl rfl | exact Or.inr (Or.inl rfl) | exact Or.inr (Or.inr rfl)) (hd : (x == ("__debug__" : Str)) = false := by decide)
    (hcd : (x == ("__classdict__" : Str)) = false := by decide) : DE X (.Name x pos) (tVarD i) := PEi (pe_var hN hv hd hcd) fun σ H Q h => by
  obtain ⟨δ, S, Q0, h1, h2, h3, h4⟩ := h
  unfold tVarD at h3
  split at h3
  · rename_i d e
    obtain ⟨v, e1, q⟩ := h1.lk e
    exact ⟨v, e1, h4 _ _ _ _ h3 .refl q h2⟩
  · cases h3
theorem de_c {e : Expr} {d : D} {v : V} (h : PE X e (tC v)) (r : ∀ H, RD X.K H d v) : DE X e (tCD d) := PEi h fun σ H Q q => by
  obtain ⟨δ, S, Q0, h1, h2, h3, h4⟩ := q
  exact h4 _ _ _ _ h3 .refl (r H) h2
theorem de_int {i j} : DE X (.Constant (.int i) j pos) (tCD (.int i)) := de_c pe_int fun _ => rfl
theorem de_bl {b j} : DE X (.Constant (.bool b) j pos) (tCD (.bl b)) := de_c pe_bl fun _ => rfl
theorem de_non {j} : DE X (.Constant .none j pos) (tCD .non) := de_c pe_non fun _ => rfl
theorem de_str {x j} : DE X (.Constant (.str x) j pos) (tCD (.str x)) := de_c pe_str fun _ => rfl
end

/-! ### operators -/
section
variable {X : Cx} {pos : Pos} {a b c e : Expr} {ta tb tc te : TED} {tt : TTD}
def tOpD (r : R2D) (ta tb : TED) : TED := fun δ S Q => ta δ S fun x S1 => tb δ S1 fun y S2 => r x y S2 Q
theorem op_lift {r : R2D} {σ : L2.St} {H : Hp} {Q : VK} (h : liftE X.K (tOpD r ta tb) σ H Q) : tOp (lift2 X.K r) (liftE X.K ta) (liftE X.K tb) σ H Q := by
  obtain ⟨δ, S, Q0, h1, h2, h3, h4⟩ := h
  refine ⟨δ, S, _, h1, h2, h3, fun x S1 v H1 q e1 r1 s1 => ⟨δ, S1, _, h1.ext e1, s1, q, fun y S2 w H2 q2 e2 r2 s2 => ⟨x, y, S2, Q0, r1.ext e2, r2, s2, q2, fun d S' z H' q3 e3 r3 s3 => h4 d S' z H' q3 (e1.trans (e2.trans e3)) r3 s3⟩⟩⟩
theorem de_op {op : Operator} {r : R2D} (ho : OpD X (binaryOp op) r) (ha : DE X a ta) (hb : DE X b tb) : DE X (.BinOp a op b pos) (tOpD r ta tb) := PEi (pe_op ho ha hb) fun _ _ _ h => op_lift h
theorem de_cmp {op : CmpOp} {r : R2D} (ho : OpD X (compareOp op) r) (ha : DE X a ta) (hb : DE X b tb) (hm : behindInMarks op b = false) : DE X (.Compare a [op] [b] pos) (tOpD r ta tb) := PEi (pe_cmpR ho ha hb hm) fun _ _ _ h => op_lift h
/-- the answer of an expression that tells a truth, as a test -/
def tTestD (t : TED) : TTD := fun δ S Q => t δ S fun x S1 => match x with
  | .bl k => Q k S1
  | _ => False
theorem test_lift {σ : L2.St} {H : Hp} {Q : Bool → Hp → Prop} (h : liftT X.K (tTestD te) σ H Q) : tB (liftE X.K te) σ H Q := by
  obtain ⟨δ, S, Q0, h1, h2, h3, h4⟩ := h
  refine ⟨δ, S, _, h1, h2, h3, fun x S1 v H1 q e1 r1 s1 => ?_⟩
  cases x with
  | bl k => exact ⟨k, r1, h4 _ _ _ q e1 s1⟩
  | _ => cases q
theorem dt_cmp {op : CmpOp} {r : R2D} (ho : OpD X (compareOp op) r) (ha : DE X a ta) (hb : DE X b tb) (hm : behindInMarks op b = false) : DT X (.Compare a [op] [b] pos) (tTestD (tOpD r ta tb)) := PTi (pt_cmpR ho ha hb hm) fun σ H Q h => by
  obtain ⟨k, S, Q0, h1, h2, h3, h4⟩ := test_lift h
  exact op_lift (X := X) ⟨k, S, Q0, h1, h2, h3, h4⟩
/-- a call, a name that tells a truth, as a test -/
theorem dt_val (h : DE X e te) (he : ∀ whole, isTrue e X.env whole = (do let v ← whole; standAt e.pos; holding [v] (truthy v)) := by intro _; rfl) : DT X e (tTestD te) := PTi (pt_val h he) fun _ _ _ q => test_lift q
def tAndD (t u : TTD) : TTD := fun δ S Q => t δ S fun c S1 => if c = true then u δ S1 Q else Q false S1
def tOrD (t u : TTD) : TTD := fun δ S Q => t δ S fun c S1 => if c = true then Q true S1 else u δ S1 Q
def tNotD (t : TTD) : TTD := fun δ S Q => t δ S fun c S1 => Q (!c) S1
variable {rest : List Expr} {tA tB : TTD}
theorem dw_and1 (ha : DT X a tA) : DW X (.BoolOp .And [a] pos) tA := pw_and1 ha
theorem dw_or1 (ha : DT X a tA) : DW X (.BoolOp .Or [a] pos) tA := pw_or1 ha
theorem dw_and (ha : DT X a tA) (hb : DW X (.BoolOp .And (b :: rest) pos) tB) : DW X (.BoolOp .And (a :: b :: rest) pos) (tAndD tA tB) := PWi (pw_and ha hb) fun σ H Q h => by
  obtain ⟨δ, S, Q0, h1, h2, h3, h4⟩ := h
  refine ⟨δ, S, _, h1, h2, h3, fun c S1 H1 q e1 s1 => ?_⟩
  cases c with
  | true => exact ⟨δ, S1, Q0, h1.ext e1, s1, q, fun b' S' H' q' e' s' => h4 b' S' H' q' (e1.trans e') s'⟩
  | false => exact h4 _ _ _ q e1 s1
theorem dw_or (ha : DT X a tA) (hb : DW X (.BoolOp .Or (b :: rest) pos) tB) : DW X (.BoolOp .Or (a :: b :: rest) pos) (tOrD tA tB) := PWi (pw_or ha hb) fun σ H Q h => by
  obtain ⟨δ, S, Q0, h1, h2, h3, h4⟩ := h
  refine ⟨δ, S, _, h1, h2, h3, fun c S1 H1 q e1 s1 => ?_⟩
  cases c with
  | true => exact h4 _ _ _ q e1 s1
  | false => exact ⟨δ, S1, Q0, h1.ext e1, s1, q, fun b' S' H' q' e' s' => h4 b' S' H' q' (e1.trans e') s'⟩
theorem dt_w (h : DW X e tt) : DT X e tt := PW.pt h
theorem dt_not (ha : DT X a tA) : DT X (.UnaryOp .Not a pos) (tNotD tA) := PTi (pt_not ha) fun σ H Q h => by
  obtain ⟨δ, S, Q0, h1, h2, h3, h4⟩ := h
  exact ⟨δ, S, _, h1, h2, h3, fun c S1 H1 q e1 s1 => h4 _ _ _ q e1 s1⟩
/-- and, or, not as values: of truths -/
def tAndV (ta tb : TED) : TED := fun δ S Q => ta δ S fun x S1 => match x with
  | .bl c => if c = true then tb δ S1 Q else Q (.bl false) S1
  | _ => False
def tOrV (ta tb : TED) : TED := fun δ S Q => ta δ S fun x S1 => match x with
  | .bl c => if c = true then Q (.bl true) S1 else tb δ S1 Q
  | _ => False
def tNotV (ta : TED) : TED := fun δ S Q => ta δ S fun x S1 => match x with
  | .bl c => Q (.bl (!c)) S1
  | _ => False
theorem de_one {op} (h : DE X a ta) : DE X (.BoolOp op [a] pos) ta := pe_one h
theorem de_and (ha : DE X a ta) (hb : DE X (.BoolOp .And (b :: rest) pos) tb) : DE X (.BoolOp .And (a :: b :: rest) pos) (tAndV ta tb) := PEi (pe_and ha hb) fun σ H Q h => by
  obtain ⟨δ, S, Q0, h1, h2, h3, h4⟩ := h
  refine ⟨δ, S, _, h1, h2, h3, fun x S1 v H1 q e1 r1 s1 => ?_⟩
  cases x with
  | bl k =>
    refine ⟨k, r1, ?_⟩
    cases k with
    | true => exact ⟨δ, S1, Q0, h1.ext e1, s1, q, fun b' S' w H' q' e' r' s' => h4 b' S' w H' q' (e1.trans e') r' s'⟩
    | false => exact h4 _ _ _ _ q e1 rfl s1
  | _ => cases q
theorem de_or (ha : DE X a ta) (hb : DE X (.BoolOp .Or (b :: rest) pos) tb) : DE X (.BoolOp .Or (a :: b :: rest) pos) (tOrV ta tb) := PEi (pe_or ha hb) fun σ H Q h => by
  obtain ⟨δ, S, Q0, h1, h2, h3, h4⟩ := h
  refine ⟨δ, S, _, h1, h2, h3, fun x S1 v H1 q e1 r1 s1 => ?_⟩
  cases x with
  | bl k =>
    refine ⟨k, r1, ?_⟩
    cases k with
    | false => exact ⟨δ, S1, Q0, h1.ext e1, s1, q, fun b' S' w H' q' e' r' s' => h4 b' S' w H' q' (e1.trans e') r' s'⟩
    | true => exact h4 _ _ _ _ q e1 rfl s1
  | _ => cases q
theorem de_not (ha : DE X a ta) : DE X (.UnaryOp .Not a pos) (tNotV ta) := PEi (pe_not ha) fun σ H Q h => by
  obtain ⟨δ, S, Q0, h1, h2, h3, h4⟩ := h
  refine ⟨δ, S, _, h1, h2, h3, fun x S1 v H1 q e1 r1 s1 => ?_⟩
  cases x with
  | bl k => exact ⟨k, r1, h4 _ _ _ _ q e1 rfl s1⟩
  | _ => cases q
def tIfD (t : TTD) (ta tb : TED) : TED := fun δ S Q => t δ S fun c S1 => if c = true then ta δ S1 Q else tb δ S1 Q
theorem de_if (hc : DT X c tt) (ha : DE X a ta) (hb : DE X b tb) : DE X (.IfExp c a b pos) (tIfD tt ta tb) := PEi (pe_ifExp hc ha hb) fun σ H Q h => by
  obtain ⟨δ, S, Q0, h1, h2, h3, h4⟩ := h
  refine ⟨δ, S, _, h1, h2, h3, fun k S1 H1 q e1 s1 => ?_⟩
  cases k with
  | true => exact ⟨δ, S1, Q0, h1.ext e1, s1, q, fun b' S' w H' q' e' r' s' => h4 b' S' w H' q' (e1.trans e') r' s'⟩
  | false => exact ⟨δ, S1, Q0, h1.ext e1, s1, q, fun b' S' w H' q' e' r' s' => h4 b' S' w H' q' (e1.trans e') r' s'⟩
/-- a negative number -/
def tNegD (ta : TED) : TED := fun δ S Q => ta δ S fun x S1 => match x with
  | .int i => Q (.int (-i)) S1
  | _ => False
theorem de_neg (ha : DE X a ta) : DE X (.UnaryOp .USub a pos) (tNegD ta) := PEi (pe_un un_neg ha) fun σ H Q h => by
  obtain ⟨δ, S, Q0, h1, h2, h3, h4⟩ := h
  refine ⟨δ, S, _, h1, h2, h3, fun x S1 v H1 q e1 r1 s1 => ?_⟩
  cases x with
  | int i => exact ⟨i, r1, h4 _ _ _ _ q e1 rfl s1⟩
  | _ => cases q
end

/-! ### arguments, tuples, lists -/
section
variable {X : Cx} {pos : Pos} {e : Expr} {es : List Expr} {te : TED} {t : TAD}
def tNilD : TAD := fun _ S Q => Q [] S
def tConsD (te : TED) (t : TAD) : TAD := fun δ S Q => te δ S fun x S1 => t δ S1 fun xs S2 => Q (x :: xs) S2
theorem da_nil : DA X [] tNilD := PAi pa_nil fun σ H Q h => by
  obtain ⟨δ, S, Q0, h1, h2, h3, h4⟩ := h
  exact h4 _ _ _ _ h3 .refl rfl h2
theorem da_cons (ha : DE X e te) (hr : DA X es t) (hs : starEach (e :: es) X.env = (false, eval e X.env) :: starEach es X.env := by rfl) : DA X (e :: es) (tConsD te t) := PAi (pa_cons ha hr hs) fun σ H Q h => by
  obtain ⟨δ, S, Q0, h1, h2, h3, h4⟩ := h
  refine ⟨δ, S, _, h1, h2, h3, fun x S1 v H1 q e1 r1 s1 => ⟨δ, S1, _, h1.ext e1, s1, q, fun xs S2 vs H2 q2 e2 r2 s2 => h4 _ _ _ _ q2 (e1.trans e2) ⟨v, vs, rfl, r1.ext e2, r2⟩ s2⟩⟩
def tTupD (t : TAD) : TED := fun δ S Q => t δ S fun xs S1 => xs.length ≤ sizeLine ∧ Q (.tup xs) S1
def tLstD (t : TAD) : TED := fun δ S Q => t δ S fun xs S1 => xs.length ≤ sizeLine ∧ ∀ p, S1 p = none → Q (.ref p) (put S1 p (.lst xs))
theorem RD.newTup {K : PySem.W.Frag} {H : Hp} {p : Addr} {ds : List D} {vs : List V} (n : H p = none) (h : RDs K H ds vs) : RD K (upd H p (.tup vs)) (.tup ds) (.ref p) := ⟨p, vs, rfl, SqT.of upd_same, h.ext (Ext.new n)⟩
theorem RS.newLst {K : PySem.W.Frag} {H : Hp} {S : Store} {p : Addr} {ds : List D} {vs : List V} (s : RS K H S) (n : H p = none) (h : RDs K H ds vs) : RS K (upd H p (.lst vs)) (DL.put S p (.lst ds)) := s.new n ⟨vs, upd_same, h.ext (Ext.new n)⟩
theorem de_tup {x1} (h : DA X es t) : DE X (.Tuple es x1 pos) (tTupD t) := PEi (pe_tup h) fun σ H Q q => by
  obtain ⟨δ, S, Q0, h1, h2, h3, h4⟩ := q
  refine ⟨δ, S, _, h1, h2, h3, fun xs S1 vs H1 q1 e1 r1 s1 => ⟨by rw [r1.length]; exact q1.1, fun p np => ?_⟩⟩
  exact h4 _ _ _ _ q1.2 (e1.trans (Ext.new np)) (.newTup np r1) (s1.grow np)
theorem de_lst (h : DA X es t) : DE X (.List es pos) (tLstD t) := PEi (pe_lst h) fun σ H Q q => by
  obtain ⟨δ, S, Q0, h1, h2, h3, h4⟩ := q
  refine ⟨δ, S, _, h1, h2, h3, fun xs S1 vs H1 q1 e1 r1 s1 => ⟨by rw [r1.length]; exact q1.1, fun p np => ?_⟩⟩
  exact h4 _ _ _ _ (q1.2 p (s1.free np)) (e1.trans (Ext.new np)) rfl (s1.newLst np r1)
end

/-! ### statements -/
section
variable {X : Cx} {pos : Pos} {st : Stmt} {rest : List Stmt} {t u : TSD} {e : Expr} {te : TED} {tt : TTD}
def tNextD : TSD := fun G δ S => G.nx δ S
def tSeqD (t u : TSD) : TSD := fun G δ S => t { G with nx := u G } δ S
def tRetD (te : TED) : TSD := fun G δ S => te δ S G.rt
def tDropD (te : TED) : TSD := fun G δ S => te δ S fun _ S1 => G.nx δ S1
def tIfSD (c : TTD) (t u : TSD) : TSD := fun G δ S => c δ S fun b S1 => if b = true then t G δ S1 else u G δ S1
def tBreakD : TSD := fun G δ S => G.bk δ S
def tContD : TSD := fun G δ S => G.ct δ S
theorem lift_shift {K : PySem.W.Frag} {G : EndsD} {E : Ends} {δ : StD} {S : Store} {σ : L2.St} {H H1 : Hp} {t : TSD} (e : Ext K H H1) (h1 : RSt K H1 δ σ) (h2 : RS K H1 S) (h : t G δ S)
    (n : ∀ δ' S' σ' H', G.nx δ' S' → Ext K H H' → RSt K H' δ' σ' → RS K H' S' → E.nx σ' H') (r : ∀ d S' v H', G.rt d S' → Ext K H H' → RD K H' d v → RS K H' S' → E.rt v H')
    (b : ∀ δ' S' σ' H', G.bk δ' S' → Ext K H H' → RSt K H' δ' σ' → RS K H' S' → E.bk σ' H') (c : ∀ δ' S' σ' H', G.ct δ' S' → Ext K H H' → RSt K H' δ' σ' → RS K H' S' → E.ct σ' H') : liftS K t E σ H1 :=
  ⟨δ, S, G, h1, h2, h, fun δ' S' σ' H' q x => n δ' S' σ' H' q (e.trans x), fun d S' v H' q x => r d S' v H' q (e.trans x), fun δ' S' σ' H' q x => b δ' S' σ' H' q (e.trans x), fun δ' S' σ' H' q x => c δ' S' σ' H' q (e.trans x)⟩
theorem dss_nil : DSs X [] tNextD := PSsi pss_nil fun E σ H h => by
  obtain ⟨δ, S, G, h1, h2, h3, n, r, b, c⟩ := h
  exact n _ _ _ _ h3 .refl h1 h2
theorem dss_cons (h1 : DS X st t) (h2 : DSs X rest u) : DSs X (st :: rest) (tSeqD t u) := PSsi (pss_cons h1 h2) fun E σ H h => by
  obtain ⟨δ, S, G, h1, h2, h3, n, r, b, c⟩ := h
  exact ⟨δ, S, _, h1, h2, h3, fun δ' S' σ' H' q x h1' h2' => lift_shift x h1' h2' q n r b c, r, b, c⟩
theorem dss_one (h1 : DS X st t) : DSs X [st] t := pss_one h1
theorem ds_pass : DS X (.Pass pos) tNextD := PSi ps_pass fun E σ H h => by
  obtain ⟨δ, S, G, h1, h2, h3, n, r, b, c⟩ := h
  exact n _ _ _ _ h3 .refl h1 h2
theorem ds_break : DS X (.Break pos) tBreakD := PSi ps_break fun E σ H h => by
  obtain ⟨δ, S, G, h1, h2, h3, n, r, b, c⟩ := h
  exact b _ _ _ _ h3 .refl h1 h2
theorem ds_cont : DS X (.Continue pos) tContD := PSi ps_continue fun E σ H h => by
  obtain ⟨δ, S, G, h1, h2, h3, n, r, b, c⟩ := h
  exact c _ _ _ _ h3 .refl h1 h2
theorem ds_expr (he : DE X e te) (hs : swapsWith e none pos.line X.env = pure false := by rfl) : DS X (.Expr e pos) (tDropD te) := PSi (ps_expr he hs) fun E σ H h => by
  obtain ⟨δ, S, G, h1, h2, h3, n, r, b, c⟩ := h
  exact ⟨δ, S, _, h1, h2, h3, fun d S1 v H1 q e1 r1 s1 => n _ _ _ _ q e1 (h1.ext e1) s1⟩
theorem ds_ret (he : DE X e te) : DS X (.Return (some e) pos) (tRetD te) := PSi (ps_ret he) fun E σ H h => by
  obtain ⟨δ, S, G, h1, h2, h3, n, r, b, c⟩ := h
  exact ⟨δ, S, _, h1, h2, h3, fun d S1 v H1 q e1 r1 s1 => r _ _ _ _ q e1 r1 s1⟩
def tRetND : TSD := fun G _ S => G.rt .non S
theorem ds_retN : DS X (.Return none pos) tRetND := PSi ps_retN fun E σ H h => by
  obtain ⟨δ, S, G, h1, h2, h3, n, r, b, c⟩ := h
  exact r _ _ _ _ h3 .refl rfl h2
theorem ds_if {c : Expr} {x y : List Stmt} (hc : DT X c tt) (ha : DSs X x t) (hb : DSs X y u) : DS X (.If c x y pos) (tIfSD tt t u) := PSi (ps_if hc ha hb) fun E σ H h => by
  obtain ⟨δ, S, G, h1, h2, h3, n, r, b, c⟩ := h
  refine ⟨δ, S, _, h1, h2, h3, fun k S1 H1 q e1 s1 => ?_⟩
  cases k with
  | true => exact lift_shift e1 (h1.ext e1) s1 q n r b c
  | false => exact lift_shift e1 (h1.ext e1) s1 q n r b c
def tNeverD : TSD := fun _ _ _ => False
theorem ds_never : DS X st tNeverD := PSi ps_never fun E σ H h => by
  obtain ⟨δ, S, G, h1, h2, h3, n, r, b, c⟩ := h
  exact h3
theorem dss_never : DSs X rest tNeverD := PSsi pss_never fun E σ H h => by
  obtain ⟨δ, S, G, h1, h2, h3, n, r, b, c⟩ := h
  exact h3
end

/-! ### targets: a name, several names -/
inductive GD where
  | one (i : Nat) | many (is : List Nat)
def gNames : List Nat → TGs
  | [] => gNil
  | i :: r => gCons (gName i) (gNames r)
def realG (K : PySem.W.Frag) : GD → TG
  | .one i => gName i
  | .many is => gTup K is.length (gNames is)
def stos : StD → List Nat → List D → StD
  | δ, i :: is, d :: ds => stos (sto δ i (some d)) is ds
  | δ, _, _ => δ
def asg : GD → D → StD → Store → (StD → Store → Prop) → Prop
  | .one i, d, δ, S, Q => Q (sto δ i (some d)) S
  | .many is, .tup ds, δ, S, Q => ds.length = is.length ∧ Q (stos δ is ds) S
  | _, _, _, _, _ => False
def DG (X : Cx) (tg : Expr) (g : GD) : Prop := PG X tg (realG X.K g)
def DGs (X : Cx) (ts : List Expr) (is : List Nat) : Prop := PGs X ts (gNames is)
section
variable {X : Cx} {pos : Pos} {tg e : Expr} {te : TED} {g : GD}
theorem dg_name {i : Nat} {x : Str} (hN : X.N.Nodup) (hi : X.N[i]? = some x) (hx : Loc X.env.scope x) (hf : X.fn x = true ∨ X.env.scope.names.lookup x = some .local := by first | exact .inl rfl | exact .inr rfl | assumption) : DG X (.Name x pos) (.one i) := pg_name hN hi hx hf
theorem dgs_nil : DGs X [] [] := pgs_nil
theorem dgs_cons {es : List Expr} {i : Nat} {is : List Nat} (h1 : DG X e (.one i)) (h2 : DGs X es is) (hs : (assignEach (e :: es) X.env).map (·.2) = assign e X.env :: (assignEach es X.env).map (·.2) := by rfl) : DGs X (e :: es) (i :: is) := pgs_cons h1 h2 hs
theorem dg_tup {es : List Expr} {k : Nat} {is : List Nat} (hc : X.calm = true) (h : DGs X es is) (hn : (assignEach es X.env).length = is.length := by rfl) (hst : (assignEach es X.env).findIdx? (·.1) = none := by rfl) : DG X (.Tuple es k pos) (.many is) := pg_tup hc h hn hst
/-- the real slots behind several stores -/
def sets : L2.St → List Nat → List V → L2.St
  | σ, i :: is, v :: vs => sets (σ.set i (some v)) is vs
  | σ, _, _ => σ
theorem gNames_at : ∀ {is : List Nat} {vs : List V} {σ : L2.St} {H : Hp} {Q : L2.St → Hp → Prop}, vs.length = is.length → Q (sets σ is vs) H → gNames is vs σ H Q
  | [], [], _, _, _, _, q => ⟨rfl, q⟩
  | i :: is, v :: vs, σ, H, Q, e, q => ⟨v, vs, rfl, gNames_at (by simpa using e) q⟩
theorem RSt.sets {K : PySem.W.Frag} {H : Hp} : ∀ {is : List Nat} {ds : List D} {vs : List V} {δ : StD} {σ : L2.St}, RSt K H δ σ → RDs K H ds vs → RSt K H (stos δ is ds) (DL.sets σ is vs)
  | [], _, _, _, _, h, _ => by unfold stos DL.sets; exact h
  | i :: is, [], _, _, _, h, q => by cases (show _ = [] from q); unfold stos DL.sets; exact h
  | i :: is, d :: ds, _, _, _, h, q => by
    obtain ⟨v, r, rfl, h1, h2⟩ := q
    exact RSt.sets (is := is) (h.sto h1) h2
/-- what a store does, over data -/
theorem asg_real {K : PySem.W.Frag} {g : GD} {d : D} {v : V} {δ : StD} {σ : L2.St} {S : Store} {H : Hp} {Q0 : StD → Store → Prop} {Q : L2.St → Hp → Prop} (h : asg g d δ S Q0) (rd : RD K H d v) (h1 : RSt K H δ σ) (h2 : RS K H S)
    (q : ∀ δ' σ', Q0 δ' S → RSt K H δ' σ' → Q σ' H) : realG K g v σ H Q := by
  cases g with
  | one i => exact q _ _ h (h1.sto rd)
  | many is =>
    cases d with
    | tup ds =>
      obtain ⟨hl, h⟩ := h
      obtain ⟨p, vs, rfl, ht, hd⟩ := rd
      exact ⟨p, vs, rfl, ht, by rw [hd.length]; exact hl, gNames_at (by rw [hd.length]; exact hl) (q _ _ h (h1.sets hd))⟩
    | _ => cases h
def tAsgD (te : TED) (g : GD) : TSD := fun G δ S => te δ S fun d S1 => asg g d δ S1 G.nx
theorem ds_asg (he : DE X e te) (hg : DG X tg g) (hs : swapsWithSole [tg] e pos.line X.env = pure false := by rfl) (hw : swappedStores [tg] e X.env = pure none := by rfl)
    (h1 : (assignEach [tg] X.env).map (·.2) = [assign tg X.env] := by rfl) : DS X (.Assign [tg] e pos) (tAsgD te g) := PSi (ps_asg he hg hs hw h1) fun E σ H h => by
  obtain ⟨δ, S, G, h1, h2, h3, n, r, b, c⟩ := h
  exact ⟨δ, S, _, h1, h2, h3, fun d S1 v H1 q e1 r1 s1 => asg_real q r1 (h1.ext e1) s1 fun δ' σ' q' h' => n _ _ _ _ q' e1 h' s1⟩
theorem ds_set {i : Nat} {x : Str} {pos' : Pos} (hN : X.N.Nodup) (hi : X.N[i]? = some x) (hx : Loc X.env.scope x) (he : DE X e te) (hs : swapsWith e (some (.Name x pos')) pos.line X.env = pure false := by rfl) (hf : X.fn x = true ∨ X.env.scope.names.lookup x = some .local := by first | exact .inl rfl | exact .inr rfl | assumption) :
    DS X (.Assign [.Name x pos'] e pos) (tAsgD te (.one i)) := PSi (ps_set hN hi hx he hs hf) fun E σ H h => by
  obtain ⟨δ, S, G, h1, h2, h3, n, r, b, c⟩ := h
  exact ⟨δ, S, _, h1, h2, h3, fun d S1 v H1 q e1 r1 s1 => asg_real (g := .one i) q r1 (h1.ext e1) s1 fun δ' σ' q' h' => n _ _ _ _ q' e1 h' s1⟩
end

/-! ### defs and calls -/
abbrev SpD := List D → Store → KD → Prop
def liftSp (K : PySem.W.Frag) (sp : SpD) : Sp := fun vs H Q _ => ∃ ds S Q0, RDs K H ds vs ∧ RS K H S ∧ sp ds S Q0 ∧ ∀ d S' v H', Q0 d S' → Ext K H H' → RD K H' d v → RS K H' S' → Q v H'
/-- the def of that name keeps its promise -/
def Df (P : Program) (w : World) (K : PySem.W.Frag) (mg : Str → Option Value) (base : Heap) (x : Str) (k : Nat) (sp : SpD) : Prop :=
  ∃ f fd ps, FnOk P w K mg base CX0 k f fd ps (liftSp K sp) ∧ mg x = some (.ref f) ∧ PySem.W.keepIn K (.ref f) = true ∧ Binds K fd ps []
/-- the def of that name stands as the text says -/
def At (K : PySem.W.Frag) (mg : Str → Option Value) (g x : Str) (st : Stmt) : Prop := ∃ f fd, Fun K x x st f fd ∧ mg g = some (.ref f)
/-- a module's constant -/
def Cst (K : PySem.W.Frag) (mg : Str → Option Value) (x : Str) (d : D) : Prop := ∃ v u, mg x = some u ∧ RelV v u ∧ ∀ H, RD K H d v
section
variable {P : Program} {w : World} {K : PySem.W.Frag} {mg : Str → Option Value} {base : Heap}
theorem Df.mono {x : Str} {j k : Nat} {sp : SpD} (h : Df P w K mg base x j sp) (l : j ≤ k) : Df P w K mg base x k sp := by
  obtain ⟨f, fd, ps, h1, h2⟩ := h
  exact ⟨f, fd, ps, h1.mono l, h2⟩
theorem Df.imp {x : Str} {k : Nat} {sp sp' : SpD} (h : Df P w K mg base x k sp) (l : ∀ ds S Q, sp' ds S Q → sp ds S Q) : Df P w K mg base x k sp' := by
  obtain ⟨f, fd, ps, h1, h2⟩ := h
  exact ⟨f, fd, ps, h1.imp fun vs H Q E ⟨ds, S, Q0, a, b, c, d⟩ => ⟨ds, S, Q0, a, b, l _ _ _ c, d⟩, h2⟩
/-- a def's end: what is made within may be forgotten -/
def endsD (Q : KD) : EndsD := { nx := fun _ S' => ∃ S'', Sub S'' S' ∧ Q .non S'', rt := fun d S' => ∃ S'', Sub S'' S' ∧ Q d S'' }
theorem df_mk {g x : Str} {st : Stmt} {N ps : List Str} {k : Nat} {sp : SpD} {sc : Scope} (A : At K mg g x st) (hsc : defScope st = sc) (SC : FnScope N ps sc)
    (hbi : ∀ (kV doc pm : Value) (an : Option Addr) (cdv ct : Value) (us : List Value), us.length = ps.length → bindArgs (PySem.W.fnOf x x (defArgs st) (defBody st) (defScope st) .none kV doc pm an cdv ct) ⟨us, []⟩ = pure (ps.zip us))
    (len : ∀ ds S Q, sp ds S Q → ds.length = ps.length)
    (hbody : ∀ (f : Addr) (cdv : Value) (A : Around) (outer : List Env) (s : Shared) (H : Hp) (E : XK), Room k (A.deeper (envOfC x sc s.heap.objs.size f cdv)) → ∀ ds S Q, sp ds S Q →
      ∃ t, DSs (cxOf CX0 P w K mg base N x sc f cdv A outer s H E).nox (defBody st) t ∧ t (endsD Q) (startD N ds) S) : Df P w K mg base g (k + 1) sp := by
  obtain ⟨f, fd, F, hm⟩ := A
  refine ⟨f, fd, ps, ?_, hm, F.kp, F.binds hbi⟩
  subst hsc
  refine F.ok SC (fun vs H Q E h => ?_) (fun cdv A outer s H vs Q E hr h => ?_)
  · obtain ⟨ds, S, Q0, h1, h2, h3, h4⟩ := h
    rw [h1.length, len _ _ _ h3]
  · obtain ⟨ds, S, Q0, h1, h2, h3, h4⟩ := h
    obtain ⟨t, ht, q⟩ := hbody f cdv A outer s H E hr ds S Q0 h3
    refine ⟨_, ht, startD N ds, S, _, ?_, h2, q, fun δ' S' σ' H' n e r' s' => ?_, fun d S' v H' n e r' s' => ?_, fun _ _ _ _ n => n.elim, fun _ _ _ _ n => n.elim⟩
    · unfold startD L2.start
      rw [← h1.length]
      exact RSt.args h1
    · obtain ⟨S'', hs, q⟩ := n
      exact h4 _ _ _ _ q e rfl (s'.sub hs)
    · obtain ⟨S'', hs, q⟩ := n
      exact h4 _ _ _ _ q e r' (s'.sub hs)
end
section
variable {X : Cx} {pos p : Pos} {e : Expr} {es : List Expr} {t : TAD} {x : Str} {k : Nat} {sp : SpD}
theorem de_cst {d : D} (hg : Gl X x) (h : Cst X.K X.mg x d) (hdb : (x == ("__debug__" : Str)) = false := by decide) : DE X (.Name x pos) (tCD d) := by
  obtain ⟨v, u, hm, r, hd⟩ := h
  exact de_c (pe_glob hg hm r hdb) hd
def tCallD (sp : SpD) (t : TAD) : TED := fun δ S Q => t δ S fun ds S1 => sp ds S1 Q
theorem call_lift {σ : L2.St} {H : Hp} {Q : VK} (h : liftE X.K (tCallD sp t) σ H Q) : tCall (liftSp X.K sp) [] E0 (liftA X.K t) σ H Q := by
  obtain ⟨δ, S, Q0, h1, h2, h3, h4⟩ := h
  refine ⟨δ, S, _, h1, h2, h3, fun ds S1 vs H1 q e1 r1 s1 => ?_⟩
  show liftSp X.K sp (vs ++ []) H1 Q E0
  rw [List.append_nil]
  exact ⟨ds, S1, Q0, r1, s1, q, fun d S' v H' q' e' r' s' => h4 _ _ _ _ q' (e1.trans e') r' s'⟩
theorem de_call (F : Df X.prog X.w X.K X.mg X.base x k sp) (hr : Room k X.A) (hg : Gl X x) (ha : DA X (e :: es) t) (hd : (x == ("__debug__" : Str)) = false := by decide) (he : starEach (e :: es) X.env = (false, eval e X.env) :: starEach es X.env := by rfl) (hpl : (backTo pos (starEach es X.env)).any (·.1) = false := by rfl) : DE X (.Call (.Name x p) (e :: es) [] pos) (tCallD sp t) := by
  obtain ⟨f, fd, ps, h1, h2, h3, h4⟩ := F
  exact PEi (pe_call h1 hr hg h2 h3 h4 .nil pass0 ha hd he hpl) fun _ _ _ h => call_lift h
theorem de_call0 (F : Df X.prog X.w X.K X.mg X.base x k sp) (hr : Room k X.A) (hg : Gl X x) (hd : (x == ("__debug__" : Str)) = false := by decide) : DE X (.Call (.Name x p) [] [] pos) (tCallD sp tNilD) := by
  obtain ⟨f, fd, ps, h1, h2, h3, h4⟩ := F
  refine PEi (pe_call0 h1 hr hg h2 h3 h4 .nil pass0 hd) fun σ H Q h => ?_
  obtain ⟨δ, S, Q0, g1, g2, g3, g4⟩ := h
  exact ⟨[], S, Q0, rfl, g2, g3, g4⟩
/-- a built-in by its name -/
theorem callB_lift {r : RAD} {σ : L2.St} {H : Hp} {Q : VK} (h : liftE X.K (tCallD r t) σ H Q) : tCB (liftC X.K r) (liftA X.K t) σ H Q := by
  obtain ⟨δ, S, Q0, h1, h2, h3, h4⟩ := h
  exact ⟨δ, S, _, h1, h2, h3, fun ds S1 vs H1 q e1 r1 s1 => ⟨ds, S1, Q0, r1, s1, q, fun d S' v H' q' e' r' s' => h4 _ _ _ _ q' (e1.trans e') r' s'⟩⟩
theorem de_callB {id : String} {r : RAD} (hc : CallD X (.builtin id) r) (hg : Gl X x) (hm : X.mg x = none) (hv : bootBuiltins x = some (.builtin id)) (ha : DA X (e :: es) t) (hn : x ≠ "__name__" := by decide) (hdb : (x == ("__debug__" : Str)) = false := by decide) (he : starEach (e :: es) X.env = (false, eval e X.env) :: starEach es X.env := by rfl) (hpl : (backTo pos (starEach es X.env)).any (·.1) = false := by rfl) :
    DE X (.Call (.Name x p) (e :: es) [] pos) (tCallD r t) := PEi (pe_callB hc hg hm hv ha hn hdb he hpl) fun _ _ _ h => callB_lift h
theorem de_callTy {T : String} {r : RAD} (hc : CallD X (.type T) r) (hg : Gl X x) (hm : X.mg x = none) (hv : bootBuiltins x = some (.type T)) (ha : DA X (e :: es) t) (hn : x ≠ "__name__" := by decide) (hdb : (x == ("__debug__" : Str)) = false := by decide) (he : starEach (e :: es) X.env = (false, eval e X.env) :: starEach es X.env := by rfl) (hpl : (backTo pos (starEach es X.env)).any (·.1) = false := by rfl) :
    DE X (.Call (.Name x p) (e :: es) [] pos) (tCallD r t) := PEi (pe_callTy hc hg hm hv ha hn hdb he hpl) fun _ _ _ h => callB_lift h
end
end DL

set_option Elab.async false
set_option maxRecDepth 100000
/-! DLc: operators, comparisons, subscripts, slices over data. -/
namespace DL
open PySem PySem.Spec PyProof.Rows L2

section
variable {X : Cx}
/-! ### + - * // % ** -/
def oAdd : R2D := fun x y S Q => match x, y with
  | .int i, .int j => Q (.int (i + j)) S
  | .str a, .str b => a.length + b.length ≤ sizeLine ∧ Q (.str (a ++ b)) S
  | .tup a, .tup b => a.length + b.length ≤ sizeLine ∧ Q (.tup (a ++ b)) S
  | .ref a, .ref b => ∃ xs ys, S a = some (.lst xs) ∧ S b = some (.lst ys) ∧ xs.length + ys.length ≤ sizeLine ∧ ∀ p, S p = none → Q (.ref p) (put S p (.lst (xs ++ ys)))
  | _, _ => False
theorem od_add : OpD X (binaryOp .Add) oAdd := by
  intro pins s σ H x y v u Q I rx ry h
  obtain ⟨dx, dy, S, Q0, hx, hy, hs, h, q⟩ := h
  cases dx with
  | int i =>
    cases dy with
    | int j =>
      cases (show x = .int i from hx)
      cases (show y = .int j from hy)
      exact op_add pins s σ H _ _ v u Q I rx ry ⟨i, j, rfl, rfl, q _ _ _ _ h .refl rfl hs⟩
    | _ => cases h
  | str a =>
    cases dy with
    | str b =>
      cases (show x = .str a from hx)
      cases (show y = .str b from hy)
      exact op_add_str pins s σ H _ _ v u Q I rx ry ⟨a, b, rfl, rfl, h.1, q _ _ _ _ h.2 .refl rfl hs⟩
    | _ => cases h
  | tup a =>
    cases dy with
    | tup b =>
      obtain ⟨p, vs, rfl, tp, hp⟩ := hx
      obtain ⟨r, ws, rfl, tr, hr⟩ := hy
      refine op_catA pins s σ H _ _ v u Q I rx ry ⟨p, r, vs, ws, rfl, rfl, tp, tr, by rw [hp.length, hr.length]; exact h.1, fun e => ?_, fun _ e => ?_, fun _ _ z nz => ?_⟩
      · have e1 := hp.nil_iff.mp e
        subst e1
        exact q _ _ _ _ h.2 .refl ⟨r, ws, rfl, tr, hr⟩ hs
      · have e1 := hr.nil_iff.mp e
        subst e1
        have h2 := h.2
        rw [List.append_nil] at h2
        exact q _ _ _ _ h2 .refl ⟨p, vs, rfl, tp, hp⟩ hs
      · exact q _ _ _ _ h.2 (Ext.new nz) (.newTup nz (hp.append hr)) (hs.grow nz)
    | _ => cases h
  | ref a =>
    cases dy with
    | ref b =>
      cases (show x = .ref a from hx)
      cases (show y = .ref b from hy)
      obtain ⟨xs, ys, ea, eb, hl, h⟩ := h
      obtain ⟨vs, ha, ra⟩ := hs.lst ea
      obtain ⟨ws, hb, rb⟩ := hs.lst eb
      exact op_cat pins s σ H _ _ v u Q I rx ry ⟨a, b, vs, ws, rfl, rfl, ha, hb, by rw [ra.length, rb.length]; exact hl, fun p np => q _ _ _ _ (h p (hs.free np)) (Ext.new np) rfl (hs.newLst np (ra.append rb))⟩
    | _ => cases h
  | _ => cases dy <;> cases h
/-- two ints, under C -/
def oII (C : Int → Int → Prop) (g : Int → Int → D) : R2D := fun x y S Q => match x, y with
  | .int i, .int j => C i j ∧ Q (g i j) S
  | _, _ => False
theorem od_ii {f : Value → Value → Sem Value} {C : Int → Int → Prop} {g : Int → Int → V} {g' : Int → Int → D} (o : OpR X f (rI C g)) (e : ∀ i j H, RD X.K H (g' i j) (g i j)) : OpD X f (oII C g') := by
  intro pins s σ H x y v u Q I rx ry h
  obtain ⟨dx, dy, S, Q0, hx, hy, hs, h, q⟩ := h
  cases dx with
  | int i =>
    cases dy with
    | int j =>
      cases (show x = .int i from hx)
      cases (show y = .int j from hy)
      exact o pins s σ H _ _ v u Q I rx ry ⟨i, j, rfl, rfl, h.1, q _ _ _ _ h.2 .refl (e i j H) hs⟩
    | _ => cases h
  | _ => cases h
theorem rI_of {f : Value → Value → Sem Value} {g : Int → Int → V} (o : OpR X f (rI0 g)) : OpR X f (rI (fun _ _ => True) g) := OpRi o fun _ _ _ _ ⟨i, j, a, b, _, q⟩ => ⟨i, j, a, b, q⟩
def oSub : R2D := oII (fun _ _ => True) fun i j => .int (i - j)
theorem od_sub : OpD X (binaryOp .Sub) oSub := od_ii (rI_of op_sub) fun _ _ _ => rfl
def oMod : R2D := oII (fun _ j => 0 < j) fun i j => .int (i % j)
theorem od_mod : OpD X (binaryOp .Mod) oMod := od_ii op_mod fun _ _ _ => rfl
def oDiv : R2D := oII (fun _ j => 0 < j ∧ j < 1073741824) fun i j => .int (i / j)
theorem od_div : OpD X (binaryOp .FloorDiv) oDiv := od_ii op_fdiv fun _ _ _ => rfl
def oPow : R2D := oII CPow fun i j => .int (i ^ j.toNat)
theorem od_pow : OpD X (binaryOp .Pow) oPow := od_ii op_pow fun _ _ _ => rfl
def oShl : R2D := oII CPow fun i j => .int (i * 2 ^ j.toNat)
theorem od_shl : OpD X (binaryOp .LShift) oShl := od_ii op_shl fun _ _ _ => rfl
def oMul : R2D := fun x y S Q => match x, y with
  | .int i, .int j => ((-(2 ^ 64) < i ∧ i < 2 ^ 64) ∨ (-(2 ^ 64) < j ∧ j < 2 ^ 64)) ∧ Q (.int (i * j)) S
  | .ref a, .int k => ∃ xs, S a = some (.lst xs) ∧ -(2 ^ 63) ≤ k ∧ k < 2 ^ 63 ∧ xs.length * k.toNat ≤ sizeLine ∧ ∀ p, S p = none → Q (.ref p) (put S p (.lst (List.replicate k.toNat xs).flatten))
  | _, _ => False
theorem RDs.rep {K : PySem.W.Frag} {H : Hp} {ds : List D} {vs : List V} (h : RDs K H ds vs) : ∀ n : Nat, RDs K H (List.replicate n ds).flatten (List.replicate n vs).flatten
  | 0 => rfl
  | n + 1 => by
    rw [List.replicate_succ, List.replicate_succ, List.flatten_cons, List.flatten_cons]
    exact h.append (RDs.rep h n)
theorem od_mul : OpD X (binaryOp .Mult) oMul := by
  intro pins s σ H x y v u Q I rx ry h
  obtain ⟨dx, dy, S, Q0, hx, hy, hs, h, q⟩ := h
  cases dx with
  | int i =>
    cases dy with
    | int j =>
      cases (show x = .int i from hx)
      cases (show y = .int j from hy)
      exact op_mul pins s σ H _ _ v u Q I rx ry ⟨i, j, rfl, rfl, h.1, q _ _ _ _ h.2 .refl rfl hs⟩
    | _ => cases h
  | ref a =>
    cases dy with
    | int k =>
      cases (show x = .ref a from hx)
      cases (show y = .int k from hy)
      obtain ⟨xs, ea, k1, k2, k3, h⟩ := h
      obtain ⟨vs, ha, ra⟩ := hs.lst ea
      exact op_rep pins s σ H _ _ v u Q I rx ry ⟨a, k, vs, rfl, rfl, ha, k1, k2, by rw [ra.length]; exact k3, fun p np => q _ _ _ _ (h p (hs.free np)) (Ext.new np) rfl (hs.newLst np (ra.rep _))⟩
    | _ => cases h
  | _ => cases dy <;> cases h

/-! ### order -/
def oLt : R2D := fun x y S Q => match x, y with
  | .int i, .int j => Q (.bl (decide (i < j))) S
  | .str a, .str b => Q (.bl (decide (a.cps.toList < b.cps.toList))) S
  | _, _ => False
theorem od_lt : OpD X (compareOp .Lt) oLt := by
  intro pins s σ H x y v u Q I rx ry h
  obtain ⟨dx, dy, S, Q0, hx, hy, hs, h, q⟩ := h
  cases dx with
  | int i =>
    cases dy with
    | int j =>
      cases (show x = .int i from hx)
      cases (show y = .int j from hy)
      exact op_lt pins s σ H _ _ v u Q I rx ry ⟨i, j, rfl, rfl, q _ _ _ _ h .refl rfl hs⟩
    | _ => cases h
  | str i =>
    cases dy with
    | str j =>
      cases (show x = .str i from hx)
      cases (show y = .str j from hy)
      exact op_lt_str pins s σ H _ _ v u Q I rx ry ⟨i, j, rfl, rfl, q _ _ _ _ h .refl rfl hs⟩
    | _ => cases h
  | _ => cases dy <;> cases h
def oCmpI (g : Int → Int → Bool) : R2D := fun x y S Q => match x, y with
  | .int i, .int j => Q (.bl (g i j)) S
  | _, _ => False
theorem od_cmpI {f : Value → Value → Sem Value} {g : Int → Int → Bool} (o : OpR X f (rI0 fun i j => .bl (g i j))) : OpD X f (oCmpI g) := by
  intro pins s σ H x y v u Q I rx ry h
  obtain ⟨dx, dy, S, Q0, hx, hy, hs, h, q⟩ := h
  cases dx with
  | int i =>
    cases dy with
    | int j =>
      cases (show x = .int i from hx)
      cases (show y = .int j from hy)
      exact o pins s σ H _ _ v u Q I rx ry ⟨i, j, rfl, rfl, q _ _ _ _ h .refl rfl hs⟩
    | _ => cases h
  | _ => cases h
def oLe : R2D := oCmpI fun i j => decide (i ≤ j)
def oGt : R2D := oCmpI fun i j => decide (j < i)
def oGe : R2D := oCmpI fun i j => decide (j ≤ i)
theorem od_le : OpD X (compareOp .LtE) oLe := od_cmpI op_le
theorem od_gt : OpD X (compareOp .Gt) oGt := od_cmpI op_gt
theorem od_ge : OpD X (compareOp .GtE) oGe := od_cmpI op_ge

/-! ### data of any depth, ==, in -/
mutual
inductive PD (S : Store) : D → PyData → Prop
  | non : PD S .non .none
  | bl (b : Bool) : PD S (.bl b) (.bool b)
  | int (i : Int) : PD S (.int i) (.int i)
  | str (x : Str) : PD S (.str x) (.str x)
  | tup {ds : List D} {ps : List PyData} : PDs S ds ps → PD S (.tup ds) (.tuple ps)
  | rol {ds : List D} {ps : List PyData} : PDs S ds ps → PD S (.rol ds) (.list ps)
  | ftup {ds : List D} {ps : List PyData} : PDs S ds ps → PD S (.ftup ds) (.tuple ps)
  | lst {a : Addr} {ds : List D} {ps : List PyData} : S a = some (.lst ds) → PDs S ds ps → PD S (.ref a) (.list ps)
inductive PDs (S : Store) : List D → List PyData → Prop
  | nil : PDs S [] []
  | cons {d : D} {ds : List D} {p : PyData} {ps : List PyData} : PD S d p → PDs S ds ps → PDs S (d :: ds) (p :: ps)
end
mutual
theorem PD.dp {K : PySem.W.Frag} {H : Hp} {S : Store} (s : RS K H S) : ∀ (p : PyData) (d : D) (v : V), PD S d p → RD K H d v → Dp K H v p
  | .none, _, _, h, r => by cases h; cases (show _ = V.non from r); exact .non
  | .bool b, _, _, h, r => by cases h; cases (show _ = V.bl b from r); exact .bl b
  | .int i, _, _, h, r => by cases h; cases (show _ = V.int i from r); exact .int i
  | .str x, _, _, h, r => by cases h; cases (show _ = V.str x from r); exact .str x
  | .tuple ps, _, _, h, r => by
    cases h with
    | tup h =>
      obtain ⟨p, vs, rfl, ht, hd⟩ := r
      exact .tup ht (PDs.dp s ps _ _ h hd)
    | ftup h =>
      obtain ⟨p, vs, rfl, ht, hd⟩ := r
      exact .tup ht.sq (PDs.dp s ps _ _ h hd)
  | .list ps, _, _, h, r => by
    cases h with
    | rol h =>
      obtain ⟨p, vs, rfl, ht, hd⟩ := r
      exact .lst ht.sq (PDs.dp s ps _ _ h hd)
    | lst e h =>
      cases (show _ = V.ref _ from r)
      obtain ⟨vs, h1, h2⟩ := s.lst e
      exact .lst (SqL.of h1) (PDs.dp s ps _ _ h h2)
  | .dict _, _, _, h, _ => by cases h
theorem PDs.dp {K : PySem.W.Frag} {H : Hp} {S : Store} (s : RS K H S) : ∀ (ps : List PyData) (ds : List D) (vs : List V), PDs S ds ps → RDs K H ds vs → DpAll K H vs ps
  | [], _, _, h, r => by cases h; cases (show _ = [] from r); exact .nil
  | p :: ps, _, _, h, r => by
    cases h with
    | cons h1 h2 =>
      obtain ⟨v, t, rfl, r1, r2⟩ := r
      exact .cons (PD.dp s p _ _ h1 r1) (PDs.dp s ps _ _ h2 r2)
end
/-- == of anything whose data is known -/
def eqAny (f : Bool → Bool) : R2D := fun x y S Q => ∃ p q, PD S x p ∧ PD S y q ∧ SeqAt.shaped p = true ∧ SeqAt.shaped q = true ∧ Q (.bl (f (PyData.eqv p q))) S
def oEqG (f : Bool → Bool) : R2D := fun x y S Q => match x, y with
  | .int i, .int j => Q (.bl (f (decide (i = j)))) S
  | .str i, .str j => Q (.bl (f (decide (i = j)))) S
  | .bl i, .bl j => Q (.bl (f (decide (i = j)))) S
  | x, y => eqAny f x y S Q
def oEq : R2D := oEqG id
def oNe : R2D := oEqG not
theorem dec_int_eq {i j : Int} : decide (V.int i = V.int j) = decide (i = j) := by rw [Bool.eq_iff_iff]; simp
theorem dec_str_eq {i j : Str} : decide (V.str i = V.str j) = decide (i = j) := by rw [Bool.eq_iff_iff]; simp
theorem dec_bl_eq {i j : Bool} : decide (V.bl i = V.bl j) = decide (i = j) := by rw [Bool.eq_iff_iff]; simp
theorem od_eqAny (hu : X.A.units + 64 < cLine) : OpD X (compareOp .Eq) (eqAny id) := by
  intro pins s σ H x y v u Q I rx ry h
  obtain ⟨dx, dy, S, Q0, hx, hy, hs, ⟨p, r, hp, hr, sp, sr, h⟩, q⟩ := h
  exact op_eqD hu pins s σ H _ _ v u Q I rx ry ⟨p, r, PD.dp hs _ _ _ hp hx, PD.dp hs _ _ _ hr hy, sp, sr, q _ _ _ _ h .refl rfl hs⟩
theorem od_neAny (hu : X.A.units + 64 < cLine) : OpD X (compareOp .NotEq) (eqAny not) := by
  intro pins s σ H x y v u Q I rx ry h
  obtain ⟨dx, dy, S, Q0, hx, hy, hs, ⟨p, r, hp, hr, sp, sr, h⟩, q⟩ := h
  exact op_neD hu pins s σ H _ _ v u Q I rx ry ⟨p, r, PD.dp hs _ _ _ hp hx, PD.dp hs _ _ _ hr hy, sp, sr, q _ _ _ _ h .refl rfl hs⟩
theorem oEqG_cases {f : Bool → Bool} {x y : D} {S : Store} {Q : KD} (h : oEqG f x y S Q) :
    (∃ i j, x = .int i ∧ y = .int j ∧ Q (.bl (f (decide (i = j)))) S) ∨ (∃ i j, x = .str i ∧ y = .str j ∧ Q (.bl (f (decide (i = j)))) S) ∨ (∃ i j, x = .bl i ∧ y = .bl j ∧ Q (.bl (f (decide (i = j)))) S) ∨ eqAny f x y S Q := by
  unfold oEqG at h
  split at h
  · exact .inl ⟨_, _, rfl, rfl, h⟩
  · exact .inr (.inl ⟨_, _, rfl, rfl, h⟩)
  · exact .inr (.inr (.inl ⟨_, _, rfl, rfl, h⟩))
  · exact .inr (.inr (.inr h))
theorem od_eq (hu : X.A.units + 64 < cLine) : OpD X (compareOp .Eq) oEq := by
  intro pins s σ H x y v u Q I rx ry h
  obtain ⟨dx, dy, S, Q0, hx, hy, hs, h, q⟩ := h
  rcases oEqG_cases h with ⟨i, j, rfl, rfl, h⟩ | ⟨i, j, rfl, rfl, h⟩ | ⟨i, j, rfl, rfl, h⟩ | h
  · cases (show x = .int i from hx)
    cases (show y = .int j from hy)
    exact op_eq pins s σ H _ _ v u Q I rx ry ⟨rfl, by rw [dec_int_eq]; exact q _ _ _ _ h .refl rfl hs⟩
  · cases (show x = .str i from hx)
    cases (show y = .str j from hy)
    exact op_eq pins s σ H _ _ v u Q I rx ry ⟨rfl, by rw [dec_str_eq]; exact q _ _ _ _ h .refl rfl hs⟩
  · cases (show x = .bl i from hx)
    cases (show y = .bl j from hy)
    exact op_eq pins s σ H _ _ v u Q I rx ry ⟨rfl, by rw [dec_bl_eq]; exact q _ _ _ _ h .refl rfl hs⟩
  · exact od_eqAny hu pins s σ H x y v u Q I rx ry ⟨dx, dy, S, Q0, hx, hy, hs, h, q⟩
theorem od_ne (hu : X.A.units + 64 < cLine) : OpD X (compareOp .NotEq) oNe := by
  intro pins s σ H x y v u Q I rx ry h
  obtain ⟨dx, dy, S, Q0, hx, hy, hs, h, q⟩ := h
  rcases oEqG_cases h with ⟨i, j, rfl, rfl, h⟩ | ⟨i, j, rfl, rfl, h⟩ | ⟨i, j, rfl, rfl, h⟩ | h
  · cases (show x = .int i from hx)
    cases (show y = .int j from hy)
    exact op_ne pins s σ H _ _ v u Q I rx ry ⟨rfl, by rw [dec_int_eq]; exact q _ _ _ _ h .refl rfl hs⟩
  · cases (show x = .str i from hx)
    cases (show y = .str j from hy)
    exact op_ne pins s σ H _ _ v u Q I rx ry ⟨rfl, by rw [dec_str_eq]; exact q _ _ _ _ h .refl rfl hs⟩
  · cases (show x = .bl i from hx)
    cases (show y = .bl j from hy)
    exact op_ne pins s σ H _ _ v u Q I rx ry ⟨rfl, by rw [dec_bl_eq]; exact q _ _ _ _ h .refl rfl hs⟩
  · exact od_neAny hu pins s σ H x y v u Q I rx ry ⟨dx, dy, S, Q0, hx, hy, hs, h, q⟩

/-! ### in, not in: texts (or ints) in lists and tuples, keys in dicts, one text in another -/
theorem inV_strs (x : Str) (xs : List Str) : inV (.str x) (xs.map V.str) = decide (x ∈ xs) := by
  unfold inV
  rw [Bool.eq_iff_iff, List.any_map, List.any_eq_true]
  simp only [Function.comp, eqV, decide_eq_true_eq]
  constructor
  · rintro ⟨y, hy, e⟩
    have e' : y = x := by simpa using e
    exact e' ▸ hy
  · intro h
    exact ⟨x, h, by simp⟩
theorem inV_ints (x : Int) (xs : List Int) : inV (.int x) (xs.map V.int) = decide (x ∈ xs) := by
  unfold inV
  rw [Bool.eq_iff_iff, List.any_map, List.any_eq_true]
  simp only [Function.comp, eqV, decide_eq_true_eq]
  constructor
  · rintro ⟨y, hy, e⟩
    have e' : y = x := by simpa using e
    exact e' ▸ hy
  · intro h
    exact ⟨x, h, by simp⟩
theorem flat_ints (ys : List Int) : (ys.map V.int).all flatV = true := by
  rw [List.all_eq_true]
  intro y hy
  obtain ⟨z, _, rfl⟩ := List.mem_map.mp hy
  rfl
theorem flat_texts (ys : List Str) : (ys.map V.str).all flatV = true := by
  rw [List.all_eq_true]
  intro y hy
  obtain ⟨z, _, rfl⟩ := List.mem_map.mp hy
  rfl
/-- dicts: the value at a key -/
def dval (kvs : List (Key × D)) (k : Key) : Option D := (kvs.find? fun kv => decide (kv.1 = k)).map (·.2)
def dput (kvs : List (Key × D)) (k : Key) (v : D) : List (Key × D) := if (kvs.any fun kv => decide (kv.1 = k)) = true then kvs.map (fun kv => if kv.1 = k then (kv.1, v) else kv) else kvs ++ [(k, v)]
def ddrop (kvs : List (Key × D)) (k : Key) : List (Key × D) := kvs.filter fun kv => decide (kv.1 ≠ k)
theorem RKV.val {K : PySem.W.Frag} {H : Hp} : ∀ {kvs : List (Key × D)} {ws : List (Key × V)} (k : Key), RKV K H kvs ws → (∃ d v, dval kvs k = some d ∧ valV ws k = some v ∧ RD K H d v) ∨ (dval kvs k = none ∧ valV ws k = none)
  | [], _, k, h => by cases (show _ = [] from h); exact .inr ⟨rfl, rfl⟩
  | (j, d) :: r, _, k, h => by
    obtain ⟨v, t, rfl, h1, h2⟩ := h
    by_cases e : j = k
    · refine .inl ⟨d, v, ?_, valV_pos e, h1⟩
      unfold dval
      rw [List.find?_cons_of_pos (by simp [e])]
      rfl
    · rw [valV_neg e]
      have q : dval ((j, d) :: r) k = dval r k := by
        unfold dval
        rw [List.find?_cons_of_neg (by simp [e])]
      rw [q]
      exact RKV.val k h2
theorem RKV.any {K : PySem.W.Frag} {H : Hp} {kvs : List (Key × D)} {ws : List (Key × V)} (k : Key) (h : RKV K H kvs ws) : (kvs.any fun kv => decide (kv.1 = k)) = ws.any fun kv => decide (kv.1 = k) := by
  have e := h.keys
  have e1 : (kvs.any fun kv => decide (kv.1 = k)) = (kvs.map (·.1)).any fun j => decide (j = k) := by rw [List.any_map]; rfl
  have e2 : (ws.any fun kv => decide (kv.1 = k)) = (ws.map (·.1)).any fun j => decide (j = k) := by rw [List.any_map]; rfl
  rw [e1, e2, e]
theorem RKV.repl {K : PySem.W.Frag} {H : Hp} {d : D} {v : V} (q : RD K H d v) (k : Key) : ∀ {kvs : List (Key × D)} {ws : List (Key × V)}, RKV K H kvs ws → RKV K H (kvs.map fun kv => if kv.1 = k then (kv.1, d) else kv) (ws.map fun kv => if kv.1 = k then (kv.1, v) else kv)
  | [], _, h => by cases (show _ = [] from h); exact rfl
  | (j, e) :: r, _, h => by
    obtain ⟨w, t, rfl, h1, h2⟩ := h
    have ih := RKV.repl q k h2
    rw [List.map_cons, List.map_cons]
    by_cases z : j = k
    · rw [if_pos z, if_pos z]
      exact ⟨v, _, rfl, q, ih⟩
    · rw [if_neg z, if_neg z]
      exact ⟨w, _, rfl, h1, ih⟩
theorem RKV.append {K : PySem.W.Frag} {H : Hp} {κ : Type} : ∀ {as bs : List (κ × D)} {vs ws : List (κ × V)}, RKV K H as vs → RKV K H bs ws → RKV K H (as ++ bs) (vs ++ ws)
  | [], _, _, _, h, g => by cases (show _ = [] from h); exact g
  | (j, e) :: r, _, _, _, h, g => by
    obtain ⟨w, t, rfl, h1, h2⟩ := h
    exact ⟨w, _, rfl, h1, RKV.append h2 g⟩
theorem RKV.put {K : PySem.W.Frag} {H : Hp} {d : D} {v : V} {kvs : List (Key × D)} {ws : List (Key × V)} (h : RKV K H kvs ws) (k : Key) (q : RD K H d v) : RKV K H (dput kvs k d) (putK ws k v) := by
  unfold dput putK
  rw [h.any k]
  split
  · exact RKV.repl q k h
  · exact h.append ⟨v, [], rfl, q, rfl⟩
theorem RKV.drop {K : PySem.W.Frag} {H : Hp} (k : Key) : ∀ {kvs : List (Key × D)} {ws : List (Key × V)}, RKV K H kvs ws → RKV K H (ddrop kvs k) (dropK ws k)
  | [], _, h => by cases (show _ = [] from h); exact rfl
  | (j, e) :: r, _, h => by
    obtain ⟨w, t, rfl, h1, h2⟩ := h
    have ih := RKV.drop k h2
    unfold ddrop dropK at ih ⊢
    by_cases z : j = k
    · rw [List.filter_cons_of_neg (by simp [z]), List.filter_cons_of_neg (by simp [z])]
      exact ih
    · rw [List.filter_cons_of_pos (by simp [z]), List.filter_cons_of_pos (by simp [z])]
      exact ⟨w, _, rfl, h1, ih⟩
/-- a key as a value -/
def kD : Key → D
  | .inl i => .int i
  | .inr x => .str x
theorem kD_kV {K : PySem.W.Frag} {H : Hp} {k : Key} {v : V} (h : RD K H (kD k) v) : v = kV k := by
  cases k with
  | inl i => exact h
  | inr x => exact h
/-- what a value is as a key -/
def keyOf : D → Option Key
  | .int i => some (.inl i)
  | .str x => some (.inr x)
  | _ => none
theorem keyOf_kD {d : D} {k : Key} (h : keyOf d = some k) : d = kD k := by
  cases d with
  | int i => cases h; rfl
  | str x => cases h; rfl
  | _ => cases h
/-- the texts of data -/
def strsOf : List D → Option (List Str)
  | [] => some []
  | .str x :: r => (strsOf r).map (x :: ·)
  | _ :: _ => none
theorem strsOf_map : ∀ {ds : List D} {xs : List Str}, strsOf ds = some xs → ds = xs.map D.str
  | [], _, h => by cases h; rfl
  | .str x :: r, _, h => by
    obtain ⟨ys, e, rfl⟩ := Option.map_eq_some_iff.mp h
    rw [strsOf_map e]
    rfl
theorem strsOf_of : ∀ xs : List Str, strsOf (xs.map D.str) = some xs
  | [] => rfl
  | x :: xs => by
    rw [List.map_cons]
    show (strsOf (xs.map D.str)).map (x :: ·) = _
    rw [strsOf_of xs]
    rfl
def intsOf : List D → Option (List Int)
  | [] => some []
  | .int x :: r => (intsOf r).map (x :: ·)
  | _ :: _ => none
theorem intsOf_map : ∀ {ds : List D} {xs : List Int}, intsOf ds = some xs → ds = xs.map D.int
  | [], _, h => by cases h; rfl
  | .int x :: r, _, h => by
    obtain ⟨ys, e, rfl⟩ := Option.map_eq_some_iff.mp h
    rw [intsOf_map e]
    rfl
theorem intsOf_of : ∀ xs : List Int, intsOf (xs.map D.int) = some xs
  | [] => rfl
  | x :: xs => by
    rw [List.map_cons]
    show (intsOf (xs.map D.int)).map (x :: ·) = _
    rw [intsOf_of xs]
    rfl
end
end DL

set_option Elab.async false
set_option maxRecDepth 100000
/-! DLd: in, subscripts, slices, stores by place, dicts, built-ins and methods over data. -/
namespace DL
open PySem PySem.Spec PyProof.Rows L2

section
variable {X : Cx}
/-! ### in, not in -/
def inFlat (f : Bool → Bool) (x : D) (ds : List D) (S : Store) (Q : KD) : Prop := match x with
  | .str a => ∃ xs, strsOf ds = some xs ∧ Q (.bl (f (decide (a ∈ xs)))) S
  | .int i => ∃ xs, intsOf ds = some xs ∧ Q (.bl (f (decide (i ∈ xs)))) S
  | _ => False
def inDO (f : Bool → Bool) (x : D) (o : Option DO) (S : Store) (Q : KD) : Prop := match o with
  | some (.lst ds) => inFlat f x ds S Q
  | some (.dk kvs) => ∃ k, keyOf x = some k ∧ Q (.bl (f (dval kvs k).isSome)) S
  | _ => False
def oInG (f : Bool → Bool) : R2D := fun x y S Q => match y with
  | .tup ds => inFlat f x ds S Q
  | .rol ds => inFlat f x ds S Q
  | .str t => (match x with
    | .str z => Q (.bl (f (!(Builtin.Str.occurrences t z 0 t.length 1).isEmpty))) S
    | _ => False)
  | .ref a => inDO f x (S a) S Q
  | _ => False
def oIn : R2D := oInG id
def oNotIn : R2D := oInG not
/-- what a membership rule of the hand layer must serve -/
theorem od_inG {f : Bool → Bool} {op : CmpOp} (neg : Bool) (hf : ∀ b, f b = if neg then !b else b) (seq : OpR X (compareOp op) (rIn X.K neg)) (txt : OpR X (compareOp op) (fun x y H Q => ∃ i j, x = .str i ∧ y = .str j ∧ Q (.bl (f (!(Builtin.Str.occurrences j i 0 j.length 1).isEmpty))) H))
    (dic : ∀ {pins : List (Addr × Obj)} {s : Shared} {σ : L2.St} {H : Hp} {a : Addr} {y : V} {u : Value} {o : Option V} {Q : Value → Shared → Prop}, Inv X pins σ H s → DGet H a y o → RelV y u → (∀ s', Inv X pins σ H s' → Q (.bool (f o.isSome)) s') → wpAny (model X.prog X.w) X.A (compareOp op u (.ref a)) Q X.xe s) :
    OpD X (compareOp op) (oInG f) := by
  intro pins s σ H x y v u Q I rx ry h
  obtain ⟨dx, dy, S, Q0, hx, hy, hs, h, q⟩ := h
  have flat : ∀ (p : Addr) (ds : List D) (vs : List V), y = .ref p → (SqL X.K H p vs ∨ SqT X.K H p vs) → RDs X.K H ds vs → inFlat f dx ds S Q0 → wpAny (model X.prog X.w) X.A (compareOp op v u) (EP X pins σ Q) X.xe s := by
    intro p ds vs ey hp hd hf'
    cases dx with
    | str a =>
      obtain ⟨xs, e1, h1⟩ := hf'
      cases strsOf_map e1
      cases hd.strs
      cases (show x = .str a from hx)
      refine seq pins s σ H _ _ v u Q I rx ry ⟨p, _, ey, hp, rfl, flat_texts xs, ?_⟩
      have z : (if neg = true then !inV (V.str a) (xs.map V.str) else inV (V.str a) (xs.map V.str)) = f (decide (a ∈ xs)) := by rw [inV_strs, hf]
      rw [z]
      exact q _ _ _ _ h1 .refl rfl hs
    | int a =>
      obtain ⟨xs, e1, h1⟩ := hf'
      cases intsOf_map e1
      cases hd.ints
      cases (show x = .int a from hx)
      refine seq pins s σ H _ _ v u Q I rx ry ⟨p, _, ey, hp, rfl, flat_ints xs, ?_⟩
      have z : (if neg = true then !inV (V.int a) (xs.map V.int) else inV (V.int a) (xs.map V.int)) = f (decide (a ∈ xs)) := by rw [inV_ints, hf]
      rw [z]
      exact q _ _ _ _ h1 .refl rfl hs
    | _ => cases hf'
  cases dy with
  | tup ds =>
    obtain ⟨p, vs, e, ht, hd⟩ := hy
    exact flat p ds vs e (.inr ht) hd h
  | rol ds =>
    obtain ⟨p, vs, e, ht, hd⟩ := hy
    exact flat p ds vs e (.inl ht.sq) hd h
  | str t =>
    cases dx with
    | str z =>
      cases (show x = .str z from hx)
      cases (show y = .str t from hy)
      exact txt pins s σ H _ _ v u Q I rx ry ⟨z, t, rfl, rfl, q _ _ _ _ h .refl rfl hs⟩
    | _ => cases h
  | ref a =>
    cases (show y = .ref a from hy)
    have hr : inDO f dx (S a) S Q0 := h
    clear h
    unfold inDO at hr
    split at hr
    · rename_i ds e
      obtain ⟨vs, h1, h2⟩ := hs.lst e
      exact flat a ds vs rfl (.inl (SqL.of h1)) h2 hr
    · rename_i kvs e
      obtain ⟨k, ek, hq⟩ := hr
      have ed := keyOf_kD ek
      subst ed
      have ev := kD_kV hx
      subst ev
      obtain ⟨ws, h1, h2⟩ := hs a _ e
      cases (show u = Value.ref a from ry)
      refine dic I (DGet.k (k := k) h1) rx fun s' I' => ⟨.bl _, H, I', rfl, ?_⟩
      have z : (valV ws k).isSome = (dval kvs k).isSome := by
        rcases h2.val k with ⟨d, w', e1, e2, _⟩ | ⟨e1, e2⟩
        · rw [e1, e2]; rfl
        · rw [e1, e2]; rfl
      rw [z]
      exact q _ _ _ _ hq .refl rfl hs
    · cases hr
  | _ => cases h
theorem od_in (hu : X.A.units + 1 < cLine) : OpD X (compareOp .In) oIn := od_inG false (fun b => by simp) op_in_seq op_in_str fun I g r k => d_in hu I g r k
theorem od_notIn (hu : X.A.units + 1 < cLine) : OpD X (compareOp .NotIn) oNotIn := od_inG true (fun b => by simp) op_notIn_seq op_notIn_str fun I g r k => d_notIn hu I g r k

/-! ### is None -/
def oIsN : R2D := fun x y S Q => match y with
  | .non => (match x with
    | .non => Q (.bl true) S
    | _ => Q (.bl false) S)
  | _ => False
def oNotN : R2D := fun x y S Q => match y with
  | .non => (match x with
    | .non => Q (.bl false) S
    | _ => Q (.bl true) S)
  | _ => False
theorem RD.non_iff {K : PySem.W.Frag} {H : Hp} {d : D} {v : V} (h : RD K H d v) : decide (v = .non) = (match d with | .non => true | _ => false) := by
  cases d with
  | non => cases (show v = .non from h); rfl
  | bl b => cases (show v = .bl b from h); rfl
  | int b => cases (show v = .int b from h); rfl
  | str b => cases (show v = .str b from h); rfl
  | ref b => cases (show v = .ref b from h); rfl
  | ty b => cases (show v = .ty b from h); rfl
  | tup b => obtain ⟨p, vs, rfl, _⟩ := h; rfl
  | rol b => obtain ⟨p, vs, rfl, _⟩ := h; rfl
  | ftup b => obtain ⟨p, vs, rfl, _⟩ := h; rfl
theorem od_isN : OpD X (compareOp .Is) oIsN := by
  intro pins s σ H x y v u Q I rx ry h
  obtain ⟨dx, dy, S, Q0, hx, hy, hs, h, q⟩ := h
  cases dy with
  | non =>
    cases (show y = .non from hy)
    refine op_isN pins s σ H _ _ v u Q I rx ry ⟨rfl, ?_⟩
    rw [hx.non_iff]
    cases dx <;> exact q _ _ _ _ h .refl rfl hs
  | _ => cases h
theorem od_notN : OpD X (compareOp .IsNot) oNotN := by
  intro pins s σ H x y v u Q I rx ry h
  obtain ⟨dx, dy, S, Q0, hx, hy, hs, h, q⟩ := h
  cases dy with
  | non =>
    cases (show y = .non from hy)
    refine op_notN pins s σ H _ _ v u Q I rx ry ⟨rfl, ?_⟩
    rw [hx.non_iff]
    cases dx <;> exact q _ _ _ _ h .refl rfl hs
  | _ => cases h

/-! ### subscripts -/
def ixSeq (ds : List D) (y : D) (S : Store) (Q : KD) : Prop := match y with
  | .int i => ∃ d, atI ds i = some d ∧ Q d S
  | _ => False
def ixStr (z : Str) (y : D) (S : Store) (Q : KD) : Prop := match y with
  | .int i => ∃ c, z.length ≤ sizeLine ∧ atI z.cps.toList i = some c ∧ Q (.str ⟨#[c]⟩) S
  | _ => False
def ixDO (o : Option DO) (y : D) (S : Store) (Q : KD) : Prop := match o with
  | some (.lst ds) => ixSeq ds y S Q
  | some (.dk kvs) => ∃ k d, keyOf y = some k ∧ dval kvs k = some d ∧ Q d S
  | _ => False
def oIx : R2D := fun x y S Q => match x with
  | .tup ds => ixSeq ds y S Q
  | .rol ds => ixSeq ds y S Q
  | .str z => ixStr z y S Q
  | .ref a => ixDO (S a) y S Q
  | _ => False
def IxD (X : Cx) (r : R2D) : Prop := IxR X (lift2 X.K r)
theorem RDs.atI {K : PySem.W.Frag} {H : Hp} {ds : List D} {vs : List V} (h : RDs K H ds vs) {i : Int} {d : D} (e : L2.atI ds i = some d) : ∃ v, L2.atI vs i = some v ∧ RD K H d v := by
  unfold L2.atI at e ⊢
  rw [h.length]
  obtain ⟨j, e1, e2⟩ := Option.bind_eq_some_iff.mp e
  obtain ⟨v, e3, r⟩ := h.get e2
  exact ⟨v, by rw [e1]; exact e3, r⟩
theorem ix_dict (hu : X.A.units + 1 < cLine) : IxR X (fun x y H Q => ∃ a v, x = .ref a ∧ DGet H a y (some v) ∧ Q v H) := by
  intro value slice pins s σ H x y v u Q I rx ry h hs
  obtain ⟨a, z, rfl, g, q⟩ := h
  cases (show v = Value.ref a from rx)
  exact tail_any (dict_typeIs I g) PySem.F.slot_dict_getitem.lookup (d_getItem hu I g ry fun w' s3 I3 rw' => ⟨z, H, I3, rw', q⟩) hs
theorem ixd (hu : X.A.units + 1 < cLine) : IxD X oIx := by
  intro value slice pins s σ H x y v u Q I rx ry h hsl
  obtain ⟨dx, dy, S, Q0, hx, hy, hs, h, q⟩ := h
  have seq : ∀ (p : Addr) (ds : List D) (vs : List V), x = .ref p → (SqL X.K H p vs ∨ SqT X.K H p vs) → RDs X.K H ds vs → ixSeq ds dy S Q0 → wpAny (model X.prog X.w) X.A (subscriptTail value slice v u) (EP X pins σ Q) X.xe s := by
    intro p ds vs ex hp hd h
    cases dy with
    | int i =>
      obtain ⟨d, e, h⟩ := h
      cases (show y = .int i from hy)
      obtain ⟨w', e', r⟩ := hd.atI e
      refine ix_seq value slice pins s σ H x _ v u Q I rx ry ?_ hsl
      rcases hp with hp | hp
      · exact .inl ⟨p, vs, i, w', ex, rfl, hp, e', q _ _ _ _ h .refl r hs⟩
      · exact .inr (.inl ⟨p, vs, i, w', ex, rfl, hp, e', q _ _ _ _ h .refl r hs⟩)
    | _ => cases h
  cases dx with
  | tup ds =>
    obtain ⟨p, vs, e, ht, hd⟩ := hx
    exact seq p ds vs e (.inr ht) hd h
  | rol ds =>
    obtain ⟨p, vs, e, ht, hd⟩ := hx
    exact seq p ds vs e (.inl ht.sq) hd h
  | str z =>
    cases dy with
    | int i =>
      obtain ⟨c, h1, h2, h⟩ := h
      cases (show x = .str z from hx)
      cases (show y = .int i from hy)
      exact ix_seq value slice pins s σ H _ _ v u Q I rx ry (.inr (.inr ⟨z, i, c, rfl, rfl, h1, h2, q _ _ _ _ h .refl rfl hs⟩)) hsl
    | _ => cases h
  | ref a =>
    cases (show x = .ref a from hx)
    have hr : ixDO (S a) dy S Q0 := h
    clear h
    unfold ixDO at hr
    split at hr
    · rename_i ds e
      obtain ⟨vs, h1, h2⟩ := hs.lst e
      exact seq a ds vs rfl (.inl (SqL.of h1)) h2 hr
    · rename_i kvs e
      obtain ⟨k, d, ek, ed, hq⟩ := hr
      have eD := keyOf_kD ek
      subst eD
      have eV := kD_kV hy
      subst eV
      obtain ⟨ws, h1, h2⟩ := hs a _ e
      rcases h2.val k with ⟨d', w', e1, e2, r⟩ | ⟨e1, _⟩
      · rw [ed] at e1
        cases e1
        refine ix_dict hu value slice pins s σ H _ _ v u Q I rx ry ⟨a, w', rfl, ?_, q _ _ _ _ hq .refl r hs⟩ hsl
        rw [← e2]
        exact DGet.k h1
      · rw [ed] at e1
        cases e1
    · cases hr
  | _ => cases h
variable {a b e lo hi : Expr} {ta tb te : TED} {pos p2 : Pos}
theorem de_ix (hu : X.A.units + 1 < cLine) (ha : DE X a ta) (hb : DE X b tb) (hs : PlainIx b := by exact fun _ _ => rfl) : DE X (.Subscript a b pos) (tOpD oIx ta tb) := PEi (pe_ix (ixd hu) ha hb hs) fun _ _ _ h => op_lift h

/-! ### slices -/
abbrev TOD := StD → Store → (Option Int → Store → Prop) → Prop
def liftO (K : PySem.W.Frag) (t : TOD) : TO := fun σ H Q => ∃ δ S Q0, RSt K H δ σ ∧ RS K H S ∧ t δ S Q0 ∧ ∀ o S' H', Q0 o S' → Ext K H H' → RS K H' S' → Q o H'
def DOp (X : Cx) (e : Option Expr) (t : TOD) : Prop := PO X e (liftO X.K t)
theorem POi {e : Option Expr} {t t' : TO} (h : PO X e t') (w : ∀ σ H Q, t σ H Q → t' σ H Q) : PO X e t := ⟨fun pins s σ H Q I q => h.run pins s σ H Q I (w _ _ _ q)⟩
def tNoD : TOD := fun _ S Q => Q none S
def tPartD (te : TED) : TOD := fun δ S Q => te δ S fun x S1 => match x with
  | .int i => Q (some i) S1
  | _ => False
theorem do_none : DOp X none tNoD := POi po_none fun σ H Q h => by
  obtain ⟨δ, S, Q0, h1, h2, h3, h4⟩ := h
  exact h4 _ _ _ h3 .refl h2
theorem do_some (h : DE X e te) : DOp X (some e) (tPartD te) := POi (po_some h) fun σ H Q h => by
  obtain ⟨δ, S, Q0, h1, h2, h3, h4⟩ := h
  refine ⟨δ, S, _, h1, h2, h3, fun x S1 v H1 q e1 r1 s1 => ?_⟩
  cases x with
  | int i => exact ⟨i, r1, h4 _ _ _ q e1 s1⟩
  | _ => cases q
def cutL {α : Type} (xs : List α) (lo hi : Option Int) : List α := (xs.drop (HT.sIx xs.length 0 lo)).take (HT.sIx xs.length xs.length hi - HT.sIx xs.length 0 lo)
theorem RDs.cut {K : PySem.W.Frag} {H : Hp} {ds : List D} {vs : List V} (h : RDs K H ds vs) (lo hi : Option Int) : RDs K H (cutL ds lo hi) (cutV vs lo hi) := by
  unfold cutL cutV
  rw [h.length]
  exact (h.drop _).take _
def slDO (o : Option DO) (lo hi : Option Int) (S : Store) (Q : KD) : Prop := match o with
  | some (.lst ds) => ∀ p, S p = none → Q (.ref p) (put S p (.lst (cutL ds lo hi)))
  | _ => False
def oSl (x : D) (lo hi : Option Int) (S : Store) (Q : KD) : Prop := match x with
  | .tup ds => Q (.tup (cutL ds lo hi)) S
  | .str z => z.length ≤ sizeLine ∧ Q (.str (cutS z lo hi)) S
  | .rol ds => ∀ p, S p = none → Q (.ref p) (put S p (.lst (cutL ds lo hi)))
  | .ref a => slDO (S a) lo hi S Q
  | _ => False
theorem cut_whole {xs : List V} {lo hi : Option Int} (h : HT.sIx xs.length 0 lo = 0 ∧ HT.sIx xs.length xs.length hi = xs.length) : cutV xs lo hi = xs := by
  unfold cutV
  rw [h.1, h.2]
  simp
def slr (K : PySem.W.Frag) : V → Option Int → Option Int → Hp → VK → Prop := fun x lo hi H Q => ∃ d S Q0, RD K H d x ∧ RS K H S ∧ oSl d lo hi S Q0 ∧ ∀ d' S' v H', Q0 d' S' → Ext K H H' → RD K H' d' v → RS K H' S' → Q v H'
theorem sl_any : SlR X (slr X.K) := by
  intro pins s σ H x v vl vu lo hi sl Q I rx hsl pl pu h
  obtain ⟨d, S, Q0, hx, hs, h, q⟩ := h
  cases d with
  | tup ds =>
    obtain ⟨p, vs, rfl, ht, hd⟩ := hx
    refine sl_tupA pins s σ H _ v vl vu lo hi sl Q I rx hsl pl pu ⟨p, vs, rfl, ht, fun w => ?_, fun w r nr => ?_⟩
    · have c := hd.cut lo hi
      rw [cut_whole w] at c
      exact q _ _ _ _ h .refl ⟨p, vs, rfl, ht, c⟩ hs
    · exact q _ _ _ _ h (Ext.new nr) (.newTup nr (hd.cut lo hi)) (hs.grow nr)
  | str z =>
    cases (show x = .str z from hx)
    exact sl_str pins s σ H _ v vl vu lo hi sl Q I rx hsl pl pu ⟨z, rfl, h.1, q _ _ _ _ h.2 .refl rfl hs⟩
  | rol ds =>
    obtain ⟨p, vs, rfl, ht, hd⟩ := hx
    exact sl_list pins s σ H _ v vl vu lo hi sl Q I rx hsl pl pu ⟨p, vs, rfl, ht.sq, fun r nr => q _ _ _ _ (h r (hs.free nr)) (Ext.new nr) rfl (hs.newLst nr (hd.cut lo hi))⟩
  | ref a =>
    cases (show x = .ref a from hx)
    have h : slDO (S a) lo hi S Q0 := h
    unfold slDO at h
    split at h
    · rename_i ds e
      obtain ⟨vs, h1, hd⟩ := hs.lst e
      exact sl_list pins s σ H _ v vl vu lo hi sl Q I rx hsl pl pu ⟨a, vs, rfl, SqL.of h1, fun r nr => q _ _ _ _ (h r (hs.free nr)) (Ext.new nr) rfl (hs.newLst nr (hd.cut lo hi))⟩
    · cases h
  | _ => cases h
def tSlD (te : TED) (tl th : TOD) : TED := fun δ S Q => te δ S fun x S1 => tl δ S1 fun l S2 => th δ S2 fun u S3 => oSl x l u S3 Q
theorem de_slice {lo hi : Option Expr} {tl th : TOD} (he : DE X e te) (hl : DOp X lo tl) (hh : DOp X hi th) : DE X (.Subscript e (.Slice lo hi none p2) pos) (tSlD te tl th) := PEi (pe_slice sl_any he hl hh) fun σ H Q h => by
  obtain ⟨δ, S, Q0, h1, h2, h3, h4⟩ := h
  refine ⟨δ, S, _, h1, h2, h3, fun x S1 v H1 q e1 r1 s1 => ⟨δ, S1, _, h1.ext e1, s1, q, fun l S2 H2 q2 e2 s2 => ⟨δ, S2, _, h1.ext (e1.trans e2), s2, q2, fun u S3 H3 q3 e3 s3 => ?_⟩⟩⟩
  exact ⟨x, S3, Q0, r1.ext (e2.trans e3), s3, q3, fun d' S' v' H' q' e' r' s' => h4 _ _ _ _ q' (e1.trans (e2.trans (e3.trans e'))) r' s'⟩
def revDO (o : Option DO) (S : Store) (Q : KD) : Prop := match o with
  | some (.lst ds) => ∀ p, S p = none → Q (.ref p) (put S p (.lst ds.reverse))
  | _ => False
def tRevD (te : TED) : TED := fun δ S Q => te δ S fun x S1 => match x with
  | .rol ds => ∀ p, S1 p = none → Q (.ref p) (put S1 p (.lst ds.reverse))
  | .ref a => revDO (S1 a) S1 Q
  | _ => False
theorem de_rev {k : Nat} {q1 q2 q3 : Pos} (he : DE X e te) : DE X (.Subscript e (.Slice none none (some (.UnaryOp .USub (.Constant (.int 1) k q1) q2)) q3) pos) (tRevD te) := PEi (pe_revL he) fun σ H Q h => by
  obtain ⟨δ, S, Q0, h1, h2, h3, h4⟩ := h
  refine ⟨δ, S, _, h1, h2, h3, fun x S1 v H1 q e1 r1 s1 => ?_⟩
  cases x with
  | rol ds =>
    obtain ⟨p, vs, rfl, ht, hd⟩ := r1
    exact ⟨p, vs, rfl, ht.sq, fun r nr => h4 _ _ _ _ (q r (s1.free nr)) (e1.trans (Ext.new nr)) rfl (s1.newLst nr hd.reverse)⟩
  | ref a =>
    cases (show v = .ref a from r1)
    have q : revDO (S1 a) S1 Q0 := q
    unfold revDO at q
    split at q
    · rename_i ds e
      obtain ⟨vs, h1, hd⟩ := s1.lst e
      exact ⟨a, vs, rfl, SqL.of h1, fun r nr => h4 _ _ _ _ (q r (s1.free nr)) (e1.trans (Ext.new nr)) rfl (s1.newLst nr hd.reverse)⟩
    · cases q
  | _ => cases q

/-! ### o[i] = v -/
def setSeq (a : Addr) (ds : List D) (i v : D) (S : Store) (Q : Store → Prop) : Prop := match i with
  | .int k => ∃ j, ixN ds.length k = some j ∧ Q (put S a (.lst (ds.set j v)))
  | _ => False
def setDO (o : Option DO) (a : Addr) (i v : D) (S : Store) (Q : Store → Prop) : Prop := match o with
  | some (.lst ds) => setSeq a ds i v S Q
  | some (.dk kvs) => ∃ k, keyOf i = some k ∧ kvs.length < sizeLine ∧ Q (put S a (.dk (dput kvs k v)))
  | _ => False
def oSet (o i v : D) (S : Store) (Q : Store → Prop) : Prop := match o with
  | .ref a => setDO (S a) a i v S Q
  | _ => False
def tSetD (to ti te : TED) : TSD := fun G δ S => te δ S fun d S1 => to δ S1 fun o S2 => ti δ S2 fun i S3 => oSet o i d S3 fun S4 => G.nx δ S4
def setr (K : PySem.W.Frag) : V → V → V → Hp → (Hp → Prop) → Prop := fun o i v H Q => ∃ d0 d1 d2 S Q0, RD K H d0 o ∧ RD K H d1 i ∧ RD K H d2 v ∧ RS K H S ∧ oSet d0 d1 d2 S Q0 ∧ ∀ S' H', Q0 S' → Ext K H H' → RS K H' S' → Q H'
theorem set_any (hu : X.A.units + 1 < cLine) : PSet X (setr X.K) := by
  intro pins s σ H o i v ov iv u Q I ro ri rv h
  obtain ⟨d0, d1, d2, S, Q0, h0, h1, h2, hs, h, q⟩ := h
  cases d0 with
  | ref a =>
    cases (show o = .ref a from h0)
    have hr : setDO (S a) a d1 d2 S Q0 := h
    clear h
    unfold setDO at hr
    split at hr
    · rename_i ds e
      obtain ⟨vs, g1, g2⟩ := hs.lst e
      cases d1 with
      | int k =>
        obtain ⟨j, ej, hq⟩ := hr
        cases (show i = .int k from h1)
        refine set_list pins s σ H _ _ v ov iv u Q I ro ri rv ⟨a, vs, k, j, rfl, rfl, g1, by rw [g2.length]; exact ej, ?_⟩
        exact q _ _ hq (Ext.put g1 trivial) (hs.put g1 trivial ⟨_, upd_same, (g2.set j h2).ext (Ext.put g1 trivial)⟩)
      | _ => cases hr
    · rename_i kvs e
      obtain ⟨k, ek, hl, hq⟩ := hr
      have eD := keyOf_kD ek
      subst eD
      have eV := kD_kV h1
      subst eV
      obtain ⟨ws, g1, g2⟩ := hs a _ e
      cases (show ov = Value.ref a from ro)
      refine d_setItem hu I (DPut.k g1 (by rw [g2.length]; exact hl)) ri rv fun s' I' => ⟨_, I', ?_⟩
      refine q _ _ hq (Ext.put g1 trivial) (hs.put g1 trivial ?_)
      exact ⟨_, upd_same, (g2.put k h2).ext (Ext.put g1 trivial)⟩
    · cases hr
  | _ => cases h
theorem ds_setitem {o i : Expr} {to ti : TED} {p1 : Pos} (hu : X.A.units + 1 < cLine) (ho : DE X o to) (hi : DE X i ti) (he : DE X e te)
    (ha : ∀ v, assign (.Subscript o i p1) X.env v = (do
      let ov ← holding [v] (eval o X.env)
      let iv ← holding [v, ov] (eval i X.env)
      standAt p1
      holding [v, ov, iv] (setItem ov iv v)
      release [v, ov, iv] []) := by intro _; rfl)
    (hs : swapsWithSole [.Subscript o i p1] e pos.line X.env = pure false := by rfl) (hw : swappedStores [.Subscript o i p1] e X.env = pure none := by rfl)
    (h1 : (assignEach [.Subscript o i p1] X.env).map (·.2) = [assign (.Subscript o i p1) X.env] := by rfl) : DS X (.Assign [.Subscript o i p1] e pos) (tSetD to ti te) :=
  PSi (ps_asg he (pg_sub ho hi (set_any hu) ha) hs hw h1) fun E σ H h => by
  obtain ⟨δ, S, G, h1, h2, h3, n, r, b, c⟩ := h
  refine ⟨δ, S, _, h1, h2, h3, fun d S1 v H1 q e1 r1 s1 => ⟨δ, S1, _, h1.ext e1, s1, q, fun o' S2 ov H2 q2 e2 r2 s2 => ⟨δ, S2, _, h1.ext (e1.trans e2), s2, q2, fun i' S3 iv H3 q3 e3 r3 s3 => ?_⟩⟩⟩
  exact ⟨o', i', d, S3, _, r2.ext e3, r3, r1.ext (e2.trans e3), s3, q3, fun S4 H4 q4 e4 s4 => n _ _ _ _ q4 (e1.trans (e2.trans (e3.trans e4))) (h1.ext (e1.trans (e2.trans (e3.trans e4)))) s4⟩

/-! ### dicts: displays, get, pop, dict(d) -/
def tDictD : TED := fun _ S Q => ∀ p, S p = none → Q (.ref p) (put S p (.dk []))
theorem de_dict : DE X (.Dict [] [] pos) tDictD := PEi pe_dnewK fun σ H Q h => by
  obtain ⟨δ, S, Q0, h1, h2, h3, h4⟩ := h
  intro p np
  exact h4 _ _ _ _ (h3 p (h2.free np)) (Ext.new np) rfl (h2.new np ⟨[], upd_same, rfl⟩)
/-- one pair -/
def tDict1 (tk tv : TED) : TED := fun δ S Q => tk δ S fun x S1 => tv δ S1 fun y S2 => ∃ k, keyOf x = some k ∧ ∀ p, S2 p = none → Q (.ref p) (put S2 p (.dk [(k, y)]))
end
end DL

set_option Elab.async false
set_option maxRecDepth 100000
/-! DLe: built-ins and methods over data. -/
namespace DL
open PySem PySem.Spec PyProof.Rows L2

section
variable {X : Cx}
/-- less may be known of the store behind an expression -/
def tLess (t : TED) : TED := fun δ S Q => t δ S fun d S' => ∃ S'', Sub S'' S' ∧ Q d S''
theorem de_less {e : Expr} {t : TED} (h : DE X e t) : DE X e (tLess t) := PEi h fun σ H Q q => by
  obtain ⟨δ, S, Q0, h1, h2, h3, h4⟩ := q
  exact ⟨δ, S, _, h1, h2, h3, fun d S' v H' ⟨S'', hs, q⟩ e r s => h4 _ _ _ _ q e r (s.sub hs)⟩
def tLessT (t : TTD) : TTD := fun δ S Q => t δ S fun d S' => ∃ S'', Sub S'' S' ∧ Q d S''
theorem dt_less {e : Expr} {t : TTD} (h : DT X e t) : DT X e (tLessT t) := PTi h fun σ H Q q => by
  obtain ⟨δ, S, Q0, h1, h2, h3, h4⟩ := q
  exact ⟨δ, S, _, h1, h2, h3, fun d S' H' ⟨S'', hs, q⟩ e s => h4 _ _ _ q e (s.sub hs)⟩
/-- .. behind a statement -/
def tLessS (t : TSD) : TSD := fun G δ S => t { G with nx := fun δ' S' => ∃ S'', Sub S'' S' ∧ G.nx δ' S'' } δ S
theorem ds_less {st : Stmt} {t : TSD} (h : DS X st t) : DS X st (tLessS t) := PSi h fun E σ H q => by
  obtain ⟨δ, S, G, h1, h2, h3, n, r, b, c⟩ := q
  exact ⟨δ, S, _, h1, h2, h3, fun δ' S' σ' H' ⟨S'', hs, q⟩ e r' s' => n _ _ _ _ q e r' (s'.sub hs), r, b, c⟩
/-- a built-in type as a value -/
theorem de_ty {x : Str} {n : String} {pos : Pos} (hg : Gl X x) (hm : X.mg x = none) (hv : bootBuiltins x = some (.type n)) (hn : x ≠ "__name__" := by decide) (hd : (x == ("__debug__" : Str)) = false := by decide) : DE X (.Name x pos) (tCD (.ty n)) :=
  de_c (v := .ty n) (pe_bltn hg hm hv (show RelV (.ty n) (.type n) from rfl) hn hd) fun _ => rfl
/-- a module's constant of texts -/
theorem de_const {x : Str} {d : D} {v : V} {u : Value} {pos : Pos} (hg : Gl X x) (hm : X.mg x = some u) (r : RelV v u) (hd : ∀ H, RD X.K H d v) (hdb : (x == ("__debug__" : Str)) = false := by decide) : DE X (.Name x pos) (tCD d) := de_c (pe_glob hg hm r hdb) hd

/-! ### len -/
def oLenDO (o : Option DO) (S : Store) (Q : KD) : Prop := match o with
  | some (.lst ds) => Q (.int (ds.length : Nat)) S
  | some (.dk kvs) => Q (.int (kvs.length : Nat)) S
  | _ => False
def oLen : RAD := fun xs S Q => match xs with
  | [.tup ds] => Q (.int (ds.length : Nat)) S
  | [.rol ds] => Q (.int (ds.length : Nat)) S
  | [.str z] => z.length ≤ sizeLine ∧ Q (.int (z.length : Nat)) S
  | [.ref a] => oLenDO (S a) S Q
  | _ => False
theorem RDs.one {K : PySem.W.Frag} {H : Hp} {d : D} {vs : List V} (h : RDs K H [d] vs) : ∃ v, vs = [v] ∧ RD K H d v := by
  obtain ⟨v, r, rfl, h1, h2⟩ := h
  cases (show r = [] from h2)
  exact ⟨v, rfl, h1⟩
theorem RDs.two {K : PySem.W.Frag} {H : Hp} {d e : D} {vs : List V} (h : RDs K H [d, e] vs) : ∃ v w, vs = [v, w] ∧ RD K H d v ∧ RD K H e w := by
  obtain ⟨v, r, rfl, h1, h2⟩ := h
  obtain ⟨w, rfl, h3⟩ := RDs.one h2
  exact ⟨v, w, rfl, h1, h3⟩
theorem RDs.three {K : PySem.W.Frag} {H : Hp} {d e f : D} {vs : List V} (h : RDs K H [d, e, f] vs) : ∃ v w x, vs = [v, w, x] ∧ RD K H d v ∧ RD K H e w ∧ RD K H f x := by
  obtain ⟨v, r, rfl, h1, h2⟩ := h
  obtain ⟨w, x, rfl, h3, h4⟩ := RDs.two h2
  exact ⟨v, w, x, rfl, h1, h3, h4⟩
theorem cd_len : CallD X (.builtin "len") oLen := by
  intro pins s σ H xs us Q I rs h
  obtain ⟨ds, S, Q0, hx, hs, h, q⟩ := h
  unfold oLen at h
  split at h
  · obtain ⟨v, rfl, p, vs, rfl, ht, hd⟩ := hx.one
    exact call_len_seq pins s σ H _ us Q I rs ⟨p, vs, rfl, .inr ht, by rw [hd.length]; exact q _ _ _ _ h .refl rfl hs⟩
  · obtain ⟨v, rfl, p, vs, rfl, ht, hd⟩ := hx.one
    exact call_len_seq pins s σ H _ us Q I rs ⟨p, vs, rfl, .inl ht.sq, by rw [hd.length]; exact q _ _ _ _ h .refl rfl hs⟩
  · obtain ⟨v, rfl, e⟩ := hx.one
    cases (show v = .str _ from e)
    exact call_len_str pins s σ H _ us Q I rs ⟨_, rfl, h.1, q _ _ _ _ h.2 .refl rfl hs⟩
  · rename_i a
    obtain ⟨v, rfl, e⟩ := hx.one
    cases (show v = .ref a from e)
    unfold oLenDO at h
    split at h
    · rename_i ds e
      obtain ⟨vs, h1, hd⟩ := hs.lst e
      exact call_len_seq pins s σ H _ us Q I rs ⟨a, vs, rfl, .inl (SqL.of h1), by rw [hd.length]; exact q _ _ _ _ h .refl rfl hs⟩
    · rename_i kvs e
      obtain ⟨ws, h1, hd⟩ := hs a _ e
      exact call_lenD pins s σ H _ us Q I rs ⟨a, ws, rfl, h1, by rw [hd.length]; exact q _ _ _ _ h .refl rfl hs⟩
    · cases h
  · cases h

/-! ### list(..), tuple(..) -/
def oListDO (o : Option DO) (S : Store) (Q : KD) : Prop := match o with
  | some (.lst ds) => ∀ p, S p = none → Q (.ref p) (put S p (.lst ds))
  | some (.dk kvs) => ∀ p, S p = none → Q (.ref p) (put S p (.lst (kvs.map fun kv => kD kv.1)))
  | _ => False
def oList : RAD := fun xs S Q => match xs with
  | [.tup ds] => ∀ p, S p = none → Q (.ref p) (put S p (.lst ds))
  | [.rol ds] => ∀ p, S p = none → Q (.ref p) (put S p (.lst ds))
  | [.ref a] => oListDO (S a) S Q
  | _ => False
theorem RKV.kDs {K : PySem.W.Frag} {H : Hp} : ∀ {kvs : List (Key × D)} {ws : List (Key × V)}, RKV K H kvs ws → RDs K H (kvs.map fun kv => kD kv.1) (ws.map fun kv => kV kv.1)
  | [], _, h => by cases (show _ = [] from h); exact rfl
  | (k, d) :: r, _, h => by
    obtain ⟨v, t, rfl, h1, h2⟩ := h
    refine ⟨kV k, _, rfl, ?_, RKV.kDs h2⟩
    cases k with
    | inl i => exact rfl
    | inr x => exact rfl
theorem cd_list (hc : X.calm = true) : CallD X (.type "list") oList := by
  intro pins s σ H xs us Q I rs h
  obtain ⟨ds, S, Q0, hx, hs, h, q⟩ := h
  unfold oList at h
  split at h
  · obtain ⟨v, rfl, p, vs, rfl, ht, hd⟩ := hx.one
    exact call_list_of pins s σ H _ us Q I rs ⟨p, vs, rfl, .inr ht, fun l nl => q _ _ _ _ (h l (hs.free nl)) (Ext.new nl) rfl (hs.newLst nl hd)⟩
  · obtain ⟨v, rfl, p, vs, rfl, ht, hd⟩ := hx.one
    exact call_list_of pins s σ H _ us Q I rs ⟨p, vs, rfl, .inl ht.sq, fun l nl => q _ _ _ _ (h l (hs.free nl)) (Ext.new nl) rfl (hs.newLst nl hd)⟩
  · rename_i a
    obtain ⟨v, rfl, e⟩ := hx.one
    cases (show v = .ref a from e)
    unfold oListDO at h
    split at h
    · rename_i ds e
      obtain ⟨vs, h1, hd⟩ := hs.lst e
      exact call_list_of pins s σ H _ us Q I rs ⟨a, vs, rfl, .inl (SqL.of h1), fun l nl => q _ _ _ _ (h l (hs.free nl)) (Ext.new nl) rfl (hs.newLst nl hd)⟩
    · rename_i kvs e
      obtain ⟨ws, h1, hd⟩ := hs a _ e
      exact call_list_dK hc pins s σ H _ us Q I rs ⟨a, ws, rfl, h1, fun l nl => q _ _ _ _ (h l (hs.free nl)) (Ext.new nl) rfl (hs.newLst nl hd.kDs)⟩
    · cases h
  · cases h
def oTuple : RAD := fun xs S Q => match xs with
  | [.tup ds] => Q (.tup ds) S
  | [.ref a] => ∃ ds, S a = some (.lst ds) ∧ Q (.tup ds) S
  | _ => False
theorem cd_tuple : CallD X (.type "tuple") oTuple := by
  intro pins s σ H xs us Q I rs h
  obtain ⟨ds, S, Q0, hx, hs, h, q⟩ := h
  unfold oTuple at h
  split at h
  · obtain ⟨v, rfl, p, vs, rfl, ht, hd⟩ := hx.one
    exact call_tuple_of pins s σ H _ us Q I rs ⟨p, vs, rfl, .inr ⟨ht, q _ _ _ _ h .refl ⟨p, vs, rfl, ht, hd⟩ hs⟩⟩
  · rename_i a
    obtain ⟨v, rfl, e⟩ := hx.one
    cases (show v = .ref a from e)
    obtain ⟨ds, e, h⟩ := h
    obtain ⟨vs, h1, hd⟩ := hs.lst e
    exact call_tuple_of pins s σ H _ us Q I rs ⟨a, vs, rfl, .inl ⟨SqL.of h1, fun l nl => q _ _ _ _ h (Ext.new nl) (.newTup nl hd) (hs.grow nl)⟩⟩
  · cases h

/-! ### sum, max, min, all, any, sorted -/
def seqDO : Option DO → Option (List D)
  | some (.lst ds) => some ds
  | _ => none
def seqAt (S : Store) : D → Option (List D)
  | .rol ds => some ds
  | .ref a => seqDO (S a)
  | _ => none
theorem seqAt_ref {S : Store} {a : Addr} {ds : List D} (h : S a = some (.lst ds)) : seqAt S (.ref a) = some ds := by
  show seqDO (S a) = some ds
  rw [h]
  rfl
theorem seqAt_sq {K : PySem.W.Frag} {H : Hp} {S : Store} {d : D} {ds : List D} {v : V} (h : seqAt S d = some ds) (r : RD K H d v) (s : RS K H S) : ∃ a vs, v = .ref a ∧ SqL K H a vs ∧ RDs K H ds vs := by
  cases d with
  | rol es =>
    cases h
    obtain ⟨p, vs, rfl, ht, hd⟩ := r
    exact ⟨p, vs, rfl, ht.sq, hd⟩
  | ref a =>
    cases (show v = .ref a from r)
    have h : seqDO (S a) = some ds := h
    unfold seqDO at h
    split at h
    · rename_i es e
      cases h
      obtain ⟨vs, h1, hd⟩ := s.lst e
      exact ⟨a, vs, rfl, SqL.of h1, hd⟩
    · cases h
  | _ => cases h
def oSum : RAD := fun xs S Q => match xs with
  | [x] => ∃ ds ns, seqAt S x = some ds ∧ intsOf ds = some ns ∧ Q (.int ns.sum) S
  | _ => False
theorem cd_sum (hc : X.calm = true) : CallD X (.builtin "sum") oSum := by
  intro pins s σ H xs us Q I rs h
  obtain ⟨ds, S, Q0, hx, hs, h, q⟩ := h
  unfold oSum at h
  split at h
  · obtain ⟨v, rfl, e⟩ := hx.one
    obtain ⟨ds, ns, e1, e2, h⟩ := h
    obtain ⟨a, vs, rfl, hq, hd⟩ := seqAt_sq e1 e hs
    cases intsOf_map e2
    cases hd.ints
    exact cr_sum hc pins s σ H _ us Q I rs ⟨a, ns, rfl, hq, q _ _ _ _ h .refl rfl hs⟩
  · cases h
def oMax2 : RAD := fun xs S Q => match xs with
  | [.int i, .int j] => Q (.int (if j > i then j else i)) S
  | _ => False
theorem cd_max2 (hc : X.calm = true) : CallD X (.builtin "max") oMax2 := by
  intro pins s σ H xs us Q I rs h
  obtain ⟨ds, S, Q0, hx, hs, h, q⟩ := h
  unfold oMax2 at h
  split at h
  · obtain ⟨v, w, rfl, e1, e2⟩ := hx.two
    cases (show v = .int _ from e1)
    cases (show w = .int _ from e2)
    exact call_max2 hc pins s σ H _ us Q I rs ⟨_, _, rfl, q _ _ _ _ h .refl rfl hs⟩
  · cases h
def oMin2 : RAD := fun xs S Q => match xs with
  | [.int i, .int j] => Q (.int (if j < i then j else i)) S
  | _ => False
theorem cd_min2 (hc : X.calm = true) : CallD X (.builtin "min") oMin2 := by
  intro pins s σ H xs us Q I rs h
  obtain ⟨ds, S, Q0, hx, hs, h, q⟩ := h
  unfold oMin2 at h
  split at h
  · obtain ⟨v, w, rfl, e1, e2⟩ := hx.two
    cases (show v = .int _ from e1)
    cases (show w = .int _ from e2)
    exact call_min2 hc pins s σ H _ us Q I rs ⟨_, _, rfl, q _ _ _ _ h .refl rfl hs⟩
  · cases h
def oInt : RAD := fun xs S Q => match xs with
  | [.int i] => Q (.int i) S
  | [.bl k] => Q (.int (if k = true then 1 else 0)) S
  | _ => False
theorem cd_int : CallD X (.type "int") oInt := by
  intro pins s σ H xs us Q I rs h
  obtain ⟨ds, S, Q0, hx, hs, h, q⟩ := h
  unfold oInt at h
  split at h
  · obtain ⟨v, rfl, e⟩ := hx.one
    cases (show v = .int _ from e)
    exact call_int1 pins s σ H _ us Q I rs (.inl ⟨_, rfl, q _ _ _ _ h .refl rfl hs⟩)
  · obtain ⟨v, rfl, e⟩ := hx.one
    cases (show v = .bl _ from e)
    exact call_int1 pins s σ H _ us Q I rs (.inr ⟨_, rfl, q _ _ _ _ h .refl rfl hs⟩)
  · cases h
def oStr : RAD := fun xs S Q => match xs with
  | [.int i] => i.natAbs.log2 < 1920 ∧ Q (.str (toString i)) S
  | _ => False
theorem cd_str : CallD X (.type "str") oStr := by
  intro pins s σ H xs us Q I rs h
  obtain ⟨ds, S, Q0, hx, hs, h, q⟩ := h
  unfold oStr at h
  split at h
  · obtain ⟨v, rfl, e⟩ := hx.one
    cases (show v = .int _ from e)
    exact call_str_int pins s σ H _ us Q I rs ⟨_, rfl, h.1, q _ _ _ _ h.2 .refl rfl hs⟩
  · cases h
def blsOf : List D → Option (List Bool)
  | [] => some []
  | .bl x :: r => (blsOf r).map (x :: ·)
  | _ :: _ => none
theorem blsOf_map : ∀ {ds : List D} {xs : List Bool}, blsOf ds = some xs → ds = xs.map D.bl
  | [], _, h => by cases h; rfl
  | .bl x :: r, _, h => by
    obtain ⟨ys, e, rfl⟩ := Option.map_eq_some_iff.mp h
    rw [blsOf_map e]
    rfl
theorem blsOf_of : ∀ xs : List Bool, blsOf (xs.map D.bl) = some xs
  | [] => rfl
  | x :: xs => by
    rw [List.map_cons]
    show (blsOf (xs.map D.bl)).map (x :: ·) = _
    rw [blsOf_of xs]
    rfl
def oAll : RAD := fun xs S Q => match xs with
  | [x] => ∃ ds bs, seqAt S x = some ds ∧ blsOf ds = some bs ∧ Q (.bl (bs.all id)) S
  | _ => False
def oAny : RAD := fun xs S Q => match xs with
  | [x] => ∃ ds bs, seqAt S x = some ds ∧ blsOf ds = some bs ∧ Q (.bl (bs.any id)) S
  | _ => False
theorem cd_all (hc : X.calm = true) : CallD X (.builtin "all") oAll := by
  intro pins s σ H xs us Q I rs h
  obtain ⟨ds, S, Q0, hx, hs, h, q⟩ := h
  unfold oAll at h
  split at h
  · obtain ⟨v, rfl, e⟩ := hx.one
    obtain ⟨ds, ns, e1, e2, h⟩ := h
    obtain ⟨a, vs, rfl, hq, hd⟩ := seqAt_sq e1 e hs
    cases blsOf_map e2
    cases hd.bls
    exact cr_all hc pins s σ H _ us Q I rs ⟨a, ns, rfl, hq, q _ _ _ _ h .refl rfl hs⟩
  · cases h
theorem cd_any (hc : X.calm = true) : CallD X (.builtin "any") oAny := by
  intro pins s σ H xs us Q I rs h
  obtain ⟨ds, S, Q0, hx, hs, h, q⟩ := h
  unfold oAny at h
  split at h
  · obtain ⟨v, rfl, e⟩ := hx.one
    obtain ⟨ds, ns, e1, e2, h⟩ := h
    obtain ⟨a, vs, rfl, hq, hd⟩ := seqAt_sq e1 e hs
    cases blsOf_map e2
    cases hd.bls
    exact cr_any hc pins s σ H _ us Q I rs ⟨a, ns, rfl, hq, q _ _ _ _ h .refl rfl hs⟩
  · cases h
/-- sorted of texts, or of ints -/
def oSorted : RAD := fun xs S Q => match xs with
  | [x] => ∃ ds, seqAt S x = some ds ∧ ds.length < 64 ∧
      ((∃ ts, strsOf ds = some ts ∧ ∀ (ys : List Str) (p : Addr), ys.Perm ts → sortedS ys = true → S p = none → Q (.ref p) (put S p (.lst (ys.map D.str)))) ∨
       (∃ ts, intsOf ds = some ts ∧ ∀ (ys : List Int) (p : Addr), ys.Perm ts → ys.Pairwise (· ≤ ·) → S p = none → Q (.ref p) (put S p (.lst (ys.map D.int)))))
  | _ => False
theorem cd_sorted : CallD X (.builtin "sorted") oSorted := by
  intro pins s σ H xs us Q I rs h
  obtain ⟨ds, S, Q0, hx, hs, h, q⟩ := h
  unfold oSorted at h
  split at h
  · obtain ⟨v, rfl, e⟩ := hx.one
    obtain ⟨ds, e1, hl, h⟩ := h
    obtain ⟨a, vs, rfl, hq, hd⟩ := seqAt_sq e1 e hs
    rcases h with ⟨ts, e2, h⟩ | ⟨ts, e2, h⟩
    · cases strsOf_map e2
      cases hd.strs
      exact cr_sortedS pins s σ H _ us Q I rs ⟨a, ts, rfl, hq, by rw [List.length_map] at hl; exact hl, fun ys p h1 h2 np => q _ _ _ _ (h ys p h1 h2 (hs.free np)) (Ext.new np) rfl (hs.newLst np (RDs.of_map (f := D.str) (g := V.str) (fun _ => rfl) ys))⟩
    · cases intsOf_map e2
      cases hd.ints
      exact cr_sorted pins s σ H _ us Q I rs ⟨a, ts, rfl, hq, by rw [List.length_map] at hl; exact hl, fun ys p h1 h2 np => q _ _ _ _ (h ys p h1 h2 (hs.free np)) (Ext.new np) rfl (hs.newLst np (RDs.of_map (f := D.int) (g := V.int) (fun _ => rfl) ys))⟩
  · cases h

/-! ### isinstance of built-in classes -/
def tyNmDO : Option DO → Option String
  | some (.lst _) => some "list"
  | some (.dk _) => some "dict"
  | _ => none
def tyNm (S : Store) : D → Option String
  | .non => some "NoneType"
  | .bl _ => some "bool"
  | .int _ => some "int"
  | .str _ => some "str"
  | .tup _ => some "tuple"
  | .ftup _ => some "tuple"
  | .rol _ => some "list"
  | .ref a => tyNmDO (S a)
  | .ty _ => none
theorem tyNm_ok {K : PySem.W.Frag} {H : Hp} {S : Store} {d : D} {v : V} {t : String} (h : tyNm S d = some t) (r : RD K H d v) (s : RS K H S) : TyX K H v (.type t) := by
  cases d with
  | non => cases h; cases (show v = .non from r); exact .base .non
  | bl b => cases h; cases (show v = .bl b from r); exact .base (.bl b)
  | int b => cases h; cases (show v = .int b from r); exact .base (.int b)
  | str b => cases h; cases (show v = .str b from r); exact .base (.str b)
  | tup ds =>
    cases h
    obtain ⟨p, vs, rfl, ht, _⟩ := r
    rcases ht with (ht | ⟨o, ht⟩) | ⟨o, its, n, hk, hc, _⟩
    · exact .base (.tup ht)
    · exact .fTuple ht
    · exact .kTuple hk hc
  | ftup ds =>
    cases h
    obtain ⟨p, vs, rfl, ⟨o, ht, _⟩, _⟩ := r
    exact .fTuple ht
  | rol ds =>
    cases h
    obtain ⟨p, vs, rfl, ht, _⟩ := r
    rcases ht with ⟨o, ht⟩ | ⟨o, its, n, hk, hc, _⟩
    · exact .base (.frz ht)
    · exact .kList hk hc
  | ref a =>
    cases (show v = .ref a from r)
    have h : tyNmDO (S a) = some t := h
    unfold tyNmDO at h
    split at h
    · rename_i ds e
      cases h
      obtain ⟨vs, h1, _⟩ := s.lst e
      exact .base (.lst h1)
    · rename_i ds e
      cases h
      obtain ⟨vs, h1, _⟩ := s a _ e
      exact .base (.dK h1)
    · cases h
  | ty n => cases h
def oIsi : RAD := fun xs S Q => match xs with
  | [x, .ty T] => ∃ t b, tyNm S x = some t ∧ kitB t T = some b ∧ Q (.bl b) S
  | _ => False
theorem cd_isi : CallD X (.builtin "isinstance") oIsi := by
  intro pins s σ H xs us Q I rs h
  obtain ⟨ds, S, Q0, hx, hs, h, q⟩ := h
  unfold oIsi at h
  split at h
  · obtain ⟨v, w, rfl, e1, e2⟩ := hx.two
    cases (show w = .ty _ from e2)
    obtain ⟨t, b, e3, e4, h⟩ := h
    exact call_isi pins s σ H _ us Q I rs ⟨v, _, _, _, b, rfl, .ty _, tyNm_ok e3 e1 hs, kit_ty e4, q _ _ _ _ h .refl rfl hs⟩
  · cases h
theorem kit_tt : kitB "tuple" "tuple" = some true := by decide +kernel
theorem kit_st : kitB "str" "tuple" = some false := by decide +kernel
theorem kit_it : kitB "int" "tuple" = some false := by decide +kernel
theorem kit_bt : kitB "bool" "tuple" = some false := by decide +kernel
theorem kit_ss : kitB "str" "str" = some true := by decide +kernel
theorem kit_ts : kitB "tuple" "str" = some false := by decide +kernel
theorem kit_is : kitB "int" "str" = some false := by decide +kernel
theorem kit_ii : kitB "int" "int" = some true := by decide +kernel
theorem kit_si : kitB "str" "int" = some false := by decide +kernel
theorem kit_ti : kitB "tuple" "int" = some false := by decide +kernel
theorem kit_bi : kitB "bool" "int" = some true := by decide +kernel
theorem kit_ib : kitB "int" "bool" = some false := by decide +kernel
theorem kit_sb : kitB "str" "bool" = some false := by decide +kernel
theorem kit_tb : kitB "tuple" "bool" = some false := by decide +kernel
theorem kit_bb : kitB "bool" "bool" = some true := by decide +kernel

/-- dict(d): a copy -/
def oDictCopy : RAD := fun xs S Q => match xs with
  | [.ref a] => ∃ kvs, S a = some (.dk kvs) ∧ ∀ p, S p = none → Q (.ref p) (put S p (.dk kvs))
  | _ => False
theorem cd_dict : CallD X (.type "dict") oDictCopy := by
  intro pins s σ H xs us Q I rs h
  obtain ⟨ds, S, Q0, hx, hs, h, q⟩ := h
  unfold oDictCopy at h
  split at h
  · rename_i a
    obtain ⟨v, rfl, e⟩ := hx.one
    cases (show v = .ref a from e)
    obtain ⟨kvs, e, h⟩ := h
    obtain ⟨ws, h1, hd⟩ := hs a _ e
    cases rs with
    | cons r1 r2 =>
      cases r2
      cases (show _ = Value.ref a from r1)
      refine d_copyOf I (.inl h1) fun p s' np I' => ⟨.ref p, _, I', rfl, ?_⟩
      exact q _ _ _ _ (h p (hs.free np)) (Ext.new np) rfl (hs.new np ⟨ws, upd_same, RKV.ext (Ext.new np) hd⟩)
  · cases h

/-! ### methods -/
abbrev RMD := D → List D → Store → KD → Prop
def liftM (K : PySem.W.Frag) (r : RMD) : V → List V → Hp → VK → Prop := fun x xs H Q => ∃ d ds S Q0, RD K H d x ∧ RDs K H ds xs ∧ RS K H S ∧ r d ds S Q0 ∧ ∀ d' S' v H', Q0 d' S' → Ext K H H' → RD K H' d' v → RS K H' S' → Q v H'
def MtD (X : Cx) (id : String) (r : RMD) : Prop := MtR X id (liftM X.K r)
def tyD (T : String) (x : D) (S : Store) : Prop := match x with
  | .str _ => T = "str"
  | .ref a => (T = "list" ∧ ∃ ds, S a = some (.lst ds)) ∨ (T = "dict" ∧ ∃ kvs, S a = some (.dk kvs))
  | .rol _ => T = "list"
  | _ => False
theorem tyD_ok {K : PySem.W.Frag} {H : Hp} {S : Store} {T : String} {d : D} {v : V} (h : tyD T d S) (r : RD K H d v) (s : RS K H S) : tyV K T v H := by
  cases d with
  | str z => cases (show v = .str z from r); exact h
  | ref a =>
    cases (show v = .ref a from r)
    rcases h with ⟨e, ds, h⟩ | ⟨e, kvs, h⟩
    · obtain ⟨vs, h1, _⟩ := s.lst h
      exact .inl ⟨e, vs, SqL.of h1⟩
    · obtain ⟨vs, h1, _⟩ := s a _ h
      exact .inr (.inr (.inl ⟨e, .inl ⟨vs, h1⟩⟩))
  | rol ds =>
    obtain ⟨p, vs, rfl, ht, _⟩ := r
    exact .inl ⟨h, vs, ht.sq⟩
  | _ => cases h
def tMD (T : String) (r : RMD) (to : TED) (t : TAD) : TED := fun δ S Q => to δ S fun x S1 => tyD T x S1 ∧ t δ S1 fun xs S2 => r x xs S2 Q
variable {o e : Expr} {es : List Expr} {to : TED} {t : TAD} {name : Str} {apos cpos : Pos} {T id : String} {r : RMD}
theorem de_m0 (pa : PlainAttrs T) (slot : Slot T name id) (hty : typeOf (.builtin id) = pure (.type "method_descriptor")) (hm : MtD X id r) (ho : DE X o to)
    (hbase : attributeBase o name X.env (eval o X.env) = eval o X.env := by rfl) (hline : (apos.endLine == cpos.line) = true := by rfl) : DE X (.Call (.Attribute o name apos) [] [] cpos) (tMD T r to tNilD) :=
  PEi (pe_bm0 pa slot hty hm ho hbase hline) fun σ H Q h => by
  obtain ⟨δ, S, Q0, h1, h2, h3, h4⟩ := h
  refine ⟨δ, S, _, h1, h2, h3, fun x S1 v H1 q e1 r1 s1 => ⟨tyD_ok q.1 r1 s1, x, [], S1, Q0, r1, rfl, s1, q.2, fun d' S' v' H' q' e' r' s' => h4 _ _ _ _ q' (e1.trans e') r' s'⟩⟩
theorem de_m (pa : PlainAttrs T) (slot : Slot T name id) (hty : typeOf (.builtin id) = pure (.type "method_descriptor")) (hm : MtD X id r) (ho : DE X o to) (ha : DA X (e :: es) t)
    (hbase : attributeBase o name X.env (eval o X.env) = eval o X.env := by rfl)
    (hfew : ((backTo cpos (starEach (e :: es) X.env)).all (fun x => !x.1) && (backToKw cpos (keywordEach [] X.env)).all (fun x => x.1.isSome)
      && decide ((e :: es).length + ([] : List Keyword).length + (if ([] : List Keyword).isEmpty then 0 else 1) < 30)) = true := by rfl)
    (hline : (apos.endLine == cpos.line) = true := by rfl) (hs : starEach (e :: es) X.env = (false, eval e X.env) :: starEach es X.env := by rfl) (hplain : (backTo cpos (starEach es X.env)).any (·.1) = false := by rfl) :
    DE X (.Call (.Attribute o name apos) (e :: es) [] cpos) (tMD T r to t) :=
  PEi (pe_bm pa slot hty hm ho ha hbase hfew hline hs hplain) fun σ H Q h => by
  obtain ⟨δ, S, Q0, h1, h2, h3, h4⟩ := h
  refine ⟨δ, S, _, h1, h2, h3, fun x S1 v H1 q e1 r1 s1 => ⟨tyD_ok q.1 r1 s1, δ, S1, _, h1.ext e1, s1, q.2, fun ds S2 vs H2 q2 e2 r2 s2 => ?_⟩⟩
  exact ⟨x, ds, S2, Q0, r1.ext e2, r2, s2, q2, fun d' S' v' H' q' e' r' s' => h4 _ _ _ _ q' (e1.trans (e2.trans e')) r' s'⟩
def mAppend : RMD := fun x xs S Q => match x, xs with
  | .ref a, [y] => ∃ ds, S a = some (.lst ds) ∧ ds.length < sizeLine ∧ Q .non (put S a (.lst (ds ++ [y])))
  | _, _ => False
theorem md_append : MtD X "list.append" mAppend := by
  intro pins s σ H x xs v us Q I rx rs h
  obtain ⟨d, ds, S, Q0, hx, hxs, hs, h, q⟩ := h
  unfold mAppend at h
  split at h
  · rename_i a y
    cases (show x = .ref a from hx)
    obtain ⟨w, rfl, ry⟩ := hxs.one
    obtain ⟨ds, e, hl, h⟩ := h
    obtain ⟨vs, h1, hd⟩ := hs.lst e
    refine mt_append pins s σ H _ _ v us Q I rx rs ⟨a, vs, w, rfl, rfl, h1, by rw [hd.length]; exact hl, ?_⟩
    exact q _ _ _ _ h (Ext.put h1 trivial) rfl (hs.put h1 trivial ⟨_, upd_same, (hd.snoc ry).ext (Ext.put h1 trivial)⟩)
  · cases h
def mPop : RMD := fun x xs S Q => match x, xs with
  | .ref a, [] => ∃ ds y, S a = some (.lst ds) ∧ ds[ds.length - 1]? = some y ∧ Q y (put S a (.lst ds.dropLast))
  | _, _ => False
theorem md_pop : MtD X "list.pop" mPop := by
  intro pins s σ H x xs v us Q I rx rs h
  obtain ⟨d, ds, S, Q0, hx, hxs, hs, h, q⟩ := h
  unfold mPop at h
  split at h
  · rename_i a
    cases (show x = .ref a from hx)
    cases (show xs = [] from hxs)
    obtain ⟨ds, y, e, ey, h⟩ := h
    obtain ⟨vs, h1, hd⟩ := hs.lst e
    obtain ⟨w, ew, rw'⟩ := hd.get ey
    refine mt_pop pins s σ H _ _ v us Q I rx rs ⟨a, vs, w, rfl, rfl, h1, by rw [hd.length]; exact ew, ?_⟩
    exact q _ _ _ _ h (Ext.put h1 trivial) (rw'.ext (Ext.put h1 trivial)) (hs.put h1 trivial ⟨_, upd_same, hd.dropLast.ext (Ext.put h1 trivial)⟩)
  · cases h
def mSplit : RMD := fun x xs S Q => match x, xs with
  | .str a, [.str b] => (b.length == 0) = false ∧ a.length + 2 ≤ sizeLine ∧ ∀ p, S p = none → Q (.ref p) (put S p (.lst ((Txt.split a b).map D.str)))
  | _, _ => False
theorem md_split : MtD X "str.split" mSplit := by
  intro pins s σ H x xs v us Q I rx rs h
  obtain ⟨d, ds, S, Q0, hx, hxs, hs, h, q⟩ := h
  unfold mSplit at h
  split at h
  · rename_i a b
    cases (show x = .str a from hx)
    obtain ⟨w, rfl, ry⟩ := hxs.one
    cases (show w = .str b from ry)
    refine mt_split pins s σ H _ _ v us Q I rx rs ⟨a, b, rfl, rfl, h.1, h.2.1, fun p np => ?_⟩
    exact q _ _ _ _ (h.2.2 p (hs.free np)) (Ext.new np) rfl (hs.newLst np (RDs.of_map (f := D.str) (g := V.str) (fun _ => rfl) _))
  · cases h
/-- d.get(k, x), d.get(k) -/
def mGet : RMD := fun x xs S Q => match x, xs with
  | .ref a, [y, z] => ∃ kvs k, S a = some (.dk kvs) ∧ keyOf y = some k ∧ Q ((dval kvs k).getD z) S
  | .ref a, [y] => ∃ kvs k, S a = some (.dk kvs) ∧ keyOf y = some k ∧ Q ((dval kvs k).getD .non) S
  | _, _ => False
theorem RKV.getD {K : PySem.W.Frag} {H : Hp} {kvs : List (Key × D)} {ws : List (Key × V)} (h : RKV K H kvs ws) (k : Key) {d : D} {v : V} (r : RD K H d v) : RD K H ((dval kvs k).getD d) ((valV ws k).getD v) := by
  rcases h.val k with ⟨d', v', e1, e2, r'⟩ | ⟨e1, e2⟩
  · rw [e1, e2]; exact r'
  · rw [e1, e2]; exact r
theorem md_get (hu : X.A.units + 1 < cLine) : MtD X "dict.get" mGet := by
  intro pins s σ H x xs v us Q I rx rs h
  obtain ⟨d, ds, S, Q0, hx, hxs, hs, h, q⟩ := h
  unfold mGet at h
  split at h
  · rename_i a y z
    cases (show x = .ref a from hx)
    obtain ⟨w1, w2, rfl, r1, r2⟩ := hxs.two
    obtain ⟨kvs, k, e, ek, hq⟩ := h
    have ed := keyOf_kD ek
    subst ed
    have ev := kD_kV r1
    subst ev
    obtain ⟨ws, h1, hd⟩ := hs a _ e
    cases (show v = Value.ref a from rx)
    cases rs with
    | cons p1 p2 =>
      cases p2 with
      | cons p2 p3 =>
        cases p3
        refine d_get2 hu I (DGet.k h1) p1 p2 fun w' s' I' r' => ⟨_, H, I', r', ?_⟩
        exact q _ _ _ _ hq .refl (hd.getD k r2) hs
  · rename_i a y
    cases (show x = .ref a from hx)
    obtain ⟨w1, rfl, r1⟩ := hxs.one
    obtain ⟨kvs, k, e, ek, hq⟩ := h
    have ed := keyOf_kD ek
    subst ed
    have ev := kD_kV r1
    subst ev
    obtain ⟨ws, h1, hd⟩ := hs a _ e
    cases (show v = Value.ref a from rx)
    cases rs with
    | cons p1 p2 =>
      cases p2
      refine d_get1 hu I (DGet.k h1) p1 fun w' s' I' r' => ⟨_, H, I', r', ?_⟩
      exact q _ _ _ _ hq .refl (hd.getD k rfl) hs
  · cases h
/-- d.pop(k, x) -/
def mDPop : RMD := fun x xs S Q => match x, xs with
  | .ref a, [y, z] => ∃ kvs k, S a = some (.dk kvs) ∧ keyOf y = some k ∧ Q ((dval kvs k).getD z) (put S a (.dk (ddrop kvs k)))
  | _, _ => False
theorem dropK_none {kvs : List (Key × V)} {k : Key} (h : valV kvs k = none) : dropK kvs k = kvs := by
  unfold dropK
  rw [List.filter_eq_self]
  intro a ha
  simp only [ne_eq, decide_not, Bool.not_eq_true', decide_eq_false_iff_not]
  intro e
  have z := valV_any k kvs
  rw [h] at z
  have z2 : (kvs.any fun kv => decide (kv.1 = k)) = true := List.any_eq_true.mpr ⟨a, ha, by simp [e]⟩
  rw [z2] at z
  cases z
theorem md_dpop : MtD X "dict.pop" mDPop := by
  intro pins s σ H x xs v us Q I rx rs h
  obtain ⟨d, ds, S, Q0, hx, hxs, hs, h, q⟩ := h
  unfold mDPop at h
  split at h
  · rename_i a y z
    cases (show x = .ref a from hx)
    obtain ⟨w1, w2, rfl, r1, r2⟩ := hxs.two
    obtain ⟨kvs, k, e, ek, hq⟩ := h
    have ed := keyOf_kD ek
    subst ed
    have ev := kD_kV r1
    subst ev
    obtain ⟨ws, h1, hd⟩ := hs a _ e
    have go := hd.drop k
    cases (show v = Value.ref a from rx)
    cases rs with
    | cons p1 p2 =>
      cases p2 with
      | cons p2 p3 =>
        cases p3
        rcases hd.val k with ⟨d', v', e1, e2, r'⟩ | ⟨e1, e2⟩
        · refine d_pop I h1 p1 e2 (.inr ⟨_, rfl⟩) fun w' s' I' r'' => ⟨v', _, I', r'', ?_⟩
          rw [e1] at hq
          exact q _ _ _ _ hq (Ext.put h1 trivial) (r'.ext (Ext.put h1 trivial)) (hs.put h1 trivial ⟨_, upd_same, RKV.ext (Ext.put h1 trivial) go⟩)
        · refine d_popD I h1 p1 e2 fun s' I' => ⟨w2, H, I', p2, ?_⟩
          rw [e1] at hq
          rw [dropK_none e2] at go
          refine q _ _ _ _ hq .refl r2 fun b o eb => ?_
          by_cases z : b = a
          · subst z
            rw [put_same] at eb
            cases eb
            exact ⟨ws, h1, go⟩
          · rw [put_ne z] at eb
            exact hs b o eb
  · cases h
end
end DL

set_option Elab.async false
set_option maxRecDepth 100000
/-! DLf: loops and comprehensions over data. -/
namespace DL
open PySem PySem.Spec PyProof.Rows L2

/-- what a loop walks: at turn i, in a store: not known, at its end, or the item -/
abbrev ItD := Nat → Store → Option (Option D)
/-- it is what the hand layer walks, from a heap on -/
def RI (K : PySem.W.Frag) (H1 : Hp) (J : ItD) (I : It) : Prop := ∀ i S H, Ext K H1 H → RS K H S →
  (J i S = some none → I.stop i H) ∧ ∀ d, J i S = some (some d) → I.go i H ∧ ∀ x H', I.yld i H x H' → Ext K H H' ∧ RD K H' d x ∧ RS K H' S
abbrev TID := StD → Store → (ItD → Store → Prop) → Prop
def liftI (K : PySem.W.Frag) (t : TID) : TI := fun σ H R => ∃ δ S R0, RSt K H δ σ ∧ RS K H S ∧ t δ S R0 ∧ ∀ J S' I H', R0 J S' → Ext K H H' → RI K H' J I → RS K H' S' → R I H'
def DI (X : Cx) (tg e : Expr) (t : TID) : Prop := PI X tg e (liftI X.K t)
def lstJ (o : Option DO) (i : Nat) : Option (Option D) := match o with
  | some (.lst ds) => some ds[i]?
  | _ => none
def itJ : D → ItD
  | .tup ds => fun i _ => some ds[i]?
  | .rol ds => fun i _ => some ds[i]?
  | .str z => fun i _ => some (z.cps[i]?.map fun c => .str ⟨#[c]⟩)
  | .ref a => fun i S => lstJ (S a) i
  | _ => fun _ _ => none
def rngJ (lo : Int) (n : Nat) : ItD := fun i _ => some (if i < n then some (.int (lo + (i : Nat))) else none)
def itOk : D → Store → Prop
  | .tup _, _ => True
  | .rol _, _ => True
  | .str _, _ => True
  | .ref a, S => ∃ ds, S a = some (.lst ds)
  | _, _ => False
section
variable {K : PySem.W.Frag} {H1 : Hp}
theorem ri_tup {p : Addr} {ds : List D} {vs : List V} (ht : SqT K H1 p vs) (hd : RDs K H1 ds vs) (inj : ∀ H xs, Ext K H1 H → SqT K H p xs → xs[0]? = xs[0]?) : RI K H1 (itJ (.tup ds)) (Itt K p) := fun i S H e s => by
  have ht' := e.1 _ _ ht
  have hd' := hd.ext e
  refine ⟨fun q => ⟨vs, ht', ?_⟩, fun d q => ?_⟩
  · have q' : ds[i]? = none := Option.some.inj q
    rw [hd.length]
    exact List.getElem?_eq_none_iff.mp q'
  · have q' : ds[i]? = some d := Option.some.inj q
    obtain ⟨v, ev, rv⟩ := hd'.get q'
    refine ⟨⟨vs, v, ht', ev⟩, fun x H' y => ?_⟩
    obtain ⟨rfl, y⟩ := y
    have := y vs ht'
    rw [ev] at this
    cases this
    exact ⟨.refl, rv, s⟩
theorem ri_rol {p : Addr} {ds : List D} {vs : List V} (ht : SqR K H1 p vs) (hd : RDs K H1 ds vs) : RI K H1 (itJ (.rol ds)) (Itl K p) := fun i S H e s => by
  have ht' := (e.2.1 _ _ ht).sq
  have hd' := hd.ext e
  refine ⟨fun q => ⟨vs, ht', ?_⟩, fun d q => ?_⟩
  · have q' : ds[i]? = none := Option.some.inj q
    rw [hd.length]
    exact List.getElem?_eq_none_iff.mp q'
  · have q' : ds[i]? = some d := Option.some.inj q
    obtain ⟨v, ev, rv⟩ := hd'.get q'
    refine ⟨⟨vs, v, ht', ev⟩, fun x H' y => ?_⟩
    obtain ⟨rfl, y⟩ := y
    have := y vs ht'
    rw [ev] at this
    cases this
    exact ⟨.refl, rv, s⟩
theorem lstJ_some {o : Option DO} {i : Nat} {r : Option D} (h : lstJ o i = some r) : ∃ ds, o = some (.lst ds) ∧ ds[i]? = r := by
  unfold lstJ at h
  split at h
  · exact ⟨_, rfl, Option.some.inj h⟩
  · cases h
theorem ri_lst {a : Addr} : RI K H1 (itJ (.ref a)) (Itl K a) := fun i S H e s => by
  refine ⟨fun q => ?_, fun d q => ?_⟩
  · obtain ⟨ds, ea, q'⟩ := lstJ_some q
    obtain ⟨vs, h1, hd⟩ := s.lst ea
    refine ⟨vs, SqL.of h1, ?_⟩
    rw [hd.length]
    exact List.getElem?_eq_none_iff.mp q'
  · obtain ⟨ds, ea, q'⟩ := lstJ_some q
    obtain ⟨vs, h1, hd⟩ := s.lst ea
    obtain ⟨v, ev, rv⟩ := hd.get q'
    refine ⟨⟨vs, v, SqL.of h1, ev⟩, fun x H' y => ?_⟩
    obtain ⟨rfl, y⟩ := y
    have := y vs (SqL.of h1)
    rw [ev] at this
    cases this
    exact ⟨.refl, rv, s⟩
theorem ri_str {z : Str} : RI K H1 (itJ (.str z)) (Its z) := fun i S H e s => by
  refine ⟨fun q => ?_, fun d q => ?_⟩
  · have q' : (z.cps[i]?.map fun c => D.str ⟨#[c]⟩) = none := Option.some.inj q
    have q2 := Option.map_eq_none_iff.mp q'
    exact Array.getElem?_eq_none_iff.mp q2
  · have q' : (z.cps[i]?.map fun c => D.str ⟨#[c]⟩) = some d := Option.some.inj q
    obtain ⟨c, ec, rfl⟩ := Option.map_eq_some_iff.mp q'
    refine ⟨(Array.getElem?_eq_some_iff.mp ec).1, fun x H' y => ?_⟩
    obtain ⟨rfl, c', ec', rfl⟩ := y
    rw [ec] at ec'
    cases ec'
    exact ⟨.refl, rfl, s⟩
theorem ri_rng {lo : Int} {n : Nat} : RI K H1 (rngJ lo n) (Itr lo n) := fun i S H e s => by
  refine ⟨fun q => ?_, fun d q => ?_⟩
  · have q' : (if i < n then some (D.int (lo + (i : Nat))) else none) = none := Option.some.inj q
    split at q'
    · cases q'
    · rename_i h
      exact Nat.le_of_not_lt h
  · have q' : (if i < n then some (D.int (lo + (i : Nat))) else none) = some d := Option.some.inj q
    split at q'
    · rename_i h
      cases q'
      refine ⟨h, fun x H' y => ?_⟩
      obtain ⟨rfl, rfl⟩ := y
      exact ⟨.refl, rfl, s⟩
    · cases q'
end
section
variable {X : Cx} {tg e : Expr} {te : TED} {ta : TAD}
def tIterD (te : TED) : TID := fun δ S R => te δ S fun x S1 => itOk x S1 ∧ R (itJ x) S1
/-- a walk over a value: list, tuple, text -/
theorem di_any (he : DE X e te) : DI X tg e (tIterD te) := by
  refine ⟨fun pins s σ H R I h => ?_⟩
  obtain ⟨δ, S, R0, h1, h2, h3, h4⟩ := h
  have key : liftE X.K te σ H (fun v H1 => ∃ d S1, RD X.K H1 d v ∧ RS X.K H1 S1 ∧ Ext X.K H H1 ∧ itOk d S1 ∧ R0 (itJ d) S1) := ⟨δ, S, _, h1, h2, h3, fun d S1 v H1 q e1 r1 s1 => ⟨d, S1, r1, s1, e1, q.1, q.2⟩⟩
  refine thn (he.run pins s σ H _ I key) fun v s1 ⟨x, H1, I1, rx, d, S1, rd, rs, e1, ok, q⟩ => ?_
  cases d with
  | tup ds =>
    obtain ⟨p, vs, rfl, ht, hd⟩ := rd
    cases (show v = Value.ref p from rx)
    obtain ⟨its, rv, pt, hz⟩ := I1.tuple ht
    exact wpAny_pyIter_tuple (show s1.heap.IsTuple p its.toArray from pt) (pi_one (tk := s1.toks) I1 _ (turn_tuple p _) ⟨_, Heap.get?_push_size _ rfl, rfl, rfl⟩ (h4 _ _ _ _ q e1 (ri_tup ht hd fun _ _ _ _ => rfl) rs))
  | rol ds =>
    obtain ⟨p, vs, rfl, ht, hd⟩ := rd
    cases (show v = Value.ref p from rx)
    obtain ⟨its, rv, pt, hz⟩ := I1.list ht.sq
    exact wpAny_pyIter_list pt.isList (pi_one (tk := s1.toks) I1 _ (turn_list p _) ⟨_, Heap.get?_push_size _ rfl, rfl, rfl⟩ (h4 _ _ _ _ q e1 (ri_rol ht hd) rs))
  | ref a =>
    cases (show x = .ref a from rd)
    cases (show v = Value.ref a from rx)
    obtain ⟨ds, ea⟩ := ok
    obtain ⟨vs, hv, hd⟩ := rs.lst ea
    obtain ⟨its, rv, pt, hz⟩ := I1.list (SqL.of hv)
    exact wpAny_pyIter_list pt.isList (pi_one (tk := s1.toks) I1 _ (turn_list a _) ⟨_, Heap.get?_push_size _ rfl, rfl, rfl⟩ (h4 _ _ _ _ q e1 ri_lst rs))
  | str z =>
    cases (show x = .str z from rd)
    obtain ⟨t, rfl⟩ := rx
    have go := h4 _ _ _ _ q e1 (ri_str (z := z)) rs
    cases ha : z.cps.all (· < 128)
    · exact wpAny_pyIter_wide ha (pi_one (tk := s1.toks) I1 _ (turn_str _ z t "str_iterator" (.inr rfl)) ⟨_, Heap.get?_push_size _ rfl, rfl, rfl⟩ go)
    · exact wpAny_pyIter_ascii ha (pi_one (tk := s1.toks) I1 _ (turn_str _ z t "str_ascii_iterator" (.inl rfl)) ⟨_, Heap.get?_push_size _ rfl, rfl, rfl⟩ go)
  | _ => cases ok
theorem PIi {t t' : TI} (h : PI X tg e t') (w : ∀ σ H Q, t σ H Q → t' σ H Q) : PI X tg e t := ⟨fun pins s σ H Q I q => h.run pins s σ H Q I (w _ _ _ q)⟩
def tRng1D (ta : TAD) : TID := fun δ S R => ta δ S fun xs S1 => match xs with
  | [.int j] => (-(2 ^ 62) ≤ j ∧ j < 2 ^ 62) ∧ R (rngJ 0 j.toNat) S1
  | _ => False
def tRng2D (ta : TAD) : TID := fun δ S R => ta δ S fun xs S1 => match xs with
  | [.int i, .int j] => (-(2 ^ 62) ≤ i ∧ i < 2 ^ 62 ∧ -(2 ^ 62) ≤ j ∧ j < 2 ^ 62) ∧ R (rngJ i (j - i).toNat) S1
  | _ => False
theorem di_range1 {a : Expr} {p pos : Pos} (hg : Gl X "range") (hm : X.mg "range" = none) (ha : DA X [a] ta) (hs : starEach [a] X.env = [(false, eval a X.env)] := by rfl) : DI X tg (.Call (.Name "range" p) [a] [] pos) (tRng1D ta) := PIi (pi_range1 hg hm ha hs) fun σ H R h => by
  obtain ⟨δ, S, R0, h1, h2, h3, h4⟩ := h
  refine ⟨δ, S, _, h1, h2, h3, fun xs S1 vs H1 q e1 r1 s1 => ?_⟩
  split at q
  · obtain ⟨v, rfl, ev⟩ := r1.one
    exact ⟨_, by rw [show v = .int _ from ev], q.1.1, q.1.2, h4 _ _ _ _ q.2 e1 ri_rng s1⟩
  · cases q
theorem di_range2 {a b : Expr} {p pos : Pos} (hg : Gl X "range") (hm : X.mg "range" = none) (ha : DA X [a, b] ta) (hs : starEach [a, b] X.env = [(false, eval a X.env), (false, eval b X.env)] := by rfl) (hs2 : starEach [b] X.env = [(false, eval b X.env)] := by rfl) : DI X tg (.Call (.Name "range" p) [a, b] [] pos) (tRng2D ta) := PIi (pi_range2 hg hm ha hs hs2) fun σ H R h => by
  obtain ⟨δ, S, R0, h1, h2, h3, h4⟩ := h
  refine ⟨δ, S, _, h1, h2, h3, fun xs S1 vs H1 q e1 r1 s1 => ?_⟩
  split at q
  · obtain ⟨v, w, rfl, ev, ew⟩ := r1.two
    exact ⟨_, _, by rw [show v = .int _ from ev, show w = .int _ from ew], q.1, h4 _ _ _ _ q.2 e1 ri_rng s1⟩
  · cases q
end

/-! ### for, while -/
/-- n: a bound of the turns; W: what holds ahead of turn i -/
def forB (J : ItD) (g : GD) (tb : TSD) (G : EndsD) (δ : StD) (S1 : Store) : Prop := ∃ (n : Nat) (W : Nat → StD → Store → Prop), W 0 δ S1 ∧ ∀ i δ S, W i δ S →
  (J i S = some none ∧ G.nx δ S) ∨ ∃ d, J i S = some (some d) ∧ i < n ∧ asg g d δ S fun δ2 S2 => tb { G with nx := W (i + 1), ct := W (i + 1), bk := G.nx } δ2 S2
def tForD (wi : TID) (g : GD) (tb : TSD) : TSD := fun G δ S => wi δ S fun J S1 => forB J g tb G δ S1
def tWhileD (c : TTD) (tb : TSD) : TSD := fun G δ S => ∃ W : Nat → StD → Store → Prop, (∃ m, W m δ S) ∧ ∀ m δ S, W m δ S →
  c δ S fun b S1 => if b = true then ∃ N : StD → Store → Prop, (∀ δ' S', N δ' S' → ∃ m', m' < m ∧ W m' δ' S') ∧ tb { G with nx := N, ct := N, bk := G.nx } δ S1 else G.nx δ S1
section
variable {X : Cx} {tg iter c : Expr} {body : List Stmt} {wi : TID} {g : GD} {tb : TSD} {pos : Pos} {tc : TTD}
theorem ds_for (hp : PassesOwn (model X.prog X.w) X.A X.env X.xe) (hc : X.calm = true) (hi : DI X tg iter wi) (hg : DG X tg g) (hb : DSs X body tb) (hs : ∀ x, foldedSetIterable iter X.env x = pure x := by intro _; rfl) : DS X (.For tg iter body [] pos) (tForD wi g tb) :=
  PSi (ps_for hp hc hi hg hb hs) fun E σ H h => by
  obtain ⟨δ, S, G, h1, h2, h3, n, r, b, ct⟩ := h
  refine ⟨δ, S, _, h1, h2, h3, fun J S1 It H1 q e1 ri s1 => ?_⟩
  obtain ⟨N, W, w0, turn⟩ := q
  refine ⟨fun i m σ' H' => m = N - i ∧ ∃ δ' S', Ext X.K H1 H' ∧ RSt X.K H' δ' σ' ∧ RS X.K H' S' ∧ W i δ' S', ⟨N, rfl, δ, S1, .refl, h1.ext e1, s1, w0⟩, ?_⟩
  rintro i m σ' H' ⟨rfl, δ', S', e2, r2, s2, w2⟩
  obtain ⟨stop, go⟩ := ri i S' H' e2 s2
  rcases turn i δ' S' w2 with ⟨ej, q⟩ | ⟨d, ej, hi', q⟩
  · exact .inl ⟨stop ej, n _ _ _ _ q (e1.trans e2) r2 s2⟩
  · obtain ⟨hgo, hy⟩ := go d ej
    refine .inr ⟨hgo, fun σ3 H3 => ∃ δ3 S3, Ext X.K H1 H3 ∧ RSt X.K H3 δ3 σ3 ∧ RS X.K H3 S3 ∧ W (i + 1) δ3 S3, fun σ3 H3 ⟨δ3, S3, a1, a2, a3, a4⟩ => ⟨N - (i + 1), by omega, rfl, δ3, S3, a1, a2, a3, a4⟩, fun x H3 y => ?_⟩
    obtain ⟨e3, rd, s3⟩ := hy x H3 y
    refine asg_real q rd (r2.ext e3) s3 fun δ4 σ4 q4 r4 => ?_
    exact lift_shift (e2.trans e3) r4 s3 q4 (fun δ5 S5 σ5 H5 w5 e5 r5 s5 => ⟨δ5, S5, e5, r5, s5, w5⟩) (fun d5 S5 v5 H5 w5 e5 => r d5 S5 v5 H5 w5 (e1.trans e5)) (fun δ5 S5 σ5 H5 w5 e5 => n δ5 S5 σ5 H5 w5 (e1.trans e5)) fun δ5 S5 σ5 H5 w5 e5 r5 s5 => ⟨δ5, S5, e5, r5, s5, w5⟩
theorem ds_while (hp : PassesOwn (model X.prog X.w) X.A X.env X.xe) (hc : DT X c tc) (hb : DSs X body tb) : DS X (.While c body [] pos) (tWhileD tc tb) := PSi (ps_while hp hc hb) fun E σ H h => by
  obtain ⟨δ, S, G, h1, h2, h3, n, r, b, ct⟩ := h
  obtain ⟨W, ⟨m0, w0⟩, turn⟩ := h3
  refine ⟨fun m σ' H' => ∃ δ' S', Ext X.K H H' ∧ RSt X.K H' δ' σ' ∧ RS X.K H' S' ∧ W m δ' S', ⟨m0, δ, S, .refl, h1, h2, w0⟩, ?_⟩
  rintro m σ' H' ⟨δ', S', e2, r2, s2, w2⟩
  refine ⟨δ', S', _, r2, s2, turn m δ' S' w2, fun k S3 H3 q e3 s3 => ?_⟩
  cases k with
  | false => exact n _ _ _ _ q (e2.trans e3) (r2.ext e3) s3
  | true =>
    obtain ⟨N, hN, q⟩ := q
    rw [if_pos rfl]
    refine ⟨fun σ4 H4 => ∃ δ4 S4, Ext X.K H H4 ∧ RSt X.K H4 δ4 σ4 ∧ RS X.K H4 S4 ∧ N δ4 S4, fun σ4 H4 ⟨δ4, S4, a1, a2, a3, a4⟩ => ?_, ?_⟩
    · obtain ⟨m', hm, w4⟩ := hN δ4 S4 a4
      exact ⟨m', hm, δ4, S4, a1, a2, a3, w4⟩
    · exact lift_shift (e2.trans e3) (r2.ext e3) s3 q (fun δ5 S5 σ5 H5 w5 e5 r5 s5 => ⟨δ5, S5, e5, r5, s5, w5⟩) r n fun δ5 S5 σ5 H5 w5 e5 r5 s5 => ⟨δ5, S5, e5, r5, s5, w5⟩
end

/-! ### comprehensions -/
def wipeD (δ : StD) : List Nat → StD
  | [] => δ
  | v :: vs => sto (wipeD δ vs) v none
theorem RSt.wipe {K : PySem.W.Frag} {H : Hp} {δ : StD} {σ : L2.St} (h : RSt K H δ σ) : ∀ vs : List Nat, RSt K H (wipeD δ vs) (L2.wipe σ vs)
  | [] => h
  | v :: vs => RSt.stn (RSt.wipe h vs)
/-- the places that a target stores -/
def GD.places : GD → List Nat
  | .one i => [i]
  | .many is => is
theorem wipe_set {σ : L2.St} {i : Nat} {x : Option V} : ∀ {vs : List Nat}, i ∈ vs → L2.wipe (σ.set i x) vs = L2.wipe σ vs
  | v :: vs, h => by
    show (L2.wipe (σ.set i x) vs).set v none = (L2.wipe σ vs).set v none
    by_cases hi : i ∈ vs
    · rw [wipe_set hi]
    · have e : i = v := by
        rcases List.mem_cons.mp h with e | e
        · exact e
        · exact absurd e hi
      subst e
      have comm : ∀ (ws : List Nat), i ∉ ws → L2.wipe (σ.set i x) ws = (L2.wipe σ ws).set i x := by
        intro ws
        induction ws with
        | nil => intro _; rfl
        | cons w ws ih =>
          intro hw
          show (L2.wipe (σ.set i x) ws).set w none = ((L2.wipe σ ws).set w none).set i x
          rw [ih (fun z => hw (List.mem_cons_of_mem _ z)), List.set_comm _ _ (fun z => hw (by subst z; exact List.mem_cons_self))]
      rw [comm vs hi, List.set_set]
theorem wipe_idem {σ : L2.St} : ∀ {ws vs : List Nat}, (∀ w ∈ ws, w ∈ vs) → L2.wipe (L2.wipe σ ws) vs = L2.wipe σ vs
  | [], _, _ => rfl
  | w :: ws, vs, h => by
    show L2.wipe ((L2.wipe σ ws).set w none) vs = L2.wipe σ vs
    rw [wipe_set (h w List.mem_cons_self), wipe_idem fun x hx => h x (List.mem_cons_of_mem _ hx)]
theorem wipe_sets {vs : List Nat} : ∀ {is : List Nat} {xs : List V} {σ : L2.St}, (∀ i ∈ is, i ∈ vs) → L2.wipe (DL.sets σ is xs) vs = L2.wipe σ vs
  | [], _, _, _ => by unfold DL.sets; rfl
  | i :: is, [], _, _ => by unfold DL.sets; rfl
  | i :: is, x :: xs, σ, h => by
    show L2.wipe (DL.sets (σ.set i (some x)) is xs) vs = _
    rw [wipe_sets fun j hj => h j (List.mem_cons_of_mem _ hj), wipe_set (h i List.mem_cons_self)]
/-- .. with what the store did to the slots -/
theorem asg_wipe {K : PySem.W.Frag} {g : GD} {d : D} {v : V} {δ : StD} {σ : L2.St} {S : Store} {H : Hp} {vs : List Nat} {Q0 : StD → Store → Prop} {Q : L2.St → Hp → Prop} (hp : ∀ i ∈ g.places, i ∈ vs) (h : asg g d δ S Q0) (rd : RD K H d v) (h1 : RSt K H δ σ) (h2 : RS K H S)
    (q : ∀ δ' σ', Q0 δ' S → RSt K H δ' σ' → L2.wipe σ' vs = L2.wipe σ vs → Q σ' H) : realG K g v σ H Q := by
  cases g with
  | one i => exact q _ _ h (h1.sto rd) (wipe_set (hp i List.mem_cons_self))
  | many is =>
    cases d with
    | tup ds =>
      obtain ⟨hl, h⟩ := h
      obtain ⟨p, ws, rfl, ht, hd⟩ := rd
      exact ⟨p, ws, rfl, ht, by rw [hd.length]; exact hl, gNames_at (by rw [hd.length]; exact hl) (q _ _ h (h1.sets hd) (wipe_sets hp))⟩
    | _ => cases h
/-- [elt for tg in iter if ..]: the new list stands at p; W: what holds ahead of turn i, the store with the list within -/
def lcB (J : ItD) (g : GD) (tt : TTD) (te : TED) (vs : List Nat) (δ : StD) (Q : KD) (p : Addr) (S1 : Store) : Prop := ∃ (n : Nat) (W : Nat → Store → Prop), W 0 (put S1 p (.lst [])) ∧ ∀ i S, W i S →
  (J i S = some none ∧ Q (.ref p) S) ∨ ∃ d, J i S = some (some d) ∧ i < n ∧ asg g d (wipeD δ vs) S fun δ2 S2 => tt δ2 S2 fun b S3 =>
    if b = true then te δ2 S3 fun y S4 => ∃ acc, S4 p = some (.lst acc) ∧ acc.length < sizeLine ∧ W (i + 1) (put S4 p (.lst (acc ++ [y]))) else W (i + 1) S3
def tLcD (wi : TID) (g : GD) (tt : TTD) (te : TED) (vs : List Nat) : TED := fun δ S Q => wi δ S fun J S1 => ∀ p, S1 p = none → lcB J g tt te vs δ Q p S1
def tYesD : TTD := fun _ S Q => Q true S
def DTs (X : Cx) (ifs : List Expr) (t : TTD) : Prop := PTs X ifs (liftT X.K t)
section
variable {X : Cx} {elt tg iter : Expr} {ifs : List Expr} {scope : Scope} {own : List (Str × Nat)} {pos : Pos} {wi : TID} {g : GD} {tt : TTD} {te : TED}
theorem PTsi {t t' : TT} (h : PTs X ifs t') (w : ∀ σ H Q, t σ H Q → t' σ H Q) : PTs X ifs t := ⟨fun pins s σ H Q I q => h.run pins s σ H Q I (w _ _ _ q)⟩
theorem dts_nil : DTs X [] tYesD := PTsi pts_nil fun σ H Q h => by
  obtain ⟨δ, S, Q0, h1, h2, h3, h4⟩ := h
  exact h4 _ _ _ h3 .refl h2
theorem dts_one {c : Expr} (h : DT X c tt) : DTs X [c] tt := pts_one h
theorem lc_lift {σ : L2.St} {H : Hp} {Q : VK} {vs : List Nat} (hp : ∀ i ∈ g.places, i ∈ vs) (h : liftE X.K (tLcD wi g tt te vs) σ H Q) : tLc (liftI X.K wi) (realG X.K g) (liftT X.K tt) (liftE X.K te) vs σ H Q := by
  obtain ⟨δ, S, Q0, h1, h2, h3, h4⟩ := h
  refine ⟨δ, S, _, h1, h2, h3, fun J S1 It H1 q e1 ri s1 => fun D nD => ?_⟩
  obtain ⟨N, W, w0, turn⟩ := q D (s1.free nD)
  refine ⟨fun i m H' => m = N - i ∧ ∃ S', Ext X.K H1 H' ∧ RS X.K H' S' ∧ W i S', ⟨N, rfl, _, Ext.new nD, s1.newLst (ds := []) (vs := []) nD rfl, w0⟩, ?_⟩
  rintro i m H' ⟨rfl, S', e2, s2, w2⟩
  obtain ⟨stop, go⟩ := ri i S' H' e2 s2
  rcases turn i S' w2 with ⟨ej, q⟩ | ⟨d, ej, hi', q⟩
  · exact .inl ⟨stop ej, h4 _ _ _ _ q (e1.trans e2) rfl s2⟩
  · obtain ⟨hgo, hy⟩ := go d ej
    refine .inr ⟨hgo, fun H3 => ∃ S3, Ext X.K H1 H3 ∧ RS X.K H3 S3 ∧ W (i + 1) S3, fun H3 ⟨S3, a1, a2, a3⟩ => ⟨N - (i + 1), by omega, rfl, S3, a1, a2, a3⟩, fun x H3 y => ?_⟩
    obtain ⟨e3, rd, s3⟩ := hy x H3 y
    have e13 := e2.trans e3
    refine asg_wipe (vs := vs) hp q rd ((h1.ext (e1.trans e13)).wipe vs) s3 fun δ4 σ4 q4 r4 w4 => ⟨?_, ?_⟩
    · rw [w4]
      exact wipe_idem fun w hw => hw
    · refine ⟨δ4, _, _, r4, s3, q4, fun k S5 H5 q5 e5 s5 => ?_⟩
      cases k with
      | false => exact ⟨S5, e13.trans e5, s5, q5⟩
      | true =>
        rw [if_pos rfl]
        refine ⟨δ4, S5, _, r4.ext e5, s5, q5, fun y' S6 v6 H6 q6 e6 r6 s6 => ?_⟩
        obtain ⟨acc, ea, hl, w6⟩ := q6
        obtain ⟨ws, hw, ra⟩ := s6.lst ea
        refine ⟨ws, hw, by rw [ra.length]; exact hl, _, (e13.trans (e5.trans e6)).trans (Ext.put hw trivial), ?_, w6⟩
        exact s6.put hw trivial ⟨_, upd_same, (ra.snoc r6).ext (Ext.put hw trivial)⟩
theorem de_lc (hc : X.calm = true) (hN : X.N.Nodup) (hi : DI X tg iter wi) (ok : BlkOk X.N X.env.scope scope own)
    (hg : ∀ (s : Shared) (H : Hp) (C : Addr) (cl : List (Str × Addr)) (fp : List Addr), DG (X.blk s H scope (compEnvC scope cl C X.env) fp) tg g) (ht : ∀ (s : Shared) (H : Hp) (C : Addr) (cl : List (Str × Addr)) (fp : List Addr), DTs (X.blk s H scope (compEnvC scope cl C X.env) fp) ifs tt)
    (he : ∀ (s : Shared) (H : Hp) (C : Addr) (cl : List (Str × Addr)) (fp : List Addr), DE (X.blk s H scope (compEnvC scope cl C X.env) fp) elt te) (hp : ∀ i ∈ g.places, i ∈ own.map (·.2) := by decide) (hs : ∀ x, foldedSetIterable iter X.env x = pure x := by intro _; rfl) :
    DE X (.ListComp elt [⟨tg, iter, ifs, 0⟩] scope pos) (tLcD wi g tt te (own.map (·.2))) := PEi (pe_lc (g := realG X.K g) (tt := liftT X.K tt) (te := liftE X.K te) hc hN hi ok hg ht he hs) fun σ H Q h => lc_lift hp h
theorem ds_setLc {i : Nat} {y : Str} {py spos : Pos} (hc : X.calm = true) (hN : X.N.Nodup) (hy : X.N[i]? = some y) (hyl : X.env.scope.names.lookup y = some .local)
    (hsw : swapsWith (.ListComp elt [⟨tg, iter, ifs, 0⟩] scope pos) (some (.Name y py)) spos.line X.env = pure true) (hi : DI X tg iter wi) (ok : BlkOk X.N X.env.scope scope own)
    (hg : ∀ (s : Shared) (H : Hp) (C : Addr) (cl : List (Str × Addr)) (fp : List Addr), DG (X.blk s H scope (compEnvC scope cl C X.env) fp) tg g) (ht : ∀ (s : Shared) (H : Hp) (C : Addr) (cl : List (Str × Addr)) (fp : List Addr), DTs (X.blk s H scope (compEnvC scope cl C X.env) fp) ifs tt)
    (he : ∀ (s : Shared) (H : Hp) (C : Addr) (cl : List (Str × Addr)) (fp : List Addr), DE (X.blk s H scope (compEnvC scope cl C X.env) fp) elt te) (hp : ∀ i ∈ g.places, i ∈ own.map (·.2) := by decide) (hs : ∀ x, foldedSetIterable iter X.env x = pure x := by intro _; rfl) :
    DS X (.Assign [.Name y py] (.ListComp elt [⟨tg, iter, ifs, 0⟩] scope pos) spos) (tAsgD (tLcD wi g tt te (own.map (·.2))) (.one i)) := PSi (ps_setLc (g := realG X.K g) (tt := liftT X.K tt) (te := liftE X.K te) hc hN hy hyl hsw hi ok hg ht he hs) fun E σ H h => by
  obtain ⟨δ, S, G, h1, h2, h3, n, r, b, c⟩ := h
  refine lc_lift (X := X) (Q := fun x H1 => gName i x σ H1 E.nx) hp ⟨δ, S, _, h1, h2, h3, fun d S1 v H1 q e1 r1 s1 => ?_⟩
  exact asg_real (K := X.K) (g := .one i) q r1 (h1.ext e1) s1 fun δ' σ' q' h' => n _ _ _ _ q' e1 h' s1
end
end DL

set_option Elab.async false
set_option maxRecDepth 100000
/-! DLg: how loops and comprehensions are used. -/
namespace DL
open PySem PySem.Spec PyProof.Rows L2

section
variable {J : ItD} {g : GD} {tb : TSD} {G : EndsD} {δ : StD} {S1 : Store}
/-- items that stand while the loop runs -/
theorem forB_seq (ds : List D) (Pv : Nat → StD → Store → Prop) (h0 : Pv 0 δ S1) (hJ : ∀ i δ S, i ≤ ds.length → Pv i δ S → J i S = some ds[i]?)
    (turn : ∀ i d δ S, ds[i]? = some d → Pv i δ S → asg g d δ S fun δ2 S2 => tb { G with nx := Pv (i + 1), ct := Pv (i + 1), bk := G.nx } δ2 S2) (done : ∀ δ S, Pv ds.length δ S → G.nx δ S) : forB J g tb G δ S1 := by
  refine ⟨ds.length, fun i δ S => i ≤ ds.length ∧ Pv i δ S, ⟨Nat.zero_le _, h0⟩, ?_⟩
  rintro i δ S ⟨hi, p⟩
  have ej := hJ i δ S hi p
  by_cases hlt : i < ds.length
  · refine .inr ⟨ds[i], by rw [ej, List.getElem?_eq_getElem hlt], hlt, ?_⟩
    have q := turn i ds[i] δ S (List.getElem?_eq_getElem hlt) p
    have e : (fun i δ S => i ≤ ds.length ∧ Pv i δ S) (i + 1) = Pv (i + 1) := by
      funext δ S
      exact propext ⟨fun h => h.2, fun h => ⟨hlt, h⟩⟩
    rw [e]
    exact q
  · have e : i = ds.length := Nat.le_antisymm hi (Nat.le_of_not_lt hlt)
    subst e
    exact .inl ⟨by rw [ej, List.getElem?_eq_none (Nat.le_refl _)], done δ S p⟩
theorem forB_rng {lo : Int} {n : Nat} (Pv : Nat → StD → Store → Prop) (h0 : Pv 0 δ S1)
    (turn : ∀ i δ S, i < n → Pv i δ S → asg g (.int (lo + (i : Nat))) δ S fun δ2 S2 => tb { G with nx := Pv (i + 1), ct := Pv (i + 1), bk := G.nx } δ2 S2) (done : ∀ δ S, Pv n δ S → G.nx δ S) : forB (rngJ lo n) g tb G δ S1 := by
  refine ⟨n, fun i δ S => i ≤ n ∧ Pv i δ S, ⟨Nat.zero_le _, h0⟩, ?_⟩
  rintro i δ S ⟨hi, p⟩
  by_cases hlt : i < n
  · refine .inr ⟨.int (lo + (i : Nat)), by unfold rngJ; rw [if_pos hlt], hlt, ?_⟩
    have q := turn i δ S hlt p
    have e : (fun i δ S => i ≤ n ∧ Pv i δ S) (i + 1) = Pv (i + 1) := by
      funext δ S
      exact propext ⟨fun h => h.2, fun h => ⟨hlt, h⟩⟩
    rw [e]
    exact q
  · have e : i = n := Nat.le_antisymm hi (Nat.le_of_not_lt hlt)
    subst e
    exact .inl ⟨by unfold rngJ; rw [if_neg (Nat.lt_irrefl _)], done δ S p⟩
end
section
variable {J : ItD} {g : GD} {tt : TTD} {te : TED} {vs : List Nat} {δ : StD} {Q : KD} {p : Addr} {S1 : Store}
/-- each item gives none or one, and nothing else is changed -/
theorem lcB_pure (ds : List D) (f : D → List D) (hJ : ∀ i acc, J i (put S1 p (.lst acc)) = some ds[i]?) (hz : ds.length ≤ sizeLine) (h1 : ∀ d ∈ ds, (f d).length ≤ 1)
    (turn : ∀ d acc, d ∈ ds → acc.length < sizeLine → asg g d (wipeD δ vs) (put S1 p (.lst acc)) fun δ2 S2 => tt δ2 S2 fun b S3 =>
      if b = true then te δ2 S3 fun y S4 => ∃ acc', S4 p = some (.lst acc') ∧ acc'.length < sizeLine ∧ put S4 p (.lst (acc' ++ [y])) = put S1 p (.lst (acc ++ f d)) else S3 = put S1 p (.lst (acc ++ f d)))
    (done : Q (.ref p) (put S1 p (.lst (ds.flatMap f)))) : lcB J g tt te vs δ Q p S1 := by
  have hl : ∀ es : List D, (∀ d ∈ es, (f d).length ≤ 1) → (es.flatMap f).length ≤ es.length := by
    intro es
    induction es with
    | nil => intro _; exact Nat.le_refl _
    | cons e es ih =>
      intro h
      rw [List.flatMap_cons, List.length_append, List.length_cons]
      have a := h e List.mem_cons_self
      have b := ih fun d hd => h d (List.mem_cons_of_mem _ hd)
      omega
  refine ⟨ds.length, fun i S => i ≤ ds.length ∧ S = put S1 p (.lst ((ds.take i).flatMap f)), ⟨Nat.zero_le _, rfl⟩, ?_⟩
  rintro i S ⟨hi, rfl⟩
  have ej := hJ i ((ds.take i).flatMap f)
  by_cases hlt : i < ds.length
  · refine .inr ⟨ds[i], by rw [ej, List.getElem?_eq_getElem hlt], hlt, ?_⟩
    have l1 := hl (ds.take i) fun d hd => h1 d (List.mem_of_mem_take hd)
    rw [List.length_take] at l1
    have q := turn ds[i] ((ds.take i).flatMap f) (List.getElem_mem hlt) (by omega)
    have e : (ds.take (i + 1)).flatMap f = (ds.take i).flatMap f ++ f ds[i] := by
      rw [← List.take_append_getElem hlt, List.flatMap_append, List.flatMap_cons, List.flatMap_nil, List.append_nil]
    have e2 : ∀ S, (i + 1 ≤ ds.length ∧ S = put S1 p (.lst ((ds.take (i + 1)).flatMap f))) = (S = put S1 p (.lst ((ds.take i).flatMap f ++ f ds[i]))) := fun S => by
      rw [e]
      exact propext ⟨fun h => h.2, fun h => ⟨hlt, h⟩⟩
    simp only [e2]
    exact q
  · have e : i = ds.length := Nat.le_antisymm hi (Nat.le_of_not_lt hlt)
    subst e
    refine .inl ⟨by rw [ej, List.getElem?_eq_none (Nat.le_refl _)], ?_⟩
    rw [List.take_length]
    exact done
/-- an item that gives one, the store as it was -/
theorem lc_one {acc l : List D} {y : D} (hl : acc.length < sizeLine) (e : l = [y]) : ∃ acc', put S1 p (.lst acc) p = some (.lst acc') ∧ acc'.length < sizeLine ∧ put (put S1 p (.lst acc)) p (.lst (acc' ++ [y])) = put S1 p (.lst (acc ++ l)) :=
  ⟨acc, put_same, hl, by rw [put_put, e]⟩
theorem lc_none {acc l : List D} (e : l = []) : put S1 p (.lst acc) = put S1 p (.lst (acc ++ l)) := by rw [e, List.append_nil]
end
theorem drop1 {Q : KD} {d : D} {S S' : Store} (h : Sub S S') (q : Q d S) : ∃ S'', Sub S'' S' ∧ Q d S'' := ⟨S, h, q⟩
end DL

set_option Elab.async false
set_option maxRecDepth 100000
/-! DLh: readings, step by step: rows for simp. -/
namespace DL
open PySem PySem.Spec PyProof.Rows L2

theorem sq {t u : TSD} {G : EndsD} {δ : StD} {S : Store} (h : t { G with nx := u G } δ S) : tSeqD t u G δ S := h
section
variable {i j : Int} {a b : Addr} {x y z : Str} {d e f g h : D} {ds es : List D} {S : Store} {Q : KD} {kvs : List (Key × D)} {k : Key} {c v : Bool}
theorem rAdd_ii : oAdd (.int i) (.int j) S Q = Q (.int (i + j)) S := rfl
theorem rAdd_ss : oAdd (.str x) (.str y) S Q = (x.length + y.length ≤ sizeLine ∧ Q (.str (x ++ y)) S) := rfl
theorem rAdd_tt : oAdd (.tup ds) (.tup es) S Q = (ds.length + es.length ≤ sizeLine ∧ Q (.tup (ds ++ es)) S) := rfl
theorem rAdd_rr : oAdd (.ref a) (.ref b) S Q = ∃ xs ys, S a = some (.lst xs) ∧ S b = some (.lst ys) ∧ xs.length + ys.length ≤ sizeLine ∧ ∀ p, S p = none → Q (.ref p) (put S p (.lst (xs ++ ys))) := rfl
theorem rII {C : Int → Int → Prop} {q : Int → Int → D} : oII C q (.int i) (.int j) S Q = (C i j ∧ Q (q i j) S) := rfl
theorem rSub_ii : oSub (.int i) (.int j) S Q = Q (.int (i - j)) S := by
  show (True ∧ _) = _
  rw [true_and]
theorem rMod_ii : oMod (.int i) (.int j) S Q = (0 < j ∧ Q (.int (i % j)) S) := rfl
theorem rDiv_ii : oDiv (.int i) (.int j) S Q = ((0 < j ∧ j < 1073741824) ∧ Q (.int (i / j)) S) := rfl
theorem rPow_ii : oPow (.int i) (.int j) S Q = (CPow i j ∧ Q (.int (i ^ j.toNat)) S) := rfl
theorem rMul_ii : oMul (.int i) (.int j) S Q = (((-(2 ^ 64) < i ∧ i < 2 ^ 64) ∨ (-(2 ^ 64) < j ∧ j < 2 ^ 64)) ∧ Q (.int (i * j)) S) := rfl
theorem rMul_ri : oMul (.ref a) (.int i) S Q = ∃ xs, S a = some (.lst xs) ∧ -(2 ^ 63) ≤ i ∧ i < 2 ^ 63 ∧ xs.length * i.toNat ≤ sizeLine ∧ ∀ p, S p = none → Q (.ref p) (put S p (.lst (List.replicate i.toNat xs).flatten)) := rfl
theorem rLt_ii : oLt (.int i) (.int j) S Q = Q (.bl (decide (i < j))) S := rfl
theorem rLt_ss : oLt (.str x) (.str y) S Q = Q (.bl (decide (x.cps.toList < y.cps.toList))) S := rfl
theorem rLe_ii : oLe (.int i) (.int j) S Q = Q (.bl (decide (i ≤ j))) S := rfl
theorem rGt_ii : oGt (.int i) (.int j) S Q = Q (.bl (decide (j < i))) S := rfl
theorem rGe_ii : oGe (.int i) (.int j) S Q = Q (.bl (decide (j ≤ i))) S := rfl
theorem rEq_ii : oEq (.int i) (.int j) S Q = Q (.bl (decide (i = j))) S := rfl
theorem rEq_ss : oEq (.str x) (.str y) S Q = Q (.bl (decide (x = y))) S := rfl
theorem rEq_bb : oEq (.bl c) (.bl v) S Q = Q (.bl (decide (c = v))) S := rfl
theorem rNe_ii : oNe (.int i) (.int j) S Q = Q (.bl (!decide (i = j))) S := rfl
theorem rNe_ss : oNe (.str x) (.str y) S Q = Q (.bl (!decide (x = y))) S := rfl
theorem rNe_bb : oNe (.bl c) (.bl v) S Q = Q (.bl (!decide (c = v))) S := rfl
theorem rEq_rr : oEq (.ref a) (.ref b) S Q = eqAny id (.ref a) (.ref b) S Q := rfl
theorem rNe_rr : oNe (.ref a) (.ref b) S Q = eqAny not (.ref a) (.ref b) S Q := rfl
theorem rEq_tt : oEq (.tup ds) (.tup es) S Q = eqAny id (.tup ds) (.tup es) S Q := rfl
theorem rNe_tt : oNe (.tup ds) (.tup es) S Q = eqAny not (.tup ds) (.tup es) S Q := rfl
theorem rIn_st : oIn (.str x) (.tup ds) S Q = ∃ xs, strsOf ds = some xs ∧ Q (.bl (decide (x ∈ xs))) S := rfl
theorem rNotIn_st : oNotIn (.str x) (.tup ds) S Q = ∃ xs, strsOf ds = some xs ∧ Q (.bl (!decide (x ∈ xs))) S := rfl
theorem rIn_r : oIn d (.ref a) S Q = inDO id d (S a) S Q := rfl
theorem rNotIn_r : oNotIn d (.ref a) S Q = inDO not d (S a) S Q := rfl
theorem rIn_ss : oIn (.str x) (.str y) S Q = Q (.bl (!(Builtin.Str.occurrences y x 0 y.length 1).isEmpty)) S := rfl
variable {F : Bool → Bool}
theorem rInDO_sl : inDO F (.str x) (some (.lst ds)) S Q = ∃ xs, strsOf ds = some xs ∧ Q (.bl (F (decide (x ∈ xs)))) S := rfl
theorem rInDO_il : inDO F (.int i) (some (.lst ds)) S Q = ∃ xs, intsOf ds = some xs ∧ Q (.bl (F (decide (i ∈ xs)))) S := rfl
theorem rInDO_sd : inDO F (.str x) (some (.dk kvs)) S Q = Q (.bl (F (dval kvs (.inr x)).isSome)) S := by
  show (∃ k, keyOf (.str x) = some k ∧ _) = _
  exact propext ⟨fun ⟨k, e, q⟩ => by cases e; exact q, fun q => ⟨_, rfl, q⟩⟩
theorem rInDO_id : inDO F (.int i) (some (.dk kvs)) S Q = Q (.bl (F (dval kvs (.inl i)).isSome)) S := by
  show (∃ k, keyOf (.int i) = some k ∧ _) = _
  exact propext ⟨fun ⟨k, e, q⟩ => by cases e; exact q, fun q => ⟨_, rfl, q⟩⟩
theorem rIsN_n : oIsN .non .non S Q = Q (.bl true) S := rfl
theorem rIsN_t : oIsN (.tup ds) .non S Q = Q (.bl false) S := rfl
theorem rIsN_i : oIsN (.int i) .non S Q = Q (.bl false) S := rfl
theorem rIsN_s : oIsN (.str x) .non S Q = Q (.bl false) S := rfl
theorem rIsN_r : oIsN (.ref a) .non S Q = Q (.bl false) S := rfl
theorem rNotN_n : oNotN .non .non S Q = Q (.bl false) S := rfl
theorem rNotN_t : oNotN (.tup ds) .non S Q = Q (.bl true) S := rfl
theorem rNotN_i : oNotN (.int i) .non S Q = Q (.bl true) S := rfl
theorem rNotN_s : oNotN (.str x) .non S Q = Q (.bl true) S := rfl
theorem rNotN_r : oNotN (.ref a) .non S Q = Q (.bl true) S := rfl
theorem ixSeq_at {i : Int} (h : atI ds i = some d) : ixSeq ds (.int i) S Q = Q d S := propext ⟨fun ⟨e, h2, q⟩ => by rw [h] at h2; cases h2; exact q, fun q => ⟨d, h, q⟩⟩
theorem at0 {r : List D} : atI (d :: r) 0 = some d := atI_nat (j := 0) rfl
theorem at1 {r : List D} : atI (d :: e :: r) 1 = some e := atI_nat (j := 1) rfl
theorem at2 {r : List D} : atI (d :: e :: f :: r) 2 = some f := atI_nat (j := 2) rfl
theorem at3 {r : List D} : atI (d :: e :: f :: g :: r) 3 = some g := atI_nat (j := 3) rfl
variable {r : List D}
theorem rIx_t : oIx (.tup ds) (.int i) S Q = ixSeq ds (.int i) S Q := rfl
theorem rIx_r : oIx (.ref a) d S Q = ixDO (S a) d S Q := rfl
theorem rIx_s : oIx (.str x) (.int i) S Q = ∃ c, x.length ≤ sizeLine ∧ atI x.cps.toList i = some c ∧ Q (.str ⟨#[c]⟩) S := rfl
theorem rIxDO_l : ixDO (some (.lst ds)) (.int i) S Q = ixSeq ds (.int i) S Q := rfl
theorem rIxDO_ds : ixDO (some (.dk kvs)) (.str x) S Q = ∃ d, dval kvs (.inr x) = some d ∧ Q d S := propext ⟨fun ⟨k, d, e, h, q⟩ => by cases e; exact ⟨d, h, q⟩, fun ⟨d, h, q⟩ => ⟨_, d, rfl, h, q⟩⟩
theorem rIx0 : ixSeq (d :: r) (.int 0) S Q = Q d S := ixSeq_at at0
theorem rIx1 : ixSeq (d :: e :: r) (.int 1) S Q = Q e S := ixSeq_at at1
theorem rIx2 : ixSeq (d :: e :: f :: r) (.int 2) S Q = Q f S := ixSeq_at at2
theorem rIx3 : ixSeq (d :: e :: f :: g :: r) (.int 3) S Q = Q g S := ixSeq_at at3
variable {lo hi : Option Int} {S1 : Store} {Q1 : Store → Prop}
theorem rSl_t : oSl (.tup ds) lo hi S Q = Q (.tup (cutL ds lo hi)) S := rfl
theorem rSl_s : oSl (.str x) lo hi S Q = (x.length ≤ sizeLine ∧ Q (.str (cutS x lo hi)) S) := rfl
theorem rSl_o : oSl (.rol ds) lo hi S Q = ∀ p, S p = none → Q (.ref p) (put S p (.lst (cutL ds lo hi))) := rfl
theorem rSl_r : oSl (.ref a) lo hi S Q = slDO (S a) lo hi S Q := rfl
theorem rSlDO : slDO (some (.lst ds)) lo hi S Q = ∀ p, S p = none → Q (.ref p) (put S p (.lst (cutL ds lo hi))) := rfl
theorem rSet_r : oSet (.ref a) d e S Q1 = setDO (S a) a d e S Q1 := rfl
theorem rSetDO_l : setDO (some (.lst ds)) a (.int i) d S Q1 = ∃ j, ixN ds.length i = some j ∧ Q1 (put S a (.lst (ds.set j d))) := rfl
theorem rSetDO_s : setDO (some (.dk kvs)) a (.str x) d S Q1 = (kvs.length < sizeLine ∧ Q1 (put S a (.dk (dput kvs (.inr x) d)))) := propext ⟨fun ⟨k, e, h, q⟩ => by cases e; exact ⟨h, q⟩, fun ⟨h, q⟩ => ⟨_, rfl, h, q⟩⟩
theorem rSetDO_0 {r : List D} : setDO (some (.lst (e :: r))) a (.int 0) d S Q1 = Q1 (put S a (.lst (d :: r))) := propext ⟨fun ⟨j, h, q⟩ => by
    have h' : some (0 : Int).toNat = some j := by
      have z : ixN (e :: r).length 0 = some (0 : Int).toNat := by
        unfold ixN
        rw [if_pos (by decide), if_pos (by rw [List.length_cons]; omega)]
      rw [← z]
      exact h
    cases h'
    exact q, fun q => ⟨0, by unfold ixN; rw [if_pos (by decide), if_pos (by rw [List.length_cons]; omega)]; rfl, q⟩⟩
theorem rLen_t : oLen [.tup ds] S Q = Q (.int (ds.length : Nat)) S := rfl
theorem rLen_o : oLen [.rol ds] S Q = Q (.int (ds.length : Nat)) S := rfl
theorem rLen_s : oLen [.str x] S Q = (x.length ≤ sizeLine ∧ Q (.int (x.length : Nat)) S) := rfl
theorem rLen_r : oLen [.ref a] S Q = oLenDO (S a) S Q := rfl
theorem rLenDO : oLenDO (some (.lst ds)) S Q = Q (.int (ds.length : Nat)) S := rfl
theorem rLenDO_d : oLenDO (some (.dk kvs)) S Q = Q (.int (kvs.length : Nat)) S := rfl
theorem rList_t : oList [.tup ds] S Q = ∀ p, S p = none → Q (.ref p) (put S p (.lst ds)) := rfl
theorem rList_o : oList [.rol ds] S Q = ∀ p, S p = none → Q (.ref p) (put S p (.lst ds)) := rfl
theorem rList_r : oList [.ref a] S Q = oListDO (S a) S Q := rfl
theorem rListDO : oListDO (some (.lst ds)) S Q = ∀ p, S p = none → Q (.ref p) (put S p (.lst ds)) := rfl
theorem rTuple_t : oTuple [.tup ds] S Q = Q (.tup ds) S := rfl
theorem rTuple_r : oTuple [.ref a] S Q = ∃ ds, S a = some (.lst ds) ∧ Q (.tup ds) S := rfl
theorem rInt_i : oInt [.int i] S Q = Q (.int i) S := rfl
theorem rInt_b : oInt [.bl c] S Q = Q (.int (if c = true then 1 else 0)) S := rfl
theorem rMax : oMax2 [.int i, .int j] S Q = Q (.int (if j > i then j else i)) S := rfl
theorem rMin : oMin2 [.int i, .int j] S Q = Q (.int (if j < i then j else i)) S := rfl
theorem rAppend : mAppend (.ref a) [d] S Q = ∃ ds, S a = some (.lst ds) ∧ ds.length < sizeLine ∧ Q .non (put S a (.lst (ds ++ [d]))) := rfl
theorem rPop : mPop (.ref a) [] S Q = ∃ ds y, S a = some (.lst ds) ∧ ds[ds.length - 1]? = some y ∧ Q y (put S a (.lst ds.dropLast)) := rfl
theorem rTy_r {T : String} : tyD T (.ref a) S = ((T = "list" ∧ ∃ ds, S a = some (.lst ds)) ∨ (T = "dict" ∧ ∃ kvs, S a = some (.dk kvs))) := rfl
theorem ty_list (h : S a = some (.lst ds)) : tyD "list" (.ref a) S := .inl ⟨rfl, ds, h⟩
theorem ty_dict (h : S a = some (.dk kvs)) : tyD "dict" (.ref a) S := .inr ⟨rfl, kvs, h⟩
theorem pop_of {xs : List D} (h : S a = some (.lst (xs ++ [d]))) (q : Q d (put S a (.lst xs))) : mPop (.ref a) [] S Q :=
  ⟨xs ++ [d], d, h, by simp, by rw [List.dropLast_concat]; exact q⟩
theorem append_of {xs : List D} (h : S a = some (.lst xs)) (l : xs.length < sizeLine) (q : Q .non (put S a (.lst (xs ++ [d])))) : mAppend (.ref a) [d] S Q := ⟨xs, h, l, q⟩
theorem ty_str : tyD "str" (.str x) S := rfl
end
end DL

set_option Elab.async false
set_option maxRecDepth 100000
/-! DLi: {k: v}; == and != against the empty list; repr where no guard stands. -/
namespace DL
open PySem PySem.Spec PyProof.Rows L2

section
variable {X : Cx} {pos : Pos} {e f : Expr} {tk tv : TED}
def tDictOne (tk tv : TED) : TED := fun δ S Q => ∀ p, S p = none → tk δ (put S p (.dk [])) fun x S1 => tv δ S1 fun y S2 => S2 p = some (.dk []) ∧ ∃ k, keyOf x = some k ∧ Q (.ref p) (put S2 p (.dk [(k, y)]))
theorem de_dict1 (hk : DE X e tk) (hv : DE X f tv) : DE X (.Dict [some e] [f] pos) (tDictOne tk tv) := PEi (pe_disp (pps_cons hk hv pps_nil) rfl rfl (by simp) (by simp)) fun σ H Q h => by
  obtain ⟨δ, S, Q0, h1, h2, h3, h4⟩ := h
  intro p np
  have ex : Ext X.K H (upd H p (.dK [])) := Ext.new np
  have s0 : RS X.K (upd H p (.dK [])) (put S p (.dk [])) := h2.new np ⟨[], upd_same, rfl⟩
  refine ⟨δ, _, _, h1.ext ex, s0, h3 p (h2.free np), fun x S1 v H1 q e1 r1 s1 => ?_⟩
  refine ⟨δ, S1, _, h1.ext (ex.trans e1), s1, q, fun y S2 w H2 q2 e2 r2 s2 => ?_⟩
  obtain ⟨eS, k, ek, q2⟩ := q2
  obtain ⟨ws, hw, rw'⟩ := s2 p _ eS
  cases (show ws = [] from rw')
  refine ⟨hw, [(k, w)], ?_, by simp, ?_⟩
  · have := keyOf_kD ek
    subst this
    rw [kD_kV r1]
    rfl
  · have ex2 : Ext X.K H2 (upd H2 p (.dK [(k, w)])) := Ext.put hw trivial
    refine h4 _ _ _ _ q2 (ex.trans (e1.trans (e2.trans ex2))) rfl (s2.put hw trivial ⟨_, upd_same, w, [], rfl, r2.ext ex2, rfl⟩)
/-- xs == [] : nothing but the length is looked at -/
def emE (f : Bool → Bool) : R2D := fun x y S Q => match x, y with
  | .ref a, .ref b => ∃ xs, S a = some (.lst xs) ∧ S b = some (.lst []) ∧ Q (.bl (f xs.isEmpty)) S
  | _, _ => False
theorem emE_cases {f : Bool → Bool} {x y : D} {S : Store} {Q : KD} (h : emE f x y S Q) : ∃ a b xs, x = .ref a ∧ y = .ref b ∧ S a = some (.lst xs) ∧ S b = some (.lst []) ∧ Q (.bl (f xs.isEmpty)) S := by
  unfold emE at h
  split at h
  · obtain ⟨xs, h1, h2, h3⟩ := h
    exact ⟨_, _, xs, rfl, rfl, h1, h2, h3⟩
  · cases h
theorem emE_rr {f : Bool → Bool} {a b : Addr} {S : Store} {Q : KD} : emE f (.ref a) (.ref b) S Q = ∃ xs, S a = some (.lst xs) ∧ S b = some (.lst []) ∧ Q (.bl (f xs.isEmpty)) S := rfl
theorem list_at {pins : List (Addr × Obj)} {s : Shared} {σ : L2.St} {H : Hp} {S : Store} {a : Addr} {xs : List D} (I : Inv X pins σ H s) (hs : RS X.K H S) (e : S a = some (.lst xs)) : ∃ its : List Value, s.heap.IsList a its.toArray ∧ its.length = xs.length := by
  obtain ⟨vs, hv, rv⟩ := hs.lst e
  obtain ⟨us, ru, ⟨o, n, ho, hc, _, hd⟩, _⟩ := I.list (SqL.of hv)
  exact ⟨us, ⟨o, ho, hc, n, hd⟩, by rw [← ru.length, rv.length]⟩
theorem od_eqE (hu : X.A.units + 64 < cLine) : OpD X (compareOp .Eq) (emE id) := by
  intro pins s σ H x y v u Q I rx ry h
  obtain ⟨dx, dy, S, Q0, hx, hy, hs, h, q⟩ := h
  obtain ⟨a, b, xs, rfl, rfl, ea, eb, h⟩ := emE_cases h
  cases xs with
  | nil => exact op_eqD hu pins s σ H _ _ v u Q I rx ry ⟨.list [], .list [], PD.dp hs _ _ _ (.lst ea .nil) hx, PD.dp hs _ _ _ (.lst eb .nil) hy, by decide, by decide, q _ _ _ _ h .refl rfl hs⟩
  | cons z zs =>
    cases (show x = .ref a from hx)
    cases (show y = .ref b from hy)
    obtain ⟨us, hl, el⟩ := list_at I hs ea
    obtain ⟨ws, hl2, el2⟩ := list_at I hs eb
    cases rx
    cases ry
    refine SeqAt.eq_list_lengthsAt hl hl2 ?_ (by omega) ⟨.bl false, H, I, rfl, q _ _ _ _ h .refl rfl hs⟩
    simp [el, el2]
theorem od_neE (hu : X.A.units + 64 < cLine) : OpD X (compareOp .NotEq) (emE not) := by
  intro pins s σ H x y v u Q I rx ry h
  obtain ⟨dx, dy, S, Q0, hx, hy, hs, h, q⟩ := h
  obtain ⟨a, b, xs, rfl, rfl, ea, eb, h⟩ := emE_cases h
  cases xs with
  | nil => exact op_neD hu pins s σ H _ _ v u Q I rx ry ⟨.list [], .list [], PD.dp hs _ _ _ (.lst ea .nil) hx, PD.dp hs _ _ _ (.lst eb .nil) hy, by decide, by decide, q _ _ _ _ h .refl rfl hs⟩
  | cons z zs =>
    cases (show x = .ref a from hx)
    cases (show y = .ref b from hy)
    obtain ⟨us, hl, el⟩ := list_at I hs ea
    obtain ⟨ws, hl2, el2⟩ := list_at I hs eb
    cases rx
    cases ry
    refine SeqAt.RcNeAt.lists_lengths hl hl2 ?_ (by omega) _ _ _ _ ⟨.bl true, H, I, rfl, q _ _ _ _ h .refl rfl hs⟩
    simp [el, el2]
/-- repr of data, where no guard stands -/
def oRepr : RAD := fun xs S Q => match xs with
  | [x] => ∃ p, PD S x p ∧ (∃ ps, p = .tuple ps) ∧ p.showable = true ∧ p.hasDict = false ∧ p.depth ≤ 64 ∧ p.shown.length ≤ sizeLine ∧ Q (.str p.shown) S
  | _ => False
theorem cd_repr (hg : X.A.guards = some []) (hu : X.A.units + 100 < cLine) : CallD X (.builtin "repr") oRepr := by
  intro pins s σ H xs us Q I rs h
  obtain ⟨ds, S, Q0, hx, hs, h, q⟩ := h
  unfold oRepr at h
  split at h
  · obtain ⟨v, rfl, e⟩ := hx.one
    obtain ⟨p, hp, ⟨ps, rfl⟩, h1, h2, h3, h4, h⟩ := h
    have dp := PD.dp hs _ _ _ hp e
    cases rs with
    | cons r1 r2 =>
      cases r2
      obtain ⟨as, rd⟩ := Dp.reads I _ _ _ dp r1
      cases rd with
      | tuple a1 a2 a3 a4 =>
        refine PySem.repr_of_reads' (.tuple a1 a2 a3 a4) h1 (fun z => by rw [h2] at z; cases z) hg (by omega) (fun _ _ e => e) (fun h' u tk hk => ?_) h4
        exact ⟨.str _, H, I.kept hk, ⟨_, rfl⟩, q _ _ _ _ h .refl rfl hs⟩
  · cases h
end
end DL

set_option Elab.async false
set_option maxRecDepth 100000
set_option linter.unusedVariables false
/-! DLj: small steps of a reading: tests that are known, sizes, comprehensions item by item. -/
namespace DL
open PySem PySem.Spec PyProof.Rows L2
section
variable {A B C : Prop} {ds : List D} {xs : List Str} {x : Str}
theorem inY (e : strsOf ds = some xs) (m : x ∈ xs) (h : A) : ∃ xs, strsOf ds = some xs ∧ if x ∈ xs then A else B := ⟨xs, e, by rw [if_pos m]; exact h⟩
theorem inN (e : strsOf ds = some xs) (m : x ∉ xs) (h : B) : ∃ xs, strsOf ds = some xs ∧ if x ∈ xs then A else B := ⟨xs, e, by rw [if_neg m]; exact h⟩
theorem ifY {_ : Decidable C} (c : C) (h : A) : if C then A else B := by rw [if_pos c]; exact h
theorem ifN {_ : Decidable C} (c : ¬ C) (h : B) : if C then A else B := by rw [if_neg c]; exact h
theorem szOk {n : Nat} (h : n ≤ 100000) : n ≤ sizeLine := Nat.le_trans h (by decide)
theorem szLt {n : Nat} (h : n ≤ 100000) : n < sizeLine := Nat.lt_of_le_of_lt h (by decide)
theorem rSz0 : (0 ≤ sizeLine) = True := eq_true (by decide)
theorem rSz1 : (1 ≤ sizeLine) = True := eq_true (by decide)
theorem rSz2 : (2 ≤ sizeLine) = True := eq_true (by decide)
theorem rSz3 : (3 ≤ sizeLine) = True := eq_true (by decide)
theorem rSz4 : (4 ≤ sizeLine) = True := eq_true (by decide)
theorem rSz5 : (5 ≤ sizeLine) = True := eq_true (by decide)
theorem rSz6 : (6 ≤ sizeLine) = True := eq_true (by decide)
theorem rSz7 : (7 ≤ sizeLine) = True := eq_true (by decide)
theorem rSz8 : (8 ≤ sizeLine) = True := eq_true (by decide)
end
section
variable {J : ItD} {g : GD} {tt : TTD} {te : TED} {vs : List Nat} {δ : StD} {Q : KD} {p : Addr} {S1 : Store}
/-- each item gives its own one, and nothing else is changed -/
theorem lcB_zip (ds rs : List D) (hl : ds.length = rs.length) (hJ : ∀ i acc, J i (put S1 p (.lst acc)) = some ds[i]?) (hz : ds.length ≤ sizeLine)
    (turn : ∀ (i : Nat) (d r : D) (acc : List D) (Y : KD) (N : Store → Prop), ds[i]? = some d → rs[i]? = some r → Y r (put S1 p (.lst acc)) → asg g d (wipeD δ vs) (put S1 p (.lst acc)) fun δ2 S2 => tt δ2 S2 fun b S3 =>
      if b = true then te δ2 S3 Y else N S3)
    (done : Q (.ref p) (put S1 p (.lst rs))) : lcB J g tt te vs δ Q p S1 := by
  refine ⟨ds.length, fun i S => i ≤ ds.length ∧ S = put S1 p (.lst (rs.take i)), ⟨Nat.zero_le _, rfl⟩, ?_⟩
  rintro i S ⟨hi, rfl⟩
  have ej := hJ i (rs.take i)
  by_cases hlt : i < ds.length
  · have hlt2 : i < rs.length := hl ▸ hlt
    refine .inr ⟨ds[i], by rw [ej, List.getElem?_eq_getElem hlt], hlt, ?_⟩
    exact turn i ds[i] rs[i] (rs.take i) _ _ (List.getElem?_eq_getElem hlt) (List.getElem?_eq_getElem hlt2) ⟨_, put_same, by rw [List.length_take]; omega, hlt, by rw [put_put, List.take_append_getElem hlt2]⟩
  · have e : i = ds.length := Nat.le_antisymm hi (Nat.le_of_not_lt hlt)
    subst e
    refine .inl ⟨by rw [ej, List.getElem?_eq_none (Nat.le_refl _)], ?_⟩
    rw [hl, List.take_length]
    exact done
end
end DL

set_option Elab.async false
set_option maxRecDepth 100000
set_option linter.unusedVariables false
/-! DLk: defs that are promised only where no guard stands (for what comes to repr). -/
namespace DL
open PySem PySem.Spec PyProof.Rows L2
/-- a promise kept where no guard stands -/
structure FnG (P : Program) (w : World) (K : PySem.W.Frag) (mg : Str → Option Value) (base : Heap) (k : Nat) (f : Addr) (fd : FuncData) (ps : List Str) (sp : Sp) : Prop where
  len : ∀ vs H Q E, sp vs H Q E → vs.length = ps.length
  run : ∀ (A : Around) (outer : List Env) (s : Shared) (H : Hp) (args : Args) (us : List Value) (vs : List V) (Q : VK) (E : XK), A.guards = some [] → Room k A → Env0 P w K mg base A outer s H → BindsTo s fd args (ps.zip us) → Vals vs us → sp vs H Q E →
    codeAny (model P w) A (.call (.ref f) args) (CR CX0 outer P w H s Q E) s
section
variable {P : Program} {w : World} {K : PySem.W.Frag} {mg : Str → Option Value} {base : Heap}
theorem fnG_mk {k : Nat} {f : Addr} {fd : FuncData} {x qual : Str} {st : Stmt} {N ps : List Str} {sp : Sp} (F : Fun K x qual st f fd) (S : FnScope N ps (defScope st)) (len : ∀ vs H Q E, sp vs H Q E → vs.length = ps.length)
    (body : ∀ (cdv : Value) (A : Around) (outer : List Env) (s : Shared) (H : Hp) (vs : List V) (Q : VK) (E : XK), A.guards = some [] → Room k (A.deeper (envOfC qual (defScope st) s.heap.objs.size f cdv)) → sp vs H Q E →
      ∃ t, PSs (cxOf CX0 P w K mg base N qual (defScope st) f cdv A outer s H E).nox (defBody st) t ∧ t { nx := fun _ H' => Q .non H', rt := Q } (start N vs) H) : FnG P w K mg base (k + 1) f fd ps sp := by
  obtain ⟨oc, od, kV, doc, pm, an, cdv, ct, osl, rfl, lk, code⟩ := F.ex
  constructor
  · exact len
  intro A outer s H args us vs Q E guards room at0 binds rel wish
  have there := at0.mod.kin.keeps fun b o e => (at0.bs b o e).1
  have free := at0.mod.nolimit.keeps fun b o e => (at0.bs b o e).1
  obtain ⟨t, walk, q⟩ := body cdv A outer s H vs Q E guards (room.deeper _) wish
  have places : ∀ y ∈ ps.zip us, (defScope st).names.lookup y.1 = some .local ∨ ((defScope st).names.lookup y.1 = some .cell ∧ ((cellsFrom (s.heap.objs.size + 1) (defScope st).names []).lookup y.1).isSome = true) := by
    rintro ⟨n, v⟩ hy
    exact (S.par n (List.of_mem_zip hy).1).imp id fun c => ⟨c, PySem.W.cellsFrom_some _ _ _ (.inl c)⟩
  apply codeAny_call_function room.depth (there _ _ lk) rfl S.co S.gen rfl (PySem.W.codeRec_of there code)
  apply binds
  apply wpAny_newFunctionEnv_cells S.kind places
  rintro env rfl s1 made
  have I := inv_start (CX := CX0) (P := P) (w := w) (E := E) S room.hd at0 (len _ _ _ _ wish) rel made
  refine ⟨free.keeps made.toInCall.keep, codeAny_func (wpAny_mono (walk.nox.run [] s1 _ H _ I q) ?_ fun _ _ z => z)⟩
  intro fl s' z
  cases fl with
  | ret u => obtain ⟨v, _, H', J, rv, g⟩ := z; exact ⟨v, H', J.os, J.bare, J.base, J.hok, rv, g⟩
  | next => obtain ⟨_, H', J, g⟩ := z; exact ⟨.non, H', J.os, J.bare, J.base, J.hok, rfl, g⟩
  | brk => obtain ⟨_, _, _, z⟩ := z; exact z.elim
  | cont => obtain ⟨_, _, _, z⟩ := z; exact z.elim
/-- the def of that name keeps its promise where no guard stands -/
def DfG (P : Program) (w : World) (K : PySem.W.Frag) (mg : Str → Option Value) (base : Heap) (x : Str) (k : Nat) (sp : SpD) : Prop :=
  ∃ f fd ps, FnG P w K mg base k f fd ps (liftSp K sp) ∧ mg x = some (.ref f) ∧ PySem.W.keepIn K (.ref f) = true ∧ Binds K fd ps []
theorem fnG_body {f : Addr} {fd : FuncData} {x : Str} {st : Stmt} {N ps : List Str} {k : Nat} {sp : SpD} {sc : Scope} (F : Fun K x x st f fd) (hsc : defScope st = sc) (SC : FnScope N ps sc)
    (len : ∀ ds S Q, sp ds S Q → ds.length = ps.length)
    (hbody : ∀ (cdv : Value) (A : Around) (outer : List Env) (s : Shared) (H : Hp) (E : XK), A.guards = some [] → Room k (A.deeper (envOfC x sc s.heap.objs.size f cdv)) → ∀ ds S Q, sp ds S Q →
      ∃ t, DSs (cxOf CX0 P w K mg base N x sc f cdv A outer s H E).nox (defBody st) t ∧ t (endsD Q) (startD N ds) S) : FnG P w K mg base (k + 1) f fd ps (liftSp K sp) := by
  subst hsc
  refine fnG_mk F SC (fun vs H Q E h => ?_) (fun cdv A outer s H vs Q E hg hr h => ?_)
  · obtain ⟨ds, S, Q0, h1, h2, h3, h4⟩ := h
    rw [h1.length, len _ _ _ h3]
  · obtain ⟨ds, S, Q0, h1, h2, h3, h4⟩ := h
    obtain ⟨t, ht, q⟩ := hbody cdv A outer s H E hg hr ds S Q0 h3
    refine ⟨_, ht, startD N ds, S, _, ?_, h2, q, fun δ' S' σ' H' n e r' s' => ?_, fun d S' v H' n e r' s' => ?_, fun _ _ _ _ n => n.elim, fun _ _ _ _ n => n.elim⟩
    · unfold startD L2.start
      rw [← h1.length]
      exact RSt.args h1
    · obtain ⟨S'', hs, q⟩ := n
      exact h4 _ _ _ _ q e rfl (s'.sub hs)
    · obtain ⟨S'', hs, q⟩ := n
      exact h4 _ _ _ _ q e r' (s'.sub hs)
theorem dfG_mk {g x : Str} {st : Stmt} {N ps : List Str} {k : Nat} {sp : SpD} {sc : Scope} (A : At K mg g x st) (hsc : defScope st = sc) (SC : FnScope N ps sc)
    (hbi : ∀ (kV doc pm : Value) (an : Option Addr) (cdv ct : Value) (us : List Value), us.length = ps.length → bindArgs (PySem.W.fnOf x x (defArgs st) (defBody st) (defScope st) .none kV doc pm an cdv ct) ⟨us, []⟩ = pure (ps.zip us))
    (len : ∀ ds S Q, sp ds S Q → ds.length = ps.length)
    (hbody : ∀ (f : Addr) (cdv : Value) (A : Around) (outer : List Env) (s : Shared) (H : Hp) (E : XK), A.guards = some [] → Room k (A.deeper (envOfC x sc s.heap.objs.size f cdv)) → ∀ ds S Q, sp ds S Q →
      ∃ t, DSs (cxOf CX0 P w K mg base N x sc f cdv A outer s H E).nox (defBody st) t ∧ t (endsD Q) (startD N ds) S) : DfG P w K mg base g (k + 1) sp := by
  obtain ⟨f, fd, F, hm⟩ := A
  exact ⟨f, fd, ps, fnG_body F hsc SC len (hbody f), hm, F.kp, F.binds hbi⟩
end
section
variable {X : Cx} {pos p : Pos} {e : Expr} {es : List Expr} {t : TAD} {x : Str} {k : Nat} {sp : SpD}
theorem de_callG (F : DfG X.prog X.w X.K X.mg X.base x k sp) (hg0 : X.A.guards = some []) (hr : Room k X.A) (hg : Gl X x) (ha : DA X (e :: es) t) (hd : (x == ("__debug__" : Str)) = false := by decide) (he : starEach (e :: es) X.env = (false, eval e X.env) :: starEach es X.env := by rfl) (hpl : (backTo pos (starEach es X.env)).any (·.1) = false := by rfl) : DE X (.Call (.Name x p) (e :: es) [] pos) (tCallD sp t) := by
  obtain ⟨f, fd, ps, h1, h2, h3, h4⟩ := F
  refine PEi (t' := tCall (liftSp X.K sp) [] E0 (liftA X.K t)) ⟨fun pins s σ H Q I h => wpAny_Call_Name_kw (ld_glob I hg h2 ?_ hd)⟩ fun _ _ _ h => call_lift h
  refine PySem.W.callWith_K (h₀ := X.base) I.ok.mod.kin h3 (thn (ha.run pos pins s σ H _ I h) fun us s1 ⟨vs, H1, I1, rel, q⟩ => ⟨I1.kIn, ?_⟩) he hpl
  have q' : liftSp X.K sp vs H1 Q E0 := by
    have q1 : liftSp X.K sp (vs ++ []) H1 Q E0 := q
    rw [List.append_nil] at q1
    exact q1
  have bound := h4 s1 us I1.kIn (by rw [List.append_nil, ← rel.length]; exact h1.len _ _ _ _ q')
  rw [List.append_nil] at bound
  refine wpAny_call (codeAny_mono (h1.run X.A X.stack s1 H1 ⟨us, []⟩ us vs Q E0 hg0 hr I1.env0 bound rel q') ?_)
  intro r s' z
  cases r with
  | error e => exact z.elim
  | ok fl =>
    cases fl with
    | ret u => exact I1.after z
    | next => exact z.elim
    | brk => exact z.elim
    | cont => exact z.elim
end
end DL

set_option Elab.async false
set_option maxRecDepth 100000
set_option linter.unusedVariables false
/-! DLm: sorted of tuples (data), dict of a tuple of pairs, list.index of texts, in a tuple of data. -/
namespace DL
open PySem PySem.Spec PySem.Calls PyProof.Rows L2
mutual
theorem reads_there {h : Heap} : ∀ (d : PyData) (v : Value) (as : List Addr), d.hasDict = false → Reads h v d as → ∀ a ∈ as, ∃ o, h.get? a = some o
  | .none, _, _, _, r => by cases r; intro a z; cases z
  | .bool _, _, _, _, r => by cases r; intro a z; cases z
  | .int _, _, _, _, r => by cases r; intro a z; cases z
  | .str _, _, _, _, r => by cases r; intro a z; cases z
  | .list xs, _, _, hd, r => by
    cases r with
    | list h1 h2 h3 h4 =>
      intro a z
      rcases List.mem_cons.mp z with rfl | z
      · exact ⟨_, h1⟩
      · exact readsAll_there xs _ _ hd h4 a z
  | .tuple xs, _, _, hd, r => by
    cases r with
    | tuple h1 h2 h3 h4 => exact readsAll_there xs _ _ hd h4
  | .dict kvs, _, _, hd, _ => by cases hd
theorem readsAll_there {h : Heap} : ∀ (ds : List PyData) (vs : List Value) (as : List Addr), PyData.hasDictAll ds = false → ReadsAll h vs ds as → ∀ a ∈ as, ∃ o, h.get? a = some o
  | [], _, _, _, r => by cases r; intro a z; cases z
  | d :: ds, _, _, hd, r => by
    have hd' : d.hasDict = false ∧ PyData.hasDictAll ds = false := by simpa [PyData.hasDictAll] using hd
    cases r with
    | cons h1 h2 =>
      intro a z
      rcases List.mem_append.mp z with z | z
      · exact reads_there d _ _ hd'.1 h1 a z
      · exact readsAll_there ds _ _ hd'.2 h2 a z
end
mutual
theorem PD.nodict {S : Store} : ∀ {d : D} {p : PyData}, PD S d p → p.hasDict = false
  | _, _, .non => rfl
  | _, _, .bl _ => rfl
  | _, _, .int _ => rfl
  | _, _, .str _ => rfl
  | _, _, .tup h => PDs.nodict h
  | _, _, .rol h => PDs.nodict h
  | _, _, .ftup h => PDs.nodict h
  | _, _, .lst _ h => PDs.nodict h
theorem PDs.nodict {S : Store} : ∀ {ds : List D} {ps : List PyData}, PDs S ds ps → PyData.hasDictAll ps = false
  | _, _, .nil => rfl
  | _, _, .cons h1 h2 => by
    rw [PyData.hasDictAll, PD.nodict h1, PDs.nodict h2]; rfl
end
/-- an item to be sorted: by its key -/
structure SK where
  key : Str
  d : D
  p : PyData
def SK.le (b c : SK) : Bool := PySem.W.dataLe false SK.p b c
/-- sorted of a list or tuple of tuples that begin with a text -/
def oSortK : RAD := fun xs S Q => match xs with
  | [x] => ∃ bs : List SK, (x = .tup (bs.map SK.d) ∨ seqAt S x = some (bs.map SK.d)) ∧ bs.length ≤ 1000 ∧ (∀ b ∈ bs, PD S b.d b.p) ∧ (∀ b ∈ bs, ∃ r, b.p = .tuple (.str b.key :: r)) ∧ (∀ b ∈ bs, ∀ c ∈ bs, PySem.W.alike b.p c.p = true) ∧ (∀ b ∈ bs, b.p.depth ≤ 60) ∧
      ∀ p, S p = none → Q (.ref p) (put S p (.lst ((bs.mergeSort SK.le).map SK.d)))
  | _ => False
section
variable {X : Cx}
theorem vals_each {K : PySem.W.Frag} {H : Hp} : ∀ {bs : List SK} {vs : List V} {us : List Value}, RDs K H (bs.map SK.d) vs → Vals vs us → PySem.W.EachIs (fun u (b : SK) => ∃ v, RelV v u ∧ RD K H b.d v) us bs
  | [], vs, us, h, r => by cases (show vs = [] from h); cases r; exact .nil
  | b :: bs, vs, us, h, r => by
    obtain ⟨v, t, rfl, h1, h2⟩ := h
    cases r with
    | cons r1 r2 => exact .cons ⟨v, r1, h1⟩ (vals_each h2 r2)
theorem each_vals {K : PySem.W.Frag} {H : Hp} : ∀ {bs : List SK} {us : List Value}, PySem.W.EachIs (fun u (b : SK) => ∃ v, RelV v u ∧ RD K H b.d v) us bs → ∃ vs, Vals vs us ∧ RDs K H (bs.map SK.d) vs
  | [], us, h => by cases h; exact ⟨[], .nil, rfl⟩
  | b :: bs, us, h => by
    cases h with
    | cons h1 h2 =>
      obtain ⟨v, r1, r2⟩ := h1
      obtain ⟨vs, q1, q2⟩ := each_vals h2
      exact ⟨v :: vs, .cons r1 q1, v, vs, rfl, r2, q2⟩
theorem each_imp {α β : Type} {R R' : α → β → Prop} : ∀ {us : List α} {bs : List β}, PySem.W.EachIs R us bs → (∀ u b, b ∈ bs → R u b → R' u b) → PySem.W.EachIs R' us bs
  | _, [], h, _ => by cases h; exact .nil
  | _, b :: bs, h, q => by
    cases h with
    | cons h1 h2 => exact .cons (q _ _ List.mem_cons_self h1) (each_imp h2 fun u c hc => q u c (List.mem_cons_of_mem _ hc))
theorem cd_sortK (hu : X.A.units + 100 < cLine) : CallD X (.builtin "sorted") oSortK := by
  intro pins s σ H xs us Q I rs h
  obtain ⟨ds, S, Q0, hx, hs, h, q⟩ := h
  unfold oSortK at h
  split at h
  · obtain ⟨v, rfl, e⟩ := hx.one
    obtain ⟨bs, hb, hl, hp, hk, hal, hdp, h⟩ := h
    -- the items at the place
    have items : ∃ (a : Addr) (T : String) (o : Obj) (its : Array Value) (n : Nat) (vs : List V), v = .ref a ∧ (T = "list" ∨ T = "tuple") ∧ s.heap.get? a = some o ∧ o.cls = .type T ∧ o.data = .seq its n ∧ Vals vs its.toList ∧ RDs X.K H (bs.map SK.d) vs := by
      rcases hb with rfl | hb
      · obtain ⟨a, vs, rfl, ht, hd⟩ := e
        obtain ⟨its, rv, ⟨o, ho, hc, n, hdd⟩, _⟩ := I.tuple ht
        exact ⟨a, "tuple", o, its.toArray, n, vs, rfl, .inr rfl, ho, hc, hdd, by simpa using rv, hd⟩
      · obtain ⟨a, vs, rfl, hq, hd⟩ := seqAt_sq hb e hs
        obtain ⟨its, rv, ⟨o, n, ho, hc, _, hdd⟩, _⟩ := I.list hq
        exact ⟨a, "list", o, its.toArray, n, vs, rfl, .inl rfl, ho, hc, hdd, by simpa using rv, hd⟩
    obtain ⟨a, T, o, its, n, vs, rfl, hT, ho, hc, hdd, rv, hd⟩ := items
    cases rs with
    | cons r1 r2 =>
      cases r2
      cases r1
      have hlen : its.toList.length = bs.length := by rw [← rv.length, hd.length, List.length_map]
      have hz : its.size ≤ sizeLine := by
        have : its.size = its.toList.length := by simp
        rw [this, hlen]; exact szOk (by omega)
      have ev := vals_each hd rv
      refine call_function_entry kind_sorted plain_sorted entry_sorted (args_sorted1 _) ?_
      unfold Builtin.«sorted»
      refine wpAny_bind (m := checkCount "sorted" 1 1 _) (wpAny_pure ?_)
      refine wpAny_bind (wpAny_collect_seq a hT ho hc hdd (fun h1 k1 => ?_) hz)
      refine wpAny_bind (wpAny_newList ?_ (by rw [hlen]; exact szOk (by omega)))
      have I1 : Inv X pins σ H { s with heap := h1 } := I.kept (t' := s.toks) k1
      have er0 : PySem.W.EachIs (fun u (b : SK) => ∃ as, Reads h1 u b.p as) its.toList bs := each_imp ev fun u b hb ⟨v, r, rd⟩ => Dp.reads I1 _ _ _ (PD.dp hs _ _ _ (hp b hb) rd) r
      have k2 : ∀ b o', h1.get? b = some o' → (h1.push { cls := .type "list", data := .seq its.toList.toArray }).get? b = some o' := fun b o' e => Heap.get?_push_of_some _ e
      have at2 : (h1.push ({ cls := .type "list", data := .seq its.toList.toArray } : Obj)).get? h1.objs.size = some (seqObj "list" its.toList.toArray 0) := Heap.get?_push_size _ rfl
      have fresh : h1.objs.size ≤ h1.objs.size := Nat.le_refl _
      have hn : H h1.objs.size = none := I1.hok.fresh fresh
      refine wpAny_bind (wpAny_holding (wpAny_mono (Q := fun r s' => r = .none ∧ EP X pins σ Q (.ref h1.objs.size) s') (E := fun _ _ => False) (PySem.W.list_sort_data (a := h1.objs.size) (n := 0) (enc := SK.p) at2 ev ?_ ?_ ?_ ?_ ?_ ?_) (fun r s' z => ?_) fun _ _ z => z.elim))
      · refine each_imp er0 fun u b hb ⟨as, r⟩ => ⟨as, PyProof.Rows.Reads.keeps k2 r, fun z => ?_⟩
        obtain ⟨o', e'⟩ := reads_there _ _ _ (PD.nodict (hp b hb)) r _ z
        exact absurd (Heap.lt_size e') (Nat.not_lt.mpr fresh)
      · intro d hd1 d' hd2
        obtain ⟨b, hb1, rfl⟩ := List.mem_map.mp hd1
        obtain ⟨c, hc1, rfl⟩ := List.mem_map.mp hd2
        exact hal b hb1 c hc1
      · refine .inl fun d hd1 => ?_
        obtain ⟨b, hb1, rfl⟩ := List.mem_map.mp hd1
        obtain ⟨r, e⟩ := hk b hb1
        exact ⟨_, r, e⟩
      · exact szOk (by omega)
      · intro b hb1
        have := hdp b hb1
        show X.A.units + 1 + 1 + _ < _
        omega
      · intro out hol eo
        obtain ⟨vs', rv', rd'⟩ := each_vals eo
        obtain ⟨ep, he'⟩ := PyProof.Rows.sortedHeap_at (out := out.toArray) at2
        refine ⟨rfl, .ref h1.objs.size, upd H h1.objs.size (.lst vs'), I1.laid (t' := s.toks) (fun b u e => ?_) fresh ⟨by rw [rv'.length, hol]; exact szOk (by omega), out, ep, rv', he'⟩, rfl, ?_⟩
        · have hlt := Heap.lt_size e
          rw [PyProof.Rows.sortedHeap_old (Nat.ne_of_lt (Nat.lt_of_lt_of_le hlt fresh)) (Heap.lt_size (k2 b u e))]
          exact k2 b u e
        · exact q _ _ _ _ (h h1.objs.size (hs.free hn)) (Ext.new hn) rfl (hs.newLst hn rd')
      · obtain ⟨rfl, z⟩ := z
        exact wpAny_pure ⟨_, rfl, z⟩
  · cases h
end
end DL

set_option Elab.async false
set_option maxRecDepth 100000
set_option linter.unusedVariables false
/-! DLn: tuple(xs) as an object that is known, dict of a tuple of pairs, list.index of texts, in a tuple of data. -/
namespace DL
open PySem PySem.Spec PySem.Calls PyProof.Rows L2
section
variable {X : Cx} {e : Expr} {te : TED}
/-- a known tuple is a tuple -/
def thaw : D → D
  | .ftup ds => .tup ds
  | d => d
theorem RD.thaw {K : PySem.W.Frag} {H : Hp} {d : D} {v : V} (h : RD K H d v) : RD K H (DL.thaw d) v := by
  cases d with
  | ftup ds => obtain ⟨p, vs, rfl, ht, hd⟩ := h; exact ⟨p, vs, rfl, ht.sq, hd⟩
  | _ => exact h
def tThaw (te : TED) : TED := fun δ S Q => te δ S fun d S1 => Q (thaw d) S1
theorem de_thaw (h : DE X e te) : DE X e (tThaw te) := PEi h fun σ H Q h => by
  obtain ⟨δ, S, Q0, h1, h2, h3, h4⟩ := h
  exact ⟨δ, S, _, h1, h2, h3, fun d S1 v H1 q e1 r1 s1 => h4 _ _ _ _ q e1 r1.thaw s1⟩
/-- tuple(xs) of a list: its object is known -/
def oTupleF : RAD := fun xs S Q => match xs with
  | [x] => ∃ ds, seqAt S x = some ds ∧ Q (.ftup ds) S
  | _ => False
theorem cd_tupleF : CallD X (.type "tuple") oTupleF := by
  intro pins s σ H xs us Q I rs h
  obtain ⟨ds, S, Q0, hx, hs, h, q⟩ := h
  unfold oTupleF at h
  split at h
  · obtain ⟨v, rfl, e⟩ := hx.one
    obtain ⟨es, e1, h⟩ := h
    obtain ⟨a, vs, rfl, hq, hd⟩ := seqAt_sq e1 e hs
    cases rs with
    | cons r1 r2 =>
      cases r2
      cases r1
      obtain ⟨its, rv, pl, hz⟩ := I.list hq
      have hl := rv.length
      refine call_tuple_list pl.isList (fun h' kp => ?_) (by simp only [List.size_toArray]; omega)
      have I1 : Inv X pins σ H { s with heap := h' } := I.kept (t' := s.toks) kp
      let o : Obj := { cls := .type "tuple", data := .seq its.toArray }
      have hn : H h'.objs.size = none := I1.hok.fresh (Nat.le_refl _)
      have I2 : Inv X pins σ (upd H h'.objs.size (.frz o (.tup vs))) { s with heap := h'.push o } :=
        I1.laid (t' := s.toks) (fun b o e => Heap.get?_push_of_some _ e) (Nat.le_refl _) ⟨Heap.get?_push_size _ rfl, hz, its, rv, ⟨o, Heap.get?_push_size _ rfl, rfl, _, rfl⟩⟩
      refine ⟨.ref h'.objs.size, _, I2, rfl, q _ _ _ _ h (Ext.new hn) ⟨_, vs, rfl, ⟨o, upd_same, rfl, rfl⟩, hd.ext (Ext.new hn)⟩ (hs.grow hn)⟩
  · cases h
/-- the pairs of a tuple of pairs -/
def pairsD : List (Key × D) → List D
  | [] => []
  | (k, d) :: r => .tup [kD k, d] :: pairsD r
def dmerge (kvs more : List (Key × D)) : List (Key × D) := more.foldl (fun acc kv => dput acc kv.1 kv.2) kvs
theorem RKV.merge {K : PySem.W.Frag} {H : Hp} : ∀ {more : List (Key × D)} {mw : List (Key × V)} {kvs : List (Key × D)} {ws : List (Key × V)}, RKV K H more mw → RKV K H kvs ws → RKV K H (dmerge kvs more) (mergeK ws mw)
  | [], mw, kvs, ws, h, g => by cases (show mw = [] from h); exact g
  | (k, d) :: r, mw, kvs, ws, h, g => by
    obtain ⟨v, t, rfl, h1, h2⟩ := h
    show RKV K H (dmerge (dput kvs k d) r) (mergeK (putK ws k v) t)
    exact RKV.merge h2 (g.put k h1)
/-- dict(ps): a known tuple of pairs; dict(d): a copy -/
def oDict : RAD := fun xs S Q => match xs with
  | [.ref a] => ∃ kvs, S a = some (.dk kvs) ∧ ∀ p, S p = none → Q (.ref p) (put S p (.dk kvs))
  | [.ftup ds] => ∃ kvs, ds = pairsD kvs ∧ ∀ p, S p = none → Q (.ref p) (put S p (.dk (dmerge [] kvs)))
  | _ => False
theorem pairs_read {pins : List (Addr × Obj)} {s : Shared} {σ : L2.St} {H : Hp} (I : Inv X pins σ H s) : ∀ {kvs : List (Key × D)} {vs : List V} {us : List Value}, RDs X.K H (pairsD kvs) vs → Vals vs us →
    ∃ (ws : List (Key × V)) (prs : List (Key × Value)) (Ts : List Addr) (ps : List (Value × Value)), RKV X.K H kvs ws ∧ KV ws prs ∧ prs.length = kvs.length ∧ us = Ts.map Value.ref ∧ ps.length = kvs.length ∧
      ∀ (j : Nat) (k y : Value), ps[j]? = some (k, y) → ∃ b key, Ts[j]? = some b ∧ IsTup s.heap b #[k, y] ∧ prs[j]? = some (key, y) ∧ keyIs key k = true
  | [], vs, us, h, r => by cases (show vs = [] from h); cases r; exact ⟨[], [], [], [], rfl, .nil, rfl, rfl, rfl, fun j k y e => by simp at e⟩
  | (k, d) :: kvs, vs, us, h, r => by
    obtain ⟨v, t, rfl, ⟨p, ps, rfl, ht, hd⟩, h2⟩ := h
    cases r with
    | cons r1 r2 =>
      cases r1
      obtain ⟨ws, prs, Ts, pp, q1, q2, q3, q4, q5, q6⟩ := pairs_read I h2 r2
      obtain ⟨w1, w2, rfl, e1, e2⟩ := hd.two
      obtain ⟨its, rv, it, _⟩ := I.tuple ht
      obtain ⟨u, y, ei, ru, ry⟩ := vals2 rv
      subst ei
      refine ⟨(k, w2) :: ws, (k, y) :: prs, p :: Ts, (u, y) :: pp, ⟨w2, ws, rfl, e2, q1⟩, .cons ⟨rfl, ry⟩ q2, by simp [q3], by rw [q4]; rfl, by simp [q5], fun j k' y' e => ?_⟩
      cases j with
      | zero =>
        have e' : (u, y) = (k', y') := by simpa using e
        cases e'
        have ek := kD_kV e1
        subst ek
        exact ⟨p, k, rfl, it, rfl, kV_is (P := X.prog) (w := X.w) ru⟩
      | succ j =>
        obtain ⟨b, key, e1, e2, e3, e4⟩ := q6 j k' y' (by simpa using e)
        exact ⟨b, key, by simpa using e1, e2, by simpa using e3, e4⟩
theorem pairsD_length : ∀ l : List (Key × D), (pairsD l).length = l.length
  | [] => rfl
  | (k, d) :: l => by show (pairsD l).length + 1 = _; rw [pairsD_length l]; rfl
theorem cd_dictF (hc : X.calm = true) : CallD X (.type "dict") oDict := by
  intro pins s σ H xs us Q I rs h
  obtain ⟨ds, S, Q0, hx, hs, h, q⟩ := h
  unfold oDict at h
  split at h
  · exact cd_dict pins s σ H xs us Q I rs ⟨_, S, Q0, hx, hs, h, q⟩
  · obtain ⟨v, rfl, e⟩ := hx.one
    obtain ⟨kvs, rfl, h⟩ := h
    obtain ⟨a, vs, rfl, ⟨o, ho, hdict, hcls⟩, hd⟩ := e
    cases rs with
    | cons r1 r2 =>
      cases r2
      cases r1
      obtain ⟨hget, hz, its, rv, it⟩ := I.hok a _ ho
      obtain ⟨ws, prs, Ts, ps, q1, q2, q3, q4, q5, q6⟩ := pairs_read I hd rv
      obtain ⟨o', ho', hc', n, hd'⟩ := it
      rw [hget] at ho'
      cases ho'
      have hlen : kvs.length ≤ sizeLine := by
        have e1 := hd.length
        rw [pairsD_length] at e1
        omega
      have hps : its.length = kvs.length := by rw [← rv.length, hd.length, pairsD_length]
      refine PySem.call_dict_pairs (knd := mixKind X.prog X.w) (kvs := prs) (PySem.PairArg.tuple a its.toArray (fun j => Ts.getD j 0) ps) (I.ok.hd hc) ⟨⟨o, n, hget, hc', hdict, hd'⟩, by simp [hps, q5], fun j k y e => ?_⟩ ⟨by rw [q3, q5], fun i key v e => ?_⟩ (by rw [q5]; exact hlen) fun h' tk hdo hk => ?_
      · obtain ⟨b, key, e1, e2, _⟩ := q6 j k y e
        have eb : Ts.getD j 0 = b := by rw [List.getD_eq_getElem?_getD, e1]; rfl
        refine ⟨by rw [q4]; simp [e1, eb], ?_⟩
        show PairAt s.heap (Ts.getD j 0) k y
        rw [eb]
        exact .inl e2
      · obtain ⟨b, kk, e1, e2, e3, e4⟩ := q6 i key v e
        exact ⟨kk, e3, e4⟩
      · have hm : (s.heap.objs.size == sysModules) = false := beq_eq_false_iff_ne.mpr (Nat.ne_of_gt I.big)
        have hz2 : (mergeK [] ws).length ≤ sizeLine := by
          refine Nat.le_trans (length_mergeK ws []) ?_
          rw [List.length_nil, Nat.zero_add, q1.length]
          exact hlen
        have hn : H s.heap.objs.size = none := I.hok.fresh (Nat.le_refl _)
        have q1' : RKV X.K H (dmerge [] kvs) (mergeK [] ws) := RKV.merge q1 rfl
        refine ⟨.ref s.heap.objs.size, upd H s.heap.objs.size (.dK (mergeK [] ws)), I.laid (t' := tk) (fun b o e => hk b o (by simp) e) (Nat.le_refl _) (show ObjOk X.prog X.w _ _ _ (.dK (mergeK [] ws)) from ⟨hz2, hm, merged [] prs, KV.merge q2 .nil, hdo⟩), rfl, ?_⟩
        exact q _ _ _ _ (h _ (hs.free hn)) (Ext.new hn) rfl (hs.new hn ⟨_, upd_same, q1'.ext (Ext.new hn)⟩)
  · cases h
end
end DL

set_option Elab.async false
set_option maxRecDepth 100000
set_option linter.unusedVariables false
/-! DLo: instances: making, fields, methods. -/
namespace DL
open PySem PySem.Spec PyProof.Rows L2
def fput (f : Str) (d : D) : List (Str × D) → List (Str × D)
  | [] => [(f, d)]
  | (g, x) :: r => if g = f then (g, d) :: r else (g, x) :: fput f d r
theorem RKV.lookup {K : PySem.W.Frag} {H : Hp} {f : Str} : ∀ {fs : List (Str × D)} {ws : List (Str × V)} {d : D}, RKV K H fs ws → fs.lookup f = some d → ∃ v, ws.lookup f = some v ∧ RD K H d v
  | [], _, _, _, e => by cases e
  | (g, x) :: r, _, d, h, e => by
    obtain ⟨v, t, rfl, h1, h2⟩ := h
    rw [List.lookup_cons] at e ⊢
    cases c : f == g with
    | true => rw [c] at e; cases e; exact ⟨v, rfl, h1⟩
    | false => rw [c] at e; exact RKV.lookup h2 e
theorem RKV.lookupN {K : PySem.W.Frag} {H : Hp} {f : Str} : ∀ {fs : List (Str × D)} {ws : List (Str × V)}, RKV K H fs ws → fs.lookup f = none → ws.lookup f = none
  | [], _, h, _ => by cases (show _ = [] from h); rfl
  | (g, x) :: r, _, h, e => by
    obtain ⟨v, t, rfl, h1, h2⟩ := h
    rw [List.lookup_cons] at e ⊢
    cases c : f == g with
    | true => rw [c] at e; cases e
    | false => rw [c] at e; exact RKV.lookupN h2 e
section
variable {X : Cx} {o e value : Expr} {f : Str} {pos pos' : Pos} {ta tv : TED}
def tFldD (K : PySem.W.Frag) (ta : TED) (f : Str) : TED := fun δ S Q => ta δ S fun x S1 => ∃ a C fs d, x = .ref a ∧ S1 a = some (.ins C fs) ∧ Cls K C ∧ NoAttr K C f ∧ fs.lookup f = some d ∧ Q d S1
theorem de_fld (he : DE X e ta) (hb : attributeBase e f X.env (eval e X.env) = eval e X.env := by rfl) : DE X (.Attribute e f pos) (tFldD X.K ta f) := PEi (pe_fld he hb) fun σ H Q h => by
  obtain ⟨δ, S, Q0, h1, h2, h3, h4⟩ := h
  refine ⟨δ, S, _, h1, h2, h3, fun x S1 v H1 q e1 r1 s1 => ?_⟩
  obtain ⟨a, C, fs, d, rfl, ea, c, n, l, q⟩ := q
  obtain ⟨dx, ws, hw, rk⟩ := s1 a _ ea
  obtain ⟨w, lw, rw'⟩ := rk.lookup l
  exact ⟨a, C, dx, ws, w, r1, hw, c, n, lw, h4 _ _ _ _ q e1 rw' s1⟩
theorem RKV.fput {K : PySem.W.Frag} {H : Hp} {f : Str} {d : D} {v : V} (q : RD K H d v) : ∀ {fs : List (Str × D)} {ws : List (Str × V)}, RKV K H fs ws → RKV K H (DL.fput f d fs) (putF f v ws)
  | [], _, h => by cases (show _ = [] from h); exact ⟨v, [], rfl, q, rfl⟩
  | (g, x) :: r, _, h => by
    obtain ⟨y, t, rfl, h1, h2⟩ := h
    unfold DL.fput putF
    by_cases c : g = f
    · rw [if_pos c, if_pos c]; exact ⟨v, t, rfl, q, h2⟩
    · rw [if_neg c, if_neg c]; exact ⟨y, _, rfl, h1, RKV.fput q h2⟩
def tSetF (K : PySem.W.Frag) (ta tv : TED) (f : Str) : TSD := fun G δ S => tv δ S fun y S1 => ta δ S1 fun x S2 => ∃ a C fs, x = .ref a ∧ S2 a = some (.ins C fs) ∧ Cls K C ∧ NoAttr K C f ∧ fs.length < 1000 ∧ G.nx δ (put S2 a (.ins C (fput f y fs)))
theorem ds_fld (ha : DE X o ta) (hv : DE X value tv) (hs : swapsWith value (some (.Attribute o f pos')) pos.line X.env = pure false := by rfl) : DS X (.Assign [.Attribute o f pos'] value pos) (tSetF X.K ta tv f) := PSi (ps_fld ha hv hs) fun E σ H h => by
  obtain ⟨δ, S, G, h1, h2, h3, n, r, b, c⟩ := h
  refine ⟨δ, S, _, h1, h2, h3, fun y S1 v H1 q e1 r1 s1 => ⟨δ, S1, _, h1.ext e1, s1, q, fun x S2 u H2 q2 e2 r2 s2 => ?_⟩⟩
  obtain ⟨a, C, fs, rfl, ea, cc, nn, l, q⟩ := q2
  obtain ⟨dx, ws, hw, rk⟩ := s2 a _ ea
  have ex : Ext X.K H2 (upd H2 a (.ins C dx (putF f v ws))) := Ext.put hw trivial
  refine ⟨a, C, dx, ws, r2, hw, cc, nn, by rw [rk.length]; exact l, ?_⟩
  exact n _ _ _ _ q (e1.trans (e2.trans ex)) (h1.ext (e1.trans (e2.trans ex))) (s2.put hw trivial ⟨dx, _, upd_same, RKV.ext ex (rk.fput (r1.ext e2))⟩)
end
/-- a method keeps its promise -/
def DfM (P : Program) (w : World) (K : PySem.W.Frag) (mg : Str → Option Value) (base : Heap) (C : Addr) (m : Str) (k : Nat) (sp : SpD) : Prop :=
  ∃ f fd ps, FnOk P w K mg base CX0 k f fd ps (liftSp K sp) ∧ Meth K C m f ∧ Binds K fd ps []
def AtM (K : PySem.W.Frag) (C : Addr) (m qual : Str) (st : Stmt) : Prop := ∃ f fd, Fun K m qual st f fd ∧ Meth K C m f
/-- __init__ and the class -/
def DfI (P : Program) (w : World) (K : PySem.W.Frag) (mg : Str → Option Value) (base : Heap) (C : Addr) (k : Nat) (sp : SpD) : Prop :=
  ∃ f fd ps, FnOk P w K mg base CX0 k f fd ps (liftSp K sp) ∧ Mk K C f ∧ Binds K fd ps []
section
variable {P : Program} {w : World} {K : PySem.W.Frag} {mg : Str → Option Value} {base : Heap}
theorem DfM.mono {C : Addr} {x : Str} {j k : Nat} {sp : SpD} (h : DfM P w K mg base C x j sp) (l : j ≤ k) : DfM P w K mg base C x k sp := by
  obtain ⟨f, fd, ps, h1, h2⟩ := h
  exact ⟨f, fd, ps, h1.mono l, h2⟩
theorem fn_body {f : Addr} {fd : FuncData} {x qual : Str} {st : Stmt} {N ps : List Str} {k : Nat} {sp : SpD} {sc : Scope} (F : Fun K x qual st f fd) (hsc : defScope st = sc) (SC : FnScope N ps sc)
    (len : ∀ ds S Q, sp ds S Q → ds.length = ps.length)
    (hbody : ∀ (cdv : Value) (A : Around) (outer : List Env) (s : Shared) (H : Hp) (E : XK), Room k (A.deeper (envOfC qual sc s.heap.objs.size f cdv)) → ∀ ds S Q, sp ds S Q →
      ∃ t, DSs (cxOf CX0 P w K mg base N qual sc f cdv A outer s H E).nox (defBody st) t ∧ t (endsD Q) (startD N ds) S) : FnOk P w K mg base CX0 (k + 1) f fd ps (liftSp K sp) := by
  subst hsc
  refine F.ok SC (fun vs H Q E h => ?_) (fun cdv A outer s H vs Q E hr h => ?_)
  · obtain ⟨ds, S, Q0, h1, h2, h3, h4⟩ := h
    rw [h1.length, len _ _ _ h3]
  · obtain ⟨ds, S, Q0, h1, h2, h3, h4⟩ := h
    obtain ⟨t, ht, q⟩ := hbody cdv A outer s H E hr ds S Q0 h3
    refine ⟨_, ht, startD N ds, S, _, ?_, h2, q, fun δ' S' σ' H' n e r' s' => ?_, fun d S' v H' n e r' s' => ?_, fun _ _ _ _ n => n.elim, fun _ _ _ _ n => n.elim⟩
    · unfold startD L2.start
      rw [← h1.length]
      exact RSt.args h1
    · obtain ⟨S'', hs, q⟩ := n
      exact h4 _ _ _ _ q e rfl (s'.sub hs)
    · obtain ⟨S'', hs, q⟩ := n
      exact h4 _ _ _ _ q e r' (s'.sub hs)
theorem dfM_mk {C : Addr} {m qual : Str} {st : Stmt} {N ps : List Str} {k : Nat} {sp : SpD} {sc : Scope} (A : AtM K C m qual st) (hsc : defScope st = sc) (SC : FnScope N ps sc)
    (hbi : ∀ (kV doc pm : Value) (an : Option Addr) (cdv ct : Value) (us : List Value), us.length = ps.length → bindArgs (PySem.W.fnOf m qual (defArgs st) (defBody st) (defScope st) .none kV doc pm an cdv ct) ⟨us, []⟩ = pure (ps.zip us))
    (len : ∀ ds S Q, sp ds S Q → ds.length = ps.length)
    (hbody : ∀ (f : Addr) (cdv : Value) (A : Around) (outer : List Env) (s : Shared) (H : Hp) (E : XK), Room k (A.deeper (envOfC qual sc s.heap.objs.size f cdv)) → ∀ ds S Q, sp ds S Q →
      ∃ t, DSs (cxOf CX0 P w K mg base N qual sc f cdv A outer s H E).nox (defBody st) t ∧ t (endsD Q) (startD N ds) S) : DfM P w K mg base C m (k + 1) sp := by
  obtain ⟨f, fd, F, hm⟩ := A
  exact ⟨f, fd, ps, fn_body F hsc SC len (hbody f), hm, F.binds hbi⟩
end
section
variable {X : Cx} {C : Addr} {pos p apos : Pos} {e o : Expr} {es : List Expr} {to : TED} {t : TAD} {x m : Str} {k : Nat} {sp : SpD}
def tMethD (C : Addr) (m : Str) (sp : SpD) (to : TED) (t : TAD) : TED := fun δ S Q => to δ S fun x S1 => ∃ a fs, x = .ref a ∧ S1 a = some (.ins C fs) ∧ fs.lookup m = none ∧ t δ S1 fun ds S2 => sp (x :: ds) S2 Q
theorem de_meth {pl : Sem Bool} (F : DfM X.prog X.w X.K X.mg X.base C m k sp) (c : Cls X.K C) (hr : Room k X.A) (ho : DE X o to) (ha : DA X (e :: es) t)
    (hst : starEach (e :: es) X.env = (false, eval e X.env) :: starEach es X.env := by rfl) (hpl : (backTo pos (starEach es X.env)).any (·.1) = false := by rfl)
    (ht : eval (.Call (.Attribute o m apos) (e :: es) [] pos) X.env = (do
      let ov ← eval o X.env
      standAt apos.atName
      let (f, first) ← holding [ov] (getMethod ov m pl)
      callWith pos f first (backTo pos (starEach (e :: es) X.env)) (backToKw pos (keywordEach [] X.env))) := by rfl) : DE X (.Call (.Attribute o m apos) (e :: es) [] pos) (tMethD C m sp to t) := by
  obtain ⟨f, fd, ps, h1, h2, h3⟩ := F
  refine PEi (pe_meth (pl := pl) ho c h2 h1 hr h3 .nil pass0 ha hst hpl ht) fun σ H Q h => ?_
  obtain ⟨δ, S, Q0, g1, g2, g3, g4⟩ := h
  refine ⟨δ, S, _, g1, g2, g3, fun d S1 v H1 q e1 r1 s1 => ?_⟩
  obtain ⟨a, fs, rfl, ea, l, q⟩ := q
  obtain ⟨dx, ws, hw, rk⟩ := s1 a _ ea
  refine ⟨a, dx, ws, r1, hw, rk.lookupN l, δ, S1, _, g1.ext e1, s1, q, fun ds S2 vs H2 q2 e2 r2 s2 => ?_⟩
  show liftSp X.K sp (v :: (vs ++ [])) H2 Q E0
  rw [List.append_nil]
  exact ⟨.ref a :: ds, S2, Q0, ⟨v, vs, rfl, r1, r2⟩, s2, q2, fun d S' v H' q' e' r' s' => g4 _ _ _ _ q' (e1.trans (e2.trans e')) r' s'⟩
def tMakeD (C : Addr) (sp : SpD) (t : TAD) : TED := fun δ S Q => t δ S fun ds S1 => ∀ x, S1 x = none → sp (.ref x :: ds) (put S1 x (.ins C [])) fun d S2 => d = .non ∧ Q (.ref x) S2
theorem de_make (F : DfI X.prog X.w X.K X.mg X.base C k sp) (hm : X.mg x = some (.ref C)) (hr : Room (k + 1) X.A) (hg : Gl X x) (ha : DA X (e :: es) t) (hdb : (x == ("__debug__" : Str)) = false := by decide) (he : starEach (e :: es) X.env = (false, eval e X.env) :: starEach es X.env := by rfl)
    (hpl : (backTo pos (starEach es X.env)).any (·.1) = false := by rfl) : DE X (.Call (.Name x p) (e :: es) [] pos) (tMakeD C sp t) := by
  obtain ⟨f, fd, ps, h1, h2, h3⟩ := F
  refine PEi (pe_make h2 h1 hr hg hm h3 .nil pass0 ha hdb he hpl) fun σ H Q h => ?_
  obtain ⟨δ, S, Q0, g1, g2, g3, g4⟩ := h
  refine ⟨δ, S, _, g1, g2, g3, fun ds S1 vs H1 q e1 r1 s1 y dx ny ndx hne => ?_⟩
  show liftSp X.K sp (.ref y :: (vs ++ [])) _ _ E0
  rw [List.append_nil]
  have x1 : Ext X.K H1 (upd H1 dx (.own y)) := Ext.new ndx
  have ny' : upd H1 dx (.own y) y = none := by rw [upd_ne hne.symm]; exact ny
  have x2 : Ext X.K (upd H1 dx (.own y)) (upd (upd H1 dx (.own y)) y (.ins C dx [])) := Ext.new ny'
  have s2 : RS X.K (upd (upd H1 dx (.own y)) y (.ins C dx [])) (put S1 y (.ins C [])) := (s1.grow ndx).new ny' ⟨dx, [], upd_same, rfl⟩
  refine ⟨.ref y :: ds, _, _, ⟨.ref y, vs, rfl, rfl, r1.ext (x1.trans x2)⟩, s2, q y (s1.free ny), fun d S' v H' q' e' r' s' => ?_⟩
  obtain ⟨rfl, q'⟩ := q'
  exact ⟨r', g4 _ _ _ _ q' (e1.trans (x1.trans (x2.trans e'))) rfl s'⟩
end
end DL

set_option Elab.async false
set_option maxRecDepth 100000
set_option linter.unusedVariables false
/-! DLp: list.index of texts, in a tuple of data. -/
namespace DL
open PySem PySem.Spec PyProof.Rows L2
section
variable {X : Cx}
def mIndex : RMD := fun x xs S Q => match x, xs with
  | .ref a, [.str y] => ∃ (ts : List Str) (j : Nat), S a = some (.lst (ts.map D.str)) ∧ ts[j]? = some y ∧ (∀ (m : Nat) (z : Str), m < j → ts[m]? = some z → z ≠ y) ∧ Q (.int (j : Nat)) S
  | _, _ => False
theorem md_index : MtD X "list.index" mIndex := by
  intro pins s σ H x xs v us Q I rx rs h
  obtain ⟨d, ds, S, Q0, hx, hxs, hs, h, q⟩ := h
  unfold mIndex at h
  split at h
  · rename_i a y
    cases (show x = .ref a from hx)
    obtain ⟨w, rfl, ry⟩ := hxs.one
    cases (show w = .str y from ry)
    obtain ⟨ts, j, e, ej, hno, h⟩ := h
    obtain ⟨vs, h1, hd⟩ := hs.lst e
    cases hd.strs
    have ev : ∀ a b : Str, eqV (.str a) (.str b) = decide (a = b) := fun a b => by
      by_cases c : a = b
      · subst c; simp [eqV]
      · simp [eqV, c]
    refine mt_index pins s σ H _ _ v us Q I rx rs ⟨a, ts.map V.str, .str y, j, .str y, rfl, rfl, SqL.of h1, rfl, flat_texts ts, by rw [List.getElem?_map, ej]; rfl, by rw [ev]; simp, fun m z hm e => ?_, q _ _ _ _ h .refl rfl hs⟩
    rw [List.getElem?_map] at e
    cases c : ts[m]? with
    | none => rw [c] at e; cases e
    | some t =>
      rw [c] at e
      cases e
      rw [ev]
      exact decide_eq_false (hno m t hm c)
  · cases h
/-- x in t, t a tuple, both data -/
def oInP : R2D := fun x y S Q => match y with
  | .tup ds => ∃ p ps, PD S x p ∧ PDs S ds ps ∧ SeqAt.shaped p = true ∧ SeqAt.shaped (.tuple ps) = true ∧ (∀ q ∈ ps, SeqAt.noMix q p = true) ∧ Q (.bl (ps.any fun q => PyData.eqv q p)) S
  | _ => False
theorem od_inP (hu : X.A.units + 65 < cLine) : OpD X (compareOp .In) oInP := by
  intro pins s σ H x y v u Q I rx ry h
  obtain ⟨dx, dy, S, Q0, hx, hy, hs, h, q⟩ := h
  unfold oInP at h
  split at h
  · obtain ⟨p, ps, h1, h2, h3, h4, h5, h⟩ := h
    obtain ⟨as, r1⟩ := Dp.reads I _ _ _ (PD.dp hs _ _ _ h1 hx) rx
    obtain ⟨bs, r2⟩ := Dp.reads I _ _ _ (PD.dp hs _ _ _ (.tup h2) hy) ry
    exact in_tuple_dataH r2 r1 h4 h3 hu h5 (by rw [← any_eqv_countIn _ _ h5]; exact ⟨.bl _, H, I, rfl, q _ _ _ _ h .refl rfl hs⟩)
  · cases h
/-- list(range(n)) -/
def tLRg (ta : TED) : TED := fun δ S Q => ta δ S fun x S1 => ∃ n : Nat, x = .int (n : Nat) ∧ n ≤ 10000 ∧ ∀ q, S1 q = none → Q (.ref q) (put S1 q (.lst ((List.range n).map fun i : Nat => D.int (i : Nat))))
variable {a : Expr} {ta : TED} {p p2 pos pos2 : Pos}
theorem de_listRg (hc : X.calm = true) (hg : Gl X "list") (hm : X.mg "list" = none) (hg2 : Gl X "range") (hm2 : X.mg "range" = none) (ha : DE X a ta)
    (n1 : starEach [a] X.env = (false, eval a X.env) :: starEach [] X.env := by rfl) (n2 : starEach [.Call (.Name "range" p2) [a] [] pos2] X.env = (false, eval (.Call (.Name "range" p2) [a] [] pos2) X.env) :: starEach [] X.env := by rfl) :
    DE X (.Call (.Name "list" p) [.Call (.Name "range" p2) [a] [] pos2] [] pos) (tLRg ta) := PEi (pe_listRg hc hg hm (prg_1 hg2 hm2 ha n1) n2) fun σ H Q h => by
  obtain ⟨δ, S, Q0, h1, h2, h3, h4⟩ := h
  refine ⟨δ, S, _, h1, h2, h3, fun x S1 v H1 q e1 r1 s1 => ?_⟩
  obtain ⟨n, rfl, hn, q⟩ := q
  refine ⟨n, r1, ?_, fun q' nq => ?_⟩
  · exact RgOk.of_le (by omega) (by omega) (by omega) (by omega)
  · have er : rgV 0 (n : Int) = ((List.range n).map fun i : Nat => V.int (i : Nat)) := by
      unfold rgV
      simp
    rw [er]
    exact h4 _ _ _ _ (q q' (s1.free nq)) (e1.trans (Ext.new nq)) rfl (s1.newLst nq (RDs.of_map (f := fun i : Nat => D.int (i : Nat)) (g := fun i : Nat => V.int (i : Nat)) (fun _ => rfl) _))
end
end DL

set_option Elab.async false
set_option maxRecDepth 100000
set_option linter.unusedVariables false
/-! P72: the plain side of k72: forms, putting in place, unfolding, and the law about them. -/
namespace K72
open PySem PySem.Spec PyProof.Rows L2 DL

inductive J3 | and | or | if
inductive Q2 | every | some
def J3.s : J3 → Str
  | .and => "and" | .or => "or" | .if => "if"
def Q2.s : Q2 → Str
  | .every => "every" | .some => "some"
inductive Fm
  | is (t k : Str)
  | does (d a b : Str)
  | same (a b : Str)
  | neg (f : Fm)
  | bin (w : J3) (f g : Fm)
  | qu (w : Q2) (x : Str) (f : Fm)
def Fm.d : Fm → D
  | .is t k => .tup [.str "is", .str t, .str k]
  | .does d a b => .tup [.str "does", .str d, .str a, .str b]
  | .same a b => .tup [.str "same", .str a, .str b]
  | .neg f => .tup [.str "not", f.d]
  | .bin w f g => .tup [.str w.s, f.d, g.d]
  | .qu w x f => .tup [.str w.s, .str x, f.d]
def Fm.ht : Fm → Nat
  | .neg f => f.ht + 1
  | .bin _ f g => max f.ht g.ht + 1
  | .qu _ _ f => f.ht + 1
  | _ => 1
def Fm.sz : Fm → Nat
  | .neg f => f.sz + 1
  | .bin _ f g => f.sz + g.sz + 1
  | .qu _ _ f => f.sz + 1
  | _ => 1
/-- terms (and bound letters) T, kinds K, doings W -/
def Fm.ok (T K W : Str → Prop) : Fm → Prop
  | .is t k => T t ∧ K k
  | .does d a b => W d ∧ T a ∧ T b
  | .same a b => T a ∧ T b
  | .neg f => f.ok T K W
  | .bin _ f g => f.ok T K W ∧ g.ok T K W
  | .qu _ x f => T x ∧ f.ok T K W
theorem Fm.ok.imp {T K W T' K' W' : Str → Prop} (t : ∀ s, T s → T' s) (k : ∀ s, K s → K' s) (w : ∀ s, W s → W' s) : ∀ {F : Fm}, F.ok T K W → F.ok T' K' W'
  | .is _ _, h => ⟨t _ h.1, k _ h.2⟩
  | .does _ _ _, h => ⟨w _ h.1, t _ h.2.1, t _ h.2.2⟩
  | .same _ _, h => ⟨t _ h.1, t _ h.2⟩
  | .neg f, h => Fm.ok.imp (F := f) t k w h
  | .bin _ f g, h => ⟨Fm.ok.imp (F := f) t k w h.1, Fm.ok.imp (F := g) t k w h.2⟩
  | .qu _ _ f, h => ⟨t _ h.1, Fm.ok.imp (F := f) t k w h.2⟩
theorem Fm.ht_pos : ∀ F : Fm, 1 ≤ F.ht
  | .is _ _ => Nat.le_refl _
  | .does _ _ _ => Nat.le_refl _
  | .same _ _ => Nat.le_refl _
  | .neg f => Nat.succ_le_succ (Nat.zero_le _)
  | .bin _ f g => Nat.succ_le_succ (Nat.zero_le _)
  | .qu _ _ f => Nat.succ_le_succ (Nat.zero_le _)
theorem Fm.sz_pos : ∀ F : Fm, 1 ≤ F.sz
  | .is _ _ => Nat.le_refl _
  | .does _ _ _ => Nat.le_refl _
  | .same _ _ => Nat.le_refl _
  | .neg f => Nat.succ_le_succ (Nat.zero_le _)
  | .bin _ f g => Nat.succ_le_succ (Nat.zero_le _)
  | .qu _ _ f => Nat.succ_le_succ (Nat.zero_le _)
def sb (x t s : Str) : Str := if s = x then t else s
def sub (x t : Str) : Fm → Fm
  | .is a k => .is (sb x t a) k
  | .does d a b => .does d (sb x t a) (sb x t b)
  | .same a b => .same (sb x t a) (sb x t b)
  | .neg f => .neg (sub x t f)
  | .bin w f g => .bin w (sub x t f) (sub x t g)
  | .qu w y f => if y = x then .qu w y f else .qu w y (sub x t f)
abbrev Kn := Str → Option (Str × Fm)
def unf (f : Kn) : Fm → Fm
  | .is a k => match f k with
    | some (x, g) => sub x a g
    | none => .is a k
  | .does d a b => .does d a b
  | .same a b => .same a b
  | .neg g => .neg (unf f g)
  | .bin w g h => .bin w (unf f g) (unf f h)
  | .qu w y g => .qu w y (unf f g)
theorem sub_ht (x t : Str) : ∀ F : Fm, (sub x t F).ht = F.ht
  | .is _ _ => rfl
  | .does _ _ _ => rfl
  | .same _ _ => rfl
  | .neg f => by show (sub x t f).ht + 1 = _; rw [sub_ht x t f]; rfl
  | .bin _ f g => by show max (sub x t f).ht (sub x t g).ht + 1 = _; rw [sub_ht x t f, sub_ht x t g]; rfl
  | .qu w y f => by
    unfold sub
    split
    · rfl
    · show (sub x t f).ht + 1 = _; rw [sub_ht x t f]; rfl
theorem sub_sz (x t : Str) : ∀ F : Fm, (sub x t F).sz = F.sz
  | .is _ _ => rfl
  | .does _ _ _ => rfl
  | .same _ _ => rfl
  | .neg f => by show (sub x t f).sz + 1 = _; rw [sub_sz x t f]; rfl
  | .bin _ f g => by show (sub x t f).sz + (sub x t g).sz + 1 = _; rw [sub_sz x t f, sub_sz x t g]; rfl
  | .qu w y f => by
    unfold sub
    split
    · rfl
    · show (sub x t f).sz + 1 = _; rw [sub_sz x t f]; rfl
theorem sub_ok {T K W : Str → Prop} {x t : Str} (ht : T t) : ∀ {F : Fm}, F.ok T K W → (sub x t F).ok T K W
  | .is a k, h => ⟨by unfold sb; split; exact ht; exact h.1, h.2⟩
  | .does _ a b, h => ⟨h.1, by unfold sb; split; exact ht; exact h.2.1, by unfold sb; split; exact ht; exact h.2.2⟩
  | .same a b, h => ⟨by unfold sb; split; exact ht; exact h.1, by unfold sb; split; exact ht; exact h.2⟩
  | .neg f, h => sub_ok (F := f) ht h
  | .bin _ f g, h => ⟨sub_ok (F := f) ht h.1, sub_ok (F := g) ht h.2⟩
  | .qu w y f, h => by
    unfold sub
    split
    · exact h
    · exact ⟨h.1, sub_ok (F := f) ht h.2⟩
/-- x does not stand in it -/
abbrev Noc (x : Str) (g : Fm) : Prop := g.ok (fun s => s ≠ x) (fun _ => True) fun _ => True
theorem sb_ne {x t s : Str} (h : s ≠ x) : sb x t s = s := if_neg h
theorem sub_noc {x t : Str} : ∀ {g : Fm}, Noc x g → sub x t g = g
  | .is a k, h => by show Fm.is _ _ = _; rw [sb_ne h.1]
  | .does _ a b, h => by show Fm.does _ _ _ = _; rw [sb_ne h.2.1, sb_ne h.2.2]
  | .same a b, h => by show Fm.same _ _ = _; rw [sb_ne h.1, sb_ne h.2]
  | .neg f, h => by show Fm.neg _ = _; rw [sub_noc (g := f) h]
  | .bin _ f g, h => by show Fm.bin _ _ _ = _; rw [sub_noc (g := f) h.1, sub_noc (g := g) h.2]
  | .qu w y f, h => by
    unfold sub
    rw [if_neg h.1, sub_noc (g := f) h.2]
theorem sb_sb {x t y a b : Str} (h : b ≠ x) : sb x t (sb y a b) = sb y (sb x t a) b := by
  unfold sb
  by_cases e : b = y
  · rw [if_pos e, if_pos e]
  · rw [if_neg e, if_neg e, if_neg h]
theorem sub_sub {x t y a : Str} : ∀ {g : Fm}, Noc x g → sub x t (sub y a g) = sub y (sb x t a) g
  | .is b k, h => by show Fm.is _ _ = Fm.is _ _; rw [sb_sb h.1]
  | .does _ b c, h => by show Fm.does _ _ _ = Fm.does _ _ _; rw [sb_sb h.2.1, sb_sb h.2.2]
  | .same b c, h => by show Fm.same _ _ = Fm.same _ _; rw [sb_sb h.1, sb_sb h.2]
  | .neg f, h => by show Fm.neg _ = Fm.neg _; rw [sub_sub (g := f) h]
  | .bin _ f g, h => by show Fm.bin _ _ _ = Fm.bin _ _ _; rw [sub_sub (g := f) h.1, sub_sub (g := g) h.2]
  | .qu w z f, h => by
    by_cases e : z = y
    · have e1 : sub y a (.qu w z f) = .qu w z f := if_pos e
      have e2 : sub y (sb x t a) (.qu w z f) = .qu w z f := if_pos e
      rw [e1, e2, sub_noc h]
    · have e1 : sub y a (.qu w z f) = .qu w z (sub y a f) := if_neg e
      have e2 : sub y (sb x t a) (.qu w z f) = .qu w z (sub y (sb x t a) f) := if_neg e
      have e3 : sub x t (.qu w z (sub y a f)) = .qu w z (sub x t (sub y a f)) := if_neg h.1
      rw [e1, e2, e3, sub_sub (g := f) h.2]
/-- no letter of what is known is x -/
def KnNoc (f : Kn) (x : Str) : Prop := ∀ k y g, f k = some (y, g) → Noc x g
theorem unf_is_some {f : Kn} {a k x : Str} {g : Fm} (h : f k = some (x, g)) : unf f (.is a k) = sub x a g := by
  unfold unf
  rw [h]
theorem unf_is_none {f : Kn} {a k : Str} (h : f k = none) : unf f (.is a k) = .is a k := by
  unfold unf
  rw [h]
theorem sub_qu_eq {x t : Str} {w : Q2} {F : Fm} : sub x t (.qu w x F) = .qu w x F := if_pos rfl
theorem sub_qu_ne {x t y : Str} {w : Q2} {F : Fm} (h : y ≠ x) : sub x t (.qu w y F) = .qu w y (sub x t F) := if_neg h
theorem unf_sub {f : Kn} {x t : Str} (h : KnNoc f x) : ∀ F : Fm, unf f (sub x t F) = sub x t (unf f F)
  | .is a k => by
    cases e : f k with
    | none => rw [unf_is_none e, show sub x t (.is a k) = .is (sb x t a) k from rfl, unf_is_none e]
    | some p =>
      obtain ⟨y, g⟩ := p
      rw [unf_is_some e, show sub x t (.is a k) = .is (sb x t a) k from rfl, unf_is_some e, sub_sub (h _ _ _ e)]
  | .does _ _ _ => rfl
  | .same _ _ => rfl
  | .neg F => by show Fm.neg _ = Fm.neg _; rw [unf_sub h F]
  | .bin _ F G => by show Fm.bin _ _ _ = Fm.bin _ _ _; rw [unf_sub h F, unf_sub h G]
  | .qu w y F => by
    by_cases e : y = x
    · subst e
      rw [sub_qu_eq, show unf f (.qu w y F) = .qu w y (unf f F) from rfl, sub_qu_eq]
    · rw [sub_qu_ne e, show unf f (.qu w y F) = .qu w y (unf f F) from rfl, sub_qu_ne e, ← unf_sub h F]
      rfl
/-- what is unfolded has none of the known kinds -/
theorem unf_ok {f : Kn} {T K K0 W : Str → Prop} (hk : ∀ k, K k → (f k = none ∧ K0 k) ∨ ∃ y g, f k = some (y, g) ∧ g.ok T K0 W) : ∀ {F : Fm}, F.ok T K W → (unf f F).ok T K0 W
  | .is a k, h => by
    rcases hk k h.2 with ⟨e, q⟩ | ⟨y, g, e, q⟩
    · rw [unf_is_none e]; exact ⟨h.1, q⟩
    · rw [unf_is_some e]; exact sub_ok h.1 q
  | .does _ _ _, h => h
  | .same _ _, h => h
  | .neg F, h => unf_ok (F := F) hk h
  | .bin _ F G, h => ⟨unf_ok (F := F) hk h.1, unf_ok (F := G) hk h.2⟩
  | .qu _ _ F, h => ⟨h.1, unf_ok (F := F) hk h.2⟩
theorem unf_id {f : Kn} {T K W : Str → Prop} (hk : ∀ k, K k → f k = none) : ∀ {F : Fm}, F.ok T K W → unf f F = F
  | .is a k, h => unf_is_none (hk k h.2)
  | .does _ _ _, h => rfl
  | .same _ _, h => rfl
  | .neg F, h => by show Fm.neg _ = _; rw [unf_id (F := F) hk h]
  | .bin _ F G, h => by show Fm.bin _ _ _ = _; rw [unf_id (F := F) hk h.1, unf_id (F := G) hk h.2]
  | .qu _ _ F, h => by show Fm.qu _ _ _ = _; rw [unf_id (F := F) hk h.2]
theorem unf_congr {f g : Kn} {T K W : Str → Prop} (hk : ∀ k, K k → f k = g k) : ∀ {F : Fm}, F.ok T K W → unf f F = unf g F
  | .is a k, h => by unfold unf; rw [hk k h.2]
  | .does _ _ _, h => rfl
  | .same _ _, h => rfl
  | .neg F, h => by show Fm.neg _ = Fm.neg _; rw [unf_congr (F := F) hk h]
  | .bin _ F G, h => by show Fm.bin _ _ _ = Fm.bin _ _ _; rw [unf_congr (F := F) hk h.1, unf_congr (F := G) hk h.2]
  | .qu _ _ F, h => by show Fm.qu _ _ _ = Fm.qu _ _ _; rw [unf_congr (F := F) hk h.2]
/-- measures behind the unfolding -/
theorem unf_ht {f : Kn} {b : Nat} (hb : ∀ k y g, f k = some (y, g) → g.ht ≤ b) : ∀ F : Fm, (unf f F).ht ≤ F.ht + b
  | .is a k => by
    cases e : f k with
    | none => rw [unf_is_none e]; exact Nat.le_add_right _ _
    | some p => obtain ⟨y, g⟩ := p; rw [unf_is_some e, sub_ht]; exact Nat.le_trans (hb _ _ _ e) (Nat.le_add_left _ _)
  | .does _ _ _ => Nat.le_add_right _ _
  | .same _ _ => Nat.le_add_right _ _
  | .neg F => by have := unf_ht hb F; show (unf f F).ht + 1 ≤ F.ht + 1 + b; omega
  | .bin _ F G => by have := unf_ht hb F; have := unf_ht hb G; show max (unf f F).ht (unf f G).ht + 1 ≤ max F.ht G.ht + 1 + b; omega
  | .qu _ _ F => by have := unf_ht hb F; show (unf f F).ht + 1 ≤ F.ht + 1 + b; omega
theorem unf_sz {f : Kn} {b : Nat} (h1 : 1 ≤ b) (hb : ∀ k y g, f k = some (y, g) → g.sz ≤ b) : ∀ F : Fm, (unf f F).sz ≤ F.sz * b
  | .is a k => by
    cases e : f k with
    | none => rw [unf_is_none e]; show 1 ≤ 1 * b; omega
    | some p => obtain ⟨y, g⟩ := p; rw [unf_is_some e, sub_sz]; have := hb _ _ _ e; show g.sz ≤ 1 * b; omega
  | .does _ _ _ => by show 1 ≤ 1 * b; omega
  | .same _ _ => by show 1 ≤ 1 * b; omega
  | .neg F => by have := unf_sz h1 hb F; show (unf f F).sz + 1 ≤ (F.sz + 1) * b; rw [Nat.add_mul]; omega
  | .bin _ F G => by have := unf_sz h1 hb F; have := unf_sz h1 hb G; show (unf f F).sz + (unf f G).sz + 1 ≤ (F.sz + G.sz + 1) * b; rw [Nat.add_mul, Nat.add_mul]; omega
  | .qu _ _ F => by have := unf_sz h1 hb F; show (unf f F).sz + 1 ≤ (F.sz + 1) * b; rw [Nat.add_mul]; omega

/-! ### meanings -/
structure Mn where
  k : Str
  x : Str
  g : Fm
def Mn.d (m : Mn) : D := .tup [.str m.k, .str m.x, m.g.d]
def kstep (f : Kn) (m : Mn) : Kn := fun k => if k = m.k then some (m.x, unf f m.g) else f k
def knOf (M : List Mn) : Kn := M.foldl kstep fun _ => none
theorem knOf_nil : knOf [] = fun _ => none := rfl
theorem knOf_snoc {M : List Mn} {m : Mn} : knOf (M ++ [m]) = kstep (knOf M) m := by unfold knOf; rw [List.foldl_append]; rfl
theorem kstep_at {f : Kn} {m : Mn} : kstep f m m.k = some (m.x, unf f m.g) := if_pos rfl
theorem kstep_ne {f : Kn} {m : Mn} {k : Str} (h : k ≠ m.k) : kstep f m k = f k := if_neg h
def keys (M : List Mn) (k : Str) : Prop := ∃ m ∈ M, m.k = k
theorem knOf_none {M : List Mn} {k : Str} (h : ¬ keys M k) : knOf M k = none := by
  have gen : ∀ (M : List Mn) (f : Kn), (∀ m ∈ M, m.k ≠ k) → M.foldl kstep f k = f k := by
    intro M
    induction M with
    | nil => intro f _; rfl
    | cons m M ih =>
      intro f hm
      rw [List.foldl_cons, ih _ fun m' h' => hm m' (List.mem_cons_of_mem _ h'), kstep_ne fun e => hm m List.mem_cons_self e.symm]
  exact gen M _ fun m hm e => h ⟨m, hm, e⟩
/-- the letters and terms of a meaning: names, and letters with a mark below n -/
abbrev chLt (c : Nat) : Prop := 117 ≤ c ∧ c ≤ 122
abbrev chLow (c : Nat) : Prop := 97 ≤ c ∧ c ≤ 122
def nmS (s : Str) : Prop := ∃ c r, s.cps.toList = c :: r ∧ (65 ≤ c ∧ c ≤ 90) ∧ (∀ x ∈ r, chLow x) ∧ r.length ≤ 7
def ltS (s : Str) : Prop := ∃ c, chLt c ∧ s.cps.toList = [c]
def mkS (j : Nat) (s : Str) : Prop := ∃ c, chLt c ∧ s.cps.toList = [c, 48 + j]
def Tm (n : Nat) (s : Str) : Prop := nmS s ∨ ∃ j, j < n ∧ mkS j s
def Um (s : Str) : Prop := nmS s ∨ ltS s
def Wd (s : Str) : Prop := (∀ c ∈ s.cps.toList, chLow c) ∧ 1 ≤ s.cps.toList.length ∧ s.cps.toList.length ≤ 8
theorem mkS_notTm {n j : Nat} {x : Str} (h : mkS j x) (hn : n ≤ j) : ¬ Tm n x := by
  obtain ⟨c, hc, e⟩ := h
  rintro (⟨c', r, e', h1, _, _⟩ | ⟨i, hi, c', _, e'⟩)
  · rw [e] at e'; cases e'; unfold chLt at hc; omega
  · rw [e] at e'
    have := (List.cons.inj (List.cons.inj e').2).1
    omega
theorem ltS_notTm {n : Nat} {x : Str} (h : ltS x) : ¬ Tm n x := by
  obtain ⟨c, hc, e⟩ := h
  rintro (⟨c', r, e', h1, _, _⟩ | ⟨i, hi, c', _, e'⟩)
  · rw [e] at e'; cases e'; unfold chLt at hc; omega
  · rw [e] at e'; cases e'
theorem mkS_notWd {j : Nat} {x : Str} (h : mkS j x) (hj : j < 10) : ¬ Wd x := by
  obtain ⟨c, hc, e⟩ := h
  rintro ⟨h1, _, _⟩
  have := h1 (48 + j) (by rw [e]; simp)
  unfold chLow at this
  omega
theorem Tm.mono {n m : Nat} {s : Str} (h : Tm n s) (l : n ≤ m) : Tm m s := h.imp id fun ⟨j, a, b⟩ => ⟨j, by omega, b⟩
theorem rev_ind {α : Type} {P : List α → Prop} (h0 : P []) (h1 : ∀ N n, P N → P (N ++ [n])) (N : List α) : P N := by
  have gen : ∀ (n : Nat) (N : List α), N.length = n → P N := by
    intro n
    induction n with
    | zero => intro N e; cases List.length_eq_zero_iff.mp e; exact h0
    | succ n ih =>
      intro N e
      have hne : N ≠ [] := fun z => by rw [z] at e; cases e
      rw [← List.dropLast_concat_getLast hne]
      exact h1 _ _ (ih _ (by rw [List.length_dropLast]; omega))
  exact gen _ N rfl
/-- meanings as they are drawn: B the kinds that stand -/
inductive MOk (B W : Str → Prop) : List Mn → Prop
  | nil : MOk B W []
  | snoc {M : List Mn} {m : Mn} : MOk B W M → ¬ keys M m.k → ¬ B m.k → mkS M.length m.x → m.g.ok (Tm (M.length + 1)) (fun k => B k ∨ keys M k) W → MOk B W (M ++ [m])
theorem keys_snoc {M : List Mn} {m : Mn} {k : Str} : keys (M ++ [m]) k ↔ keys M k ∨ m.k = k := by
  unfold keys
  constructor
  · rintro ⟨a, h, e⟩
    rcases List.mem_append.mp h with h | h
    · exact .inl ⟨a, h, e⟩
    · cases List.mem_singleton.mp h; exact .inr e
  · rintro (⟨a, h, e⟩ | e)
    · exact ⟨a, List.mem_append_left _ h, e⟩
    · exact ⟨m, List.mem_append_right _ List.mem_cons_self, e⟩
section
variable {B W : Str → Prop}
theorem MOk.base {M : List Mn} (h : MOk B W M) {k : Str} (hk : B k) : ¬ keys M k := by
  induction h with
  | nil => rintro ⟨m, hm, _⟩; cases hm
  | snoc h1 h2 h3 _ _ ih =>
    intro z
    rcases keys_snoc.mp z with z | z
    · exact ih z
    · subst z; exact h3 hk
theorem MOk.none {M : List Mn} (h : MOk B W M) : ∀ k, B k → knOf M k = none := fun k hk => knOf_none (h.base hk)
theorem MOk.known {M : List Mn} (h : MOk B W M) : ∀ k, keys M k → ∃ x g, knOf M k = some (x, g) ∧ g.ok (Tm M.length) B W := by
  induction h with
  | nil => rintro k ⟨m, hm, _⟩; cases hm
  | @snoc M m h1 h2 h3 h4 h5 ih =>
    intro k hk
    rw [knOf_snoc, List.length_append]
    by_cases e : k = m.k
    · subst e
      refine ⟨m.x, _, kstep_at, unf_ok (K := fun k => B k ∨ keys M k) (fun k hk => ?_) h5⟩
      rcases hk with hk | hk
      · exact .inl ⟨h1.none k hk, hk⟩
      · obtain ⟨x, g, e, q⟩ := ih k hk
        exact .inr ⟨x, g, e, q.imp (fun s hs => hs.mono (by omega)) (fun _ z => z) fun _ z => z⟩
    · rcases keys_snoc.mp hk with hk | hk
      · obtain ⟨x, g, e', q⟩ := ih k hk
        exact ⟨x, g, (kstep_ne e).trans e', q.imp (fun s hs => hs.mono (by simp)) (fun _ z => z) fun _ z => z⟩
      · exact absurd hk.symm e
theorem MOk.dom {M : List Mn} (h : MOk B W M) {k x : Str} {g : Fm} (e : knOf M k = some (x, g)) : keys M k ∧ g.ok (Tm M.length) B W := by
  by_cases hk : keys M k
  · obtain ⟨y, g', e', q⟩ := h.known k hk
    rw [e] at e'; cases e'
    exact ⟨hk, q⟩
  · rw [knOf_none hk] at e; cases e
/-- kinds of a form over the meanings, unfolded -/
theorem MOk.unf {M : List Mn} (h : MOk B W M) {T : Str → Prop} (hT : ∀ s, Tm M.length s → T s) {F : Fm} (hF : F.ok T (fun k => B k ∨ keys M k) W) : (unf (knOf M) F).ok T B W :=
  unf_ok (fun k hk => by
    rcases hk with hk | hk
    · exact .inl ⟨h.none k hk, hk⟩
    · obtain ⟨x, g, e, q⟩ := h.known k hk
      exact .inr ⟨x, g, e, q.imp hT (fun _ z => z) fun _ z => z⟩) hF
theorem MOk.noc {M : List Mn} (h : MOk B W M) {x : Str} (hx : ¬ Tm M.length x) : KnNoc (knOf M) x := fun k y g e => by
  refine (h.dom e).2.imp (fun s hs z => ?_) (fun _ _ => trivial) fun _ _ => trivial
  subst z
  exact hx hs
theorem MOk.prefix {M N : List Mn} (h : MOk B W (M ++ N)) : MOk B W M := by
  induction N using rev_ind with
  | h0 => rwa [List.append_nil] at h
  | h1 N n ih =>
    rw [← List.append_assoc] at h
    generalize eL : M ++ N ++ [n] = L at h
    cases h with
    | nil => simp at eL
    | snoc h1 =>
      have := List.append_inj' eL rfl
      rw [← this.1] at h1
      exact ih h1
/-- a later meaning changes nothing of an earlier one -/
theorem knOf_app {M N : List Mn} (h : MOk B W (M ++ N)) : ∀ k, keys M k ∨ B k → knOf (M ++ N) k = knOf M k := by
  intro k hk
  induction N using rev_ind with
  | h0 => rw [List.append_nil]
  | h1 N n ih =>
    rw [← List.append_assoc] at h ⊢
    have h' : MOk B W (M ++ N) := h.prefix
    rw [knOf_snoc, ← ih h']
    refine kstep_ne ?_
    rintro rfl
    generalize eL : M ++ N ++ [n] = L at h
    cases h with
    | nil => simp at eL
    | snoc h1 h2 h3 =>
      have := List.append_inj' eL rfl
      obtain ⟨e1, e2⟩ := this
      cases e2
      rw [← e1] at h2
      rcases hk with ⟨m, hm, e⟩ | hk
      · exact h2 ⟨m, List.mem_append_left _ hm, e⟩
      · exact h3 hk
theorem MOk.at {M N : List Mn} {m : Mn} (h : MOk B W (M ++ m :: N)) : mkS M.length m.x ∧ ¬ keys M m.k ∧ m.g.ok (Tm (M.length + 1)) (fun k => B k ∨ keys M k) W ∧ knOf (M ++ m :: N) m.k = some (m.x, K72.unf (knOf (M ++ m :: N)) m.g) := by
  have e0 : M ++ m :: N = (M ++ [m]) ++ N := by simp
  rw [e0] at h ⊢
  have h' : MOk B W (M ++ [m]) := h.prefix
  have key : keys (M ++ [m]) m.k := ⟨m, by simp, rfl⟩
  have e1 := knOf_app h m.k (.inl key)
  have app := knOf_app h
  have app1 : ∀ k, keys M k ∨ B k → knOf (M ++ [m]) k = knOf M k := knOf_app h'
  generalize eL : M ++ [m] = L at h'
  cases h' with
  | nil => simp at eL
  | @snoc M' m' h1 h2 h3 h4 h5 =>
    obtain ⟨e2, e3⟩ := List.append_inj' eL rfl
    cases e3
    subst e2
    refine ⟨h4, h2, h5, ?_⟩
    rw [e1, knOf_snoc, kstep_at]
    congr 2
    refine unf_congr (fun k hk => ?_) h5
    have hk' := hk.symm
    rw [app k (hk'.imp (fun z => keys_snoc.mpr (.inl z)) id), app1 k hk']
end
/-- the meaning of a kind, looked for from the left -/
theorem keys_split {M : List Mn} {k : Str} (h : keys M k) : ∃ M1 m M2, M = M1 ++ m :: M2 ∧ m.k = k ∧ ¬ keys M1 k := by
  induction M with
  | nil => obtain ⟨m, hm, _⟩ := h; cases hm
  | cons a M ih =>
    by_cases e : a.k = k
    · exact ⟨[], a, M, rfl, e, fun ⟨m, hm, _⟩ => by cases hm⟩
    · obtain ⟨m, hm, e2⟩ := h
      rcases List.mem_cons.mp hm with rfl | hm
      · exact absurd e2 e
      · obtain ⟨M1, m', M2, e3, e4, e5⟩ := ih ⟨m, hm, e2⟩
        refine ⟨a :: M1, m', M2, by rw [e3]; rfl, e4, ?_⟩
        rintro ⟨z, hz, ez⟩
        rcases List.mem_cons.mp hz with rfl | hz
        · exact e ez
        · exact e5 ⟨z, hz, ez⟩
end K72

set_option Elab.async false
set_option maxRecDepth 100000
namespace K72
open PySem PySem.Spec PyProof.Rows L2 DL
def top (i : Nat) : Stmt := PySem.Challenge.pw_linecourt_k73_worlds_with_meanings.main.body.getD i (.Pass ⟨0, 0, 0, 0⟩)
structure Bt (mg : Str → Option Value) : Prop where
  len_ : mg "len" = none
  sum_ : mg "sum" = none
  list_ : mg "list" = none
  tuple_ : mg "tuple" = none
  range_ : mg "range" = none
  sorted_ : mg "sorted" = none
  max_ : mg "max" = none
  min_ : mg "min" = none
  int_ : mg "int" = none
  dict_ : mg "dict" = none
  isinstance_ : mg "isinstance" = none
  repr_ : mg "repr" = none
  all_ : mg "all" = none
  any_ : mg "any" = none
  bool_ : mg "bool" = none
local macro_rules | `(tactic| walk_at "dl") => `(tactic| try simp only [DL.tAsgD, DL.asg, DL.tVarD, DL.lk, DL.sto, DL.stos, DL.tOpD, DL.tCD, DL.tCallD, DL.tConsD, DL.tNilD, DL.tRetD, DL.endsD, DL.startD, DL.tIfSD, DL.tTestD, DL.tNextD, DL.tDropD, DL.tAndD, DL.tOrD, DL.tNotD, DL.tAndV, DL.tOrV, DL.tNotV, DL.tIfD, DL.tNegD, DL.tTupD, DL.tLstD, DL.tSetD, DL.tMD, DL.tSlD, DL.tPartD, DL.tNoD, DL.tRevD, DL.tForD, DL.tLcD, DL.tIterD, DL.tRng1D, DL.tRng2D, DL.tYesD, DL.wipeD, DL.tDictD, DL.tDictOne, DL.tFldD, DL.tMethD, DL.tMakeD, DL.tSetF, DL.tThaw, DL.thaw, DL.tLRg, DL.keyOf, DL.emE_rr, DL.tLess, DL.tLessS, DL.itOk, DL.rAdd_ii, DL.rAdd_ss, DL.rAdd_tt, DL.rAdd_rr, DL.rSub_ii, DL.rMod_ii, DL.rDiv_ii, DL.rPow_ii, DL.rMul_ii, DL.rMul_ri, DL.rLt_ii, DL.rLt_ss, DL.rLe_ii, DL.rGt_ii, DL.rGe_ii, DL.rEq_ii, DL.rEq_ss, DL.rEq_bb, DL.rNe_ii, DL.rNe_ss, DL.rNe_bb, DL.rEq_rr, DL.rNe_rr, DL.rEq_tt, DL.rNe_tt, DL.rIn_st, DL.rNotIn_st, DL.rIn_r, DL.rNotIn_r, DL.rIn_ss, DL.rInDO_sl, DL.rInDO_il, DL.rInDO_sd, DL.rInDO_id, DL.rIsN_n, DL.rIsN_t, DL.rIsN_i, DL.rIsN_s, DL.rIsN_r, DL.rNotN_n, DL.rNotN_t, DL.rNotN_i, DL.rNotN_s, DL.rNotN_r, DL.rIx_t, DL.rIx_r, DL.rIx_s, DL.rIxDO_l, DL.rIxDO_ds, DL.rIx0, DL.rIx1, DL.rIx2, DL.rIx3, DL.rSl_t, DL.rSl_s, DL.rSl_o, DL.rSl_r, DL.rSlDO, DL.rSet_r, DL.rSetDO_0, DL.rSetDO_s, DL.rLen_t, DL.rLen_o, DL.rLen_s, DL.rLen_r, DL.rLenDO, DL.rLenDO_d, DL.rList_t, DL.rList_o, DL.rList_r, DL.rListDO, DL.rTuple_t, DL.rTuple_r, DL.rInt_i, DL.rInt_b, DL.rMax, DL.rMin, DL.rSz0, DL.rSz1, DL.rSz2, DL.rSz3, DL.rSz4, DL.rSz5, DL.rSz6, DL.rSz7, DL.rSz8, Option.some.injEq, DL.DO.lst.injEq, exists_eq_left', exists_eq_left, DL.put_same, DL.put_put, true_and, and_true, List.map, List.replicate, List.length, List.cons_append, List.nil_append, Nat.reduceSub, Nat.reduceAdd, decide_eq_true_eq, if_true, if_false, Bool.false_eq_true, Bool.not_true, Bool.not_false])
local macro_rules | `(tactic| walk_at "dlh") => `(tactic| try simp only [*, DL.tAsgD, DL.asg, DL.tVarD, DL.lk, DL.sto, DL.stos, DL.tOpD, DL.tCD, DL.tCallD, DL.tConsD, DL.tNilD, DL.tRetD, DL.endsD, DL.startD, DL.tIfSD, DL.tTestD, DL.tNextD, DL.tDropD, DL.tAndD, DL.tOrD, DL.tNotD, DL.tAndV, DL.tOrV, DL.tNotV, DL.tIfD, DL.tNegD, DL.tTupD, DL.tLstD, DL.tSetD, DL.tMD, DL.tSlD, DL.tPartD, DL.tNoD, DL.tRevD, DL.tForD, DL.tLcD, DL.tIterD, DL.tRng1D, DL.tRng2D, DL.tYesD, DL.wipeD, DL.tDictD, DL.tDictOne, DL.tFldD, DL.tMethD, DL.tMakeD, DL.tSetF, DL.tThaw, DL.thaw, DL.tLRg, DL.keyOf, DL.emE_rr, DL.tLess, DL.tLessS, DL.itOk, DL.rAdd_ii, DL.rAdd_ss, DL.rAdd_tt, DL.rAdd_rr, DL.rSub_ii, DL.rMod_ii, DL.rDiv_ii, DL.rPow_ii, DL.rMul_ii, DL.rMul_ri, DL.rLt_ii, DL.rLt_ss, DL.rLe_ii, DL.rGt_ii, DL.rGe_ii, DL.rEq_ii, DL.rEq_ss, DL.rEq_bb, DL.rNe_ii, DL.rNe_ss, DL.rNe_bb, DL.rEq_rr, DL.rNe_rr, DL.rEq_tt, DL.rNe_tt, DL.rIn_st, DL.rNotIn_st, DL.rIn_r, DL.rNotIn_r, DL.rIn_ss, DL.rInDO_sl, DL.rInDO_il, DL.rInDO_sd, DL.rInDO_id, DL.rIsN_n, DL.rIsN_t, DL.rIsN_i, DL.rIsN_s, DL.rIsN_r, DL.rNotN_n, DL.rNotN_t, DL.rNotN_i, DL.rNotN_s, DL.rNotN_r, DL.rIx_t, DL.rIx_r, DL.rIx_s, DL.rIxDO_l, DL.rIxDO_ds, DL.rIx0, DL.rIx1, DL.rIx2, DL.rIx3, DL.rSl_t, DL.rSl_s, DL.rSl_o, DL.rSl_r, DL.rSlDO, DL.rSet_r, DL.rSetDO_0, DL.rSetDO_s, DL.rLen_t, DL.rLen_o, DL.rLen_s, DL.rLen_r, DL.rLenDO, DL.rLenDO_d, DL.rList_t, DL.rList_o, DL.rList_r, DL.rListDO, DL.rTuple_t, DL.rTuple_r, DL.rInt_i, DL.rInt_b, DL.rMax, DL.rMin, DL.rSz0, DL.rSz1, DL.rSz2, DL.rSz3, DL.rSz4, DL.rSz5, DL.rSz6, DL.rSz7, DL.rSz8, Option.some.injEq, DL.DO.lst.injEq, exists_eq_left', exists_eq_left, DL.put_same, DL.put_put, true_and, and_true, List.map, List.replicate, List.length, List.cons_append, List.nil_append, Nat.reduceSub, Nat.reduceAdd, decide_eq_true_eq, if_true, if_false, Bool.false_eq_true, Bool.not_true, Bool.not_false])
local macro_rules | `(tactic| walk_at "go") => `(tactic| repeat (first | (refine DL.sq ?_; try walk_at "dl") | (refine DL.ifY rfl ?_; try walk_at "dl") | (refine DL.inY rfl (by decide) ?_; try walk_at "dl") | (refine DL.inN rfl (by decide) ?_; try walk_at "dl") | (refine DL.ifN (by decide) ?_; try walk_at "dl")))
abbrev s_l_mixed : Stmt := top 13
theorem sc_l_mixed : FnScope ["_law_cell", "_law_k", "_law_number"] ["_law_cell", "_law_k"] (defScope s_l_mixed) := ⟨rfl, rfl, rfl, by decide +kernel, rfl, by decide +kernel, by decide +kernel⟩
def spMixed : SpD := fun ds S Q => ∃ c k : Int, ds = [.int c, .int k] ∧ ∀ r : Int, 0 ≤ r → Q (.int r) S
abbrev s_l_draw : Stmt := top 15
theorem sc_l_draw : FnScope ["_law_deck_here", "_law_most", "_law_cell"] ["_law_deck_here", "_law_most"] (defScope s_l_draw) := ⟨rfl, rfl, rfl, by decide +kernel, rfl, by decide +kernel, by decide +kernel⟩
abbrev dkO (ns : List Int) : DO := .lst (ns.map D.int)
abbrev okd (ns : List Int) : Prop := 2 ≤ ns.length ∧ ns.length ≤ 100
def spDraw : SpD := fun ds S Q => ∃ (a : Addr) (ns : List Int) (m : Int), ds = [.ref a, .int m] ∧ S a = some (dkO ns) ∧ okd ns ∧ 0 < m ∧ m < 1073741824 ∧
  ∀ (r : Int) (ns' : List Int), 0 ≤ r → r < m → okd ns' → Q (.int r) (put S a (dkO ns'))
theorem small100 {n : Nat} (h : n ≤ 100) : n < sizeLine := Nat.lt_of_le_of_lt h (by decide)
section
variable {P : Program} {w : World} {K : PySem.W.Frag} {mg : Str → Option Value} {base : Heap}
theorem df_mixed {k : Nat} (A : At K mg "_law_mixed" "_law_mixed" s_l_mixed) : Df P w K mg base "_law_mixed" (k + 1) spMixed := by
  have nd := sc_l_mixed.nd
  refine df_mk A rfl sc_l_mixed (fun _ _ _ _ _ _ us hl => match us, hl with | [_, _], _ => rfl) (fun ds S Q h => ?_) (fun f cdv A outer s H E hr ds S Q h => ?_)
  · obtain ⟨c, k, rfl, _⟩ := h
    rfl
  obtain ⟨c, k, rfl, h⟩ := h
  refine ⟨_, (dss_cons (ds_set (i := 2) nd rfl (Or.inl rfl) (de_op od_mod (de_op od_add (de_op od_add (de_op od_mul (de_op od_mod (dv 0) de_int) de_int) (de_op od_mul (dv 1) de_int)) de_int) de_int))
    (dss_cons (ds_set (i := 2) nd rfl (Or.inl rfl) (de_op od_mod (de_op od_add (de_op od_add (de_op od_mul (dv 2) (dv 2)) (de_op od_mul de_int (dv 2))) (dv 1)) de_int))
    (dss_one (ds_ret (de_op od_mod (de_op od_mul (de_op od_add (de_op od_mul (de_op od_mod (dv 2) de_int) de_int) (de_op od_div (dv 2) de_int)) de_int) de_int))))), ?_⟩
  refine sq ?_
  walk_at "dl"
  refine ⟨by decide, .inr (by decide), .inr (by decide), by decide, sq ?_⟩
  walk_at "dl"
  generalize e1 : (c % 2147483647 * 48271 + k * 69621 + 7919) % 2147483629 = n1
  have h1 : 0 ≤ n1 ∧ n1 < 2147483629 := by omega
  generalize e2 : (n1 * n1 + 16807 * n1 + k) % 2147483587 = n2
  refine ⟨.inl (by omega), .inl (by decide), by decide, by decide, .inr (by decide), by decide, .inr (by decide), by decide, S, Sub.refl, h _ (by omega)⟩
theorem df_draw {k : Nat} (T : Bt mg) (A : At K mg "_law_draw" "_law_draw" s_l_draw) (G_l_mixed : Df P w K mg base "_law_mixed" k spMixed) : Df P w K mg base "_law_draw" (k + 1) spDraw := by
  have nd := sc_l_draw.nd
  refine df_mk A rfl sc_l_draw (fun _ _ _ _ _ _ us hl => match us, hl with | [_, _], _ => rfl) (fun ds S Q h => ?_) (fun f cdv A outer s H E hr ds S Q h => ?_)
  · obtain ⟨a, ns, m, rfl, _⟩ := h
    rfl
  obtain ⟨a, ns, m, rfl, ha, ⟨l1, l2⟩, m0, m1, h⟩ := h
  have hu := hu_of hr
  refine ⟨_, (dss_cons (ds_setitem hu (dv 0) de_int (de_op od_add (de_ix hu (dv 0) de_int) de_int))
    (dss_cons (ds_if (dt_cmp od_lt (de_callB cd_len rfl T.len_ (by decide +kernel) (da_cons (dv 0) da_nil)) de_int (nomark _)) (dss_one (ds_ret (de_op od_mod (de_call G_l_mixed hr rfl (da_cons (de_ix hu (dv 0) de_int) (da_cons (de_ix hu (dv 0) de_int) da_nil))) (dv 1)))) dss_nil)
    (dss_cons (ds_set (i := 2) nd rfl (Or.inl rfl) (de_m0 PySem.F.plainAttrs_list PySem.F.slot_list_pop PySem.F.type_list_pop md_pop (dv 0)))
    (dss_cons (ds_if (dt_cmp od_lt (dv 2) (de_op od_pow de_int de_int) (nomark _)) (dss_one (ds_ret (de_op od_mod (de_call G_l_mixed hr rfl (da_cons (dv 2) (da_cons (de_ix hu (dv 0) de_int) da_nil))) (dv 1)))) dss_nil)
    (dss_cons (ds_expr (de_m PySem.F.plainAttrs_list PySem.F.slot_list_append PySem.F.type_list_append md_append (dv 0) (da_cons (de_op od_div (dv 2) (dv 1)) da_nil)))
    (dss_one (ds_ret (de_op od_mod (dv 2) (dv 1))))))))), ?_⟩
  rcases ns with _ | ⟨n0, _ | ⟨n1, nr⟩⟩
  · simp at l1
  · simp at l1
  replace ha : S a = some (.lst (.int n0 :: .int n1 :: nr.map D.int)) := ha
  refine sq ?_
  walk_at "dlh"
  refine sq ?_
  walk_at "dl"
  refine ite2 (fun c => ?_) (fun c => ?_)
  · refine ⟨_, _, rfl, fun r r0 => ?_⟩
    walk_at "dl"
    refine ⟨m0, _, Sub.refl, ?_⟩
    exact h (r % m) ((n0 + 1) :: n1 :: nr) (Int.emod_nonneg _ (by omega)) (Int.emod_lt_of_pos _ m0) ⟨l1, l2⟩
  · refine sq ?_
    walk_at "dl"
    have e : nr ≠ [] := by
      rintro rfl
      simp at c
    obtain ⟨mr, z, rfl⟩ : ∃ mr z, nr = mr ++ [z] := ⟨nr.dropLast, nr.getLast e, (List.dropLast_concat_getLast e).symm⟩
    rw [List.map_append]
    have lm : mr.length + 3 ≤ 100 := by simpa using l2
    refine ⟨ty_list put_same, pop_of (xs := .int (n0 + 1) :: .int n1 :: mr.map D.int) put_same ?_⟩
    refine sq ?_
    walk_at "dl"
    refine ⟨⟨by decide, by decide, by decide⟩, ite2 (fun c2 => ?_) (fun c2 => ?_)⟩
    · refine ⟨_, _, rfl, fun r r0 => ?_⟩
      walk_at "dl"
      refine ⟨m0, _, Sub.refl, ?_⟩
      exact h (r % m) ((n0 + 1) :: n1 :: mr) (Int.emod_nonneg _ (by omega)) (Int.emod_lt_of_pos _ m0) ⟨by simp, by simp; omega⟩
    · refine sq ?_
      walk_at "dl"
      refine ⟨ty_list put_same, ⟨m0, m1⟩, append_of put_same (by simp; exact small100 (by omega)) ?_⟩
      walk_at "dl"
      refine ⟨m0, _, Sub.refl, ?_⟩
      have q := h (z % m) ((n0 + 1) :: n1 :: (mr ++ [z / m])) (Int.emod_nonneg _ (by omega)) (Int.emod_lt_of_pos _ m0) ⟨by simp, by simp; omega⟩
      simpa [dkO] using q
end
end K72

set_option Elab.async false
set_option maxRecDepth 100000
set_option linter.unusedVariables false
namespace K72
open PySem PySem.Spec PyProof.Rows L2 DL
local macro_rules | `(tactic| walk_at "dl") => `(tactic| try simp only [DL.tAsgD, DL.asg, DL.tVarD, DL.lk, DL.sto, DL.stos, DL.tOpD, DL.tCD, DL.tCallD, DL.tConsD, DL.tNilD, DL.tRetD, DL.endsD, DL.startD, DL.tIfSD, DL.tTestD, DL.tNextD, DL.tDropD, DL.tAndD, DL.tOrD, DL.tNotD, DL.tAndV, DL.tOrV, DL.tNotV, DL.tIfD, DL.tNegD, DL.tTupD, DL.tLstD, DL.tSetD, DL.tMD, DL.tSlD, DL.tPartD, DL.tNoD, DL.tRevD, DL.tForD, DL.tLcD, DL.tIterD, DL.tRng1D, DL.tRng2D, DL.tYesD, DL.wipeD, DL.tDictD, DL.tDictOne, DL.tFldD, DL.tMethD, DL.tMakeD, DL.tSetF, DL.tThaw, DL.thaw, DL.tLRg, DL.keyOf, DL.emE_rr, DL.tLess, DL.tLessS, DL.itOk, DL.rAdd_ii, DL.rAdd_ss, DL.rAdd_tt, DL.rAdd_rr, DL.rSub_ii, DL.rMod_ii, DL.rDiv_ii, DL.rPow_ii, DL.rMul_ii, DL.rMul_ri, DL.rLt_ii, DL.rLt_ss, DL.rLe_ii, DL.rGt_ii, DL.rGe_ii, DL.rEq_ii, DL.rEq_ss, DL.rEq_bb, DL.rNe_ii, DL.rNe_ss, DL.rNe_bb, DL.rEq_rr, DL.rNe_rr, DL.rEq_tt, DL.rNe_tt, DL.rIn_st, DL.rNotIn_st, DL.rIn_r, DL.rNotIn_r, DL.rIn_ss, DL.rInDO_sl, DL.rInDO_il, DL.rInDO_sd, DL.rInDO_id, DL.rIsN_n, DL.rIsN_t, DL.rIsN_i, DL.rIsN_s, DL.rIsN_r, DL.rNotN_n, DL.rNotN_t, DL.rNotN_i, DL.rNotN_s, DL.rNotN_r, DL.rIx_t, DL.rIx_r, DL.rIx_s, DL.rIxDO_l, DL.rIxDO_ds, DL.rIx0, DL.rIx1, DL.rIx2, DL.rIx3, DL.rSl_t, DL.rSl_s, DL.rSl_o, DL.rSl_r, DL.rSlDO, DL.rSet_r, DL.rSetDO_0, DL.rSetDO_s, DL.rLen_t, DL.rLen_o, DL.rLen_s, DL.rLen_r, DL.rLenDO, DL.rLenDO_d, DL.rList_t, DL.rList_o, DL.rList_r, DL.rListDO, DL.rTuple_t, DL.rTuple_r, DL.rInt_i, DL.rInt_b, DL.rMax, DL.rMin, DL.rSz0, DL.rSz1, DL.rSz2, DL.rSz3, DL.rSz4, DL.rSz5, DL.rSz6, DL.rSz7, DL.rSz8, Option.some.injEq, DL.DO.lst.injEq, exists_eq_left', exists_eq_left, DL.put_same, DL.put_put, true_and, and_true, List.map, List.replicate, List.length, List.cons_append, List.nil_append, Nat.reduceSub, Nat.reduceAdd, decide_eq_true_eq, if_true, if_false, Bool.false_eq_true, Bool.not_true, Bool.not_false])
local macro_rules | `(tactic| walk_at "dlh") => `(tactic| try simp only [*, DL.tAsgD, DL.asg, DL.tVarD, DL.lk, DL.sto, DL.stos, DL.tOpD, DL.tCD, DL.tCallD, DL.tConsD, DL.tNilD, DL.tRetD, DL.endsD, DL.startD, DL.tIfSD, DL.tTestD, DL.tNextD, DL.tDropD, DL.tAndD, DL.tOrD, DL.tNotD, DL.tAndV, DL.tOrV, DL.tNotV, DL.tIfD, DL.tNegD, DL.tTupD, DL.tLstD, DL.tSetD, DL.tMD, DL.tSlD, DL.tPartD, DL.tNoD, DL.tRevD, DL.tForD, DL.tLcD, DL.tIterD, DL.tRng1D, DL.tRng2D, DL.tYesD, DL.wipeD, DL.tDictD, DL.tDictOne, DL.tFldD, DL.tMethD, DL.tMakeD, DL.tSetF, DL.tThaw, DL.thaw, DL.tLRg, DL.keyOf, DL.emE_rr, DL.tLess, DL.tLessS, DL.itOk, DL.rAdd_ii, DL.rAdd_ss, DL.rAdd_tt, DL.rAdd_rr, DL.rSub_ii, DL.rMod_ii, DL.rDiv_ii, DL.rPow_ii, DL.rMul_ii, DL.rMul_ri, DL.rLt_ii, DL.rLt_ss, DL.rLe_ii, DL.rGt_ii, DL.rGe_ii, DL.rEq_ii, DL.rEq_ss, DL.rEq_bb, DL.rNe_ii, DL.rNe_ss, DL.rNe_bb, DL.rEq_rr, DL.rNe_rr, DL.rEq_tt, DL.rNe_tt, DL.rIn_st, DL.rNotIn_st, DL.rIn_r, DL.rNotIn_r, DL.rIn_ss, DL.rInDO_sl, DL.rInDO_il, DL.rInDO_sd, DL.rInDO_id, DL.rIsN_n, DL.rIsN_t, DL.rIsN_i, DL.rIsN_s, DL.rIsN_r, DL.rNotN_n, DL.rNotN_t, DL.rNotN_i, DL.rNotN_s, DL.rNotN_r, DL.rIx_t, DL.rIx_r, DL.rIx_s, DL.rIxDO_l, DL.rIxDO_ds, DL.rIx0, DL.rIx1, DL.rIx2, DL.rIx3, DL.rSl_t, DL.rSl_s, DL.rSl_o, DL.rSl_r, DL.rSlDO, DL.rSet_r, DL.rSetDO_0, DL.rSetDO_s, DL.rLen_t, DL.rLen_o, DL.rLen_s, DL.rLen_r, DL.rLenDO, DL.rLenDO_d, DL.rList_t, DL.rList_o, DL.rList_r, DL.rListDO, DL.rTuple_t, DL.rTuple_r, DL.rInt_i, DL.rInt_b, DL.rMax, DL.rMin, DL.rSz0, DL.rSz1, DL.rSz2, DL.rSz3, DL.rSz4, DL.rSz5, DL.rSz6, DL.rSz7, DL.rSz8, Option.some.injEq, DL.DO.lst.injEq, exists_eq_left', exists_eq_left, DL.put_same, DL.put_put, true_and, and_true, List.map, List.replicate, List.length, List.cons_append, List.nil_append, Nat.reduceSub, Nat.reduceAdd, decide_eq_true_eq, if_true, if_false, Bool.false_eq_true, Bool.not_true, Bool.not_false])
local macro_rules | `(tactic| walk_at "go") => `(tactic| repeat (first | (refine DL.sq ?_; try walk_at "dl") | (refine DL.ifY rfl ?_; try walk_at "dl") | (refine DL.inY rfl (by decide) ?_; try walk_at "dl") | (refine DL.inN rfl (by decide) ?_; try walk_at "dl") | (refine DL.ifN (by decide) ?_; try walk_at "dl")))
abbrev s_put_term : Stmt := top 6
theorem sc_put_term : FnScope ["form", "x", "term", "word", "part"] ["form", "x", "term"] (defScope s_put_term) := ⟨rfl, rfl, rfl, by decide +kernel, rfl, by decide +kernel, by decide +kernel⟩
def spPut (n : Nat) : SpD := fun ds S Q => ∃ (F : Fm) (x t : Str), ds = [F.d, .str x, .str t] ∧ F.ht ≤ n ∧ F.ok (fun _ => True) (fun _ => True) (fun d => d ≠ x) ∧ x ≠ "does" ∧ x ≠ "same" ∧ Q (sub x t F).d S
abbrev cJoined : D := .tup [.str "not", .str "and", .str "or", .str "if"]
abbrev cBound : D := .tup [.str "every", .str "some"]
section
variable {P : Program} {w : World} {K : PySem.W.Frag} {mg : Str → Option Value} {base : Heap}
theorem df_putM (T : Bt mg) (A : At K mg "put_term" "put_term" s_put_term) (c_JOINED : Cst K mg "JOINED" cJoined) (c_BOUND : Cst K mg "BOUND" cBound) (n : Nat) : Df P w K mg base "put_term" (n + 1) (spPut n) := by
  have nd := sc_put_term.nd
  induction n with
  | zero =>
    refine df_mk A rfl sc_put_term (fun _ _ _ _ _ _ us hl => match us, hl with | [_, _, _], _ => rfl) (fun ds S Q h => ?_) (fun f cdv A outer s H E hr ds S Q h => ?_)
    · obtain ⟨F, x, t, rfl, _⟩ := h
      rfl
    · obtain ⟨F, x, t, rfl, h, _⟩ := h
      have := F.ht_pos
      omega
  | succ n G_put_term =>
  refine df_mk A rfl sc_put_term (fun _ _ _ _ _ _ us hl => match us, hl with | [_, _, _], _ => rfl) (fun ds S Q h => ?_) (fun f cdv A outer s H E hr ds S Q h => ?_)
  · obtain ⟨F, x, t, rfl, _⟩ := h
    rfl
  obtain ⟨F, x, t, rfl, hn, hok, x1, x2, h⟩ := h
  have hu := hu_of hr
  refine ⟨_, (dss_cons (ds_set (i := 3) nd rfl (Or.inl rfl) (de_ix hu (dv 0) de_int))
    (dss_cons (ds_if (dt_cmp (od_in hu) (dv 3) (de_cst rfl c_JOINED) rfl) (dss_one (ds_ret (de_op od_add (de_tup (da_cons (dv 3) da_nil)) (de_callTy cd_tuple rfl T.tuple_ (by decide +kernel) (da_cons (de_lc (own := [("part", 4)]) (g := GD.one 4) rfl nd (di_any (de_slice (dv 0) (do_some de_int) do_none)) (blkOk_by (own := [("part", 4)]) (N := ["form", "x", "term", "word", "part"]) (sc := defScope s_put_term) (by decide +kernel)) (fun _ _ _ _ _ => (dg_name (i := 4) nd rfl (Or.inl rfl))) (fun _ _ _ _ _ => dts_nil) (fun _ _ _ _ _ => (de_call G_put_term hr rfl (da_cons (dv 4) (da_cons (dv 1) (da_cons (dv 2) da_nil)))))) da_nil))))) dss_nil)
    (dss_cons (ds_if (dt_cmp (od_in hu) (dv 3) (de_cst rfl c_BOUND) rfl) (dss_cons (ds_if (dt_cmp (od_eq hr.units) (de_ix hu (dv 0) de_int) (dv 1) (nomark _)) (dss_one (ds_ret (dv 0))) dss_nil)
    (dss_one (ds_ret (de_tup (da_cons (dv 3) (da_cons (de_ix hu (dv 0) de_int) (da_cons (de_call G_put_term hr rfl (da_cons (de_ix hu (dv 0) de_int) (da_cons (dv 1) (da_cons (dv 2) da_nil)))) da_nil))))))) dss_nil)
    (dss_cons (ds_if (dt_cmp (od_eq hr.units) (dv 3) de_str (nomark _)) (dss_one (ds_ret (de_tup (da_cons de_str (da_cons (de_if (dt_cmp (od_eq hr.units) (de_ix hu (dv 0) de_int) (dv 1) (nomark _)) (dv 2) (de_ix hu (dv 0) de_int)) (da_cons (de_ix hu (dv 0) de_int) da_nil)))))) dss_nil)
    (dss_cons (ds_if (dt_w (dw_or (dt_cmp (od_eq hr.units) (dv 3) de_str (nomark _)) (dw_or1 (dt_cmp (od_eq hr.units) (dv 3) de_str (nomark _))))) (dss_one (ds_ret (de_callTy cd_tuple rfl T.tuple_ (by decide +kernel) (da_cons (de_lc (own := [("part", 4)]) (g := GD.one 4) rfl nd (di_any (dv 0)) (blkOk_by (own := [("part", 4)]) (N := ["form", "x", "term", "word", "part"]) (sc := defScope s_put_term) (by decide +kernel)) (fun _ _ _ _ _ => (dg_name (i := 4) nd rfl (Or.inl rfl))) (fun _ _ _ _ _ => dts_nil) (fun _ _ _ _ _ => (de_if (dt_cmp (od_eq hr.units) (dv 4) (dv 1) (nomark _)) (dv 2) (dv 4)))) da_nil)))) dss_nil)
    (dss_one (ds_ret (dv 0)))))))), ?_⟩
  cases F with
  | is a k =>
    simp only [Fm.d]
    walk_at "go"
    unfold sub sb at h
    refine ite2 (fun c => ?_) (fun c => ?_)
    · walk_at "dl"
      rw [if_pos c] at h
      exact ⟨_, Sub.refl, h⟩
    · walk_at "dl"
      rw [if_neg c] at h
      exact ⟨_, Sub.refl, h⟩
  | does d a b =>
    simp only [Fm.d]
    walk_at "go"
    intro p np
    have hd : d ≠ x := hok.1
    refine lcB_zip [.str "does", .str d, .str a, .str b] [.str "does", .str d, .str (sb x t a), .str (sb x t b)] rfl (fun i acc => rfl) (szOk (by simp)) (fun i z r acc Y N e1 e2 y => ?_) ?_
    · walk_at "dl"
      rcases i with _ | _ | _ | _ | i
      · cases e1; cases e2
        walk_at "dl"
        refine ifN (fun z => x1 z.symm) ?_
        exact y
      · cases e1; cases e2
        walk_at "dl"
        refine ifN hd ?_
        exact y
      · cases e1; cases e2
        walk_at "dl"
        unfold sb at y
        refine ite2 (fun c => ?_) (fun c => ?_)
        · rw [if_pos c] at y; exact y
        · rw [if_neg c] at y; exact y
      · cases e1; cases e2
        walk_at "dl"
        unfold sb at y
        refine ite2 (fun c => ?_) (fun c => ?_)
        · rw [if_pos c] at y; exact y
        · rw [if_neg c] at y; exact y
      · simp at e1
    · walk_at "dl"
      exact ⟨S, Sub.new np, h⟩
  | same a b =>
    simp only [Fm.d]
    walk_at "go"
    intro p np
    refine lcB_zip [.str "same", .str a, .str b] [.str "same", .str (sb x t a), .str (sb x t b)] rfl (fun i acc => rfl) (szOk (by simp)) (fun i z r acc Y N e1 e2 y => ?_) ?_
    · walk_at "dl"
      rcases i with _ | _ | _ | i
      · cases e1; cases e2
        walk_at "dl"
        refine ifN (fun z => x2 z.symm) ?_
        exact y
      · cases e1; cases e2
        walk_at "dl"
        unfold sb at y
        refine ite2 (fun c => ?_) (fun c => ?_)
        · rw [if_pos c] at y; exact y
        · rw [if_neg c] at y; exact y
      · cases e1; cases e2
        walk_at "dl"
        unfold sb at y
        refine ite2 (fun c => ?_) (fun c => ?_)
        · rw [if_pos c] at y; exact y
        · rw [if_neg c] at y; exact y
      · simp at e1
    · walk_at "dl"
      exact ⟨S, Sub.new np, h⟩
  | neg F =>
    simp only [Fm.d]
    walk_at "go"
    intro p np
    refine lcB_zip [F.d] [(sub x t F).d] rfl (fun i acc => rfl) (szOk (by simp)) (fun i z r acc Y N e1 e2 y => ?_) ?_
    · rcases i with _ | i
      · cases e1; cases e2
        walk_at "dl"
        exact ⟨F, x, t, rfl, by simpa [Fm.ht] using hn, hok, x1, x2, y⟩
      · simp at e2
    · walk_at "dl"
      exact ⟨S, Sub.new np, h⟩
  | bin w F G =>
    have hn' : F.ht ≤ n ∧ G.ht ≤ n := by simp only [Fm.ht] at hn; omega
    have ew : w.s ∈ [("not" : Str), "and", "or", "if"] := by cases w <;> decide
    simp only [Fm.d]
    walk_at "go"
    refine inY rfl ew ?_
    walk_at "dl"
    intro p np
    refine lcB_zip [F.d, G.d] [(sub x t F).d, (sub x t G).d] rfl (fun i acc => rfl) (szOk (by simp)) (fun i z r acc Y N e1 e2 y => ?_) ?_
    · rcases i with _ | _ | i
      · cases e1; cases e2
        walk_at "dl"
        exact ⟨F, x, t, rfl, hn'.1, hok.1, x1, x2, y⟩
      · cases e1; cases e2
        walk_at "dl"
        exact ⟨G, x, t, rfl, hn'.2, hok.2, x1, x2, y⟩
      · simp at e2
    · walk_at "dl"
      exact ⟨S, Sub.new np, h⟩
  | qu w y F =>
    have hn' : F.ht ≤ n := by simp only [Fm.ht] at hn; omega
    have ew : w.s ∉ [("not" : Str), "and", "or", "if"] := by cases w <;> decide
    have ew2 : w.s ∈ [("every" : Str), "some"] := by cases w <;> decide
    simp only [Fm.d]
    walk_at "go"
    refine inN rfl ew (sq ?_)
    walk_at "dl"
    refine inY rfl ew2 (sq ?_)
    walk_at "dl"
    unfold sub at h
    refine ite2 (fun c => ?_) (fun c => ?_)
    · rw [if_pos c] at h
      exact ⟨_, Sub.refl, h⟩
    · rw [if_neg c] at h
      walk_at "dl"
      exact ⟨F, x, t, rfl, hn', hok.2, x1, x2, by walk_at "dl"; exact ⟨_, Sub.refl, h⟩⟩
end
end K72

set_option Elab.async false
set_option maxRecDepth 100000
set_option linter.unusedVariables false
namespace DL
open PySem PySem.Spec PyProof.Rows L2
theorem dval_nil {k : Key} : dval [] k = none := rfl
theorem dval_cons {p : Key × D} {r : List (Key × D)} {k : Key} : dval (p :: r) k = if p.1 = k then some p.2 else dval r k := by
  unfold dval
  rw [List.find?_cons]
  by_cases h : p.1 = k
  · rw [if_pos h, decide_eq_true h]; rfl
  · rw [if_neg h, decide_eq_false h]
theorem dval_upd {k k' : Key} {v : D} : ∀ (kvs : List (Key × D)), dval (kvs.map fun kv => if kv.1 = k then (kv.1, v) else kv) k' = if k' = k then (if (kvs.any fun kv => decide (kv.1 = k)) = true then some v else none) else dval kvs k'
  | [] => by
    show none = _
    split
    · rfl
    · rfl
  | p :: r => by
    rw [List.map_cons, dval_cons, dval_upd r, dval_cons, List.any_cons]
    by_cases h : p.1 = k
    · rw [if_pos h]
      by_cases h2 : k' = k
      · subst h2; simp [h]
      · have h3 : ¬ p.1 = k' := fun z => h2 (z.symm.trans h)
        simp [h2, h3]
    · rw [if_neg h]
      by_cases h2 : k' = k
      · subst h2; rw [decide_eq_false h, Bool.false_or]; simp; exact fun z => absurd z h
      · simp [h2]
theorem dval_snoc {k k' : Key} {v : D} : ∀ (kvs : List (Key × D)), (kvs.any fun kv => decide (kv.1 = k)) = false → dval (kvs ++ [(k, v)]) k' = if k' = k then some v else dval kvs k'
  | [], _ => by
    show dval [(k, v)] k' = _
    rw [dval_cons]
    by_cases h : k = k'
    · subst h; simp
    · have h2 : ¬ k' = k := fun z => h z.symm
      simp [h, h2]
  | p :: r, h => by
    rw [List.any_cons, Bool.or_eq_false_iff] at h
    rw [List.cons_append, dval_cons, dval_snoc r h.2, dval_cons]
    have h1 : ¬ p.1 = k := of_decide_eq_false h.1
    by_cases h2 : k' = k
    · subst h2; simp [h1]
    · simp [h2]
theorem dval_dput {kvs : List (Key × D)} {k k' : Key} {v : D} : dval (dput kvs k v) k' = if k' = k then some v else dval kvs k' := by
  unfold dput
  cases h : kvs.any fun kv => decide (kv.1 = k) with
  | true => rw [if_pos rfl, dval_upd, h]; rfl
  | false => rw [if_neg (by simp), dval_snoc kvs h]
theorem length_dput {kvs : List (Key × D)} {k : Key} {v : D} : (dput kvs k v).length ≤ kvs.length + 1 := by
  unfold dput
  split
  · rw [List.length_map]; omega
  · rw [List.length_append]; exact Nat.le_refl _
end DL
namespace K72
open PySem PySem.Spec PyProof.Rows L2 DL
local macro_rules | `(tactic| walk_at "dl") => `(tactic| try simp only [DL.tAsgD, DL.asg, DL.tVarD, DL.lk, DL.sto, DL.stos, DL.tOpD, DL.tCD, DL.tCallD, DL.tConsD, DL.tNilD, DL.tRetD, DL.endsD, DL.startD, DL.tIfSD, DL.tTestD, DL.tNextD, DL.tDropD, DL.tAndD, DL.tOrD, DL.tNotD, DL.tAndV, DL.tOrV, DL.tNotV, DL.tIfD, DL.tNegD, DL.tTupD, DL.tLstD, DL.tSetD, DL.tMD, DL.tSlD, DL.tPartD, DL.tNoD, DL.tRevD, DL.tForD, DL.tLcD, DL.tIterD, DL.tRng1D, DL.tRng2D, DL.tYesD, DL.wipeD, DL.tDictD, DL.tDictOne, DL.tFldD, DL.tMethD, DL.tMakeD, DL.tSetF, DL.tThaw, DL.thaw, DL.tLRg, DL.keyOf, DL.emE_rr, DL.tLess, DL.tLessS, DL.itOk, DL.rAdd_ii, DL.rAdd_ss, DL.rAdd_tt, DL.rAdd_rr, DL.rSub_ii, DL.rMod_ii, DL.rDiv_ii, DL.rPow_ii, DL.rMul_ii, DL.rMul_ri, DL.rLt_ii, DL.rLt_ss, DL.rLe_ii, DL.rGt_ii, DL.rGe_ii, DL.rEq_ii, DL.rEq_ss, DL.rEq_bb, DL.rNe_ii, DL.rNe_ss, DL.rNe_bb, DL.rEq_rr, DL.rNe_rr, DL.rEq_tt, DL.rNe_tt, DL.rIn_st, DL.rNotIn_st, DL.rIn_r, DL.rNotIn_r, DL.rIn_ss, DL.rInDO_sl, DL.rInDO_il, DL.rInDO_sd, DL.rInDO_id, DL.rIsN_n, DL.rIsN_t, DL.rIsN_i, DL.rIsN_s, DL.rIsN_r, DL.rNotN_n, DL.rNotN_t, DL.rNotN_i, DL.rNotN_s, DL.rNotN_r, DL.rIx_t, DL.rIx_r, DL.rIx_s, DL.rIxDO_l, DL.rIxDO_ds, DL.rIx0, DL.rIx1, DL.rIx2, DL.rIx3, DL.rSl_t, DL.rSl_s, DL.rSl_o, DL.rSl_r, DL.rSlDO, DL.rSet_r, DL.rSetDO_0, DL.rSetDO_s, DL.rLen_t, DL.rLen_o, DL.rLen_s, DL.rLen_r, DL.rLenDO, DL.rLenDO_d, DL.rList_t, DL.rList_o, DL.rList_r, DL.rListDO, DL.rTuple_t, DL.rTuple_r, DL.rInt_i, DL.rInt_b, DL.rMax, DL.rMin, DL.rSz0, DL.rSz1, DL.rSz2, DL.rSz3, DL.rSz4, DL.rSz5, DL.rSz6, DL.rSz7, DL.rSz8, Option.some.injEq, DL.DO.lst.injEq, exists_eq_left', exists_eq_left, DL.put_same, DL.put_put, true_and, and_true, List.map, List.replicate, List.length, List.cons_append, List.nil_append, Nat.reduceSub, Nat.reduceAdd, decide_eq_true_eq, if_true, if_false, Bool.false_eq_true, Bool.not_true, Bool.not_false])
local macro_rules | `(tactic| walk_at "dlh") => `(tactic| try simp only [*, DL.tAsgD, DL.asg, DL.tVarD, DL.lk, DL.sto, DL.stos, DL.tOpD, DL.tCD, DL.tCallD, DL.tConsD, DL.tNilD, DL.tRetD, DL.endsD, DL.startD, DL.tIfSD, DL.tTestD, DL.tNextD, DL.tDropD, DL.tAndD, DL.tOrD, DL.tNotD, DL.tAndV, DL.tOrV, DL.tNotV, DL.tIfD, DL.tNegD, DL.tTupD, DL.tLstD, DL.tSetD, DL.tMD, DL.tSlD, DL.tPartD, DL.tNoD, DL.tRevD, DL.tForD, DL.tLcD, DL.tIterD, DL.tRng1D, DL.tRng2D, DL.tYesD, DL.wipeD, DL.tDictD, DL.tDictOne, DL.tFldD, DL.tMethD, DL.tMakeD, DL.tSetF, DL.tThaw, DL.thaw, DL.tLRg, DL.keyOf, DL.emE_rr, DL.tLess, DL.tLessS, DL.itOk, DL.rAdd_ii, DL.rAdd_ss, DL.rAdd_tt, DL.rAdd_rr, DL.rSub_ii, DL.rMod_ii, DL.rDiv_ii, DL.rPow_ii, DL.rMul_ii, DL.rMul_ri, DL.rLt_ii, DL.rLt_ss, DL.rLe_ii, DL.rGt_ii, DL.rGe_ii, DL.rEq_ii, DL.rEq_ss, DL.rEq_bb, DL.rNe_ii, DL.rNe_ss, DL.rNe_bb, DL.rEq_rr, DL.rNe_rr, DL.rEq_tt, DL.rNe_tt, DL.rIn_st, DL.rNotIn_st, DL.rIn_r, DL.rNotIn_r, DL.rIn_ss, DL.rInDO_sl, DL.rInDO_il, DL.rInDO_sd, DL.rInDO_id, DL.rIsN_n, DL.rIsN_t, DL.rIsN_i, DL.rIsN_s, DL.rIsN_r, DL.rNotN_n, DL.rNotN_t, DL.rNotN_i, DL.rNotN_s, DL.rNotN_r, DL.rIx_t, DL.rIx_r, DL.rIx_s, DL.rIxDO_l, DL.rIxDO_ds, DL.rIx0, DL.rIx1, DL.rIx2, DL.rIx3, DL.rSl_t, DL.rSl_s, DL.rSl_o, DL.rSl_r, DL.rSlDO, DL.rSet_r, DL.rSetDO_0, DL.rSetDO_s, DL.rLen_t, DL.rLen_o, DL.rLen_s, DL.rLen_r, DL.rLenDO, DL.rLenDO_d, DL.rList_t, DL.rList_o, DL.rList_r, DL.rListDO, DL.rTuple_t, DL.rTuple_r, DL.rInt_i, DL.rInt_b, DL.rMax, DL.rMin, DL.rSz0, DL.rSz1, DL.rSz2, DL.rSz3, DL.rSz4, DL.rSz5, DL.rSz6, DL.rSz7, DL.rSz8, Option.some.injEq, DL.DO.lst.injEq, exists_eq_left', exists_eq_left, DL.put_same, DL.put_put, true_and, and_true, List.map, List.replicate, List.length, List.cons_append, List.nil_append, Nat.reduceSub, Nat.reduceAdd, decide_eq_true_eq, if_true, if_false, Bool.false_eq_true, Bool.not_true, Bool.not_false])
local macro_rules | `(tactic| walk_at "go") => `(tactic| repeat (first | (refine DL.sq ?_; try walk_at "dl") | (refine DL.ifY rfl ?_; try walk_at "dl") | (refine DL.inY rfl (by decide) ?_; try walk_at "dl") | (refine DL.inN rfl (by decide) ?_; try walk_at "dl") | (refine DL.ifN (by decide) ?_; try walk_at "dl")))
abbrev s_unfolded_by : Stmt := top 7
theorem sc_unfolded_by : FnScope ["known", "form", "word", "x", "there", "part"] ["known", "form"] (defScope s_unfolded_by) := ⟨rfl, rfl, rfl, by decide +kernel, rfl, by decide +kernel, by decide +kernel⟩
abbrev s_unfolded : Stmt := top 8
theorem sc_unfolded : FnScope ["meanings", "form", "known", "kind", "x", "there"] ["meanings", "form"] (defScope s_unfolded) := ⟨rfl, rfl, rfl, by decide +kernel, rfl, by decide +kernel, by decide +kernel⟩
def KnOk (kvs : List (Key × D)) (f : Kn) : Prop := ∀ k, dval kvs (.inr k) = (f k).map fun p => D.tup [.str p.1, p.2.d]
def KnG (f : Kn) : Prop := ∀ k x g, f k = some (x, g) → g.ht ≤ 60 ∧ x ≠ "does" ∧ x ≠ "same" ∧ g.ok (fun _ => True) (fun _ => True) (fun d => d ≠ x)
theorem KnOk.nil : KnOk [] fun _ => none := fun k => rfl
theorem KnOk.step {kvs : List (Key × D)} {f : Kn} {m : Mn} (h : KnOk kvs f) : KnOk (dput kvs (.inr m.k) (.tup [.str m.x, (unf f m.g).d])) (kstep f m) := by
  intro k
  rw [dval_dput]
  unfold kstep
  by_cases e : k = m.k
  · subst e; simp
  · have e2 : ¬ (Sum.inr k : Key) = .inr m.k := fun z => e (Sum.inr.inj z)
    rw [if_neg e2, if_neg e]
    exact h k
def spUnf (n : Nat) : SpD := fun ds S Q => ∃ (a : Addr) (kvs : List (Key × D)) (f : Kn) (F : Fm), ds = [.ref a, F.d] ∧ S a = some (.dk kvs) ∧ KnOk kvs f ∧ KnG f ∧ F.ht ≤ n ∧ Q (unf f F).d S
def spUnfolded : SpD := fun ds S Q => ∃ (M : List Mn) (F : Fm), ds = [.tup (M.map Mn.d), F.d] ∧ (∀ M1 M2, M = M1 ++ M2 → KnG (knOf M1)) ∧ (∀ m ∈ M, m.g.ht ≤ 60) ∧ F.ht ≤ 60 ∧ M.length ≤ 100 ∧ Q (unf (knOf M) F).d S
def spPutT : SpD := fun ds S Q => ∃ s x t : Str, ds = [.str s, .str x, .str t] ∧ Q (.str (sb x t s)) S
def spPutF (n : Nat) : SpD := fun ds S Q => ∃ (F : Fm) (x t : Str), ds = [F.d, .str x, .str t] ∧ F.ht ≤ n ∧ Q (sub x t F).d S
abbrev cTwo : D := .tup [.str "and", .str "or", .str "if"]
section
variable {P : Program} {w : World} {K : PySem.W.Frag} {mg : Str → Option Value} {base : Heap}
theorem df_unfBy (T : Bt mg) (A : At K mg "unfolded_by" "unfolded_by" s_unfolded_by) (c_JOINED : Cst K mg "JOINED" cJoined) (c_BOUND : Cst K mg "BOUND" cBound) (Gp : Df P w K mg base "put_term" 61 (spPut 60)) (n : Nat) :
    Df P w K mg base "unfolded_by" (n + 62) (spUnf n) := by
  have nd := sc_unfolded_by.nd
  induction n with
  | zero =>
    refine df_mk A rfl sc_unfolded_by (fun _ _ _ _ _ _ us hl => match us, hl with | [_, _], _ => rfl) (fun ds S Q h => ?_) (fun f cdv A outer s H E hr ds S Q h => ?_)
    · obtain ⟨a, kvs, g, F, rfl, _⟩ := h
      rfl
    · obtain ⟨a, kvs, g, F, rfl, _, _, _, h, _⟩ := h
      have := F.ht_pos
      omega
  | succ n G_unfolded_by =>
  have G_put_term := Gp.mono (show 61 ≤ n + 62 by omega)
  refine df_mk A rfl sc_unfolded_by (fun _ _ _ _ _ _ us hl => match us, hl with | [_, _], _ => rfl) (fun ds S Q h => ?_) (fun f cdv A outer s H E hr ds S Q h => ?_)
  · obtain ⟨a, kvs, g, F, rfl, _⟩ := h
    rfl
  obtain ⟨a, kvs, g, F, rfl, ha, ho, hg, hn, h⟩ := h
  have hu := hu_of hr
  refine ⟨_, (dss_cons (ds_set (i := 2) nd rfl (Or.inl rfl) (de_ix hu (dv 1) de_int))
    (dss_cons (ds_if (dt_cmp (od_in hu) (dv 2) (de_cst rfl c_JOINED) rfl) (dss_one (ds_ret (de_op od_add (de_tup (da_cons (dv 2) da_nil)) (de_callTy cd_tuple rfl T.tuple_ (by decide +kernel) (da_cons (de_lc (own := [("part", 5)]) (g := GD.one 5) rfl nd (di_any (de_slice (dv 1) (do_some de_int) do_none)) (blkOk_by (own := [("part", 5)]) (N := ["known", "form", "word", "x", "there", "part"]) (sc := defScope s_unfolded_by) (by decide +kernel)) (fun _ _ _ _ _ => (dg_name (i := 5) nd rfl (Or.inl rfl))) (fun _ _ _ _ _ => dts_nil) (fun _ _ _ _ _ => (de_call G_unfolded_by hr rfl (da_cons (dv 0) (da_cons (dv 5) da_nil))))) da_nil))))) dss_nil)
    (dss_cons (ds_if (dt_cmp (od_in hu) (dv 2) (de_cst rfl c_BOUND) rfl) (dss_one (ds_ret (de_tup (da_cons (dv 2) (da_cons (de_ix hu (dv 1) de_int) (da_cons (de_call G_unfolded_by hr rfl (da_cons (dv 0) (da_cons (de_ix hu (dv 1) de_int) da_nil))) da_nil)))))) dss_nil)
    (dss_cons (ds_if (dt_w (dw_and (dt_cmp (od_eq hr.units) (dv 2) de_str (nomark _)) (dw_and1 (dt_cmp (od_in hu) (de_ix hu (dv 1) de_int) (dv 0) rfl)))) (dss_cons (ds_asg (de_ix hu (dv 0) (de_ix hu (dv 1) de_int)) (dg_tup rfl (dgs_cons (dg_name (i := 3) nd rfl (Or.inl rfl)) (dgs_cons (dg_name (i := 4) nd rfl (Or.inl rfl)) dgs_nil))))
    (dss_one (ds_ret (de_call G_put_term hr rfl (da_cons (dv 4) (da_cons (dv 3) (da_cons (de_ix hu (dv 1) de_int) da_nil))))))) dss_nil)
    (dss_one (ds_ret (dv 1))))))), ?_⟩
  cases F with
  | is t k =>
    simp only [Fm.d]
    walk_at "go"
    rw [ha]
    walk_at "dl"
    cases e : g k with
    | none =>
      have e2 := ho k
      rw [e] at e2
      rw [unf_is_none e] at h
      exact ifN (by rw [e2]; simp) ⟨_, Sub.refl, h⟩
    | some p =>
      have e2 := ho k
      rw [e] at e2
      refine ifY (by rw [e2]; rfl) ?_
      walk_at "go"
      rw [ha]
      walk_at "dl"
      refine ⟨_, e2, ?_⟩
      walk_at "dl"
      obtain ⟨g1, g2, g3, g4⟩ := hg k p.1 p.2 e
      rw [unf_is_some (x := p.1) (g := p.2) e] at h
      exact ⟨p.2, p.1, t, rfl, g1, g4, g2, g3, ⟨_, Sub.refl, h⟩⟩
  | neg F =>
    simp only [Fm.d]
    walk_at "go"
    intro p np
    have pa : a ≠ p := fun z => by rw [z, np] at ha; cases ha
    refine lcB_zip [F.d] [(unf g F).d] rfl (fun i acc => rfl) (szOk (by simp)) (fun i z r acc Y N e1 e2 y => ?_) ?_
    · rcases i with _ | i
      · cases e1; cases e2
        walk_at "dl"
        exact ⟨a, kvs, g, F, rfl, by rw [put_ne pa]; exact ha, ho, hg, by simpa [Fm.ht] using hn, y⟩
      · simp at e2
    · walk_at "dl"
      exact ⟨S, Sub.new np, h⟩
  | bin w F G =>
    have hn' : F.ht ≤ n ∧ G.ht ≤ n := by simp only [Fm.ht] at hn; omega
    have ew : w.s ∈ [("not" : Str), "and", "or", "if"] := by cases w <;> decide
    simp only [Fm.d]
    walk_at "go"
    refine inY rfl ew ?_
    walk_at "dl"
    intro p np
    have pa : a ≠ p := fun z => by rw [z, np] at ha; cases ha
    refine lcB_zip [F.d, G.d] [(unf g F).d, (unf g G).d] rfl (fun i acc => rfl) (szOk (by simp)) (fun i z r acc Y N e1 e2 y => ?_) ?_
    · rcases i with _ | _ | i
      · cases e1; cases e2
        walk_at "dl"
        exact ⟨a, kvs, g, F, rfl, by rw [put_ne pa]; exact ha, ho, hg, hn'.1, y⟩
      · cases e1; cases e2
        walk_at "dl"
        exact ⟨a, kvs, g, G, rfl, by rw [put_ne pa]; exact ha, ho, hg, hn'.2, y⟩
      · simp at e2
    · walk_at "dl"
      exact ⟨S, Sub.new np, h⟩
  | qu w y F =>
    have hn' : F.ht ≤ n := by simp only [Fm.ht] at hn; omega
    have ew : w.s ∉ [("not" : Str), "and", "or", "if"] := by cases w <;> decide
    have ew2 : w.s ∈ [("every" : Str), "some"] := by cases w <;> decide
    simp only [Fm.d]
    walk_at "go"
    refine inN rfl ew (sq ?_)
    walk_at "dl"
    refine inY rfl ew2 ?_
    walk_at "dl"
    exact ⟨a, kvs, g, F, rfl, ha, ho, hg, hn', by walk_at "dl"; exact ⟨_, Sub.refl, h⟩⟩
  | _ =>
    simp only [Fm.d]
    walk_at "go"
    exact ⟨_, Sub.refl, h⟩
theorem df_unfolded (T : Bt mg) (A : At K mg "unfolded" "unfolded" s_unfolded) (G_unfolded_by : Df P w K mg base "unfolded_by" 122 (spUnf 60)) : Df P w K mg base "unfolded" 123 spUnfolded := by
  have nd := sc_unfolded.nd
  refine df_mk A rfl sc_unfolded (fun _ _ _ _ _ _ us hl => match us, hl with | [_, _], _ => rfl) (fun ds S Q h => ?_) (fun f cdv A outer s H E hr ds S Q h => ?_)
  · obtain ⟨M, F, rfl, _⟩ := h
    rfl
  obtain ⟨M, F, rfl, hg, hm, hn, hl, h⟩ := h
  have hu := hu_of hr
  refine ⟨_, (dss_cons (ds_set (i := 2) nd rfl (Or.inl rfl) de_dict)
    (dss_cons (ds_for PassesOwn.never rfl (di_any (dv 0)) (dg_tup rfl (dgs_cons (dg_name (i := 3) nd rfl (Or.inl rfl)) (dgs_cons (dg_name (i := 4) nd rfl (Or.inl rfl)) (dgs_cons (dg_name (i := 5) nd rfl (Or.inl rfl)) dgs_nil)))) (dss_one (ds_setitem hu (dv 2) (dv 3) (de_tup (da_cons (dv 4) (da_cons (de_call G_unfolded_by hr rfl (da_cons (dv 2) (da_cons (dv 5) da_nil))) da_nil))))))
    (dss_one (ds_ret (de_call G_unfolded_by hr rfl (da_cons (dv 2) (da_cons (dv 1) da_nil))))))), ?_⟩
  walk_at "go"
  intro p np
  refine sq ?_
  walk_at "dl"
  refine forB_seq (M.map Mn.d) (fun i δ S' => ∃ kvs o3 o4 o5, δ = [some (.tup (M.map Mn.d)), some F.d, some (.ref p), o3, o4, o5] ∧ S' = put S p (.dk kvs) ∧ kvs.length ≤ i ∧ KnOk kvs (knOf (M.take i))) ?_ ?_ ?_ ?_
  · exact ⟨[], none, none, none, rfl, rfl, Nat.le_refl _, KnOk.nil⟩
  · intro i δ S' _ _
    rfl
  · rintro i d δ S' hd ⟨kvs, o3, o4, o5, rfl, rfl, hk, ho⟩
    rw [List.getElem?_map] at hd
    cases e : M[i]? with
    | none => rw [e] at hd; cases hd
    | some m =>
      rw [e] at hd
      cases hd
      have hi : i < M.length := by
        rcases Nat.lt_or_ge i M.length with z | z
        · exact z
        · rw [List.getElem?_eq_none z] at e; cases e
      have em : M.take (i + 1) = M.take i ++ [m] := by
        rw [List.getElem?_eq_getElem hi] at e
        cases e
        exact (List.take_append_getElem hi).symm
      simp only [Mn.d]
      walk_at "dl"
      refine ⟨p, kvs, knOf (M.take i), m.g, rfl, put_same, ho, hg _ _ (List.take_append_drop i M).symm, hm m (List.mem_of_getElem? e), ?_⟩
      walk_at "dl"
      refine ⟨szLt (by omega), ?_⟩
      refine ⟨_, _, _, _, rfl, rfl, Nat.le_trans length_dput (by omega), ?_⟩
      rw [em, knOf_snoc]
      exact ho.step
  · rintro δ S' ⟨kvs, o3, o4, o5, rfl, rfl, hk, ho⟩
    rw [List.length_map, List.take_length] at ho
    walk_at "dl"
    exact ⟨p, kvs, knOf M, F, rfl, put_same, ho, hg M [] (List.append_nil _).symm, hn, S, Sub.new np, h⟩
end
end K72

set_option Elab.async false
set_option maxRecDepth 100000
set_option linter.unusedVariables false
namespace K72
open PySem PySem.Spec PyProof.Rows L2 DL
local macro_rules | `(tactic| walk_at "dl") => `(tactic| try simp only [DL.tAsgD, DL.asg, DL.tVarD, DL.lk, DL.sto, DL.stos, DL.tOpD, DL.tCD, DL.tCallD, DL.tConsD, DL.tNilD, DL.tRetD, DL.endsD, DL.startD, DL.tIfSD, DL.tTestD, DL.tNextD, DL.tDropD, DL.tAndD, DL.tOrD, DL.tNotD, DL.tAndV, DL.tOrV, DL.tNotV, DL.tIfD, DL.tNegD, DL.tTupD, DL.tLstD, DL.tSetD, DL.tMD, DL.tSlD, DL.tPartD, DL.tNoD, DL.tRevD, DL.tForD, DL.tLcD, DL.tIterD, DL.tRng1D, DL.tRng2D, DL.tYesD, DL.wipeD, DL.tDictD, DL.tDictOne, DL.tFldD, DL.tMethD, DL.tMakeD, DL.tSetF, DL.tThaw, DL.thaw, DL.tLRg, DL.keyOf, DL.emE_rr, DL.tLess, DL.tLessS, DL.itOk, DL.rAdd_ii, DL.rAdd_ss, DL.rAdd_tt, DL.rAdd_rr, DL.rSub_ii, DL.rMod_ii, DL.rDiv_ii, DL.rPow_ii, DL.rMul_ii, DL.rMul_ri, DL.rLt_ii, DL.rLt_ss, DL.rLe_ii, DL.rGt_ii, DL.rGe_ii, DL.rEq_ii, DL.rEq_ss, DL.rEq_bb, DL.rNe_ii, DL.rNe_ss, DL.rNe_bb, DL.rEq_rr, DL.rNe_rr, DL.rEq_tt, DL.rNe_tt, DL.rIn_st, DL.rNotIn_st, DL.rIn_r, DL.rNotIn_r, DL.rIn_ss, DL.rInDO_sl, DL.rInDO_il, DL.rInDO_sd, DL.rInDO_id, DL.rIsN_n, DL.rIsN_t, DL.rIsN_i, DL.rIsN_s, DL.rIsN_r, DL.rNotN_n, DL.rNotN_t, DL.rNotN_i, DL.rNotN_s, DL.rNotN_r, DL.rIx_t, DL.rIx_r, DL.rIx_s, DL.rIxDO_l, DL.rIxDO_ds, DL.rIx0, DL.rIx1, DL.rIx2, DL.rIx3, DL.rSl_t, DL.rSl_s, DL.rSl_o, DL.rSl_r, DL.rSlDO, DL.rSet_r, DL.rSetDO_0, DL.rSetDO_s, DL.rLen_t, DL.rLen_o, DL.rLen_s, DL.rLen_r, DL.rLenDO, DL.rLenDO_d, DL.rList_t, DL.rList_o, DL.rList_r, DL.rListDO, DL.rTuple_t, DL.rTuple_r, DL.rInt_i, DL.rInt_b, DL.rMax, DL.rMin, DL.rSz0, DL.rSz1, DL.rSz2, DL.rSz3, DL.rSz4, DL.rSz5, DL.rSz6, DL.rSz7, DL.rSz8, Option.some.injEq, DL.DO.lst.injEq, exists_eq_left', exists_eq_left, DL.put_same, DL.put_put, true_and, and_true, List.map, List.replicate, List.length, List.cons_append, List.nil_append, Nat.reduceSub, Nat.reduceAdd, decide_eq_true_eq, if_true, if_false, Bool.false_eq_true, Bool.not_true, Bool.not_false])
local macro_rules | `(tactic| walk_at "dlh") => `(tactic| try simp only [*, DL.tAsgD, DL.asg, DL.tVarD, DL.lk, DL.sto, DL.stos, DL.tOpD, DL.tCD, DL.tCallD, DL.tConsD, DL.tNilD, DL.tRetD, DL.endsD, DL.startD, DL.tIfSD, DL.tTestD, DL.tNextD, DL.tDropD, DL.tAndD, DL.tOrD, DL.tNotD, DL.tAndV, DL.tOrV, DL.tNotV, DL.tIfD, DL.tNegD, DL.tTupD, DL.tLstD, DL.tSetD, DL.tMD, DL.tSlD, DL.tPartD, DL.tNoD, DL.tRevD, DL.tForD, DL.tLcD, DL.tIterD, DL.tRng1D, DL.tRng2D, DL.tYesD, DL.wipeD, DL.tDictD, DL.tDictOne, DL.tFldD, DL.tMethD, DL.tMakeD, DL.tSetF, DL.tThaw, DL.thaw, DL.tLRg, DL.keyOf, DL.emE_rr, DL.tLess, DL.tLessS, DL.itOk, DL.rAdd_ii, DL.rAdd_ss, DL.rAdd_tt, DL.rAdd_rr, DL.rSub_ii, DL.rMod_ii, DL.rDiv_ii, DL.rPow_ii, DL.rMul_ii, DL.rMul_ri, DL.rLt_ii, DL.rLt_ss, DL.rLe_ii, DL.rGt_ii, DL.rGe_ii, DL.rEq_ii, DL.rEq_ss, DL.rEq_bb, DL.rNe_ii, DL.rNe_ss, DL.rNe_bb, DL.rEq_rr, DL.rNe_rr, DL.rEq_tt, DL.rNe_tt, DL.rIn_st, DL.rNotIn_st, DL.rIn_r, DL.rNotIn_r, DL.rIn_ss, DL.rInDO_sl, DL.rInDO_il, DL.rInDO_sd, DL.rInDO_id, DL.rIsN_n, DL.rIsN_t, DL.rIsN_i, DL.rIsN_s, DL.rIsN_r, DL.rNotN_n, DL.rNotN_t, DL.rNotN_i, DL.rNotN_s, DL.rNotN_r, DL.rIx_t, DL.rIx_r, DL.rIx_s, DL.rIxDO_l, DL.rIxDO_ds, DL.rIx0, DL.rIx1, DL.rIx2, DL.rIx3, DL.rSl_t, DL.rSl_s, DL.rSl_o, DL.rSl_r, DL.rSlDO, DL.rSet_r, DL.rSetDO_0, DL.rSetDO_s, DL.rLen_t, DL.rLen_o, DL.rLen_s, DL.rLen_r, DL.rLenDO, DL.rLenDO_d, DL.rList_t, DL.rList_o, DL.rList_r, DL.rListDO, DL.rTuple_t, DL.rTuple_r, DL.rInt_i, DL.rInt_b, DL.rMax, DL.rMin, DL.rSz0, DL.rSz1, DL.rSz2, DL.rSz3, DL.rSz4, DL.rSz5, DL.rSz6, DL.rSz7, DL.rSz8, Option.some.injEq, DL.DO.lst.injEq, exists_eq_left', exists_eq_left, DL.put_same, DL.put_put, true_and, and_true, List.map, List.replicate, List.length, List.cons_append, List.nil_append, Nat.reduceSub, Nat.reduceAdd, decide_eq_true_eq, if_true, if_false, Bool.false_eq_true, Bool.not_true, Bool.not_false])
local macro_rules | `(tactic| walk_at "go") => `(tactic| repeat (first | (refine DL.sq ?_; try walk_at "dl") | (refine DL.ifY rfl ?_; try walk_at "dl") | (refine DL.inY rfl (by decide) ?_; try walk_at "dl") | (refine DL.inN rfl (by decide) ?_; try walk_at "dl") | (refine DL.ifN (by decide) ?_; try walk_at "dl")))
def hs (M : List Mn) : Nat := (M.map fun m => m.g.ht).sum
end K72

set_option Elab.async false
set_option maxRecDepth 100000
set_option linter.unusedVariables false
namespace DL
open PySem PySem.Spec PyProof.Rows L2
theorem atI_mem {α : Type} (l : List α) {r : Int} (h0 : 0 ≤ r) (h1 : r < l.length) : ∃ x, x ∈ l ∧ atI l r = some x := by
  obtain ⟨j, rfl⟩ : ∃ j : Nat, r = j := ⟨r.toNat, (Int.toNat_of_nonneg h0).symm⟩
  have hj : j < l.length := by omega
  exact ⟨l[j], List.getElem_mem hj, atI_nat (List.getElem?_eq_getElem hj)⟩
theorem ixSeq_mem {ds : List D} {r : Int} {S : Store} {Q : KD} (h0 : 0 ≤ r) (h1 : r < ds.length) (h : ∀ d ∈ ds, Q d S) : ixSeq ds (.int r) S Q := by
  obtain ⟨x, hx, e⟩ := atI_mem ds h0 h1
  exact ⟨x, e, h x hx⟩
theorem ixStrs_mem {xs : List Str} {r : Int} {S : Store} {Q : KD} (h0 : 0 ≤ r) (h1 : r < xs.length) (h : ∀ x ∈ xs, Q (.str x) S) : ixSeq (xs.map D.str) (.int r) S Q := by
  refine ixSeq_mem h0 (by rw [List.length_map]; exact h1) fun d hd => ?_
  obtain ⟨x, hx, rfl⟩ := List.mem_map.mp hd
  exact h x hx
theorem ixS {s : Str} (p : Nat → Prop) {r : Int} {R : Nat → Prop} (hp : ∀ c ∈ s.cps.toList, p c) (hl : s.length ≤ 1000) (h0 : 0 ≤ r) (h1 : r < s.length) (h : ∀ c, p c → R c) :
    ∃ c, s.length ≤ sizeLine ∧ atI s.cps.toList r = some c ∧ R c := by
  obtain ⟨c, hc, e⟩ := atI_mem s.cps.toList h0 (by simpa [Str.length] using h1)
  exact ⟨c, szOk (by omega), e, h c (hp c hc)⟩
theorem app_toList {x y : Str} : (x ++ y).cps.toList = x.cps.toList ++ y.cps.toList := by
  show (x.cps ++ y.cps).toList = _
  rw [Array.toList_append]
theorem len_toList {x : Str} : x.length = x.cps.toList.length := by simp [Str.length]
theorem cutS_toList {x : Str} {lo hi : Option Int} : (cutS x lo hi).cps.toList = cutL x.cps.toList lo hi := by
  unfold cutS cutL
  simp [Str.length]
theorem cutL_map {α β : Type} {f : α → β} {xs : List α} {lo hi : Option Int} : cutL (xs.map f) lo hi = (cutL xs lo hi).map f := by
  unfold cutL
  rw [List.length_map, ← List.map_drop, ← List.map_take]
theorem cutL_le {α : Type} {xs : List α} {lo hi : Option Int} : (cutL xs lo hi).length ≤ xs.length := by
  unfold cutL
  rw [List.length_take, List.length_drop]
  omega
theorem cutL_mem {α : Type} {xs : List α} {lo hi : Option Int} {x : α} (h : x ∈ cutL xs lo hi) : x ∈ xs := List.mem_of_mem_drop (List.mem_of_mem_take h)
/-- [one for one in texts if ..] -/
theorem lcB_flt {J : ItD} {tt : TTD} {te : TED} {i : Nat} {δ : StD} {Q : KD} {q : Addr} {S1 : Store} (c : List Str) (b : Str → Bool) (hJ : ∀ k acc, J k (put S1 q (.lst acc)) = some (c.map D.str)[k]?) (hz : c.length ≤ 1000)
    (test : ∀ (x : Str) (acc : List D) (N : Bool → Store → Prop), N (b x) (put S1 q (.lst acc)) → tt (sto (sto δ i none) i (some (.str x))) (put S1 q (.lst acc)) N)
    (val : ∀ (x : Str) (S : Store) (Y : KD), Y (.str x) S → te (sto (sto δ i none) i (some (.str x))) S Y)
    (done : Q (.ref q) (put S1 q (.lst ((c.filter b).map D.str)))) : lcB J (.one i) tt te [i] δ Q q S1 := by
  have fm : ∀ l : List Str, (l.map D.str).flatMap (fun d => match d with | .str x => if b x = true then [.str x] else [] | _ => []) = (l.filter b).map D.str := by
    intro l
    induction l with
    | nil => rfl
    | cons x l ih =>
      rw [List.map_cons, List.flatMap_cons, ih, List.filter_cons]
      show (if b x = true then [D.str x] else []) ++ _ = _
      cases b x <;> simp
  refine lcB_pure (c.map D.str) (fun d => match d with | .str x => if b x = true then [.str x] else [] | _ => []) hJ (by rw [List.length_map]; exact szOk (by omega)) (fun d hd => ?_) (fun d acc hd hl => ?_) (by rw [fm]; exact done)
  · obtain ⟨x, _, rfl⟩ := List.mem_map.mp hd
    show (if b x = true then [D.str x] else []).length ≤ 1
    split <;> simp
  · obtain ⟨x, _, rfl⟩ := List.mem_map.mp hd
    refine test x acc _ ?_
    cases e : b x with
    | true =>
      simp only [if_true]
      exact val x _ _ ⟨acc, put_same, hl, by rw [put_put]; simp [e]⟩
    | false =>
      simp [e]
end DL
namespace K72
open PySem PySem.Spec PyProof.Rows L2 DL
local macro_rules | `(tactic| walk_at "dl") => `(tactic| try simp only [DL.tAsgD, DL.asg, DL.tVarD, DL.lk, DL.sto, DL.stos, DL.tOpD, DL.tCD, DL.tCallD, DL.tConsD, DL.tNilD, DL.tRetD, DL.endsD, DL.startD, DL.tIfSD, DL.tTestD, DL.tNextD, DL.tDropD, DL.tAndD, DL.tOrD, DL.tNotD, DL.tAndV, DL.tOrV, DL.tNotV, DL.tIfD, DL.tNegD, DL.tTupD, DL.tLstD, DL.tSetD, DL.tMD, DL.tSlD, DL.tPartD, DL.tNoD, DL.tRevD, DL.tForD, DL.tLcD, DL.tIterD, DL.tRng1D, DL.tRng2D, DL.tYesD, DL.wipeD, DL.tDictD, DL.tDictOne, DL.tFldD, DL.tMethD, DL.tMakeD, DL.tSetF, DL.tThaw, DL.thaw, DL.tLRg, DL.keyOf, DL.emE_rr, DL.tLess, DL.tLessS, DL.itOk, DL.rAdd_ii, DL.rAdd_ss, DL.rAdd_tt, DL.rAdd_rr, DL.rSub_ii, DL.rMod_ii, DL.rDiv_ii, DL.rPow_ii, DL.rMul_ii, DL.rMul_ri, DL.rLt_ii, DL.rLt_ss, DL.rLe_ii, DL.rGt_ii, DL.rGe_ii, DL.rEq_ii, DL.rEq_ss, DL.rEq_bb, DL.rNe_ii, DL.rNe_ss, DL.rNe_bb, DL.rEq_rr, DL.rNe_rr, DL.rEq_tt, DL.rNe_tt, DL.rIn_st, DL.rNotIn_st, DL.rIn_r, DL.rNotIn_r, DL.rIn_ss, DL.rInDO_sl, DL.rInDO_il, DL.rInDO_sd, DL.rInDO_id, DL.rIsN_n, DL.rIsN_t, DL.rIsN_i, DL.rIsN_s, DL.rIsN_r, DL.rNotN_n, DL.rNotN_t, DL.rNotN_i, DL.rNotN_s, DL.rNotN_r, DL.rIx_t, DL.rIx_r, DL.rIx_s, DL.rIxDO_l, DL.rIxDO_ds, DL.rIx0, DL.rIx1, DL.rIx2, DL.rIx3, DL.rSl_t, DL.rSl_s, DL.rSl_o, DL.rSl_r, DL.rSlDO, DL.rSet_r, DL.rSetDO_0, DL.rSetDO_s, DL.rLen_t, DL.rLen_o, DL.rLen_s, DL.rLen_r, DL.rLenDO, DL.rLenDO_d, DL.rList_t, DL.rList_o, DL.rList_r, DL.rListDO, DL.rTuple_t, DL.rTuple_r, DL.rInt_i, DL.rInt_b, DL.rMax, DL.rMin, DL.rSz0, DL.rSz1, DL.rSz2, DL.rSz3, DL.rSz4, DL.rSz5, DL.rSz6, DL.rSz7, DL.rSz8, Option.some.injEq, DL.DO.lst.injEq, exists_eq_left', exists_eq_left, DL.put_same, DL.put_put, true_and, and_true, List.map, List.replicate, List.length, List.cons_append, List.nil_append, Nat.reduceSub, Nat.reduceAdd, decide_eq_true_eq, if_true, if_false, Bool.false_eq_true, Bool.not_true, Bool.not_false])
local macro_rules | `(tactic| walk_at "dlh") => `(tactic| try simp only [*, DL.tAsgD, DL.asg, DL.tVarD, DL.lk, DL.sto, DL.stos, DL.tOpD, DL.tCD, DL.tCallD, DL.tConsD, DL.tNilD, DL.tRetD, DL.endsD, DL.startD, DL.tIfSD, DL.tTestD, DL.tNextD, DL.tDropD, DL.tAndD, DL.tOrD, DL.tNotD, DL.tAndV, DL.tOrV, DL.tNotV, DL.tIfD, DL.tNegD, DL.tTupD, DL.tLstD, DL.tSetD, DL.tMD, DL.tSlD, DL.tPartD, DL.tNoD, DL.tRevD, DL.tForD, DL.tLcD, DL.tIterD, DL.tRng1D, DL.tRng2D, DL.tYesD, DL.wipeD, DL.tDictD, DL.tDictOne, DL.tFldD, DL.tMethD, DL.tMakeD, DL.tSetF, DL.tThaw, DL.thaw, DL.tLRg, DL.keyOf, DL.emE_rr, DL.tLess, DL.tLessS, DL.itOk, DL.rAdd_ii, DL.rAdd_ss, DL.rAdd_tt, DL.rAdd_rr, DL.rSub_ii, DL.rMod_ii, DL.rDiv_ii, DL.rPow_ii, DL.rMul_ii, DL.rMul_ri, DL.rLt_ii, DL.rLt_ss, DL.rLe_ii, DL.rGt_ii, DL.rGe_ii, DL.rEq_ii, DL.rEq_ss, DL.rEq_bb, DL.rNe_ii, DL.rNe_ss, DL.rNe_bb, DL.rEq_rr, DL.rNe_rr, DL.rEq_tt, DL.rNe_tt, DL.rIn_st, DL.rNotIn_st, DL.rIn_r, DL.rNotIn_r, DL.rIn_ss, DL.rInDO_sl, DL.rInDO_il, DL.rInDO_sd, DL.rInDO_id, DL.rIsN_n, DL.rIsN_t, DL.rIsN_i, DL.rIsN_s, DL.rIsN_r, DL.rNotN_n, DL.rNotN_t, DL.rNotN_i, DL.rNotN_s, DL.rNotN_r, DL.rIx_t, DL.rIx_r, DL.rIx_s, DL.rIxDO_l, DL.rIxDO_ds, DL.rIx0, DL.rIx1, DL.rIx2, DL.rIx3, DL.rSl_t, DL.rSl_s, DL.rSl_o, DL.rSl_r, DL.rSlDO, DL.rSet_r, DL.rSetDO_0, DL.rSetDO_s, DL.rLen_t, DL.rLen_o, DL.rLen_s, DL.rLen_r, DL.rLenDO, DL.rLenDO_d, DL.rList_t, DL.rList_o, DL.rList_r, DL.rListDO, DL.rTuple_t, DL.rTuple_r, DL.rInt_i, DL.rInt_b, DL.rMax, DL.rMin, DL.rSz0, DL.rSz1, DL.rSz2, DL.rSz3, DL.rSz4, DL.rSz5, DL.rSz6, DL.rSz7, DL.rSz8, Option.some.injEq, DL.DO.lst.injEq, exists_eq_left', exists_eq_left, DL.put_same, DL.put_put, true_and, and_true, List.map, List.replicate, List.length, List.cons_append, List.nil_append, Nat.reduceSub, Nat.reduceAdd, decide_eq_true_eq, if_true, if_false, Bool.false_eq_true, Bool.not_true, Bool.not_false])
local macro_rules | `(tactic| walk_at "go") => `(tactic| repeat (first | (refine DL.sq ?_; try walk_at "dl") | (refine DL.ifY rfl ?_; try walk_at "dl") | (refine DL.inY rfl (by decide) ?_; try walk_at "dl") | (refine DL.inN rfl (by decide) ?_; try walk_at "dl") | (refine DL.ifN (by decide) ?_; try walk_at "dl")))
abbrev s_l_deck : Stmt := top 14
theorem sc_l_deck : FnScope ["_law_script", "_law_cells"] ["_law_script"] (defScope s_l_deck) := ⟨rfl, rfl, rfl, by decide +kernel, rfl, by decide +kernel, by decide +kernel⟩
abbrev s_l_word : Stmt := top 16
theorem sc_l_word : FnScope ["_law_deck_here", "_law_least", "_law_most", "_law_letters", "_law_word_here", "_law_k"] ["_law_deck_here", "_law_least", "_law_most"] (defScope s_l_word) := ⟨rfl, rfl, rfl, by decide +kernel, rfl, by decide +kernel, by decide +kernel⟩
abbrev s_l_names : Stmt := top 18
theorem sc_l_names : FnScope ["_law_deck_here", "_law_many", "_law_names_here", "_law_k", "_law_name", "_law_one"] ["_law_deck_here", "_law_many"] (defScope s_l_names) := ⟨rfl, rfl, rfl, by decide +kernel, rfl, by decide +kernel, by decide +kernel⟩
def Dk (a : Addr) (S : Store) : Prop := ∃ ns, okd ns ∧ S a = some (dkO ns)
/-- only the deck is changed, and new things are made -/
def Ch (a : Addr) (S S' : Store) : Prop := (∀ b o, b ≠ a → S b = some o → S' b = some o) ∧ Dk a S'
theorem Ch.refl {a : Addr} {S : Store} (h : Dk a S) : Ch a S S := ⟨fun _ _ _ e => e, h⟩
theorem Ch.trans {a : Addr} {S S1 S2 : Store} (h : Ch a S S1) (g : Ch a S1 S2) : Ch a S S2 := ⟨fun b o n e => g.1 b o n (h.1 b o n e), g.2⟩
theorem Ch.draw {a : Addr} {S : Store} {ns : List Int} (h : okd ns) : Ch a S (put S a (dkO ns)) := ⟨fun b o n e => by rw [put_ne n]; exact e, ns, h, put_same⟩
theorem Dk.ne {a p : Addr} {S : Store} (h : Dk a S) (n : S p = none) : p ≠ a := by
  rintro rfl
  obtain ⟨ns, _, e⟩ := h
  rw [n] at e; cases e
theorem Ch.none' {a p : Addr} {S S' : Store} (h : Ch a S S') (d : Dk a S) (n : S' p = none) : S p = none := by
  have pa := h.2.ne n
  cases e : S p with
  | none => rfl
  | some o =>
    have := h.1 p o pa e
    rw [n] at this; cases this
/-- what was not there is made or changed -/
theorem Ch.at {a p : Addr} {S S' : Store} {o : DO} (h : Ch a S S') (d : Dk a S) (n : S p = none) : Ch a S (put S' p o) := by
  have pa := d.ne n
  refine ⟨fun b u nb e => ?_, ?_⟩
  · rw [put_ne]
    · exact h.1 b u nb e
    · rintro rfl
      rw [n] at e; cases e
  · obtain ⟨ns, h1, h2⟩ := h.2
    exact ⟨ns, h1, by rw [put_ne pa.symm]; exact h2⟩
theorem Ch.new {a p : Addr} {S S' : Store} {o : DO} (h : Ch a S S') (d : Dk a S) (n : S' p = none) : Ch a S (put S' p o) := h.at d (h.none' d n)
theorem Dk.strs {a p : Addr} {S : Store} {xs : List Str} (h : Dk a S) (e : S p = some (.lst (xs.map D.str))) : p ≠ a := by
  rintro rfl
  obtain ⟨ns, ⟨h1, h2⟩, e'⟩ := h
  rw [e] at e'
  have e2 : xs.map D.str = ns.map D.int := by injection e' with e'; injection e'
  cases xs with
  | nil =>
    have := congrArg List.length e2
    simp at this
    omega
  | cons x xs =>
    cases ns with
    | nil => cases e2
    | cons n ns => cases e2
theorem Ch.get {a p : Addr} {S S' : Store} {xs : List Str} (h : Ch a S S') (d : Dk a S) (e : S p = some (.lst (xs.map D.str))) : S' p = some (.lst (xs.map D.str)) := h.1 p _ (d.strs e) e
def spDrawC : SpD := fun ds S Q => ∃ (a : Addr) (m : Int), ds = [.ref a, .int m] ∧ Dk a S ∧ 0 < m ∧ m < 1073741824 ∧ ∀ (r : Int) (S' : Store), 0 ≤ r → r < m → Ch a S S' → Q (.int r) S'
def spDeck : SpD := fun ds S Q => ∃ ns : List Int, ds = [.rol (ns.map D.int)] ∧ ns.length ≤ 63 ∧ ∀ p S', Dk p S' → Q (.ref p) S'
def spWord : SpD := fun ds S Q => ∃ (a : Addr) (lo hi : Nat), ds = [.ref a, .int (lo : Nat), .int (hi : Nat)] ∧ Dk a S ∧ lo ≤ hi ∧ hi ≤ 10 ∧
  ∀ (x : Str) (S' : Store), (∀ c ∈ x.cps.toList, chLow c) → lo ≤ x.cps.toList.length → x.cps.toList.length ≤ hi → Ch a S S' → Q (.str x) S'
def spNames : SpD := fun ds S Q => ∃ (a : Addr) (m : Nat), ds = [.ref a, .int (m : Nat)] ∧ Dk a S ∧ m ≤ 6 ∧
  ∀ (xs : List Str) (p : Addr) (S' : Store), Ch a S S' → S' p = some (.lst (xs.map D.str)) → xs.length = m → (∀ x ∈ xs, nmS x) → xs.Nodup → Q (.ref p) S'
theorem pigeon {α : Type} [DecidableEq α] : ∀ (c xs : List α), c.Nodup → (∀ x ∈ c, x ∈ xs) → c.length ≤ xs.length
  | [], _, _, _ => Nat.zero_le _
  | a :: c, xs, hn, h => by
    have ha := h a List.mem_cons_self
    have := pigeon c (xs.erase a) (List.nodup_cons.mp hn).2 fun x hx => by
      have : x ≠ a := fun e => (List.nodup_cons.mp hn).1 (e ▸ hx)
      exact (List.mem_erase_of_ne this).mpr (h x (List.mem_cons_of_mem _ hx))
    rw [List.length_erase_of_mem ha] at this
    have : 0 < xs.length := List.length_pos_of_mem ha
    rw [List.length_cons]; omega
theorem free_one {α : Type} [DecidableEq α] {c xs : List α} (hn : c.Nodup) (h : xs.length < c.length) : ∃ x r, c.filter (fun x => decide (x ∉ xs)) = x :: r ∧ x ∈ c ∧ x ∉ xs := by
  cases e : c.filter (fun x => decide (x ∉ xs)) with
  | nil =>
    have : ∀ x ∈ c, x ∈ xs := fun x hx => by
      have := List.filter_eq_nil_iff.mp e x hx
      simpa using this
    have := pigeon c xs hn this
    omega
  | cons x r =>
    have hx : x ∈ c.filter (fun x => decide (x ∉ xs)) := by rw [e]; exact List.mem_cons_self
    have := List.mem_filter.mp hx
    exact ⟨x, r, rfl, this.1, by simpa using this.2⟩
def NmI (S : Store) (a : Addr) (m : Nat) (p : Addr) (i : Nat) : StD → Store → Prop := fun δ S' => ∃ (xs : List Str) (o3 o4 : Option D), δ = [some (.ref a), some (.int (m : Nat)), some (.ref p), o3, o4, none] ∧ Ch a S S' ∧ S' p = some (.lst (xs.map D.str)) ∧ xs.length = i ∧ (∀ x ∈ xs, nmS x) ∧ xs.Nodup
section
variable {P : Program} {w : World} {K : PySem.W.Frag} {mg : Str → Option Value} {base : Heap}
theorem df_drawC {k : Nat} (G : Df P w K mg base "_law_draw" k spDraw) : Df P w K mg base "_law_draw" k spDrawC := G.imp fun ds S Q ⟨a, m, e, ⟨ns, h1, h2⟩, m0, m1, h⟩ =>
  ⟨a, ns, m, e, h2, h1, m0, m1, fun r ns' r0 r1 h' => h r _ r0 r1 (.draw h')⟩
theorem df_deck {k : Nat} (T : Bt mg) (A : At K mg "_law_deck" "_law_deck" s_l_deck) : Df P w K mg base "_law_deck" (k + 1) spDeck := by
  have nd := sc_l_deck.nd
  refine df_mk A rfl sc_l_deck (fun _ _ _ _ _ _ us hl => match us, hl with | [_], _ => rfl) (fun ds S Q h => ?_) (fun f cdv A outer s H E hr ds S Q h => ?_)
  · obtain ⟨ns, rfl, _⟩ := h
    rfl
  obtain ⟨ns, rfl, hl, h⟩ := h
  have hu := hu_of hr
  refine ⟨_, (dss_cons (ds_set (i := 1) nd rfl (Or.inl rfl) (de_callTy (cd_list rfl) rfl T.list_ (by decide +kernel) (da_cons (de_slice (dv 0) do_none (do_some de_int)) da_nil)))
    (dss_one (ds_ret (de_op od_add (de_lst (da_cons de_int (da_cons (de_op od_mod (de_callB (cd_sum rfl) rfl T.sum_ (by decide +kernel) (da_cons (dv 1) da_nil)) de_int) da_nil))) (de_rev (dv 1)))))), ?_⟩
  walk_at "go"
  intro p np q nq
  rw [cutL_map]
  have hz : (cutL ns none (some 63)).length ≤ 63 := Nat.le_trans cutL_le hl
  generalize cutL ns none (some 63) = cs at hz
  refine ⟨cs.map D.int, cs, seqAt_ref put_same, intsOf_of cs, ?_⟩
  walk_at "dl"
  refine ⟨by decide, fun r nr => ?_⟩
  have hqr : q ≠ r := fun z => by rw [z, put_same] at nr; cases nr
  rw [put_ne hqr, put_same]
  show ∀ t, _ → _
  intro t nt
  have htr : r ≠ t := fun z => by rw [z, put_same] at nt; cases nt
  refine ⟨_, _, by rw [put_ne htr, put_same], put_same, szOk (by simp; omega), fun u nu => ?_⟩
  refine ⟨_, Sub.refl, h u _ ⟨0 :: cs.sum % 2147483647 :: cs.reverse, ⟨by simp, by simp; omega⟩, ?_⟩⟩
  rw [put_same]
  simp [dkO]
theorem df_word {k : Nat} (T : Bt mg) (A : At K mg "_law_word" "_law_word" s_l_word) (G_l_draw : Df P w K mg base "_law_draw" k spDrawC) : Df P w K mg base "_law_word" (k + 1) spWord := by
  have nd := sc_l_word.nd
  refine df_mk A rfl sc_l_word (fun _ _ _ _ _ _ us hl => match us, hl with | [_, _, _], _ => rfl) (fun ds S Q h => ?_) (fun f cdv A outer s H E hr ds S Q h => ?_)
  · obtain ⟨a, lo, hi, rfl, _⟩ := h
    rfl
  obtain ⟨a, lo, hi, rfl, hd, h1, h2, h⟩ := h
  have hu := hu_of hr
  refine ⟨_, (dss_cons (ds_set (i := 3) nd rfl (Or.inl rfl) de_str)
    (dss_cons (ds_set (i := 4) nd rfl (Or.inl rfl) de_str)
    (dss_cons (ds_for PassesOwn.never rfl (di_range1 rfl T.range_ (da_cons (de_op od_add (dv 1) (de_call G_l_draw hr rfl (da_cons (dv 0) (da_cons (de_op od_add (de_op od_sub (dv 2) (dv 1)) de_int) da_nil)))) da_nil)) (dg_name (i := 5) nd rfl (Or.inl rfl)) (dss_one (ds_set (i := 4) nd rfl (Or.inl rfl) (de_op od_add (dv 4) (de_ix hu (dv 3) (de_call G_l_draw hr rfl (da_cons (dv 0) (da_cons de_int da_nil))))))))
    (dss_one (ds_ret (dv 4)))))), ?_⟩
  walk_at "go"
  refine ⟨a, _, rfl, hd, by omega, by omega, fun r S1 r0 r1 c1 => ?_⟩
  walk_at "dl"
  refine ⟨by omega, ?_⟩
  obtain ⟨n, en⟩ : ∃ n : Nat, (lo : Int) + r = n := ⟨((lo : Int) + r).toNat, by omega⟩
  rw [en, Int.toNat_natCast]
  refine forB_rng (fun i δ S' => ∃ (x : Str) (o5 : Option D), δ = [some (.ref a), some (.int lo), some (.int hi), some (.str "abcdefghijklmnopqrstuvwxyz"), some (.str x), o5] ∧ Ch a S S' ∧ (∀ c ∈ x.cps.toList, chLow c) ∧ x.cps.toList.length = i) ?_ ?_ ?_
  · exact ⟨"", none, rfl, c1, by decide +kernel, by decide +kernel⟩
  · rintro i δ S' hi ⟨x, o5, rfl, c2, hx, hl⟩
    walk_at "dl"
    refine ⟨a, _, rfl, c2.2, by decide, by decide, fun r S2 r0 r1 c3 => ?_⟩
    walk_at "dl"
    refine ixS (s := "abcdefghijklmnopqrstuvwxyz") chLow (by decide +kernel) (by decide +kernel) r0 (by rw [show ("abcdefghijklmnopqrstuvwxyz" : Str).length = 26 from by decide +kernel]; exact r1) fun c hc => ?_
    walk_at "dl"
    refine ⟨szOk (by rw [len_toList, hl]; simp [Str.length]; omega), ?_⟩
    refine ⟨_, _, rfl, c2.trans c3, fun z hz => ?_, ?_⟩
    · rw [app_toList] at hz
      rcases List.mem_append.mp hz with hz | hz
      · exact hx z hz
      · cases List.mem_singleton.mp hz; exact hc
    · rw [app_toList, List.length_append, hl]; rfl
  · rintro δ S' ⟨x, o5, rfl, c2, hx, hl⟩
    walk_at "dl"
    exact ⟨S', Sub.refl, h x S' hx (by omega) (by omega) c2⟩
theorem df_names {k : Nat} (T : Bt mg) (A : At K mg "_law_names" "_law_names" s_l_names) (G_l_draw : Df P w K mg base "_law_draw" k spDrawC) (G_l_word : Df P w K mg base "_law_word" k spWord) : Df P w K mg base "_law_names" (k + 1) spNames := by
  have nd := sc_l_names.nd
  refine df_mk A rfl sc_l_names (fun _ _ _ _ _ _ us hl => match us, hl with | [_, _], _ => rfl) (fun ds S Q h => ?_) (fun f cdv A outer s H E hr ds S Q h => ?_)
  · obtain ⟨a, m, rfl, _⟩ := h
    rfl
  obtain ⟨a, m, rfl, hd, h1, h⟩ := h
  have hu := hu_of hr
  refine ⟨_, (dss_cons (ds_set (i := 2) nd rfl (Or.inr rfl) (de_lst da_nil))
    (dss_cons (ds_for PassesOwn.never rfl (di_range1 rfl T.range_ (da_cons (dv 1) da_nil)) (dg_name (i := 3) nd rfl (Or.inl rfl)) (dss_cons (ds_set (i := 4) nd rfl (Or.inl rfl) (de_op od_add (de_ix hu de_str (de_call G_l_draw hr rfl (da_cons (dv 0) (da_cons de_int da_nil)))) (de_call G_l_word hr rfl (da_cons (dv 0) (da_cons de_int (da_cons de_int da_nil))))))
    (dss_cons (ds_if (dt_cmp (od_in hu) (dv 4) (dv 2) rfl) (dss_one (ds_set (i := 4) nd rfl (Or.inl rfl) (de_ix hu (de_lc (own := [("_law_one", 5)]) (g := GD.one 5) rfl nd (di_any (de_lst (da_cons de_str (da_cons de_str (da_cons de_str (da_cons de_str (da_cons de_str (da_cons de_str (da_cons de_str da_nil))))))))) (blkOk_by (own := [("_law_one", 5)]) (N := ["_law_deck_here", "_law_many", "_law_names_here", "_law_k", "_law_name", "_law_one"]) (sc := defScope s_l_names) (by decide +kernel)) (fun _ _ _ _ _ => (dg_name (i := 5) nd rfl (Or.inl rfl))) (fun _ _ _ _ _ => (dts_one (dt_cmp (od_notIn hu) (dv 5) (dv 2) rfl))) (fun _ _ _ _ _ => (dv 5))) de_int))) dss_nil)
    (dss_one (ds_expr (de_m PySem.F.plainAttrs_list PySem.F.slot_list_append PySem.F.type_list_append md_append (dv 2) (da_cons (dv 4) da_nil)))))))
    (dss_one (ds_ret (dv 2))))), ?_⟩
  walk_at "go"
  intro p np
  have pa := hd.ne np
  refine sq ?_
  walk_at "dl"
  refine ⟨by omega, ?_⟩
  rw [Int.toNat_natCast]
  refine forB_rng (NmI S a m p) ?_ ?_ ?_
  · exact ⟨[], none, none, rfl, (Ch.refl hd).at hd np, put_same, rfl, (fun x hx => by cases hx), List.nodup_nil⟩
  · rintro i δ S' hi ⟨xs, o3, o4, rfl, c2, hp, hl, hx, hxd⟩
    have last : ∀ (x : Str) (S3 : Store), Ch a S' S3 → nmS x → x ∉ xs → ∀ (o3 : Option D) rt bk ct, (tDropD (tMD "list" mAppend (tVarD 2) (tConsD (tVarD 4) tNilD))) { nx := NmI S a m p (i + 1), rt := rt, bk := bk, ct := ct } [some (.ref a), some (.int m), some (.ref p), o3, some (.str x), none] S3 := by
      intro x S3 c3 hn hnx o3 rt bk ct
      have hp3 : S3 p = some (.lst (xs.map D.str)) := c3.get c2.2 hp
      walk_at "dl"
      refine ⟨ty_list hp3, append_of hp3 (szLt (by rw [List.length_map]; omega)) ?_⟩
      refine ⟨xs ++ [x], _, _, rfl, (c2.trans c3).at hd np, by rw [put_same]; simp, by simp [hl], fun z hz => ?_, ?_⟩
      · rcases List.mem_append.mp hz with hz | hz
        · exact hx z hz
        · cases List.mem_singleton.mp hz; exact hn
      · rw [List.nodup_append]
        exact ⟨hxd, by simp, fun u hu v hv e => hnx (by rw [← List.mem_singleton.mp hv, ← e]; exact hu)⟩
    walk_at "go"
    refine ⟨a, _, rfl, c2.2, by decide, by decide, fun r S2 r0 r1 c3 => ?_⟩
    walk_at "dl"
    refine ixS (s := "ABCDEFGHIJKLMNOPQRSTUVWXYZ") (fun c => 65 ≤ c ∧ c ≤ 90) (by decide +kernel) (by decide +kernel) r0 (by rw [show ("ABCDEFGHIJKLMNOPQRSTUVWXYZ" : Str).length = 26 from by decide +kernel]; exact r1) fun ch hch => ?_
    walk_at "dl"
    refine ⟨a, 0, 7, rfl, c3.2, by decide, by decide, fun x S3 hx1 l0 l7 c4 => ?_⟩
    walk_at "dl"
    refine ⟨szOk (by have e1 : (⟨#[ch]⟩ : Str).length = 1 := rfl; rw [e1, len_toList]; omega), ?_⟩
    have c34 := c3.trans c4
    have hp3 : S3 p = some (.lst (xs.map D.str)) := c34.get c2.2 hp
    walk_at "go"
    rw [hp3]
    walk_at "dl"
    refine ⟨xs, strsOf_of xs, ite2 (fun c => ?_) (fun c => ?_)⟩
    · walk_at "dl"
      intro q nq
      refine ⟨⟨_, rfl⟩, fun r nr => ?_⟩
      have cq := c34.new (o := .lst [.str "Qa", .str "Qb", .str "Qc", .str "Qd", .str "Qe", .str "Qf", .str "Qg"]) c2.2 nq
      have hqr : q ≠ r := fun z => by rw [z, put_same] at nr; cases nr
      refine lcB_flt ["Qa", "Qb", "Qc", "Qd", "Qe", "Qf", "Qg"] (fun x => decide (x ∉ xs)) (fun k acc => ?_) (by decide) (fun x acc N hN => ?_) (fun x S Y y => ?_) ?_
      · show lstJ (put (put S3 q _) r (.lst acc) q) k = _
        rw [put_ne hqr, put_same]
        rfl
      · walk_at "dl"
        have hpr : put (put S3 q (DO.lst [.str "Qa", .str "Qb", .str "Qc", .str "Qd", .str "Qe", .str "Qf", .str "Qg"])) r (.lst acc) p = some (.lst (xs.map D.str)) := by
          have c5 := cq.new c2.2 nr (o := .lst acc)
          exact c5.get c2.2 hp
        rw [hpr]
        walk_at "dl"
        refine ⟨xs, strsOf_of xs, ?_⟩
        rw [show (!decide (x ∈ xs)) = decide (x ∉ xs) from by simp]
        exact hN
      · walk_at "dl"
        exact y
      · obtain ⟨x, rr, e, hxm, hxn⟩ := free_one (c := [("Qa" : Str), "Qb", "Qc", "Qd", "Qe", "Qf", "Qg"]) (xs := xs) (by decide +kernel) (by simp; omega)
        rw [e]
        walk_at "dl"
        refine last x _ (cq.new c2.2 nr) ?_ hxn _ (fun _ _ => False) (fun _ _ => False) fun _ _ => False
        have all : ∀ x ∈ [("Qa" : Str), "Qb", "Qc", "Qd", "Qe", "Qf", "Qg"], ∃ c, chLow c ∧ x.cps.toList = [81, c] := by
          intro x hx
          simp only [List.mem_cons, List.not_mem_nil, or_false] at hx
          rcases hx with rfl | rfl | rfl | rfl | rfl | rfl | rfl
          · exact ⟨97, by decide, by decide +kernel⟩
          · exact ⟨98, by decide, by decide +kernel⟩
          · exact ⟨99, by decide, by decide +kernel⟩
          · exact ⟨100, by decide, by decide +kernel⟩
          · exact ⟨101, by decide, by decide +kernel⟩
          · exact ⟨102, by decide, by decide +kernel⟩
          · exact ⟨103, by decide, by decide +kernel⟩
        obtain ⟨c, hc, e⟩ := all x hxm
        exact ⟨81, [c], e, by decide, fun z hz => by cases List.mem_singleton.mp hz; exact hc, by simp⟩
    · walk_at "dl"
      refine last _ S3 c34 ⟨ch, x.cps.toList, ?_, hch, hx1, l7⟩ (by simpa using c) _ (fun _ _ => False) (fun _ _ => False) fun _ _ => False
      rw [app_toList]
      rfl
  · rintro δ S' ⟨xs, o3, o4, rfl, c2, hp, hl, hx, hxd⟩
    walk_at "dl"
    exact ⟨S', Sub.refl, h xs p S' c2 hp hl hx hxd⟩
end
end K72

set_option Elab.async false
set_option maxRecDepth 100000
set_option linter.unusedVariables false
namespace DL
open PySem PySem.Spec PyProof.Rows L2
theorem seq_cut {A u : TSD} {G : EndsD} {δ : StD} {S : Store} (P : StD → Store → Prop) (h1 : ∀ N : StD → Store → Prop, (∀ δ' S', P δ' S' → N δ' S') → A { G with nx := N } δ S) (h2 : ∀ δ' S', P δ' S' → u G δ' S') : tSeqD A u G δ S := h1 _ h2
theorem orIf {A B : Prop} {_ : Decidable A} {_ : Decidable B} {X Y : Prop} (h1 : X) (h2 : ¬ A → ¬ B → Y) : if A then X else if B then X else Y := by
  by_cases a : A
  · rw [if_pos a]; exact h1
  · rw [if_neg a]
    by_cases b : B
    · rw [if_pos b]; exact h1
    · rw [if_neg b]; exact h2 a b
end DL
namespace K72
open PySem PySem.Spec PyProof.Rows L2 DL
local macro_rules | `(tactic| walk_at "dl") => `(tactic| try simp only [DL.tAsgD, DL.asg, DL.tVarD, DL.lk, DL.sto, DL.stos, DL.tOpD, DL.tCD, DL.tCallD, DL.tConsD, DL.tNilD, DL.tRetD, DL.endsD, DL.startD, DL.tIfSD, DL.tTestD, DL.tNextD, DL.tDropD, DL.tAndD, DL.tOrD, DL.tNotD, DL.tAndV, DL.tOrV, DL.tNotV, DL.tIfD, DL.tNegD, DL.tTupD, DL.tLstD, DL.tSetD, DL.tMD, DL.tSlD, DL.tPartD, DL.tNoD, DL.tRevD, DL.tForD, DL.tLcD, DL.tIterD, DL.tRng1D, DL.tRng2D, DL.tYesD, DL.wipeD, DL.tDictD, DL.tDictOne, DL.tFldD, DL.tMethD, DL.tMakeD, DL.tSetF, DL.tThaw, DL.thaw, DL.tLRg, DL.keyOf, DL.emE_rr, DL.tLess, DL.tLessS, DL.itOk, DL.rAdd_ii, DL.rAdd_ss, DL.rAdd_tt, DL.rAdd_rr, DL.rSub_ii, DL.rMod_ii, DL.rDiv_ii, DL.rPow_ii, DL.rMul_ii, DL.rMul_ri, DL.rLt_ii, DL.rLt_ss, DL.rLe_ii, DL.rGt_ii, DL.rGe_ii, DL.rEq_ii, DL.rEq_ss, DL.rEq_bb, DL.rNe_ii, DL.rNe_ss, DL.rNe_bb, DL.rEq_rr, DL.rNe_rr, DL.rEq_tt, DL.rNe_tt, DL.rIn_st, DL.rNotIn_st, DL.rIn_r, DL.rNotIn_r, DL.rIn_ss, DL.rInDO_sl, DL.rInDO_il, DL.rInDO_sd, DL.rInDO_id, DL.rIsN_n, DL.rIsN_t, DL.rIsN_i, DL.rIsN_s, DL.rIsN_r, DL.rNotN_n, DL.rNotN_t, DL.rNotN_i, DL.rNotN_s, DL.rNotN_r, DL.rIx_t, DL.rIx_r, DL.rIx_s, DL.rIxDO_l, DL.rIxDO_ds, DL.rIx0, DL.rIx1, DL.rIx2, DL.rIx3, DL.rSl_t, DL.rSl_s, DL.rSl_o, DL.rSl_r, DL.rSlDO, DL.rSet_r, DL.rSetDO_0, DL.rSetDO_s, DL.rLen_t, DL.rLen_o, DL.rLen_s, DL.rLen_r, DL.rLenDO, DL.rLenDO_d, DL.rList_t, DL.rList_o, DL.rList_r, DL.rListDO, DL.rTuple_t, DL.rTuple_r, DL.rInt_i, DL.rInt_b, DL.rMax, DL.rMin, DL.rSz0, DL.rSz1, DL.rSz2, DL.rSz3, DL.rSz4, DL.rSz5, DL.rSz6, DL.rSz7, DL.rSz8, Option.some.injEq, DL.DO.lst.injEq, exists_eq_left', exists_eq_left, DL.put_same, DL.put_put, true_and, and_true, List.map, List.replicate, List.length, List.cons_append, List.nil_append, Nat.reduceSub, Nat.reduceAdd, decide_eq_true_eq, if_true, if_false, Bool.false_eq_true, Bool.not_true, Bool.not_false])
local macro_rules | `(tactic| walk_at "dlh") => `(tactic| try simp only [*, DL.tAsgD, DL.asg, DL.tVarD, DL.lk, DL.sto, DL.stos, DL.tOpD, DL.tCD, DL.tCallD, DL.tConsD, DL.tNilD, DL.tRetD, DL.endsD, DL.startD, DL.tIfSD, DL.tTestD, DL.tNextD, DL.tDropD, DL.tAndD, DL.tOrD, DL.tNotD, DL.tAndV, DL.tOrV, DL.tNotV, DL.tIfD, DL.tNegD, DL.tTupD, DL.tLstD, DL.tSetD, DL.tMD, DL.tSlD, DL.tPartD, DL.tNoD, DL.tRevD, DL.tForD, DL.tLcD, DL.tIterD, DL.tRng1D, DL.tRng2D, DL.tYesD, DL.wipeD, DL.tDictD, DL.tDictOne, DL.tFldD, DL.tMethD, DL.tMakeD, DL.tSetF, DL.tThaw, DL.thaw, DL.tLRg, DL.keyOf, DL.emE_rr, DL.tLess, DL.tLessS, DL.itOk, DL.rAdd_ii, DL.rAdd_ss, DL.rAdd_tt, DL.rAdd_rr, DL.rSub_ii, DL.rMod_ii, DL.rDiv_ii, DL.rPow_ii, DL.rMul_ii, DL.rMul_ri, DL.rLt_ii, DL.rLt_ss, DL.rLe_ii, DL.rGt_ii, DL.rGe_ii, DL.rEq_ii, DL.rEq_ss, DL.rEq_bb, DL.rNe_ii, DL.rNe_ss, DL.rNe_bb, DL.rEq_rr, DL.rNe_rr, DL.rEq_tt, DL.rNe_tt, DL.rIn_st, DL.rNotIn_st, DL.rIn_r, DL.rNotIn_r, DL.rIn_ss, DL.rInDO_sl, DL.rInDO_il, DL.rInDO_sd, DL.rInDO_id, DL.rIsN_n, DL.rIsN_t, DL.rIsN_i, DL.rIsN_s, DL.rIsN_r, DL.rNotN_n, DL.rNotN_t, DL.rNotN_i, DL.rNotN_s, DL.rNotN_r, DL.rIx_t, DL.rIx_r, DL.rIx_s, DL.rIxDO_l, DL.rIxDO_ds, DL.rIx0, DL.rIx1, DL.rIx2, DL.rIx3, DL.rSl_t, DL.rSl_s, DL.rSl_o, DL.rSl_r, DL.rSlDO, DL.rSet_r, DL.rSetDO_0, DL.rSetDO_s, DL.rLen_t, DL.rLen_o, DL.rLen_s, DL.rLen_r, DL.rLenDO, DL.rLenDO_d, DL.rList_t, DL.rList_o, DL.rList_r, DL.rListDO, DL.rTuple_t, DL.rTuple_r, DL.rInt_i, DL.rInt_b, DL.rMax, DL.rMin, DL.rSz0, DL.rSz1, DL.rSz2, DL.rSz3, DL.rSz4, DL.rSz5, DL.rSz6, DL.rSz7, DL.rSz8, Option.some.injEq, DL.DO.lst.injEq, exists_eq_left', exists_eq_left, DL.put_same, DL.put_put, true_and, and_true, List.map, List.replicate, List.length, List.cons_append, List.nil_append, Nat.reduceSub, Nat.reduceAdd, decide_eq_true_eq, if_true, if_false, Bool.false_eq_true, Bool.not_true, Bool.not_false])
local macro_rules | `(tactic| walk_at "go") => `(tactic| repeat (first | (refine DL.sq ?_; try walk_at "dl") | (refine DL.ifY rfl ?_; try walk_at "dl") | (refine DL.inY rfl (by decide) ?_; try walk_at "dl") | (refine DL.inN rfl (by decide) ?_; try walk_at "dl") | (refine DL.ifN (by decide) ?_; try walk_at "dl")))
abbrev s_l_kinds : Stmt := top 17
theorem sc_l_kinds : FnScope ["_law_deck_here", "_law_many", "_law_taken", "_law_kinds_here", "_law_k", "_law_word_here", "_law_way", "_law_at", "_law_sign", "_law_one"] ["_law_deck_here", "_law_many"] (defScope s_l_kinds) := ⟨rfl, rfl, rfl, by decide +kernel, rfl, by decide +kernel, by decide +kernel⟩
def spKinds : SpD := fun ds S Q => ∃ (a : Addr) (m : Nat), ds = [.ref a, .int (m : Nat)] ∧ Dk a S ∧ m ≤ 14 ∧
  ∀ (xs : List Str) (p : Addr) (S' : Store), Ch a S S' → S p = none → S' p = some (.lst (xs.map D.str)) → xs.length = m → xs.Nodup → (∀ x ∈ xs, Wd x) → Q (.ref p) S'
def KdI (S : Store) (a : Addr) (m : Nat) (q p : Addr) (tk : List Str) (i : Nat) : StD → Store → Prop := fun δ S' => ∃ (xs : List Str) (o4 o5 o6 o7 : Option D), δ = [some (.ref a), some (.int (m : Nat)), some (.ref q), some (.ref p), o4, o5, o6, o7, none, none] ∧
  Ch a S S' ∧ S' q = some (.lst (tk.map D.str)) ∧ S' p = some (.lst (xs.map D.str)) ∧ xs.length = i ∧ xs.Nodup ∧ ∀ x ∈ xs, Wd x
abbrev abcT : Str := "abcdefghijklmnopqrst"
theorem abcT_all : ∀ c ∈ abcT.cps.toList, chLow c := by decide +kernel
def qL : List Str := abcT.cps.toList.map fun c => ("q" : Str) ++ ⟨#[c]⟩
theorem qL_nd : qL.Nodup := by decide +kernel
theorem qL_len : qL.length = 20 := by decide +kernel
theorem qL_wd : ∀ x ∈ qL, Wd x := by
  intro x hx
  obtain ⟨c, hc, rfl⟩ := List.mem_map.mp hx
  have h1 := abcT_all c hc
  have e : (("q" : Str) ++ ⟨#[c]⟩ : Str).cps.toList = [113, c] := by rw [app_toList]; rfl
  refine ⟨fun z hz => ?_, ?_, ?_⟩
  · rw [e] at hz
    simp at hz
    rcases hz with rfl | rfl
    · decide
    · exact h1
  · rw [e]; simp
  · rw [e]; simp
section
variable {P : Program} {w : World} {K : PySem.W.Frag} {mg : Str → Option Value} {base : Heap}
theorem df_kinds {k : Nat} (T : Bt mg) (A : At K mg "_law_kinds" "_law_kinds" s_l_kinds) (G_l_draw : Df P w K mg base "_law_draw" k spDrawC) (G_l_word : Df P w K mg base "_law_word" k spWord) : Df P w K mg base "_law_kinds" (k + 1) spKinds := by
  have nd := sc_l_kinds.nd
  refine df_mk A rfl sc_l_kinds (fun _ _ _ _ _ _ us hl => match us, hl with | [_, _], _ => rfl) (fun ds S Q h => ?_) (fun f cdv A outer s H E hr ds S Q h => ?_)
  · obtain ⟨a, m, rfl, _⟩ := h
    rfl
  obtain ⟨a, m, rfl, hd, h1, h⟩ := h
  have hu := hu_of hr
  refine ⟨_, (dss_cons (ds_set (i := 2) nd rfl (Or.inl rfl) de_str)
    (dss_cons (ds_set (i := 2) nd rfl (Or.inl rfl) (de_m PySem.F.plainAttrs_str PySem.F.slot_str_split PySem.F.type_str_split md_split (de_op od_add (dv 2) de_str) (da_cons de_str da_nil)))
    (dss_cons (ds_set (i := 3) nd rfl (Or.inr rfl) (de_lst da_nil))
    (dss_cons (ds_for PassesOwn.never rfl (di_range1 rfl T.range_ (da_cons (dv 1) da_nil)) (dg_name (i := 4) nd rfl (Or.inl rfl)) (dss_cons (ds_set (i := 5) nd rfl (Or.inl rfl) (de_call G_l_word hr rfl (da_cons (dv 0) (da_cons de_int (da_cons de_int da_nil)))))
    (dss_cons (ds_set (i := 6) nd rfl (Or.inl rfl) (de_call G_l_draw hr rfl (da_cons (dv 0) (da_cons de_int da_nil))))
    (dss_cons (ds_if (dt_w (dw_and (dt_cmp (od_eq hr.units) (dv 6) de_int (nomark _)) (dw_and1 (dt_cmp (od_neE hr.units) (dv 3) (de_lst da_nil) (nomark _))))) (dss_one (ds_set (i := 5) nd rfl (Or.inl rfl) (de_slice (de_op od_add (de_ix hu (dv 3) de_int) (dv 5)) do_none (do_some de_int)))) dss_nil)
    (dss_cons (ds_if (dt_w (dw_and (dt_cmp (od_eq hr.units) (dv 6) de_int (nomark _)) (dw_and1 (dt_cmp (od_neE hr.units) (dv 3) (de_lst da_nil) (nomark _))))) (dss_cons (ds_set (i := 7) nd rfl (Or.inl rfl) (de_call G_l_draw hr rfl (da_cons (dv 0) (da_cons (de_callB cd_len rfl T.len_ (by decide +kernel) (da_cons (de_ix hu (dv 3) de_int) da_nil)) da_nil))))
    (dss_one (ds_set (i := 5) nd rfl (Or.inl rfl) (de_op od_add (de_op od_add (de_slice (de_ix hu (dv 3) de_int) do_none (do_some (dv 7))) (de_ix hu (dv 5) de_int)) (de_slice (de_ix hu (dv 3) de_int) (do_some (de_op od_add (dv 7) de_int)) do_none))))) dss_nil)
    (dss_cons (ds_if (dt_w (dw_or (dt_cmp (od_in hu) (dv 5) (dv 2) rfl) (dw_or1 (dt_cmp (od_in hu) (dv 5) (dv 3) rfl)))) (dss_one (ds_set (i := 5) nd rfl (Or.inl rfl) (de_ix hu (de_lc (own := [("_law_one", 9)]) (g := GD.one 9) rfl nd (di_any (de_lc (own := [("_law_sign", 8)]) (g := GD.one 8) rfl nd (di_any de_str) (blkOk_by (own := [("_law_sign", 8)]) (N := ["_law_deck_here", "_law_many", "_law_taken", "_law_kinds_here", "_law_k", "_law_word_here", "_law_way", "_law_at", "_law_sign", "_law_one"]) (sc := defScope s_l_kinds) (by decide +kernel)) (fun _ _ _ _ _ => (dg_name (i := 8) nd rfl (Or.inl rfl))) (fun _ _ _ _ _ => dts_nil) (fun _ _ _ _ _ => (de_op od_add de_str (dv 8))))) (blkOk_by (own := [("_law_one", 9)]) (N := ["_law_deck_here", "_law_many", "_law_taken", "_law_kinds_here", "_law_k", "_law_word_here", "_law_way", "_law_at", "_law_sign", "_law_one"]) (sc := defScope s_l_kinds) (by decide +kernel)) (fun _ _ _ _ _ => (dg_name (i := 9) nd rfl (Or.inl rfl))) (fun _ _ _ _ _ => (dts_one (dt_cmp (od_notIn hu) (dv 9) (dv 3) rfl))) (fun _ _ _ _ _ => (dv 9))) de_int))) dss_nil)
    (dss_one (ds_expr (de_m PySem.F.plainAttrs_list PySem.F.slot_list_append PySem.F.type_list_append md_append (dv 3) (da_cons (dv 5) da_nil))))))))))
    (dss_one (ds_ret (dv 3))))))), ?_⟩
  walk_at "go"
  refine ⟨by decide +kernel, ty_str, ?_⟩
  refine ⟨by decide +kernel, by decide +kernel, fun q nq => ?_⟩
  walk_at "go"
  intro p np
  have pa : q ≠ p := fun z => by rw [z, put_same] at np; cases np
  have np' : S p = none := by rw [put_ne pa.symm] at np; exact np
  generalize Txt.split (("absurd all an and any are as at be by false if is least many more no not only or same some than" : Str) ++ (" the then there every either unless" : Str)) (" " : Str) = tk at np
  refine sq ?_
  walk_at "dl"
  refine ⟨by omega, ?_⟩
  rw [Int.toNat_natCast]
  refine forB_rng (KdI S a m q p tk) ?_ ?_ ?_
  · exact ⟨[], none, none, none, none, rfl, ((Ch.refl hd).at hd nq).at hd np', by rw [put_ne pa, put_same], put_same, rfl, List.nodup_nil, fun x hx => by cases hx⟩
  · rintro i δ S' hi ⟨xs, o4, o5, o6, o7, rfl, c2, hq, hp, hl, hn, hx⟩
    walk_at "go"
    refine ⟨a, 2, 8, rfl, c2.2, by decide, by decide, fun x S3 hx1 l2 l8 c3 => ?_⟩
    walk_at "go"
    refine ⟨a, _, rfl, c3.2, by decide, by decide, fun r S4 r0 r1 c4 => ?_⟩
    walk_at "dl"
    have c34 := c3.trans c4
    have hx2 : Wd x := ⟨hx1, by omega, l8⟩
    obtain ⟨ch, xr, ex⟩ : ∃ ch xr, x.cps.toList = ch :: xr := by
      cases e : x.cps.toList with
      | nil => rw [e] at l2; simp at l2
      | cons c r => exact ⟨c, r, rfl⟩
    have tail2 : ∀ y : Str, y.cps.toList ≠ [] → ∃ c r, y.cps.toList = c :: r := fun y hy => by
      cases e : y.cps.toList with
      | nil => exact absurd e hy
      | cons c r => exact ⟨c, r, rfl⟩
    -- the first way
    refine seq_cut (fun δ' S5 => ∃ (y : Str) (o7 : Option D), δ' = [some (.ref a), some (.int m), some (.ref q), some (.ref p), some (.int (0 + ↑i)), some (.str y), some (.int r), o7, none, none] ∧ Ch a S' S5 ∧ Wd y) (fun N hN => ?_) ?_
    · walk_at "dl"
      refine ite2 (fun e1 => ?_) (fun e1 => ?_)
      · walk_at "dl"
        intro e ne
        have c5 := c34.new (o := .lst []) c2.2 ne
        refine ⟨xs.map D.str, c5.get c2.2 hp, ?_⟩
        cases xs with
        | nil =>
          refine ifN (by simp) ?_
          exact hN _ _ ⟨x, _, rfl, c5, hx2⟩
        | cons z zs =>
          refine ifY (by simp) ?_
          walk_at "dl"
          have hp5 := c5.get c2.2 hp
          rw [hp5]
          walk_at "dl"
          have hz := hx z List.mem_cons_self
          refine ⟨szOk (by rw [len_toList, len_toList]; have := hz.2.2; omega), szOk (by rw [len_toList, app_toList, List.length_append]; have := hz.2.2; omega), ?_⟩
          refine hN _ _ ⟨_, _, rfl, c5, fun w hw => ?_, ?_, ?_⟩
          · rw [cutS_toList, app_toList] at hw
            rcases List.mem_append.mp (cutL_mem hw) with hw | hw
            · exact hz.1 w hw
            · exact hx1 w hw
          · rw [cutS_toList, app_toList]
            have := hz.2.1
            have e8 : 1 ≤ (z.cps.toList ++ x.cps.toList).length := by rw [List.length_append]; omega
            unfold cutL
            rw [show (8 : Int) = ((8 : Nat) : Int) from rfl, HT.sIx_nat, HT.sIx_none, List.length_take, List.length_drop]
            omega
          · rw [cutS_toList, app_toList]
            unfold cutL
            rw [show (8 : Int) = ((8 : Nat) : Int) from rfl, HT.sIx_nat, HT.sIx_none, List.length_take, List.length_drop]
            omega
      · walk_at "dl"
        exact hN _ _ ⟨x, _, rfl, c34, hx2⟩
    rintro δ' S5 ⟨y, o7', rfl, c5, hy⟩
    -- the second way
    refine seq_cut (fun δ' S6 => ∃ (y : Str) (o7 : Option D), δ' = [some (.ref a), some (.int m), some (.ref q), some (.ref p), some (.int (0 + ↑i)), some (.str y), some (.int r), o7, none, none] ∧ Ch a S' S6 ∧ Wd y) (fun N hN => ?_) ?_
    · walk_at "dl"
      refine ite2 (fun e1 => ?_) (fun e1 => ?_)
      · walk_at "dl"
        intro e ne
        have c6 := c5.new (o := .lst []) c2.2 ne
        refine ⟨xs.map D.str, c6.get c2.2 hp, ?_⟩
        cases xs with
        | nil =>
          refine ifN (by simp) ?_
          exact hN _ _ ⟨y, _, rfl, c6, hy⟩
        | cons z zs =>
          refine ifY (by simp) ?_
          have hz := hx z List.mem_cons_self
          walk_at "go"
          have hp6 := c6.get c2.2 hp
          rw [hp6]
          walk_at "dl"
          refine ⟨szOk (by rw [len_toList]; have := hz.2.2; omega), ?_⟩
          refine ⟨a, _, rfl, c6.2, by rw [len_toList]; have := hz.2.1; omega, by rw [len_toList]; have := hz.2.2; omega, fun at_ S7 a0 a1 c7 => ?_⟩
          walk_at "dl"
          have hp7 := c7.get c6.2 hp6
          rw [hp7]
          walk_at "dl"
          refine ⟨szOk (by rw [len_toList]; have := hz.2.2; omega), ?_⟩
          refine ixS (s := y) chLow hy.1 (by rw [len_toList]; have := hy.2.2; omega) (by omega) (by rw [len_toList]; have := hy.2.1; omega) fun ch' hch => ?_
          walk_at "dl"
          rw [len_toList] at a1
          have e1 : (⟨#[ch']⟩ : Str).length = 1 := rfl
          have e2 : (cutS z none (some at_)).cps.toList.length ≤ 8 := by rw [cutS_toList]; exact Nat.le_trans cutL_le hz.2.2
          have e3 : (cutS z (some (at_ + 1)) none).cps.toList.length ≤ 8 := by rw [cutS_toList]; exact Nat.le_trans cutL_le hz.2.2
          refine ⟨szOk (by rw [e1, len_toList]; omega), ?_⟩
          rw [hp7]
          walk_at "dl"
          refine ⟨szOk (by rw [len_toList]; have := hz.2.2; omega), szOk (by rw [len_toList, len_toList, app_toList, List.length_append]; have : (⟨#[ch']⟩ : Str).cps.toList.length = 1 := rfl; omega), ?_⟩
          have eL : ((cutS z none (some at_) ++ ⟨#[ch']⟩) ++ cutS z (some (at_ + 1)) none : Str).cps.toList.length = z.cps.toList.length := by
            rw [app_toList, app_toList, cutS_toList, cutS_toList, List.length_append, List.length_append]
            have : (⟨#[ch']⟩ : Str).cps.toList.length = 1 := rfl
            rw [this]
            obtain ⟨j, rfl⟩ : ∃ j : Nat, at_ = j := ⟨at_.toNat, by omega⟩
            unfold cutL
            rw [show ((j : Int) + 1) = ((j + 1 : Nat) : Int) from by omega, HT.sIx_nat, HT.sIx_nat, HT.sIx_none, HT.sIx_none, List.length_take, List.length_take, List.length_drop, List.length_drop]
            omega
          refine hN _ _ ⟨_, _, rfl, c6.trans c7, fun w hw => ?_, ?_, ?_⟩
          · rw [app_toList, app_toList, cutS_toList, cutS_toList] at hw
            rcases List.mem_append.mp hw with hw | hw
            · rcases List.mem_append.mp hw with hw | hw
              · exact hz.1 w (cutL_mem hw)
              · cases List.mem_singleton.mp hw; exact hch
            · exact hz.1 w (cutL_mem hw)
          · rw [eL]; exact hz.2.1
          · rw [eL]; exact hz.2.2
      · walk_at "dl"
        exact hN _ _ ⟨y, _, rfl, c5, hy⟩
    rintro δ' S6 ⟨y', o7', rfl, c6, hy'⟩
    have hp6 := c6.get c2.2 hp
    have hq6 := c6.get c2.2 hq
    -- none twice
    refine seq_cut (fun δ' S6 => ∃ (y : Str) (o7 : Option D), δ' = [some (.ref a), some (.int m), some (.ref q), some (.ref p), some (.int (0 + ↑i)), some (.str y), some (.int r), o7, none, none] ∧ Ch a S' S6 ∧ Wd y ∧ y ∉ xs) (fun N hN => ?_) ?_
    · walk_at "dl"
      rw [hq6]
      simp only [rInDO_sl, strsOf_of, Option.some.injEq, exists_eq_left', id]
      rw [hp6]
      simp only [rInDO_sl, strsOf_of, Option.some.injEq, exists_eq_left', id]
      refine orIf ?_ (fun n1 n2 => ?_)
      · intro r1 nr1
        refine lcB_zip (abcT.cps.toList.map fun c => D.str ⟨#[c]⟩) (qL.map D.str) (by simp [qL]) (fun k acc => ?_) (by rw [List.length_map]; exact szOk (by decide +kernel)) (fun k d r acc Y N' e1 e2 y => ?_) ?_
        · show some ((abcT.cps[k]?).map _) = some ((abcT.cps.toList.map _)[k]?)
          rw [List.getElem?_map]
          simp
        · rw [List.getElem?_map] at e1 e2
          unfold qL at e2
          rw [List.getElem?_map] at e2
          cases e : abcT.cps.toList[k]? with
          | none => rw [e] at e1; cases e1
          | some c =>
            rw [e] at e1 e2
            cases e1
            cases e2
            walk_at "dl"
            exact ⟨szOk (by rw [show ("q" : Str).length = 1 from by decide +kernel, show (⟨#[c]⟩ : Str).length = 1 from rfl]; decide), y⟩
        · have c7 := c6.new (o := .lst (qL.map D.str)) c2.2 nr1
          walk_at "dl"
          refine ⟨⟨_, rfl⟩, fun r2 nr2 => ?_⟩
          have hne : r1 ≠ r2 := fun z => by rw [z, put_same] at nr2; cases nr2
          refine lcB_flt qL (fun x => decide (x ∉ xs)) (fun k acc => ?_) (by rw [qL_len]; decide) (fun x acc N' hN' => ?_) (fun x S Y y => ?_) ?_
          · show lstJ (put (put S6 r1 _) r2 (.lst acc) r1) k = _
            rw [put_ne hne, put_same]
            rfl
          · walk_at "dl"
            have c8 := c7.new c2.2 nr2 (o := .lst acc)
            rw [c8.get c2.2 hp]
            walk_at "dl"
            refine ⟨xs, strsOf_of xs, ?_⟩
            rw [show (!decide (x ∈ xs)) = decide (x ∉ xs) from by simp]
            exact hN'
          · walk_at "dl"
            exact y
          · obtain ⟨x, rr, e, hxm, hxn⟩ := free_one (c := qL) (xs := xs) qL_nd (by rw [qL_len]; omega)
            rw [e]
            walk_at "dl"
            exact hN _ _ ⟨x, _, rfl, c7.new c2.2 nr2, qL_wd x hxm, hxn⟩
      · walk_at "dl"
        exact hN _ _ ⟨y', _, rfl, c6, hy', by simpa using n2⟩
    rintro δ' S7 ⟨z, o7'', rfl, c7, hz, hzn⟩
    walk_at "dl"
    have hp7 := c7.get c2.2 hp
    refine ⟨ty_list hp7, append_of hp7 (szLt (by rw [List.length_map]; omega)) ?_⟩
    refine ⟨xs ++ [z], _, _, _, _, rfl, (c2.trans c7).at hd np', by rw [put_ne pa]; exact c7.get c2.2 hq, by rw [put_same]; simp, by simp [hl], ?_, fun w hw => ?_⟩
    · rw [List.nodup_append]
      exact ⟨hn, by simp, fun u hu v hv e => by cases List.mem_singleton.mp hv; exact hzn (e ▸ hu)⟩
    · rcases List.mem_append.mp hw with hw | hw
      · exact hx w hw
      · cases List.mem_singleton.mp hw; exact hz
  · rintro δ S' ⟨xs, o4, o5, o6, o7, rfl, c2, hq, hp, hl, hn, hx⟩
    walk_at "dl"
    exact ⟨S', Sub.refl, h xs p S' c2 np' hp hl hn hx⟩
end
end K72

set_option Elab.async false
set_option maxRecDepth 100000
set_option linter.unusedVariables false
namespace DL
open PySem PySem.Spec PyProof.Rows L2
theorem seq_if {c : TTD} {t u rest : TSD} {G : EndsD} {δ : StD} {S : Store} (Pt Pf : Store → Prop) (hc : ∀ N : Bool → Store → Prop, (∀ S', Pt S' → N true S') → (∀ S', Pf S' → N false S') → c δ S N)
    (ht : ∀ S', Pt S' → t { G with nx := rest G } δ S') (hf : ∀ S', Pf S' → u { G with nx := rest G } δ S') : tSeqD (tIfSD c t u) rest G δ S :=
  hc _ (fun S' p => by show if true = true then _ else _; rw [if_pos rfl]; exact ht S' p) fun S' p => by show if false = true then _ else _; rw [if_neg (by simp)]; exact hf S' p
end DL
namespace K72
open PySem PySem.Spec PyProof.Rows L2 DL
local macro_rules | `(tactic| walk_at "dl") => `(tactic| try simp only [DL.tAsgD, DL.asg, DL.tVarD, DL.lk, DL.sto, DL.stos, DL.tOpD, DL.tCD, DL.tCallD, DL.tConsD, DL.tNilD, DL.tRetD, DL.endsD, DL.startD, DL.tIfSD, DL.tTestD, DL.tNextD, DL.tDropD, DL.tAndD, DL.tOrD, DL.tNotD, DL.tAndV, DL.tOrV, DL.tNotV, DL.tIfD, DL.tNegD, DL.tTupD, DL.tLstD, DL.tSetD, DL.tMD, DL.tSlD, DL.tPartD, DL.tNoD, DL.tRevD, DL.tForD, DL.tLcD, DL.tIterD, DL.tRng1D, DL.tRng2D, DL.tYesD, DL.wipeD, DL.tDictD, DL.tDictOne, DL.tFldD, DL.tMethD, DL.tMakeD, DL.tSetF, DL.tThaw, DL.thaw, DL.tLRg, DL.keyOf, DL.emE_rr, DL.tLess, DL.tLessS, DL.itOk, DL.rAdd_ii, DL.rAdd_ss, DL.rAdd_tt, DL.rAdd_rr, DL.rSub_ii, DL.rMod_ii, DL.rDiv_ii, DL.rPow_ii, DL.rMul_ii, DL.rMul_ri, DL.rLt_ii, DL.rLt_ss, DL.rLe_ii, DL.rGt_ii, DL.rGe_ii, DL.rEq_ii, DL.rEq_ss, DL.rEq_bb, DL.rNe_ii, DL.rNe_ss, DL.rNe_bb, DL.rEq_rr, DL.rNe_rr, DL.rEq_tt, DL.rNe_tt, DL.rIn_st, DL.rNotIn_st, DL.rIn_r, DL.rNotIn_r, DL.rIn_ss, DL.rInDO_sl, DL.rInDO_il, DL.rInDO_sd, DL.rInDO_id, DL.rIsN_n, DL.rIsN_t, DL.rIsN_i, DL.rIsN_s, DL.rIsN_r, DL.rNotN_n, DL.rNotN_t, DL.rNotN_i, DL.rNotN_s, DL.rNotN_r, DL.rIx_t, DL.rIx_r, DL.rIx_s, DL.rIxDO_l, DL.rIxDO_ds, DL.rIx0, DL.rIx1, DL.rIx2, DL.rIx3, DL.rSl_t, DL.rSl_s, DL.rSl_o, DL.rSl_r, DL.rSlDO, DL.rSet_r, DL.rSetDO_0, DL.rSetDO_s, DL.rLen_t, DL.rLen_o, DL.rLen_s, DL.rLen_r, DL.rLenDO, DL.rLenDO_d, DL.rList_t, DL.rList_o, DL.rList_r, DL.rListDO, DL.rTuple_t, DL.rTuple_r, DL.rInt_i, DL.rInt_b, DL.rMax, DL.rMin, DL.rSz0, DL.rSz1, DL.rSz2, DL.rSz3, DL.rSz4, DL.rSz5, DL.rSz6, DL.rSz7, DL.rSz8, Option.some.injEq, DL.DO.lst.injEq, exists_eq_left', exists_eq_left, DL.put_same, DL.put_put, true_and, and_true, List.map, List.replicate, List.length, List.cons_append, List.nil_append, Nat.reduceSub, Nat.reduceAdd, decide_eq_true_eq, if_true, if_false, Bool.false_eq_true, Bool.not_true, Bool.not_false])
local macro_rules | `(tactic| walk_at "dlh") => `(tactic| try simp only [*, DL.tAsgD, DL.asg, DL.tVarD, DL.lk, DL.sto, DL.stos, DL.tOpD, DL.tCD, DL.tCallD, DL.tConsD, DL.tNilD, DL.tRetD, DL.endsD, DL.startD, DL.tIfSD, DL.tTestD, DL.tNextD, DL.tDropD, DL.tAndD, DL.tOrD, DL.tNotD, DL.tAndV, DL.tOrV, DL.tNotV, DL.tIfD, DL.tNegD, DL.tTupD, DL.tLstD, DL.tSetD, DL.tMD, DL.tSlD, DL.tPartD, DL.tNoD, DL.tRevD, DL.tForD, DL.tLcD, DL.tIterD, DL.tRng1D, DL.tRng2D, DL.tYesD, DL.wipeD, DL.tDictD, DL.tDictOne, DL.tFldD, DL.tMethD, DL.tMakeD, DL.tSetF, DL.tThaw, DL.thaw, DL.tLRg, DL.keyOf, DL.emE_rr, DL.tLess, DL.tLessS, DL.itOk, DL.rAdd_ii, DL.rAdd_ss, DL.rAdd_tt, DL.rAdd_rr, DL.rSub_ii, DL.rMod_ii, DL.rDiv_ii, DL.rPow_ii, DL.rMul_ii, DL.rMul_ri, DL.rLt_ii, DL.rLt_ss, DL.rLe_ii, DL.rGt_ii, DL.rGe_ii, DL.rEq_ii, DL.rEq_ss, DL.rEq_bb, DL.rNe_ii, DL.rNe_ss, DL.rNe_bb, DL.rEq_rr, DL.rNe_rr, DL.rEq_tt, DL.rNe_tt, DL.rIn_st, DL.rNotIn_st, DL.rIn_r, DL.rNotIn_r, DL.rIn_ss, DL.rInDO_sl, DL.rInDO_il, DL.rInDO_sd, DL.rInDO_id, DL.rIsN_n, DL.rIsN_t, DL.rIsN_i, DL.rIsN_s, DL.rIsN_r, DL.rNotN_n, DL.rNotN_t, DL.rNotN_i, DL.rNotN_s, DL.rNotN_r, DL.rIx_t, DL.rIx_r, DL.rIx_s, DL.rIxDO_l, DL.rIxDO_ds, DL.rIx0, DL.rIx1, DL.rIx2, DL.rIx3, DL.rSl_t, DL.rSl_s, DL.rSl_o, DL.rSl_r, DL.rSlDO, DL.rSet_r, DL.rSetDO_0, DL.rSetDO_s, DL.rLen_t, DL.rLen_o, DL.rLen_s, DL.rLen_r, DL.rLenDO, DL.rLenDO_d, DL.rList_t, DL.rList_o, DL.rList_r, DL.rListDO, DL.rTuple_t, DL.rTuple_r, DL.rInt_i, DL.rInt_b, DL.rMax, DL.rMin, DL.rSz0, DL.rSz1, DL.rSz2, DL.rSz3, DL.rSz4, DL.rSz5, DL.rSz6, DL.rSz7, DL.rSz8, Option.some.injEq, DL.DO.lst.injEq, exists_eq_left', exists_eq_left, DL.put_same, DL.put_put, true_and, and_true, List.map, List.replicate, List.length, List.cons_append, List.nil_append, Nat.reduceSub, Nat.reduceAdd, decide_eq_true_eq, if_true, if_false, Bool.false_eq_true, Bool.not_true, Bool.not_false])
local macro_rules | `(tactic| walk_at "go") => `(tactic| repeat (first | (refine DL.sq ?_; try walk_at "dl") | (refine DL.ifY rfl ?_; try walk_at "dl") | (refine DL.inY rfl (by decide) ?_; try walk_at "dl") | (refine DL.inN rfl (by decide) ?_; try walk_at "dl") | (refine DL.ifN (by decide) ?_; try walk_at "dl")))
abbrev s_l_leaf : Stmt := top 20
theorem sc_l_leaf : FnScope ["_law_deck_here", "_law_words", "_law_terms", "_law_names_here", "_law_kinds_here", "_law_doings", "_law_way", "_law_one", "_law_other"] ["_law_deck_here", "_law_words", "_law_terms"] (defScope s_l_leaf) := ⟨rfl, rfl, rfl, by decide +kernel, rfl, by decide +kernel, by decide +kernel⟩
abbrev s_l_form : Stmt := top 21
theorem sc_l_form : FnScope ["_law_deck_here", "_law_words", "_law_letters", "_law_deep", "_law_mark", "_law_way", "_law_terms", "_law_x", "_law_inner", "_law_one"] ["_law_deck_here", "_law_words", "_law_letters", "_law_deep", "_law_mark"] (defScope s_l_form) := ⟨rfl, rfl, rfl, by decide +kernel, rfl, by decide +kernel, by decide +kernel⟩
structure Wrds (S : Store) (pn pk pd : Addr) (ns ks dos : List Str) : Prop where
  n : S pn = some (.lst (ns.map D.str))
  k : S pk = some (.lst (ks.map D.str))
  d : S pd = some (.lst (dos.map D.str))
  ln : ns.length ≤ 50
  lk : ks.length ≤ 50
  ld : dos.length ≤ 50
theorem Wrds.ch {S S' : Store} {a pn pk pd : Addr} {ns ks dos : List Str} (w : Wrds S pn pk pd ns ks dos) (d : Dk a S) (c : Ch a S S') : Wrds S' pn pk pd ns ks dos := ⟨c.get d w.n, c.get d w.k, c.get d w.d, w.ln, w.lk, w.ld⟩
abbrev wrds (pn pk pd : Addr) : D := .tup [.ref pn, .ref pk, .ref pd]
def spLeaf : SpD := fun ds S Q => ∃ (a pn pk pd pt : Addr) (ns ks dos ts : List Str), ds = [.ref a, wrds pn pk pd, .ref pt] ∧ Dk a S ∧ Wrds S pn pk pd ns ks dos ∧ S pt = some (.lst (ts.map D.str)) ∧ ts ≠ [] ∧ ts.length ≤ 200 ∧
  ∀ (F : Fm) (S' : Store), Ch a S S' → F.ok (· ∈ ts) (· ∈ ks) (· ∈ dos) → F.ht = 1 → F.sz = 1 → Q F.d S'
def emp (xs : List Str) : Nat := if xs.isEmpty = true then 1 else 0
def spForm (n : Nat) : SpD := fun ds S Q => ∃ (TT : Str → Prop) (a pn pk pd pl : Addr) (ns ks dos ls : List Str) (deep : Nat) (mark : Str), ds = [.ref a, wrds pn pk pd, .ref pl, .int (deep : Nat), .str mark] ∧ Dk a S ∧ Wrds S pn pk pd ns ks dos ∧ S pl = some (.lst (ls.map D.str)) ∧
  ls.length + deep + emp (ns ++ ls) ≤ 60 ∧ deep + emp (ns ++ ls) < n ∧ (∀ x ∈ ns, TT x) ∧ (∀ x ∈ ls, TT x) ∧ (∀ c, chLt c → TT ((⟨#[c]⟩ : Str) ++ mark)) ∧ mark.length ≤ 5 ∧
  ∀ (F : Fm) (S' : Store), Ch a S S' → F.ok TT (· ∈ ks) (· ∈ dos) → F.ht ≤ deep + 1 + emp (ns ++ ls) → F.sz + 1 ≤ 2 ^ (deep + 1) + emp (ns ++ ls) → Q F.d S'
theorem emp_snoc {ns ls : List Str} {x : Str} : emp (ns ++ (ls ++ [x])) = 0 := by unfold emp; simp
theorem emp_0 {xs : List Str} (h : xs.isEmpty = false) : emp xs = 0 := by unfold emp; simp [h]
theorem emp_1 {xs : List Str} (h : xs.isEmpty = true) : emp xs = 1 := by unfold emp; simp [h]
theorem emp_le {xs : List Str} : emp xs ≤ 1 := by unfold emp; split <;> omega
section
variable {P : Program} {w : World} {K : PySem.W.Frag} {mg : Str → Option Value} {base : Heap}
theorem df_leaf {k : Nat} (T : Bt mg) (A : At K mg "_law_leaf" "_law_leaf" s_l_leaf) (G_l_draw : Df P w K mg base "_law_draw" k spDrawC) : Df P w K mg base "_law_leaf" (k + 1) spLeaf := by
  have nd := sc_l_leaf.nd
  refine df_mk A rfl sc_l_leaf (fun _ _ _ _ _ _ us hl => match us, hl with | [_, _, _], _ => rfl) (fun ds S Q h => ?_) (fun f cdv A outer s H E hr ds S Q h => ?_)
  · obtain ⟨a, pn, pk, pd, pt, ns, ks, dos, ts, rfl, _⟩ := h
    rfl
  obtain ⟨a, pn, pk, pd, pt, ns, ks, dos, ts, rfl, hd, hw, ht, hne, hl, h⟩ := h
  have hu := hu_of hr
  have hts : 0 < ts.length := List.length_pos_iff.mpr hne
  refine ⟨_, (dss_cons (ds_asg (dv 1) (dg_tup rfl (dgs_cons (dg_name (i := 3) nd rfl (Or.inl rfl)) (dgs_cons (dg_name (i := 4) nd rfl (Or.inl rfl)) (dgs_cons (dg_name (i := 5) nd rfl (Or.inl rfl)) dgs_nil)))))
    (dss_cons (ds_set (i := 6) nd rfl (Or.inl rfl) (de_call G_l_draw hr rfl (da_cons (dv 0) (da_cons de_int da_nil))))
    (dss_cons (ds_set (i := 7) nd rfl (Or.inl rfl) (de_ix hu (dv 2) (de_op od_sub (de_op od_sub (de_callB cd_len rfl T.len_ (by decide +kernel) (da_cons (dv 2) da_nil)) de_int) (de_op od_div (de_call G_l_draw hr rfl (da_cons (dv 0) (da_cons (de_callB cd_len rfl T.len_ (by decide +kernel) (da_cons (dv 2) da_nil)) da_nil))) de_int))))
    (dss_cons (ds_set (i := 8) nd rfl (Or.inl rfl) (de_ix hu (dv 2) (de_call G_l_draw hr rfl (da_cons (dv 0) (da_cons (de_callB cd_len rfl T.len_ (by decide +kernel) (da_cons (dv 2) da_nil)) da_nil)))))
    (dss_cons (ds_if (dt_w (dw_and (dt_cmp (od_neE hr.units) (dv 5) (de_lst da_nil) (nomark _)) (dw_and1 (dt_cmp (od_eq hr.units) (dv 6) de_int (nomark _))))) (dss_one (ds_ret (de_tup (da_cons de_str (da_cons (de_ix hu (dv 5) (de_call G_l_draw hr rfl (da_cons (dv 0) (da_cons (de_callB cd_len rfl T.len_ (by decide +kernel) (da_cons (dv 5) da_nil)) da_nil)))) (da_cons (dv 7) (da_cons (dv 8) da_nil))))))) dss_nil)
    (dss_cons (ds_if (dt_w (dw_and (dt_cmp (od_neE hr.units) (dv 4) (de_lst da_nil) (nomark _)) (dw_and1 (dt_cmp (od_ne hr.units) (dv 6) de_int (nomark _))))) (dss_one (ds_ret (de_tup (da_cons de_str (da_cons (dv 7) (da_cons (de_ix hu (dv 4) (de_op od_sub (de_op od_sub (de_callB cd_len rfl T.len_ (by decide +kernel) (da_cons (dv 4) da_nil)) de_int) (de_op od_div (de_call G_l_draw hr rfl (da_cons (dv 0) (da_cons (de_callB cd_len rfl T.len_ (by decide +kernel) (da_cons (dv 4) da_nil)) da_nil))) (de_op od_add de_int (de_op od_mod (dv 6) de_int))))) da_nil)))))) dss_nil)
    (dss_one (ds_ret (de_tup (da_cons de_str (da_cons (dv 7) (da_cons (dv 8) da_nil)))))))))))), ?_⟩
  walk_at "go"
  refine ⟨a, _, rfl, hd, by decide, by decide, fun r S1 r0 r1 c1 => ?_⟩
  walk_at "go"
  have ht1 := c1.get hd ht
  rw [ht1]
  walk_at "dl"
  rw [ht1]
  walk_at "dl"
  rw [List.length_map]
  refine ⟨a, _, rfl, c1.2, by omega, by omega, fun r2 S2 q0 q1 c2' => ?_⟩
  have c2 := c1.trans c2'
  have ht2 := c2.get hd ht
  walk_at "dl"
  refine ⟨⟨by decide, by decide⟩, ?_⟩
  rw [ht2]
  walk_at "dl"
  refine ixStrs_mem (by omega) (by omega) fun t1 m1 => ?_
  walk_at "go"
  rw [ht2]
  walk_at "dl"
  rw [List.length_map]
  refine ⟨a, _, rfl, c2.2, by omega, by omega, fun r3 S3 p0 p1 c3' => ?_⟩
  have c3 := c2.trans c3'
  have ht3 := c3.get hd ht
  have w3 := hw.ch hd c3
  walk_at "dl"
  rw [ht3]
  walk_at "dl"
  refine ixStrs_mem (by omega) (by omega) fun t2 m2 => ?_
  refine seq_cut (fun δ' S4 => δ' = [some (.ref a), some (wrds pn pk pd), some (.ref pt), some (.ref pn), some (.ref pk), some (.ref pd), some (.int r), some (.str t1), some (.str t2)] ∧ Ch a S S4) (fun N hN => ?_) ?_
  · walk_at "dl"
    intro e ne
    have c4 := c3.new (o := .lst []) hd ne
    have w4 := hw.ch hd c4
    refine ⟨dos.map D.str, w4.d, ?_⟩
    cases dos with
    | nil =>
      refine ifN (by simp) ?_
      exact hN _ _ ⟨rfl, c4⟩
    | cons z zs =>
      refine ifY (by simp) (ite2 (fun e1 => ?_) (fun e1 => ?_))
      · walk_at "dl"
        have := w4.ld
        rw [w4.d]
        walk_at "dl"
        refine ⟨a, _, rfl, c4.2, by simp <;> omega, by simp at this ⊢; omega, fun r4 S5 g0 g1 c5' => ?_⟩
        have c5 := c4.trans c5'
        have w5 := hw.ch hd c5
        walk_at "dl"
        rw [w5.d]
        walk_at "dl"
        refine ixStrs_mem (xs := z :: zs) g0 (by simp at g1 ⊢; omega) fun dd md => ?_
        walk_at "dl"
        exact ⟨S5, Sub.refl, h (.does dd t1 t2) S5 c5 ⟨md, m1, m2⟩ rfl rfl⟩
      · exact hN _ _ ⟨rfl, c4⟩
  rintro δ' S4 ⟨rfl, c4⟩
  refine seq_cut (fun δ' S4 => δ' = [some (.ref a), some (wrds pn pk pd), some (.ref pt), some (.ref pn), some (.ref pk), some (.ref pd), some (.int r), some (.str t1), some (.str t2)] ∧ Ch a S S4) (fun N hN => ?_) ?_
  · walk_at "dl"
    intro e ne
    have c5 := c4.new (o := .lst []) hd ne
    have w5 := hw.ch hd c5
    refine ⟨ks.map D.str, w5.k, ?_⟩
    cases ks with
    | nil =>
      refine ifN (by simp) ?_
      exact hN _ _ ⟨rfl, c5⟩
    | cons z zs =>
      refine ifY (by simp) (ite2 (fun e1 => ?_) (fun e1 => ?_))
      · walk_at "dl"
        have := w5.lk
        rw [w5.k]
        walk_at "dl"
        rw [w5.k]
        walk_at "dl"
        refine ⟨a, _, rfl, c5.2, by simp <;> omega, by simp at this ⊢; omega, fun r4 S5 g0 g1 c6' => ?_⟩
        have c6 := c5.trans c6'
        have w6 := hw.ch hd c6
        walk_at "dl"
        refine ⟨by decide, ⟨by omega, by omega⟩, ?_⟩
        rw [w6.k]
        walk_at "dl"
        have e2 : 0 ≤ r4 / (1 + r % 2) := Int.ediv_nonneg g0 (by omega)
        have e3 : r4 / (1 + r % 2) ≤ r4 := Int.ediv_le_self _ g0
        refine ixStrs_mem (xs := z :: zs) (by simp at g1 ⊢; omega) (by simp at g1 ⊢; omega) fun kk mk => ?_
        walk_at "dl"
        exact ⟨S5, Sub.refl, h (.is t1 kk) S5 c6 ⟨m1, mk⟩ rfl rfl⟩
      · exact hN _ _ ⟨rfl, c5⟩
  rintro δ' S5 ⟨rfl, c5⟩
  walk_at "dl"
  exact ⟨S5, Sub.refl, h (.same t1 t2) S5 c5 ⟨m1, m2⟩ rfl rfl⟩
theorem df_form {k : Nat} (T : Bt mg) (A : At K mg "_law_form" "_law_form" s_l_form) (Gd : Df P w K mg base "_law_draw" k spDrawC) (Gl : Df P w K mg base "_law_leaf" k spLeaf) (n : Nat) : Df P w K mg base "_law_form" (k + n + 1) (spForm n) := by
  have nd := sc_l_form.nd
  induction n with
  | zero =>
    refine df_mk A rfl sc_l_form (fun _ _ _ _ _ _ us hl => match us, hl with | [_, _, _, _, _], _ => rfl) (fun ds S Q h => ?_) (fun f cdv A outer s H E hr ds S Q h => ?_)
    · obtain ⟨TT, a, pn, pk, pd, pl, ns, ks, dos, ls, deep, mark, rfl, _⟩ := h
      rfl
    · obtain ⟨TT, a, pn, pk, pd, pl, ns, ks, dos, ls, deep, mark, rfl, _, _, _, _, h, _⟩ := h
      omega
  | succ n G_l_form =>
  have G_l_draw := Gd.mono (show k ≤ k + n + 1 by omega)
  have G_l_leaf := Gl.mono (show k ≤ k + n + 1 by omega)
  refine df_mk A rfl sc_l_form (fun _ _ _ _ _ _ us hl => match us, hl with | [_, _, _, _, _], _ => rfl) (fun ds S Q h => ?_) (fun f cdv A outer s H E hr ds S Q h => ?_)
  · obtain ⟨TT, a, pn, pk, pd, pl, ns, ks, dos, ls, deep, mark, rfl, _⟩ := h
    rfl
  obtain ⟨TT, a, pn, pk, pd, pl, ns, ks, dos, ls, deep, mark, rfl, hd, hw, hl, hz, hn, hTn, hTl, hTm, hm, h⟩ := h
  have hu := hu_of hr
  refine ⟨_, (dss_cons (ds_set (i := 5) nd rfl (Or.inl rfl) (de_call G_l_draw hr rfl (da_cons (dv 0) (da_cons de_int da_nil))))
    (dss_cons (ds_set (i := 6) nd rfl (Or.inl rfl) (de_op od_add (de_ix hu (dv 1) de_int) (dv 2)))
    (dss_cons (ds_if (dt_w (dw_or (dt_w (dw_and (dt_cmp od_gt (dv 3) de_int (nomark _)) (dw_and1 (dt_cmp od_gt (dv 5) de_int (nomark _))))) (dw_or1 (dt_cmp (od_eqE hr.units) (dv 6) (de_lst da_nil) (nomark _))))) (dss_cons (ds_set (i := 7) nd rfl (Or.inr rfl) (de_op od_add (de_ix hu de_str (de_call G_l_draw hr rfl (da_cons (dv 0) (da_cons de_int da_nil)))) (dv 4)))
    (dss_cons (ds_set (i := 8) nd rfl (Or.inl rfl) (de_op od_add (de_lc (own := [("_law_one", 9)]) (g := GD.one 9) rfl nd (di_any (dv 2)) (blkOk_by (own := [("_law_one", 9)]) (N := ["_law_deck_here", "_law_words", "_law_letters", "_law_deep", "_law_mark", "_law_way", "_law_terms", "_law_x", "_law_inner", "_law_one"]) (sc := defScope s_l_form) (by decide +kernel)) (fun _ _ _ _ _ => (dg_name (i := 9) nd rfl (Or.inl rfl))) (fun _ _ _ _ _ => (dts_one (dt_cmp (od_ne hr.units) (dv 9) (dv 7) (nomark _)))) (fun _ _ _ _ _ => (dv 9))) (de_lst (da_cons (dv 7) da_nil))))
    (dss_one (ds_ret (de_tup (da_cons (de_ix hu (de_lst (da_cons de_str (da_cons de_str da_nil))) (de_op od_mod (dv 5) de_int)) (da_cons (dv 7) (da_cons (de_call G_l_form hr rfl (da_cons (dv 0) (da_cons (dv 1) (da_cons (dv 8) (da_cons (de_callB (cd_max2 rfl) rfl T.max_ (by decide +kernel) (da_cons de_int (da_cons (de_op od_sub (dv 3) de_int) da_nil))) (da_cons (dv 4) da_nil)))))) da_nil)))))))) dss_nil)
    (dss_cons (ds_if (dt_w (dw_or (dt_cmp (od_eq hr.units) (dv 3) de_int (nomark _)) (dw_or1 (dt_cmp od_lt (dv 5) de_int (nomark _))))) (dss_one (ds_ret (de_call G_l_leaf hr rfl (da_cons (dv 0) (da_cons (dv 1) (da_cons (dv 6) da_nil)))))) dss_nil)
    (dss_cons (ds_set (i := 9) nd rfl (Or.inl rfl) (de_call G_l_form hr rfl (da_cons (dv 0) (da_cons (dv 1) (da_cons (dv 2) (da_cons (de_op od_sub (dv 3) de_int) (da_cons (dv 4) da_nil)))))))
    (dss_cons (ds_if (dt_cmp (od_eq hr.units) (dv 5) de_int (nomark _)) (dss_one (ds_ret (de_tup (da_cons de_str (da_cons (dv 9) da_nil))))) dss_nil)
    (dss_one (ds_ret (de_tup (da_cons (de_ix hu (de_lst (da_cons de_str (da_cons de_str (da_cons de_str da_nil)))) (de_op od_mod (dv 5) de_int)) (da_cons (dv 9) (da_cons (de_call G_l_form hr rfl (da_cons (dv 0) (da_cons (dv 1) (da_cons (dv 2) (da_cons (de_op od_sub (dv 3) de_int) (da_cons (dv 4) da_nil)))))) da_nil)))))))))))), ?_⟩
  walk_at "go"
  refine ⟨a, _, rfl, hd, by decide, by decide, fun r S1 r0 r1 c1 => ?_⟩
  walk_at "go"
  have w1 := hw.ch hd c1
  refine ⟨_, _, w1.n, c1.get hd hl, szOk (by rw [List.length_map, List.length_map]; have := hw.ln; omega), fun pt npt => ?_⟩
  have c2 := c1.new (o := .lst (ns.map D.str ++ ls.map D.str)) hd npt
  rw [← List.map_append] at c2 ⊢
  have ht2 : put S1 pt (.lst ((ns ++ ls).map D.str)) pt = some (.lst ((ns ++ ls).map D.str)) := put_same
  generalize put S1 pt (.lst ((ns ++ ls).map D.str)) = S2 at c2 ht2
  have q2 : 1 ≤ 2 ^ deep := Nat.one_le_two_pow
  have q3 : 2 ^ (deep + 1) = 2 * 2 ^ deep := by rw [Nat.pow_succ]; omega
  refine seq_if (fun S3 => Ch a S S3 ∧ (0 < deep ∨ emp (ns ++ ls) = 1)) (fun S3 => Ch a S S3 ∧ S3 pt = some (.lst ((ns ++ ls).map D.str)) ∧ emp (ns ++ ls) = 0) (fun N N1 N2 => ?_) ?_ ?_
  · walk_at "dl"
    have last : ∀ e, S2 e = none → ∃ xs, put S2 e (DO.lst []) pt = some (.lst xs) ∧ N (id xs.isEmpty) (put S2 e (.lst [])) := by
      intro e ne
      have c3 := c2.new (o := .lst []) hd ne
      have ee : pt ≠ e := fun z => by rw [z, ne] at ht2; cases ht2
      refine ⟨_, (put_ne ee).trans ht2, ?_⟩
      cases e3 : (ns ++ ls).isEmpty with
      | true =>
        have e4 : ((ns ++ ls).map D.str).isEmpty = true := by simpa using e3
        rw [e4]
        exact N1 _ ⟨c3, .inr (emp_1 e3)⟩
      | false =>
        have e4 : ((ns ++ ls).map D.str).isEmpty = false := by simpa using e3
        rw [e4]
        exact N2 _ ⟨c3, (put_ne ee).trans ht2, emp_0 e3⟩
    refine ite2 (fun e1 => ite2 (fun e2 => ?_) (fun e2 => ?_)) (fun e1 => ?_)
    · exact N1 _ ⟨c2, .inl (by omega)⟩
    · exact last
    · exact last
  · rintro S3 ⟨c3, hor⟩
    walk_at "go"
    refine ⟨a, _, rfl, c3.2, by decide, by decide, fun r2 S4 g0 g1 c4' => ?_⟩
    have c4 := c3.trans c4'
    walk_at "dl"
    refine ixS (s := "uvwxyz") chLt (by decide +kernel) (by decide +kernel) g0 (by rw [show ("uvwxyz" : Str).length = 6 from by decide +kernel]; exact g1) fun ch hch => ?_
    walk_at "dl"
    refine ⟨szOk (by rw [show (⟨#[ch]⟩ : Str).length = 1 from rfl]; omega), ?_⟩
    have hx := hTm ch hch
    generalize (⟨#[ch]⟩ : Str) ++ mark = x at hx
    walk_at "go"
    have hl4 := c4.get hd hl
    refine ⟨⟨_, hl4⟩, fun q nq => ?_⟩
    have hne : pl ≠ q := fun z => by rw [z, nq] at hl4; cases hl4
    refine lcB_flt ls (fun y => !decide (y = x)) (fun k acc => ?_) (by omega) (fun y acc N hN => ?_) (fun y S Y yy => ?_) ?_
    · show lstJ (put S4 q (.lst acc) pl) k = _
      rw [put_ne hne, hl4]
      rfl
    · walk_at "dl"
      exact hN
    · walk_at "dl"
      exact yy
    · have c5 := c4.new (o := .lst ((ls.filter fun y => !decide (y = x)).map D.str)) hd nq
      walk_at "dl"
      intro q2 nq2
      have c6 := c5.new (o := .lst [.str x]) hd nq2
      have hne2 : q ≠ q2 := fun z => by rw [z, put_same] at nq2; cases nq2
      refine ⟨_, _, (put_ne hne2).trans put_same, rfl, szOk (by have := List.length_filter_le (fun y => !decide (y = x)) ls; simp; omega), fun pi npi => ?_⟩
      have c7 := c6.new (o := .lst ((ls.filter fun y => !decide (y = x)).map D.str ++ [.str x])) hd npi
      walk_at "go"
      intro q3 nq3
      have c8 := c7.new (o := .lst [.str "every", .str "some"]) hd nq3
      have hne3 : pi ≠ q3 := fun z => by rw [z, put_same] at nq3; cases nq3
      refine ⟨by decide, ?_⟩
      refine ixStrs_mem (xs := ["every", "some"]) (by omega) (by simp; omega) fun ww hww => ?_
      walk_at "dl"
      have ed : (if (deep : Int) - 1 > 0 then (deep : Int) - 1 else 0) = ((deep - 1 : Nat) : Int) := by split <;> omega
      rw [ed]
      have elen : (ls.filter fun y => !decide (y = x)).length ≤ ls.length := List.length_filter_le _ _
      refine ⟨TT, a, pn, pk, pd, pi, ns, ks, dos, (ls.filter fun y => !decide (y = x)) ++ [x], deep - 1, mark, rfl, c8.2, hw.ch hd c8, ?_, ?_, ?_, hTn, ?_, hTm, hm, fun F S9 c9 ok9 ht9 sz9 => ?_⟩
      · rw [put_ne hne3, put_same, List.map_append]
        rfl
      · rw [emp_snoc, List.length_append, List.length_singleton]
        rcases hor with e | e
        · omega
        · omega
      · rw [emp_snoc]
        rcases hor with e | e <;> omega
      · intro y hy
        rcases List.mem_append.mp hy with hy | hy
        · exact hTl y ((List.mem_filter.mp hy).1)
        · cases List.mem_singleton.mp hy; exact hx
      · walk_at "dl"
        rw [emp_snoc] at ht9 sz9
        have c10 := c8.trans c9
        have fin : ∀ w2 : Q2, ∃ S'', DL.Sub S'' S9 ∧ Q (.tup [.str w2.s, .str x, F.d]) S'' := fun w2 => by
          refine ⟨S9, Sub.refl, h (.qu w2 x F) S9 c10 ⟨hx, ok9⟩ ?_ ?_⟩
          · simp only [Fm.ht]
            rcases hor with e | e <;> omega
          · simp only [Fm.sz]
            rcases Nat.eq_zero_or_pos deep with e0 | e0
            · subst e0
              rcases hor with e | e
              · omega
              · simp at sz9 ⊢
                omega
            · have e5 : deep - 1 + 1 = deep := by omega
              rw [e5] at sz9
              omega
        simp only [List.mem_cons, List.not_mem_nil, or_false] at hww
        rcases hww with rfl | rfl
        · exact fin .every
        · exact fin .some
  rintro S3 ⟨c3, ht3, he⟩
  have hne : ns ++ ls ≠ [] := fun z => by rw [z] at he; simp [emp] at he
  rw [he] at h hn hz
  walk_at "dl"
  refine seq_if (fun S4 => S4 = S3) (fun S4 => S4 = S3 ∧ 0 < deep) (fun N N1 N2 => ?_) ?_ ?_
  · walk_at "dl"
    refine ite2 (fun e1 => ?_) (fun e1 => ?_)
    · exact N1 _ rfl
    · by_cases e2 : r < 3
      · rw [decide_eq_true e2]; exact N1 _ rfl
      · rw [decide_eq_false e2]; exact N2 _ ⟨rfl, by simp at e1; omega⟩
  · rintro S4 rfl
    walk_at "dl"
    refine ⟨a, pn, pk, pd, pt, ns, ks, dos, ns ++ ls, rfl, c3.2, hw.ch hd c3, ht3, hne, by rw [List.length_append]; have := hw.ln; omega, fun F S5 c5 ok5 ht5 sz5 => ?_⟩
    refine ⟨S5, Sub.refl, h F S5 (c3.trans c5) (ok5.imp (fun s hs => ?_) (fun _ z => z) fun _ z => z) (by omega) (by omega)⟩
    rcases List.mem_append.mp hs with hs | hs
    · exact hTn s hs
    · exact hTl s hs
  rintro S4 ⟨rfl, hdp⟩
  have ed : (deep : Int) - 1 = ((deep - 1 : Nat) : Int) := by omega
  have e5 : deep - 1 + 1 = deep := by omega
  walk_at "go"
  rw [ed]
  refine ⟨TT, a, pn, pk, pd, pl, ns, ks, dos, ls, deep - 1, mark, rfl, c3.2, hw.ch hd c3, c3.get hd hl, by rw [he]; omega, by rw [he]; omega, hTn, hTl, hTm, hm, fun F S5 c5 ok5 ht5 sz5 => ?_⟩
  rw [he, e5] at ht5 sz5
  walk_at "go"
  refine ite2 (fun e1 => ?_) (fun e1 => ?_)
  · walk_at "dl"
    refine ⟨S5, Sub.refl, h (.neg F) S5 (c3.trans c5) ok5 (by simp only [Fm.ht]; omega) (by simp only [Fm.sz]; omega)⟩
  walk_at "dl"
  have c5' := c3.trans c5
  intro q3 nq3
  have c6 := c5'.new (o := .lst [.str "and", .str "or", .str "if"]) hd nq3
  refine ⟨by decide, ?_⟩
  refine ixStrs_mem (xs := ["and", "or", "if"]) (by omega) (by simp; omega) fun ww hww => ?_
  walk_at "dl"
  rw [ed]
  refine ⟨TT, a, pn, pk, pd, pl, ns, ks, dos, ls, deep - 1, mark, rfl, c6.2, hw.ch hd c6, c6.get hd hl, by rw [he]; omega, by rw [he]; omega, hTn, hTl, hTm, hm, fun F2 S7 c7 ok7 ht7 sz7 => ?_⟩
  rw [he, e5] at ht7 sz7
  walk_at "dl"
  have c8 := c6.trans c7
  have fin : ∀ w2 : J3, ∃ S'', DL.Sub S'' S7 ∧ Q (.tup [.str w2.s, F.d, F2.d]) S'' := fun w2 =>
    ⟨S7, Sub.refl, h (.bin w2 F F2) S7 c8 ⟨ok5, ok7⟩ (by simp only [Fm.ht]; omega) (by simp only [Fm.sz]; omega)⟩
  simp only [List.mem_cons, List.not_mem_nil, or_false] at hww
  rcases hww with rfl | rfl | rfl
  · exact fin .and
  · exact fin .or
  · exact fin .if
end
end K72

set_option Elab.async false
set_option maxRecDepth 100000
set_option linter.unusedVariables false
/-! P73: worlds and what holds in them. -/
namespace K72
open PySem PySem.Spec PyProof.Rows L2 DL
structure Wo where
  many : Nat
  nms : List (Str × Nat)
  kds : List (Str × List Nat)
  dgs : List (Str × List (Nat × Nat))
def iD (i : Nat) : D := .int (i : Nat)
def ppD (q : Nat × Nat) : D := .tup [.int (q.1 : Nat), .int (q.2 : Nat)]
def nmD (p : Str × Nat) : D := .tup [.str p.1, iD p.2]
def kdD (p : Str × List Nat) : D := .tup [.str p.1, .ftup (p.2.map iD)]
def dgD (p : Str × List (Nat × Nat)) : D := .tup [.str p.1, .ftup (p.2.map ppD)]
def Wo.d (W : Wo) : D := .tup [iD W.many, .ftup (W.nms.map nmD), .ftup (W.kds.map kdD), .ftup (W.dgs.map dgD)]
def Wo.nm (W : Wo) (s : Str) : Option Nat := W.nms.lookup s
def Wo.kd (W : Wo) (s : Str) : Option (List Nat) := W.kds.lookup s
def Wo.dg (W : Wo) (s : Str) : Option (List (Nat × Nat)) := W.dgs.lookup s
abbrev Bd := Str → Option Nat
def bput (b : Bd) (x : Str) (i : Nat) : Bd := fun s => if s = x then some i else b s
def val (W : Wo) (b : Bd) (t : Str) : Nat := (b t).getD ((W.nm t).getD 0)
def ev (W : Wo) : Bd → Fm → Bool
  | b, .is t k => decide (val W b t ∈ (W.kd k).getD [])
  | b, .does d s t => decide ((val W b s, val W b t) ∈ (W.dg d).getD [])
  | b, .same s t => decide (val W b s = val W b t)
  | b, .neg f => !ev W b f
  | b, .bin .and f g => ev W b f && ev W b g
  | b, .bin .or f g => ev W b f || ev W b g
  | b, .bin .if f g => !ev W b f || ev W b g
  | b, .qu .every x f => (List.range W.many).all fun i => ev W (bput b x i) f
  | b, .qu .some x f => (List.range W.many).any fun i => ev W (bput b x i) f
/-- every term stands for a thing -/
def Fm.cl : (Str → Prop) → Fm → Prop
  | sc, .is t _ => sc t
  | sc, .does _ s t => sc s ∧ sc t
  | sc, .same s t => sc s ∧ sc t
  | sc, .neg f => f.cl sc
  | sc, .bin _ f g => f.cl sc ∧ g.cl sc
  | sc, .qu _ x f => f.cl fun s => sc s ∨ s = x
theorem Fm.cl.imp : ∀ {F : Fm} {sc sc' : Str → Prop}, (∀ s, sc s → sc' s) → F.cl sc → F.cl sc'
  | .is _ _, _, _, h, c => h _ c
  | .does _ _ _, _, _, h, c => ⟨h _ c.1, h _ c.2⟩
  | .same _ _, _, _, h, c => ⟨h _ c.1, h _ c.2⟩
  | .neg f, _, _, h, c => Fm.cl.imp (F := f) h c
  | .bin _ f g, _, _, h, c => ⟨Fm.cl.imp (F := f) h c.1, Fm.cl.imp (F := g) h c.2⟩
  | .qu _ _ f, _, _, h, c => Fm.cl.imp (F := f) (fun s hs => hs.imp (h s) id) c
/-- the kinds and doings of a form stand in the world -/
abbrev Fm.inW (W : Wo) (F : Fm) : Prop := F.ok (fun _ => True) (fun k => (W.kd k).isSome = true) fun d => (W.dg d).isSome = true
/-- the keys of pairs, put into a dict -/
theorem dval_merge {k : Key} : ∀ {more acc : List (Key × D)}, (more.map (·.1)).Nodup → dval (dmerge acc more) k = (dval more k).orElse fun _ => dval acc k
  | [], acc, _ => rfl
  | (k0, d0) :: r, acc, hn => by
    have hn' := List.nodup_cons.mp hn
    show dval (dmerge (dput acc k0 d0) r) k = _
    rw [dval_merge hn'.2, dval_cons, dval_dput]
    by_cases c : k0 = k
    · subst c
      rw [if_pos rfl]
      have e : dval r k0 = none := by
        cases e : dval r k0 with
        | none => rfl
        | some d =>
          exfalso
          unfold dval at e
          cases e2 : r.find? fun kv => decide (kv.1 = k0) with
          | none => rw [e2] at e; cases e
          | some p =>
            have h1 := List.find?_some e2
            have h2 := List.mem_of_find?_eq_some e2
            exact hn'.1 (List.mem_map.mpr ⟨p, h2, of_decide_eq_true h1⟩)
      rw [e, if_pos rfl]
      rfl
    · rw [if_neg c, if_neg (fun z => c z.symm)]
theorem dval_map {α : Type} {f : α → D} {s : Str} : ∀ {l : List (Str × α)}, dval (l.map fun p => ((.inr p.1 : Key), f p.2)) (.inr s) = (l.lookup s).map f
  | [] => rfl
  | (k, x) :: r => by
    rw [List.map_cons, dval_cons, dval_map (l := r), List.lookup_cons]
    by_cases c : k = s
    · subst c
      rw [if_pos rfl, beq_self_eq_true]
      rfl
    · rw [if_neg (fun z => c (Sum.inr.inj z))]
      have e : (s == k) = false := by simpa using fun z => c z.symm
      rw [e]
theorem keys_map {α : Type} {f : α → D} {l : List (Str × α)} (h : (l.map (·.1)).Nodup) : ((l.map fun p => ((.inr p.1 : Key), f p.2)).map (·.1)).Nodup := by
  rw [List.map_map]
  have e : ((fun p : Key × D => p.1) ∘ fun p : Str × α => ((.inr p.1 : Key), f p.2)) = (fun s : Str => (.inr s : Key)) ∘ fun p : Str × α => p.1 := rfl
  rw [e, ← List.map_map]
  exact List.Pairwise.map _ (fun a b hab z => hab (Sum.inr.inj z)) h
theorem merged_val {α : Type} {f : α → D} {l : List (Str × α)} (h : (l.map (·.1)).Nodup) (s : Str) : dval (dmerge [] (l.map fun p => ((.inr p.1 : Key), f p.2))) (.inr s) = (l.lookup s).map f := by
  rw [dval_merge (keys_map h), dval_map]
  cases l.lookup s <;> rfl
theorem pairsD_map {α : Type} {f : α → D} : ∀ l : List (Str × α), pairsD (l.map fun p => ((.inr p.1 : Key), f p.2)) = l.map fun p => D.tup [.str p.1, f p.2]
  | [] => rfl
  | p :: l => by show D.tup [kD (.inr p.1), f p.2] :: pairsD (l.map _) = _; rw [pairsD_map l]; rfl
/-- a world fit for the program -/
structure WoOk (W : Wo) : Prop where
  n : (W.nms.map (·.1)).Nodup
  k : (W.kds.map (·.1)).Nodup
  d : (W.dgs.map (·.1)).Nodup
  m : W.many ≤ 10
end K72

set_option Elab.async false
set_option maxRecDepth 100000
set_option linter.unusedVariables false
namespace K72
open PySem PySem.Spec PyProof.Rows L2 DL
local macro_rules | `(tactic| walk_at "dl") => `(tactic| try simp only [DL.tAsgD, DL.asg, DL.tVarD, DL.lk, DL.sto, DL.stos, DL.tOpD, DL.tCD, DL.tCallD, DL.tConsD, DL.tNilD, DL.tRetD, DL.endsD, DL.startD, DL.tIfSD, DL.tTestD, DL.tNextD, DL.tDropD, DL.tAndD, DL.tOrD, DL.tNotD, DL.tAndV, DL.tOrV, DL.tNotV, DL.tIfD, DL.tNegD, DL.tTupD, DL.tLstD, DL.tSetD, DL.tMD, DL.tSlD, DL.tPartD, DL.tNoD, DL.tRevD, DL.tForD, DL.tLcD, DL.tIterD, DL.tRng1D, DL.tRng2D, DL.tYesD, DL.wipeD, DL.tDictD, DL.tDictOne, DL.tFldD, DL.tMethD, DL.tMakeD, DL.tSetF, DL.tThaw, DL.thaw, DL.tLRg, DL.keyOf, DL.emE_rr, DL.tLess, DL.tLessS, DL.itOk, DL.rAdd_ii, DL.rAdd_ss, DL.rAdd_tt, DL.rAdd_rr, DL.rSub_ii, DL.rMod_ii, DL.rDiv_ii, DL.rPow_ii, DL.rMul_ii, DL.rMul_ri, DL.rLt_ii, DL.rLt_ss, DL.rLe_ii, DL.rGt_ii, DL.rGe_ii, DL.rEq_ii, DL.rEq_ss, DL.rEq_bb, DL.rNe_ii, DL.rNe_ss, DL.rNe_bb, DL.rEq_rr, DL.rNe_rr, DL.rEq_tt, DL.rNe_tt, DL.rIn_st, DL.rNotIn_st, DL.rIn_r, DL.rNotIn_r, DL.rIn_ss, DL.rInDO_sl, DL.rInDO_il, DL.rInDO_sd, DL.rInDO_id, DL.rIsN_n, DL.rIsN_t, DL.rIsN_i, DL.rIsN_s, DL.rIsN_r, DL.rNotN_n, DL.rNotN_t, DL.rNotN_i, DL.rNotN_s, DL.rNotN_r, DL.rIx_t, DL.rIx_r, DL.rIx_s, DL.rIxDO_l, DL.rIxDO_ds, DL.rIx0, DL.rIx1, DL.rIx2, DL.rIx3, DL.rSl_t, DL.rSl_s, DL.rSl_o, DL.rSl_r, DL.rSlDO, DL.rSet_r, DL.rSetDO_0, DL.rSetDO_s, DL.rLen_t, DL.rLen_o, DL.rLen_s, DL.rLen_r, DL.rLenDO, DL.rLenDO_d, DL.rList_t, DL.rList_o, DL.rList_r, DL.rListDO, DL.rTuple_t, DL.rTuple_r, DL.rInt_i, DL.rInt_b, DL.rMax, DL.rMin, DL.rSz0, DL.rSz1, DL.rSz2, DL.rSz3, DL.rSz4, DL.rSz5, DL.rSz6, DL.rSz7, DL.rSz8, Option.some.injEq, DL.DO.lst.injEq, exists_eq_left', exists_eq_left, DL.put_same, DL.put_put, true_and, and_true, List.map, List.replicate, List.length, List.cons_append, List.nil_append, Nat.reduceSub, Nat.reduceAdd, decide_eq_true_eq, if_true, if_false, Bool.false_eq_true, Bool.not_true, Bool.not_false])
local macro_rules | `(tactic| walk_at "dlh") => `(tactic| try simp only [*, DL.tAsgD, DL.asg, DL.tVarD, DL.lk, DL.sto, DL.stos, DL.tOpD, DL.tCD, DL.tCallD, DL.tConsD, DL.tNilD, DL.tRetD, DL.endsD, DL.startD, DL.tIfSD, DL.tTestD, DL.tNextD, DL.tDropD, DL.tAndD, DL.tOrD, DL.tNotD, DL.tAndV, DL.tOrV, DL.tNotV, DL.tIfD, DL.tNegD, DL.tTupD, DL.tLstD, DL.tSetD, DL.tMD, DL.tSlD, DL.tPartD, DL.tNoD, DL.tRevD, DL.tForD, DL.tLcD, DL.tIterD, DL.tRng1D, DL.tRng2D, DL.tYesD, DL.wipeD, DL.tDictD, DL.tDictOne, DL.tFldD, DL.tMethD, DL.tMakeD, DL.tSetF, DL.tThaw, DL.thaw, DL.tLRg, DL.keyOf, DL.emE_rr, DL.tLess, DL.tLessS, DL.itOk, DL.rAdd_ii, DL.rAdd_ss, DL.rAdd_tt, DL.rAdd_rr, DL.rSub_ii, DL.rMod_ii, DL.rDiv_ii, DL.rPow_ii, DL.rMul_ii, DL.rMul_ri, DL.rLt_ii, DL.rLt_ss, DL.rLe_ii, DL.rGt_ii, DL.rGe_ii, DL.rEq_ii, DL.rEq_ss, DL.rEq_bb, DL.rNe_ii, DL.rNe_ss, DL.rNe_bb, DL.rEq_rr, DL.rNe_rr, DL.rEq_tt, DL.rNe_tt, DL.rIn_st, DL.rNotIn_st, DL.rIn_r, DL.rNotIn_r, DL.rIn_ss, DL.rInDO_sl, DL.rInDO_il, DL.rInDO_sd, DL.rInDO_id, DL.rIsN_n, DL.rIsN_t, DL.rIsN_i, DL.rIsN_s, DL.rIsN_r, DL.rNotN_n, DL.rNotN_t, DL.rNotN_i, DL.rNotN_s, DL.rNotN_r, DL.rIx_t, DL.rIx_r, DL.rIx_s, DL.rIxDO_l, DL.rIxDO_ds, DL.rIx0, DL.rIx1, DL.rIx2, DL.rIx3, DL.rSl_t, DL.rSl_s, DL.rSl_o, DL.rSl_r, DL.rSlDO, DL.rSet_r, DL.rSetDO_0, DL.rSetDO_s, DL.rLen_t, DL.rLen_o, DL.rLen_s, DL.rLen_r, DL.rLenDO, DL.rLenDO_d, DL.rList_t, DL.rList_o, DL.rList_r, DL.rListDO, DL.rTuple_t, DL.rTuple_r, DL.rInt_i, DL.rInt_b, DL.rMax, DL.rMin, DL.rSz0, DL.rSz1, DL.rSz2, DL.rSz3, DL.rSz4, DL.rSz5, DL.rSz6, DL.rSz7, DL.rSz8, Option.some.injEq, DL.DO.lst.injEq, exists_eq_left', exists_eq_left, DL.put_same, DL.put_put, true_and, and_true, List.map, List.replicate, List.length, List.cons_append, List.nil_append, Nat.reduceSub, Nat.reduceAdd, decide_eq_true_eq, if_true, if_false, Bool.false_eq_true, Bool.not_true, Bool.not_false])
local macro_rules | `(tactic| walk_at "go") => `(tactic| repeat (first | (refine DL.sq ?_; try walk_at "dl") | (refine DL.ifY rfl ?_; try walk_at "dl") | (refine DL.inY rfl (by decide) ?_; try walk_at "dl") | (refine DL.inN rfl (by decide) ?_; try walk_at "dl") | (refine DL.ifN (by decide) ?_; try walk_at "dl")))
abbrev s_View___init__ : Stmt := inClass (top 1) 0
theorem sc_View___init__ : FnScope ["self", "world", "many", "names", "kinds", "doings"] ["self", "world"] (defScope s_View___init__) := ⟨rfl, rfl, rfl, by decide +kernel, rfl, by decide +kernel, by decide +kernel⟩
abbrev s_View_thing : Stmt := inClass (top 1) 2
theorem sc_View_thing : FnScope ["self", "term", "bound"] ["self", "term", "bound"] (defScope s_View_thing) := ⟨rfl, rfl, rfl, by decide +kernel, rfl, by decide +kernel, by decide +kernel⟩
abbrev s_View_count : Stmt := inClass (top 1) 1
theorem sc_View_count : FnScope ["self", "total", "found", "kind", "times"] ["self", "total"] (defScope s_View_count) := ⟨rfl, rfl, rfl, by decide +kernel, rfl, by decide +kernel, by decide +kernel⟩
abbrev s_View_keeps_plain : Stmt := inClass (top 1) 3
theorem sc_View_keeps_plain : FnScope ["self", "form", "bound"] ["self", "form", "bound"] (defScope s_View_keeps_plain) := ⟨rfl, rfl, rfl, by decide +kernel, rfl, by decide +kernel, by decide +kernel⟩
abbrev s_View_keeps_of : Stmt := inClass (top 1) 4
theorem sc_View_keeps_of : FnScope ["self", "form", "bound", "thing", "inner"] ["self", "form", "bound", "thing"] (defScope s_View_keeps_of) := ⟨rfl, rfl, rfl, by decide +kernel, rfl, by decide +kernel, by decide +kernel⟩
abbrev s_View_keeps : Stmt := inClass (top 1) 5
theorem sc_View_keeps : FnScope ["self", "form", "bound", "word", "thing"] ["self", "form", "bound"] (defScope s_View_keeps) := ⟨rfl, rfl, rfl, by decide +kernel, rfl, by decide +kernel, by decide +kernel⟩
abbrev s_holds : Stmt := top 2
theorem sc_holds : FnScope ["world", "form"] ["world", "form"] (defScope s_holds) := ⟨rfl, rfl, rfl, by decide +kernel, rfl, by decide +kernel, by decide +kernel⟩
/-- what the walk asks of the class -/
structure Vc (K : PySem.W.Frag) (mg : Str → Option Value) (C : Addr) : Prop where
  cl : Cls K C
  nt : NoAttr K C "things"
  nn : NoAttr K C "names"
  nk : NoAttr K C "kinds"
  nd : NoAttr K C "doings"
  mgC : mg "View" = some (.ref C)
abbrev vFlds (pt pn pk pd : Addr) : List (Str × D) := [("things", .ref pt), ("names", .ref pn), ("kinds", .ref pk), ("doings", .ref pd)]
section
variable {pt pn pk pd : Addr}
theorem vl_t : List.lookup ("things" : Str) (vFlds pt pn pk pd) = some (.ref pt) := rfl
theorem vl_n : List.lookup ("names" : Str) (vFlds pt pn pk pd) = some (.ref pn) := rfl
theorem vl_k : List.lookup ("kinds" : Str) (vFlds pt pn pk pd) = some (.ref pk) := rfl
theorem vl_d : List.lookup ("doings" : Str) (vFlds pt pn pk pd) = some (.ref pd) := rfl
theorem vl_keeps : List.lookup ("keeps" : Str) (vFlds pt pn pk pd) = none := rfl
theorem vl_thing : List.lookup ("thing" : Str) (vFlds pt pn pk pd) = none := rfl
theorem vl_plain : List.lookup ("keeps_plain" : Str) (vFlds pt pn pk pd) = none := rfl
theorem vl_of : List.lookup ("keeps_of" : Str) (vFlds pt pn pk pd) = none := rfl
end
/-- a View of the world stands at v -/
def VAt (C : Addr) (S : Store) (v : Addr) (W : Wo) : Prop := ∃ (pt pn pk pd : Addr) (nkv kkv dkv : List (Key × D)), S v = some (.ins C (vFlds pt pn pk pd)) ∧ S pt = some (.lst ((List.range W.many).map iD)) ∧ S pn = some (.dk nkv) ∧ S pk = some (.dk kkv) ∧ S pd = some (.dk dkv) ∧
  (∀ s, dval nkv (.inr s) = (W.nm s).map iD) ∧ (∀ s, dval kkv (.inr s) = (W.kd s).map fun l => D.ftup (l.map iD)) ∧ (∀ s, dval dkv (.inr s) = (W.dg s).map fun l => D.ftup (l.map ppD)) ∧ W.many ≤ 10
theorem VAt.sub {C v : Addr} {S S' : Store} {W : Wo} (h : VAt C S v W) (q : Sub S S') : VAt C S' v W := by
  obtain ⟨pt, pn, pk, pd, nkv, kkv, dkv, h1, h2, h3, h4, h5, r⟩ := h
  exact ⟨pt, pn, pk, pd, nkv, kkv, dkv, q _ _ h1, q _ _ h2, q _ _ h3, q _ _ h4, q _ _ h5, r⟩
def BdOk (kvs : List (Key × D)) (b : Bd) : Prop := ∀ s, dval kvs (.inr s) = (b s).map iD
theorem BdOk.put {kvs : List (Key × D)} {b : Bd} {x : Str} {i : Nat} (h : BdOk kvs b) : BdOk (dput kvs (.inr x) (iD i)) (bput b x i) := by
  intro s
  rw [dval_dput]
  unfold bput
  by_cases e : s = x
  · subst e; simp
  · rw [if_neg (fun z => e (Sum.inr.inj z)), if_neg e]; exact h s
def spThing (C : Addr) : SpD := fun ds S Q => ∃ (v pb : Addr) (W : Wo) (kvs : List (Key × D)) (b : Bd) (t : Str), ds = [.ref v, .str t, .ref pb] ∧ VAt C S v W ∧ S pb = some (.dk kvs) ∧ BdOk kvs b ∧ ((b t).isSome = true ∨ (W.nm t).isSome = true) ∧ Q (iD (val W b t)) S
def spKeeps (C : Addr) (n : Nat) : SpD := fun ds S Q => ∃ (v pb : Addr) (W : Wo) (kvs : List (Key × D)) (b : Bd) (F : Fm), ds = [.ref v, F.d, .ref pb] ∧ VAt C S v W ∧ S pb = some (.dk kvs) ∧ BdOk kvs b ∧ kvs.length + F.ht ≤ 200 ∧ F.ht ≤ n ∧
  F.cl (fun s => (b s).isSome = true ∨ (W.nm s).isSome = true) ∧ F.inW W ∧ Q (.bl (ev W b F)) S
def leafy : Fm → Prop
  | .is _ _ => True
  | .does _ _ _ => True
  | .same _ _ => True
  | _ => False
def spPlain (C : Addr) : SpD := fun ds S Q => ∃ (v pb : Addr) (W : Wo) (kvs : List (Key × D)) (b : Bd) (F : Fm), leafy F ∧ ds = [.ref v, F.d, .ref pb] ∧ VAt C S v W ∧ S pb = some (.dk kvs) ∧ BdOk kvs b ∧
  F.cl (fun s => (b s).isSome = true ∨ (W.nm s).isSome = true) ∧ F.inW W ∧ Q (.bl (ev W b F)) S
section
variable {P : Program} {w : World} {K : PySem.W.Frag} {mg : Str → Option Value} {base : Heap} {C : Addr}
theorem df_thing {k : Nat} (T : Bt mg) (V : Vc K mg C) (A : AtM K C "thing" "View.thing" s_View_thing) : DfM P w K mg base C "thing" (k + 1) (spThing C) := by
  have nd := sc_View_thing.nd
  refine dfM_mk A rfl sc_View_thing (fun _ _ _ _ _ _ us hl => match us, hl with | [_, _, _], _ => rfl) (fun ds S Q h => ?_) (fun f cdv A outer s H E hr ds S Q h => ?_)
  · obtain ⟨v, pb, W, kvs, b, t, rfl, _⟩ := h
    rfl
  obtain ⟨v, pb, W, kvs, b, t, rfl, hv, hb, hbd, ht, h⟩ := h
  obtain ⟨pt, pn, pk, pd, nkv, kkv, dkv, v1, v2, v3, v4, v5, v6, v7, v8, v9⟩ := hv
  have hu := hu_of hr
  refine ⟨_, (dss_cons (ds_if (dt_cmp (od_in hu) (dv 1) (dv 2) rfl) (dss_one (ds_ret (de_ix hu (dv 2) (dv 1)))) dss_nil)
    (dss_one (ds_ret (de_ix hu (de_fld (dv 0)) (dv 1))))), ?_⟩
  walk_at "go"
  rw [hb]
  walk_at "dl"
  have e0 := hbd t
  unfold val at h
  cases e : b t with
  | some i =>
    rw [e] at e0 h
    refine ifY (by rw [e0]; rfl) ?_
    walk_at "dl"
    rw [hb]
    walk_at "dl"
    exact ⟨_, e0, S, Sub.refl, h⟩
  | none =>
    rw [e] at e0 h ht
    refine ifN (by rw [e0]; simp) ?_
    walk_at "dl"
    refine ⟨v, C, vFlds pt pn pk pd, .ref pn, rfl, v1, V.cl, V.nn, vl_n, ?_⟩
    walk_at "dl"
    rw [v3]
    walk_at "dl"
    have e1 := v6 t
    cases e2 : W.nm t with
    | none => rw [e2] at ht; simp at ht
    | some i =>
      rw [e2] at e1 h
      exact ⟨_, e1, S, Sub.refl, h⟩
def ppP (q : Nat × Nat) : PyData := .tuple [.int (q.1 : Nat), .int (q.2 : Nat)]
theorem pair_eqv {q r : Nat × Nat} : PyData.eqv (ppP q) (ppP r) = decide (q = r) := by
  have e : (q = r) ↔ (q.1 = r.1 ∧ q.2 = r.2) := Prod.ext_iff
  have i : ∀ a b : Nat, (((a : Int)) == ((b : Int))) = decide (a = b) := fun a b => by
    rw [Bool.eq_iff_iff, beq_iff_eq, decide_eq_true_eq]; omega
  simp [ppP, PyData.eqv, PyData.eqvAll, e, i]
theorem any_pair {r : Nat × Nat} : ∀ l : List (Nat × Nat), ((l.map ppP).any fun q => PyData.eqv q (ppP r)) = decide (r ∈ l)
  | [] => rfl
  | q :: l => by
    rw [List.map_cons, List.any_cons, any_pair l, pair_eqv]
    have e : (r ∈ q :: l) ↔ (q = r ∨ r ∈ l) := by rw [List.mem_cons]; exact or_congr eq_comm Iff.rfl
    rw [decide_eq_decide.mpr e]
    by_cases c : q = r
    · rw [decide_eq_true c, Bool.true_or, decide_eq_true (Or.inl c)]
    · rw [decide_eq_false c, Bool.false_or]
      exact decide_eq_decide.mpr ⟨Or.inr, fun z => z.resolve_left c⟩
theorem ppP_PD {S : Store} {q : Nat × Nat} : PD S (ppD q) (ppP q) := .tup (.cons (.int _) (.cons (.int _) .nil))
theorem ppPs_PD {S : Store} : ∀ l : List (Nat × Nat), PDs S (l.map ppD) (l.map ppP)
  | [] => .nil
  | q :: l => .cons ppP_PD (ppPs_PD l)
theorem pp_lay : ∀ l : List (Nat × Nat), PyData.canLayAll0 (l.map ppP) = true ∧ PyData.depthAll (l.map ppP) ≤ 1
  | [] => ⟨rfl, Nat.zero_le _⟩
  | q :: l => by
    obtain ⟨h1, h2⟩ := pp_lay l
    refine ⟨?_, ?_⟩
    · rw [List.map_cons, PyData.canLayAll0, h1]; rfl
    · rw [List.map_cons, PyData.depthAll]
      have : (ppP q).depth = 1 := rfl
      omega
theorem pp_shaped (l : List (Nat × Nat)) : SeqAt.shaped (.tuple (l.map ppP)) = true := by
  obtain ⟨h1, h2⟩ := pp_lay l
  unfold SeqAt.shaped
  rw [show PyData.canLay0 (.tuple (l.map ppP)) = PyData.canLayAll0 (l.map ppP) from rfl, h1, show PyData.depth (.tuple (l.map ppP)) = PyData.depthAll (l.map ppP) + 1 from rfl]
  simp
  omega
theorem ints_map (l : List Nat) : intsOf (l.map iD) = some (l.map fun (i : Nat) => (i : Int)) := by
  have e : l.map iD = (l.map fun (i : Nat) => (i : Int)).map D.int := by rw [List.map_map]; rfl
  rw [e]
  exact intsOf_of _
theorem mem_cast {n : Nat} {l : List Nat} : decide ((n : Int) ∈ l.map fun (i : Nat) => (i : Int)) = decide (n ∈ l) := by
  refine decide_eq_decide.mpr ⟨fun h => ?_, fun h => List.mem_map.mpr ⟨n, h, rfl⟩⟩
  obtain ⟨m, hm, e⟩ := List.mem_map.mp h
  have : m = n := by omega
  exact this ▸ hm
theorem df_plain {k : Nat} (T : Bt mg) (V : Vc K mg C) (A : AtM K C "keeps_plain" "View.keeps_plain" s_View_keeps_plain) (M_thing : DfM P w K mg base C "thing" k (spThing C)) (M_count : DfM P w K mg base C "count" k fun _ _ _ => False) : DfM P w K mg base C "keeps_plain" (k + 1) (spPlain C) := by
  have nd := sc_View_keeps_plain.nd
  refine dfM_mk A rfl sc_View_keeps_plain (fun _ _ _ _ _ _ us hl => match us, hl with | [_, _, _], _ => rfl) (fun ds S Q h => ?_) (fun f cdv A outer s H E hr ds S Q h => ?_)
  · obtain ⟨v, pb, W, kvs, b, F, _, rfl, _⟩ := h
    rfl
  obtain ⟨v, pb, W, kvs, b, F, hlf, rfl, hv, hb, hbd, hcl, hin, h⟩ := h
  have hv0 := hv
  obtain ⟨pt, pn, pk, pd, nkv, kkv, dkv, v1, v2, v3, v4, v5, v6, v7, v8, v9⟩ := hv
  have hu := hu_of hr
  have hR65 : (A.deeper (envOfC "View.keeps_plain" (defScope s_View_keeps_plain) s.heap.objs.size f cdv)).units + 65 < cLine := by have := hr.un; omega
  have cC := V.cl
  refine ⟨_, (dss_cons (ds_if (dt_cmp (od_eq hr.units) (de_ix hu (dv 1) de_int) de_str (nomark _)) (dss_one (ds_ret (de_cmp (od_in hu) (de_meth M_thing cC hr (dv 0) (da_cons (de_ix hu (dv 1) de_int) (da_cons (dv 2) da_nil))) (de_thaw (de_ix hu (de_fld (dv 0)) (de_ix hu (dv 1) de_int))) rfl))) dss_nil)
    (dss_cons (ds_if (dt_cmp (od_eq hr.units) (de_ix hu (dv 1) de_int) de_str (nomark _)) (dss_one (ds_ret (de_cmp (od_inP hR65) (de_tup (da_cons (de_meth M_thing cC hr (dv 0) (da_cons (de_ix hu (dv 1) de_int) (da_cons (dv 2) da_nil))) (da_cons (de_meth M_thing cC hr (dv 0) (da_cons (de_ix hu (dv 1) de_int) (da_cons (dv 2) da_nil))) da_nil))) (de_thaw (de_ix hu (de_fld (dv 0)) (de_ix hu (dv 1) de_int))) rfl))) dss_nil)
    (dss_cons (ds_if (dt_cmp (od_eq hr.units) (de_ix hu (dv 1) de_int) de_str (nomark _)) (dss_one (ds_ret (de_cmp (od_eq hr.units) (de_meth M_thing cC hr (dv 0) (da_cons (de_ix hu (dv 1) de_int) (da_cons (dv 2) da_nil))) (de_meth M_thing cC hr (dv 0) (da_cons (de_ix hu (dv 1) de_int) (da_cons (dv 2) da_nil))) (nomark _)))) dss_nil)
    (dss_cons (ds_if (dt_cmp (od_eq hr.units) (de_ix hu (dv 1) de_int) de_str (nomark _)) (dss_one (ds_ret (de_cmp od_ge (de_meth M_count cC hr (dv 0) (da_cons (de_ix hu (dv 1) de_int) da_nil)) (de_meth M_count cC hr (dv 0) (da_cons (de_ix hu (dv 1) de_int) da_nil)) (nomark _)))) dss_nil)
    (dss_one (ds_ret de_bl)))))), ?_⟩
  cases F with
  | is t k =>
    simp only [Fm.d]
    walk_at "go"
    refine ⟨v, _, rfl, v1, vl_thing, v, pb, W, kvs, b, t, rfl, hv0, hb, hbd, hcl, ?_⟩
    refine ⟨v, C, _, .ref pk, rfl, v1, V.cl, V.nk, vl_k, ?_⟩
    walk_at "dl"
    rw [v4]
    walk_at "dl"
    obtain ⟨l, el⟩ := Option.isSome_iff_exists.mp hin.2
    have e1 := v7 k
    rw [el] at e1
    refine ⟨_, e1, ?_⟩
    refine ⟨_, ints_map l, S, Sub.refl, ?_⟩
    unfold ev at h
    rw [el] at h
    show Q (.bl (decide ((val W b t : Int) ∈ l.map fun (i : Nat) => (i : Int)))) S
    rw [mem_cast]
    exact h
  | does d x y =>
    simp only [Fm.d]
    walk_at "go"
    refine ⟨v, _, rfl, v1, vl_thing, v, pb, W, kvs, b, x, rfl, hv0, hb, hbd, hcl.1, ?_⟩
    refine ⟨v, _, rfl, v1, vl_thing, v, pb, W, kvs, b, y, rfl, hv0, hb, hbd, hcl.2, ?_⟩
    refine ⟨v, C, _, .ref pd, rfl, v1, V.cl, V.nd, vl_d, ?_⟩
    walk_at "dl"
    rw [v5]
    walk_at "dl"
    obtain ⟨l, el⟩ := Option.isSome_iff_exists.mp hin.1
    have e1 := v8 d
    rw [el] at e1
    refine ⟨_, e1, ?_⟩
    refine ⟨ppP (val W b x, val W b y), l.map ppP, ppP_PD (q := (val W b x, val W b y)), ppPs_PD l, rfl, pp_shaped l, fun q hq => ?_, S, Sub.refl, ?_⟩
    · obtain ⟨r, _, rfl⟩ := List.mem_map.mp hq
      rfl
    · rw [any_pair]
      unfold ev at h
      rw [el] at h
      exact h
  | same x y =>
    simp only [Fm.d]
    walk_at "go"
    refine ⟨v, _, rfl, v1, vl_thing, v, pb, W, kvs, b, x, rfl, hv0, hb, hbd, hcl.1, ?_⟩
    refine ⟨v, _, rfl, v1, vl_thing, v, pb, W, kvs, b, y, rfl, hv0, hb, hbd, hcl.2, ?_⟩
    refine ⟨S, Sub.refl, ?_⟩
    unfold ev at h
    have e : decide ((val W b x : Int) = (val W b y : Int)) = decide (val W b x = val W b y) := decide_eq_decide.mpr ⟨fun z => by omega, fun z => by omega⟩
    show Q (.bl (decide ((val W b x : Int) = (val W b y : Int)))) S
    rw [e]
    exact h
  | _ => exact hlf.elim
theorem df_count {k : Nat} (A : AtM K C "count" "View.count" s_View_count) : DfM P w K mg base C "count" (k + 1) fun _ _ _ => False :=
  dfM_mk A rfl sc_View_count (fun _ _ _ _ _ _ us hl => match us, hl with | [_, _], _ => rfl) (fun ds S Q h => h.elim) fun f cdv A outer s H E hr ds S Q h => h.elim
def spOf (C : Addr) (n : Nat) : SpD := fun ds S Q => ∃ (v pb : Addr) (W : Wo) (kvs : List (Key × D)) (b : Bd) (w : Q2) (x : Str) (F : Fm) (i : Nat), ds = [.ref v, (Fm.qu w x F).d, .ref pb, iD i] ∧ VAt C S v W ∧ S pb = some (.dk kvs) ∧ BdOk kvs b ∧ kvs.length + F.ht + 1 ≤ 200 ∧ F.ht ≤ n ∧
  F.cl (fun s => ((b s).isSome = true ∨ (W.nm s).isSome = true) ∨ s = x) ∧ F.inW W ∧ Q (.bl (ev W (bput b x i) F)) S
theorem df_of {k n : Nat} (T : Bt mg) (V : Vc K mg C) (A : AtM K C "keeps_of" "View.keeps_of" s_View_keeps_of) (M_keeps : DfM P w K mg base C "keeps" k (spKeeps C n)) : DfM P w K mg base C "keeps_of" (k + 1) (spOf C n) := by
  have nd := sc_View_keeps_of.nd
  refine dfM_mk A rfl sc_View_keeps_of (fun _ _ _ _ _ _ us hl => match us, hl with | [_, _, _, _], _ => rfl) (fun ds S Q h => ?_) (fun f cdv A outer s H E hr ds S Q h => ?_)
  · obtain ⟨v, pb, W, kvs, b, w, x, F, i, rfl, _⟩ := h
    rfl
  obtain ⟨v, pb, W, kvs, b, w, x, F, i, rfl, hv, hb, hbd, hz, hn, hcl, hin, h⟩ := h
  have hu := hu_of hr
  have cC := V.cl
  refine ⟨_, (dss_cons (ds_set (i := 4) nd rfl (Or.inl rfl) (de_callTy (cd_dictF rfl) rfl T.dict_ (by decide +kernel) (da_cons (dv 2) da_nil)))
    (dss_cons (ds_setitem hu (dv 4) (de_ix hu (dv 1) de_int) (dv 3))
    (dss_one (ds_ret (de_meth M_keeps cC hr (dv 0) (da_cons (de_ix hu (dv 1) de_int) (da_cons (dv 4) da_nil))))))), ?_⟩
  simp only [Fm.d]
  walk_at "go"
  refine ⟨kvs, hb, fun p np => ?_⟩
  walk_at "go"
  refine ⟨szLt (by omega), ?_⟩
  walk_at "go"
  have sub : Sub S (put S p (.dk (dput kvs (.inr x) (iD i)))) := Sub.new np
  obtain ⟨pt, pn, pk, pd, nkv, kkv, dkv, v1, v2⟩ := hv
  refine ⟨v, _, rfl, sub _ _ v1, vl_keeps, v, p, W, _, bput b x i, F, rfl, VAt.sub ⟨pt, pn, pk, pd, nkv, kkv, dkv, v1, v2⟩ sub, put_same, hbd.put, Nat.le_trans (Nat.add_le_add_right length_dput _) (by omega), hn, ?_, hin, S, sub, h⟩
  refine hcl.imp fun s hs => ?_
  unfold bput
  by_cases e : s = x
  · rw [if_pos e]; exact .inl rfl
  · rw [if_neg e]; exact hs.resolve_right e
theorem leafy_ht {F : Fm} (h : leafy F) : F.ht = 1 := by cases F <;> first | rfl | exact h.elim
theorem df_keeps {k : Nat} (T : Bt mg) (V : Vc K mg C) (A : AtM K C "keeps" "View.keeps" s_View_keeps) (AO : AtM K C "keeps_of" "View.keeps_of" s_View_keeps_of) (Mp : DfM P w K mg base C "keeps_plain" k (spPlain C)) (n : Nat) :
    DfM P w K mg base C "keeps" (k + 2 * n + 1) (spKeeps C n) := by
  have nd := sc_View_keeps.nd
  induction n with
  | zero =>
    refine dfM_mk A rfl sc_View_keeps (fun _ _ _ _ _ _ us hl => match us, hl with | [_, _, _], _ => rfl) (fun ds S Q h => ?_) (fun f cdv A outer s H E hr ds S Q h => ?_)
    · obtain ⟨v, pb, W, kvs, b, F, rfl, _⟩ := h
      rfl
    · obtain ⟨v, pb, W, kvs, b, F, rfl, _, _, _, _, h, _⟩ := h
      have := F.ht_pos
      omega
  | succ n Mk0 =>
  have M_keeps_of := df_of T V AO Mk0
  have M_keeps := Mk0.mono (show k + 2 * n + 1 ≤ k + 2 * n + 2 by omega)
  have M_keeps_plain := Mp.mono (show k ≤ k + 2 * n + 2 by omega)
  refine dfM_mk A rfl sc_View_keeps (fun _ _ _ _ _ _ us hl => match us, hl with | [_, _, _], _ => rfl) (fun ds S Q h => ?_) (fun f cdv A outer s H E hr ds S Q h => ?_)
  · obtain ⟨v, pb, W, kvs, b, F, rfl, _⟩ := h
    rfl
  obtain ⟨v, pb, W, kvs, b, F, rfl, hv, hb, hbd, hz, hn, hcl, hin, h⟩ := h
  have hu := hu_of hr
  have cC := V.cl
  have hv0 := hv
  obtain ⟨pt, pn, pk, pd, nkv, kkv, dkv, v1, v2, v3, v4, v5, v6, v7, v8, v9⟩ := hv
  refine ⟨_, (dss_cons (ds_set (i := 3) nd rfl (Or.inl rfl) (de_ix hu (dv 1) de_int))
    (dss_cons (ds_if (dt_cmp (od_eq hr.units) (dv 3) de_str (nomark _)) (dss_one (ds_ret (de_not (de_meth M_keeps cC hr (dv 0) (da_cons (de_ix hu (dv 1) de_int) (da_cons (dv 2) da_nil)))))) dss_nil)
    (dss_cons (ds_if (dt_cmp (od_eq hr.units) (dv 3) de_str (nomark _)) (dss_one (ds_ret (de_and (de_meth M_keeps cC hr (dv 0) (da_cons (de_ix hu (dv 1) de_int) (da_cons (dv 2) da_nil))) (de_one (de_meth M_keeps cC hr (dv 0) (da_cons (de_ix hu (dv 1) de_int) (da_cons (dv 2) da_nil))))))) dss_nil)
    (dss_cons (ds_if (dt_cmp (od_eq hr.units) (dv 3) de_str (nomark _)) (dss_one (ds_ret (de_or (de_meth M_keeps cC hr (dv 0) (da_cons (de_ix hu (dv 1) de_int) (da_cons (dv 2) da_nil))) (de_one (de_meth M_keeps cC hr (dv 0) (da_cons (de_ix hu (dv 1) de_int) (da_cons (dv 2) da_nil))))))) dss_nil)
    (dss_cons (ds_if (dt_cmp (od_eq hr.units) (dv 3) de_str (nomark _)) (dss_one (ds_ret (de_or (de_not (de_meth M_keeps cC hr (dv 0) (da_cons (de_ix hu (dv 1) de_int) (da_cons (dv 2) da_nil)))) (de_one (de_meth M_keeps cC hr (dv 0) (da_cons (de_ix hu (dv 1) de_int) (da_cons (dv 2) da_nil))))))) dss_nil)
    (dss_cons (ds_if (dt_cmp (od_eq hr.units) (dv 3) de_str (nomark _)) (dss_one (ds_ret (de_callB (cd_all rfl) rfl T.all_ (by decide +kernel) (da_cons (de_lc (own := [("thing", 4)]) (g := GD.one 4) rfl nd (di_any (de_fld (dv 0))) (blkOk_by (own := [("thing", 4)]) (N := ["self", "form", "bound", "word", "thing"]) (sc := defScope s_View_keeps) (by decide +kernel)) (fun _ _ _ _ _ => (dg_name (i := 4) nd rfl (Or.inl rfl))) (fun _ _ _ _ _ => dts_nil) (fun _ _ _ _ _ => (de_meth M_keeps_of cC hr (dv 0) (da_cons (dv 1) (da_cons (dv 2) (da_cons (dv 4) da_nil)))))) da_nil)))) dss_nil)
    (dss_cons (ds_if (dt_cmp (od_eq hr.units) (dv 3) de_str (nomark _)) (dss_one (ds_ret (de_callB (cd_any rfl) rfl T.any_ (by decide +kernel) (da_cons (de_lc (own := [("thing", 4)]) (g := GD.one 4) rfl nd (di_any (de_fld (dv 0))) (blkOk_by (own := [("thing", 4)]) (N := ["self", "form", "bound", "word", "thing"]) (sc := defScope s_View_keeps) (by decide +kernel)) (fun _ _ _ _ _ => (dg_name (i := 4) nd rfl (Or.inl rfl))) (fun _ _ _ _ _ => dts_nil) (fun _ _ _ _ _ => (de_meth M_keeps_of cC hr (dv 0) (da_cons (dv 1) (da_cons (dv 2) (da_cons (dv 4) da_nil)))))) da_nil)))) dss_nil)
    (dss_one (ds_ret (de_meth M_keeps_plain cC hr (dv 0) (da_cons (dv 1) (da_cons (dv 2) da_nil)))))))))))), ?_⟩
  have plain : leafy F → ∃ a fs, D.ref v = D.ref a ∧ S a = some (.ins C fs) ∧ List.lookup ("keeps_plain" : Str) fs = none ∧ spPlain C [.ref v, F.d, .ref pb] S fun d S' => ∃ S'', Sub S'' S' ∧ Q d S'' := fun hl =>
    ⟨v, _, rfl, v1, vl_plain, v, pb, W, kvs, b, F, hl, rfl, hv0, hb, hbd, hcl, hin, S, Sub.refl, h⟩
  -- one form within
  have one : ∀ (G : Fm) (R : KD), G.ht < F.ht → G.cl (fun s => (b s).isSome = true ∨ (W.nm s).isSome = true) → G.inW W → R (.bl (ev W b G)) S → ∃ a fs, D.ref v = D.ref a ∧ S a = some (.ins C fs) ∧ List.lookup ("keeps" : Str) fs = none ∧ spKeeps C n [.ref v, G.d, .ref pb] S R := fun G R h1 h2 h3 h4 =>
    ⟨v, _, rfl, v1, vl_keeps, v, pb, W, kvs, b, G, rfl, hv0, hb, hbd, by omega, by omega, h2, h3, h4⟩
  cases F with
  | is t k =>
    simp only [Fm.d]
    walk_at "go"
    exact plain trivial
  | does d x y =>
    simp only [Fm.d]
    walk_at "go"
    exact plain trivial
  | same x y =>
    simp only [Fm.d]
    walk_at "go"
    exact plain trivial
  | neg G =>
    simp only [Fm.d]
    walk_at "go"
    refine one G _ (Nat.lt_succ_self _) hcl hin ?_
    exact ⟨S, Sub.refl, h⟩
  | bin wd G1 G2 =>
    have l1 : G1.ht < (Fm.bin wd G1 G2).ht := by simp only [Fm.ht]; omega
    have l2 : G2.ht < (Fm.bin wd G1 G2).ht := by simp only [Fm.ht]; omega
    cases wd with
    | and =>
      simp only [Fm.d, J3.s]
      walk_at "go"
      refine one G1 _ l1 hcl.1 hin.1 ?_
      walk_at "dl"
      unfold ev at h
      cases e : ev W b G1 with
      | true =>
        rw [e] at h
        refine one G2 _ l2 hcl.2 hin.2 ⟨S, Sub.refl, ?_⟩
        exact h
      | false =>
        rw [e] at h
        exact ⟨S, Sub.refl, h⟩
    | or =>
      simp only [Fm.d, J3.s]
      walk_at "go"
      refine one G1 _ l1 hcl.1 hin.1 ?_
      walk_at "dl"
      unfold ev at h
      cases e : ev W b G1 with
      | true =>
        rw [e] at h
        exact ⟨S, Sub.refl, h⟩
      | false =>
        rw [e] at h
        refine one G2 _ l2 hcl.2 hin.2 ⟨S, Sub.refl, ?_⟩
        exact h
    | «if» =>
      simp only [Fm.d, J3.s]
      walk_at "go"
      refine one G1 _ l1 hcl.1 hin.1 ?_
      walk_at "dl"
      unfold ev at h
      cases e : ev W b G1 with
      | true =>
        rw [e] at h
        refine one G2 _ l2 hcl.2 hin.2 ⟨S, Sub.refl, ?_⟩
        exact h
      | false =>
        rw [e] at h
        exact ⟨S, Sub.refl, h⟩
  | qu wd x G =>
    have comp : ∀ (p : Addr) (wd : Q2) (δ : StD) (R : KD), S p = none → wipeD δ [4] = [some (.ref v), some (Fm.qu wd x G).d, some (.ref pb), some (.str wd.s), none] → R (.ref p) (put S p (.lst ((List.range W.many).map fun i => D.bl (ev W (bput b x i) G)))) →
        lcB (itJ (.ref pt)) (GD.one 4) tYesD (tMethD C "keeps_of" (spOf C n) (tVarD 0) (tConsD (tVarD 1) (tConsD (tVarD 2) (tConsD (tVarD 4) tNilD)))) [4] δ R p S := by
      intro p wd δ R np hδ hR
      have sub : ∀ acc, Sub S (put S p (.lst acc)) := fun acc => Sub.new np
      refine lcB_zip ((List.range W.many).map iD) _ (by simp) (fun i acc => ?_) (by simp; exact szOk (by omega)) (fun i z r acc Y N e1 e2 y => ?_) hR
      · show lstJ (put S p (.lst acc) pt) i = _
        rw [sub acc _ _ v2]
        rfl
      · rw [hδ]
        rw [List.getElem?_map] at e1 e2
        cases e : (List.range W.many)[i]? with
        | none => rw [e] at e1; cases e1
        | some j =>
          rw [e] at e1 e2
          cases e1
          cases e2
          walk_at "dl"
          refine ⟨v, _, rfl, sub acc _ _ v1, vl_of, v, pb, W, kvs, b, wd, x, G, j, rfl, hv0.sub (sub acc), sub acc _ _ hb, hbd, ?_, ?_, hcl, hin.2, y⟩
          · simp only [Fm.ht] at hz; omega
          · simp only [Fm.ht] at hn; omega
    have bls : ∀ wd : Q2, blsOf ((List.range W.many).map fun i => D.bl (ev W (bput b x i) G)) = some ((List.range W.many).map fun i => ev W (bput b x i) G) := fun _ => by
      have e : (List.range W.many).map (fun i => D.bl (ev W (bput b x i) G)) = ((List.range W.many).map fun i => ev W (bput b x i) G).map D.bl := by rw [List.map_map]; rfl
      rw [e]
      exact blsOf_of _
    cases wd with
    | every =>
      simp only [Fm.d, Q2.s]
      walk_at "go"
      refine ⟨v, C, _, .ref pt, rfl, v1, V.cl, V.nt, vl_t, ⟨_, v2⟩, fun p np => comp p .every _ _ np rfl ?_⟩
      refine ⟨_, _, seqAt_ref put_same, bls .every, S, Sub.new np, ?_⟩
      rw [List.all_map]
      unfold ev at h
      exact h
    | some =>
      simp only [Fm.d, Q2.s]
      walk_at "go"
      refine ⟨v, C, _, .ref pt, rfl, v1, V.cl, V.nt, vl_t, ⟨_, v2⟩, fun p np => comp p .some _ _ np rfl ?_⟩
      refine ⟨_, _, seqAt_ref put_same, bls .some, S, Sub.new np, ?_⟩
      rw [List.any_map]
      unfold ev at h
      exact h
theorem fput_len (f : Str) (d : D) : ∀ fs : List (Str × D), (fput f d fs).length ≤ fs.length + 1
  | [] => Nat.le_refl _
  | (g, x) :: r => by
    unfold fput
    split
    · simp
    · have := fput_len f d r
      simp
      omega
theorem fl1 (f : Str) (x : D) : (fput f x []).length ≤ 1 := fput_len _ _ _
theorem fl2 (f g : Str) (x y : D) : (fput g y (fput f x [])).length ≤ 2 := Nat.le_trans (fput_len _ _ _) (Nat.succ_le_succ (fl1 f x))
theorem fl3 (f g k : Str) (x y z : D) : (fput k z (fput g y (fput f x []))).length ≤ 3 := Nat.le_trans (fput_len _ _ _) (Nat.succ_le_succ (fl2 f g x y))
def nKv (W : Wo) : List (Key × D) := W.nms.map fun p => (.inr p.1, iD p.2)
def kKv (W : Wo) : List (Key × D) := W.kds.map fun p => (.inr p.1, .ftup (p.2.map iD))
def dKv (W : Wo) : List (Key × D) := W.dgs.map fun p => (.inr p.1, .ftup (p.2.map ppD))
theorem nKv_p (W : Wo) : W.nms.map nmD = pairsD (nKv W) := (pairsD_map (f := iD) W.nms).symm
theorem kKv_p (W : Wo) : W.kds.map kdD = pairsD (kKv W) := (pairsD_map (f := fun l : List Nat => D.ftup (l.map iD)) W.kds).symm
theorem dKv_p (W : Wo) : W.dgs.map dgD = pairsD (dKv W) := (pairsD_map (f := fun l : List (Nat × Nat) => D.ftup (l.map ppD)) W.dgs).symm
theorem vstep {T : Store} {v p C : Addr} {o : DO} {fs fs' : List (Str × D)} (hv : T v = some (.ins C fs)) (np : T p = none) : put (put T p o) v (.ins C fs') v = some (.ins C fs') ∧ put (put T p o) v (.ins C fs') p = some o ∧
    (∀ b u, b ≠ v → T b = some u → put (put T p o) v (.ins C fs') b = some u) ∧ put T p o v = some (.ins C fs) := by
  have pv : p ≠ v := fun z => by rw [z, hv] at np; cases np
  refine ⟨put_same, by rw [put_ne pv, put_same], fun b u hb e => ?_, by rw [put_ne pv.symm]; exact hv⟩
  have bp : b ≠ p := fun z => by rw [z, np] at e; cases e
  rw [put_ne hb, put_ne bp]
  exact e
def spInitC (C : Addr) : SpD := fun ds S Q => ∃ (v : Addr) (W : Wo), ds = [.ref v, W.d] ∧ S v = some (.ins C []) ∧ WoOk W ∧ ∀ S', (∀ b o, b ≠ v → S b = some o → S' b = some o) → VAt C S' v W → Q .non S'
theorem df_init {k : Nat} (T : Bt mg) (V : Vc K mg C) {f : Addr} {fd : FuncData} (F : Fun K "__init__" "View.__init__" s_View___init__ f fd) : FnOk P w K mg base CX0 (k + 1) f fd ["self", "world"] (liftSp K (spInitC C)) := by
  have nd := sc_View___init__.nd
  refine fn_body F rfl sc_View___init__ (fun ds S Q h => ?_) (fun cdv A outer s H E hr ds S Q h => ?_)
  · obtain ⟨v, W, rfl, _⟩ := h
    rfl
  obtain ⟨v, W, rfl, hv, hW, h⟩ := h
  have hu := hu_of hr
  refine ⟨_, (dss_cons (ds_asg (dv 1) (dg_tup rfl (dgs_cons (dg_name (i := 2) nd rfl (Or.inl rfl)) (dgs_cons (dg_name (i := 3) nd rfl (Or.inl rfl)) (dgs_cons (dg_name (i := 4) nd rfl (Or.inl rfl)) (dgs_cons (dg_name (i := 5) nd rfl (Or.inl rfl)) dgs_nil))))))
    (dss_cons (ds_fld (dv 0) (de_listRg rfl rfl T.list_ rfl T.range_ (dv 2)))
    (dss_cons (ds_fld (dv 0) (de_callTy (cd_dictF rfl) rfl T.dict_ (by decide +kernel) (da_cons (dv 3) da_nil)))
    (dss_cons (ds_fld (dv 0) (de_callTy (cd_dictF rfl) rfl T.dict_ (by decide +kernel) (da_cons (dv 4) da_nil)))
    (dss_one (ds_fld (dv 0) (de_callTy (cd_dictF rfl) rfl T.dict_ (by decide +kernel) (da_cons (dv 5) da_nil)))))))), ?_⟩
  simp only [Wo.d, iD]
  walk_at "go"
  refine ⟨W.many, rfl, by have := hW.m; omega, fun q nq => ?_⟩
  obtain ⟨a1, a2, a3, a4⟩ := vstep (o := .lst ((List.range W.many).map fun i => D.int (i : Nat))) (fs' := fput "things" (.ref q) []) hv nq
  refine ⟨v, C, [], rfl, a4, V.cl, V.nt, by simp, ?_⟩
  generalize put (put S q (.lst ((List.range W.many).map fun i => D.int (i : Nat)))) v (.ins C (fput "things" (.ref q) [])) = T1 at a1 a2 a3
  refine sq ?_
  refine ⟨nKv W, nKv_p W, fun pn npn => ?_⟩
  obtain ⟨b1, b2, b3, b4⟩ := vstep (o := .dk (dmerge [] (nKv W))) (fs' := fput "names" (.ref pn) (fput "things" (.ref q) [])) a1 npn
  refine ⟨v, C, _, rfl, b4, V.cl, V.nn, Nat.lt_of_le_of_lt (fl1 _ _) (by decide), ?_⟩
  generalize put (put T1 pn (.dk (dmerge [] (nKv W)))) v (.ins C (fput "names" (.ref pn) (fput "things" (.ref q) []))) = T2 at b1 b2 b3
  refine sq ?_
  refine ⟨kKv W, kKv_p W, fun pk npk => ?_⟩
  obtain ⟨c1, c2, c3, c4⟩ := vstep (o := .dk (dmerge [] (kKv W))) (fs' := fput "kinds" (.ref pk) (fput "names" (.ref pn) (fput "things" (.ref q) []))) b1 npk
  refine ⟨v, C, _, rfl, c4, V.cl, V.nk, Nat.lt_of_le_of_lt (fl2 _ _ _ _) (by decide), ?_⟩
  generalize put (put T2 pk (.dk (dmerge [] (kKv W)))) v (.ins C (fput "kinds" (.ref pk) (fput "names" (.ref pn) (fput "things" (.ref q) [])))) = T3 at c1 c2 c3
  refine ⟨dKv W, dKv_p W, fun pd npd => ?_⟩
  obtain ⟨d1, d2, d3, d4⟩ := vstep (o := .dk (dmerge [] (dKv W))) (fs' := fput "doings" (.ref pd) (fput "kinds" (.ref pk) (fput "names" (.ref pn) (fput "things" (.ref q) [])))) c1 npd
  refine ⟨v, C, _, rfl, d4, V.cl, V.nd, Nat.lt_of_le_of_lt (fl3 _ _ _ _ _ _) (by decide), ?_⟩
  have qv : q ≠ v := fun z => by rw [z, hv] at nq; cases nq
  have nv : pn ≠ v := fun z => by rw [z, a1] at npn; cases npn
  have kv : pk ≠ v := fun z => by rw [z, b1] at npk; cases npk
  have dv' : pd ≠ v := fun z => by rw [z, c1] at npd; cases npd
  refine ⟨_, Sub.refl, h _ (fun b o hb e => d3 _ _ hb (c3 _ _ hb (b3 _ _ hb (a3 _ _ hb e)))) ?_⟩
  exact ⟨q, pn, pk, pd, _, _, _, d1, d3 _ _ qv (c3 _ _ qv (b3 _ _ qv a2)), d3 _ _ nv (c3 _ _ nv b2), d3 _ _ kv c2, d2, merged_val hW.n, merged_val (f := fun l : List Nat => D.ftup (List.map iD l)) hW.k, merged_val (f := fun l : List (Nat × Nat) => D.ftup (List.map ppD l)) hW.d, hW.m⟩
def spHolds : SpD := fun ds S Q => ∃ (W : Wo) (F : Fm), ds = [W.d, F.d] ∧ WoOk W ∧ F.ht ≤ 60 ∧ F.cl (fun s => (W.nm s).isSome = true) ∧ F.inW W ∧ Q (.bl (ev W (fun _ => none) F)) S
theorem df_holds {k : Nat} (T : Bt mg) (V : Vc K mg C) (A : At K mg "holds" "holds" s_holds) (M_keeps : DfM P w K mg base C "keeps" k (spKeeps C 60)) (I_View : DfI P w K mg base C k (spInitC C)) : Df P w K mg base "holds" (k + 2) spHolds := by
  have nd := sc_holds.nd
  refine df_mk A rfl sc_holds (fun _ _ _ _ _ _ us hl => match us, hl with | [_, _], _ => rfl) (fun ds S Q h => ?_) (fun f cdv A outer s H E hr1 ds S Q h => ?_)
  · obtain ⟨W, F, rfl, _⟩ := h
    rfl
  obtain ⟨W, F, rfl, hW, hn, hcl, hin, h⟩ := h
  have hr := hr1.mono (show k ≤ k + 1 by omega)
  have hu := hu_of hr1
  have cC := V.cl
  have m_View := V.mgC
  refine ⟨_, (dss_one (ds_ret (de_meth M_keeps cC hr (de_make I_View m_View hr1 rfl (da_cons (dv 0) da_nil)) (da_cons (dv 1) (da_cons de_dict da_nil))))), ?_⟩
  walk_at "go"
  intro v nv
  refine ⟨v, W, rfl, put_same, hW, fun S1 h1 hv => ⟨rfl, ?_⟩⟩
  walk_at "dl"
  obtain ⟨pt, pn, pk, pd, nkv, kkv, dkv, v1, v2⟩ := id hv
  refine ⟨v, _, rfl, v1, vl_keeps, fun p np => ?_⟩
  have sub : Sub S1 (put S1 p (.dk [])) := Sub.new np
  refine ⟨v, p, W, [], fun _ => none, F, rfl, hv.sub sub, put_same, fun s => rfl, by simp; omega, hn, hcl.imp fun s hs => .inr hs, hin, S, ?_, h⟩
  intro b o e
  have bv : b ≠ v := fun z => by rw [z, nv] at e; cases e
  exact sub _ _ (h1 b o bv (by rw [put_ne bv]; exact e))
end
end K72

set_option Elab.async false
set_option maxRecDepth 100000
set_option linter.unusedVariables false
namespace K72
open PySem PySem.Spec PyProof.Rows L2 DL
/-! sorting by the key -/
def skN (p : Str × Nat) : SK := ⟨p.1, nmD p, .tuple [.str p.1, .int (p.2 : Nat)]⟩
def skK (p : Str × List Nat) : SK := ⟨p.1, kdD p, .tuple [.str p.1, .tuple (p.2.map fun i : Nat => .int (i : Nat))]⟩
def nsort (l : List (Str × Nat)) : List (Str × Nat) := l.mergeSort fun a b => SK.le (skN a) (skN b)
def ksort (l : List (Str × List Nat)) : List (Str × List Nat) := l.mergeSort fun a b => SK.le (skK a) (skK b)
theorem nsort_map (l : List (Str × Nat)) : ((l.map skN).mergeSort SK.le).map SK.d = (nsort l).map nmD := by
  rw [← List.map_mergeSort (r := fun a b => SK.le (skN a) (skN b)) (fun a _ b _ => rfl), List.map_map]
  rfl
theorem ksort_map (l : List (Str × List Nat)) : ((l.map skK).mergeSort SK.le).map SK.d = (ksort l).map kdD := by
  rw [← List.map_mergeSort (r := fun a b => SK.le (skK a) (skK b)) (fun a _ b _ => rfl), List.map_map]
  rfl
theorem nsort_perm (l : List (Str × Nat)) : (nsort l).Perm l := List.mergeSort_perm _ _
theorem ksort_perm (l : List (Str × List Nat)) : (ksort l).Perm l := List.mergeSort_perm _ _
theorem lookup_mem {α : Type} {s : Str} {x : α} : ∀ {l : List (Str × α)}, (l.map (·.1)).Nodup → (l.lookup s = some x ↔ (s, x) ∈ l)
  | [], _ => by simp
  | (k, y) :: r, hn => by
    have hn' := List.nodup_cons.mp hn
    rw [List.lookup_cons]
    by_cases c : s = k
    · subst c
      rw [beq_self_eq_true]
      constructor
      · intro e
        cases e
        exact List.mem_cons_self
      · intro h
        rcases List.mem_cons.mp h with h | h
        · cases h; rfl
        · exact absurd (List.mem_map.mpr ⟨_, h, rfl⟩) hn'.1
    · have e : (s == k) = false := by simpa using c
      rw [e]
      show r.lookup s = some x ↔ _
      rw [lookup_mem hn'.2, List.mem_cons]
      constructor
      · exact Or.inr
      · rintro (h | h)
        · cases h; exact absurd rfl c
        · exact h
theorem lookup_perm {α : Type} {l l' : List (Str × α)} (h : l.Perm l') (hn : (l'.map (·.1)).Nodup) (s : Str) : l.lookup s = l'.lookup s := by
  have hn1 : (l.map (·.1)).Nodup := (h.map (·.1)).nodup_iff.mpr hn
  cases e : l'.lookup s with
  | some x => exact (lookup_mem hn1).mpr (h.mem_iff.mpr ((lookup_mem hn).mp e))
  | none =>
    cases e2 : l.lookup s with
    | none => rfl
    | some x =>
      have := (lookup_mem hn).mpr (h.mem_iff.mp ((lookup_mem hn1).mp e2))
      rw [e] at this
      cases this
theorem lookup_snoc {α : Type} {s k : Str} {x : α} : ∀ {l : List (Str × α)}, k ∉ l.map (·.1) → (l ++ [(k, x)]).lookup s = if s = k then some x else l.lookup s
  | [], _ => by
    show List.lookup s [(k, x)] = _
    rw [List.lookup_cons]
    by_cases c : s = k
    · subst c; simp
    · have e : (s == k) = false := by simpa using c
      rw [e, if_neg c]
  | (j, y) :: r, h => by
    rw [List.map_cons, List.mem_cons, not_or] at h
    rw [List.cons_append, List.lookup_cons, List.lookup_cons, lookup_snoc h.2]
    by_cases c : s = j
    · subst c
      rw [beq_self_eq_true]
      exact (if_neg (fun z => h.1 z.symm)).symm
    · have e : (s == j) = false := by simpa using c
      rw [e]
theorem lookup_none {α : Type} {s : Str} : ∀ {l : List (Str × α)}, (l.lookup s).isSome = true ↔ s ∈ l.map (·.1)
  | [] => by simp
  | (j, y) :: r => by
    rw [List.lookup_cons, List.map_cons, List.mem_cons]
    by_cases c : s = j
    · subst c
      rw [beq_self_eq_true]
      simp
    · have e : (s == j) = false := by simpa using c
      rw [e]
      show (r.lookup s).isSome = true ↔ _
      rw [lookup_none]
      exact ⟨Or.inr, fun z => z.resolve_left c⟩
/-! what holds: names and letters -/
theorem ev_congr {W W' : Wo} (hk : W'.kds = W.kds) (hd : W'.dgs = W.dgs) (hm : W'.many = W.many) : ∀ (F : Fm) (b b' : Bd) (N : Str → Prop), F.ok N (fun _ => True) (fun _ => True) → (∀ t, N t → val W' b' t = val W b t) → ev W' b' F = ev W b F := by
  intro F
  induction F with
  | is t k =>
    intro b b' N h v
    unfold ev Wo.kd
    rw [v t h.1, hk]
  | does d x y =>
    intro b b' N h v
    unfold ev Wo.dg
    rw [v x h.2.1, v y h.2.2, hd]
  | same x y =>
    intro b b' N h v
    unfold ev
    rw [v x h.1, v y h.2]
  | neg f ih =>
    intro b b' N h v
    unfold ev
    rw [ih b b' N h v]
  | bin w f g ihf ihg =>
    intro b b' N h v
    cases w <;> unfold ev <;> rw [ihf b b' N h.1 v, ihg b b' N h.2 v]
  | qu w x f ih =>
    intro b b' N h v
    have step : ∀ i, ev W' (bput b' x i) f = ev W (bput b x i) f := fun i => ih _ _ N h.2 fun t ht => by
      unfold val bput
      by_cases c : t = x
      · rw [if_pos c, if_pos c]; rfl
      · rw [if_neg c, if_neg c]; exact v t ht
    cases w
    · unfold ev; rw [hm]; exact congrArg _ (funext step)
    · unfold ev; rw [hm]; exact congrArg _ (funext step)
/-- a fresh name put for a letter, and standing for a thing -/
theorem ev_sub {W W' : Wo} {x n : Str} {i : Nat} (hk : W'.kds = W.kds) (hd : W'.dgs = W.dgs) (hm : W'.many = W.many) (hn : W'.nm n = some i) (hw : ∀ s, s ≠ n → W'.nm s = W.nm s) :
    ∀ (F : Fm) (b : Bd), Noc n F → b n = none → b x = none → ev W' b (sub x n F) = ev W (bput b x i) F := by
  have vn : ∀ (b : Bd) (t : Str), t ≠ n → b n = none → b x = none → val W' b (sb x n t) = val W (bput b x i) t := by
    intro b t ht hb hx
    unfold sb val bput
    by_cases c : t = x
    · rw [if_pos c, if_pos c, hb, hn]; rfl
    · rw [if_neg c, if_neg c, hw t ht]
  intro F
  induction F with
  | is t k =>
    intro b h hb hx
    show ev W' b (.is (sb x n t) k) = _
    unfold ev Wo.kd
    rw [vn b t h.1 hb hx, hk]
  | does d s t =>
    intro b h hb hx
    show ev W' b (.does d (sb x n s) (sb x n t)) = _
    unfold ev Wo.dg
    rw [vn b s h.2.1 hb hx, vn b t h.2.2 hb hx, hd]
  | same s t =>
    intro b h hb hx
    show ev W' b (.same (sb x n s) (sb x n t)) = _
    unfold ev
    rw [vn b s h.1 hb hx, vn b t h.2 hb hx]
  | neg f ih =>
    intro b h hb hx
    show ev W' b (.neg (sub x n f)) = _
    unfold ev
    rw [ih b h hb hx]
  | bin w f g ihf ihg =>
    intro b h hb hx
    show ev W' b (.bin w (sub x n f) (sub x n g)) = _
    cases w <;> unfold ev <;> rw [ihf b h.1 hb hx, ihg b h.2 hb hx]
  | qu w y f ih =>
    intro b h hb hx
    by_cases c : y = x
    · subst c
      rw [sub_qu_eq]
      have h1 : ev W' b (.qu w y f) = ev W b (.qu w y f) := ev_congr hk hd hm _ b b (fun s => s ≠ n) (h.imp (fun _ z => z) (fun _ _ => trivial) fun _ _ => trivial) fun t ht => by
        unfold val
        rw [hw t ht]
      rw [h1]
      have e : ∀ j, bput (bput b y i) y j = bput b y j := fun j => by
        funext s
        unfold bput
        by_cases d : s = y
        · rw [if_pos d, if_pos d]
        · rw [if_neg d, if_neg d, if_neg d]
      cases w <;> unfold ev <;> simp only [e]
    · rw [sub_qu_ne c]
      have e : ∀ j, bput (bput b x i) y j = bput (bput b y j) x i := fun j => by
        funext s
        unfold bput
        by_cases d : s = y
        · rw [if_pos d, if_neg (fun z => c (d.symm.trans z)), if_pos d]
        · rw [if_neg d, if_neg d]
      have step : ∀ j, ev W' (bput b y j) (sub x n f) = ev W (bput (bput b x i) y j) f := fun j => by
        rw [e]
        refine ih (bput b y j) h.2 ?_ ?_
        · unfold bput; rw [if_neg (fun z => h.1 z.symm)]; exact hb
        · unfold bput; rw [if_neg (fun z => c z.symm)]; exact hx
      cases w <;> unfold ev <;> rw [hm] <;> exact congrArg _ (funext step)
end K72

set_option Elab.async false
set_option maxRecDepth 100000
set_option linter.unusedVariables false
namespace K72
open PySem PySem.Spec PyProof.Rows L2 DL
local macro_rules | `(tactic| walk_at "dl") => `(tactic| try simp only [DL.tAsgD, DL.asg, DL.tVarD, DL.lk, DL.sto, DL.stos, DL.tOpD, DL.tCD, DL.tCallD, DL.tConsD, DL.tNilD, DL.tRetD, DL.endsD, DL.startD, DL.tIfSD, DL.tTestD, DL.tNextD, DL.tDropD, DL.tAndD, DL.tOrD, DL.tNotD, DL.tAndV, DL.tOrV, DL.tNotV, DL.tIfD, DL.tNegD, DL.tTupD, DL.tLstD, DL.tSetD, DL.tMD, DL.tSlD, DL.tPartD, DL.tNoD, DL.tRevD, DL.tForD, DL.tLcD, DL.tIterD, DL.tRng1D, DL.tRng2D, DL.tYesD, DL.wipeD, DL.tDictD, DL.tDictOne, DL.tFldD, DL.tMethD, DL.tMakeD, DL.tSetF, DL.tThaw, DL.thaw, DL.tLRg, DL.keyOf, DL.emE_rr, DL.tLess, DL.tLessS, DL.itOk, DL.rAdd_ii, DL.rAdd_ss, DL.rAdd_tt, DL.rAdd_rr, DL.rSub_ii, DL.rMod_ii, DL.rDiv_ii, DL.rPow_ii, DL.rMul_ii, DL.rMul_ri, DL.rLt_ii, DL.rLt_ss, DL.rLe_ii, DL.rGt_ii, DL.rGe_ii, DL.rEq_ii, DL.rEq_ss, DL.rEq_bb, DL.rNe_ii, DL.rNe_ss, DL.rNe_bb, DL.rEq_rr, DL.rNe_rr, DL.rEq_tt, DL.rNe_tt, DL.rIn_st, DL.rNotIn_st, DL.rIn_r, DL.rNotIn_r, DL.rIn_ss, DL.rInDO_sl, DL.rInDO_il, DL.rInDO_sd, DL.rInDO_id, DL.rIsN_n, DL.rIsN_t, DL.rIsN_i, DL.rIsN_s, DL.rIsN_r, DL.rNotN_n, DL.rNotN_t, DL.rNotN_i, DL.rNotN_s, DL.rNotN_r, DL.rIx_t, DL.rIx_r, DL.rIx_s, DL.rIxDO_l, DL.rIxDO_ds, DL.rIx0, DL.rIx1, DL.rIx2, DL.rIx3, DL.rSl_t, DL.rSl_s, DL.rSl_o, DL.rSl_r, DL.rSlDO, DL.rSet_r, DL.rSetDO_0, DL.rSetDO_s, DL.rLen_t, DL.rLen_o, DL.rLen_s, DL.rLen_r, DL.rLenDO, DL.rLenDO_d, DL.rList_t, DL.rList_o, DL.rList_r, DL.rListDO, DL.rTuple_t, DL.rTuple_r, DL.rInt_i, DL.rInt_b, DL.rMax, DL.rMin, DL.rSz0, DL.rSz1, DL.rSz2, DL.rSz3, DL.rSz4, DL.rSz5, DL.rSz6, DL.rSz7, DL.rSz8, Option.some.injEq, DL.DO.lst.injEq, exists_eq_left', exists_eq_left, DL.put_same, DL.put_put, true_and, and_true, List.map, List.replicate, List.length, List.cons_append, List.nil_append, Nat.reduceSub, Nat.reduceAdd, decide_eq_true_eq, if_true, if_false, Bool.false_eq_true, Bool.not_true, Bool.not_false])
local macro_rules | `(tactic| walk_at "dlh") => `(tactic| try simp only [*, DL.tAsgD, DL.asg, DL.tVarD, DL.lk, DL.sto, DL.stos, DL.tOpD, DL.tCD, DL.tCallD, DL.tConsD, DL.tNilD, DL.tRetD, DL.endsD, DL.startD, DL.tIfSD, DL.tTestD, DL.tNextD, DL.tDropD, DL.tAndD, DL.tOrD, DL.tNotD, DL.tAndV, DL.tOrV, DL.tNotV, DL.tIfD, DL.tNegD, DL.tTupD, DL.tLstD, DL.tSetD, DL.tMD, DL.tSlD, DL.tPartD, DL.tNoD, DL.tRevD, DL.tForD, DL.tLcD, DL.tIterD, DL.tRng1D, DL.tRng2D, DL.tYesD, DL.wipeD, DL.tDictD, DL.tDictOne, DL.tFldD, DL.tMethD, DL.tMakeD, DL.tSetF, DL.tThaw, DL.thaw, DL.tLRg, DL.keyOf, DL.emE_rr, DL.tLess, DL.tLessS, DL.itOk, DL.rAdd_ii, DL.rAdd_ss, DL.rAdd_tt, DL.rAdd_rr, DL.rSub_ii, DL.rMod_ii, DL.rDiv_ii, DL.rPow_ii, DL.rMul_ii, DL.rMul_ri, DL.rLt_ii, DL.rLt_ss, DL.rLe_ii, DL.rGt_ii, DL.rGe_ii, DL.rEq_ii, DL.rEq_ss, DL.rEq_bb, DL.rNe_ii, DL.rNe_ss, DL.rNe_bb, DL.rEq_rr, DL.rNe_rr, DL.rEq_tt, DL.rNe_tt, DL.rIn_st, DL.rNotIn_st, DL.rIn_r, DL.rNotIn_r, DL.rIn_ss, DL.rInDO_sl, DL.rInDO_il, DL.rInDO_sd, DL.rInDO_id, DL.rIsN_n, DL.rIsN_t, DL.rIsN_i, DL.rIsN_s, DL.rIsN_r, DL.rNotN_n, DL.rNotN_t, DL.rNotN_i, DL.rNotN_s, DL.rNotN_r, DL.rIx_t, DL.rIx_r, DL.rIx_s, DL.rIxDO_l, DL.rIxDO_ds, DL.rIx0, DL.rIx1, DL.rIx2, DL.rIx3, DL.rSl_t, DL.rSl_s, DL.rSl_o, DL.rSl_r, DL.rSlDO, DL.rSet_r, DL.rSetDO_0, DL.rSetDO_s, DL.rLen_t, DL.rLen_o, DL.rLen_s, DL.rLen_r, DL.rLenDO, DL.rLenDO_d, DL.rList_t, DL.rList_o, DL.rList_r, DL.rListDO, DL.rTuple_t, DL.rTuple_r, DL.rInt_i, DL.rInt_b, DL.rMax, DL.rMin, DL.rSz0, DL.rSz1, DL.rSz2, DL.rSz3, DL.rSz4, DL.rSz5, DL.rSz6, DL.rSz7, DL.rSz8, Option.some.injEq, DL.DO.lst.injEq, exists_eq_left', exists_eq_left, DL.put_same, DL.put_put, true_and, and_true, List.map, List.replicate, List.length, List.cons_append, List.nil_append, Nat.reduceSub, Nat.reduceAdd, decide_eq_true_eq, if_true, if_false, Bool.false_eq_true, Bool.not_true, Bool.not_false])
local macro_rules | `(tactic| walk_at "go") => `(tactic| repeat (first | (refine DL.sq ?_; try walk_at "dl") | (refine DL.ifY rfl ?_; try walk_at "dl") | (refine DL.inY rfl (by decide) ?_; try walk_at "dl") | (refine DL.inN rfl (by decide) ?_; try walk_at "dl") | (refine DL.ifN (by decide) ?_; try walk_at "dl")))
abbrev s_free_name : Stmt := top 9
theorem sc_free_name : FnScope ["world", "names", "letter", "name"] ["world"] (defScope s_free_name) := ⟨rfl, rfl, rfl, by decide +kernel, rfl, by decide +kernel, by decide +kernel⟩
abbrev s_things_of : Stmt := top 10
theorem sc_things_of : FnScope ["world", "meaning", "many", "names", "kinds", "doings", "kind", "x", "there", "name", "form", "found", "thing"] ["world", "meaning"] (defScope s_things_of) := ⟨rfl, rfl, rfl, by decide +kernel, rfl, by decide +kernel, by decide +kernel⟩
abbrev abcZ : Str := "abcdefghijklmnopqrstuvwxyz"
theorem abcZ_all : ∀ c ∈ abcZ.cps.toList, chLow c := by decide +kernel
def aL : List Str := abcZ.cps.toList.map fun c => ("A" : Str) ++ ⟨#[c]⟩
theorem aL_nd : aL.Nodup := by decide +kernel
theorem aL_len : aL.length = 26 := by decide +kernel
def fresh2 (s : Str) : Prop := ∃ c, chLow c ∧ s.cps.toList = [65, c]
theorem aL_fr : ∀ x ∈ aL, fresh2 x := by
  intro x hx
  obtain ⟨c, hc, rfl⟩ := List.mem_map.mp hx
  exact ⟨c, abcZ_all c hc, by rw [app_toList]; rfl⟩
def spFree : SpD := fun ds S Q => ∃ W : Wo, ds = [W.d] ∧ WoOk W ∧ W.nms.length ≤ 20 ∧ ∀ nm : Str, fresh2 nm → W.nm nm = none → Q (.str nm) S
section
variable {P : Program} {w : World} {K : PySem.W.Frag} {mg : Str → Option Value} {base : Heap} {C : Addr}
theorem df_free {k : Nat} (T : Bt mg) (A : At K mg "free_name" "free_name" s_free_name) : Df P w K mg base "free_name" (k + 1) spFree := by
  have nd := sc_free_name.nd
  refine df_mk A rfl sc_free_name (fun _ _ _ _ _ _ us hl => match us, hl with | [_], _ => rfl) (fun ds S Q h => ?_) (fun f cdv A outer s H E hr ds S Q h => ?_)
  · obtain ⟨W, rfl, _⟩ := h
    rfl
  obtain ⟨W, rfl, hW, hl, h⟩ := h
  have hu := hu_of hr
  refine ⟨_, (dss_cons (ds_set (i := 1) nd rfl (Or.inr rfl) (de_callTy (cd_dictF rfl) rfl T.dict_ (by decide +kernel) (da_cons (de_ix hu (dv 0) de_int) da_nil)))
    (dss_one (ds_ret (de_ix hu (de_lc (own := [("name", 3)]) (g := GD.one 3) rfl nd (di_any (de_lc (own := [("letter", 2)]) (g := GD.one 2) rfl nd (di_any de_str) (blkOk_by (own := [("letter", 2)]) (N := ["world", "names", "letter", "name"]) (sc := defScope s_free_name) (by decide +kernel)) (fun _ _ _ _ _ => (dg_name (i := 2) nd rfl (Or.inl rfl))) (fun _ _ _ _ _ => dts_nil) (fun _ _ _ _ _ => (de_op od_add de_str (dv 2))))) (blkOk_by (own := [("name", 3)]) (N := ["world", "names", "letter", "name"]) (sc := defScope s_free_name) (by decide +kernel)) (fun _ _ _ _ _ => (dg_name (i := 3) nd rfl (Or.inl rfl))) (fun _ _ _ _ _ => (dts_one (dt_cmp (od_notIn hu) (dv 3) (dv 1) rfl))) (fun _ _ _ _ _ => (dv 3))) de_int)))), ?_⟩
  simp only [Wo.d, iD]
  walk_at "go"
  refine ⟨nKv W, nKv_p W, fun p np => ?_⟩
  have hp : put S p (.dk (dmerge [] (nKv W))) p = some (.dk (dmerge [] (nKv W))) := put_same
  have s1 : Sub S (put S p (.dk (dmerge [] (nKv W)))) := Sub.new np
  generalize put S p (.dk (dmerge [] (nKv W))) = S1 at hp s1
  walk_at "dl"
  intro r1 nr1
  refine lcB_zip (abcZ.cps.toList.map fun c => D.str ⟨#[c]⟩) (aL.map D.str) (by simp [aL]) (fun k acc => ?_) (by rw [List.length_map]; exact szOk (by decide +kernel)) (fun k d r acc Y N' e1 e2 y => ?_) ?_
  · show some ((abcZ.cps[k]?).map _) = some ((abcZ.cps.toList.map _)[k]?)
    rw [List.getElem?_map]
    simp
  · rw [List.getElem?_map] at e1 e2
    unfold aL at e2
    rw [List.getElem?_map] at e2
    cases e : abcZ.cps.toList[k]? with
    | none => rw [e] at e1; cases e1
    | some c =>
      rw [e] at e1 e2
      cases e1
      cases e2
      walk_at "dl"
      exact ⟨szOk (by rw [show ("A" : Str).length = 1 from by decide +kernel, show (⟨#[c]⟩ : Str).length = 1 from rfl]; decide), y⟩
  · have s2 : Sub S1 (put S1 r1 (.lst (aL.map D.str))) := Sub.new nr1
    walk_at "dl"
    refine ⟨⟨_, rfl⟩, fun r2 nr2 => ?_⟩
    have hne : r1 ≠ r2 := fun z => by rw [z, put_same] at nr2; cases nr2
    refine lcB_flt aL (fun x => decide (x ∉ W.nms.map (·.1))) (fun k acc => ?_) (by rw [aL_len]; decide) (fun x acc N' hN' => ?_) (fun x S Y y => ?_) ?_
    · show lstJ (put (put S1 r1 _) r2 (.lst acc) r1) k = _
      rw [put_ne hne, put_same]
      rfl
    · walk_at "dl"
      have s3 : Sub (put S1 r1 (.lst (aL.map D.str))) (put (put S1 r1 (.lst (aL.map D.str))) r2 (.lst acc)) := Sub.new nr2
      rw [s3 _ _ (s2 _ _ hp)]
      walk_at "dl"
      have e : dval (dmerge [] (nKv W)) (.inr x) = (W.nm x).map iD := merged_val hW.n x
      rw [e]
      have e2 : (!((W.nm x).map iD).isSome) = decide (x ∉ W.nms.map (·.1)) := by
        have l := lookup_none (s := x) (l := W.nms)
        rw [Bool.eq_iff_iff, Option.isSome_map, decide_eq_true_eq, ← l, Bool.not_eq_true', Bool.not_eq_true]
        rfl
      rw [e2]
      exact hN'
    · walk_at "dl"
      exact y
    · obtain ⟨x, rr, e, hxm, hxn⟩ := free_one (c := aL) (xs := W.nms.map (·.1)) aL_nd (by rw [aL_len, List.length_map]; omega)
      rw [e]
      walk_at "dl"
      have s3 : Sub (put S1 r1 (.lst (aL.map D.str))) (put (put S1 r1 (.lst (aL.map D.str))) r2 (.lst ((x :: rr).map D.str))) := Sub.new nr2
      refine ⟨S, s1.trans (s2.trans s3), h x (aL_fr x hxm) ?_⟩
      cases e3 : W.nm x with
      | none => rfl
      | some i => exact absurd (lookup_none.mp (by show (W.nm x).isSome = true; rw [e3]; rfl)) hxn
theorem cl_sub {x n : Str} : ∀ {F : Fm} {sc : Str → Prop}, F.cl sc → (sub x n F).cl fun s => (sc s ∧ s ≠ x) ∨ s = n := by
  have one : ∀ {sc : Str → Prop} {t : Str}, sc t → (sc (sb x n t) ∧ sb x n t ≠ x) ∨ sb x n t = n := by
    intro sc t h
    unfold sb
    by_cases c : t = x
    · rw [if_pos c]; exact .inr rfl
    · rw [if_neg c]; exact .inl ⟨h, c⟩
  intro F
  induction F with
  | is t k => intro sc h; exact one h
  | does d s t => intro sc h; exact ⟨one h.1, one h.2⟩
  | same s t => intro sc h; exact ⟨one h.1, one h.2⟩
  | neg f ih => intro sc h; exact ih h
  | bin w f g ihf ihg => intro sc h; exact ⟨ihf h.1, ihg h.2⟩
  | qu w y f ih =>
    intro sc h
    by_cases c : y = x
    · subst c
      rw [sub_qu_eq]
      refine Fm.cl.imp (F := f) (fun s hs => ?_) h
      by_cases d : s = y
      · exact .inr d
      · exact .inl (.inl ⟨hs.resolve_right d, d⟩)
    · rw [sub_qu_ne c]
      refine Fm.cl.imp (F := sub x n f) (fun s hs => ?_) (ih h)
      rcases hs with ⟨hs, hx⟩ | hs
      · exact hs.imp (fun z => .inl ⟨z, hx⟩) id
      · exact .inl (.inr hs)
def things (W : Wo) (m : Mn) : List Nat := (List.range W.many).filter fun t => ev W (bput (fun _ => none) m.x t) m.g
structure MnW (W : Wo) (m : Mn) : Prop where
  ht : m.g.ht ≤ 60
  cl : m.g.cl fun s => s = m.x ∨ (W.nm s).isSome = true
  inW : m.g.inW W
  fr : ∀ nm, fresh2 nm → W.nm nm = none → Noc nm m.g
  x1 : m.x ≠ "does"
  x2 : m.x ≠ "same"
  dx : m.g.ok (fun _ => True) (fun _ => True) fun d => d ≠ m.x
def spThings : SpD := fun ds S Q => ∃ (W : Wo) (m : Mn), ds = [W.d, m.d] ∧ WoOk W ∧ W.nms.length ≤ 20 ∧ MnW W m ∧ Q (.ftup ((things W m).map iD)) S
def ThI (S : Store) (W : Wo) (m : Mn) (nm : Str) (p : Addr) (i : Nat) : StD → Store → Prop := fun δ S' => ∃ o12 : Option D,
  δ = [some (.tup [.int (W.many : Nat), .ftup (W.nms.map nmD), .ftup (W.kds.map kdD), .ftup (W.dgs.map dgD)]), some (.tup [.str m.k, .str m.x, m.g.d]), some (.int (W.many : Nat)), some (.ftup (W.nms.map nmD)), some (.ftup (W.kds.map kdD)), some (.ftup (W.dgs.map dgD)),
    some (.str m.k), some (.str m.x), some m.g.d, some (.str nm), some (sub m.x nm m.g).d, some (.ref p), o12] ∧
  S' p = some (.lst (((List.range i).filter fun t => ev W (bput (fun _ => none) m.x t) m.g).map iD)) ∧ ∀ b o, b ≠ p → S b = some o → S' b = some o
theorem df_things {k : Nat} (T : Bt mg) (A : At K mg "things_of" "things_of" s_things_of) (G_free_name : Df P w K mg base "free_name" k spFree) (G_put_term : Df P w K mg base "put_term" k (spPut 60)) (G_holds : Df P w K mg base "holds" k spHolds) :
    Df P w K mg base "things_of" (k + 1) spThings := by
  have nd := sc_things_of.nd
  refine df_mk A rfl sc_things_of (fun _ _ _ _ _ _ us hl => match us, hl with | [_, _], _ => rfl) (fun ds S Q h => ?_) (fun f cdv A outer s H E hr ds S Q h => ?_)
  · obtain ⟨W, m, rfl, _⟩ := h
    rfl
  obtain ⟨W, m, rfl, hW, hl, hm, h⟩ := h
  have hu := hu_of hr
  have hR : (A.deeper (envOfC "things_of" (defScope s_things_of) s.heap.objs.size f cdv)).units + 100 < cLine := by have := hr.un; omega
  refine ⟨_, (dss_cons (ds_asg (dv 0) (dg_tup rfl (dgs_cons (dg_name (i := 2) nd rfl (Or.inl rfl)) (dgs_cons (dg_name (i := 3) nd rfl (Or.inl rfl)) (dgs_cons (dg_name (i := 4) nd rfl (Or.inl rfl)) (dgs_cons (dg_name (i := 5) nd rfl (Or.inl rfl)) dgs_nil))))))
    (dss_cons (ds_asg (dv 1) (dg_tup rfl (dgs_cons (dg_name (i := 6) nd rfl (Or.inl rfl)) (dgs_cons (dg_name (i := 7) nd rfl (Or.inl rfl)) (dgs_cons (dg_name (i := 8) nd rfl (Or.inl rfl)) dgs_nil)))))
    (dss_cons (ds_set (i := 9) nd rfl (Or.inl rfl) (de_call G_free_name hr rfl (da_cons (dv 0) da_nil)))
    (dss_cons (ds_set (i := 10) nd rfl (Or.inl rfl) (de_call G_put_term hr rfl (da_cons (dv 8) (da_cons (dv 7) (da_cons (dv 9) da_nil)))))
    (dss_cons (ds_set (i := 11) nd rfl (Or.inl rfl) (de_lst da_nil))
    (dss_cons (ds_for PassesOwn.never rfl (di_range1 rfl T.range_ (da_cons (dv 2) da_nil)) (dg_name (i := 12) nd rfl (Or.inl rfl)) (dss_one (ds_if (dt_val (de_call G_holds hr rfl (da_cons (de_tup (da_cons (dv 2) (da_cons (de_callTy cd_tupleF rfl T.tuple_ (by decide +kernel) (da_cons (de_callB (cd_sortK hR) rfl T.sorted_ (by decide +kernel) (da_cons (de_op od_add (de_thaw (dv 3)) (de_tup (da_cons (de_tup (da_cons (dv 9) (da_cons (dv 12) da_nil))) da_nil))) da_nil)) da_nil)) (da_cons (dv 4) (da_cons (dv 5) da_nil))))) (da_cons (dv 10) da_nil)))) (dss_one (ds_expr (de_m PySem.F.plainAttrs_list PySem.F.slot_list_append PySem.F.type_list_append md_append (dv 11) (da_cons (dv 12) da_nil)))) dss_nil)))
    (dss_one (ds_ret (de_callTy cd_tupleF rfl T.tuple_ (by decide +kernel) (da_cons (dv 11) da_nil)))))))))), ?_⟩
  simp only [Wo.d, iD, Mn.d]
  walk_at "go"
  refine ⟨W, rfl, hW, hl, fun nm hf hn => ?_⟩
  walk_at "go"
  refine ⟨m.g, m.x, nm, rfl, hm.ht, hm.dx, hm.x1, hm.x2, ?_⟩
  walk_at "go"
  intro p np
  refine sq ?_
  walk_at "dl"
  have hmany := hW.m
  refine ⟨by omega, ?_⟩
  rw [Int.toNat_natCast]
  refine forB_rng (ThI S W m nm p) ?_ ?_ ?_
  · exact ⟨none, rfl, put_same, fun b o hb e => by rw [put_ne hb]; exact e⟩
  · rintro i δ S' hi ⟨o, rfl, hp, hfr⟩
    walk_at "dl"
    refine ⟨szOk (by rw [List.length_map]; omega), ?_⟩
    have hnk : nm ∉ W.nms.map (·.1) := fun z => by
      have := lookup_none.mpr z
      rw [show W.nms.lookup nm = none from hn] at this
      cases this
    have hnd : ((W.nms ++ [(nm, i)]).map (·.1)).Nodup := by
      rw [List.map_append, List.nodup_append]
      exact ⟨hW.n, by simp, fun a ha b hb e => by
        have hb' : b = nm := by simpa using hb
        exact hnk (hb' ▸ e ▸ ha)⟩
    have eds : W.nms.map nmD ++ [D.tup [.str nm, .int ((0 : Int) + (i : Nat))]] = ((W.nms ++ [(nm, i)]).map skN).map SK.d := by
      rw [List.map_map, List.map_append, Int.zero_add]
      rfl
    refine ⟨(W.nms ++ [(nm, i)]).map skN, .inl (by rw [← eds]), by rw [List.length_map, List.length_append, List.length_singleton]; omega, fun b hb => ?_, fun b hb => ?_, fun b hb c hc => ?_, fun b hb => ?_, fun q nq => ?_⟩
    · obtain ⟨r, _, rfl⟩ := List.mem_map.mp hb
      exact .tup (.cons (.str _) (.cons (.int _) .nil))
    · obtain ⟨r, _, rfl⟩ := List.mem_map.mp hb
      exact ⟨_, rfl⟩
    · obtain ⟨r, _, rfl⟩ := List.mem_map.mp hb
      obtain ⟨r', _, rfl⟩ := List.mem_map.mp hc
      rfl
    · obtain ⟨r, _, rfl⟩ := List.mem_map.mp hb
      show (1 : Nat) ≤ 60
      decide
    have hq : put S' q (.lst ((nsort (W.nms ++ [(nm, i)])).map nmD)) q = some (.lst ((nsort (W.nms ++ [(nm, i)])).map nmD)) := put_same
    rw [nsort_map]
    have hpq : p ≠ q := fun z => by rw [z, nq] at hp; cases hp
    have hp2 : put S' q (.lst ((nsort (W.nms ++ [(nm, i)])).map nmD)) p = some (.lst (((List.range i).filter fun t => ev W (bput (fun _ => none) m.x t) m.g).map iD)) := (put_ne hpq).trans hp
    have hfr2 : ∀ b o, b ≠ p → S b = some o → put S' q (.lst ((nsort (W.nms ++ [(nm, i)])).map nmD)) b = some o := fun b o hb e => by
      have e2 := hfr b o hb e
      rw [put_ne (fun z => by rw [z, nq] at e2; cases e2)]
      exact e2
    generalize put S' q (.lst ((nsort (W.nms ++ [(nm, i)])).map nmD)) = S2 at hq hp2 hfr2
    refine ⟨_, seqAt_ref hq, ?_⟩
    walk_at "dl"
    have W2p := nsort_perm (W.nms ++ [(nm, i)])
    have W2nd : ((nsort (W.nms ++ [(nm, i)])).map (·.1)).Nodup := (W2p.map (·.1)).nodup_iff.mpr hnd
    have W2n : ∀ s, (nsort (W.nms ++ [(nm, i)])).lookup s = if s = nm then some i else W.nms.lookup s := fun s => by rw [lookup_perm W2p hnd, lookup_snoc hnk]
    refine ⟨⟨W.many, nsort (W.nms ++ [(nm, i)]), W.kds, W.dgs⟩, sub m.x nm m.g, rfl, ⟨W2nd, hW.k, hW.d, hW.m⟩, by rw [sub_ht]; exact hm.ht, (cl_sub hm.cl).imp fun s hs => ?_, sub_ok trivial hm.inW, ?_⟩
    · show ((nsort (W.nms ++ [(nm, i)])).lookup s).isSome = true
      rw [W2n]
      by_cases c : s = nm
      · rw [if_pos c]; rfl
      · rw [if_neg c]
        rcases hs with ⟨hs, hx⟩ | hs
        · exact hs.resolve_left hx
        · exact absurd hs c
    have eV : ev ⟨W.many, nsort (W.nms ++ [(nm, i)]), W.kds, W.dgs⟩ (fun _ => none) (sub m.x nm m.g) = ev W (bput (fun _ => none) m.x i) m.g :=
      ev_sub (W := W) (W' := ⟨W.many, nsort (W.nms ++ [(nm, i)]), W.kds, W.dgs⟩) (i := i) rfl rfl rfl ((W2n nm).trans (if_pos rfl)) (fun s hs => (W2n s).trans (if_neg hs)) m.g (fun _ => none) (hm.fr nm hf hn) rfl rfl
    rw [eV]
    have er : List.range (i + 1) = List.range i ++ [i] := List.range_succ
    have hlen : ((List.range i).filter fun t => ev W (bput (fun _ => none) m.x t) m.g).length ≤ i := by have := List.length_filter_le (fun t => ev W (bput (fun _ => none) m.x t) m.g) (List.range i); simpa using this
    cases eb : ev W (bput (fun _ => none) m.x i) m.g with
    | true =>
      walk_at "dl"
      refine ⟨ty_list hp2, append_of hp2 (szLt (by rw [List.length_map]; omega)) ?_⟩
      refine ⟨_, rfl, ?_, fun b o hb e => by rw [put_ne hb]; exact hfr2 b o hb e⟩
      rw [put_same, er, List.filter_append, List.map_append]
      simp [eb, iD]
    | false =>
      walk_at "dl"
      refine ⟨_, rfl, ?_, hfr2⟩
      rw [hp2, er, List.filter_append, List.map_append]
      simp [eb]
  · rintro δ S' ⟨o, rfl, hp, hfr⟩
    walk_at "dl"
    refine ⟨_, seqAt_ref hp, S, fun b o e => hfr b o (fun z => by rw [z, np] at e; cases e) e, h⟩
end
end K72

set_option Elab.async false
set_option maxRecDepth 100000
set_option linter.unusedVariables false
namespace K72
open PySem PySem.Spec PyProof.Rows L2 DL
local macro_rules | `(tactic| walk_at "dl") => `(tactic| try simp only [DL.tAsgD, DL.asg, DL.tVarD, DL.lk, DL.sto, DL.stos, DL.tOpD, DL.tCD, DL.tCallD, DL.tConsD, DL.tNilD, DL.tRetD, DL.endsD, DL.startD, DL.tIfSD, DL.tTestD, DL.tNextD, DL.tDropD, DL.tAndD, DL.tOrD, DL.tNotD, DL.tAndV, DL.tOrV, DL.tNotV, DL.tIfD, DL.tNegD, DL.tTupD, DL.tLstD, DL.tSetD, DL.tMD, DL.tSlD, DL.tPartD, DL.tNoD, DL.tRevD, DL.tForD, DL.tLcD, DL.tIterD, DL.tRng1D, DL.tRng2D, DL.tYesD, DL.wipeD, DL.tDictD, DL.tDictOne, DL.tFldD, DL.tMethD, DL.tMakeD, DL.tSetF, DL.tThaw, DL.thaw, DL.tLRg, DL.keyOf, DL.emE_rr, DL.tLess, DL.tLessS, DL.itOk, DL.rAdd_ii, DL.rAdd_ss, DL.rAdd_tt, DL.rAdd_rr, DL.rSub_ii, DL.rMod_ii, DL.rDiv_ii, DL.rPow_ii, DL.rMul_ii, DL.rMul_ri, DL.rLt_ii, DL.rLt_ss, DL.rLe_ii, DL.rGt_ii, DL.rGe_ii, DL.rEq_ii, DL.rEq_ss, DL.rEq_bb, DL.rNe_ii, DL.rNe_ss, DL.rNe_bb, DL.rEq_rr, DL.rNe_rr, DL.rEq_tt, DL.rNe_tt, DL.rIn_st, DL.rNotIn_st, DL.rIn_r, DL.rNotIn_r, DL.rIn_ss, DL.rInDO_sl, DL.rInDO_il, DL.rInDO_sd, DL.rInDO_id, DL.rIsN_n, DL.rIsN_t, DL.rIsN_i, DL.rIsN_s, DL.rIsN_r, DL.rNotN_n, DL.rNotN_t, DL.rNotN_i, DL.rNotN_s, DL.rNotN_r, DL.rIx_t, DL.rIx_r, DL.rIx_s, DL.rIxDO_l, DL.rIxDO_ds, DL.rIx0, DL.rIx1, DL.rIx2, DL.rIx3, DL.rSl_t, DL.rSl_s, DL.rSl_o, DL.rSl_r, DL.rSlDO, DL.rSet_r, DL.rSetDO_0, DL.rSetDO_s, DL.rLen_t, DL.rLen_o, DL.rLen_s, DL.rLen_r, DL.rLenDO, DL.rLenDO_d, DL.rList_t, DL.rList_o, DL.rList_r, DL.rListDO, DL.rTuple_t, DL.rTuple_r, DL.rInt_i, DL.rInt_b, DL.rMax, DL.rMin, DL.rSz0, DL.rSz1, DL.rSz2, DL.rSz3, DL.rSz4, DL.rSz5, DL.rSz6, DL.rSz7, DL.rSz8, Option.some.injEq, DL.DO.lst.injEq, exists_eq_left', exists_eq_left, DL.put_same, DL.put_put, true_and, and_true, List.map, List.replicate, List.length, List.cons_append, List.nil_append, Nat.reduceSub, Nat.reduceAdd, decide_eq_true_eq, if_true, if_false, Bool.false_eq_true, Bool.not_true, Bool.not_false])
local macro_rules | `(tactic| walk_at "dlh") => `(tactic| try simp only [*, DL.tAsgD, DL.asg, DL.tVarD, DL.lk, DL.sto, DL.stos, DL.tOpD, DL.tCD, DL.tCallD, DL.tConsD, DL.tNilD, DL.tRetD, DL.endsD, DL.startD, DL.tIfSD, DL.tTestD, DL.tNextD, DL.tDropD, DL.tAndD, DL.tOrD, DL.tNotD, DL.tAndV, DL.tOrV, DL.tNotV, DL.tIfD, DL.tNegD, DL.tTupD, DL.tLstD, DL.tSetD, DL.tMD, DL.tSlD, DL.tPartD, DL.tNoD, DL.tRevD, DL.tForD, DL.tLcD, DL.tIterD, DL.tRng1D, DL.tRng2D, DL.tYesD, DL.wipeD, DL.tDictD, DL.tDictOne, DL.tFldD, DL.tMethD, DL.tMakeD, DL.tSetF, DL.tThaw, DL.thaw, DL.tLRg, DL.keyOf, DL.emE_rr, DL.tLess, DL.tLessS, DL.itOk, DL.rAdd_ii, DL.rAdd_ss, DL.rAdd_tt, DL.rAdd_rr, DL.rSub_ii, DL.rMod_ii, DL.rDiv_ii, DL.rPow_ii, DL.rMul_ii, DL.rMul_ri, DL.rLt_ii, DL.rLt_ss, DL.rLe_ii, DL.rGt_ii, DL.rGe_ii, DL.rEq_ii, DL.rEq_ss, DL.rEq_bb, DL.rNe_ii, DL.rNe_ss, DL.rNe_bb, DL.rEq_rr, DL.rNe_rr, DL.rEq_tt, DL.rNe_tt, DL.rIn_st, DL.rNotIn_st, DL.rIn_r, DL.rNotIn_r, DL.rIn_ss, DL.rInDO_sl, DL.rInDO_il, DL.rInDO_sd, DL.rInDO_id, DL.rIsN_n, DL.rIsN_t, DL.rIsN_i, DL.rIsN_s, DL.rIsN_r, DL.rNotN_n, DL.rNotN_t, DL.rNotN_i, DL.rNotN_s, DL.rNotN_r, DL.rIx_t, DL.rIx_r, DL.rIx_s, DL.rIxDO_l, DL.rIxDO_ds, DL.rIx0, DL.rIx1, DL.rIx2, DL.rIx3, DL.rSl_t, DL.rSl_s, DL.rSl_o, DL.rSl_r, DL.rSlDO, DL.rSet_r, DL.rSetDO_0, DL.rSetDO_s, DL.rLen_t, DL.rLen_o, DL.rLen_s, DL.rLen_r, DL.rLenDO, DL.rLenDO_d, DL.rList_t, DL.rList_o, DL.rList_r, DL.rListDO, DL.rTuple_t, DL.rTuple_r, DL.rInt_i, DL.rInt_b, DL.rMax, DL.rMin, DL.rSz0, DL.rSz1, DL.rSz2, DL.rSz3, DL.rSz4, DL.rSz5, DL.rSz6, DL.rSz7, DL.rSz8, Option.some.injEq, DL.DO.lst.injEq, exists_eq_left', exists_eq_left, DL.put_same, DL.put_put, true_and, and_true, List.map, List.replicate, List.length, List.cons_append, List.nil_append, Nat.reduceSub, Nat.reduceAdd, decide_eq_true_eq, if_true, if_false, Bool.false_eq_true, Bool.not_true, Bool.not_false])
local macro_rules | `(tactic| walk_at "go") => `(tactic| repeat (first | (refine DL.sq ?_; try walk_at "dl") | (refine DL.ifY rfl ?_; try walk_at "dl") | (refine DL.inY rfl (by decide) ?_; try walk_at "dl") | (refine DL.inN rfl (by decide) ?_; try walk_at "dl") | (refine DL.ifN (by decide) ?_; try walk_at "dl")))
abbrev s_world_with : Stmt := top 11
theorem sc_world_with : FnScope ["world", "meanings", "meaning", "many", "names", "kinds", "doings", "more"] ["world", "meanings"] (defScope s_world_with) := ⟨rfl, rfl, rfl, by decide +kernel, rfl, by decide +kernel, by decide +kernel⟩
def wstep (W : Wo) (m : Mn) : Wo := ⟨W.many, W.nms, ksort (W.kds ++ [(m.k, things W m)]), W.dgs⟩
def wwith (W : Wo) (M : List Mn) : Wo := M.foldl wstep W
theorem wwith_snoc {W : Wo} {M : List Mn} {m : Mn} : wwith W (M ++ [m]) = wstep (wwith W M) m := by unfold wwith; rw [List.foldl_append]; rfl
theorem wwith_nms {W : Wo} {M : List Mn} : (wwith W M).nms = W.nms ∧ (wwith W M).many = W.many ∧ (wwith W M).dgs = W.dgs ∧ (wwith W M).kds.length = W.kds.length + M.length := by
  induction M using rev_ind with
  | h0 => exact ⟨rfl, rfl, rfl, rfl⟩
  | h1 N n ih =>
    rw [wwith_snoc]
    obtain ⟨a, b, c, d⟩ := ih
    refine ⟨a, b, c, ?_⟩
    show (ksort _).length = _
    rw [(ksort_perm _).length_eq, List.length_append, d, List.length_append]
    simp
    omega
theorem ints_alike : ∀ l l' : List Nat, PySem.W.alikeAll (l.map fun i : Nat => .int (i : Nat)) (l'.map fun i : Nat => .int (i : Nat)) = true
  | [], _ => by simp [PySem.W.alikeAll]
  | _ :: _, [] => by simp [PySem.W.alikeAll]
  | a :: l, b :: l' => by
    rw [List.map_cons, List.map_cons, PySem.W.alikeAll, ints_alike l l']
    rfl
theorem ints_depth : ∀ l : List Nat, PyData.depthAll (l.map fun i : Nat => .int (i : Nat)) = 0
  | [] => rfl
  | a :: l => by rw [List.map_cons, PyData.depthAll, ints_depth l]; rfl
theorem ints_PD {S : Store} : ∀ l : List Nat, PDs S (l.map iD) (l.map fun i : Nat => .int (i : Nat))
  | [] => .nil
  | a :: l => .cons (.int _) (ints_PD l)
/-- sorted of kinds with their things -/
theorem sortK_ok {l : List (Str × List Nat)} {x : D} {S : Store} {Q : KD} (hx : x = .tup (l.map kdD) ∨ seqAt S x = some (l.map kdD)) (hl : l.length ≤ 1000) (h : ∀ p, S p = none → Q (.ref p) (put S p (.lst ((ksort l).map kdD)))) : oSortK [x] S Q := by
  have e : (l.map skK).map SK.d = l.map kdD := by rw [List.map_map]; rfl
  refine ⟨l.map skK, by rw [e]; exact hx, by rw [List.length_map]; exact hl, fun b hb => ?_, fun b hb => ?_, fun b hb c hc => ?_, fun b hb => ?_, fun p np => by rw [ksort_map]; exact h p np⟩
  · obtain ⟨r, _, rfl⟩ := List.mem_map.mp hb
    exact .tup (.cons (.str _) (.cons (.ftup (ints_PD _)) .nil))
  · obtain ⟨r, _, rfl⟩ := List.mem_map.mp hb
    exact ⟨_, rfl⟩
  · obtain ⟨r, _, rfl⟩ := List.mem_map.mp hb
    obtain ⟨r', _, rfl⟩ := List.mem_map.mp hc
    show PySem.W.alikeAll [_, _] [_, _] = true
    rw [PySem.W.alikeAll, PySem.W.alikeAll, PySem.W.alikeAll, PySem.W.alike, PySem.W.alike, ints_alike]
    rfl
  · obtain ⟨r, _, rfl⟩ := List.mem_map.mp hb
    show PyData.depthAll [_, .tuple (r.2.map fun i : Nat => .int (i : Nat))] + 1 ≤ 60
    rw [PyData.depthAll, PyData.depthAll, PyData.depthAll, PyData.depth, PyData.depth, ints_depth]
    decide
def spWith : SpD := fun ds S Q => ∃ (W : Wo) (M : List Mn), ds = [W.d, .tup (M.map Mn.d)] ∧ (∀ M1 m M2, M = M1 ++ m :: M2 → WoOk (wwith W M1) ∧ MnW (wwith W M1) m) ∧ W.nms.length ≤ 20 ∧ W.kds.length ≤ 50 ∧ M.length ≤ 10 ∧ Q (wwith W M).d S
section
variable {P : Program} {w : World} {K : PySem.W.Frag} {mg : Str → Option Value} {base : Heap} {C : Addr}
theorem df_with {k : Nat} (T : Bt mg) (A : At K mg "world_with" "world_with" s_world_with) (G_things_of : Df P w K mg base "things_of" k spThings) : Df P w K mg base "world_with" (k + 1) spWith := by
  have nd := sc_world_with.nd
  refine df_mk A rfl sc_world_with (fun _ _ _ _ _ _ us hl => match us, hl with | [_, _], _ => rfl) (fun ds S Q h => ?_) (fun f cdv A outer s H E hr ds S Q h => ?_)
  · obtain ⟨W, M, rfl, _⟩ := h
    rfl
  obtain ⟨W, M, rfl, hM, hn, hk, hl, h⟩ := h
  have hu := hu_of hr
  have hR : (A.deeper (envOfC "world_with" (defScope s_world_with) s.heap.objs.size f cdv)).units + 100 < cLine := by have := hr.un; omega
  refine ⟨_, (dss_cons (ds_for PassesOwn.never rfl (di_any (dv 1)) (dg_name (i := 2) nd rfl (Or.inl rfl)) (dss_cons (ds_asg (dv 0) (dg_tup rfl (dgs_cons (dg_name (i := 3) nd rfl (Or.inl rfl)) (dgs_cons (dg_name (i := 4) nd rfl (Or.inl rfl)) (dgs_cons (dg_name (i := 5) nd rfl (Or.inl rfl)) (dgs_cons (dg_name (i := 6) nd rfl (Or.inl rfl)) dgs_nil))))))
    (dss_cons (ds_set (i := 7) nd rfl (Or.inl rfl) (de_tup (da_cons (de_tup (da_cons (de_ix hu (dv 2) de_int) (da_cons (de_call G_things_of hr rfl (da_cons (dv 0) (da_cons (dv 2) da_nil))) da_nil))) da_nil)))
    (dss_one (ds_set (i := 0) nd rfl (Or.inl rfl) (de_tup (da_cons (dv 3) (da_cons (dv 4) (da_cons (de_callTy cd_tupleF rfl T.tuple_ (by decide +kernel) (da_cons (de_callB (cd_sortK hR) rfl T.sorted_ (by decide +kernel) (da_cons (de_op od_add (de_thaw (dv 5)) (dv 7)) da_nil)) da_nil)) (da_cons (dv 6) da_nil))))))))))
    (dss_one (ds_ret (dv 0)))), ?_⟩
  refine sq ?_
  walk_at "dl"
  refine forB_seq (M.map Mn.d) (fun i δ S' => ∃ o2 o3 o4 o5 o6 o7 : Option D, δ = [some (wwith W (M.take i)).d, some (.tup (M.map Mn.d)), o2, o3, o4, o5, o6, o7] ∧ Sub S S') ?_ ?_ ?_ ?_
  · exact ⟨none, none, none, none, none, none, rfl, Sub.refl⟩
  · intro i δ S' _ _
    rfl
  · rintro i d δ S' hd ⟨o2, o3, o4, o5, o6, o7, rfl, hs⟩
    rw [List.getElem?_map] at hd
    cases e : M[i]? with
    | none => rw [e] at hd; cases hd
    | some m =>
      rw [e] at hd
      cases hd
      have hi : i < M.length := by
        rcases Nat.lt_or_ge i M.length with z | z
        · exact z
        · rw [List.getElem?_eq_none z] at e; cases e
      have em : M.take (i + 1) = M.take i ++ [m] := by
        rw [List.getElem?_eq_getElem hi] at e
        cases e
        exact (List.take_append_getElem hi).symm
      have esplit : M = M.take i ++ m :: M.drop (i + 1) := by
        have h1 := List.take_append_drop (i + 1) M
        rw [em, List.append_assoc] at h1
        exact h1.symm
      obtain ⟨w1, w2, w3, w4⟩ := wwith_nms (W := W) (M := M.take i)
      have hlt : (M.take i).length ≤ 10 := by rw [List.length_take]; omega
      obtain ⟨hWo, hMn⟩ := hM _ _ _ esplit
      rw [em, wwith_snoc]
      generalize wwith W (M.take i) = Wi at w1 w2 w3 w4 hWo hMn
      simp only [Wo.d, iD, Mn.d]
      walk_at "dl"
      walk_at "go"
      refine ⟨Wi, m, rfl, hWo, by rw [w1]; exact hn, hMn, ?_⟩
      walk_at "dl"
      walk_at "go"
      refine ⟨szOk (by rw [List.length_map]; omega), ?_⟩
      have eds : Wi.kds.map kdD ++ [D.tup [.str m.k, .ftup ((things Wi m).map iD)]] = (Wi.kds ++ [(m.k, things Wi m)]).map kdD := by rw [List.map_append]; rfl
      rw [eds]
      refine sortK_ok (.inl rfl) (by rw [List.length_append, List.length_singleton]; omega) fun q nq => ?_
      refine ⟨_, seqAt_ref put_same, ?_⟩
      walk_at "dl"
      exact ⟨_, _, _, _, _, _, rfl, hs.trans (Sub.new nq)⟩
  · rintro δ S' ⟨o2, o3, o4, o5, o6, o7, rfl, hs⟩
    rw [List.length_map, List.take_length]
    walk_at "dl"
    exact ⟨S, hs, h⟩
end
end K72

set_option Elab.async false
set_option maxRecDepth 100000
set_option linter.unusedVariables false
namespace K72
open PySem PySem.Spec PyProof.Rows L2 DL
local macro_rules | `(tactic| walk_at "dl") => `(tactic| try simp only [DL.tAsgD, DL.asg, DL.tVarD, DL.lk, DL.sto, DL.stos, DL.tOpD, DL.tCD, DL.tCallD, DL.tConsD, DL.tNilD, DL.tRetD, DL.endsD, DL.startD, DL.tIfSD, DL.tTestD, DL.tNextD, DL.tDropD, DL.tAndD, DL.tOrD, DL.tNotD, DL.tAndV, DL.tOrV, DL.tNotV, DL.tIfD, DL.tNegD, DL.tTupD, DL.tLstD, DL.tSetD, DL.tMD, DL.tSlD, DL.tPartD, DL.tNoD, DL.tRevD, DL.tForD, DL.tLcD, DL.tIterD, DL.tRng1D, DL.tRng2D, DL.tYesD, DL.wipeD, DL.tDictD, DL.tDictOne, DL.tFldD, DL.tMethD, DL.tMakeD, DL.tSetF, DL.tThaw, DL.thaw, DL.tLRg, DL.keyOf, DL.emE_rr, DL.tLess, DL.tLessS, DL.itOk, DL.rAdd_ii, DL.rAdd_ss, DL.rAdd_tt, DL.rAdd_rr, DL.rSub_ii, DL.rMod_ii, DL.rDiv_ii, DL.rPow_ii, DL.rMul_ii, DL.rMul_ri, DL.rLt_ii, DL.rLt_ss, DL.rLe_ii, DL.rGt_ii, DL.rGe_ii, DL.rEq_ii, DL.rEq_ss, DL.rEq_bb, DL.rNe_ii, DL.rNe_ss, DL.rNe_bb, DL.rEq_rr, DL.rNe_rr, DL.rEq_tt, DL.rNe_tt, DL.rIn_st, DL.rNotIn_st, DL.rIn_r, DL.rNotIn_r, DL.rIn_ss, DL.rInDO_sl, DL.rInDO_il, DL.rInDO_sd, DL.rInDO_id, DL.rIsN_n, DL.rIsN_t, DL.rIsN_i, DL.rIsN_s, DL.rIsN_r, DL.rNotN_n, DL.rNotN_t, DL.rNotN_i, DL.rNotN_s, DL.rNotN_r, DL.rIx_t, DL.rIx_r, DL.rIx_s, DL.rIxDO_l, DL.rIxDO_ds, DL.rIx0, DL.rIx1, DL.rIx2, DL.rIx3, DL.rSl_t, DL.rSl_s, DL.rSl_o, DL.rSl_r, DL.rSlDO, DL.rSet_r, DL.rSetDO_0, DL.rSetDO_s, DL.rLen_t, DL.rLen_o, DL.rLen_s, DL.rLen_r, DL.rLenDO, DL.rLenDO_d, DL.rList_t, DL.rList_o, DL.rList_r, DL.rListDO, DL.rTuple_t, DL.rTuple_r, DL.rInt_i, DL.rInt_b, DL.rMax, DL.rMin, DL.rSz0, DL.rSz1, DL.rSz2, DL.rSz3, DL.rSz4, DL.rSz5, DL.rSz6, DL.rSz7, DL.rSz8, Option.some.injEq, DL.DO.lst.injEq, exists_eq_left', exists_eq_left, DL.put_same, DL.put_put, true_and, and_true, List.map, List.replicate, List.length, List.cons_append, List.nil_append, Nat.reduceSub, Nat.reduceAdd, decide_eq_true_eq, if_true, if_false, Bool.false_eq_true, Bool.not_true, Bool.not_false])
local macro_rules | `(tactic| walk_at "dlh") => `(tactic| try simp only [*, DL.tAsgD, DL.asg, DL.tVarD, DL.lk, DL.sto, DL.stos, DL.tOpD, DL.tCD, DL.tCallD, DL.tConsD, DL.tNilD, DL.tRetD, DL.endsD, DL.startD, DL.tIfSD, DL.tTestD, DL.tNextD, DL.tDropD, DL.tAndD, DL.tOrD, DL.tNotD, DL.tAndV, DL.tOrV, DL.tNotV, DL.tIfD, DL.tNegD, DL.tTupD, DL.tLstD, DL.tSetD, DL.tMD, DL.tSlD, DL.tPartD, DL.tNoD, DL.tRevD, DL.tForD, DL.tLcD, DL.tIterD, DL.tRng1D, DL.tRng2D, DL.tYesD, DL.wipeD, DL.tDictD, DL.tDictOne, DL.tFldD, DL.tMethD, DL.tMakeD, DL.tSetF, DL.tThaw, DL.thaw, DL.tLRg, DL.keyOf, DL.emE_rr, DL.tLess, DL.tLessS, DL.itOk, DL.rAdd_ii, DL.rAdd_ss, DL.rAdd_tt, DL.rAdd_rr, DL.rSub_ii, DL.rMod_ii, DL.rDiv_ii, DL.rPow_ii, DL.rMul_ii, DL.rMul_ri, DL.rLt_ii, DL.rLt_ss, DL.rLe_ii, DL.rGt_ii, DL.rGe_ii, DL.rEq_ii, DL.rEq_ss, DL.rEq_bb, DL.rNe_ii, DL.rNe_ss, DL.rNe_bb, DL.rEq_rr, DL.rNe_rr, DL.rEq_tt, DL.rNe_tt, DL.rIn_st, DL.rNotIn_st, DL.rIn_r, DL.rNotIn_r, DL.rIn_ss, DL.rInDO_sl, DL.rInDO_il, DL.rInDO_sd, DL.rInDO_id, DL.rIsN_n, DL.rIsN_t, DL.rIsN_i, DL.rIsN_s, DL.rIsN_r, DL.rNotN_n, DL.rNotN_t, DL.rNotN_i, DL.rNotN_s, DL.rNotN_r, DL.rIx_t, DL.rIx_r, DL.rIx_s, DL.rIxDO_l, DL.rIxDO_ds, DL.rIx0, DL.rIx1, DL.rIx2, DL.rIx3, DL.rSl_t, DL.rSl_s, DL.rSl_o, DL.rSl_r, DL.rSlDO, DL.rSet_r, DL.rSetDO_0, DL.rSetDO_s, DL.rLen_t, DL.rLen_o, DL.rLen_s, DL.rLen_r, DL.rLenDO, DL.rLenDO_d, DL.rList_t, DL.rList_o, DL.rList_r, DL.rListDO, DL.rTuple_t, DL.rTuple_r, DL.rInt_i, DL.rInt_b, DL.rMax, DL.rMin, DL.rSz0, DL.rSz1, DL.rSz2, DL.rSz3, DL.rSz4, DL.rSz5, DL.rSz6, DL.rSz7, DL.rSz8, Option.some.injEq, DL.DO.lst.injEq, exists_eq_left', exists_eq_left, DL.put_same, DL.put_put, true_and, and_true, List.map, List.replicate, List.length, List.cons_append, List.nil_append, Nat.reduceSub, Nat.reduceAdd, decide_eq_true_eq, if_true, if_false, Bool.false_eq_true, Bool.not_true, Bool.not_false])
local macro_rules | `(tactic| walk_at "go") => `(tactic| repeat (first | (refine DL.sq ?_; try walk_at "dl") | (refine DL.ifY rfl ?_; try walk_at "dl") | (refine DL.inY rfl (by decide) ?_; try walk_at "dl") | (refine DL.inN rfl (by decide) ?_; try walk_at "dl") | (refine DL.ifN (by decide) ?_; try walk_at "dl")))
abbrev s_l_thing : Stmt := top 25
theorem sc_l_thing : FnScope ["_law_world_here", "_law_bound", "_law_term"] ["_law_world_here", "_law_bound", "_law_term"] (defScope s_l_thing) := ⟨rfl, rfl, rfl, by decide +kernel, rfl, by decide +kernel, by decide +kernel⟩
def spLThing : SpD := fun ds S Q => ∃ (W : Wo) (pb : Addr) (kvs : List (Key × D)) (b : Bd) (t : Str), ds = [W.d, .ref pb, .str t] ∧ WoOk W ∧ S pb = some (.dk kvs) ∧ BdOk kvs b ∧ ((b t).isSome = true ∨ (W.nm t).isSome = true) ∧ Q (iD (val W b t)) S
section
variable {P : Program} {w : World} {K : PySem.W.Frag} {mg : Str → Option Value} {base : Heap} {C : Addr}
theorem df_lthing {k : Nat} (T : Bt mg) (A : At K mg "_law_thing" "_law_thing" s_l_thing) : Df P w K mg base "_law_thing" (k + 1) spLThing := by
  have nd := sc_l_thing.nd
  refine df_mk A rfl sc_l_thing (fun _ _ _ _ _ _ us hl => match us, hl with | [_, _, _], _ => rfl) (fun ds S Q h => ?_) (fun f cdv A outer s H E hr ds S Q h => ?_)
  · obtain ⟨W, pb, kvs, b, t, rfl, _⟩ := h
    rfl
  obtain ⟨W, pb, kvs, b, t, rfl, hW, hb, hbd, ht, h⟩ := h
  have hu := hu_of hr
  refine ⟨_, (dss_one (ds_ret (de_m PySem.F.plainAttrs_dict PySem.F.slot_dict_get PySem.F.type_dict_get (md_get hu) (dv 1) (da_cons (dv 2) (da_cons (de_m PySem.F.plainAttrs_dict PySem.F.slot_dict_get PySem.F.type_dict_get (md_get hu) (de_callTy (cd_dictF rfl) rfl T.dict_ (by decide +kernel) (da_cons (de_ix hu (dv 0) de_int) da_nil)) (da_cons (dv 2) da_nil)) da_nil))))), ?_⟩
  simp only [Wo.d, iD]
  walk_at "go"
  refine ⟨ty_dict hb, ?_⟩
  walk_at "dl"
  refine ⟨nKv W, nKv_p W, fun p np => ?_⟩
  walk_at "dl"
  have bp : pb ≠ p := fun z => by rw [z, np] at hb; cases hb
  refine ⟨ty_dict put_same, _, _, put_same, rfl, ?_⟩
  refine ⟨kvs, _, (put_ne bp).trans hb, rfl, S, Sub.new np, ?_⟩
  have e1 : dval (dmerge [] (nKv W)) (.inr t) = (W.nm t).map iD := merged_val hW.n t
  rw [e1, hbd t]
  unfold val at h
  cases e : b t with
  | some i =>
    rw [e] at h
    exact h
  | none =>
    rw [e] at h ht
    cases e2 : W.nm t with
    | none => rw [e2] at ht; simp at ht
    | some i =>
      rw [e2] at h
      exact h
end
end K72

set_option Elab.async false
set_option maxRecDepth 100000
set_option linter.unusedVariables false
namespace K72
open PySem PySem.Spec PyProof.Rows L2 DL
/-! the kinds of a world with meanings -/
theorem wstep_kd {W : Wo} {m : Mn} (hn : (W.kds.map (·.1)).Nodup) (hk : m.k ∉ W.kds.map (·.1)) : ((wstep W m).kds.map (·.1)).Nodup ∧ (∀ s, (wstep W m).kd s = if s = m.k then some (things W m) else W.kd s) ∧ ∀ s, s ∈ (wstep W m).kds.map (·.1) ↔ s ∈ W.kds.map (·.1) ∨ s = m.k := by
  have p := ksort_perm (W.kds ++ [(m.k, things W m)])
  have hnd : ((W.kds ++ [(m.k, things W m)]).map (·.1)).Nodup := by
    rw [List.map_append, List.nodup_append]
    exact ⟨hn, by simp, fun a ha b hb e => by
      have hb' : b = m.k := by simpa using hb
      exact hk (hb' ▸ e ▸ ha)⟩
  refine ⟨(p.map (·.1)).nodup_iff.mpr hnd, fun s => ?_, fun s => ?_⟩
  · show (ksort _).lookup s = _
    rw [lookup_perm p hnd, lookup_snoc hk]
    rfl
  · show s ∈ (ksort _).map (·.1) ↔ _
    rw [(p.map (·.1)).mem_iff, List.map_append, List.mem_append]
    simp
section
variable {B Wk : Str → Prop} {W : Wo}
theorem wwith_keys {M : List Mn} (h : MOk B Wk M) (hn : (W.kds.map (·.1)).Nodup) (hB : ∀ s, s ∈ W.kds.map (·.1) ↔ B s) : ((wwith W M).kds.map (·.1)).Nodup ∧ ∀ s, s ∈ (wwith W M).kds.map (·.1) ↔ B s ∨ keys M s := by
  induction h with
  | nil => exact ⟨hn, fun s => (hB s).trans ⟨Or.inl, fun z => z.resolve_right fun ⟨m, hm, _⟩ => by cases hm⟩⟩
  | @snoc M m h1 h2 h3 h4 h5 ih =>
    obtain ⟨i1, i2⟩ := ih
    have hk : m.k ∉ (wwith W M).kds.map (·.1) := fun z => ((i2 _).mp z).elim h3 h2
    obtain ⟨s1, s2, s3⟩ := wstep_kd i1 hk
    rw [wwith_snoc]
    refine ⟨s1, fun s => (s3 s).trans ?_⟩
    rw [i2, keys_snoc]
    constructor
    · rintro ((z | z) | z)
      · exact .inl z
      · exact .inr (.inl z)
      · exact .inr (.inr z.symm)
    · rintro (z | z | z)
      · exact .inl (.inl z)
      · exact .inl (.inr z)
      · exact .inr z.symm
theorem wwith_kd_app {M N : List Mn} (h : MOk B Wk (M ++ N)) (hn : (W.kds.map (·.1)).Nodup) (hB : ∀ s, s ∈ W.kds.map (·.1) ↔ B s) : ∀ s, B s ∨ keys M s → (wwith W (M ++ N)).kd s = (wwith W M).kd s := by
  intro s hs
  induction N using rev_ind with
  | h0 => rw [List.append_nil]
  | h1 N n ih =>
    rw [← List.append_assoc] at h ⊢
    have h' : MOk B Wk (M ++ N) := h.prefix
    obtain ⟨k1, k2⟩ := wwith_keys h' hn hB
    have fresh : ¬ keys (M ++ N) n.k ∧ ¬ B n.k := by
      generalize eL : M ++ N ++ [n] = L at h
      cases h with
      | nil => simp at eL
      | snoc h1 h2 h3 =>
        obtain ⟨e1, e2⟩ := List.append_inj' eL rfl
        cases e2
        rw [← e1] at h2
        exact ⟨h2, h3⟩
    have hk : n.k ∉ (wwith W (M ++ N)).kds.map (·.1) := fun z => ((k2 _).mp z).elim fresh.2 fresh.1
    rw [wwith_snoc, (wstep_kd k1 hk).2.1, ← ih h']
    refine if_neg ?_
    rintro rfl
    rcases hs with z | ⟨m, hm, e⟩
    · exact fresh.2 z
    · exact fresh.1 ⟨m, List.mem_append_left _ hm, e⟩
theorem wwith_kd_at {M N : List Mn} {m : Mn} (h : MOk B Wk (M ++ m :: N)) (hn : (W.kds.map (·.1)).Nodup) (hB : ∀ s, s ∈ W.kds.map (·.1) ↔ B s) : (wwith W (M ++ m :: N)).kd m.k = some (things (wwith W M) m) := by
  have e0 : M ++ m :: N = (M ++ [m]) ++ N := by simp
  have hat := h.at
  rw [e0] at h ⊢
  have h' : MOk B Wk (M ++ [m]) := h.prefix
  rw [wwith_kd_app h hn hB m.k (.inr ⟨m, by simp, rfl⟩)]
  have hM : MOk B Wk M := h'.prefix
  obtain ⟨k1, k2⟩ := wwith_keys hM hn hB
  have hb : ¬ B m.k := fun z => h'.base z ⟨m, by simp, rfl⟩
  have hk : m.k ∉ (wwith W M).kds.map (·.1) := fun z => ((k2 _).mp z).elim hb hat.2.1
  rw [wwith_snoc, (wstep_kd k1 hk).2.1, if_pos rfl]
end
/-- what holds hangs on the kinds that stand in the form alone -/
theorem ev_kinds {W W' : Wo} {K : Str → Prop} (hnm : ∀ s, W'.nm s = W.nm s) (hd : W'.dgs = W.dgs) (hm : W'.many = W.many) (hk : ∀ k, K k → W'.kd k = W.kd k) : ∀ (F : Fm) (b : Bd), F.ok (fun _ => True) K (fun _ => True) → ev W' b F = ev W b F := by
  have hv : ∀ b t, val W' b t = val W b t := fun b t => by unfold val; rw [hnm]
  intro F
  induction F with
  | is t k => intro b h; unfold ev; rw [hv, hk k h.2]
  | does d x y => intro b h; unfold ev Wo.dg; rw [hv, hv, hd]
  | same x y => intro b h; unfold ev; rw [hv, hv]
  | neg f ih => intro b h; unfold ev; rw [ih b h]
  | bin w f g ihf ihg => intro b h; cases w <;> unfold ev <;> rw [ihf b h.1, ihg b h.2]
  | qu w x f ih =>
    intro b h
    have step : ∀ i, ev W' (bput b x i) f = ev W (bput b x i) f := fun i => ih _ h.2
    cases w <;> unfold ev <;> rw [hm] <;> exact congrArg _ (funext step)
end K72

set_option Elab.async false
set_option maxRecDepth 100000
set_option linter.unusedVariables false
namespace K72
open PySem PySem.Spec PyProof.Rows L2 DL
local macro_rules | `(tactic| walk_at "dl") => `(tactic| try simp only [DL.tAsgD, DL.asg, DL.tVarD, DL.lk, DL.sto, DL.stos, DL.tOpD, DL.tCD, DL.tCallD, DL.tConsD, DL.tNilD, DL.tRetD, DL.endsD, DL.startD, DL.tIfSD, DL.tTestD, DL.tNextD, DL.tDropD, DL.tAndD, DL.tOrD, DL.tNotD, DL.tAndV, DL.tOrV, DL.tNotV, DL.tIfD, DL.tNegD, DL.tTupD, DL.tLstD, DL.tSetD, DL.tMD, DL.tSlD, DL.tPartD, DL.tNoD, DL.tRevD, DL.tForD, DL.tLcD, DL.tIterD, DL.tRng1D, DL.tRng2D, DL.tYesD, DL.wipeD, DL.tDictD, DL.tDictOne, DL.tFldD, DL.tMethD, DL.tMakeD, DL.tSetF, DL.tThaw, DL.thaw, DL.tLRg, DL.keyOf, DL.emE_rr, DL.tLess, DL.tLessS, DL.itOk, DL.rAdd_ii, DL.rAdd_ss, DL.rAdd_tt, DL.rAdd_rr, DL.rSub_ii, DL.rMod_ii, DL.rDiv_ii, DL.rPow_ii, DL.rMul_ii, DL.rMul_ri, DL.rLt_ii, DL.rLt_ss, DL.rLe_ii, DL.rGt_ii, DL.rGe_ii, DL.rEq_ii, DL.rEq_ss, DL.rEq_bb, DL.rNe_ii, DL.rNe_ss, DL.rNe_bb, DL.rEq_rr, DL.rNe_rr, DL.rEq_tt, DL.rNe_tt, DL.rIn_st, DL.rNotIn_st, DL.rIn_r, DL.rNotIn_r, DL.rIn_ss, DL.rInDO_sl, DL.rInDO_il, DL.rInDO_sd, DL.rInDO_id, DL.rIsN_n, DL.rIsN_t, DL.rIsN_i, DL.rIsN_s, DL.rIsN_r, DL.rNotN_n, DL.rNotN_t, DL.rNotN_i, DL.rNotN_s, DL.rNotN_r, DL.rIx_t, DL.rIx_r, DL.rIx_s, DL.rIxDO_l, DL.rIxDO_ds, DL.rIx0, DL.rIx1, DL.rIx2, DL.rIx3, DL.rSl_t, DL.rSl_s, DL.rSl_o, DL.rSl_r, DL.rSlDO, DL.rSet_r, DL.rSetDO_0, DL.rSetDO_s, DL.rLen_t, DL.rLen_o, DL.rLen_s, DL.rLen_r, DL.rLenDO, DL.rLenDO_d, DL.rList_t, DL.rList_o, DL.rList_r, DL.rListDO, DL.rTuple_t, DL.rTuple_r, DL.rInt_i, DL.rInt_b, DL.rMax, DL.rMin, DL.rSz0, DL.rSz1, DL.rSz2, DL.rSz3, DL.rSz4, DL.rSz5, DL.rSz6, DL.rSz7, DL.rSz8, Option.some.injEq, DL.DO.lst.injEq, exists_eq_left', exists_eq_left, DL.put_same, DL.put_put, true_and, and_true, List.map, List.replicate, List.length, List.cons_append, List.nil_append, Nat.reduceSub, Nat.reduceAdd, decide_eq_true_eq, if_true, if_false, Bool.false_eq_true, Bool.not_true, Bool.not_false])
local macro_rules | `(tactic| walk_at "dlh") => `(tactic| try simp only [*, DL.tAsgD, DL.asg, DL.tVarD, DL.lk, DL.sto, DL.stos, DL.tOpD, DL.tCD, DL.tCallD, DL.tConsD, DL.tNilD, DL.tRetD, DL.endsD, DL.startD, DL.tIfSD, DL.tTestD, DL.tNextD, DL.tDropD, DL.tAndD, DL.tOrD, DL.tNotD, DL.tAndV, DL.tOrV, DL.tNotV, DL.tIfD, DL.tNegD, DL.tTupD, DL.tLstD, DL.tSetD, DL.tMD, DL.tSlD, DL.tPartD, DL.tNoD, DL.tRevD, DL.tForD, DL.tLcD, DL.tIterD, DL.tRng1D, DL.tRng2D, DL.tYesD, DL.wipeD, DL.tDictD, DL.tDictOne, DL.tFldD, DL.tMethD, DL.tMakeD, DL.tSetF, DL.tThaw, DL.thaw, DL.tLRg, DL.keyOf, DL.emE_rr, DL.tLess, DL.tLessS, DL.itOk, DL.rAdd_ii, DL.rAdd_ss, DL.rAdd_tt, DL.rAdd_rr, DL.rSub_ii, DL.rMod_ii, DL.rDiv_ii, DL.rPow_ii, DL.rMul_ii, DL.rMul_ri, DL.rLt_ii, DL.rLt_ss, DL.rLe_ii, DL.rGt_ii, DL.rGe_ii, DL.rEq_ii, DL.rEq_ss, DL.rEq_bb, DL.rNe_ii, DL.rNe_ss, DL.rNe_bb, DL.rEq_rr, DL.rNe_rr, DL.rEq_tt, DL.rNe_tt, DL.rIn_st, DL.rNotIn_st, DL.rIn_r, DL.rNotIn_r, DL.rIn_ss, DL.rInDO_sl, DL.rInDO_il, DL.rInDO_sd, DL.rInDO_id, DL.rIsN_n, DL.rIsN_t, DL.rIsN_i, DL.rIsN_s, DL.rIsN_r, DL.rNotN_n, DL.rNotN_t, DL.rNotN_i, DL.rNotN_s, DL.rNotN_r, DL.rIx_t, DL.rIx_r, DL.rIx_s, DL.rIxDO_l, DL.rIxDO_ds, DL.rIx0, DL.rIx1, DL.rIx2, DL.rIx3, DL.rSl_t, DL.rSl_s, DL.rSl_o, DL.rSl_r, DL.rSlDO, DL.rSet_r, DL.rSetDO_0, DL.rSetDO_s, DL.rLen_t, DL.rLen_o, DL.rLen_s, DL.rLen_r, DL.rLenDO, DL.rLenDO_d, DL.rList_t, DL.rList_o, DL.rList_r, DL.rListDO, DL.rTuple_t, DL.rTuple_r, DL.rInt_i, DL.rInt_b, DL.rMax, DL.rMin, DL.rSz0, DL.rSz1, DL.rSz2, DL.rSz3, DL.rSz4, DL.rSz5, DL.rSz6, DL.rSz7, DL.rSz8, Option.some.injEq, DL.DO.lst.injEq, exists_eq_left', exists_eq_left, DL.put_same, DL.put_put, true_and, and_true, List.map, List.replicate, List.length, List.cons_append, List.nil_append, Nat.reduceSub, Nat.reduceAdd, decide_eq_true_eq, if_true, if_false, Bool.false_eq_true, Bool.not_true, Bool.not_false])
local macro_rules | `(tactic| walk_at "go") => `(tactic| repeat (first | (refine DL.sq ?_; try walk_at "dl") | (refine DL.ifY rfl ?_; try walk_at "dl") | (refine DL.inY rfl (by decide) ?_; try walk_at "dl") | (refine DL.inN rfl (by decide) ?_; try walk_at "dl") | (refine DL.ifN (by decide) ?_; try walk_at "dl")))
abbrev s_l_of_kind : Stmt := top 26
theorem sc_l_of_kind : FnScope ["_law_world_here", "_law_meanings_here", "_law_kind", "_law_thing_here", "_law_told", "_law_x", "_law_there"] ["_law_world_here", "_law_meanings_here", "_law_kind", "_law_thing_here"] (defScope s_l_of_kind) := ⟨rfl, rfl, rfl, by decide +kernel, rfl, by decide +kernel, by decide +kernel⟩
abbrev s_l_holds : Stmt := top 27
theorem sc_l_holds : FnScope ["_law_world_here", "_law_meanings_here", "_law_form_here", "_law_bound", "_law_word_here", "_law_found", "_law_thing_here", "_law_inner", "_law_pair", "_law_some", "_law_part"] ["_law_world_here", "_law_meanings_here", "_law_form_here", "_law_bound"] (defScope s_l_holds) := ⟨rfl, rfl, rfl, by decide +kernel, rfl, by decide +kernel, by decide +kernel⟩
structure WM (B Wk : Str → Prop) (W : Wo) (M : List Mn) : Prop where
  m : MOk B Wk M
  ok : WoOk W
  b : ∀ s, s ∈ W.kds.map (·.1) ↔ B s
  d : ∀ s, Wk s → (W.dg s).isSome = true
  cl : ∀ m ∈ M, m.g.cl fun s => s = m.x ∨ (W.nm s).isSome = true
  lt : ∀ s i, W.nm s = some i → i < W.many
/-- which thing is of a kind -/
def spOfKind (n : Nat) : SpD := fun ds S Q => ∃ (B Wk : Str → Prop) (W : Wo) (M1 M2 : List Mn) (k : Str) (i : Nat), ds = [W.d, .tup ((M1 ++ M2).map Mn.d), .str k, iD i] ∧ WM B Wk W (M1 ++ M2) ∧ (B k ∨ keys M1 k) ∧ hs M1 ≤ n ∧ n ≤ 400 ∧ i < W.many ∧
  Q (.bl (decide (i ∈ ((wwith W (M1 ++ M2)).kd k).getD []))) S
def spLHolds (n : Nat) : SpD := fun ds S Q => ∃ (B Wk : Str → Prop) (W : Wo) (M1 M2 : List Mn) (F : Fm) (pb : Addr) (kvs : List (Key × D)) (b : Bd), ds = [W.d, .tup ((M1 ++ M2).map Mn.d), F.d, .ref pb] ∧ WM B Wk W (M1 ++ M2) ∧ S pb = some (.dk kvs) ∧ BdOk kvs b ∧
  (∀ s i, b s = some i → i < W.many) ∧ kvs.length + F.ht + hs M1 ≤ 500 ∧ F.ht + hs M1 ≤ n ∧ F.cl (fun s => (b s).isSome = true ∨ (W.nm s).isSome = true) ∧ F.ok (fun _ => True) (fun k => B k ∨ keys M1 k) Wk ∧
  Q (.bl (ev (wwith W (M1 ++ M2)) b F)) S
section
variable {P : Program} {w : World} {K : PySem.W.Frag} {mg : Str → Option Value} {base : Heap} {C : Addr}
theorem df_ofKind {k n : Nat} (T : Bt mg) (A : At K mg "_law_of_kind" "_law_of_kind" s_l_of_kind) (G_l_holds : Df P w K mg base "_law_holds" k (spLHolds n)) : Df P w K mg base "_law_of_kind" (k + 1) (spOfKind n) := by
  have nd := sc_l_of_kind.nd
  refine df_mk A rfl sc_l_of_kind (fun _ _ _ _ _ _ us hl => match us, hl with | [_, _, _, _], _ => rfl) (fun ds S Q h => ?_) (fun f cdv A outer s H E hr ds S Q h => ?_)
  · obtain ⟨B, Wk, W, M1, M2, k, i, rfl, _⟩ := h
    rfl
  obtain ⟨B, Wk, W, M1, M2, k, i, rfl, hM, hk, hn, hn4, hi, h⟩ := h
  have hu := hu_of hr
  refine ⟨_, (dss_cons (ds_for PassesOwn.never rfl (di_any (dv 1)) (dg_tup rfl (dgs_cons (dg_name (i := 4) nd rfl (Or.inl rfl)) (dgs_cons (dg_name (i := 5) nd rfl (Or.inl rfl)) (dgs_cons (dg_name (i := 6) nd rfl (Or.inl rfl)) dgs_nil)))) (dss_one (ds_if (dt_cmp (od_eq hr.units) (dv 4) (dv 2) (nomark _)) (dss_one (ds_ret (de_call G_l_holds hr rfl (da_cons (dv 0) (da_cons (dv 1) (da_cons (dv 6) (da_cons (de_dict1 (dv 5) (dv 3)) da_nil))))))) dss_nil)))
    (dss_one (ds_ret (de_cmp (od_in hu) (dv 3) (de_thaw (de_ix hu (de_callTy (cd_dictF rfl) rfl T.dict_ (by decide +kernel) (da_cons (de_ix hu (dv 0) de_int) da_nil)) (dv 2))) rfl)))), ?_⟩
  refine sq ?_
  walk_at "dl"
  by_cases hk1 : keys M1 k
  · obtain ⟨N1, m, N2, rfl, rfl, hno1⟩ := keys_split hk1
    have eM : (N1 ++ m :: N2) ++ M2 = N1 ++ m :: (N2 ++ M2) := by simp
    have hM' := hM
    rw [eM] at hM'
    obtain ⟨mx, _, mg', _⟩ := hM'.m.at
    refine forB_seq (((N1 ++ m :: N2) ++ M2).map Mn.d) (fun j δ S' => j ≤ N1.length ∧ S' = S ∧ ∃ o6 o7 o8, δ = [some W.d, some (.tup (((N1 ++ m :: N2) ++ M2).map Mn.d)), some (.str m.k), some (iD i), o6, o7, o8]) ?_ ?_ ?_ ?_
    · exact ⟨Nat.zero_le _, rfl, none, none, none, rfl⟩
    · intro j δ S' _ _
      rfl
    · rintro j d δ S' hd ⟨hj, rfl, o6, o7, o8, rfl⟩
      rw [List.getElem?_map] at hd
      by_cases hj2 : j < N1.length
      · have e1 : ((N1 ++ m :: N2) ++ M2)[j]? = some N1[j] := by rw [List.append_assoc, List.getElem?_append_left hj2, List.getElem?_eq_getElem hj2]
        rw [e1] at hd
        cases hd
        simp only [Mn.d]
        walk_at "dl"
        refine ifN (fun z => hno1 ⟨_, List.getElem_mem hj2, z⟩) ?_
        exact ⟨hj2, _, _, _, rfl⟩
      · have e0 : j = N1.length := Nat.le_antisymm hj (Nat.le_of_not_lt hj2)
        subst e0
        have e1 : ((N1 ++ m :: N2) ++ M2)[N1.length]? = some m := by rw [eM, List.getElem?_append_right (Nat.le_refl _), Nat.sub_self]; rfl
        rw [e1] at hd
        cases hd
        simp only [Mn.d]
        walk_at "dl"
        intro p np
        have hs1 : m.g.ht + hs N1 ≤ n := by
          have e2 : hs (N1 ++ m :: N2) = hs N1 + (m.g.ht + hs N2) := by unfold hs; simp
          omega
        have hmem : m ∈ N1 ++ m :: (N2 ++ M2) := by simp
        refine ⟨B, Wk, W, N1, m :: (N2 ++ M2), m.g, p, [(.inr m.x, iD i)], bput (fun _ => none) m.x i, by rw [eM], hM', put_same, BdOk.put (kvs := []) (b := fun _ => none) (fun s => rfl), fun s j e => ?_, ?_, hs1, (hM'.cl m hmem).imp fun s hs => ?_, mg'.imp (fun _ _ => trivial) (fun _ z => z) (fun _ z => z), S', Sub.new np, ?_⟩
        · unfold bput at e
          split at e
          · cases e; exact hi
          · cases e
        · simp only [List.length_cons, List.length_nil]; omega
        · rcases hs with hs | hs
          · left; unfold bput; rw [if_pos hs]; rfl
          · exact .inr hs
        · obtain ⟨q1, q2, q3, _⟩ := wwith_nms (W := W) (M := N1)
          obtain ⟨r1, r2, r3, _⟩ := wwith_nms (W := W) (M := N1 ++ m :: (N2 ++ M2))
          have e5 : ev (wwith W (N1 ++ m :: (N2 ++ M2))) (bput (fun _ => none) m.x i) m.g = ev (wwith W N1) (bput (fun _ => none) m.x i) m.g :=
            ev_kinds (K := fun k => B k ∨ keys N1 k) (fun s => by unfold Wo.nm; rw [r1, q1]) (by rw [r3, q3]) (by rw [r2, q2]) (fun k hk => wwith_kd_app hM'.m hM.ok.k hM.b k hk) m.g _ (mg'.imp (fun _ _ => trivial) (fun _ z => z) fun _ _ => trivial)
          rw [e5]
          rw [eM, wwith_kd_at hM'.m hM.ok.k hM.b] at h
          have e6 : decide (i ∈ (some (things (wwith W N1) m)).getD []) = ev (wwith W N1) (bput (fun _ => none) m.x i) m.g := by
            have e7 : i ∈ things (wwith W N1) m ↔ ev (wwith W N1) (bput (fun _ => none) m.x i) m.g = true := by
              unfold things
              rw [List.mem_filter, List.mem_range, q2]
              exact ⟨fun z => z.2, fun z => ⟨hi, z⟩⟩
            rw [Bool.eq_iff_iff, decide_eq_true_eq]
            exact e7
          rw [e6] at h
          exact h
    · rintro δ S' ⟨hj, _⟩
      simp at hj
      omega
  · have hB : B k := hk.resolve_right hk1
    have hkM := hM.m.base hB
    refine forB_seq ((M1 ++ M2).map Mn.d) (fun j δ S' => S' = S ∧ ∃ o6 o7 o8, δ = [some W.d, some (.tup ((M1 ++ M2).map Mn.d)), some (.str k), some (iD i), o6, o7, o8]) ?_ ?_ ?_ ?_
    · exact ⟨rfl, none, none, none, rfl⟩
    · intro j δ S' _ _
      rfl
    · rintro j d δ S' hd ⟨rfl, o6, o7, o8, rfl⟩
      rw [List.getElem?_map] at hd
      cases e1 : (M1 ++ M2)[j]? with
      | none => rw [e1] at hd; cases hd
      | some m =>
        rw [e1] at hd
        cases hd
        simp only [Mn.d]
        walk_at "dl"
        refine ifN (fun z => hkM ⟨m, List.mem_of_getElem? e1, z⟩) ?_
        exact ⟨_, _, _, rfl⟩
    · rintro δ S' ⟨rfl, o6, o7, o8, rfl⟩
      simp only [Wo.d]
      walk_at "dl"
      refine ⟨kKv W, kKv_p W, fun p np => ?_⟩
      walk_at "dl"
      have e2 : dval (dmerge [] (kKv W)) (.inr k) = (W.kd k).map fun l => D.ftup (l.map iD) := merged_val (f := fun l : List Nat => D.ftup (l.map iD)) hM.ok.k k
      have e3 : (W.kd k).isSome = true := lookup_none.mpr ((hM.b k).mpr hB)
      obtain ⟨l, el⟩ := Option.isSome_iff_exists.mp e3
      rw [el] at e2
      refine ⟨_, e2, _, ints_map l, S', Sub.new np, ?_⟩
      have e4 := wwith_kd_app (M := []) (N := M1 ++ M2) hM.m hM.ok.k hM.b k (.inl hB)
      have e5 : (wwith W (M1 ++ M2)).kd k = some l := e4.trans el
      rw [e5] at h
      show Q (.bl (decide ((i : Int) ∈ l.map fun (i : Nat) => (i : Int)))) S'
      rw [mem_cast]
      exact h
end
end K72

set_option Elab.async false
set_option maxRecDepth 100000
set_option linter.unusedVariables false
namespace K72
open PySem PySem.Spec PyProof.Rows L2 DL
local macro_rules | `(tactic| walk_at "dl") => `(tactic| try simp only [DL.tAsgD, DL.asg, DL.tVarD, DL.lk, DL.sto, DL.stos, DL.tOpD, DL.tCD, DL.tCallD, DL.tConsD, DL.tNilD, DL.tRetD, DL.endsD, DL.startD, DL.tIfSD, DL.tTestD, DL.tNextD, DL.tDropD, DL.tAndD, DL.tOrD, DL.tNotD, DL.tAndV, DL.tOrV, DL.tNotV, DL.tIfD, DL.tNegD, DL.tTupD, DL.tLstD, DL.tSetD, DL.tMD, DL.tSlD, DL.tPartD, DL.tNoD, DL.tRevD, DL.tForD, DL.tLcD, DL.tIterD, DL.tRng1D, DL.tRng2D, DL.tYesD, DL.wipeD, DL.tDictD, DL.tDictOne, DL.tFldD, DL.tMethD, DL.tMakeD, DL.tSetF, DL.tThaw, DL.thaw, DL.tLRg, DL.keyOf, DL.emE_rr, DL.tLess, DL.tLessS, DL.itOk, DL.rAdd_ii, DL.rAdd_ss, DL.rAdd_tt, DL.rAdd_rr, DL.rSub_ii, DL.rMod_ii, DL.rDiv_ii, DL.rPow_ii, DL.rMul_ii, DL.rMul_ri, DL.rLt_ii, DL.rLt_ss, DL.rLe_ii, DL.rGt_ii, DL.rGe_ii, DL.rEq_ii, DL.rEq_ss, DL.rEq_bb, DL.rNe_ii, DL.rNe_ss, DL.rNe_bb, DL.rEq_rr, DL.rNe_rr, DL.rEq_tt, DL.rNe_tt, DL.rIn_st, DL.rNotIn_st, DL.rIn_r, DL.rNotIn_r, DL.rIn_ss, DL.rInDO_sl, DL.rInDO_il, DL.rInDO_sd, DL.rInDO_id, DL.rIsN_n, DL.rIsN_t, DL.rIsN_i, DL.rIsN_s, DL.rIsN_r, DL.rNotN_n, DL.rNotN_t, DL.rNotN_i, DL.rNotN_s, DL.rNotN_r, DL.rIx_t, DL.rIx_r, DL.rIx_s, DL.rIxDO_l, DL.rIxDO_ds, DL.rIx0, DL.rIx1, DL.rIx2, DL.rIx3, DL.rSl_t, DL.rSl_s, DL.rSl_o, DL.rSl_r, DL.rSlDO, DL.rSet_r, DL.rSetDO_0, DL.rSetDO_s, DL.rLen_t, DL.rLen_o, DL.rLen_s, DL.rLen_r, DL.rLenDO, DL.rLenDO_d, DL.rList_t, DL.rList_o, DL.rList_r, DL.rListDO, DL.rTuple_t, DL.rTuple_r, DL.rInt_i, DL.rInt_b, DL.rMax, DL.rMin, DL.rSz0, DL.rSz1, DL.rSz2, DL.rSz3, DL.rSz4, DL.rSz5, DL.rSz6, DL.rSz7, DL.rSz8, Option.some.injEq, DL.DO.lst.injEq, exists_eq_left', exists_eq_left, DL.put_same, DL.put_put, true_and, and_true, List.map, List.replicate, List.length, List.cons_append, List.nil_append, Nat.reduceSub, Nat.reduceAdd, decide_eq_true_eq, if_true, if_false, Bool.false_eq_true, Bool.not_true, Bool.not_false])
local macro_rules | `(tactic| walk_at "dlh") => `(tactic| try simp only [*, DL.tAsgD, DL.asg, DL.tVarD, DL.lk, DL.sto, DL.stos, DL.tOpD, DL.tCD, DL.tCallD, DL.tConsD, DL.tNilD, DL.tRetD, DL.endsD, DL.startD, DL.tIfSD, DL.tTestD, DL.tNextD, DL.tDropD, DL.tAndD, DL.tOrD, DL.tNotD, DL.tAndV, DL.tOrV, DL.tNotV, DL.tIfD, DL.tNegD, DL.tTupD, DL.tLstD, DL.tSetD, DL.tMD, DL.tSlD, DL.tPartD, DL.tNoD, DL.tRevD, DL.tForD, DL.tLcD, DL.tIterD, DL.tRng1D, DL.tRng2D, DL.tYesD, DL.wipeD, DL.tDictD, DL.tDictOne, DL.tFldD, DL.tMethD, DL.tMakeD, DL.tSetF, DL.tThaw, DL.thaw, DL.tLRg, DL.keyOf, DL.emE_rr, DL.tLess, DL.tLessS, DL.itOk, DL.rAdd_ii, DL.rAdd_ss, DL.rAdd_tt, DL.rAdd_rr, DL.rSub_ii, DL.rMod_ii, DL.rDiv_ii, DL.rPow_ii, DL.rMul_ii, DL.rMul_ri, DL.rLt_ii, DL.rLt_ss, DL.rLe_ii, DL.rGt_ii, DL.rGe_ii, DL.rEq_ii, DL.rEq_ss, DL.rEq_bb, DL.rNe_ii, DL.rNe_ss, DL.rNe_bb, DL.rEq_rr, DL.rNe_rr, DL.rEq_tt, DL.rNe_tt, DL.rIn_st, DL.rNotIn_st, DL.rIn_r, DL.rNotIn_r, DL.rIn_ss, DL.rInDO_sl, DL.rInDO_il, DL.rInDO_sd, DL.rInDO_id, DL.rIsN_n, DL.rIsN_t, DL.rIsN_i, DL.rIsN_s, DL.rIsN_r, DL.rNotN_n, DL.rNotN_t, DL.rNotN_i, DL.rNotN_s, DL.rNotN_r, DL.rIx_t, DL.rIx_r, DL.rIx_s, DL.rIxDO_l, DL.rIxDO_ds, DL.rIx0, DL.rIx1, DL.rIx2, DL.rIx3, DL.rSl_t, DL.rSl_s, DL.rSl_o, DL.rSl_r, DL.rSlDO, DL.rSet_r, DL.rSetDO_0, DL.rSetDO_s, DL.rLen_t, DL.rLen_o, DL.rLen_s, DL.rLen_r, DL.rLenDO, DL.rLenDO_d, DL.rList_t, DL.rList_o, DL.rList_r, DL.rListDO, DL.rTuple_t, DL.rTuple_r, DL.rInt_i, DL.rInt_b, DL.rMax, DL.rMin, DL.rSz0, DL.rSz1, DL.rSz2, DL.rSz3, DL.rSz4, DL.rSz5, DL.rSz6, DL.rSz7, DL.rSz8, Option.some.injEq, DL.DO.lst.injEq, exists_eq_left', exists_eq_left, DL.put_same, DL.put_put, true_and, and_true, List.map, List.replicate, List.length, List.cons_append, List.nil_append, Nat.reduceSub, Nat.reduceAdd, decide_eq_true_eq, if_true, if_false, Bool.false_eq_true, Bool.not_true, Bool.not_false])
local macro_rules | `(tactic| walk_at "go") => `(tactic| repeat (first | (refine DL.sq ?_; try walk_at "dl") | (refine DL.ifY rfl ?_; try walk_at "dl") | (refine DL.inY rfl (by decide) ?_; try walk_at "dl") | (refine DL.inN rfl (by decide) ?_; try walk_at "dl") | (refine DL.ifN (by decide) ?_; try walk_at "dl")))
abbrev w3 : List Str := ["and", "or", "if"]
theorem no0 : ∀ (m : Nat) (z : Str), m < 0 → w3[m]? = some z → z ≠ ("and" : Str) := fun m z h => absurd h (Nat.not_lt_zero m)
theorem no1 : ∀ (m : Nat) (z : Str), m < 1 → w3[m]? = some z → z ≠ ("or" : Str) := fun m z h e => by
  have : m = 0 := by omega
  subst this
  cases e
  decide
theorem no2 : ∀ (m : Nat) (z : Str), m < 2 → w3[m]? = some z → z ≠ ("if" : Str) := fun m z h e => by
  have : m = 0 ∨ m = 1 := by omega
  rcases this with rfl | rfl
  · cases e; decide
  · cases e; decide
theorem ix_end {S : Store} {p : Addr} {o : DO} {bs : List D} {y : Str} {j : Nat} {d : D} {Q : KD} (np : S p = none) (hj : w3[j]? = some y) (hno : ∀ (m : Nat) (z : Str), m < j → w3[m]? = some z → z ≠ y) (hd : bs[j]? = some d) (h : Q d S) :
    ∀ p1, put S p o p1 = none → ∀ p2, put (put S p o) p1 (.lst bs) p2 = none → tyD "list" (.ref p2) (put (put (put S p o) p1 (.lst bs)) p2 (.lst [.str "and", .str "or", .str "if"])) ∧
      mIndex (.ref p2) [.str y] (put (put (put S p o) p1 (.lst bs)) p2 (.lst [.str "and", .str "or", .str "if"])) fun y S2 => ixDO (S2 p1) y S2 fun d S' => ∃ S'', Sub S'' S' ∧ Q d S'' := by
  intro p1 n1 p2 n2
  have ne : p1 ≠ p2 := fun z => by rw [z, put_same] at n2; cases n2
  refine ⟨ty_list put_same, w3, j, put_same, hj, hno, ?_⟩
  dsimp only
  rw [put_ne ne, put_same]
  exact ⟨d, atI_nat hd, S, (Sub.new np).trans ((Sub.new n1).trans (Sub.new n2)), h⟩
theorem oIx_many {W : Wo} {S : Store} {Q : KD} : oIx W.d (.int 0) S Q = Q (iD W.many) S := rIx0
def cntE (W : Wo) (b : Bd) (x : Str) (G : Fm) (i : Nat) : Nat := ((List.range i).filter fun j => ev W (bput b x j) G).length
theorem cntE_succ {W : Wo} {b : Bd} {x : Str} {G : Fm} {i : Nat} : cntE W b x G (i + 1) = cntE W b x G i + if ev W (bput b x i) G = true then 1 else 0 := by
  unfold cntE
  rw [List.range_succ, List.filter_append, List.length_append]
  cases c : ev W (bput b x i) G <;> simp [c]
theorem cntE_any {W : Wo} {b : Bd} {x : Str} {G : Fm} {n : Nat} : decide (0 < cntE W b x G n) = (List.range n).any fun j => ev W (bput b x j) G := by
  unfold cntE
  rw [Bool.eq_iff_iff, decide_eq_true_eq, List.any_eq_true, List.length_pos_iff_exists_mem]
  exact ⟨fun ⟨a, h⟩ => ⟨a, List.mem_filter.mp h⟩, fun ⟨a, h⟩ => ⟨a, List.mem_filter.mpr h⟩⟩
theorem cntE_all {W : Wo} {b : Bd} {x : Str} {G : Fm} {n : Nat} : decide (cntE W b x G n = n) = (List.range n).all fun j => ev W (bput b x j) G := by
  unfold cntE
  have e : ((List.range n).filter fun j => ev W (bput b x j) G).length = n ↔ ((List.range n).filter fun j => ev W (bput b x j) G).length = (List.range n).length := by rw [List.length_range]
  rw [Bool.eq_iff_iff, decide_eq_true_eq, List.all_eq_true, e, List.length_filter_eq_length_iff]
section
variable {P : Program} {w : World} {K : PySem.W.Frag} {mg : Str → Option Value} {base : Heap} {C : Addr}
theorem df_lholds {k : Nat} (T : Bt mg) (A : At K mg "_law_holds" "_law_holds" s_l_holds) (AK : At K mg "_law_of_kind" "_law_of_kind" s_l_of_kind) (Gt : Df P w K mg base "_law_thing" k spLThing) (n : Nat) (hn4 : n ≤ 400) : Df P w K mg base "_law_holds" (k + 2 * n + 1) (spLHolds n) := by
  have nd := sc_l_holds.nd
  induction n with
  | zero =>
    refine df_mk A rfl sc_l_holds (fun _ _ _ _ _ _ us hl => match us, hl with | [_, _, _, _], _ => rfl) (fun ds S Q h => ?_) (fun f cdv A outer s H E hr ds S Q h => ?_)
    · obtain ⟨B, Wk, W, M1, M2, F, pb, kvs, b, rfl, _⟩ := h
      rfl
    · obtain ⟨B, Wk, W, M1, M2, F, pb, kvs, b, rfl, _, _, _, _, _, h, _⟩ := h
      have := F.ht_pos
      omega
  | succ n ih =>
  have G0 := ih (by omega)
  have G_l_of_kind := (df_ofKind T AK G0).mono (show k + 2 * n + 2 ≤ k + 2 * n + 2 by omega)
  have G_l_holds := G0.mono (show k + 2 * n + 1 ≤ k + 2 * n + 2 by omega)
  have G_l_thing := Gt.mono (show k ≤ k + 2 * n + 2 by omega)
  refine df_mk A rfl sc_l_holds (fun _ _ _ _ _ _ us hl => match us, hl with | [_, _, _, _], _ => rfl) (fun ds S Q h => ?_) (fun f cdv A outer s H E hr ds S Q h => ?_)
  · obtain ⟨B, Wk, W, M1, M2, F, pb, kvs, b, rfl, _⟩ := h
    rfl
  obtain ⟨B, Wk, W, M1, M2, F, pb, kvs, b, rfl, hM, hb, hbd, hlt, hz, hn, hcl, hok, h⟩ := h
  have hu := hu_of hr
  have hR65 : (A.deeper (envOfC "_law_holds" (defScope s_l_holds) s.heap.objs.size f cdv)).units + 65 < cLine := by have := hr.un; omega
  refine ⟨_, (dss_cons (ds_set (i := 4) nd rfl (Or.inl rfl) (de_ix hu (dv 2) de_int))
    (dss_cons (ds_if (dt_w (dw_or (dt_cmp (od_eq hr.units) (dv 4) de_str (nomark _)) (dw_or1 (dt_cmp (od_eq hr.units) (dv 4) de_str (nomark _))))) (dss_cons (ds_set (i := 5) nd rfl (Or.inl rfl) de_int)
    (dss_cons (ds_for PassesOwn.never rfl (di_range1 rfl T.range_ (da_cons (de_ix hu (dv 0) de_int) da_nil)) (dg_name (i := 6) nd rfl (Or.inl rfl)) (dss_cons (ds_set (i := 7) nd rfl (Or.inl rfl) (de_callTy (cd_dictF rfl) rfl T.dict_ (by decide +kernel) (da_cons (dv 3) da_nil)))
    (dss_cons (ds_setitem hu (dv 7) (de_ix hu (dv 2) de_int) (dv 6))
    (dss_one (ds_set (i := 5) nd rfl (Or.inl rfl) (de_op od_add (dv 5) (de_callTy cd_int rfl T.int_ (by decide +kernel) (da_cons (de_call G_l_holds hr rfl (da_cons (dv 0) (da_cons (dv 1) (da_cons (de_ix hu (dv 2) de_int) (da_cons (dv 7) da_nil))))) da_nil))))))))
    (dss_one (ds_ret (de_ix hu (de_lst (da_cons (de_cmp od_gt (dv 5) de_int (nomark _)) (da_cons (de_cmp (od_eq hr.units) (dv 5) (de_ix hu (dv 0) de_int) (nomark _)) da_nil))) (de_callTy cd_int rfl T.int_ (by decide +kernel) (da_cons (de_cmp (od_eq hr.units) (dv 4) de_str (nomark _)) da_nil))))))) dss_nil)
    (dss_cons (ds_if (dt_cmp (od_eq hr.units) (dv 4) de_str (nomark _)) (dss_one (ds_ret (de_call G_l_of_kind hr rfl (da_cons (dv 0) (da_cons (dv 1) (da_cons (de_ix hu (dv 2) de_int) (da_cons (de_call G_l_thing hr rfl (da_cons (dv 0) (da_cons (dv 3) (da_cons (de_ix hu (dv 2) de_int) da_nil)))) da_nil))))))) dss_nil)
    (dss_cons (ds_if (dt_cmp (od_eq hr.units) (dv 4) de_str (nomark _)) (dss_one (ds_ret (de_cmp (od_eq hr.units) (de_call G_l_thing hr rfl (da_cons (dv 0) (da_cons (dv 3) (da_cons (de_ix hu (dv 2) de_int) da_nil)))) (de_call G_l_thing hr rfl (da_cons (dv 0) (da_cons (dv 3) (da_cons (de_ix hu (dv 2) de_int) da_nil)))) (nomark _)))) dss_nil)
    (dss_cons (ds_if (dt_cmp (od_eq hr.units) (dv 4) de_str (nomark _)) (dss_cons (ds_set (i := 8) nd rfl (Or.inl rfl) (de_tup (da_cons (de_call G_l_thing hr rfl (da_cons (dv 0) (da_cons (dv 3) (da_cons (de_ix hu (dv 2) de_int) da_nil)))) (da_cons (de_call G_l_thing hr rfl (da_cons (dv 0) (da_cons (dv 3) (da_cons (de_ix hu (dv 2) de_int) da_nil)))) da_nil))))
    (dss_one (ds_ret (de_cmp (od_inP hR65) (dv 8) (de_thaw (de_ix hu (de_callTy (cd_dictF rfl) rfl T.dict_ (by decide +kernel) (da_cons (de_ix hu (dv 0) de_int) da_nil)) (de_ix hu (dv 2) de_int))) rfl)))) dss_nil)
    (dss_cons (ds_setLc (i := 9) (own := [("_law_part", 10)]) (g := GD.one 10) rfl nd rfl rfl (sw_true rfl rfl rfl (by decide +kernel)) (di_any (de_slice (dv 2) (do_some de_int) do_none)) (blkOk_by (own := [("_law_part", 10)]) (N := ["_law_world_here", "_law_meanings_here", "_law_form_here", "_law_bound", "_law_word_here", "_law_found", "_law_thing_here", "_law_inner", "_law_pair", "_law_some", "_law_part"]) (sc := defScope s_l_holds) (by decide +kernel)) (fun _ _ _ _ _ => (dg_name (i := 10) nd rfl (Or.inl rfl))) (fun _ _ _ _ _ => dts_nil) (fun _ _ _ _ _ => (de_call G_l_holds hr rfl (da_cons (dv 0) (da_cons (dv 1) (da_cons (dv 10) (da_cons (dv 3) da_nil)))))))
    (dss_cons (ds_if (dt_cmp (od_eq hr.units) (dv 4) de_str (nomark _)) (dss_one (ds_ret (de_not (de_ix hu (dv 9) de_int)))) dss_nil)
    (dss_one (ds_ret (de_ix hu (de_lst (da_cons (de_and (de_ix hu (dv 9) de_int) (de_one (de_ix hu (dv 9) de_int))) (da_cons (de_or (de_ix hu (dv 9) de_int) (de_one (de_ix hu (dv 9) de_int))) (da_cons (de_or (de_ix hu (dv 9) de_int) (de_one (de_not (de_ix hu (dv 9) de_int)))) da_nil)))) (de_m PySem.F.plainAttrs_list PySem.F.slot_list_index PySem.F.type_list_index md_index (de_lst (da_cons de_str (da_cons de_str (da_cons de_str da_nil)))) (da_cons (dv 4) da_nil)))))))))))), ?_⟩
  have vlt : ∀ t, ((b t).isSome = true ∨ (W.nm t).isSome = true) → val W b t < W.many := fun t ht => by
    unfold val
    cases e : b t with
    | some i => exact hlt t i e
    | none =>
      rw [e] at ht
      cases e2 : W.nm t with
      | none => rw [e2] at ht; simp at ht
      | some i => exact hM.lt t i e2
  obtain ⟨q1, q2, q3, _⟩ := wwith_nms (W := W) (M := M1 ++ M2)
  have vW : ∀ t, val (wwith W (M1 ++ M2)) b t = val W b t := fun t => by unfold val Wo.nm; rw [q1]
  cases F with
  | is t kk =>
    simp only [Fm.d]
    walk_at "go"
    refine ⟨W, pb, kvs, b, t, rfl, hM.ok, hb, hbd, hcl, ?_⟩
    refine ⟨B, Wk, W, M1, M2, kk, val W b t, rfl, hM, hok.2, by simp only [Fm.ht] at hn; omega, by omega, vlt t hcl, S, Sub.refl, ?_⟩
    unfold ev at h
    rw [vW] at h
    exact h
  | same x y =>
    simp only [Fm.d]
    walk_at "go"
    refine ⟨W, pb, kvs, b, x, rfl, hM.ok, hb, hbd, hcl.1, ?_⟩
    refine ⟨W, pb, kvs, b, y, rfl, hM.ok, hb, hbd, hcl.2, ?_⟩
    refine ⟨S, Sub.refl, ?_⟩
    unfold ev at h
    rw [vW, vW] at h
    have e : decide ((val W b x : Int) = (val W b y : Int)) = decide (val W b x = val W b y) := decide_eq_decide.mpr ⟨fun z => by omega, fun z => by omega⟩
    show Q (.bl (decide ((val W b x : Int) = (val W b y : Int)))) S
    rw [e]
    exact h
  | does d x y =>
    simp only [Fm.d]
    walk_at "go"
    refine ⟨W, pb, kvs, b, x, rfl, hM.ok, hb, hbd, hcl.1, ?_⟩
    refine ⟨W, pb, kvs, b, y, rfl, hM.ok, hb, hbd, hcl.2, ?_⟩
    simp only [Wo.d]
    walk_at "dl"
    refine ⟨dKv W, dKv_p W, fun p np => ?_⟩
    walk_at "dl"
    have e2 : dval (dmerge [] (dKv W)) (.inr d) = (W.dg d).map fun l => D.ftup (l.map ppD) := merged_val (f := fun l : List (Nat × Nat) => D.ftup (l.map ppD)) hM.ok.d d
    obtain ⟨l, el⟩ := Option.isSome_iff_exists.mp (hM.d d hok.1)
    rw [el] at e2
    refine ⟨_, e2, ?_⟩
    refine ⟨ppP (val W b x, val W b y), l.map ppP, ppP_PD (q := (val W b x, val W b y)), ppPs_PD l, rfl, pp_shaped l, fun q hq => ?_, S, Sub.new np, ?_⟩
    · obtain ⟨r, _, rfl⟩ := List.mem_map.mp hq
      rfl
    · rw [any_pair]
      unfold ev at h
      rw [vW, vW, show (wwith W (M1 ++ M2)).dg d = W.dg d from by unfold Wo.dg; rw [q3], el] at h
      exact h
  | neg G =>
    simp only [Fm.d]
    walk_at "go"
    intro p np
    have pb' : pb ≠ p := fun z => by rw [z, np] at hb; cases hb
    refine lcB_zip [G.d] [.bl (ev (wwith W (M1 ++ M2)) b G)] rfl (fun i acc => rfl) (szOk (by simp)) (fun i z r acc Y N e1 e2 yy => ?_) ?_
    · rcases i with _ | i
      · cases e1; cases e2
        walk_at "dl"
        exact ⟨B, Wk, W, M1, M2, G, pb, kvs, b, rfl, hM, (put_ne pb').trans hb, hbd, hlt, by simp only [Fm.ht] at hz; omega, by simp only [Fm.ht] at hn; omega, hcl, hok, yy⟩
      · simp at e1
    · walk_at "go"
      exact ⟨S, Sub.new np, h⟩
  | bin wd G1 G2 =>
    have l1 : G1.ht < (Fm.bin wd G1 G2).ht := by simp only [Fm.ht]; omega
    have l2 : G2.ht < (Fm.bin wd G1 G2).ht := by simp only [Fm.ht]; omega
    have one : ∀ (G : Fm) (S1 : Store) (R : KD), G.ht < (Fm.bin wd G1 G2).ht → G.cl (fun s => (b s).isSome = true ∨ (W.nm s).isSome = true) → G.ok (fun _ => True) (fun k => B k ∨ keys M1 k) Wk → S1 pb = some (.dk kvs) → R (.bl (ev (wwith W (M1 ++ M2)) b G)) S1 → spLHolds n [W.d, .tup ((M1 ++ M2).map Mn.d), G.d, .ref pb] S1 R :=
      fun G S1 R h1 h2 h3 h4 h5 => ⟨B, Wk, W, M1, M2, G, pb, kvs, b, rfl, hM, h4, hbd, hlt, by omega, by omega, h2, h3, h5⟩
    cases wd with
    | and =>
      simp only [Fm.d, J3.s]
      walk_at "go"
      intro p np
      have pb' : pb ≠ p := fun z => by rw [z, np] at hb; cases hb
      refine lcB_zip [G1.d, G2.d] [.bl (ev (wwith W (M1 ++ M2)) b G1), .bl (ev (wwith W (M1 ++ M2)) b G2)] rfl (fun i acc => rfl) (szOk (by simp)) (fun i z r acc Y N e1 e2 yy => ?_) ?_
      · rcases i with _ | _ | i
        · cases e1; cases e2
          walk_at "dl"
          exact one G1 _ _ l1 hcl.1 hok.1 ((put_ne pb').trans hb) yy
        · cases e1; cases e2
          walk_at "dl"
          exact one G2 _ _ l2 hcl.2 hok.2 ((put_ne pb').trans hb) yy
        · simp at e1
      · unfold ev at h
        generalize ev (wwith W (M1 ++ M2)) b G1 = v1 at h ⊢
        generalize ev (wwith W (M1 ++ M2)) b G2 = v2 at h ⊢
        cases v1 <;> cases v2 <;> (walk_at "go"; exact ix_end np rfl no0 rfl h)
    | or =>
      simp only [Fm.d, J3.s]
      walk_at "go"
      intro p np
      have pb' : pb ≠ p := fun z => by rw [z, np] at hb; cases hb
      refine lcB_zip [G1.d, G2.d] [.bl (ev (wwith W (M1 ++ M2)) b G1), .bl (ev (wwith W (M1 ++ M2)) b G2)] rfl (fun i acc => rfl) (szOk (by simp)) (fun i z r acc Y N e1 e2 yy => ?_) ?_
      · rcases i with _ | _ | i
        · cases e1; cases e2
          walk_at "dl"
          exact one G1 _ _ l1 hcl.1 hok.1 ((put_ne pb').trans hb) yy
        · cases e1; cases e2
          walk_at "dl"
          exact one G2 _ _ l2 hcl.2 hok.2 ((put_ne pb').trans hb) yy
        · simp at e1
      · unfold ev at h
        generalize ev (wwith W (M1 ++ M2)) b G1 = v1 at h ⊢
        generalize ev (wwith W (M1 ++ M2)) b G2 = v2 at h ⊢
        cases v1 <;> cases v2 <;> (walk_at "go"; exact ix_end np rfl no1 rfl h)
    | «if» =>
      simp only [Fm.d, J3.s]
      walk_at "go"
      intro p np
      have pb' : pb ≠ p := fun z => by rw [z, np] at hb; cases hb
      refine lcB_zip [G1.d, G2.d] [.bl (ev (wwith W (M1 ++ M2)) b G1), .bl (ev (wwith W (M1 ++ M2)) b G2)] rfl (fun i acc => rfl) (szOk (by simp)) (fun i z r acc Y N e1 e2 yy => ?_) ?_
      · rcases i with _ | _ | i
        · cases e1; cases e2
          walk_at "dl"
          exact one G1 _ _ l1 hcl.1 hok.1 ((put_ne pb').trans hb) yy
        · cases e1; cases e2
          walk_at "dl"
          exact one G2 _ _ l2 hcl.2 hok.2 ((put_ne pb').trans hb) yy
        · simp at e1
      · unfold ev at h
        generalize ev (wwith W (M1 ++ M2)) b G1 = v1 at h ⊢
        generalize ev (wwith W (M1 ++ M2)) b G2 = v2 at h ⊢
        cases v1 <;> cases v2 <;> (walk_at "go"; exact ix_end np rfl no2 rfl h)
  | qu wd x G =>
    have turn : ∀ (i : Nat) (S1 : Store) (q : Addr) (R : KD), i < W.many → S1 q = some (.dk (dput kvs (.inr x) (iD i))) → R (.bl (ev (wwith W (M1 ++ M2)) (bput b x i) G)) S1 → spLHolds n [W.d, .tup ((M1 ++ M2).map Mn.d), G.d, .ref q] S1 R := by
      intro i S1 q R hi hq hR
      refine ⟨B, Wk, W, M1, M2, G, q, _, bput b x i, rfl, hM, hq, hbd.put, fun s j e => ?_, ?_, ?_, hcl.imp fun s hs => ?_, hok.2, hR⟩
      · unfold bput at e
        split at e
        · cases e; exact hi
        · exact hlt s j e
      · have := length_dput (kvs := kvs) (k := .inr x) (v := iD i)
        simp only [Fm.ht] at hz
        omega
      · simp only [Fm.ht] at hn; omega
      · unfold bput
        by_cases e : s = x
        · rw [if_pos e]; exact .inl rfl
        · rw [if_neg e]; exact hs.resolve_right e
    cases wd with
    | every =>
      simp only [Fm.d, Q2.s]
      walk_at "go"
      rw [oIx_many]
      simp only [iD]
      have hmany := hM.ok.m
      refine ⟨by omega, ?_⟩
      rw [Int.toNat_natCast]
      refine forB_rng (fun i δ S' => ∃ o6 o7 : Option D, δ = [some W.d, some (.tup ((M1 ++ M2).map Mn.d)), some (.tup [.str "every", .str x, G.d]), some (.ref pb), some (.str "every"), some (.int (cntE (wwith W (M1 ++ M2)) b x G i : Nat)), o6, o7, none, none, none] ∧ Sub S S') ?_ ?_ ?_
      · exact ⟨none, none, rfl, Sub.refl⟩
      · rintro i δ S' hi ⟨o6, o7, rfl, hs⟩
        rw [Int.zero_add]
        walk_at "go"
        refine ⟨kvs, hs _ _ hb, fun p np => ?_⟩
        walk_at "dl"
        walk_at "go"
        refine ⟨szOk (by simp only [Fm.ht] at hz; omega), turn i _ p _ hi put_same ?_⟩
        cases hv : ev (wwith W (M1 ++ M2)) (bput b x i) G
        · walk_at "go"
          refine ⟨some (.int i), some (.ref p), ?_, hs.trans (Sub.new np)⟩
          rw [cntE_succ, hv]
          rfl
        · walk_at "go"
          refine ⟨some (.int i), some (.ref p), ?_, hs.trans (Sub.new np)⟩
          rw [cntE_succ, hv]
          rfl
      · rintro δ S' ⟨o6, o7, rfl, hs⟩
        walk_at "dl"
        rw [oIx_many]
        simp only [iD]
        walk_at "dl"
        have e1 : decide (((cntE (wwith W (M1 ++ M2)) b x G W.many : Nat) : Int) = ((W.many : Nat) : Int)) = ev (wwith W (M1 ++ M2)) b (.qu .every x G) := by
          unfold ev
          rw [q2]
          refine Eq.trans ?_ cntE_all
          exact decide_eq_decide.mpr (by omega)
        intro p np
        rw [e1]
        exact ⟨S, hs.trans (Sub.new np), h⟩
    | some =>
      simp only [Fm.d, Q2.s]
      walk_at "go"
      rw [oIx_many]
      simp only [iD]
      have hmany := hM.ok.m
      refine ⟨by omega, ?_⟩
      rw [Int.toNat_natCast]
      refine forB_rng (fun i δ S' => ∃ o6 o7 : Option D, δ = [some W.d, some (.tup ((M1 ++ M2).map Mn.d)), some (.tup [.str "some", .str x, G.d]), some (.ref pb), some (.str "some"), some (.int (cntE (wwith W (M1 ++ M2)) b x G i : Nat)), o6, o7, none, none, none] ∧ Sub S S') ?_ ?_ ?_
      · exact ⟨none, none, rfl, Sub.refl⟩
      · rintro i δ S' hi ⟨o6, o7, rfl, hs⟩
        rw [Int.zero_add]
        walk_at "go"
        refine ⟨kvs, hs _ _ hb, fun p np => ?_⟩
        walk_at "dl"
        walk_at "go"
        refine ⟨szOk (by simp only [Fm.ht] at hz; omega), turn i _ p _ hi put_same ?_⟩
        cases hv : ev (wwith W (M1 ++ M2)) (bput b x i) G
        · walk_at "go"
          refine ⟨some (.int i), some (.ref p), ?_, hs.trans (Sub.new np)⟩
          rw [cntE_succ, hv]
          rfl
        · walk_at "go"
          refine ⟨some (.int i), some (.ref p), ?_, hs.trans (Sub.new np)⟩
          rw [cntE_succ, hv]
          rfl
      · rintro δ S' ⟨o6, o7, rfl, hs⟩
        walk_at "dl"
        rw [oIx_many]
        simp only [iD]
        walk_at "dl"
        have e1 : decide ((0 : Int) < ((cntE (wwith W (M1 ++ M2)) b x G W.many : Nat) : Int)) = ev (wwith W (M1 ++ M2)) b (.qu .some x G) := by
          unfold ev
          rw [q2]
          refine Eq.trans ?_ cntE_any
          exact decide_eq_decide.mpr (by omega)
        intro p np
        rw [e1]
        rw [if_neg (by decide)]
        rw [ixSeq_at (d := .bl (ev (wwith W (M1 ++ M2)) b (.qu .some x G))) rfl]
        exact ⟨S, hs.trans (Sub.new np), h⟩
end
end K72

set_option Elab.async false
set_option maxRecDepth 100000
set_option linter.unusedVariables false
namespace DL
open PySem PySem.Spec PyProof.Rows L2
/-- a comprehension over things of a kind, some left out -/
theorem lcB_fltA {α : Type} {J : ItD} {tt : TTD} {te : TED} {i : Nat} {δ : StD} {Q : KD} {q : Addr} {S1 : Store} (c : List α) (f h : α → D) (b : α → Bool) (hJ : ∀ k acc, J k (put S1 q (.lst acc)) = some (c.map f)[k]?) (hz : c.length ≤ 10000)
    (test : ∀ (x : α) (acc : List D) (N : Bool → Store → Prop), x ∈ c → N (b x) (put S1 q (.lst acc)) → tt (sto (sto δ i none) i (some (f x))) (put S1 q (.lst acc)) N)
    (val : ∀ (x : α) (S : Store) (Y : KD), x ∈ c → Y (h x) S → te (sto (sto δ i none) i (some (f x))) S Y)
    (done : Q (.ref q) (put S1 q (.lst ((c.filter b).map h)))) : lcB J (.one i) tt te [i] δ Q q S1 := by
  refine ⟨c.length, fun j S => j ≤ c.length ∧ S = put S1 q (.lst (((c.take j).filter b).map h)), ⟨Nat.zero_le _, rfl⟩, ?_⟩
  rintro j S ⟨hj, rfl⟩
  have ej := hJ j (((c.take j).filter b).map h)
  rw [List.getElem?_map] at ej
  by_cases hlt : j < c.length
  · refine .inr ⟨f c[j], by rw [ej, List.getElem?_eq_getElem hlt]; rfl, hlt, ?_⟩
    have hl : ((c.take j).filter b).length ≤ j := Nat.le_trans (List.length_filter_le _ _) (by rw [List.length_take]; omega)
    refine test c[j] _ _ (List.getElem_mem hlt) ?_
    cases eb : b c[j] with
    | true =>
      have e : (c.take (j + 1)).filter b = (c.take j).filter b ++ [c[j]] := by
        rw [← List.take_append_getElem hlt, List.filter_append, List.filter_cons, if_pos eb]
        rfl
      rw [if_pos rfl]
      exact val c[j] _ _ (List.getElem_mem hlt) ⟨_, put_same, by rw [List.length_map]; exact szLt (by omega), hlt, by rw [put_put, e, List.map_append]; rfl⟩
    | false =>
      have e : (c.take (j + 1)).filter b = (c.take j).filter b := by
        rw [← List.take_append_getElem hlt, List.filter_append, List.filter_cons, if_neg (by rw [eb]; decide)]
        simp
      rw [if_neg (by decide)]
      exact ⟨hlt, by rw [e]⟩
  · have e : j = c.length := Nat.le_antisymm hj (Nat.le_of_not_lt hlt)
    subst e
    refine .inl ⟨by rw [ej, List.getElem?_eq_none (Nat.le_refl _)]; rfl, ?_⟩
    rw [List.take_length]
    exact done
end DL
namespace K72
open PySem PySem.Spec PyProof.Rows L2 DL
/-! sorted, where keys are unlike -/
theorem skK_le {a b : Str × List Nat} (h : a.1 ≠ b.1) : SK.le (skK a) (skK b) = decide (a.1.cps.toList ≤ b.1.cps.toList) := by
  show (!PySem.W.dataLt (skK b).p (skK a).p) = _
  have e : PyData.eqv (.str b.1) (.str a.1) = false := by
    simp only [PyData.eqv, beq_eq_false_iff_ne]
    exact fun z => h z.symm
  have e1 : PySem.W.dataLt (skK b).p (skK a).p = PySem.W.dataLt (.str b.1) (.str a.1) := by
    show PySem.W.dataLt (.tuple [.str b.1, .tuple _]) (.tuple [.str a.1, .tuple _]) = _
    rw [PySem.W.dataLt_pair rfl (by rw [PySem.W.alike]; exact ints_alike _ _), e]
    rfl
  rw [e1, PySem.W.dataLt_str, PySem.W.not_lt_str]
abbrev KSrt (l : List (Str × List Nat)) : Prop := l.Pairwise fun a b => SK.le (skK a) (skK b) = true
theorem ksort_srt (l : List (Str × List Nat)) : KSrt (ksort l) := by
  have t := PySem.W.sortLe_total (PyProof.Rows.listOrd PyProof.Rows.itemOrd) false fun b : Str × List Nat => PySem.W.keyToks (skK b).p
  exact PySem.W.sort_pairwise t l
theorem ksrt_eq {l l' : List (Str × List Nat)} (hn : (l.map (·.1)).Nodup) (h1 : KSrt l) (h2 : KSrt l') (p : l.Perm l') : l = l' := by
  refine List.Perm.eq_of_pairwise (fun a b ha hb q1 q2 => ?_) h1 h2 p
  have hb' : b ∈ l := p.mem_iff.mpr hb
  by_cases e : a.1 = b.1
  · have e1 := (lookup_mem hn).mpr (show (a.1, a.2) ∈ l from ha)
    have e2 := (lookup_mem hn).mpr (show (b.1, b.2) ∈ l from hb')
    rw [e, e2] at e1
    have e3 := Option.some.inj e1
    exact Prod.ext e e3.symm
  · rw [skK_le e] at q1
    rw [skK_le (fun z => e z.symm)] at q2
    have q1' := of_decide_eq_true q1
    have q2' := of_decide_eq_true q2
    exact absurd (PySem.W.str_of_cps (List.le_antisymm q1' q2')) e
/-- the kinds of the meanings with their things -/
def dueL (W : Wo) (M : List Mn) : List (Str × List Nat) := M.map fun m => (m.k, ((wwith W M).kd m.k).getD [])
section
variable {B Wk : Str → Prop} {W : Wo}
theorem dueL_perm {M : List Mn} (h : MOk B Wk M) (hn : (W.kds.map (·.1)).Nodup) (hB : ∀ s, s ∈ W.kds.map (·.1) ↔ B s) : (wwith W M).kds.Perm (W.kds ++ dueL W M) := by
  induction M using rev_ind with
  | h0 => exact .of_eq (List.append_nil _).symm
  | h1 N n ih =>
    have h' : MOk B Wk N := h.prefix
    have e1 : dueL W (N ++ [n]) = dueL W N ++ [(n.k, things (wwith W N) n)] := by
      unfold dueL
      rw [List.map_append]
      congr 1
      · refine List.map_congr_left fun m hm => ?_
        rw [wwith_kd_app h hn hB m.k (.inr ⟨m, hm, rfl⟩)]
      · have := wwith_kd_at (M := N) (N := []) (m := n) h hn hB
        simp only [List.map_cons, List.map_nil]
        rw [this]
        rfl
    rw [e1, wwith_snoc, ← List.append_assoc]
    exact (ksort_perm _).trans ((ih h').append_right _)
theorem wwith_srt {M : List Mn} (hs : KSrt W.kds) : KSrt (wwith W M).kds := by
  induction M using rev_ind with
  | h0 => exact hs
  | h1 N n ih =>
    rw [wwith_snoc]
    exact ksort_srt _
theorem wwith_due {M : List Mn} (h : MOk B Wk M) (hn : (W.kds.map (·.1)).Nodup) (hB : ∀ s, s ∈ W.kds.map (·.1) ↔ B s) (hs : KSrt W.kds) : ksort (W.kds ++ dueL W M) = (wwith W M).kds := by
  have p := dueL_perm h hn hB
  exact (ksrt_eq (wwith_keys h hn hB).1 (wwith_srt hs) (ksort_srt _) (p.trans (ksort_perm _).symm)).symm
theorem wwith_lt {M : List Mn} {s : Str} {l : List Nat} (h : MOk B Wk M) (hn : (W.kds.map (·.1)).Nodup) (hB : ∀ s, s ∈ W.kds.map (·.1) ↔ B s) (e : (wwith W M).kd s = some l) (hk : keys M s) : (List.range W.many).filter (fun i => decide (i ∈ l)) = l := by
  obtain ⟨m, hm, rfl⟩ := hk
  obtain ⟨M1, M2, rfl⟩ := List.append_of_mem hm
  rw [wwith_kd_at h hn hB] at e
  cases e
  unfold things
  rw [(wwith_nms (W := W) (M := M1)).2.1]
  refine List.filter_congr fun x hx => ?_
  rw [Bool.eq_iff_iff, decide_eq_true_eq, List.mem_filter]
  exact ⟨fun z => z.2, fun z => ⟨hx, z⟩⟩
end
end K72

set_option Elab.async false
set_option maxRecDepth 100000
set_option linter.unusedVariables false
namespace K72
open PySem PySem.Spec PyProof.Rows L2 DL
local macro_rules | `(tactic| walk_at "dl") => `(tactic| try simp only [DL.tAsgD, DL.asg, DL.tVarD, DL.lk, DL.sto, DL.stos, DL.tOpD, DL.tCD, DL.tCallD, DL.tConsD, DL.tNilD, DL.tRetD, DL.endsD, DL.startD, DL.tIfSD, DL.tTestD, DL.tNextD, DL.tDropD, DL.tAndD, DL.tOrD, DL.tNotD, DL.tAndV, DL.tOrV, DL.tNotV, DL.tIfD, DL.tNegD, DL.tTupD, DL.tLstD, DL.tSetD, DL.tMD, DL.tSlD, DL.tPartD, DL.tNoD, DL.tRevD, DL.tForD, DL.tLcD, DL.tIterD, DL.tRng1D, DL.tRng2D, DL.tYesD, DL.wipeD, DL.tDictD, DL.tDictOne, DL.tFldD, DL.tMethD, DL.tMakeD, DL.tSetF, DL.tThaw, DL.thaw, DL.tLRg, DL.keyOf, DL.emE_rr, DL.tLess, DL.tLessS, DL.itOk, DL.rAdd_ii, DL.rAdd_ss, DL.rAdd_tt, DL.rAdd_rr, DL.rSub_ii, DL.rMod_ii, DL.rDiv_ii, DL.rPow_ii, DL.rMul_ii, DL.rMul_ri, DL.rLt_ii, DL.rLt_ss, DL.rLe_ii, DL.rGt_ii, DL.rGe_ii, DL.rEq_ii, DL.rEq_ss, DL.rEq_bb, DL.rNe_ii, DL.rNe_ss, DL.rNe_bb, DL.rEq_rr, DL.rNe_rr, DL.rEq_tt, DL.rNe_tt, DL.rIn_st, DL.rNotIn_st, DL.rIn_r, DL.rNotIn_r, DL.rIn_ss, DL.rInDO_sl, DL.rInDO_il, DL.rInDO_sd, DL.rInDO_id, DL.rIsN_n, DL.rIsN_t, DL.rIsN_i, DL.rIsN_s, DL.rIsN_r, DL.rNotN_n, DL.rNotN_t, DL.rNotN_i, DL.rNotN_s, DL.rNotN_r, DL.rIx_t, DL.rIx_r, DL.rIx_s, DL.rIxDO_l, DL.rIxDO_ds, DL.rIx0, DL.rIx1, DL.rIx2, DL.rIx3, DL.rSl_t, DL.rSl_s, DL.rSl_o, DL.rSl_r, DL.rSlDO, DL.rSet_r, DL.rSetDO_0, DL.rSetDO_s, DL.rLen_t, DL.rLen_o, DL.rLen_s, DL.rLen_r, DL.rLenDO, DL.rLenDO_d, DL.rList_t, DL.rList_o, DL.rList_r, DL.rListDO, DL.rTuple_t, DL.rTuple_r, DL.rInt_i, DL.rInt_b, DL.rMax, DL.rMin, DL.rSz0, DL.rSz1, DL.rSz2, DL.rSz3, DL.rSz4, DL.rSz5, DL.rSz6, DL.rSz7, DL.rSz8, Option.some.injEq, DL.DO.lst.injEq, exists_eq_left', exists_eq_left, DL.put_same, DL.put_put, true_and, and_true, List.map, List.replicate, List.length, List.cons_append, List.nil_append, Nat.reduceSub, Nat.reduceAdd, decide_eq_true_eq, if_true, if_false, Bool.false_eq_true, Bool.not_true, Bool.not_false])
local macro_rules | `(tactic| walk_at "dlh") => `(tactic| try simp only [*, DL.tAsgD, DL.asg, DL.tVarD, DL.lk, DL.sto, DL.stos, DL.tOpD, DL.tCD, DL.tCallD, DL.tConsD, DL.tNilD, DL.tRetD, DL.endsD, DL.startD, DL.tIfSD, DL.tTestD, DL.tNextD, DL.tDropD, DL.tAndD, DL.tOrD, DL.tNotD, DL.tAndV, DL.tOrV, DL.tNotV, DL.tIfD, DL.tNegD, DL.tTupD, DL.tLstD, DL.tSetD, DL.tMD, DL.tSlD, DL.tPartD, DL.tNoD, DL.tRevD, DL.tForD, DL.tLcD, DL.tIterD, DL.tRng1D, DL.tRng2D, DL.tYesD, DL.wipeD, DL.tDictD, DL.tDictOne, DL.tFldD, DL.tMethD, DL.tMakeD, DL.tSetF, DL.tThaw, DL.thaw, DL.tLRg, DL.keyOf, DL.emE_rr, DL.tLess, DL.tLessS, DL.itOk, DL.rAdd_ii, DL.rAdd_ss, DL.rAdd_tt, DL.rAdd_rr, DL.rSub_ii, DL.rMod_ii, DL.rDiv_ii, DL.rPow_ii, DL.rMul_ii, DL.rMul_ri, DL.rLt_ii, DL.rLt_ss, DL.rLe_ii, DL.rGt_ii, DL.rGe_ii, DL.rEq_ii, DL.rEq_ss, DL.rEq_bb, DL.rNe_ii, DL.rNe_ss, DL.rNe_bb, DL.rEq_rr, DL.rNe_rr, DL.rEq_tt, DL.rNe_tt, DL.rIn_st, DL.rNotIn_st, DL.rIn_r, DL.rNotIn_r, DL.rIn_ss, DL.rInDO_sl, DL.rInDO_il, DL.rInDO_sd, DL.rInDO_id, DL.rIsN_n, DL.rIsN_t, DL.rIsN_i, DL.rIsN_s, DL.rIsN_r, DL.rNotN_n, DL.rNotN_t, DL.rNotN_i, DL.rNotN_s, DL.rNotN_r, DL.rIx_t, DL.rIx_r, DL.rIx_s, DL.rIxDO_l, DL.rIxDO_ds, DL.rIx0, DL.rIx1, DL.rIx2, DL.rIx3, DL.rSl_t, DL.rSl_s, DL.rSl_o, DL.rSl_r, DL.rSlDO, DL.rSet_r, DL.rSetDO_0, DL.rSetDO_s, DL.rLen_t, DL.rLen_o, DL.rLen_s, DL.rLen_r, DL.rLenDO, DL.rLenDO_d, DL.rList_t, DL.rList_o, DL.rList_r, DL.rListDO, DL.rTuple_t, DL.rTuple_r, DL.rInt_i, DL.rInt_b, DL.rMax, DL.rMin, DL.rSz0, DL.rSz1, DL.rSz2, DL.rSz3, DL.rSz4, DL.rSz5, DL.rSz6, DL.rSz7, DL.rSz8, Option.some.injEq, DL.DO.lst.injEq, exists_eq_left', exists_eq_left, DL.put_same, DL.put_put, true_and, and_true, List.map, List.replicate, List.length, List.cons_append, List.nil_append, Nat.reduceSub, Nat.reduceAdd, decide_eq_true_eq, if_true, if_false, Bool.false_eq_true, Bool.not_true, Bool.not_false])
local macro_rules | `(tactic| walk_at "go") => `(tactic| repeat (first | (refine DL.sq ?_; try walk_at "dl") | (refine DL.ifY rfl ?_; try walk_at "dl") | (refine DL.inY rfl (by decide) ?_; try walk_at "dl") | (refine DL.inN rfl (by decide) ?_; try walk_at "dl") | (refine DL.ifN (by decide) ?_; try walk_at "dl")))
abbrev s_l_due : Stmt := top 28
theorem sc_l_due : FnScope ["_law_world_here", "_law_meanings_here", "_law_more", "_law_kind", "_law_x", "_law_there", "_law_some", "_law_thing_here"] ["_law_world_here", "_law_meanings_here"] (defScope s_l_due) := ⟨rfl, rfl, rfl, by decide +kernel, rfl, by decide +kernel, by decide +kernel⟩
def spDueW (n : Nat) : SpD := fun ds S Q => ∃ (B Wk : Str → Prop) (W : Wo) (M : List Mn), ds = [W.d, .tup (M.map Mn.d)] ∧ WM B Wk W M ∧ KSrt W.kds ∧ hs M ≤ n ∧ n ≤ 400 ∧ M.length ≤ 10 ∧ W.kds.length ≤ 50 ∧ Q (wwith W M).d S
theorem rng_J {n : Nat} {k : Nat} {S : Store} : rngJ 0 n k S = some ((List.range n).map iD)[k]? := by
  unfold rngJ
  rw [List.getElem?_map]
  by_cases h : k < n
  · rw [if_pos h, List.getElem?_range h, Int.zero_add]; rfl
  · rw [if_neg h, List.getElem?_eq_none (by rw [List.length_range]; omega)]; rfl
section
variable {P : Program} {w : World} {K : PySem.W.Frag} {mg : Str → Option Value} {base : Heap} {C : Addr}
theorem df_lawdue {k n : Nat} (T : Bt mg) (A : At K mg "_law_due" "_law_due" s_l_due) (G_l_of_kind : Df P w K mg base "_law_of_kind" k (spOfKind n)) : Df P w K mg base "_law_due" (k + 1) (spDueW n) := by
  have nd := sc_l_due.nd
  refine df_mk A rfl sc_l_due (fun _ _ _ _ _ _ us hl => match us, hl with | [_, _], _ => rfl) (fun ds S Q h => ?_) (fun f cdv A outer s H E hr ds S Q h => ?_)
  · obtain ⟨B, Wk, W, M, rfl, _⟩ := h
    rfl
  obtain ⟨B, Wk, W, M, rfl, hM, hsrt, hn, hn4, hl, hkl, h⟩ := h
  have hu := hu_of hr
  have hR : (A.deeper (envOfC "_law_due" (defScope s_l_due) s.heap.objs.size f cdv)).units + 100 < cLine := by have := hr.un; omega
  refine ⟨_, (dss_cons (ds_set (i := 2) nd rfl (Or.inl rfl) (de_lst da_nil))
    (dss_cons (ds_for PassesOwn.never rfl (di_any (dv 1)) (dg_tup rfl (dgs_cons (dg_name (i := 3) nd rfl (Or.inr rfl)) (dgs_cons (dg_name (i := 4) nd rfl (Or.inl rfl)) (dgs_cons (dg_name (i := 5) nd rfl (Or.inl rfl)) dgs_nil)))) (dss_cons (ds_setLc (i := 6) (own := [("_law_thing_here", 7)]) (g := GD.one 7) rfl nd rfl rfl (sw_true rfl rfl rfl (by decide +kernel)) (di_range1 rfl T.range_ (da_cons (de_ix hu (dv 0) de_int) da_nil)) (blkOk_by (own := [("_law_thing_here", 7)]) (N := ["_law_world_here", "_law_meanings_here", "_law_more", "_law_kind", "_law_x", "_law_there", "_law_some", "_law_thing_here"]) (sc := defScope s_l_due) (by decide +kernel)) (fun _ _ _ _ _ => (dg_name (i := 7) nd rfl (Or.inl rfl))) (fun _ _ _ _ _ => (dts_one (dt_val (de_call G_l_of_kind hr rfl (da_cons (dv 0) (da_cons (dv 1) (da_cons (dv 3) (da_cons (dv 7) da_nil)))))))) (fun _ _ _ _ _ => (dv 7)))
    (dss_one (ds_expr (de_m PySem.F.plainAttrs_list PySem.F.slot_list_append PySem.F.type_list_append md_append (dv 2) (da_cons (de_tup (da_cons (dv 3) (da_cons (de_callTy cd_tupleF rfl T.tuple_ (by decide +kernel) (da_cons (dv 6) da_nil)) da_nil))) da_nil))))))
    (dss_one (ds_ret (de_tup (da_cons (de_ix hu (dv 0) de_int) (da_cons (de_ix hu (dv 0) de_int) (da_cons (de_callTy cd_tupleF rfl T.tuple_ (by decide +kernel) (da_cons (de_callB (cd_sortK hR) rfl T.sorted_ (by decide +kernel) (da_cons (de_op od_add (de_callTy (cd_list rfl) rfl T.list_ (by decide +kernel) (da_cons (de_thaw (de_ix hu (dv 0) de_int)) da_nil)) (dv 2)) da_nil)) da_nil)) (da_cons (de_ix hu (dv 0) de_int) da_nil))))))))), ?_⟩
  walk_at "go"
  intro p np
  refine sq ?_
  walk_at "dl"
  have hmany := hM.ok.m
  refine forB_seq (M.map Mn.d) (fun j δ S' => j ≤ M.length ∧ Sub S S' ∧ S' p = some (.lst (((dueL W M).take j).map kdD)) ∧ ∃ o3 o4 o5 o6 o7, δ = [some W.d, some (.tup (M.map Mn.d)), some (.ref p), o3, o4, o5, o6, o7]) ?_ ?_ ?_ ?_
  · exact ⟨Nat.zero_le _, Sub.new np, put_same, none, none, none, none, none, rfl⟩
  · intro j δ S' _ _
    rfl
  · rintro j d δ S' hd ⟨hj, hsub, hp, o3, o4, o5, o6, o7, rfl⟩
    rw [List.getElem?_map] at hd
    cases e : M[j]? with
    | none => rw [e] at hd; cases hd
    | some m =>
      rw [e] at hd
      cases hd
      have hjl : j < M.length := by
        rcases Nat.lt_or_ge j M.length with z | z
        · exact z
        · rw [List.getElem?_eq_none z] at e; cases e
      have hmem : m ∈ M := List.mem_of_getElem? e
      simp only [Mn.d]
      walk_at "dl"
      walk_at "go"
      rw [oIx_many]
      simp only [iD]
      walk_at "dl"
      refine ⟨by omega, ?_⟩
      rw [Int.toNat_natCast]
      intro q nq
      have pq : p ≠ q := fun z => by rw [z, nq] at hp; cases hp
      obtain ⟨l, el⟩ : ∃ l, (wwith W M).kd m.k = some l := Option.isSome_iff_exists.mp (lookup_none.mpr (((wwith_keys hM.m hM.ok.k hM.b).2 _).mpr (.inr ⟨m, hmem, rfl⟩)))
      have efl := wwith_lt hM.m hM.ok.k hM.b el ⟨m, hmem, rfl⟩
      refine lcB_fltA (List.range W.many) iD iD (fun i => decide (i ∈ l)) (fun k acc => rng_J) (by rw [List.length_range]; omega) (fun x acc N hx hN => ?_) (fun x S Y hx y => ?_) ?_
      · walk_at "dl"
        refine ⟨B, Wk, W, M, [], m.k, x, by rw [List.append_nil], by rw [List.append_nil]; exact hM, .inr ⟨m, hmem, rfl⟩, hn, hn4, List.mem_range.mp hx, ?_⟩
        rw [List.append_nil, el]
        walk_at "dl"
        exact hN
      · simp only [iD] at y ⊢
        walk_at "dl"
        exact y
      · rw [efl]
        walk_at "dl"
        have hp2 : put S' q (.lst (l.map iD)) p = some (.lst (((dueL W M).take j).map kdD)) := (put_ne pq).trans hp
        refine ⟨ty_list hp2, ?_⟩
        refine ⟨_, seqAt_ref put_same, ?_⟩
        walk_at "dl"
        refine append_of hp2 (szLt (by rw [List.length_map, List.length_take]; omega)) ?_
        refine ⟨hjl, fun a o ea => ?_, ?_, _, _, _, _, _, rfl⟩
        · have ap : a ≠ p := fun z => by rw [z, np] at ea; cases ea
          have e1 := hsub a o ea
          have aq : a ≠ q := fun z => by rw [z, nq] at e1; cases e1
          rw [put_ne ap, put_ne aq]
          exact e1
        · rw [put_same]
          have hjd : j < (dueL W M).length := by unfold dueL; rw [List.length_map]; exact hjl
          have e5 : (dueL W M).take (j + 1) = (dueL W M).take j ++ [(m.k, l)] := by
            rw [← List.take_append_getElem hjd]
            congr 1
            have e6 : (dueL W M)[j]? = some (m.k, l) := by
              unfold dueL
              rw [List.getElem?_map, e]
              show some (m.k, ((wwith W M).kd m.k).getD []) = _
              rw [el]
              rfl
            rw [List.getElem?_eq_getElem hjd] at e6
            rw [Option.some.inj e6]
          rw [e5, List.map_append]
          rfl
  · rintro δ S' ⟨hj, hsub, hp, o3, o4, o5, o6, o7, rfl⟩
    rw [List.length_map, show M.length = (dueL W M).length from by unfold dueL; rw [List.length_map], List.take_length] at hp
    simp only [Wo.d]
    walk_at "dl"
    intro q nq
    have pq : p ≠ q := fun z => by rw [z, nq] at hp; cases hp
    have hl2 : (dueL W M).length = M.length := by unfold dueL; rw [List.length_map]
    refine ⟨W.kds.map kdD, (dueL W M).map kdD, rfl, (put_ne pq).trans hp, szOk (by rw [List.length_map, List.length_map]; omega), fun q2 nq2 => ?_⟩
    rw [← List.map_append]
    refine sortK_ok (.inr (seqAt_ref put_same)) (by rw [List.length_append]; omega) fun q3 nq3 => ?_
    refine ⟨_, seqAt_ref put_same, ?_⟩
    walk_at "dl"
    rw [wwith_due hM.m hM.ok.k hM.b hsrt]
    obtain ⟨w1, w2, w3, _⟩ := wwith_nms (W := W) (M := M)
    refine ⟨S, ((hsub.trans (Sub.new nq)).trans (Sub.new nq2)).trans (Sub.new nq3), ?_⟩
    unfold Wo.d at h
    rw [w1, w2, w3] at h
    exact h
end
end K72

set_option Elab.async false
set_option maxRecDepth 100000
set_option linter.unusedVariables false
namespace K72
open PySem PySem.Spec PyProof.Rows L2 DL
/-- a comprehension that draws -/
theorem lcB_ch {α β : Type} {J : ItD} {tt : TTD} {te : TED} {i : Nat} {δ : StD} {Q : KD} {q a : Addr} {S1 : Store} (c : List α) (f : α → D) (h : β → D) (Pv : Nat → List β → Prop) (hd : Dk a S1) (nq : S1 q = none) (hz : c.length ≤ 10000)
    (hJ : ∀ k S, Ch a S1 S → J k S = some (c.map f)[k]?) (h0 : Pv 0 [])
    (turn : ∀ (k : Nat) (x : α) (ys : List β) (S : Store) (Y : KD) (N : Store → Prop), c[k]? = some x → Pv k ys → Ch a S1 S → (∀ z S', Ch a S S' → Pv (k + 1) (ys ++ [z]) → Y (h z) S') → (∀ S', Ch a S S' → Pv (k + 1) ys → N S') →
      tt (sto (sto δ i none) i (some (f x))) S fun b S3 => if b = true then te (sto (sto δ i none) i (some (f x))) S3 Y else N S3)
    (done : ∀ ys S, Ch a S1 S → S q = some (.lst (ys.map h)) → Pv c.length ys → ys.length ≤ c.length → Q (.ref q) S) : lcB J (.one i) tt te [i] δ Q q S1 := by
  refine ⟨c.length, fun j S => j ≤ c.length ∧ ∃ ys : List β, ys.length ≤ j ∧ Pv j ys ∧ Ch a S1 S ∧ S q = some (.lst (ys.map h)), ⟨Nat.zero_le _, [], Nat.le_refl _, h0, (Ch.refl hd).new hd nq, put_same⟩, ?_⟩
  rintro j S ⟨hj, ys, hl, hp, hc, hq⟩
  have ej := hJ j S hc
  rw [List.getElem?_map] at ej
  have qa := hd.ne nq
  by_cases hlt : j < c.length
  · refine .inr ⟨f c[j], by rw [ej, List.getElem?_eq_getElem hlt]; rfl, hlt, ?_⟩
    refine turn j c[j] ys S _ _ (List.getElem?_eq_getElem hlt) hp hc (fun z S' c' p' => ?_) fun S' c' p' => ?_
    · have hq' := c'.1 q _ qa hq
      refine ⟨_, hq', by rw [List.length_map]; exact szLt (by omega), hlt, ys ++ [z], by simp; omega, p', ?_, by rw [put_same, List.map_append]; rfl⟩
      exact (hc.trans c').at hd nq
    · exact ⟨hlt, ys, by omega, p', hc.trans c', c'.1 q _ qa hq⟩
  · have e : j = c.length := Nat.le_antisymm hj (Nat.le_of_not_lt hlt)
    subst e
    exact .inl ⟨by rw [ej, List.getElem?_eq_none (Nat.le_refl _)]; rfl, done ys S hc hq hp hl⟩
local macro_rules | `(tactic| walk_at "dl") => `(tactic| try simp only [DL.tAsgD, DL.asg, DL.tVarD, DL.lk, DL.sto, DL.stos, DL.tOpD, DL.tCD, DL.tCallD, DL.tConsD, DL.tNilD, DL.tRetD, DL.endsD, DL.startD, DL.tIfSD, DL.tTestD, DL.tNextD, DL.tDropD, DL.tAndD, DL.tOrD, DL.tNotD, DL.tAndV, DL.tOrV, DL.tNotV, DL.tIfD, DL.tNegD, DL.tTupD, DL.tLstD, DL.tSetD, DL.tMD, DL.tSlD, DL.tPartD, DL.tNoD, DL.tRevD, DL.tForD, DL.tLcD, DL.tIterD, DL.tRng1D, DL.tRng2D, DL.tYesD, DL.wipeD, DL.tDictD, DL.tDictOne, DL.tFldD, DL.tMethD, DL.tMakeD, DL.tSetF, DL.tThaw, DL.thaw, DL.tLRg, DL.keyOf, DL.emE_rr, DL.tLess, DL.tLessS, DL.itOk, DL.rAdd_ii, DL.rAdd_ss, DL.rAdd_tt, DL.rAdd_rr, DL.rSub_ii, DL.rMod_ii, DL.rDiv_ii, DL.rPow_ii, DL.rMul_ii, DL.rMul_ri, DL.rLt_ii, DL.rLt_ss, DL.rLe_ii, DL.rGt_ii, DL.rGe_ii, DL.rEq_ii, DL.rEq_ss, DL.rEq_bb, DL.rNe_ii, DL.rNe_ss, DL.rNe_bb, DL.rEq_rr, DL.rNe_rr, DL.rEq_tt, DL.rNe_tt, DL.rIn_st, DL.rNotIn_st, DL.rIn_r, DL.rNotIn_r, DL.rIn_ss, DL.rInDO_sl, DL.rInDO_il, DL.rInDO_sd, DL.rInDO_id, DL.rIsN_n, DL.rIsN_t, DL.rIsN_i, DL.rIsN_s, DL.rIsN_r, DL.rNotN_n, DL.rNotN_t, DL.rNotN_i, DL.rNotN_s, DL.rNotN_r, DL.rIx_t, DL.rIx_r, DL.rIx_s, DL.rIxDO_l, DL.rIxDO_ds, DL.rIx0, DL.rIx1, DL.rIx2, DL.rIx3, DL.rSl_t, DL.rSl_s, DL.rSl_o, DL.rSl_r, DL.rSlDO, DL.rSet_r, DL.rSetDO_0, DL.rSetDO_s, DL.rLen_t, DL.rLen_o, DL.rLen_s, DL.rLen_r, DL.rLenDO, DL.rLenDO_d, DL.rList_t, DL.rList_o, DL.rList_r, DL.rListDO, DL.rTuple_t, DL.rTuple_r, DL.rInt_i, DL.rInt_b, DL.rMax, DL.rMin, DL.rSz0, DL.rSz1, DL.rSz2, DL.rSz3, DL.rSz4, DL.rSz5, DL.rSz6, DL.rSz7, DL.rSz8, Option.some.injEq, DL.DO.lst.injEq, exists_eq_left', exists_eq_left, DL.put_same, DL.put_put, true_and, and_true, List.map, List.replicate, List.length, List.cons_append, List.nil_append, Nat.reduceSub, Nat.reduceAdd, decide_eq_true_eq, if_true, if_false, Bool.false_eq_true, Bool.not_true, Bool.not_false])
local macro_rules | `(tactic| walk_at "dlh") => `(tactic| try simp only [*, DL.tAsgD, DL.asg, DL.tVarD, DL.lk, DL.sto, DL.stos, DL.tOpD, DL.tCD, DL.tCallD, DL.tConsD, DL.tNilD, DL.tRetD, DL.endsD, DL.startD, DL.tIfSD, DL.tTestD, DL.tNextD, DL.tDropD, DL.tAndD, DL.tOrD, DL.tNotD, DL.tAndV, DL.tOrV, DL.tNotV, DL.tIfD, DL.tNegD, DL.tTupD, DL.tLstD, DL.tSetD, DL.tMD, DL.tSlD, DL.tPartD, DL.tNoD, DL.tRevD, DL.tForD, DL.tLcD, DL.tIterD, DL.tRng1D, DL.tRng2D, DL.tYesD, DL.wipeD, DL.tDictD, DL.tDictOne, DL.tFldD, DL.tMethD, DL.tMakeD, DL.tSetF, DL.tThaw, DL.thaw, DL.tLRg, DL.keyOf, DL.emE_rr, DL.tLess, DL.tLessS, DL.itOk, DL.rAdd_ii, DL.rAdd_ss, DL.rAdd_tt, DL.rAdd_rr, DL.rSub_ii, DL.rMod_ii, DL.rDiv_ii, DL.rPow_ii, DL.rMul_ii, DL.rMul_ri, DL.rLt_ii, DL.rLt_ss, DL.rLe_ii, DL.rGt_ii, DL.rGe_ii, DL.rEq_ii, DL.rEq_ss, DL.rEq_bb, DL.rNe_ii, DL.rNe_ss, DL.rNe_bb, DL.rEq_rr, DL.rNe_rr, DL.rEq_tt, DL.rNe_tt, DL.rIn_st, DL.rNotIn_st, DL.rIn_r, DL.rNotIn_r, DL.rIn_ss, DL.rInDO_sl, DL.rInDO_il, DL.rInDO_sd, DL.rInDO_id, DL.rIsN_n, DL.rIsN_t, DL.rIsN_i, DL.rIsN_s, DL.rIsN_r, DL.rNotN_n, DL.rNotN_t, DL.rNotN_i, DL.rNotN_s, DL.rNotN_r, DL.rIx_t, DL.rIx_r, DL.rIx_s, DL.rIxDO_l, DL.rIxDO_ds, DL.rIx0, DL.rIx1, DL.rIx2, DL.rIx3, DL.rSl_t, DL.rSl_s, DL.rSl_o, DL.rSl_r, DL.rSlDO, DL.rSet_r, DL.rSetDO_0, DL.rSetDO_s, DL.rLen_t, DL.rLen_o, DL.rLen_s, DL.rLen_r, DL.rLenDO, DL.rLenDO_d, DL.rList_t, DL.rList_o, DL.rList_r, DL.rListDO, DL.rTuple_t, DL.rTuple_r, DL.rInt_i, DL.rInt_b, DL.rMax, DL.rMin, DL.rSz0, DL.rSz1, DL.rSz2, DL.rSz3, DL.rSz4, DL.rSz5, DL.rSz6, DL.rSz7, DL.rSz8, Option.some.injEq, DL.DO.lst.injEq, exists_eq_left', exists_eq_left, DL.put_same, DL.put_put, true_and, and_true, List.map, List.replicate, List.length, List.cons_append, List.nil_append, Nat.reduceSub, Nat.reduceAdd, decide_eq_true_eq, if_true, if_false, Bool.false_eq_true, Bool.not_true, Bool.not_false])
local macro_rules | `(tactic| walk_at "go") => `(tactic| repeat (first | (refine DL.sq ?_; try walk_at "dl") | (refine DL.ifY rfl ?_; try walk_at "dl") | (refine DL.inY rfl (by decide) ?_; try walk_at "dl") | (refine DL.inN rfl (by decide) ?_; try walk_at "dl") | (refine DL.ifN (by decide) ?_; try walk_at "dl")))
abbrev s_l_world : Stmt := top 24
theorem sc_l_world : FnScope ["_law_deck_here", "_law_names_here", "_law_kinds_here", "_law_doings", "_law_many", "_law_named", "_law_kept", "_law_kind", "_law_done", "_law_doing", "_law_pairs", "_law_name", "_law_thing_here", "_law_k"] ["_law_deck_here", "_law_names_here", "_law_kinds_here", "_law_doings", "_law_many"] (defScope s_l_world) := ⟨rfl, rfl, rfl, by decide +kernel, rfl, by decide +kernel, by decide +kernel⟩
structure WoDr (W : Wo) (ns ks dos : List Str) (many : Nat) : Prop where
  m : W.many = many
  n : W.nms.map (·.1) = ns
  k : W.kds.map (·.1) = ks
  d : W.dgs.map (·.1) = dos
  nl : ∀ p ∈ W.nms, p.2 < many
  kl : ∀ p ∈ W.kds, p.2.length ≤ many ∧ ∀ i ∈ p.2, i < many
  dl : ∀ p ∈ W.dgs, p.2.length ≤ many * many ∧ ∀ i ∈ p.2, i.1 < many ∧ i.2 < many
def spWorldD : SpD := fun ds S Q => ∃ (a pn pk pd : Addr) (ns ks dos : List Str) (many : Nat), ds = [.ref a, .ref pn, .ref pk, .ref pd, .int (many : Nat)] ∧ Dk a S ∧ Wrds S pn pk pd ns ks dos ∧ 1 ≤ many ∧ many ≤ 9 ∧
  ∀ (W : Wo) (S' : Store), Ch a S S' → WoDr W ns ks dos many → Q W.d S'
theorem listJ {S : Store} {p : Addr} {ds : List D} {k : Nat} (h : S p = some (.lst ds)) : itJ (.ref p) k S = some ds[k]? := by
  show lstJ (S p) k = _
  rw [h]
  rfl
section
variable {P : Program} {w : World} {K : PySem.W.Frag} {mg : Str → Option Value} {base : Heap} {C : Addr}
theorem df_lworld {k : Nat} (T : Bt mg) (A : At K mg "_law_world" "_law_world" s_l_world) (G_l_draw : Df P w K mg base "_law_draw" k spDrawC) : Df P w K mg base "_law_world" (k + 1) spWorldD := by
  have nd := sc_l_world.nd
  refine df_mk A rfl sc_l_world (fun _ _ _ _ _ _ us hl => match us, hl with | [_, _, _, _, _], _ => rfl) (fun ds S Q h => ?_) (fun f cdv A outer s H E hr ds S Q h => ?_)
  · obtain ⟨a, pn, pk, pd, ns, ks, dos, many, rfl, _⟩ := h
    rfl
  obtain ⟨a, pn, pk, pd, ns, ks, dos, many, rfl, hd, hw, h1, h9, h⟩ := h
  have hu := hu_of hr
  have hmm : many * many ≤ 81 := Nat.le_trans (Nat.mul_le_mul h9 h9) (by decide)
  refine ⟨_, (dss_cons (ds_set (i := 5) nd rfl (Or.inl rfl) (de_callTy cd_tupleF rfl T.tuple_ (by decide +kernel) (da_cons (de_lc (own := [("_law_name", 11)]) (g := GD.one 11) rfl nd (di_any (dv 1)) (blkOk_by (own := [("_law_name", 11)]) (N := ["_law_deck_here", "_law_names_here", "_law_kinds_here", "_law_doings", "_law_many", "_law_named", "_law_kept", "_law_kind", "_law_done", "_law_doing", "_law_pairs", "_law_name", "_law_thing_here", "_law_k"]) (sc := defScope s_l_world) (by decide +kernel)) (fun _ _ _ _ _ => (dg_name (i := 11) nd rfl (Or.inl rfl))) (fun _ _ _ _ _ => dts_nil) (fun _ _ _ _ _ => (de_tup (da_cons (dv 11) (da_cons (de_call G_l_draw hr rfl (da_cons (dv 0) (da_cons (dv 4) da_nil))) da_nil))))) da_nil)))
    (dss_cons (ds_set (i := 6) nd rfl (Or.inl rfl) (de_lst da_nil))
    (dss_cons (ds_for PassesOwn.never rfl (di_any (dv 2)) (dg_name (i := 7) nd rfl (Or.inl rfl)) (dss_one (ds_expr (de_m PySem.F.plainAttrs_list PySem.F.slot_list_append PySem.F.type_list_append md_append (dv 6) (da_cons (de_tup (da_cons (dv 7) (da_cons (de_callTy cd_tupleF rfl T.tuple_ (by decide +kernel) (da_cons (de_lc (own := [("_law_thing_here", 12)]) (g := GD.one 12) rfl nd (di_range1 rfl T.range_ (da_cons (dv 4) da_nil)) (blkOk_by (own := [("_law_thing_here", 12)]) (N := ["_law_deck_here", "_law_names_here", "_law_kinds_here", "_law_doings", "_law_many", "_law_named", "_law_kept", "_law_kind", "_law_done", "_law_doing", "_law_pairs", "_law_name", "_law_thing_here", "_law_k"]) (sc := defScope s_l_world) (by decide +kernel)) (fun _ _ _ _ _ => (dg_name (i := 12) nd rfl (Or.inl rfl))) (fun _ _ _ _ _ => (dts_one (dt_cmp (od_eq hr.units) (de_call G_l_draw hr rfl (da_cons (dv 0) (da_cons de_int da_nil))) de_int (nomark _)))) (fun _ _ _ _ _ => (dv 12))) da_nil)) da_nil))) da_nil)))))
    (dss_cons (ds_set (i := 8) nd rfl (Or.inl rfl) (de_lst da_nil))
    (dss_cons (ds_for PassesOwn.never rfl (di_any (dv 3)) (dg_name (i := 9) nd rfl (Or.inl rfl)) (dss_cons (ds_setLc (i := 10) (own := [("_law_k", 13)]) (g := GD.one 13) rfl nd rfl rfl (sw_true rfl rfl rfl (by decide +kernel)) (di_range1 rfl T.range_ (da_cons (de_op od_mul (dv 4) (dv 4)) da_nil)) (blkOk_by (own := [("_law_k", 13)]) (N := ["_law_deck_here", "_law_names_here", "_law_kinds_here", "_law_doings", "_law_many", "_law_named", "_law_kept", "_law_kind", "_law_done", "_law_doing", "_law_pairs", "_law_name", "_law_thing_here", "_law_k"]) (sc := defScope s_l_world) (by decide +kernel)) (fun _ _ _ _ _ => (dg_name (i := 13) nd rfl (Or.inl rfl))) (fun _ _ _ _ _ => (dts_one (dt_cmp (od_eq hr.units) (de_call G_l_draw hr rfl (da_cons (dv 0) (da_cons de_int da_nil))) de_int (nomark _)))) (fun _ _ _ _ _ => (de_tup (da_cons (de_op od_div (dv 13) (dv 4)) (da_cons (de_op od_mod (dv 13) (dv 4)) da_nil)))))
    (dss_one (ds_expr (de_m PySem.F.plainAttrs_list PySem.F.slot_list_append PySem.F.type_list_append md_append (dv 8) (da_cons (de_tup (da_cons (dv 9) (da_cons (de_callTy cd_tupleF rfl T.tuple_ (by decide +kernel) (da_cons (dv 10) da_nil)) da_nil))) da_nil))))))
    (dss_one (ds_ret (de_tup (da_cons (dv 4) (da_cons (dv 5) (da_cons (de_callTy cd_tupleF rfl T.tuple_ (by decide +kernel) (da_cons (dv 6) da_nil)) (da_cons (de_callTy cd_tupleF rfl T.tuple_ (by decide +kernel) (da_cons (dv 8) da_nil)) da_nil)))))))))))), ?_⟩
  walk_at "go"
  refine ⟨⟨_, hw.n⟩, fun q nq => ?_⟩
  refine lcB_ch ns D.str nmD (fun j (ys : List (Str × Nat)) => ys.map (·.1) = ns.take j ∧ ∀ p ∈ ys, p.2 < many) hd nq (by have := hw.ln; omega) (fun k S' c => listJ (c.get hd hw.n)) ⟨rfl, fun p hp => by cases hp⟩ (fun k x ys S' Y N ex hp c yy nn => ?_) (fun yn S2 c2 hq hp hl => ?_)
  · walk_at "dl"
    refine ⟨a, _, rfl, c.2, by omega, by omega, fun r S3 r0 r1 c3 => ?_⟩
    walk_at "dl"
    obtain ⟨m, rfl⟩ : ∃ m : Nat, r = m := ⟨r.toNat, by omega⟩
    have hk : k < ns.length := by
      rcases Nat.lt_or_ge k ns.length with z | z
      · exact z
      · rw [List.getElem?_eq_none z] at ex; cases ex
    refine yy (x, m) S3 c3 ⟨?_, fun p hp2 => ?_⟩
    · rw [List.map_append, hp.1, ← List.take_append_getElem hk]
      rw [List.getElem?_eq_getElem hk] at ex
      cases ex
      rfl
    · rcases List.mem_append.mp hp2 with z | z
      · exact hp.2 p z
      · cases List.mem_singleton.mp z
        show m < many
        omega
  obtain ⟨hn1, hn2⟩ := hp
  rw [List.take_length] at hn1
  walk_at "dl"
  refine ⟨_, seqAt_ref hq, ?_⟩
  walk_at "go"
  intro pkp npk
  have c3 := c2.new (o := .lst []) hd npk
  have pka := c2.2.ne npk
  have w3 := hw.ch hd c3
  refine sq ?_
  walk_at "dl"
  refine ⟨⟨_, w3.k⟩, ?_⟩
  refine forB_seq (ks.map D.str) (fun j δ S' => ∃ (ys : List (Str × List Nat)) (o7 : Option D), δ = [some (.ref a), some (.ref pn), some (.ref pk), some (.ref pd), some (.int (many : Nat)), some (.ftup (yn.map nmD)), some (.ref pkp), o7, none, none, none, none, none, none] ∧
    Ch a S S' ∧ S' pkp = some (.lst (ys.map kdD)) ∧ ys.map (·.1) = ks.take j ∧ ∀ p ∈ ys, p.2.length ≤ many ∧ ∀ i ∈ p.2, i < many) ?_ ?_ ?_ ?_
  · exact ⟨[], none, rfl, c3, put_same, rfl, fun p hp => by cases hp⟩
  · rintro j δ S' _ ⟨ys', o7, rfl, c4, _⟩
    exact listJ (c4.get hd hw.k)
  · rintro j d δ S' hj ⟨ys', o7, rfl, c4, hp4, hk4, hb4⟩
    rw [List.getElem?_map] at hj
    cases e : ks[j]? with
    | none => rw [e] at hj; cases hj
    | some kk =>
      rw [e] at hj
      cases hj
      walk_at "dl"
      refine ⟨ty_list hp4, ?_⟩
      refine ⟨by omega, ?_⟩
      rw [Int.toNat_natCast]
      intro q5 nq5
      refine lcB_ch (List.range many) iD iD (fun j (zs : List Nat) => ∀ i ∈ zs, i < many) c4.2 nq5 (by rw [List.length_range]; omega) (fun k S' c => rng_J) (fun p hp => by cases hp) (fun k x zs S' Y N ex hp c yy nn => ?_) (fun zs S6 c6 hq6 hp6 hl6 => ?_)
      · simp only [iD] at yy ⊢
        walk_at "dl"
        refine ⟨a, _, rfl, c.2, by decide, by decide, fun r S3 r0 r1 c3 => ?_⟩
        walk_at "dl"
        have hx : x < many := by
          have := List.mem_of_getElem? ex
          exact List.mem_range.mp this
        by_cases er : r = 1
        · rw [if_pos er]
          refine yy x S3 c3 fun i hi => ?_
          rcases List.mem_append.mp hi with z | z
          · exact hp i z
          · cases List.mem_singleton.mp z; exact hx
        · rw [if_neg er]
          exact nn S3 c3 hp
      · rw [List.length_range] at hl6
        walk_at "dl"
        refine ⟨_, seqAt_ref hq6, ?_⟩
        walk_at "dl"
        have pq5 : pkp ≠ a := pka
        have hp7 := c6.1 pkp _ pka hp4
        have hjl : j < ks.length := by
          rcases Nat.lt_or_ge j ks.length with z | z
          · exact z
          · rw [List.getElem?_eq_none z] at e; cases e
        have hyl : ys'.length ≤ j := by
          have := congrArg List.length hk4
          rw [List.length_map, List.length_take] at this
          omega
        refine append_of hp7 (szLt (by rw [List.length_map]; have := hw.lk; omega)) ?_
        have c7 : Ch a S (put S6 pkp (.lst (ys'.map kdD ++ [kdD (kk, zs)]))) := (c4.trans c6).at hd (c2.none' hd npk)
        refine ⟨ys' ++ [(kk, zs)], _, rfl, c7, by rw [put_same, List.map_append]; rfl, ?_, fun p hp => ?_⟩
        · rw [List.map_append, hk4, ← List.take_append_getElem hjl]
          rw [List.getElem?_eq_getElem hjl] at e
          cases e
          rfl
        · rcases List.mem_append.mp hp with z | z
          · exact hb4 p z
          · cases List.mem_singleton.mp z
            exact ⟨hl6, hp6⟩
  · rintro δ S3 ⟨yk, o7, rfl, c4, hp4, hk4, hb4⟩
    rw [List.length_map, List.take_length] at hk4
    walk_at "go"
    intro pdp npd
    have c5 := c4.new (o := .lst []) hd npd
    have pda := c4.2.ne npd
    have w5 := hw.ch hd c5
    have hkp5 : put S3 pdp (.lst []) pkp = some (.lst (yk.map kdD)) := by
      rw [put_ne]
      · exact hp4
      · rintro rfl
        rw [npd] at hp4; cases hp4
    refine sq ?_
    walk_at "dl"
    refine ⟨⟨_, w5.d⟩, ?_⟩
    refine forB_seq (dos.map D.str) (fun j δ S' => ∃ (ys : List (Str × List (Nat × Nat))) (o9 o10 : Option D), δ = [some (.ref a), some (.ref pn), some (.ref pk), some (.ref pd), some (.int (many : Nat)), some (.ftup (yn.map nmD)), some (.ref pkp), o7, some (.ref pdp), o9, o10, none, none, none] ∧
      Ch a S S' ∧ S' pkp = some (.lst (yk.map kdD)) ∧ S' pdp = some (.lst (ys.map dgD)) ∧ ys.map (·.1) = dos.take j ∧ ∀ p ∈ ys, p.2.length ≤ many * many ∧ ∀ i ∈ p.2, i.1 < many ∧ i.2 < many) ?_ ?_ ?_ ?_
    · exact ⟨[], none, none, rfl, c5, hkp5, put_same, rfl, fun p hp => by cases hp⟩
    · rintro j δ S' _ ⟨ys', o9, o10, rfl, c6, _⟩
      exact listJ (c6.get hd hw.d)
    · rintro j d δ S' hj ⟨ys', o9, o10, rfl, c6, hpk6, hpd6, hk6, hb6⟩
      rw [List.getElem?_map] at hj
      cases e : dos[j]? with
      | none => rw [e] at hj; cases hj
      | some dd =>
        rw [e] at hj
        cases hj
        walk_at "go"
        refine ⟨.inl (by omega), by omega, ?_⟩
        rw [show ((many : Int) * (many : Int)).toNat = many * many from by rw [← Int.natCast_mul, Int.toNat_natCast]]
        intro q5 nq5
        refine lcB_ch (List.range (many * many)) iD ppD (fun j (zs : List (Nat × Nat)) => ∀ i ∈ zs, i.1 < many ∧ i.2 < many) c6.2 nq5 (by rw [List.length_range]; omega) (fun k S' c => rng_J) (fun p hp => by cases hp) (fun k x zs S' Y N ex hp c yy nn => ?_) (fun zs S6 c7 hq6 hp6 hl6 => ?_)
        · simp only [iD] at yy ⊢
          walk_at "dl"
          refine ⟨a, _, rfl, c.2, by decide, by decide, fun r S3 r0 r1 c3 => ?_⟩
          walk_at "dl"
          have hx : x < many * many := by
            have := List.mem_of_getElem? ex
            exact List.mem_range.mp this
          by_cases er : r = 1
          · rw [if_pos er]
            refine ⟨⟨by omega, by omega⟩, by omega, ?_⟩
            refine yy (x / many, x % many) S3 c3 fun i hi => ?_
            rcases List.mem_append.mp hi with z | z
            · exact hp i z
            · cases List.mem_singleton.mp z
              exact ⟨Nat.div_lt_of_lt_mul hx, Nat.mod_lt _ (by omega)⟩
          · rw [if_neg er]
            exact nn S3 c3 hp
        · rw [List.length_range] at hl6
          have hpk7 := c7.1 pkp _ pka hpk6
          have hpd7 := c7.1 pdp _ pda hpd6
          walk_at "dl"
          refine ⟨ty_list hpd7, ?_⟩
          refine ⟨_, seqAt_ref hq6, ?_⟩
          walk_at "dl"
          have hjl : j < dos.length := by
            rcases Nat.lt_or_ge j dos.length with z | z
            · exact z
            · rw [List.getElem?_eq_none z] at e; cases e
          have hyl : ys'.length ≤ j := by
            have := congrArg List.length hk6
            rw [List.length_map, List.length_take] at this
            omega
          refine append_of hpd7 (szLt (by rw [List.length_map]; have := hw.ld; omega)) ?_
          have c8 : Ch a S (put S6 pdp (.lst (ys'.map dgD ++ [dgD (dd, zs)]))) := (c6.trans c7).at hd (c4.none' hd npd)
          have kd : pkp ≠ pdp := by
            rintro rfl
            rw [npd] at hp4; cases hp4
          refine ⟨ys' ++ [(dd, zs)], _, _, rfl, c8, (put_ne kd).trans hpk7, by rw [put_same, List.map_append]; rfl, ?_, fun p hp => ?_⟩
          · rw [List.map_append, hk6, ← List.take_append_getElem hjl]
            rw [List.getElem?_eq_getElem hjl] at e
            cases e
            rfl
          · rcases List.mem_append.mp hp with z | z
            · exact hb6 p z
            · cases List.mem_singleton.mp z
              exact ⟨hl6, hp6⟩
    · rintro δ S9 ⟨yd, o9, o10, rfl, c9, hpk9, hpd9, hk9, hb9⟩
      rw [List.length_map, List.take_length] at hk9
      walk_at "dl"
      refine ⟨_, seqAt_ref hpk9, _, seqAt_ref hpd9, ?_⟩
      exact ⟨S9, Sub.refl, h ⟨many, yn, yk, yd⟩ S9 c9 ⟨rfl, hn1, hk4, hk9, hn2, hb4, hb9⟩⟩
end
end K72

set_option Elab.async false
set_option maxRecDepth 100000
set_option linter.unusedVariables false
namespace K72
open PySem PySem.Spec PyProof.Rows L2 DL
/-! a form over the meanings holds in the world with these just where it holds unfolded -/
/-- all bound letters are such -/
def Fm.bd (L : Str → Prop) : Fm → Prop
  | .is _ _ => True
  | .does _ _ _ => True
  | .same _ _ => True
  | .neg f => f.bd L
  | .bin _ f g => f.bd L ∧ g.bd L
  | .qu _ x f => L x ∧ f.bd L
theorem Fm.bd.imp {L L' : Str → Prop} (l : ∀ s, L s → L' s) : ∀ {F : Fm}, F.bd L → F.bd L'
  | .is _ _, _ => trivial
  | .does _ _ _, _ => trivial
  | .same _ _, _ => trivial
  | .neg f, h => Fm.bd.imp (F := f) l h
  | .bin _ f g, h => ⟨Fm.bd.imp (F := f) l h.1, Fm.bd.imp (F := g) l h.2⟩
  | .qu _ _ f, h => ⟨l _ h.1, Fm.bd.imp (F := f) l h.2⟩
theorem sub_bd {x t : Str} {L : Str → Prop} : ∀ {F : Fm}, F.bd L → (sub x t F).bd L
  | .is _ _, _ => trivial
  | .does _ _ _, _ => trivial
  | .same _ _, _ => trivial
  | .neg f, h => sub_bd (F := f) h
  | .bin _ f g, h => ⟨sub_bd (F := f) h.1, sub_bd (F := g) h.2⟩
  | .qu _ y f, h => by
    unfold sub
    split
    · exact h
    · exact ⟨h.1, sub_bd (F := f) h.2⟩
theorem unf_bd {f : Kn} {L : Str → Prop} (hk : ∀ k y g, f k = some (y, g) → g.bd L) : ∀ {F : Fm}, F.bd L → (unf f F).bd L
  | .is a k, h => by
    cases e : f k with
    | none => rw [unf_is_none e]; trivial
    | some p => obtain ⟨y, g⟩ := p; rw [unf_is_some e]; exact sub_bd (hk _ _ _ e)
  | .does _ _ _, _ => trivial
  | .same _ _, _ => trivial
  | .neg F, h => unf_bd (F := F) hk h
  | .bin _ F G, h => ⟨unf_bd (F := F) hk h.1, unf_bd (F := G) hk h.2⟩
  | .qu _ _ F, h => ⟨h.1, unf_bd (F := F) hk h.2⟩
theorem bput_val {W : Wo} {b : Bd} {x s : Str} {i : Nat} : val W (bput b x i) s = if s = x then i else val W b s := by
  unfold val bput
  by_cases c : s = x
  · rw [if_pos c, if_pos c]; rfl
  · rw [if_neg c, if_neg c]
theorem bput_same {b : Bd} {x : Str} {i j : Nat} : bput (bput b x i) x j = bput b x j := by
  funext s
  unfold bput
  by_cases d : s = x
  · rw [if_pos d, if_pos d]
  · rw [if_neg d, if_neg d, if_neg d]
theorem bput_comm {b : Bd} {x y : Str} {i j : Nat} (c : y ≠ x) : bput (bput b x i) y j = bput (bput b y j) x i := by
  funext s
  unfold bput
  by_cases d : s = y
  · rw [if_pos d, if_neg (fun z => c (d.symm.trans z)), if_pos d]
  · rw [if_neg d, if_neg d]
/-- what holds hangs on the terms alone -/
theorem ev_cl {W : Wo} : ∀ (F : Fm) (b b' : Bd) (sc : Str → Prop), F.cl sc → (∀ s, sc s → val W b s = val W b' s) → ev W b F = ev W b' F := by
  intro F
  induction F with
  | is t k => intro b b' sc h v; unfold ev; rw [v t h]
  | does d x y => intro b b' sc h v; unfold ev; rw [v x h.1, v y h.2]
  | same x y => intro b b' sc h v; unfold ev; rw [v x h.1, v y h.2]
  | neg f ih => intro b b' sc h v; unfold ev; rw [ih b b' sc h v]
  | bin w f g ihf ihg => intro b b' sc h v; cases w <;> unfold ev <;> rw [ihf b b' sc h.1 v, ihg b b' sc h.2 v]
  | qu w x f ih =>
    intro b b' sc h v
    have step : ∀ i, ev W (bput b x i) f = ev W (bput b' x i) f := fun i => ih _ _ _ h fun s hs => by
      rw [bput_val, bput_val]
      by_cases c : s = x
      · rw [if_pos c, if_pos c]
      · rw [if_neg c, if_neg c]; exact v s (hs.resolve_right c)
    cases w <;> unfold ev <;> exact congrArg _ (funext step)
/-- a term put for a letter -/
theorem ev_put {W : Wo} {x a : Str} : ∀ (g : Fm) (b : Bd), g.bd (fun s => s ≠ a) → ev W b (sub x a g) = ev W (bput b x (val W b a)) g := by
  have vs : ∀ (b : Bd) (t : Str), val W b (sb x a t) = val W (bput b x (val W b a)) t := fun b t => by
    rw [bput_val]
    unfold sb
    by_cases c : t = x
    · rw [if_pos c, if_pos c]
    · rw [if_neg c, if_neg c]
  intro g
  induction g with
  | is t k => intro b h; show ev W b (.is (sb x a t) k) = _; unfold ev; rw [vs]
  | does d s t => intro b h; show ev W b (.does d (sb x a s) (sb x a t)) = _; unfold ev; rw [vs, vs]
  | same s t => intro b h; show ev W b (.same (sb x a s) (sb x a t)) = _; unfold ev; rw [vs, vs]
  | neg f ih => intro b h; show ev W b (.neg (sub x a f)) = _; unfold ev; rw [ih b h]
  | bin w f g ihf ihg => intro b h; show ev W b (.bin w (sub x a f) (sub x a g)) = _; cases w <;> unfold ev <;> rw [ihf b h.1, ihg b h.2]
  | qu w y f ih =>
    intro b h
    by_cases c : y = x
    · subst c
      rw [sub_qu_eq]
      cases w <;> unfold ev <;> simp only [bput_same]
    · rw [sub_qu_ne c]
      have step : ∀ j, ev W (bput b y j) (sub x a f) = ev W (bput (bput b x (val W b a)) y j) f := fun j => by
        rw [ih (bput b y j) h.2, bput_comm c, bput_val, if_neg (fun z => h.1 z.symm)]
      cases w <;> unfold ev <;> exact congrArg _ (funext step)
theorem unf_cl {f : Kn} {N : Str → Prop} (hk : ∀ k x g, f k = some (x, g) → g.cl fun s => s = x ∨ N s) : ∀ {F : Fm} {sc : Str → Prop}, (∀ s, N s → sc s) → F.cl sc → (unf f F).cl sc
  | .is a k, sc, hN, h => by
    cases e : f k with
    | none => rw [unf_is_none e]; exact h
    | some p =>
      obtain ⟨x, g⟩ := p
      rw [unf_is_some e]
      refine (cl_sub (n := a) (hk _ _ _ e)).imp fun s hs => ?_
      rcases hs with ⟨hs, hx⟩ | rfl
      · exact hN s (hs.resolve_left hx)
      · exact h
  | .does _ _ _, sc, hN, h => h
  | .same _ _, sc, hN, h => h
  | .neg F, sc, hN, h => unf_cl (F := F) hk hN h
  | .bin _ F G, sc, hN, h => ⟨unf_cl (F := F) hk hN h.1, unf_cl (F := G) hk hN h.2⟩
  | .qu _ _ F, sc, hN, h => unf_cl (F := F) (sc := fun s => sc s ∨ s = _) hk (fun s hs => .inl (hN s hs)) h
theorem ev_unf {W W' : Wo} {f : Kn} {L : Str → Prop} (hm : W'.many = W.many) (hn : W'.nms = W.nms) (hd : W'.dgs = W.dgs) (hlt : ∀ s i, W.nm s = some i → i < W.many)
    (H1 : ∀ k x g, f k = some (x, g) → (g.cl fun s => s = x ∨ (W.nm s).isSome = true) ∧ g.bd L ∧ ∀ v, v < W.many → ev W (bput (fun _ => none) x v) g = decide (v ∈ (W'.kd k).getD [])) (H2 : ∀ k, f k = none → W'.kd k = W.kd k) :
    ∀ (F : Fm) (b : Bd), F.ok (fun s => ¬ L s) (fun _ => True) (fun _ => True) → F.bd (fun s => W.nm s = none) → F.cl (fun s => (b s).isSome = true ∨ (W.nm s).isSome = true) → (∀ s i, b s = some i → i < W.many) → (∀ s, (W.nm s).isSome = true → b s = none) →
      ev W b (unf f F) = ev W' b F := by
  have vW : ∀ b s, val W' b s = val W b s := fun b s => by unfold val Wo.nm; rw [hn]
  intro F
  induction F with
  | is a k =>
    intro b ok bd cl lt nn
    cases e : f k with
    | none =>
      rw [unf_is_none e]
      unfold ev
      rw [vW, H2 k e]
    | some p =>
      obtain ⟨x, g⟩ := p
      obtain ⟨h1, h2, h3⟩ := H1 k x g e
      have hv : val W b a < W.many := by
        unfold val
        cases e : b a with
        | some i => exact lt a i e
        | none =>
          have cl' : (b a).isSome = true ∨ (W.nm a).isSome = true := cl
          rw [e] at cl'
          cases e2 : W.nm a with
          | none => rw [e2] at cl'; simp at cl'
          | some i => exact hlt a i e2
      rw [unf_is_some e, ev_put g b (h2.imp fun s hs (z : s = a) => (show ¬ L a from ok.1) (z ▸ hs))]
      show _ = decide (val W' b a ∈ _)
      rw [vW, ← h3 _ hv]
      refine ev_cl g _ _ _ h1 fun s hs => ?_
      rw [bput_val, bput_val]
      by_cases c : s = x
      · rw [if_pos c, if_pos c]
      · rw [if_neg c, if_neg c]
        unfold val
        rw [nn s (hs.resolve_left c)]
  | does d x y => intro b ok bd cl lt nn; show ev W b (.does d x y) = _; unfold ev Wo.dg; rw [vW, vW, hd]
  | same x y => intro b ok bd cl lt nn; show ev W b (.same x y) = _; unfold ev; rw [vW, vW]
  | neg f ih => intro b ok bd cl lt nn; show ev W b (.neg (unf _ f)) = _; unfold ev; rw [ih b ok bd cl lt nn]
  | bin w f g ihf ihg =>
    intro b ok bd cl lt nn
    show ev W b (.bin w (unf _ f) (unf _ g)) = _
    cases w <;> unfold ev <;> rw [ihf b ok.1 bd.1 cl.1 lt nn, ihg b ok.2 bd.2 cl.2 lt nn]
  | qu w x f ih =>
    intro b ok bd cl lt nn
    show ev W b (.qu w x (unf _ f)) = _
    have step : ∀ i, i < W.many → ev W (bput b x i) (unf _ f) = ev W' (bput b x i) f := fun i hi => by
      refine ih (bput b x i) ok.2 bd.2 (Fm.cl.imp (F := f) (fun s hs => ?_) cl) (fun s j e => ?_) (fun s hs => ?_)
      · unfold bput
        by_cases c : s = x
        · rw [if_pos c]; exact .inl rfl
        · rw [if_neg c]; exact hs.resolve_right c
      · unfold bput at e
        split at e
        · cases e; exact hi
        · exact lt s j e
      · unfold bput
        rw [if_neg]
        · exact nn s hs
        · rintro rfl
          rw [bd.1] at hs; cases hs
    have fc : ∀ (p q : Nat → Bool) (l : List Nat), (∀ i ∈ l, p i = q i) → l.all p = l.all q ∧ l.any p = l.any q := by
      intro p q l hl
      induction l with
      | nil => exact ⟨rfl, rfl⟩
      | cons i l ih =>
        obtain ⟨a, b⟩ := ih fun j hj => hl j (List.mem_cons_of_mem _ hj)
        simp only [List.all_cons, List.any_cons]
        rw [hl i List.mem_cons_self, a, b]
        exact ⟨rfl, rfl⟩
    have := fc _ _ (List.range W.many) fun i hi => step i (List.mem_range.mp hi)
    cases w <;> unfold ev <;> rw [hm]
    · exact this.1
    · exact this.2
/-- letters with a mark below n -/
abbrev Lm (n : Nat) (s : Str) : Prop := ∃ j, j < n ∧ mkS j s
theorem mkS_inj {i j : Nat} {s : Str} (h : mkS i s) (g : mkS j s) : i = j := by
  obtain ⟨c, _, e⟩ := h
  obtain ⟨c', _, e'⟩ := g
  rw [e] at e'
  have := (List.cons.inj (List.cons.inj e').2).1
  omega
theorem nmS_notMk {j : Nat} {s : Str} (h : nmS s) (g : mkS j s) : False := mkS_notTm (n := 0) g (Nat.zero_le _) (.inl h)
structure GM (W : Wo) (M : List Mn) : Prop where
  nm : ∀ s, (W.nm s).isSome = true → nmS s
  m : ∀ i m, M[i]? = some m → mkS i m.x ∧ m.g.bd (mkS i) ∧ m.g.ok (fun s => (W.nm s).isSome = true ∨ mkS i s) (fun _ => True) (fun _ => True)
theorem GM.prefix {W : Wo} {M N : List Mn} (h : GM W (M ++ N)) : GM W M := ⟨h.nm, fun i m e => h.m i m (by
  have hi : i < M.length := by
    rcases Nat.lt_or_ge i M.length with z | z
    · exact z
    · rw [List.getElem?_eq_none z] at e; cases e
  rw [List.getElem?_append_left hi]; exact e)⟩
section
variable {B Wk : Str → Prop} {W : Wo}
theorem wwith_none {M : List Mn} (h : MOk B Wk M) (hn : (W.kds.map (·.1)).Nodup) (hB : ∀ s, s ∈ W.kds.map (·.1) ↔ B s) : ∀ k, knOf M k = none → (wwith W M).kd k = W.kd k := by
  intro k hk
  by_cases b : B k
  · exact wwith_kd_app (M := []) (N := M) h hn hB k (.inl b)
  · have nk : ¬ keys M k := fun z => by
      obtain ⟨x, g, e, _⟩ := h.known k z
      rw [hk] at e; cases e
    have e1 : (wwith W M).kd k = none := by
      cases e : (wwith W M).kd k with
      | none => rfl
      | some l =>
        have := ((wwith_keys h hn hB).2 k).mp (lookup_none.mp (show ((wwith W M).kds.lookup k).isSome = true by show ((wwith W M).kd k).isSome = true; rw [e]; rfl))
        exact (this.elim b nk).elim
    have e2 : W.kd k = none := by
      cases e : W.kd k with
      | none => rfl
      | some l =>
        exact absurd ((hB k).mp (lookup_none.mp (show (W.kds.lookup k).isSome = true by show (W.kd k).isSome = true; rw [e]; rfl))) b
    rw [e1, e2]
theorem kn_things {M : List Mn} (h : MOk B Wk M) (hn : (W.kds.map (·.1)).Nodup) (hB : ∀ s, s ∈ W.kds.map (·.1) ↔ B s) (hcl : ∀ m ∈ M, m.g.cl fun s => s = m.x ∨ (W.nm s).isSome = true) (hlt : ∀ s i, W.nm s = some i → i < W.many) (g : GM W M) :
    ∀ k x G, knOf M k = some (x, G) → (G.cl fun s => s = x ∨ (W.nm s).isSome = true) ∧ G.bd (Lm M.length) ∧ ∀ v, v < W.many → ev W (bput (fun _ => none) x v) G = decide (v ∈ ((wwith W M).kd k).getD []) := by
  induction M using rev_ind with
  | h0 => intro k x G e; cases e
  | h1 N n ih =>
    have h' : MOk B Wk N := h.prefix
    have IH := ih h' (fun m hm => hcl m (List.mem_append_left _ hm)) g.prefix
    intro k x G e
    rw [knOf_snoc] at e
    by_cases ek : k = n.k
    · subst ek
      rw [kstep_at] at e
      cases e
      obtain ⟨g1, g2, g3⟩ := g.m N.length n (by simp)
      have hcn := hcl n (by simp)
      have nmx : ∀ s, mkS N.length s → W.nm s = none := fun s hs => by
        cases e : W.nm s with
        | none => rfl
        | some i => exact (nmS_notMk (g.nm s (by rw [e]; rfl)) hs).elim
      refine ⟨unf_cl (fun k x G e => (IH k x G e).1) (fun s hs => .inr hs) hcn, unf_bd (fun k x G e => (IH k x G e).2.1.imp fun s ⟨j, a, b⟩ => ⟨j, by simp; omega, b⟩) (g2.imp fun s hs => ⟨N.length, by simp, hs⟩), fun v hv => ?_⟩
      obtain ⟨w1, w2, w3, _⟩ := wwith_nms (W := W) (M := N)
      rw [ev_unf (W' := wwith W N) w2 w1 w3 hlt IH (wwith_none h' hn hB) n.g (bput (fun _ => none) n.x v) (g3.imp (fun s hs z => ?_) (fun _ z => z) (fun _ z => z)) (g2.imp nmx) (hcn.imp fun s hs => ?_) (fun s i e => ?_) (fun s hs => ?_)]
      · have e1 := wwith_kd_at (M := N) (N := []) (m := n) h hn hB
        rw [e1]
        show _ = decide (v ∈ things (wwith W N) n)
        unfold things
        rw [Bool.eq_iff_iff, decide_eq_true_eq, List.mem_filter, List.mem_range, w2]
        exact ⟨fun z => ⟨hv, z⟩, fun z => z.2⟩
      · obtain ⟨j, hj, hm⟩ := z
        rcases hs with hs | hs
        · exact nmS_notMk (g.nm s hs) hm
        · have := mkS_inj hs hm; omega
      · unfold bput
        by_cases c : s = n.x
        · rw [if_pos c]; exact .inl rfl
        · exact .inr (hs.resolve_left c)
      · unfold bput at e
        split at e
        · cases e; exact hv
        · cases e
      · unfold bput
        rw [if_neg]
        rintro rfl
        rw [nmx _ g1] at hs; cases hs
    · rw [kstep_ne ek] at e
      obtain ⟨q1, q2, q3⟩ := IH k x G e
      refine ⟨q1, q2.imp fun s ⟨j, a, b⟩ => ⟨j, by simp; omega, b⟩, fun v hv => ?_⟩
      rw [q3 v hv, wwith_kd_app h hn hB k (.inr (h'.dom e).1)]
/-- the law: what holds with the meanings put in, and unfolded -/
theorem ev_world {M : List Mn} (hM : WM B Wk W M) (g : GM W M) (F : Fm) (h1 : F.ok (fun s => (W.nm s).isSome = true ∨ ltS s) (fun _ => True) (fun _ => True)) (h2 : F.bd ltS) (h3 : F.cl fun s => (W.nm s).isSome = true) :
    ev W (fun _ => none) (unf (knOf M) F) = ev (wwith W M) (fun _ => none) F := by
  obtain ⟨w1, w2, w3, _⟩ := wwith_nms (W := W) (M := M)
  refine ev_unf (L := Lm M.length) w2 w1 w3 hM.lt (kn_things hM.m hM.ok.k hM.b hM.cl hM.lt g) (wwith_none hM.m hM.ok.k hM.b) F _ (h1.imp (fun s hs z => ?_) (fun _ z => z) fun _ z => z) (h2.imp fun s hs => ?_) (h3.imp fun s hs => .inr hs) (fun s i e => by cases e) (fun _ _ => rfl)
  · obtain ⟨j, hj, hm⟩ := z
    rcases hs with hs | hs
    · exact nmS_notMk (g.nm s hs) hm
    · exact ltS_notTm hs (.inr ⟨j, hj, hm⟩)
  · cases e : W.nm s with
    | none => rfl
    | some i => exact (ltS_notTm (n := 0) hs (.inl (g.nm s (by rw [e]; rfl)))).elim
end
end K72

set_option Elab.async false
set_option maxRecDepth 100000
set_option linter.unusedVariables false
namespace K72
open PySem PySem.Spec PyProof.Rows L2 DL
local macro_rules | `(tactic| walk_at "dl") => `(tactic| try simp only [DL.tAsgD, DL.asg, DL.tVarD, DL.lk, DL.sto, DL.stos, DL.tOpD, DL.tCD, DL.tCallD, DL.tConsD, DL.tNilD, DL.tRetD, DL.endsD, DL.startD, DL.tIfSD, DL.tTestD, DL.tNextD, DL.tDropD, DL.tAndD, DL.tOrD, DL.tNotD, DL.tAndV, DL.tOrV, DL.tNotV, DL.tIfD, DL.tNegD, DL.tTupD, DL.tLstD, DL.tSetD, DL.tMD, DL.tSlD, DL.tPartD, DL.tNoD, DL.tRevD, DL.tForD, DL.tLcD, DL.tIterD, DL.tRng1D, DL.tRng2D, DL.tYesD, DL.wipeD, DL.tDictD, DL.tDictOne, DL.tFldD, DL.tMethD, DL.tMakeD, DL.tSetF, DL.tThaw, DL.thaw, DL.tLRg, DL.keyOf, DL.emE_rr, DL.tLess, DL.tLessS, DL.itOk, DL.rAdd_ii, DL.rAdd_ss, DL.rAdd_tt, DL.rAdd_rr, DL.rSub_ii, DL.rMod_ii, DL.rDiv_ii, DL.rPow_ii, DL.rMul_ii, DL.rMul_ri, DL.rLt_ii, DL.rLt_ss, DL.rLe_ii, DL.rGt_ii, DL.rGe_ii, DL.rEq_ii, DL.rEq_ss, DL.rEq_bb, DL.rNe_ii, DL.rNe_ss, DL.rNe_bb, DL.rEq_rr, DL.rNe_rr, DL.rEq_tt, DL.rNe_tt, DL.rIn_st, DL.rNotIn_st, DL.rIn_r, DL.rNotIn_r, DL.rIn_ss, DL.rInDO_sl, DL.rInDO_il, DL.rInDO_sd, DL.rInDO_id, DL.rIsN_n, DL.rIsN_t, DL.rIsN_i, DL.rIsN_s, DL.rIsN_r, DL.rNotN_n, DL.rNotN_t, DL.rNotN_i, DL.rNotN_s, DL.rNotN_r, DL.rIx_t, DL.rIx_r, DL.rIx_s, DL.rIxDO_l, DL.rIxDO_ds, DL.rIx0, DL.rIx1, DL.rIx2, DL.rIx3, DL.rSl_t, DL.rSl_s, DL.rSl_o, DL.rSl_r, DL.rSlDO, DL.rSet_r, DL.rSetDO_0, DL.rSetDO_s, DL.rLen_t, DL.rLen_o, DL.rLen_s, DL.rLen_r, DL.rLenDO, DL.rLenDO_d, DL.rList_t, DL.rList_o, DL.rList_r, DL.rListDO, DL.rTuple_t, DL.rTuple_r, DL.rInt_i, DL.rInt_b, DL.rMax, DL.rMin, DL.rSz0, DL.rSz1, DL.rSz2, DL.rSz3, DL.rSz4, DL.rSz5, DL.rSz6, DL.rSz7, DL.rSz8, Option.some.injEq, DL.DO.lst.injEq, exists_eq_left', exists_eq_left, DL.put_same, DL.put_put, true_and, and_true, List.map, List.replicate, List.length, List.cons_append, List.nil_append, Nat.reduceSub, Nat.reduceAdd, decide_eq_true_eq, if_true, if_false, Bool.false_eq_true, Bool.not_true, Bool.not_false])
local macro_rules | `(tactic| walk_at "dlh") => `(tactic| try simp only [*, DL.tAsgD, DL.asg, DL.tVarD, DL.lk, DL.sto, DL.stos, DL.tOpD, DL.tCD, DL.tCallD, DL.tConsD, DL.tNilD, DL.tRetD, DL.endsD, DL.startD, DL.tIfSD, DL.tTestD, DL.tNextD, DL.tDropD, DL.tAndD, DL.tOrD, DL.tNotD, DL.tAndV, DL.tOrV, DL.tNotV, DL.tIfD, DL.tNegD, DL.tTupD, DL.tLstD, DL.tSetD, DL.tMD, DL.tSlD, DL.tPartD, DL.tNoD, DL.tRevD, DL.tForD, DL.tLcD, DL.tIterD, DL.tRng1D, DL.tRng2D, DL.tYesD, DL.wipeD, DL.tDictD, DL.tDictOne, DL.tFldD, DL.tMethD, DL.tMakeD, DL.tSetF, DL.tThaw, DL.thaw, DL.tLRg, DL.keyOf, DL.emE_rr, DL.tLess, DL.tLessS, DL.itOk, DL.rAdd_ii, DL.rAdd_ss, DL.rAdd_tt, DL.rAdd_rr, DL.rSub_ii, DL.rMod_ii, DL.rDiv_ii, DL.rPow_ii, DL.rMul_ii, DL.rMul_ri, DL.rLt_ii, DL.rLt_ss, DL.rLe_ii, DL.rGt_ii, DL.rGe_ii, DL.rEq_ii, DL.rEq_ss, DL.rEq_bb, DL.rNe_ii, DL.rNe_ss, DL.rNe_bb, DL.rEq_rr, DL.rNe_rr, DL.rEq_tt, DL.rNe_tt, DL.rIn_st, DL.rNotIn_st, DL.rIn_r, DL.rNotIn_r, DL.rIn_ss, DL.rInDO_sl, DL.rInDO_il, DL.rInDO_sd, DL.rInDO_id, DL.rIsN_n, DL.rIsN_t, DL.rIsN_i, DL.rIsN_s, DL.rIsN_r, DL.rNotN_n, DL.rNotN_t, DL.rNotN_i, DL.rNotN_s, DL.rNotN_r, DL.rIx_t, DL.rIx_r, DL.rIx_s, DL.rIxDO_l, DL.rIxDO_ds, DL.rIx0, DL.rIx1, DL.rIx2, DL.rIx3, DL.rSl_t, DL.rSl_s, DL.rSl_o, DL.rSl_r, DL.rSlDO, DL.rSet_r, DL.rSetDO_0, DL.rSetDO_s, DL.rLen_t, DL.rLen_o, DL.rLen_s, DL.rLen_r, DL.rLenDO, DL.rLenDO_d, DL.rList_t, DL.rList_o, DL.rList_r, DL.rListDO, DL.rTuple_t, DL.rTuple_r, DL.rInt_i, DL.rInt_b, DL.rMax, DL.rMin, DL.rSz0, DL.rSz1, DL.rSz2, DL.rSz3, DL.rSz4, DL.rSz5, DL.rSz6, DL.rSz7, DL.rSz8, Option.some.injEq, DL.DO.lst.injEq, exists_eq_left', exists_eq_left, DL.put_same, DL.put_put, true_and, and_true, List.map, List.replicate, List.length, List.cons_append, List.nil_append, Nat.reduceSub, Nat.reduceAdd, decide_eq_true_eq, if_true, if_false, Bool.false_eq_true, Bool.not_true, Bool.not_false])
local macro_rules | `(tactic| walk_at "go") => `(tactic| repeat (first | (refine DL.sq ?_; try walk_at "dl") | (refine DL.ifY rfl ?_; try walk_at "dl") | (refine DL.inY rfl (by decide) ?_; try walk_at "dl") | (refine DL.inN rfl (by decide) ?_; try walk_at "dl") | (refine DL.ifN (by decide) ?_; try walk_at "dl")))
theorem cl_leaf {T K W : Str → Prop} : ∀ {F : Fm}, F.ok T K W → F.ht = 1 → F.cl T ∧ ∀ L, F.bd L
  | .is _ _, h, _ => ⟨h.1, fun _ => trivial⟩
  | .does _ _ _, h, _ => ⟨h.2, fun _ => trivial⟩
  | .same _ _, h, _ => ⟨h, fun _ => trivial⟩
  | .neg f, _, e => by have := f.ht_pos; simp only [Fm.ht] at e; omega
  | .bin _ f g, _, e => by have := f.ht_pos; simp only [Fm.ht] at e; omega
  | .qu _ _ f, _, e => by have := f.ht_pos; simp only [Fm.ht] at e; omega
/-- a letter with its mark -/
def Mk (mark s : Str) : Prop := ∃ c, chLt c ∧ s = (⟨#[c]⟩ : Str) ++ mark
def spFormC (n : Nat) : SpD := fun ds S Q => ∃ (TT : Str → Prop) (a pn pk pd pl : Addr) (ns ks dos ls : List Str) (deep : Nat) (mark : Str), ds = [.ref a, wrds pn pk pd, .ref pl, .int (deep : Nat), .str mark] ∧ Dk a S ∧ Wrds S pn pk pd ns ks dos ∧ S pl = some (.lst (ls.map D.str)) ∧
  ls.length + deep + emp (ns ++ ls) ≤ 60 ∧ deep + emp (ns ++ ls) < n ∧ (∀ x ∈ ns, TT x) ∧ (∀ x ∈ ls, TT x) ∧ (∀ c, chLt c → TT ((⟨#[c]⟩ : Str) ++ mark)) ∧ mark.length ≤ 5 ∧
  ∀ (F : Fm) (S' : Store), Ch a S S' → F.ok TT (· ∈ ks) (· ∈ dos) → F.cl (fun s => s ∈ ns ∨ s ∈ ls) → F.bd (Mk mark) → F.ht ≤ deep + 1 + emp (ns ++ ls) → F.sz + 1 ≤ 2 ^ (deep + 1) + emp (ns ++ ls) → Q F.d S'
section
variable {P : Program} {w : World} {K : PySem.W.Frag} {mg : Str → Option Value} {base : Heap}
theorem df_formC {k : Nat} (T : Bt mg) (A : At K mg "_law_form" "_law_form" s_l_form) (Gd : Df P w K mg base "_law_draw" k spDrawC) (Gl : Df P w K mg base "_law_leaf" k spLeaf) (n : Nat) : Df P w K mg base "_law_form" (k + n + 1) (spFormC n) := by
  have nd := sc_l_form.nd
  induction n with
  | zero =>
    refine df_mk A rfl sc_l_form (fun _ _ _ _ _ _ us hl => match us, hl with | [_, _, _, _, _], _ => rfl) (fun ds S Q h => ?_) (fun f cdv A outer s H E hr ds S Q h => ?_)
    · obtain ⟨TT, a, pn, pk, pd, pl, ns, ks, dos, ls, deep, mark, rfl, _⟩ := h
      rfl
    · obtain ⟨TT, a, pn, pk, pd, pl, ns, ks, dos, ls, deep, mark, rfl, _, _, _, _, h, _⟩ := h
      omega
  | succ n G_l_form =>
  have G_l_draw := Gd.mono (show k ≤ k + n + 1 by omega)
  have G_l_leaf := Gl.mono (show k ≤ k + n + 1 by omega)
  refine df_mk A rfl sc_l_form (fun _ _ _ _ _ _ us hl => match us, hl with | [_, _, _, _, _], _ => rfl) (fun ds S Q h => ?_) (fun f cdv A outer s H E hr ds S Q h => ?_)
  · obtain ⟨TT, a, pn, pk, pd, pl, ns, ks, dos, ls, deep, mark, rfl, _⟩ := h
    rfl
  obtain ⟨TT, a, pn, pk, pd, pl, ns, ks, dos, ls, deep, mark, rfl, hd, hw, hl, hz, hn, hTn, hTl, hTm, hm, h⟩ := h
  have hu := hu_of hr
  refine ⟨_, (dss_cons (ds_set (i := 5) nd rfl (Or.inl rfl) (de_call G_l_draw hr rfl (da_cons (dv 0) (da_cons de_int da_nil))))
    (dss_cons (ds_set (i := 6) nd rfl (Or.inl rfl) (de_op od_add (de_ix hu (dv 1) de_int) (dv 2)))
    (dss_cons (ds_if (dt_w (dw_or (dt_w (dw_and (dt_cmp od_gt (dv 3) de_int (nomark _)) (dw_and1 (dt_cmp od_gt (dv 5) de_int (nomark _))))) (dw_or1 (dt_cmp (od_eqE hr.units) (dv 6) (de_lst da_nil) (nomark _))))) (dss_cons (ds_set (i := 7) nd rfl (Or.inr rfl) (de_op od_add (de_ix hu de_str (de_call G_l_draw hr rfl (da_cons (dv 0) (da_cons de_int da_nil)))) (dv 4)))
    (dss_cons (ds_set (i := 8) nd rfl (Or.inl rfl) (de_op od_add (de_lc (own := [("_law_one", 9)]) (g := GD.one 9) rfl nd (di_any (dv 2)) (blkOk_by (own := [("_law_one", 9)]) (N := ["_law_deck_here", "_law_words", "_law_letters", "_law_deep", "_law_mark", "_law_way", "_law_terms", "_law_x", "_law_inner", "_law_one"]) (sc := defScope s_l_form) (by decide +kernel)) (fun _ _ _ _ _ => (dg_name (i := 9) nd rfl (Or.inl rfl))) (fun _ _ _ _ _ => (dts_one (dt_cmp (od_ne hr.units) (dv 9) (dv 7) (nomark _)))) (fun _ _ _ _ _ => (dv 9))) (de_lst (da_cons (dv 7) da_nil))))
    (dss_one (ds_ret (de_tup (da_cons (de_ix hu (de_lst (da_cons de_str (da_cons de_str da_nil))) (de_op od_mod (dv 5) de_int)) (da_cons (dv 7) (da_cons (de_call G_l_form hr rfl (da_cons (dv 0) (da_cons (dv 1) (da_cons (dv 8) (da_cons (de_callB (cd_max2 rfl) rfl T.max_ (by decide +kernel) (da_cons de_int (da_cons (de_op od_sub (dv 3) de_int) da_nil))) (da_cons (dv 4) da_nil)))))) da_nil)))))))) dss_nil)
    (dss_cons (ds_if (dt_w (dw_or (dt_cmp (od_eq hr.units) (dv 3) de_int (nomark _)) (dw_or1 (dt_cmp od_lt (dv 5) de_int (nomark _))))) (dss_one (ds_ret (de_call G_l_leaf hr rfl (da_cons (dv 0) (da_cons (dv 1) (da_cons (dv 6) da_nil)))))) dss_nil)
    (dss_cons (ds_set (i := 9) nd rfl (Or.inl rfl) (de_call G_l_form hr rfl (da_cons (dv 0) (da_cons (dv 1) (da_cons (dv 2) (da_cons (de_op od_sub (dv 3) de_int) (da_cons (dv 4) da_nil)))))))
    (dss_cons (ds_if (dt_cmp (od_eq hr.units) (dv 5) de_int (nomark _)) (dss_one (ds_ret (de_tup (da_cons de_str (da_cons (dv 9) da_nil))))) dss_nil)
    (dss_one (ds_ret (de_tup (da_cons (de_ix hu (de_lst (da_cons de_str (da_cons de_str (da_cons de_str da_nil)))) (de_op od_mod (dv 5) de_int)) (da_cons (dv 9) (da_cons (de_call G_l_form hr rfl (da_cons (dv 0) (da_cons (dv 1) (da_cons (dv 2) (da_cons (de_op od_sub (dv 3) de_int) (da_cons (dv 4) da_nil)))))) da_nil)))))))))))), ?_⟩
  walk_at "go"
  refine ⟨a, _, rfl, hd, by decide, by decide, fun r S1 r0 r1 c1 => ?_⟩
  walk_at "go"
  have w1 := hw.ch hd c1
  refine ⟨_, _, w1.n, c1.get hd hl, szOk (by rw [List.length_map, List.length_map]; have := hw.ln; omega), fun pt npt => ?_⟩
  have c2 := c1.new (o := .lst (ns.map D.str ++ ls.map D.str)) hd npt
  rw [← List.map_append] at c2 ⊢
  have ht2 : put S1 pt (.lst ((ns ++ ls).map D.str)) pt = some (.lst ((ns ++ ls).map D.str)) := put_same
  generalize put S1 pt (.lst ((ns ++ ls).map D.str)) = S2 at c2 ht2
  have q2 : 1 ≤ 2 ^ deep := Nat.one_le_two_pow
  have q3 : 2 ^ (deep + 1) = 2 * 2 ^ deep := by rw [Nat.pow_succ]; omega
  refine seq_if (fun S3 => Ch a S S3 ∧ (0 < deep ∨ emp (ns ++ ls) = 1)) (fun S3 => Ch a S S3 ∧ S3 pt = some (.lst ((ns ++ ls).map D.str)) ∧ emp (ns ++ ls) = 0) (fun N N1 N2 => ?_) ?_ ?_
  · walk_at "dl"
    have last : ∀ e, S2 e = none → ∃ xs, put S2 e (DO.lst []) pt = some (.lst xs) ∧ N (id xs.isEmpty) (put S2 e (.lst [])) := by
      intro e ne
      have c3 := c2.new (o := .lst []) hd ne
      have ee : pt ≠ e := fun z => by rw [z, ne] at ht2; cases ht2
      refine ⟨_, (put_ne ee).trans ht2, ?_⟩
      cases e3 : (ns ++ ls).isEmpty with
      | true =>
        have e4 : ((ns ++ ls).map D.str).isEmpty = true := by simpa using e3
        rw [e4]
        exact N1 _ ⟨c3, .inr (emp_1 e3)⟩
      | false =>
        have e4 : ((ns ++ ls).map D.str).isEmpty = false := by simpa using e3
        rw [e4]
        exact N2 _ ⟨c3, (put_ne ee).trans ht2, emp_0 e3⟩
    refine ite2 (fun e1 => ite2 (fun e2 => ?_) (fun e2 => ?_)) (fun e1 => ?_)
    · exact N1 _ ⟨c2, .inl (by omega)⟩
    · exact last
    · exact last
  · rintro S3 ⟨c3, hor⟩
    walk_at "go"
    refine ⟨a, _, rfl, c3.2, by decide, by decide, fun r2 S4 g0 g1 c4' => ?_⟩
    have c4 := c3.trans c4'
    walk_at "dl"
    refine ixS (s := "uvwxyz") chLt (by decide +kernel) (by decide +kernel) g0 (by rw [show ("uvwxyz" : Str).length = 6 from by decide +kernel]; exact g1) fun ch hch => ?_
    walk_at "dl"
    refine ⟨szOk (by rw [show (⟨#[ch]⟩ : Str).length = 1 from rfl]; omega), ?_⟩
    have hx := hTm ch hch
    have hxm : Mk mark ((⟨#[ch]⟩ : Str) ++ mark) := ⟨ch, hch, rfl⟩
    generalize (⟨#[ch]⟩ : Str) ++ mark = x at hx hxm
    walk_at "go"
    have hl4 := c4.get hd hl
    refine ⟨⟨_, hl4⟩, fun q nq => ?_⟩
    have hne : pl ≠ q := fun z => by rw [z, nq] at hl4; cases hl4
    refine lcB_flt ls (fun y => !decide (y = x)) (fun k acc => ?_) (by omega) (fun y acc N hN => ?_) (fun y S Y yy => ?_) ?_
    · show lstJ (put S4 q (.lst acc) pl) k = _
      rw [put_ne hne, hl4]
      rfl
    · walk_at "dl"
      exact hN
    · walk_at "dl"
      exact yy
    · have c5 := c4.new (o := .lst ((ls.filter fun y => !decide (y = x)).map D.str)) hd nq
      walk_at "dl"
      intro q2 nq2
      have c6 := c5.new (o := .lst [.str x]) hd nq2
      have hne2 : q ≠ q2 := fun z => by rw [z, put_same] at nq2; cases nq2
      refine ⟨_, _, (put_ne hne2).trans put_same, rfl, szOk (by have := List.length_filter_le (fun y => !decide (y = x)) ls; simp; omega), fun pi npi => ?_⟩
      have c7 := c6.new (o := .lst ((ls.filter fun y => !decide (y = x)).map D.str ++ [.str x])) hd npi
      walk_at "go"
      intro q3 nq3
      have c8 := c7.new (o := .lst [.str "every", .str "some"]) hd nq3
      have hne3 : pi ≠ q3 := fun z => by rw [z, put_same] at nq3; cases nq3
      refine ⟨by decide, ?_⟩
      refine ixStrs_mem (xs := ["every", "some"]) (by omega) (by simp; omega) fun ww hww => ?_
      walk_at "dl"
      have ed : (if (deep : Int) - 1 > 0 then (deep : Int) - 1 else 0) = ((deep - 1 : Nat) : Int) := by split <;> omega
      rw [ed]
      have elen : (ls.filter fun y => !decide (y = x)).length ≤ ls.length := List.length_filter_le _ _
      refine ⟨TT, a, pn, pk, pd, pi, ns, ks, dos, (ls.filter fun y => !decide (y = x)) ++ [x], deep - 1, mark, rfl, c8.2, hw.ch hd c8, ?_, ?_, ?_, hTn, ?_, hTm, hm, fun F S9 c9 ok9 cl9 bd9 ht9 sz9 => ?_⟩
      · rw [put_ne hne3, put_same, List.map_append]
        rfl
      · rw [emp_snoc, List.length_append, List.length_singleton]
        rcases hor with e | e
        · omega
        · omega
      · rw [emp_snoc]
        rcases hor with e | e <;> omega
      · intro y hy
        rcases List.mem_append.mp hy with hy | hy
        · exact hTl y ((List.mem_filter.mp hy).1)
        · cases List.mem_singleton.mp hy; exact hx
      · walk_at "dl"
        rw [emp_snoc] at ht9 sz9
        have c10 := c8.trans c9
        have fin : ∀ w2 : Q2, ∃ S'', DL.Sub S'' S9 ∧ Q (.tup [.str w2.s, .str x, F.d]) S'' := fun w2 => by
          refine ⟨S9, Sub.refl, h (.qu w2 x F) S9 c10 ⟨hx, ok9⟩ (show F.cl _ from cl9.imp fun s hs => ?_) ⟨hxm, bd9⟩ ?_ ?_⟩
          · rcases hs with hs | hs
            · exact .inl (.inl hs)
            · rcases List.mem_append.mp hs with hs | hs
              · exact .inl (.inr (List.mem_filter.mp hs).1)
              · exact .inr (List.mem_singleton.mp hs)
          · simp only [Fm.ht]
            rcases hor with e | e <;> omega
          · simp only [Fm.sz]
            rcases Nat.eq_zero_or_pos deep with e0 | e0
            · subst e0
              rcases hor with e | e
              · omega
              · simp at sz9 ⊢
                omega
            · have e5 : deep - 1 + 1 = deep := by omega
              rw [e5] at sz9
              omega
        simp only [List.mem_cons, List.not_mem_nil, or_false] at hww
        rcases hww with rfl | rfl
        · exact fin .every
        · exact fin .some
  rintro S3 ⟨c3, ht3, he⟩
  have hne : ns ++ ls ≠ [] := fun z => by rw [z] at he; simp [emp] at he
  rw [he] at h hn hz
  walk_at "dl"
  refine seq_if (fun S4 => S4 = S3) (fun S4 => S4 = S3 ∧ 0 < deep) (fun N N1 N2 => ?_) ?_ ?_
  · walk_at "dl"
    refine ite2 (fun e1 => ?_) (fun e1 => ?_)
    · exact N1 _ rfl
    · by_cases e2 : r < 3
      · rw [decide_eq_true e2]; exact N1 _ rfl
      · rw [decide_eq_false e2]; exact N2 _ ⟨rfl, by simp at e1; omega⟩
  · rintro S4 rfl
    walk_at "dl"
    refine ⟨a, pn, pk, pd, pt, ns, ks, dos, ns ++ ls, rfl, c3.2, hw.ch hd c3, ht3, hne, by rw [List.length_append]; have := hw.ln; omega, fun F S5 c5 ok5 ht5 sz5 => ?_⟩
    refine ⟨S5, Sub.refl, h F S5 (c3.trans c5) (ok5.imp (fun s hs => ?_) (fun _ z => z) fun _ z => z) ((cl_leaf ok5 ht5).1.imp fun s hs => List.mem_append.mp hs) ((cl_leaf ok5 ht5).2 _) (by omega) (by omega)⟩
    rcases List.mem_append.mp hs with hs | hs
    · exact hTn s hs
    · exact hTl s hs
  rintro S4 ⟨rfl, hdp⟩
  have ed : (deep : Int) - 1 = ((deep - 1 : Nat) : Int) := by omega
  have e5 : deep - 1 + 1 = deep := by omega
  walk_at "go"
  rw [ed]
  refine ⟨TT, a, pn, pk, pd, pl, ns, ks, dos, ls, deep - 1, mark, rfl, c3.2, hw.ch hd c3, c3.get hd hl, by rw [he]; omega, by rw [he]; omega, hTn, hTl, hTm, hm, fun F S5 c5 ok5 cl5 bd5 ht5 sz5 => ?_⟩
  rw [he, e5] at ht5 sz5
  walk_at "go"
  refine ite2 (fun e1 => ?_) (fun e1 => ?_)
  · walk_at "dl"
    refine ⟨S5, Sub.refl, h (.neg F) S5 (c3.trans c5) ok5 cl5 bd5 (by simp only [Fm.ht]; omega) (by simp only [Fm.sz]; omega)⟩
  walk_at "dl"
  have c5' := c3.trans c5
  intro q3 nq3
  have c6 := c5'.new (o := .lst [.str "and", .str "or", .str "if"]) hd nq3
  refine ⟨by decide, ?_⟩
  refine ixStrs_mem (xs := ["and", "or", "if"]) (by omega) (by simp; omega) fun ww hww => ?_
  walk_at "dl"
  rw [ed]
  refine ⟨TT, a, pn, pk, pd, pl, ns, ks, dos, ls, deep - 1, mark, rfl, c6.2, hw.ch hd c6, c6.get hd hl, by rw [he]; omega, by rw [he]; omega, hTn, hTl, hTm, hm, fun F2 S7 c7 ok7 cl7 bd7 ht7 sz7 => ?_⟩
  rw [he, e5] at ht7 sz7
  walk_at "dl"
  have c8 := c6.trans c7
  have fin : ∀ w2 : J3, ∃ S'', DL.Sub S'' S7 ∧ Q (.tup [.str w2.s, F.d, F2.d]) S'' := fun w2 =>
    ⟨S7, Sub.refl, h (.bin w2 F F2) S7 c8 ⟨ok5, ok7⟩ ⟨cl5, cl7⟩ ⟨bd5, bd7⟩ (by simp only [Fm.ht]; omega) (by simp only [Fm.sz]; omega)⟩
  simp only [List.mem_cons, List.not_mem_nil, or_false] at hww
  rcases hww with rfl | rfl | rfl
  · exact fin .and
  · exact fin .or
  · exact fin .if
end
end K72

set_option Elab.async false
set_option maxRecDepth 100000
set_option linter.unusedVariables false
namespace DL
open PySem PySem.Spec PyProof.Rows L2
theorem cutL_from {α : Type} {xs : List α} {j : Nat} : cutL xs (some (j : Int)) none = xs.drop j := by
  unfold cutL
  rw [HT.sIx_nat, HT.sIx_none]
  by_cases h : j ≤ xs.length
  · rw [Nat.min_eq_left h, List.take_of_length_le (by rw [List.length_drop]; omega)]
  · rw [Nat.min_eq_right (by omega), List.drop_length, List.drop_eq_nil_of_le (by omega)]; simp
theorem cutL_to {α : Type} {xs : List α} {j : Nat} : cutL xs none (some (j : Int)) = xs.take j := by
  unfold cutL
  rw [HT.sIx_nat, HT.sIx_none, List.drop_zero]
  by_cases h : j ≤ xs.length
  · rw [Nat.min_eq_left h]; simp
  · rw [Nat.min_eq_right (by omega), List.take_of_length_le (by omega), List.take_of_length_le (by omega)]
theorem cutL_sub {α : Type} {xs : List α} {lo hi : Option Int} : (cutL xs lo hi).Sublist xs := (List.take_sublist _ _).trans (List.drop_sublist _ _)
end DL
namespace K72
open PySem PySem.Spec PyProof.Rows L2 DL
local macro_rules | `(tactic| walk_at "dl") => `(tactic| try simp only [DL.tAsgD, DL.asg, DL.tVarD, DL.lk, DL.sto, DL.stos, DL.tOpD, DL.tCD, DL.tCallD, DL.tConsD, DL.tNilD, DL.tRetD, DL.endsD, DL.startD, DL.tIfSD, DL.tTestD, DL.tNextD, DL.tDropD, DL.tAndD, DL.tOrD, DL.tNotD, DL.tAndV, DL.tOrV, DL.tNotV, DL.tIfD, DL.tNegD, DL.tTupD, DL.tLstD, DL.tSetD, DL.tMD, DL.tSlD, DL.tPartD, DL.tNoD, DL.tRevD, DL.tForD, DL.tLcD, DL.tIterD, DL.tRng1D, DL.tRng2D, DL.tYesD, DL.wipeD, DL.tDictD, DL.tDictOne, DL.tFldD, DL.tMethD, DL.tMakeD, DL.tSetF, DL.tThaw, DL.thaw, DL.tLRg, DL.keyOf, DL.emE_rr, DL.tLess, DL.tLessS, DL.itOk, DL.rAdd_ii, DL.rAdd_ss, DL.rAdd_tt, DL.rAdd_rr, DL.rSub_ii, DL.rMod_ii, DL.rDiv_ii, DL.rPow_ii, DL.rMul_ii, DL.rMul_ri, DL.rLt_ii, DL.rLt_ss, DL.rLe_ii, DL.rGt_ii, DL.rGe_ii, DL.rEq_ii, DL.rEq_ss, DL.rEq_bb, DL.rNe_ii, DL.rNe_ss, DL.rNe_bb, DL.rEq_rr, DL.rNe_rr, DL.rEq_tt, DL.rNe_tt, DL.rIn_st, DL.rNotIn_st, DL.rIn_r, DL.rNotIn_r, DL.rIn_ss, DL.rInDO_sl, DL.rInDO_il, DL.rInDO_sd, DL.rInDO_id, DL.rIsN_n, DL.rIsN_t, DL.rIsN_i, DL.rIsN_s, DL.rIsN_r, DL.rNotN_n, DL.rNotN_t, DL.rNotN_i, DL.rNotN_s, DL.rNotN_r, DL.rIx_t, DL.rIx_r, DL.rIx_s, DL.rIxDO_l, DL.rIxDO_ds, DL.rIx0, DL.rIx1, DL.rIx2, DL.rIx3, DL.rSl_t, DL.rSl_s, DL.rSl_o, DL.rSl_r, DL.rSlDO, DL.rSet_r, DL.rSetDO_0, DL.rSetDO_s, DL.rLen_t, DL.rLen_o, DL.rLen_s, DL.rLen_r, DL.rLenDO, DL.rLenDO_d, DL.rList_t, DL.rList_o, DL.rList_r, DL.rListDO, DL.rTuple_t, DL.rTuple_r, DL.rInt_i, DL.rInt_b, DL.rMax, DL.rMin, DL.rSz0, DL.rSz1, DL.rSz2, DL.rSz3, DL.rSz4, DL.rSz5, DL.rSz6, DL.rSz7, DL.rSz8, Option.some.injEq, DL.DO.lst.injEq, exists_eq_left', exists_eq_left, DL.put_same, DL.put_put, true_and, and_true, List.map, List.replicate, List.length, List.cons_append, List.nil_append, Nat.reduceSub, Nat.reduceAdd, decide_eq_true_eq, if_true, if_false, Bool.false_eq_true, Bool.not_true, Bool.not_false])
local macro_rules | `(tactic| walk_at "dlh") => `(tactic| try simp only [*, DL.tAsgD, DL.asg, DL.tVarD, DL.lk, DL.sto, DL.stos, DL.tOpD, DL.tCD, DL.tCallD, DL.tConsD, DL.tNilD, DL.tRetD, DL.endsD, DL.startD, DL.tIfSD, DL.tTestD, DL.tNextD, DL.tDropD, DL.tAndD, DL.tOrD, DL.tNotD, DL.tAndV, DL.tOrV, DL.tNotV, DL.tIfD, DL.tNegD, DL.tTupD, DL.tLstD, DL.tSetD, DL.tMD, DL.tSlD, DL.tPartD, DL.tNoD, DL.tRevD, DL.tForD, DL.tLcD, DL.tIterD, DL.tRng1D, DL.tRng2D, DL.tYesD, DL.wipeD, DL.tDictD, DL.tDictOne, DL.tFldD, DL.tMethD, DL.tMakeD, DL.tSetF, DL.tThaw, DL.thaw, DL.tLRg, DL.keyOf, DL.emE_rr, DL.tLess, DL.tLessS, DL.itOk, DL.rAdd_ii, DL.rAdd_ss, DL.rAdd_tt, DL.rAdd_rr, DL.rSub_ii, DL.rMod_ii, DL.rDiv_ii, DL.rPow_ii, DL.rMul_ii, DL.rMul_ri, DL.rLt_ii, DL.rLt_ss, DL.rLe_ii, DL.rGt_ii, DL.rGe_ii, DL.rEq_ii, DL.rEq_ss, DL.rEq_bb, DL.rNe_ii, DL.rNe_ss, DL.rNe_bb, DL.rEq_rr, DL.rNe_rr, DL.rEq_tt, DL.rNe_tt, DL.rIn_st, DL.rNotIn_st, DL.rIn_r, DL.rNotIn_r, DL.rIn_ss, DL.rInDO_sl, DL.rInDO_il, DL.rInDO_sd, DL.rInDO_id, DL.rIsN_n, DL.rIsN_t, DL.rIsN_i, DL.rIsN_s, DL.rIsN_r, DL.rNotN_n, DL.rNotN_t, DL.rNotN_i, DL.rNotN_s, DL.rNotN_r, DL.rIx_t, DL.rIx_r, DL.rIx_s, DL.rIxDO_l, DL.rIxDO_ds, DL.rIx0, DL.rIx1, DL.rIx2, DL.rIx3, DL.rSl_t, DL.rSl_s, DL.rSl_o, DL.rSl_r, DL.rSlDO, DL.rSet_r, DL.rSetDO_0, DL.rSetDO_s, DL.rLen_t, DL.rLen_o, DL.rLen_s, DL.rLen_r, DL.rLenDO, DL.rLenDO_d, DL.rList_t, DL.rList_o, DL.rList_r, DL.rListDO, DL.rTuple_t, DL.rTuple_r, DL.rInt_i, DL.rInt_b, DL.rMax, DL.rMin, DL.rSz0, DL.rSz1, DL.rSz2, DL.rSz3, DL.rSz4, DL.rSz5, DL.rSz6, DL.rSz7, DL.rSz8, Option.some.injEq, DL.DO.lst.injEq, exists_eq_left', exists_eq_left, DL.put_same, DL.put_put, true_and, and_true, List.map, List.replicate, List.length, List.cons_append, List.nil_append, Nat.reduceSub, Nat.reduceAdd, decide_eq_true_eq, if_true, if_false, Bool.false_eq_true, Bool.not_true, Bool.not_false])
local macro_rules | `(tactic| walk_at "go") => `(tactic| repeat (first | (refine DL.sq ?_; try walk_at "dl") | (refine DL.ifY rfl ?_; try walk_at "dl") | (refine DL.inY rfl (by decide) ?_; try walk_at "dl") | (refine DL.inN rfl (by decide) ?_; try walk_at "dl") | (refine DL.ifN (by decide) ?_; try walk_at "dl")))
abbrev s_l_words_drawn : Stmt := top 22
theorem sc_l_words_drawn : FnScope ["_law_deck_here", "_law_most", "_law_words", "_law_doings", "_law_kinds_here", "_law_word_here"] ["_law_deck_here", "_law_most"] (defScope s_l_words_drawn) := ⟨rfl, rfl, rfl, by decide +kernel, rfl, by decide +kernel, by decide +kernel⟩
abbrev s_l_meanings : Stmt := top 23
theorem sc_l_meanings : FnScope ["_law_deck_here", "_law_words", "_law_fresh", "_law_wide", "_law_names_here", "_law_kinds_here", "_law_doings", "_law_meanings_here", "_law_many", "_law_k", "_law_x", "_law_told", "_law_deep", "_law_there", "_law_meaning"] ["_law_deck_here", "_law_words", "_law_fresh", "_law_wide"] (defScope s_l_meanings) := ⟨rfl, rfl, rfl, by decide +kernel, rfl, by decide +kernel, by decide +kernel⟩
def spWordsDrawn : SpD := fun ds S Q => ∃ (a : Addr), ds = [.ref a, .int 3] ∧ Dk a S ∧
  ∀ (p1 p2 p3 p4 : Addr) (ns ks dos fr : List Str) (S' : Store), Ch a S S' → Wrds S' p1 p2 p3 ns ks dos → S' p4 = some (.lst (fr.map D.str)) → fr.length = 6 → fr.Nodup → ns.length ≤ 3 → (∀ x ∈ ns, nmS x) → (∀ x ∈ ks, Wd x) → (∀ x ∈ dos, Wd x) → (∀ x ∈ fr, Wd x ∧ x ∉ ks) → ks.length ≤ 14 → ns.Nodup → ks.Nodup → sortedS ks = true → dos.Nodup →
    Q (.tup [.ref p1, .ref p2, .ref p3, .ref p4]) S'
def pz (M : List Mn) : Nat := M.foldl (fun n m => n * m.g.sz) 1
theorem pz_snoc {M : List Mn} {m : Mn} : pz (M ++ [m]) = pz M * m.g.sz := by unfold pz; rw [List.foldl_append]; rfl
theorem hs_snoc {M : List Mn} {m : Mn} : hs (M ++ [m]) = hs M + m.g.ht := by unfold hs; simp
/-- what a meaning's form is made of -/
def MC (ns : List Str) (M : List Mn) : Prop := ∀ i m, M[i]? = some m → mkS i m.x ∧ m.g.bd (mkS i) ∧ m.g.ok (fun s => s ∈ ns ∨ mkS i s) (fun _ => True) (fun _ => True) ∧ m.g.cl (fun s => s = m.x ∨ s ∈ ns)
theorem MC.snoc {ns : List Str} {M : List Mn} {m : Mn} (h : MC ns M) (q : mkS M.length m.x ∧ m.g.bd (mkS M.length) ∧ m.g.ok (fun s => s ∈ ns ∨ mkS M.length s) (fun _ => True) (fun _ => True) ∧ m.g.cl (fun s => s = m.x ∨ s ∈ ns)) : MC ns (M ++ [m]) := fun i n e => by
  rcases Nat.lt_trichotomy i M.length with z | z | z
  · rw [List.getElem?_append_left z] at e; exact h i n e
  · subst z
    rw [List.getElem?_append_right (Nat.le_refl _), Nat.sub_self] at e
    cases e
    exact q
  · rw [List.getElem?_eq_none (by rw [List.length_append, List.length_singleton]; omega)] at e; cases e
def spMeaningsC : SpD := fun ds S Q => ∃ (a pn pk pd pf : Addr) (ns ks dos fr : List Str) (far : Bool), ds = [.ref a, wrds pn pk pd, .ref pf, .bl far] ∧ Dk a S ∧ Wrds S pn pk pd ns ks dos ∧ S pf = some (.lst (fr.map D.str)) ∧ fr.length = 6 ∧ fr.Nodup ∧ (∀ x ∈ fr, x ∉ ks) ∧ (∀ x ∈ ns, nmS x) ∧
  ns.length ≤ 3 ∧ ks.length ≤ 14 ∧
  ∀ (M : List Mn) (S' : Store), Ch a S S' → MOk (· ∈ ks) (· ∈ dos) M → M.length ≤ 6 → hs M ≤ 23 → pz M ≤ 2401 → (∀ k, keys M k → k ∈ fr) → MC ns M → Q (.tup (M.map Mn.d)) S'
section
variable {P : Program} {w : World} {K : PySem.W.Frag} {mg : Str → Option Value} {base : Heap}
theorem df_words_drawn {k : Nat} (T : Bt mg) (A : At K mg "_law_words_drawn" "_law_words_drawn" s_l_words_drawn) (G_l_draw : Df P w K mg base "_law_draw" k spDrawC) (G_l_names : Df P w K mg base "_law_names" k spNames) (G_l_kinds : Df P w K mg base "_law_kinds" k spKinds) :
    Df P w K mg base "_law_words_drawn" (k + 1) spWordsDrawn := by
  have nd := sc_l_words_drawn.nd
  refine df_mk A rfl sc_l_words_drawn (fun _ _ _ _ _ _ us hl => match us, hl with | [_, _], _ => rfl) (fun ds S Q h => ?_) (fun f cdv A outer s H E hr ds S Q h => ?_)
  · obtain ⟨a, rfl, _⟩ := h
    rfl
  obtain ⟨a, rfl, hd, h⟩ := h
  have hu := hu_of hr
  refine ⟨_, (dss_cons (ds_set (i := 2) nd rfl (Or.inl rfl) (de_call G_l_kinds hr rfl (da_cons (dv 0) (da_cons (de_op od_add (de_op od_add de_int (de_call G_l_draw hr rfl (da_cons (dv 0) (da_cons (dv 1) da_nil)))) de_int) da_nil))))
    (dss_cons (ds_set (i := 3) nd rfl (Or.inr rfl) (de_callB cd_sorted rfl T.sorted_ (by decide +kernel) (da_cons (de_slice (de_slice (dv 2) (do_some de_int) (do_some (de_op od_add de_int (de_call G_l_draw hr rfl (da_cons (dv 0) (da_cons (de_op od_sub (de_callB cd_len rfl T.len_ (by decide +kernel) (da_cons (dv 2) da_nil)) de_int) da_nil)))))) do_none (do_some (de_call G_l_draw hr rfl (da_cons (dv 0) (da_cons de_int da_nil))))) da_nil)))
    (dss_cons (ds_set (i := 4) nd rfl (Or.inl rfl) (de_callB cd_sorted rfl T.sorted_ (by decide +kernel) (da_cons (de_lc (own := [("_law_word_here", 5)]) (g := GD.one 5) rfl nd (di_any (de_slice (dv 2) (do_some de_int) do_none)) (blkOk_by (own := [("_law_word_here", 5)]) (N := ["_law_deck_here", "_law_most", "_law_words", "_law_doings", "_law_kinds_here", "_law_word_here"]) (sc := defScope s_l_words_drawn) (by decide +kernel)) (fun _ _ _ _ _ => (dg_name (i := 5) nd rfl (Or.inl rfl))) (fun _ _ _ _ _ => (dts_one (dt_cmp (od_notIn hu) (dv 5) (dv 3) rfl))) (fun _ _ _ _ _ => (dv 5))) da_nil)))
    (dss_one (ds_ret (de_tup (da_cons (de_callB cd_sorted rfl T.sorted_ (by decide +kernel) (da_cons (de_call G_l_names hr rfl (da_cons (dv 0) (da_cons (de_call G_l_draw hr rfl (da_cons (dv 0) (da_cons de_int da_nil))) da_nil))) da_nil)) (da_cons (dv 4) (da_cons (dv 3) (da_cons (de_slice (dv 2) do_none (do_some de_int)) da_nil)))))))))), ?_⟩
  walk_at "go"
  refine ⟨a, _, rfl, hd, by decide, by decide, fun r S1 r0 r1 c1 => ?_⟩
  walk_at "dl"
  obtain ⟨m, hm⟩ : ∃ m : Nat, 1 + r + 6 = m := ⟨(1 + r + 6).toNat, by omega⟩
  rw [hm]
  refine ⟨a, m, rfl, c1.2, by omega, fun W pw S2 c2' npw hW hlen hnd hWd => ?_⟩
  have c2 := c1.trans c2'
  have pwa : pw ≠ a := c2.2.strs hW
  walk_at "go"
  rw [hW]
  walk_at "dl"
  rw [List.length_map]
  refine ⟨a, _, rfl, c2.2, by omega, by omega, fun r2 S3 g0 g1 c3' => ?_⟩
  have c3 := c2.trans c3'
  walk_at "dl"
  rw [c3'.1 pw _ pwa hW]
  walk_at "dl"
  rw [cutL_map]
  intro q1 nq1
  have c4' := c3'.new (o := .lst ((cutL W (some 6) (some (7 + r2))).map D.str)) c2.2 nq1
  refine ⟨a, _, rfl, c4'.2, by decide, by decide, fun r3 S5 k0 k1 c5'' => ?_⟩
  have c5' := c4'.trans c5''
  have hq1 : S5 q1 = some (.lst ((cutL W (some 6) (some (7 + r2))).map D.str)) := c5''.1 q1 _ (c3'.2.ne nq1) put_same
  walk_at "dl"
  rw [hq1]
  walk_at "dl"
  rw [cutL_map]
  intro q2 nq2
  have hdl : (cutL (cutL W (some 6) (some (7 + r2))) none (some r3)).length ≤ 14 := Nat.le_trans cutL_le (Nat.le_trans cutL_le (by omega))
  refine ⟨_, seqAt_ref put_same, by rw [List.length_map]; omega, .inl ⟨_, strsOf_of _, fun dos p3 perm dsort np3 => ?_⟩⟩
  have hdW : ∀ x ∈ dos, Wd x := fun x hx => hWd x (cutL_mem (cutL_mem (perm.mem_iff.mp hx)))
  have hdl' : dos.length ≤ 14 := by rw [perm.length_eq]; exact hdl
  have c6' := (c5'.new (o := .lst ((cutL (cutL W (some 6) (some (7 + r2))) none (some r3)).map D.str)) c2.2 nq2).new (o := .lst (dos.map D.str)) c2.2 np3
  have hp3 : put (put S5 q2 (.lst ((cutL (cutL W (some 6) (some (7 + r2))) none (some r3)).map D.str))) p3 (.lst (dos.map D.str)) p3 = some (.lst (dos.map D.str)) := put_same
  generalize put (put S5 q2 (.lst ((cutL (cutL W (some 6) (some (7 + r2))) none (some r3)).map D.str))) p3 (.lst (dos.map D.str)) = S6 at c6' hp3
  have hW6 := c6'.1 pw _ pwa hW
  walk_at "go"
  rw [hW6]
  walk_at "dl"
  rw [cutL_map, show (6 : Int) = ((6 : Nat) : Int) from rfl, cutL_from]
  intro q3 nq3
  have c7' := c6'.new (o := .lst ((W.drop 6).map D.str)) c2.2 nq3
  have p3a : p3 ≠ a := c6'.2.strs hp3
  have h33 : p3 ≠ q3 := fun z => by rw [z, nq3] at hp3; cases hp3
  have hp3' : put S6 q3 (.lst ((W.drop 6).map D.str)) p3 = some (.lst (dos.map D.str)) := (put_ne h33).trans hp3
  refine ⟨⟨_, rfl⟩, fun q4 nq4 => ?_⟩
  have h34 : q3 ≠ q4 := fun z => by rw [z, put_same] at nq4; cases nq4
  have h35 : p3 ≠ q4 := fun z => by rw [z, nq4] at hp3'; cases hp3'
  refine lcB_flt (W.drop 6) (fun x => decide (x ∉ dos)) (fun k acc => ?_) (by rw [List.length_drop]; omega) (fun x acc N hN => ?_) (fun x S Y y => ?_) ?_
  · show lstJ (put (put S6 q3 _) q4 (.lst acc) q3) k = _
    rw [put_ne h34, put_same]
    rfl
  · walk_at "dl"
    rw [put_ne h35, hp3']
    walk_at "dl"
    refine ⟨dos, strsOf_of dos, ?_⟩
    rw [show (!decide (x ∈ dos)) = decide (x ∉ dos) from by simp]
    exact hN
  · walk_at "dl"
    exact y
  have c8' := c7'.new (o := .lst (((W.drop 6).filter fun x => decide (x ∉ dos)).map D.str)) c2.2 nq4
  walk_at "dl"
  have hkl : ((W.drop 6).filter fun x => decide (x ∉ dos)).length ≤ 14 := Nat.le_trans (List.length_filter_le _ _) (by rw [List.length_drop]; omega)
  refine ⟨_, seqAt_ref put_same, by rw [List.length_map]; omega, .inl ⟨_, strsOf_of _, fun ks p2 perm2 ksrt np2 => ?_⟩⟩
  have c9' := c8'.new (o := .lst (ks.map D.str)) c2.2 np2
  have h32 : p3 ≠ p2 := fun z => by rw [z] at hp3'; rw [put_ne (fun z2 => h35 (z.trans z2)), hp3'] at np2; cases np2
  have hp3'' : put (put (put S6 q3 (.lst ((W.drop 6).map D.str))) q4 (.lst (((W.drop 6).filter fun x => decide (x ∉ dos)).map D.str))) p2 (.lst (ks.map D.str)) p3 = some (.lst (dos.map D.str)) := by rw [put_ne h32, put_ne h35]; exact hp3'
  have hp2 : put (put (put S6 q3 (.lst ((W.drop 6).map D.str))) q4 (.lst (((W.drop 6).filter fun x => decide (x ∉ dos)).map D.str))) p2 (.lst (ks.map D.str)) p2 = some (.lst (ks.map D.str)) := put_same
  generalize put (put (put S6 q3 (.lst ((W.drop 6).map D.str))) q4 (.lst (((W.drop 6).filter fun x => decide (x ∉ dos)).map D.str))) p2 (.lst (ks.map D.str)) = S9 at c9' hp3'' hp2
  have hkm : ∀ x ∈ ks, x ∈ W.drop 6 := fun x hx => (List.mem_filter.mp (perm2.mem_iff.mp hx)).1
  have hkl' : ks.length ≤ 14 := by rw [perm2.length_eq]; exact hkl
  walk_at "go"
  refine ⟨a, _, rfl, c9'.2, by decide, by decide, fun r4 S10 u0 u1 c10'' => ?_⟩
  obtain ⟨m4, rfl⟩ : ∃ m : Nat, r4 = m := ⟨r4.toNat, by omega⟩
  refine ⟨a, m4, rfl, c10''.2, by omega, fun ns pn0 S11 c11'' hpn0 hnl hnm hnnd => ?_⟩
  have c11 := c10''.trans c11''
  walk_at "dl"
  refine ⟨_, seqAt_ref hpn0, by rw [List.length_map]; omega, .inl ⟨_, strsOf_of _, fun ns' p1 perm3 _ np1 => ?_⟩⟩
  have c12 := c11.new (o := .lst (ns'.map D.str)) c9'.2 np1
  have hp1 : put S11 p1 (.lst (ns'.map D.str)) p1 = some (.lst (ns'.map D.str)) := put_same
  generalize put S11 p1 (.lst (ns'.map D.str)) = S12 at c12 hp1
  have c12' := c9'.trans c12
  walk_at "dl"
  rw [c12'.1 pw _ pwa hW]
  walk_at "dl"
  rw [cutL_map, cutL_to]
  intro p4 np4
  have c13 := c12.new (o := .lst ((W.take 6).map D.str)) c9'.2 np4
  have c13' := c9'.trans c13
  walk_at "dl"
  have n14 : p1 ≠ p4 := fun z => by rw [z, np4] at hp1; cases hp1
  refine ⟨_, Sub.refl, h p1 p2 p3 p4 ns' ks dos (W.take 6) _ (c2.trans c13') ⟨(put_ne n14).trans hp1, c13.get c9'.2 hp2, c13.get c9'.2 hp3'', by rw [perm3.length_eq]; omega, by omega, by omega⟩ put_same (by rw [List.length_take]; omega) (hnd.sublist (List.take_sublist _ _)) (by rw [perm3.length_eq]; omega)
    (fun x hx => hnm x (perm3.mem_iff.mp hx)) (fun x hx => hWd x (List.mem_of_mem_drop (hkm x hx))) hdW (fun x hx => ⟨hWd x (List.mem_of_mem_take hx), fun hk => ?_⟩) hkl' ((perm3.nodup_iff).mpr hnnd) (perm2.nodup_iff.mpr (((hnd.sublist (List.drop_sublist _ _)).filter _))) ksrt (perm.nodup_iff.mpr ((hnd.sublist (cutL_sub.trans cutL_sub))))⟩
  have e := List.take_append_drop 6 W
  rw [← e, List.nodup_append] at hnd
  exact hnd.2.2 x hx x (hkm x hk) rfl
theorem emp_one {ns : List Str} {x : Str} : emp (ns ++ [x]) = 0 := by unfold emp; simp
theorem digs {i : Nat} (h : i < 6) : atI ("012345" : Str).cps.toList (0 + (i : Int)) = some (48 + i) := by
  rw [Int.zero_add]
  refine atI_nat ?_
  match i, h with
  | 0, _ => decide +kernel
  | 1, _ => decide +kernel
  | 2, _ => decide +kernel
  | 3, _ => decide +kernel
  | 4, _ => decide +kernel
  | 5, _ => decide +kernel
def MnJ (S : Store) (a pn pk pd pf : Addr) (ns ks dos fr : List Str) (far : Bool) (m : Nat) (i : Nat) : StD → Store → Prop := fun δ S' => ∃ (M : List Mn) (o9 o10 o11 o12 o13 : Option D),
  δ = [some (.ref a), some (wrds pn pk pd), some (.ref pf), some (.bl far), some (.ref pn), some (.ref pk), some (.ref pd), some (.tup (M.map Mn.d)), some (.int (m : Nat)), o9, o10, o11, o12, o13, none] ∧
  Ch a S S' ∧ M.length = i ∧ MOk (· ∈ ks) (· ∈ dos) M ∧ (∀ k, keys M k → k ∈ fr.take i) ∧ hs M ≤ 3 * i ∧ pz M ≤ (if m = 6 then 3 ^ i else 7 ^ i) ∧ MC ns M
theorem mark_mk {i : Nat} {ch : Nat} (h : chLt ch) : mkS i ((⟨#[ch]⟩ : Str) ++ ⟨#[48 + i]⟩) := ⟨ch, h, by rw [app_toList]; rfl⟩
theorem df_meanings {k : Nat} (T : Bt mg) (A : At K mg "_law_meanings" "_law_meanings" s_l_meanings) (G_l_draw : Df P w K mg base "_law_draw" k spDrawC) (G_l_form : Df P w K mg base "_law_form" k (spFormC 4)) :
    Df P w K mg base "_law_meanings" (k + 1) spMeaningsC := by
  have nd := sc_l_meanings.nd
  refine df_mk A rfl sc_l_meanings (fun _ _ _ _ _ _ us hl => match us, hl with | [_, _, _, _], _ => rfl) (fun ds S Q h => ?_) (fun f cdv A outer s H E hr ds S Q h => ?_)
  · obtain ⟨a, pn, pk, pd, pf, ns, ks, dos, fr, far, rfl, _⟩ := h
    rfl
  obtain ⟨a, pn, pk, pd, pf, ns, ks, dos, fr, far, rfl, hd, hw, hf, hfl, hfn, hfk, hnm, hnl, hkl, h⟩ := h
  have hu := hu_of hr
  refine ⟨_, (dss_cons (ds_asg (dv 1) (dg_tup rfl (dgs_cons (dg_name (i := 4) nd rfl (Or.inl rfl)) (dgs_cons (dg_name (i := 5) nd rfl (Or.inl rfl)) (dgs_cons (dg_name (i := 6) nd rfl (Or.inl rfl)) dgs_nil)))))
    (dss_cons (ds_set (i := 7) nd rfl (Or.inl rfl) (de_tup da_nil))
    (dss_cons (ds_set (i := 8) nd rfl (Or.inl rfl) (de_ix hu (de_lst (da_cons de_int (da_cons de_int (da_cons de_int (da_cons de_int (da_cons de_int (da_cons de_int (da_cons de_int (da_cons de_int da_nil))))))))) (de_call G_l_draw hr rfl (da_cons (dv 0) (da_cons de_int da_nil)))))
    (dss_cons (ds_if (dt_val (dv 3)) (dss_one (ds_set (i := 8) nd rfl (Or.inl rfl) (de_callB (cd_min2 rfl) rfl T.min_ (by decide +kernel) (da_cons (dv 8) (da_cons de_int da_nil))))) dss_nil)
    (dss_cons (ds_for PassesOwn.never rfl (di_range1 rfl T.range_ (da_cons (dv 8) da_nil)) (dg_name (i := 9) nd rfl (Or.inl rfl)) (dss_cons (ds_set (i := 10) nd rfl (Or.inl rfl) (de_op od_add (de_ix hu de_str (de_call G_l_draw hr rfl (da_cons (dv 0) (da_cons de_int da_nil)))) (de_ix hu de_str (dv 9))))
    (dss_cons (ds_setLc (i := 11) (own := [("_law_meaning", 14)]) (g := GD.one 14) rfl nd rfl rfl (sw_true rfl rfl rfl (by decide +kernel)) (di_any (dv 7)) (blkOk_by (own := [("_law_meaning", 14)]) (N := ["_law_deck_here", "_law_words", "_law_fresh", "_law_wide", "_law_names_here", "_law_kinds_here", "_law_doings", "_law_meanings_here", "_law_many", "_law_k", "_law_x", "_law_told", "_law_deep", "_law_there", "_law_meaning"]) (sc := defScope s_l_meanings) (by decide +kernel)) (fun _ _ _ _ _ => (dg_name (i := 14) nd rfl (Or.inl rfl))) (fun _ _ _ _ _ => dts_nil) (fun _ _ _ _ _ => (de_ix hu (dv 14) de_int)))
    (dss_cons (ds_set (i := 12) nd rfl (Or.inl rfl) (de_op od_add de_int (de_callTy cd_int rfl T.int_ (by decide +kernel) (da_cons (de_and (de_cmp od_lt (dv 9) de_int (nomark _)) (de_and (de_cmp od_lt (dv 8) de_int (nomark _)) (de_one (de_not (dv 3))))) da_nil))))
    (dss_cons (ds_set (i := 13) nd rfl (Or.inl rfl) (de_call G_l_form hr rfl (da_cons (dv 0) (da_cons (de_tup (da_cons (dv 4) (da_cons (de_op od_add (dv 5) (dv 11)) (da_cons (dv 6) da_nil)))) (da_cons (de_lst (da_cons (dv 10) da_nil)) (da_cons (dv 12) (da_cons (de_ix hu de_str (dv 9)) da_nil)))))))
    (dss_one (ds_set (i := 7) nd rfl (Or.inl rfl) (de_op od_add (dv 7) (de_tup (da_cons (de_tup (da_cons (de_ix hu (dv 2) (dv 9)) (da_cons (dv 10) (da_cons (dv 13) da_nil)))) da_nil))))))))))
    (dss_one (ds_ret (dv 7)))))))), ?_⟩
  walk_at "go"
  intro q nq
  have c1 := (Ch.refl hd).new (o := .lst [.int 0, .int 1, .int 2, .int 3, .int 4, .int 2, .int 3, .int 6]) hd nq
  have qa := hd.ne nq
  refine ⟨a, _, rfl, c1.2, by decide, by decide, fun r S2 r0 r1 c2' => ?_⟩
  have c2 := c1.trans c2'
  walk_at "dl"
  rw [c2'.1 q _ qa put_same]
  walk_at "dl"
  refine ixSeq_mem (ds := [.int 0, .int 1, .int 2, .int 3, .int 4, .int 2, .int 3, .int 6]) r0 (by simp; omega) fun d hdm => ?_
  obtain ⟨m0, rfl, hm0⟩ : ∃ m0 : Nat, d = .int (m0 : Nat) ∧ (m0 ≤ 4 ∨ m0 = 6) := by
    simp only [List.mem_cons, List.not_mem_nil, or_false] at hdm
    rcases hdm with rfl | rfl | rfl | rfl | rfl | rfl | rfl | rfl
    · exact ⟨0, rfl, .inl (by decide)⟩
    · exact ⟨1, rfl, .inl (by decide)⟩
    · exact ⟨2, rfl, .inl (by decide)⟩
    · exact ⟨3, rfl, .inl (by decide)⟩
    · exact ⟨4, rfl, .inl (by decide)⟩
    · exact ⟨2, rfl, .inl (by decide)⟩
    · exact ⟨3, rfl, .inl (by decide)⟩
    · exact ⟨6, rfl, .inr rfl⟩
  refine seq_cut (fun δ' S3 => S3 = S2 ∧ ∃ m : Nat, δ' = [some (.ref a), some (wrds pn pk pd), some (.ref pf), some (.bl far), some (.ref pn), some (.ref pk), some (.ref pd), some (.tup []), some (.int (m : Nat)), none, none, none, none, none, none] ∧ (m ≤ 4 ∨ m = 6) ∧ (far = true → m ≤ 2)) (fun N hN => ?_) ?_
  · cases far with
    | true =>
      walk_at "dl"
      have e : (if (2 : Int) < (m0 : Int) then (2 : Int) else (m0 : Int)) = ((min m0 2 : Nat) : Int) := by split <;> omega
      rw [e]
      exact hN _ _ ⟨rfl, min m0 2, rfl, by omega, fun _ => by omega⟩
    | false =>
      walk_at "dl"
      exact hN _ _ ⟨rfl, m0, rfl, hm0, fun z => by cases z⟩
  rintro δ' S3 ⟨rfl, m, rfl, hm, hfm⟩
  refine sq ?_
  walk_at "dl"
  refine ⟨by omega, ?_⟩
  rw [Int.toNat_natCast]
  refine forB_rng (MnJ S a pn pk pd pf ns ks dos fr far m) ?_ ?_ ?_
  · refine ⟨[], none, none, none, none, none, rfl, c2, rfl, .nil, (fun k ⟨z, hz, _⟩ => by cases hz), (by simp [hs]), ?_, fun i m e => by cases e⟩
    show 1 ≤ _
    split <;> decide
  · rintro i δ S' hi ⟨M, o9, o10, o11, o12, o13, rfl, c3, hM, hok, hkeys, hhs, hpz, hmc⟩
    have hi6 : i < 6 := by omega
    walk_at "go"
    refine ⟨a, _, rfl, c3.2, by decide, by decide, fun r2 S4 g0 g1 c4' => ?_⟩
    have c4 := c3.trans c4'
    walk_at "dl"
    refine ixS (s := "uvwxyz") chLt (by decide +kernel) (by decide +kernel) g0 (by rw [show ("uvwxyz" : Str).length = 6 from by decide +kernel]; exact g1) fun ch hch => ?_
    walk_at "dl"
    refine ⟨_, by decide +kernel, digs hi6, ?_⟩
    refine ⟨szOk (by rw [show (⟨#[ch]⟩ : Str).length = 1 from rfl, show (⟨#[48 + i]⟩ : Str).length = 1 from rfl]; decide), ?_⟩
    have hx : mkS i ((⟨#[ch]⟩ : Str) ++ ⟨#[48 + i]⟩) := mark_mk hch
    generalize (⟨#[ch]⟩ : Str) ++ ⟨#[48 + i]⟩ = x at hx
    walk_at "go"
    intro q5 nq5
    refine lcB_zip (M.map Mn.d) ((M.map (·.k)).map D.str) (by simp) (fun k acc => rfl) (by rw [List.length_map]; exact szOk (by omega)) (fun k d r acc Y N e1 e2 y => ?_) ?_
    · rw [List.getElem?_map] at e1
      rw [List.getElem?_map, List.getElem?_map] at e2
      cases e : M[k]? with
      | none => rw [e] at e1; cases e1
      | some mn =>
        rw [e] at e1 e2
        cases e1
        cases e2
        simp only [Mn.d]
        walk_at "dl"
        exact y
    have c5 := c4.new (o := .lst ((M.map (·.k)).map D.str)) hd nq5
    walk_at "dl"
    have hq5 : put S4 q5 (.lst ((M.map (·.k)).map D.str)) q5 = some (.lst ((M.map (·.k)).map D.str)) := put_same
    generalize put S4 q5 (.lst ((M.map (·.k)).map D.str)) = S5 at c5 hq5
    have q5a := c5.2.strs hq5
    refine seq_cut (fun δ' S6 => S6 = S5 ∧ ∃ dp : Nat, δ' = [some (.ref a), some (wrds pn pk pd), some (.ref pf), some (.bl far), some (.ref pn), some (.ref pk), some (.ref pd), some (.tup (M.map Mn.d)), some (.int (m : Nat)), some (.int (0 + (i : Int))), some (.str x), some (.ref q5), some (.int (dp : Nat)), o13, none] ∧ dp ≤ 2 ∧ (m = 6 → dp = 1) ∧ 1 ≤ dp) (fun N hN => ?_) ?_
    · have o1 := hN [some (.ref a), some (wrds pn pk pd), some (.ref pf), some (.bl far), some (.ref pn), some (.ref pk), some (.ref pd), some (.tup (M.map Mn.d)), some (.int (m : Nat)), some (.int (0 + (i : Int))), some (.str x), some (.ref q5), some (.int ((1 : Nat) : Int)), o13, none] S5 ⟨rfl, 1, rfl, by decide, fun _ => rfl, by decide⟩
      have o2 := fun h6 : m ≠ 6 => hN [some (.ref a), some (wrds pn pk pd), some (.ref pf), some (.bl far), some (.ref pn), some (.ref pk), some (.ref pd), some (.tup (M.map Mn.d)), some (.int (m : Nat)), some (.int (0 + (i : Int))), some (.str x), some (.ref q5), some (.int ((2 : Nat) : Int)), o13, none] S5 ⟨rfl, 2, rfl, by decide, fun z => absurd z h6, by decide⟩
      walk_at "dl"
      refine ite2 (fun e1 => ?_) (fun e1 => ?_)
      · by_cases e2 : (m : Int) < 6
        · cases far with
          | true =>
            walk_at "dl"
            refine ifY e2 ?_
            exact o1
          | false =>
            walk_at "dl"
            refine ifY e2 ?_
            exact o2 (by omega)
        · walk_at "dl"
          refine ifN e2 ?_
          exact o1
      · exact o1
    rintro δ' S6 ⟨rfl, dp, rfl, hdp, hdp6, hdp1⟩
    walk_at "go"
    have w5 := hw.ch hd c5
    refine ⟨_, _, w5.k, hq5, szOk (by rw [List.length_map, List.length_map, List.length_map]; omega), fun pk2 npk2 => ?_⟩
    have c6 := c5.new (o := .lst (ks.map D.str ++ (M.map (·.k)).map D.str)) hd npk2
    intro q6 nq6
    have c7 := c6.new (o := .lst [.str x]) hd nq6
    have h26 : pk2 ≠ q6 := fun z => by rw [z, put_same] at nq6; cases nq6
    refine ⟨_, by decide +kernel, digs hi6, ?_⟩
    have w7 := hw.ch hd c7
    refine ⟨fun s => s ∈ ns ∨ mkS i s, a, pn, pk2, pd, q6, ns, ks ++ M.map (·.k), dos, [x], dp, ⟨#[48 + i]⟩, rfl, c7.2, ⟨w7.n, ?_, w7.d, by omega, by rw [List.length_append, List.length_map]; omega, w7.ld⟩, put_same, ?_, ?_, fun y hy => .inl hy, fun y hy => ?_, fun c hc => .inr (mark_mk hc), (show (1 : Nat) ≤ 5 by decide), fun F3 S9 c8' ok8 cl8 bd8 ht8 sz8 => ?_⟩
    · rw [put_ne h26, put_same, List.map_append]
    · rw [emp_one]; show 1 + dp + 0 ≤ 60; omega
    · rw [emp_one]; omega
    · cases List.mem_singleton.mp hy
      exact .inr hx
    have e0 : emp (ns ++ [x]) = 0 := emp_one
    rw [e0] at ht8 sz8
    have c8 := c7.trans c8'
    have kk : ∀ k, k ∈ ks ++ M.map (·.k) → k ∈ ks ∨ keys M k := fun k hk => by
      rcases List.mem_append.mp hk with hk | hk
      · exact .inl hk
      · obtain ⟨z, hz, e⟩ := List.mem_map.mp hk
        exact .inr ⟨z, hz, e⟩
    have sz9 : F3.sz ≤ 7 := by
      have : 2 ^ (dp + 1) ≤ 2 ^ 3 := Nat.pow_le_pow_right (by decide) (by omega)
      omega
    have sz10 : m = 6 → F3.sz ≤ 3 := fun z => by
      rw [hdp6 z] at sz8
      omega
    have c9 := c8
    have ok9 : F3.ok (Tm (i + 1)) (fun k => k ∈ ks ∨ keys M k) (· ∈ dos) := ok8.imp (fun s hs => hs.elim (fun z => .inl (hnm s z)) fun z => .inr ⟨i, by omega, z⟩) kk fun _ z => z
    have hmc9 : MC ns (M ++ [⟨fr[i]'(by omega), x, F3⟩]) := hmc.snoc (by
      rw [hM]
      refine ⟨hx, bd8.imp fun s ⟨c, hc, e⟩ => by rw [e]; exact mark_mk hc, ok8.imp (fun _ z => z) (fun _ _ => trivial) (fun _ _ => trivial), cl8.imp fun s hs => ?_⟩
      rcases hs with hs | hs
      · exact .inr hs
      · exact .inl (List.mem_singleton.mp hs))
    walk_at "dl"
    have hif : i < fr.length := by omega
    rw [c9.get hd hf]
    walk_at "dl"
    refine ⟨.str fr[i], ?_, ?_⟩
    · rw [Int.zero_add]
      exact atI_nat (by rw [List.getElem?_map, List.getElem?_eq_getElem hif]; rfl)
    walk_at "dl"
    rw [List.length_map]
    refine ⟨szOk (by omega), M ++ [⟨fr[i], x, F3⟩], _, _, _, _, _, by rw [List.map_append]; rfl, c9, by rw [List.length_append, hM]; rfl, ?_, ?_, ?_, ?_, hmc9⟩
    · have etk := List.take_append_getElem hif
      have hnk : fr[i] ∉ fr.take i := fun z => by
        have hs2 : (fr.take (i + 1)).Nodup := hfn.sublist (List.take_sublist _ _)
        rw [← etk, List.nodup_append] at hs2
        exact hs2.2.2 _ z _ List.mem_cons_self rfl
      refine .snoc hok (fun z => hnk (hkeys _ z)) (hfk _ (List.getElem_mem hif)) (by rw [hM]; exact hx) (by rw [hM]; exact ok9)
    · intro k hk
      rw [← List.take_append_getElem hif]
      rcases keys_snoc.mp hk with hk | hk
      · exact List.mem_append_left _ (hkeys k hk)
      · exact List.mem_append_right _ (by rw [← hk]; exact List.mem_cons_self)
    · rw [hs_snoc]
      show hs M + F3.ht ≤ _
      omega
    · rw [pz_snoc]
      show pz M * F3.sz ≤ _
      by_cases e6 : m = 6
      · rw [if_pos e6] at hpz ⊢
        have := Nat.mul_le_mul hpz (sz10 e6)
        rw [Nat.pow_succ]
        omega
      · rw [if_neg e6] at hpz ⊢
        have := Nat.mul_le_mul hpz sz9
        rw [Nat.pow_succ]
        omega
  · rintro δ S' ⟨M, o9, o10, o11, o12, o13, rfl, c3, hM, hok, hkeys, hhs, hpz, hmc⟩
    walk_at "dl"
    refine ⟨S', Sub.refl, h M S' c3 hok (by omega) (by omega) ?_ (fun k hk => List.mem_of_mem_take (hkeys k hk)) hmc⟩
    refine Nat.le_trans hpz ?_
    rcases hm with hm | rfl
    · rw [if_neg (by omega)]
      exact Nat.pow_le_pow_right (by decide) hm
    · rw [if_pos rfl]; decide
end
end K72

set_option Elab.async false
set_option maxRecDepth 100000
set_option linter.unusedVariables false
namespace K72
open PySem PySem.Spec PyProof.Rows L2 DL
/-! worlds as data: equal to themselves, shown -/
def Lo (s : Str) : Prop := (∀ c ∈ s.cps.toList, c < 1000) ∧ s.length ≤ 8
theorem Lo.ok {s : Str} (h : Lo s) : PyData.strOk s = true := by
  unfold PyData.strOk
  rw [← Array.all_toList, List.all_eq_true]
  intro c hc
  have := h.1 c hc
  simp; omega
theorem Lo.rep {s : Str} (h : Lo s) : (reprText s).length ≤ 10 * s.length + 2 := StrLaws.reprText_len s fun c hc => Nat.lt_of_lt_of_le (h.1 c hc) (by decide)
theorem nmS.lo {s : Str} (h : nmS s) : Lo s := by
  obtain ⟨c, r, e, h1, h2, h3⟩ := h
  refine ⟨fun z hz => ?_, by rw [len_toList, e, List.length_cons]; omega⟩
  rw [e] at hz
  rcases List.mem_cons.mp hz with rfl | hz
  · omega
  · have := h2 z hz; omega
theorem Wd.lo {s : Str} (h : Wd s) : Lo s := ⟨fun z hz => by have := h.1 z hz; omega, by rw [len_toList]; exact h.2.2⟩
/-- plain data, shown in at most n signs -/
structure Sm (n : Nat) (p : PyData) : Prop where
  can : p.canLay0 = true
  sh : p.showable = true
  nd : p.hasDict = false
  ln : p.shown.length ≤ n
theorem Sm.mono {n m : Nat} {p : PyData} (h : Sm n p) (l : n ≤ m) : Sm m p := ⟨h.can, h.sh, h.nd, Nat.le_trans h.ln l⟩
theorem Sm.int {i : Nat} (h : i < 100) : Sm 4 (.int (i : Nat)) := by
  refine ⟨rfl, ?_, rfl, ?_⟩
  · show decide ((i : Int).natAbs.log2 < 1920) = true
    rw [decide_eq_true_eq, Int.natAbs_natCast]
    have := Nat.log2_le_self i
    omega
  · show (Str.ofString (toString (i : Int))).length ≤ 4
    rw [PySem.ofString_length]
    have := int_text_length_le10 (a := (i : Int)) (k := 2) (by decide) (by rw [Int.natAbs_natCast]; omega)
    omega
theorem Sm.str {s : Str} (h : Lo s) : Sm 82 (.str s) := ⟨by rw [PyData.canLay0]; exact h.ok, rfl, rfl, by have := h.rep; have := h.2; show (reprText s).length ≤ 82; omega⟩
theorem Sm.all {n : Nat} : ∀ {ps : List PyData}, (∀ p ∈ ps, Sm n p) → PyData.canLayAll0 ps = true ∧ PyData.showableAll ps = true ∧ PyData.hasDictAll ps = false ∧ piled (PyData.shownAll ps) ≤ ps.length * (n + 2)
  | [], _ => ⟨by simp [PyData.canLayAll0], by simp [PyData.showableAll], by simp [PyData.hasDictAll], by simp [PyData.shownAll, piled]⟩
  | p :: ps, h => by
    obtain ⟨h1, h2, h3, h4⟩ := Sm.all (ps := ps) fun q hq => h q (List.mem_cons_of_mem _ hq)
    have hp := h p List.mem_cons_self
    refine ⟨by simp [PyData.canLayAll0, hp.can, h1], by simp [PyData.showableAll, hp.sh, h2], by simp [PyData.hasDictAll, hp.nd, h3], ?_⟩
    rw [PyData.shownAll, piled_cons, List.length_cons, Nat.succ_mul]
    have := hp.ln
    omega
theorem Sm.tup {n : Nat} {ps : List PyData} (h : ∀ p ∈ ps, Sm n p) : Sm (ps.length * (n + 2) + 2) (.tuple ps) := by
  obtain ⟨h1, h2, h3, h4⟩ := Sm.all h
  refine ⟨by rw [PyData.canLay0]; exact h1, by rw [PyData.showable]; exact h2, by rw [PyData.hasDict]; exact h3, ?_⟩
  rw [PyData.shown]
  have := fmt_text (PyData.shownAll ps)
  omega
theorem depth_map {α : Type} (f : α → PyData) (n : Nat) : ∀ l : List α, (∀ a ∈ l, (f a).depth ≤ n) → PyData.depthAll (l.map f) ≤ n
  | [], _ => by simp [PyData.depthAll]
  | a :: l, h => by
    have h1 := h a List.mem_cons_self
    have h2 := depth_map f n l fun b hb => h b (List.mem_cons_of_mem _ hb)
    simp only [List.map_cons, PyData.depthAll]
    omega
theorem PDs.map {α : Type} {S : Store} (f : α → D) (g : α → PyData) (h : ∀ a, PD S (f a) (g a)) : ∀ l : List α, PDs S (l.map f) (l.map g)
  | [] => .nil
  | a :: l => .cons (h a) (PDs.map f g h l)
def nmP (p : Str × Nat) : PyData := .tuple [.str p.1, .int (p.2 : Nat)]
def kdP (p : Str × List Nat) : PyData := .tuple [.str p.1, .tuple (p.2.map fun i : Nat => .int (i : Nat))]
def prP (q : Nat × Nat) : PyData := .tuple [.int (q.1 : Nat), .int (q.2 : Nat)]
def dgP (p : Str × List (Nat × Nat)) : PyData := .tuple [.str p.1, .tuple (p.2.map prP)]
def Wo.pd (W : Wo) : PyData := .tuple [.int (W.many : Nat), .tuple (W.nms.map nmP), .tuple (W.kds.map kdP), .tuple (W.dgs.map dgP)]
theorem Wo.pd_PD {S : Store} (W : Wo) : PD S W.d W.pd :=
  .tup (.cons (.int _) (.cons (.ftup (PDs.map nmD nmP (fun p => .tup (.cons (.str _) (.cons (.int _) .nil))) W.nms)) (.cons (.ftup (PDs.map kdD kdP (fun p => .tup (.cons (.str _) (.cons (.ftup (ints_PD _)) .nil))) W.kds))
    (.cons (.ftup (PDs.map dgD dgP (fun p => .tup (.cons (.str _) (.cons (.ftup (PDs.map ppD prP (fun q => .tup (.cons (.int _) (.cons (.int _) .nil))) p.2)) .nil))) W.dgs)) .nil))))
/-- a world of few things -/
structure WoSm (W : Wo) : Prop where
  m : W.many < 100
  nl : W.nms.length ≤ 20
  kl : W.kds.length ≤ 60
  dl : W.dgs.length ≤ 60
  n : ∀ p ∈ W.nms, Lo p.1 ∧ p.2 < 100
  k : ∀ p ∈ W.kds, Lo p.1 ∧ p.2.length ≤ 20 ∧ ∀ i ∈ p.2, i < 100
  d : ∀ p ∈ W.dgs, Lo p.1 ∧ p.2.length ≤ 100 ∧ ∀ i ∈ p.2, i.1 < 100 ∧ i.2 < 100
theorem Wo.pd_depth (W : Wo) : W.pd.depth ≤ 60 := by
  have h1 := depth_map nmP 50 W.nms fun p _ => by simp [nmP, PyData.depth, PyData.depthAll]
  have h2 := depth_map kdP 50 W.kds fun p _ => by
    have := ints_depth p.2
    simp only [kdP, PyData.depth, PyData.depthAll]
    omega
  have h3 := depth_map dgP 50 W.dgs fun p _ => by
    have := depth_map prP 40 p.2 fun q _ => by simp [prP, PyData.depth, PyData.depthAll]
    simp only [dgP, PyData.depth, PyData.depthAll]
    omega
  simp only [Wo.pd, PyData.depth, PyData.depthAll]
  omega
theorem Wo.pd_sm {W : Wo} (h : WoSm W) : Sm 2000000 W.pd := by
  have two : ∀ {n : Nat} {a b : PyData}, Sm n a → Sm n b → ∀ p ∈ [a, b], Sm n p := fun ha hb p hp => by
    rcases List.mem_cons.mp hp with rfl | hp
    · exact ha
    · cases List.mem_singleton.mp hp; exact hb
  have hn : Sm 4000 (.tuple (W.nms.map nmP)) := by
    refine (Sm.tup (n := 170) fun p hp => ?_).mono ?_
    · obtain ⟨q, hq, rfl⟩ := List.mem_map.mp hp
      obtain ⟨a, b⟩ := h.n q hq
      exact (Sm.tup (two (.str a) ((Sm.int b).mono (by decide)))).mono (by simp)
    · rw [List.length_map]; have := h.nl; omega
  have hk : Sm 20000 (.tuple (W.kds.map kdP)) := by
    refine (Sm.tup (n := 300) fun p hp => ?_).mono ?_
    · obtain ⟨q, hq, rfl⟩ := List.mem_map.mp hp
      obtain ⟨a, b, c⟩ := h.k q hq
      have h1 : Sm 130 (.tuple (q.2.map fun i : Nat => .int (i : Nat))) := by
        refine (Sm.tup (n := 4) fun p hp => ?_).mono ?_
        · obtain ⟨i, hi, rfl⟩ := List.mem_map.mp hp
          exact Sm.int (c i hi)
        · rw [List.length_map]; omega
      exact (Sm.tup (two ((Sm.str a).mono (by decide)) h1)).mono (by simp)
    · rw [List.length_map]; have := h.kl; omega
  have hd : Sm 300000 (.tuple (W.dgs.map dgP)) := by
    refine (Sm.tup (n := 4000) fun p hp => ?_).mono ?_
    · obtain ⟨q, hq, rfl⟩ := List.mem_map.mp hp
      obtain ⟨a, b, c⟩ := h.d q hq
      have h1 : Sm 1800 (.tuple (q.2.map prP)) := by
        refine (Sm.tup (n := 14) fun p hp => ?_).mono ?_
        · obtain ⟨i, hi, rfl⟩ := List.mem_map.mp hp
          exact (Sm.tup (two (Sm.int (c i hi).1) (Sm.int (c i hi).2))).mono (by simp)
        · rw [List.length_map]; omega
      exact (Sm.tup (two ((Sm.str a).mono (by decide)) h1)).mono (by simp)
    · rw [List.length_map]; have := h.dl; omega
  refine (Sm.tup (n := 300000) fun p hp => ?_).mono (by simp)
  simp only [List.mem_cons, List.not_mem_nil, or_false] at hp
  rcases hp with rfl | rfl | rfl | rfl
  · exact (Sm.int h.m).mono (by decide)
  · exact hn.mono (by decide)
  · exact hk.mono (by decide)
  · exact hd
theorem Wo.shaped {W : Wo} (h : WoSm W) : SeqAt.shaped W.pd = true := by
  unfold SeqAt.shaped
  rw [(Wo.pd_sm h).can]
  have := W.pd_depth
  simp; omega
theorem oNe_world {W : Wo} {S : Store} {Q : KD} (h : WoSm W) (q : Q (.bl false) S) : oNe W.d W.d S Q := by
  refine ⟨W.pd, W.pd, W.pd_PD, W.pd_PD, Wo.shaped h, Wo.shaped h, ?_⟩
  rw [SeqAt.eqv_refl W.pd (Wo.pd_sm h).can]
  exact q
theorem oRepr_world {W : Wo} {S : Store} {Q : KD} (h : WoSm W) (q : Q (.str W.pd.shown) S) : oRepr [W.d] S Q :=
  ⟨W.pd, W.pd_PD, ⟨_, rfl⟩, (Wo.pd_sm h).sh, (Wo.pd_sm h).nd, Nat.le_trans W.pd_depth (by decide), Nat.le_trans (Wo.pd_sm h).ln (by decide), q⟩
end K72

set_option Elab.async false
set_option maxRecDepth 100000
set_option linter.unusedVariables false
namespace K72
open PySem PySem.Spec PyProof.Rows L2 DL
theorem rising_pw : ∀ (l : List Str) (p : Str), risingS p l = true → (∀ x ∈ l, p.cps.toList ≤ x.cps.toList) ∧ l.Pairwise fun a b => a.cps.toList ≤ b.cps.toList
  | [], _, _ => ⟨(fun x hx => by cases hx), List.Pairwise.nil⟩
  | x :: r, p, h => by
    unfold risingS at h
    rw [Bool.and_eq_true, ltCps_eq, Bool.not_eq_true', decide_eq_false_iff_not] at h
    obtain ⟨h1, h2⟩ := h
    have h1' : p.cps.toList ≤ x.cps.toList := List.not_lt.mp h1
    obtain ⟨i1, i2⟩ := rising_pw r x h2
    refine ⟨fun y hy => ?_, List.pairwise_cons.mpr ⟨i1, i2⟩⟩
    rcases List.mem_cons.mp hy with rfl | hy
    · exact h1'
    · exact List.le_trans h1' (i1 y hy)
theorem sorted_pw {l : List Str} (h : sortedS l = true) : l.Pairwise fun a b => a.cps.toList ≤ b.cps.toList := by
  cases l with
  | nil => exact .nil
  | cons x r =>
    obtain ⟨i1, i2⟩ := rising_pw r x h
    exact List.pairwise_cons.mpr ⟨i1, i2⟩
theorem ksrt_of {l : List (Str × List Nat)} (hn : (l.map (·.1)).Nodup) (h : sortedS (l.map (·.1)) = true) : KSrt l := by
  have h1 := sorted_pw h
  have h2 : l.Pairwise fun a b => a.1 ≠ b.1 ∧ a.1.cps.toList ≤ b.1.cps.toList := by
    have n' : l.Pairwise fun a b => a.1 ≠ b.1 := List.pairwise_map.mp hn
    have h1' : l.Pairwise fun a b => a.1.cps.toList ≤ b.1.cps.toList := (List.pairwise_map (f := fun p : Str × List Nat => p.1) (R := fun a b : Str => a.cps.toList ≤ b.cps.toList)).mp h1
    exact n'.and h1'
  exact h2.imp fun ⟨a, b⟩ => by rw [skK_le a]; exact decide_eq_true b
theorem mkS_ne {j : Nat} {x y : Str} (h : mkS j x) (hy : y.cps.toList.length ≠ 2) : x ≠ y := by
  rintro rfl
  obtain ⟨c, _, e⟩ := h
  rw [e] at hy
  exact hy rfl
theorem pz_pos : ∀ M : List Mn, 1 ≤ pz M := fun M => by
  induction M using rev_ind with
  | h0 => exact Nat.le_refl _
  | h1 N n ih => rw [pz_snoc]; exact Nat.mul_pos ih n.g.sz_pos
theorem hs_pre {M N : List Mn} : hs M ≤ hs (M ++ N) := by unfold hs; simp
theorem hs_mem {M : List Mn} {m : Mn} (h : m ∈ M) : m.g.ht ≤ hs M := by
  unfold hs
  obtain ⟨M1, M2, rfl⟩ := List.append_of_mem h
  simp
  omega
section
variable {B W : Str → Prop}
theorem MOk.bounds {M : List Mn} (h : MOk B W M) : ∀ k x g, knOf M k = some (x, g) → (∃ j, j < M.length ∧ mkS j x) ∧ g.ht ≤ hs M := by
  induction h with
  | nil => intro k x g e; cases e
  | @snoc M m h1 h2 h3 h4 h5 ih =>
    intro k x g e
    rw [knOf_snoc] at e
    rw [List.length_append, hs_snoc]
    by_cases ek : k = m.k
    · subst ek
      rw [kstep_at] at e
      cases e
      refine ⟨⟨M.length, by simp, h4⟩, ?_⟩
      have := unf_ht (f := knOf M) (b := hs M) (fun k y g e => (ih k y g e).2) m.g
      omega
    · rw [kstep_ne ek] at e
      obtain ⟨⟨j, hj, hx⟩, b1⟩ := ih k x g e
      exact ⟨⟨j, by omega, hx⟩, by omega⟩
theorem MOk.kng {M : List Mn} (h : MOk B W M) (hW : ∀ s, W s → Wd s) (h6 : M.length ≤ 6) (hh : hs M ≤ 60) : ∀ M1 M2, M = M1 ++ M2 → KnG (knOf M1) := by
  rintro M1 M2 rfl k x g e
  have h1 : MOk B W M1 := h.prefix
  obtain ⟨⟨j, hj, hx⟩, b1⟩ := h1.bounds k x g e
  rw [List.length_append] at h6
  refine ⟨Nat.le_trans b1 (Nat.le_trans hs_pre hh), mkS_ne hx (by decide +kernel), mkS_ne hx (by decide +kernel), ?_⟩
  refine (h1.dom e).2.imp (fun _ _ => trivial) (fun _ _ => trivial) fun s hs z => ?_
  subst z
  exact mkS_notWd hx (by omega) (hW _ hs)
end
section
variable {B Wk : Str → Prop} {W : Wo}
theorem kd_isSome {W : Wo} {k : Str} : (W.kd k).isSome = true ↔ k ∈ W.kds.map (·.1) := lookup_none
theorem wwith_ok {M : List Mn} (hM : WM B Wk W M) : WoOk (wwith W M) := by
  obtain ⟨w1, w2, w3, _⟩ := wwith_nms (W := W) (M := M)
  exact ⟨by rw [w1]; exact hM.ok.n, (wwith_keys hM.m hM.ok.k hM.b).1, by rw [w3]; exact hM.ok.d, by rw [w2]; exact hM.ok.m⟩
theorem WM.prefix {M N : List Mn} (h : WM B Wk W (M ++ N)) : WM B Wk W M := ⟨h.m.prefix, h.ok, h.b, h.d, fun m hm => h.cl m (List.mem_append_left _ hm), h.lt⟩
theorem mnw_of {M : List Mn} (hM : WM B Wk W M) (g : GM W M) (hW : ∀ s, Wk s → Wd s) (h6 : M.length ≤ 6) (hh : hs M ≤ 60) : ∀ M1 m M2, M = M1 ++ m :: M2 → WoOk (wwith W M1) ∧ MnW (wwith W M1) m := by
  rintro M1 m M2 rfl
  have h1 : WM B Wk W M1 := hM.prefix
  refine ⟨wwith_ok h1, ?_⟩
  obtain ⟨w1, w2, w3, _⟩ := wwith_nms (W := W) (M := M1)
  obtain ⟨a1, a2, a3, _⟩ := hM.m.at
  obtain ⟨g1, g2, g3⟩ := g.m M1.length m (by rw [List.getElem?_append_right (Nat.le_refl _), Nat.sub_self]; rfl)
  have hl : M1.length < 6 := by rw [List.length_append, List.length_cons] at h6; omega
  refine ⟨Nat.le_trans (hs_mem (by simp)) hh, ?_, ?_, fun nm hf hn => ?_, mkS_ne a1 (by decide +kernel), mkS_ne a1 (by decide +kernel), ?_⟩
  · have := hM.cl m (by simp)
    refine this.imp fun s hs => hs.imp id fun z => ?_
    unfold Wo.nm
    rw [w1]
    exact z
  · refine a3.imp (fun _ _ => trivial) (fun k hk => kd_isSome.mpr (((wwith_keys h1.m h1.ok.k h1.b).2 k).mpr hk)) fun d hd => ?_
    unfold Wo.dg
    rw [w3]
    exact hM.d d hd
  · refine g3.imp (fun s hs => ?_) (fun _ z => z) fun _ z => z
    rintro rfl
    rcases hs with hs | hs
    · unfold Wo.nm at hn hs
      rw [w1] at hn
      rw [hn] at hs; cases hs
    · obtain ⟨c, hc, e⟩ := hf
      obtain ⟨c', hc', e'⟩ := hs
      rw [e] at e'
      have := (List.cons.inj e').1
      unfold chLt at hc'
      omega
  · refine a3.imp (fun _ _ => trivial) (fun _ _ => trivial) fun s hs z => ?_
    subst z
    exact mkS_notWd a1 (by omega) (hW _ hs)
theorem things_len (W : Wo) (m : Mn) : (things W m).length ≤ W.many ∧ ∀ i ∈ things W m, i < W.many := by
  unfold things
  refine ⟨Nat.le_trans (List.length_filter_le _ _) (by rw [List.length_range]; exact Nat.le_refl _), fun i hi => ?_⟩
  exact List.mem_range.mp (List.mem_filter.mp hi).1
theorem wwith_sm {M : List Mn} (h : WoSm W) (hl : W.kds.length + M.length ≤ 60) (hm : W.many ≤ 20) (hk : ∀ m ∈ M, Lo m.k) : WoSm (wwith W M) := by
  induction M using rev_ind with
  | h0 => exact h
  | h1 N n ih =>
    rw [List.length_append, List.length_singleton] at hl
    have i := ih (by omega) fun m hm => hk m (List.mem_append_left _ hm)
    obtain ⟨w1, w2, w3, w4⟩ := wwith_nms (W := W) (M := N)
    rw [wwith_snoc]
    refine ⟨i.m, i.nl, ?_, i.dl, i.n, fun p hp => ?_, i.d⟩
    · show (ksort _).length ≤ 60
      rw [(ksort_perm _).length_eq, List.length_append, w4, List.length_singleton]
      omega
    · have hp' : p ∈ (wwith W N).kds ++ [(n.k, things (wwith W N) n)] := (ksort_perm _).mem_iff.mp hp
      rcases List.mem_append.mp hp' with z | z
      · exact i.k p z
      · cases List.mem_singleton.mp z
        obtain ⟨t1, t2⟩ := things_len (wwith W N) n
        rw [w2] at t1 t2
        exact ⟨hk n (by simp), Nat.le_trans t1 hm, fun j hj => by have := t2 j hj; omega⟩
end
end K72

set_option Elab.async false
set_option maxRecDepth 100000
set_option linter.unusedVariables false
namespace DL
open PySem PySem.Spec PyProof.Rows L2
theorem hR_of {A : Around} {k : Nat} (hr : Room k A) : A.units + 100 < cLine := by have := hr.un; omega
end DL
namespace K72
open PySem PySem.Spec PyProof.Rows L2 DL
local macro_rules | `(tactic| walk_at "dl") => `(tactic| try simp only [DL.tAsgD, DL.asg, DL.tVarD, DL.lk, DL.sto, DL.stos, DL.tOpD, DL.tCD, DL.tCallD, DL.tConsD, DL.tNilD, DL.tRetD, DL.endsD, DL.startD, DL.tIfSD, DL.tTestD, DL.tNextD, DL.tDropD, DL.tAndD, DL.tOrD, DL.tNotD, DL.tAndV, DL.tOrV, DL.tNotV, DL.tIfD, DL.tNegD, DL.tTupD, DL.tLstD, DL.tSetD, DL.tMD, DL.tSlD, DL.tPartD, DL.tNoD, DL.tRevD, DL.tForD, DL.tLcD, DL.tIterD, DL.tRng1D, DL.tRng2D, DL.tYesD, DL.wipeD, DL.tDictD, DL.tDictOne, DL.tFldD, DL.tMethD, DL.tMakeD, DL.tSetF, DL.tThaw, DL.thaw, DL.tLRg, DL.keyOf, DL.emE_rr, DL.tLess, DL.tLessS, DL.itOk, DL.rAdd_ii, DL.rAdd_ss, DL.rAdd_tt, DL.rAdd_rr, DL.rSub_ii, DL.rMod_ii, DL.rDiv_ii, DL.rPow_ii, DL.rMul_ii, DL.rMul_ri, DL.rLt_ii, DL.rLt_ss, DL.rLe_ii, DL.rGt_ii, DL.rGe_ii, DL.rEq_ii, DL.rEq_ss, DL.rEq_bb, DL.rNe_ii, DL.rNe_ss, DL.rNe_bb, DL.rEq_rr, DL.rNe_rr, DL.rEq_tt, DL.rNe_tt, DL.rIn_st, DL.rNotIn_st, DL.rIn_r, DL.rNotIn_r, DL.rIn_ss, DL.rInDO_sl, DL.rInDO_il, DL.rInDO_sd, DL.rInDO_id, DL.rIsN_n, DL.rIsN_t, DL.rIsN_i, DL.rIsN_s, DL.rIsN_r, DL.rNotN_n, DL.rNotN_t, DL.rNotN_i, DL.rNotN_s, DL.rNotN_r, DL.rIx_t, DL.rIx_r, DL.rIx_s, DL.rIxDO_l, DL.rIxDO_ds, DL.rIx0, DL.rIx1, DL.rIx2, DL.rIx3, DL.rSl_t, DL.rSl_s, DL.rSl_o, DL.rSl_r, DL.rSlDO, DL.rSet_r, DL.rSetDO_0, DL.rSetDO_s, DL.rLen_t, DL.rLen_o, DL.rLen_s, DL.rLen_r, DL.rLenDO, DL.rLenDO_d, DL.rList_t, DL.rList_o, DL.rList_r, DL.rListDO, DL.rTuple_t, DL.rTuple_r, DL.rInt_i, DL.rInt_b, DL.rMax, DL.rMin, DL.rSz0, DL.rSz1, DL.rSz2, DL.rSz3, DL.rSz4, DL.rSz5, DL.rSz6, DL.rSz7, DL.rSz8, Option.some.injEq, DL.DO.lst.injEq, exists_eq_left', exists_eq_left, DL.put_same, DL.put_put, true_and, and_true, List.map, List.replicate, List.length, List.cons_append, List.nil_append, Nat.reduceSub, Nat.reduceAdd, decide_eq_true_eq, if_true, if_false, Bool.false_eq_true, Bool.not_true, Bool.not_false])
local macro_rules | `(tactic| walk_at "dlh") => `(tactic| try simp only [*, DL.tAsgD, DL.asg, DL.tVarD, DL.lk, DL.sto, DL.stos, DL.tOpD, DL.tCD, DL.tCallD, DL.tConsD, DL.tNilD, DL.tRetD, DL.endsD, DL.startD, DL.tIfSD, DL.tTestD, DL.tNextD, DL.tDropD, DL.tAndD, DL.tOrD, DL.tNotD, DL.tAndV, DL.tOrV, DL.tNotV, DL.tIfD, DL.tNegD, DL.tTupD, DL.tLstD, DL.tSetD, DL.tMD, DL.tSlD, DL.tPartD, DL.tNoD, DL.tRevD, DL.tForD, DL.tLcD, DL.tIterD, DL.tRng1D, DL.tRng2D, DL.tYesD, DL.wipeD, DL.tDictD, DL.tDictOne, DL.tFldD, DL.tMethD, DL.tMakeD, DL.tSetF, DL.tThaw, DL.thaw, DL.tLRg, DL.keyOf, DL.emE_rr, DL.tLess, DL.tLessS, DL.itOk, DL.rAdd_ii, DL.rAdd_ss, DL.rAdd_tt, DL.rAdd_rr, DL.rSub_ii, DL.rMod_ii, DL.rDiv_ii, DL.rPow_ii, DL.rMul_ii, DL.rMul_ri, DL.rLt_ii, DL.rLt_ss, DL.rLe_ii, DL.rGt_ii, DL.rGe_ii, DL.rEq_ii, DL.rEq_ss, DL.rEq_bb, DL.rNe_ii, DL.rNe_ss, DL.rNe_bb, DL.rEq_rr, DL.rNe_rr, DL.rEq_tt, DL.rNe_tt, DL.rIn_st, DL.rNotIn_st, DL.rIn_r, DL.rNotIn_r, DL.rIn_ss, DL.rInDO_sl, DL.rInDO_il, DL.rInDO_sd, DL.rInDO_id, DL.rIsN_n, DL.rIsN_t, DL.rIsN_i, DL.rIsN_s, DL.rIsN_r, DL.rNotN_n, DL.rNotN_t, DL.rNotN_i, DL.rNotN_s, DL.rNotN_r, DL.rIx_t, DL.rIx_r, DL.rIx_s, DL.rIxDO_l, DL.rIxDO_ds, DL.rIx0, DL.rIx1, DL.rIx2, DL.rIx3, DL.rSl_t, DL.rSl_s, DL.rSl_o, DL.rSl_r, DL.rSlDO, DL.rSet_r, DL.rSetDO_0, DL.rSetDO_s, DL.rLen_t, DL.rLen_o, DL.rLen_s, DL.rLen_r, DL.rLenDO, DL.rLenDO_d, DL.rList_t, DL.rList_o, DL.rList_r, DL.rListDO, DL.rTuple_t, DL.rTuple_r, DL.rInt_i, DL.rInt_b, DL.rMax, DL.rMin, DL.rSz0, DL.rSz1, DL.rSz2, DL.rSz3, DL.rSz4, DL.rSz5, DL.rSz6, DL.rSz7, DL.rSz8, Option.some.injEq, DL.DO.lst.injEq, exists_eq_left', exists_eq_left, DL.put_same, DL.put_put, true_and, and_true, List.map, List.replicate, List.length, List.cons_append, List.nil_append, Nat.reduceSub, Nat.reduceAdd, decide_eq_true_eq, if_true, if_false, Bool.false_eq_true, Bool.not_true, Bool.not_false])
local macro_rules | `(tactic| walk_at "go") => `(tactic| repeat (first | (refine DL.sq ?_; try walk_at "dl") | (refine DL.ifY rfl ?_; try walk_at "dl") | (refine DL.inY rfl (by decide) ?_; try walk_at "dl") | (refine DL.inN rfl (by decide) ?_; try walk_at "dl") | (refine DL.ifN (by decide) ?_; try walk_at "dl")))
abbrev s_law : Stmt := top 29
theorem sc_law : FnScope ["_law_script", "_law_deck_here", "_law_turn", "_law_wide", "_law_names_here", "_law_kinds_here", "_law_doings", "_law_fresh", "_law_meanings_here", "_law_many", "_law_world_here", "_law_due_here", "_law_found", "_law_told", "_law_k", "_law_form_here", "_law_wanted", "_law_one", "_law_meaning"] ["_law_script"] (defScope s_law) := ⟨rfl, rfl, rfl, by decide +kernel, rfl, by decide +kernel, by decide +kernel⟩
def spLaw : SpD := fun ds S Q => ∃ ns : List Int, ds = [.rol (ns.map D.int)] ∧ ns.length ≤ 63 ∧ ∀ S', Q (.bl true) S'
def LwI (sd : D) (a : Addr) : StD → Store → Prop := fun δ S' => ∃ o2 o3 o4 o5 o6 o7 o8 o9 o10 o11 o12 o13 o14 o15 o16 o17 : Option D, δ = [some sd, some (.ref a), o2, o3, o4, o5, o6, o7, o8, o9, o10, o11, o12, o13, o14, o15, o16, o17, none] ∧ Dk a S'
structure Defs (P : Program) (w : World) (K : PySem.W.Frag) (mg : Str → Option Value) (base : Heap) : Prop where
  deck : Df P w K mg base "_law_deck" 140 spDeck
  draw : Df P w K mg base "_law_draw" 140 spDrawC
  words : Df P w K mg base "_law_words_drawn" 140 spWordsDrawn
  meanings : Df P w K mg base "_law_meanings" 140 spMeaningsC
  form : Df P w K mg base "_law_form" 140 (spFormC 6)
  world : Df P w K mg base "_law_world" 140 spWorldD
  due : Df P w K mg base "_law_due" 140 (spDueW 40)
  lholds : Df P w K mg base "_law_holds" 140 (spLHolds 40)
  wth : Df P w K mg base "world_with" 140 spWith
  holds : Df P w K mg base "holds" 140 spHolds
  unfolded : Df P w K mg base "unfolded" 140 spUnfolded
section
variable {P : Program} {w : World} {K : PySem.W.Frag} {mg : Str → Option Value} {base : Heap}
theorem fnG_law {f : Addr} {fd : FuncData} (T : Bt mg) (A : Fun K "law" "law" s_law f fd) (G : Defs P w K mg base) : FnG P w K mg base 141 f fd ["_law_script"] (liftSp K spLaw) := by
  have nd := sc_law.nd
  have G_l_deck := G.deck
  have G_l_draw := G.draw
  have G_l_words_drawn := G.words
  have G_l_meanings := G.meanings
  have G_l_form := G.form
  have G_l_world := G.world
  have G_l_due := G.due
  have G_l_holds := G.lholds
  have G_world_with := G.wth
  have G_holds := G.holds
  have G_unfolded := G.unfolded
  refine fnG_body A rfl sc_law (fun ds S Q h => ?_) (fun cdv A outer s H E hG hr ds S Q h => ?_)
  · obtain ⟨ns, rfl, _⟩ := h
    rfl
  obtain ⟨ns, rfl, hl, h⟩ := h
  have hu := hu_of hr
  have hR := hR_of hr
  refine ⟨_, (dss_cons (ds_set (i := 1) nd rfl (Or.inl rfl) (de_call G_l_deck hr rfl (da_cons (dv 0) da_nil)))
    (dss_cons (ds_for PassesOwn.never rfl (di_range1 rfl T.range_ (da_cons de_int da_nil)) (dg_name (i := 2) nd rfl (Or.inl rfl)) (dss_cons (ds_set (i := 3) nd rfl (Or.inl rfl) (de_cmp (od_eq hr.units) (de_call G_l_draw hr rfl (da_cons (dv 1) (da_cons de_int da_nil))) de_int (nomark _)))
    (dss_cons (ds_asg (de_call G_l_words_drawn hr rfl (da_cons (dv 1) (da_cons de_int da_nil))) (dg_tup rfl (dgs_cons (dg_name (i := 4) nd rfl (Or.inl rfl)) (dgs_cons (dg_name (i := 5) nd rfl (Or.inl rfl)) (dgs_cons (dg_name (i := 6) nd rfl (Or.inl rfl)) (dgs_cons (dg_name (i := 7) nd rfl (Or.inl rfl)) dgs_nil))))))
    (dss_cons (ds_set (i := 8) nd rfl (Or.inl rfl) (de_call G_l_meanings hr rfl (da_cons (dv 1) (da_cons (de_tup (da_cons (dv 4) (da_cons (dv 5) (da_cons (dv 6) da_nil)))) (da_cons (dv 7) (da_cons (dv 3) da_nil))))))
    (dss_cons (ds_set (i := 9) nd rfl (Or.inl rfl) (de_op od_add de_int (de_call G_l_draw hr rfl (da_cons (dv 1) (da_cons (de_ix hu (de_lst (da_cons de_int (da_cons de_int da_nil))) (de_callTy cd_int rfl T.int_ (by decide +kernel) (da_cons (de_cmp od_gt (de_callB cd_len rfl T.len_ (by decide +kernel) (da_cons (dv 8) da_nil)) de_int (nomark _)) da_nil))) da_nil)))))
    (dss_cons (ds_if (dt_val (dv 3)) (dss_one (ds_set (i := 9) nd rfl (Or.inl rfl) (de_op od_add de_int (de_call G_l_draw hr rfl (da_cons (dv 1) (da_cons de_int da_nil)))))) dss_nil)
    (dss_cons (ds_set (i := 10) nd rfl (Or.inl rfl) (de_call G_l_world hr rfl (da_cons (dv 1) (da_cons (dv 4) (da_cons (dv 5) (da_cons (dv 6) (da_cons (dv 9) da_nil)))))))
    (dss_cons (ds_set (i := 11) nd rfl (Or.inl rfl) (de_call G_l_due hr rfl (da_cons (dv 10) (da_cons (dv 8) da_nil))))
    (dss_cons (ds_set (i := 12) nd rfl (Or.inl rfl) (de_call G_world_with hr rfl (da_cons (dv 10) (da_cons (dv 8) da_nil))))
    (dss_cons (ds_if (dt_w (dw_or (dt_not (dt_val (de_callB cd_isi rfl T.isinstance_ (by decide +kernel) (da_cons (dv 12) (da_cons (de_ty (n := "tuple") rfl T.tuple_ (by decide +kernel)) da_nil))))) (dw_or (dt_cmp (od_ne hr.units) (dv 12) (dv 11) (nomark _)) (dw_or (dt_cmp (od_ne hr.units) (de_callB (cd_repr hG hR) rfl T.repr_ (by decide +kernel) (da_cons (dv 12) da_nil)) (de_callB (cd_repr hG hR) rfl T.repr_ (by decide +kernel) (da_cons (dv 11) da_nil)) (nomark _)) (dw_or1 (dt_cmp (od_ne hr.units) (de_call G_world_with hr rfl (da_cons (dv 10) (da_cons (de_tup da_nil) da_nil))) (dv 10) (nomark _))))))) (dss_one (ds_ret de_bl)) dss_nil)
    (dss_cons (ds_set (i := 13) nd rfl (Or.inl rfl) (de_op od_add (dv 5) (de_lc (own := [("_law_meaning", 18)]) (g := GD.one 18) rfl nd (di_any (dv 8)) (blkOk_by (own := [("_law_meaning", 18)]) (N := ["_law_script", "_law_deck_here", "_law_turn", "_law_wide", "_law_names_here", "_law_kinds_here", "_law_doings", "_law_fresh", "_law_meanings_here", "_law_many", "_law_world_here", "_law_due_here", "_law_found", "_law_told", "_law_k", "_law_form_here", "_law_wanted", "_law_one", "_law_meaning"]) (sc := defScope s_law) (by decide +kernel)) (fun _ _ _ _ _ => (dg_name (i := 18) nd rfl (Or.inl rfl))) (fun _ _ _ _ _ => dts_nil) (fun _ _ _ _ _ => (de_ix hu (dv 18) de_int)))))
    (dss_one (ds_for PassesOwn.never rfl (di_range1 rfl T.range_ (da_cons de_int da_nil)) (dg_name (i := 14) nd rfl (Or.inl rfl)) (dss_cons (ds_set (i := 15) nd rfl (Or.inl rfl) (de_call G_l_form hr rfl (da_cons (dv 1) (da_cons (de_tup (da_cons (dv 4) (da_cons (dv 13) (da_cons (dv 6) da_nil)))) (da_cons (de_lst da_nil) (da_cons (de_ix hu (de_lst (da_cons de_int (da_cons de_int da_nil))) (de_callTy cd_int rfl T.int_ (by decide +kernel) (da_cons (dv 3) da_nil))) (da_cons de_str da_nil)))))))
    (dss_cons (ds_set (i := 16) nd rfl (Or.inl rfl) (de_call G_l_holds hr rfl (da_cons (dv 10) (da_cons (dv 8) (da_cons (dv 15) (da_cons de_dict da_nil))))))
    (dss_one (ds_for PassesOwn.never rfl (di_any (de_lst (da_cons (de_call G_holds hr rfl (da_cons (dv 12) (da_cons (dv 15) da_nil))) (da_cons (de_call G_holds hr rfl (da_cons (dv 10) (da_cons (de_call G_unfolded hr rfl (da_cons (dv 8) (da_cons (dv 15) da_nil))) da_nil))) da_nil)))) (dg_name (i := 17) nd rfl (Or.inl rfl)) (dss_one (ds_if (dt_w (dw_or (dt_not (dt_val (de_callB cd_isi rfl T.isinstance_ (by decide +kernel) (da_cons (dv 17) (da_cons (de_ty (n := "bool") rfl T.bool_ (by decide +kernel)) da_nil))))) (dw_or1 (dt_cmp (od_ne hr.units) (dv 17) (dv 16) (nomark _))))) (dss_one (ds_ret de_bl)) dss_nil)))))))))))))))))))
    (dss_one (ds_ret de_bl)))), ?_⟩
  walk_at "go"
  refine ⟨ns, rfl, hl, fun a S1 d1 => ?_⟩
  walk_at "go"
  refine ⟨by decide, ?_⟩
  refine forB_rng (fun _ => LwI (.rol (ns.map D.int)) a) ?_ ?_ ?_
  · exact ⟨none, none, none, none, none, none, none, none, none, none, none, none, none, none, none, none, rfl, d1⟩
  · rintro i δ S' hi ⟨o2, o3, o4, o5, o6, o7, o8, o9, o10, o11, o12, o13, o14, o15, o16, o17, rfl, d2⟩
    walk_at "go"
    refine ⟨a, _, rfl, d2, by decide, by decide, fun r S2 r0 r1 c1 => ?_⟩
    walk_at "dl"
    walk_at "go"
    generalize decide (r = 5) = far
    refine ⟨a, rfl, c1.2, fun p1 p2 p3 p4 ns1 ks dos fr S3 c2' w3 hf hfl hfn hnl hnm hkw hdw hfw hkl hnnd hknd hksrt hdnd => ?_⟩
    have c2 := c1.trans c2'
    walk_at "dl"
    walk_at "go"
    refine ⟨a, p1, p2, p3, p4, ns1, ks, dos, fr, far, rfl, c2.2, w3, hf, hfl, hfn, fun x hx => (hfw x hx).2, hnm, hnl, hkl, fun M S4 c4' hM h6 hh hp hkeys hMC => ?_⟩
    have c4 := c2.trans c4'
    have hKW : ∀ k, keys M k → Wd k := fun k hk => (hfw k (hkeys k hk)).1
    walk_at "dl"
    walk_at "go"
    intro q5 nq5
    have c5 := c4.new (o := .lst [.int 4, .int 3]) d2 nq5
    rw [List.length_map]
    have many : ∃ j : Nat, (2 ≤ j ∧ j ≤ 4) ∧ ∀ (R : KD) (S' : Store), R (.int (j : Nat)) S' → ixSeq [.int 4, .int 3] (.int (if (2 : Int) < (M.length : Int) then 1 else 0)) S' R := by
      by_cases e : (2 : Int) < (M.length : Int)
      · rw [if_pos e]
        exact ⟨3, by decide, fun R S' q => by rw [rIx1]; exact q⟩
      · rw [if_neg e]
        exact ⟨4, by decide, fun R S' q => by rw [rIx0]; exact q⟩
    obtain ⟨j0, ⟨j1, j2⟩, jR⟩ := many
    refine jR _ _ ?_
    refine ⟨a, _, rfl, c5.2, by omega, by omega, fun r2 S6 g0 g1 c6' => ?_⟩
    have c6 := c5.trans c6'
    walk_at "dl"
    refine seq_cut (fun δ' S7 => Ch a S' S7 ∧ Ch a S4 S7 ∧ ∃ m : Nat, (1 ≤ m ∧ m ≤ 9) ∧ δ' = [some (.rol (ns.map D.int)), some (.ref a), some (.int (0 + (i : Int))), some (.bl far), some (.ref p1), some (.ref p2), some (.ref p3), some (.ref p4), some (.tup (M.map Mn.d)), some (.int (m : Nat)), o10, o11, o12, o13, o14, o15, o16, o17, none]) (fun N hN => ?_) ?_
    · have c46 : Ch a S4 S6 := ((Ch.refl c4.2).new c4.2 nq5).trans c6'
      obtain ⟨m2, rfl⟩ : ∃ m : Nat, r2 = m := ⟨r2.toNat, by omega⟩
      cases far with
      | true =>
        walk_at "go"
        refine ⟨a, _, rfl, c6.2, by decide, by decide, fun r3 S7 k0 k1 c7' => ?_⟩
        walk_at "dl"
        obtain ⟨m3, rfl⟩ : ∃ m : Nat, r3 = m := ⟨r3.toNat, by omega⟩
        exact hN _ _ ⟨c6.trans c7', c46.trans c7', 5 + m3, by omega, rfl⟩
      | false =>
        walk_at "go"
        exact hN _ _ ⟨c6, c46, 1 + m2, by omega, rfl⟩
    rintro δ' S7 ⟨c7, c47, m, ⟨m1, m9⟩, rfl⟩
    have w7 := w3.ch c2.2 (c4'.trans c47)
    walk_at "go"
    refine ⟨a, p1, p2, p3, ns1, ks, dos, m, rfl, c7.2, w7, m1, m9, fun W S8 c8' hW => ?_⟩
    have c8 := c7.trans c8'
    -- the world is fit
    have hWM : WM (· ∈ ks) (· ∈ dos) W M := by
      refine ⟨hM, ⟨by rw [hW.n]; exact hnnd, by rw [hW.k]; exact hknd, by rw [hW.d]; exact hdnd, by rw [hW.m]; omega⟩, fun s => by rw [hW.k], fun s hs => ?_, fun mm hmm => ?_, fun s i e => ?_⟩
      · exact lookup_none.mpr (by rw [hW.d]; exact hs)
      · obtain ⟨i, hi⟩ := List.getElem?_of_mem hmm
        obtain ⟨_, _, _, q⟩ := hMC i mm hi
        refine q.imp fun s hs => hs.imp id fun z => ?_
        exact lookup_none.mpr (by rw [hW.n]; exact z)
      · have := (lookup_mem (by rw [hW.n]; exact hnnd)).mp e
        rw [hW.m]
        exact hW.nl _ this
    have nmI : ∀ s, (W.nm s).isSome = true ↔ s ∈ ns1 := fun s => by
      have := lookup_none (s := s) (l := W.nms)
      rw [hW.n] at this
      exact this
    have hGM : GM W M := by
      refine ⟨fun s hs => hnm s ((nmI s).mp hs), fun i mm e => ?_⟩
      obtain ⟨q1, q2, q3, _⟩ := hMC i mm e
      exact ⟨q1, q2, q3.imp (fun s hs => hs.imp (nmI s).mpr id) (fun _ z => z) fun _ z => z⟩
    have hsrt : KSrt W.kds := ksrt_of (by rw [hW.k]; exact hknd) (by rw [hW.k]; exact hksrt)
    have lk : W.kds.length = ks.length := by rw [← hW.k, List.length_map]
    have ln : W.nms.length = ns1.length := by rw [← hW.n, List.length_map]
    have ld : W.dgs.length = dos.length := by rw [← hW.d, List.length_map]
    have hwsm : WoSm W := by
      refine ⟨by rw [hW.m]; omega, by omega, by omega, by rw [ld]; have := w3.ld; omega, fun p hp => ?_, fun p hp => ?_, fun p hp => ?_⟩
      · refine ⟨(hnm p.1 (by rw [← hW.n]; exact List.mem_map.mpr ⟨p, hp, rfl⟩)).lo, ?_⟩
        have := hW.nl p hp
        omega
      · obtain ⟨b1, b2⟩ := hW.kl p hp
        exact ⟨(hkw p.1 (by rw [← hW.k]; exact List.mem_map.mpr ⟨p, hp, rfl⟩)).lo, by omega, fun i hi => by have := b2 i hi; omega⟩
      · obtain ⟨b1, b2⟩ := hW.dl p hp
        have hmm : m * m ≤ 9 * 9 := Nat.mul_le_mul m9 m9
        exact ⟨(hdw p.1 (by rw [← hW.d]; exact List.mem_map.mpr ⟨p, hp, rfl⟩)).lo, by omega, fun i hi => by have := b2 i hi; omega⟩
    have hwsm2 : WoSm (wwith W M) := wwith_sm hwsm (by omega) (by rw [hW.m]; omega) fun mm hmm => (hKW mm.k ⟨mm, hmm, rfl⟩).lo
    have hmnw := mnw_of hWM hGM (fun s hs => hdw s hs) h6 (by omega)
    have kng := hM.kng (fun s hs => hdw s hs) h6 (by omega)
    have htm : ∀ mm ∈ M, mm.g.ht ≤ 60 := fun mm hmm => by have := hs_mem hmm; omega
    walk_at "dl"
    walk_at "go"
    refine ⟨(· ∈ ks), (· ∈ dos), W, M, rfl, hWM, hsrt, by omega, by decide, by omega, by omega, ?_⟩
    walk_at "dl"
    walk_at "go"
    refine ⟨W, M, rfl, hmnw, by omega, by omega, by omega, ?_⟩
    walk_at "dl"
    refine seq_if (fun _ => False) (fun S9 => S9 = S8) (fun N N1 N2 => ?_) (fun S' z => z.elim) ?_
    · walk_at "dl"
      refine ⟨_, _, rfl, kit_tt, ?_⟩
      walk_at "dl"
      refine oNe_world hwsm2 ?_
      walk_at "dl"
      refine oRepr_world hwsm2 (oRepr_world hwsm2 ?_)
      walk_at "dl"
      refine ⟨W, [], rfl, (fun M1 mm M2 e => by simp at e), by omega, by omega, by simp, ?_⟩
      refine oNe_world hwsm ?_
      exact N2 _ rfl
    rintro S9 rfl
    walk_at "go"
    intro q9 nq9
    refine lcB_zip (M.map Mn.d) ((M.map (·.k)).map D.str) (by simp) (fun k acc => rfl) (by rw [List.length_map]; exact szOk (by omega)) (fun k d r acc Y N e1 e2 y => ?_) ?_
    · rw [List.getElem?_map] at e1
      rw [List.getElem?_map, List.getElem?_map] at e2
      cases e : M[k]? with
      | none => rw [e] at e1; cases e1
      | some mn =>
        rw [e] at e1 e2
        cases e1
        cases e2
        simp only [Mn.d]
        walk_at "dl"
        exact y
    have w8 := w7.ch c7.2 c8'
    have c9 : Ch a S9 (put S9 q9 (.lst ((M.map (·.k)).map D.str))) := (Ch.refl c8.2).new c8.2 nq9
    walk_at "dl"
    have n29 : p2 ≠ q9 := fun z => by have := w8.k; rw [z, nq9] at this; cases this
    refine ⟨_, _, (put_ne n29).trans w8.k, rfl, szOk (by rw [List.length_map, List.length_map, List.length_map]; omega), fun pt npt => ?_⟩
    have c10 := c9.new (o := .lst (ks.map D.str ++ (M.map (·.k)).map D.str)) c8.2 npt
    have hpt : put (put S9 q9 (.lst ((M.map (·.k)).map D.str))) pt (.lst (ks.map D.str ++ (M.map (·.k)).map D.str)) pt = some (.lst ((ks ++ M.map (·.k)).map D.str)) := by rw [put_same, List.map_append]
    generalize put (put S9 q9 (.lst ((M.map (·.k)).map D.str))) pt (.lst (ks.map D.str ++ (M.map (·.k)).map D.str)) = S10 at c10 hpt
    have w10' := w8.ch c8.2 c10
    have w10 : Wrds S10 p1 pt p3 ns1 (ks ++ M.map (·.k)) dos := ⟨w10'.n, hpt, w10'.d, by omega, by rw [List.length_append, List.length_map]; omega, w10'.ld⟩
    have kk : ∀ k, k ∈ ks ++ M.map (·.k) → k ∈ ks ∨ keys M k := fun k hk => by
      rcases List.mem_append.mp hk with hk | hk
      · exact .inl hk
      · obtain ⟨z, hz, e⟩ := List.mem_map.mp hk
        exact .inr ⟨z, hz, e⟩
    walk_at "go"
    refine ⟨by decide, ?_⟩
    refine forB_rng (fun _ δ S' => Ch a S10 S' ∧ ∃ o14 o15 o16 o17 : Option D, δ = [some (.rol (ns.map D.int)), some (.ref a), some (.int (0 + (i : Int))), some (.bl far), some (.ref p1), some (.ref p2), some (.ref p3), some (.ref p4), some (.tup (M.map Mn.d)), some (.int (m : Nat)), some W.d, some (wwith W M).d, some (wwith W M).d, some (.ref pt), o14, o15, o16, o17, none]) ?_ ?_ ?_
    · exact ⟨Ch.refl c10.2, _, _, _, _, rfl⟩
    · rintro i2 δ S11 hi2 ⟨c11, u14, u15, u16, u17, rfl⟩
      walk_at "dl"
      walk_at "go"
      intro q12 nq12
      have c12 := c11.new (o := .lst []) c10.2 nq12
      intro q13 nq13
      have c13 := c12.new (o := .lst [.int 3, .int 2]) c10.2 nq13
      have ne13 : q12 ≠ q13 := fun z => by rw [z, put_same] at nq13; cases nq13
      have deep : ∃ dp : Nat, (2 ≤ dp ∧ dp ≤ 3) ∧ ∀ (R : KD) (S' : Store), R (.int (dp : Nat)) S' → ixSeq [.int 3, .int 2] (.int (if far = true then 1 else 0)) S' R := by
        cases far with
        | true => exact ⟨2, by decide, fun R S' q => by rw [if_pos rfl, rIx1]; exact q⟩
        | false => exact ⟨3, by decide, fun R S' q => by rw [if_neg (by decide), rIx0]; exact q⟩
      obtain ⟨dp, ⟨dp1, dp2⟩, dR⟩ := deep
      refine dR _ _ ?_
      have e0 : ns1 ++ ([] : List Str) = ns1 := List.append_nil _
      have eb := emp_le (xs := ns1 ++ [])
      refine ⟨fun s => s ∈ ns1 ∨ ltS s, a, p1, pt, p3, q12, ns1, _, dos, [], dp, "", rfl, c13.2, w10.ch c10.2 c13, (put_ne ne13).trans put_same, by simp only [List.length_nil]; omega, by omega, fun x hx => .inl hx, (fun x hx => by cases hx), fun c hc => .inr ⟨c, hc, by rw [app_toList]; rfl⟩, by decide, fun F S14 c14' ok14 cl14 bd14 ht14 sz14 => ?_⟩
      have c14 := c13.trans c14'
      have okF := ok14.imp (fun _ z => z) kk fun _ z => z
      have hcl : F.cl fun s => (W.nm s).isSome = true := cl14.imp fun s hs => (nmI s).mpr (hs.resolve_right fun z => by cases z)
      have hbd : F.bd ltS := bd14.imp fun s ⟨c, hc, e⟩ => ⟨c, hc, by rw [e, app_toList]; rfl⟩
      have hev := ev_world hWM hGM F (okF.imp (fun s hs => hs.imp (nmI s).mpr id) (fun _ _ => trivial) fun _ _ => trivial) hbd hcl
      have hht : F.ht ≤ 5 := by omega
      walk_at "dl"
      walk_at "go"
      intro q15 nq15
      have c15 := c14.new (o := .dk []) c10.2 nq15
      refine ⟨(· ∈ ks), (· ∈ dos), W, M, [], F, q15, [], fun _ => none, by rw [List.append_nil], by rw [List.append_nil]; exact hWM, put_same, fun s => rfl, (fun s i e => by cases e), by simp only [List.length_nil]; omega, by omega, hcl.imp fun s hs => .inr hs, okF.imp (fun _ _ => trivial) (fun _ z => z) fun _ z => z, ?_⟩
      rw [List.append_nil]
      walk_at "dl"
      walk_at "go"
      obtain ⟨w1, w2, w3', _⟩ := wwith_nms (W := W) (M := M)
      refine ⟨wwith W M, F, rfl, wwith_ok hWM, by omega, hcl.imp fun s hs => ?_, okF.imp (fun _ _ => trivial) (fun k hk => kd_isSome.mpr (((wwith_keys hM hWM.ok.k hWM.b).2 k).mpr hk)) (fun d hd => ?_), ?_⟩
      · unfold Wo.nm; rw [w1]; exact hs
      · unfold Wo.dg; rw [w3']; exact hWM.d d hd
      walk_at "dl"
      refine ⟨M, F, rfl, kng, htm, by omega, by omega, ?_⟩
      walk_at "dl"
      have hunf : (unf (knOf M) F).ht ≤ 60 := by
        have := unf_ht (f := knOf M) (b := hs M) (fun k y g e => (hM.bounds k y g e).2) F
        omega
      refine ⟨W, unf (knOf M) F, rfl, hWM.ok, hunf, unf_cl (fun k x g e => (kn_things hM hWM.ok.k hWM.b hWM.cl hWM.lt hGM k x g e).1) (fun s hs => hs) hcl, (hM.unf (T := fun _ => True) (fun _ _ => trivial) (okF.imp (fun _ _ => trivial) (fun _ z => z) fun _ z => z)).imp (fun _ _ => trivial) (fun k hk => kd_isSome.mpr ((hWM.b k).mpr hk)) (fun d hd => hWM.d d hd), ?_⟩
      walk_at "dl"
      rw [hev]
      intro q16 nq16
      have c16 := c15.new (o := .lst [.bl (ev (wwith W M) (fun _ => none) F), .bl (ev (wwith W M) (fun _ => none) F)]) c10.2 nq16
      generalize ev (wwith W M) (fun _ => none) F = b at c16 ⊢
      refine ⟨⟨_, rfl⟩, ?_⟩
      refine forB_seq [.bl b, .bl b] (fun _ δ S' => Ch a S10 S' ∧ S' q16 = some (.lst [.bl b, .bl b]) ∧ ∃ o17 : Option D, δ = [some (.rol (ns.map D.int)), some (.ref a), some (.int (0 + (i : Int))), some (.bl far), some (.ref p1), some (.ref p2), some (.ref p3), some (.ref p4), some (.tup (M.map Mn.d)), some (.int (m : Nat)), some W.d, some (wwith W M).d, some (wwith W M).d, some (.ref pt), some (.int (0 + (i2 : Int))), some F.d, some (.bl b), o17, none]) ?_ ?_ ?_ ?_
      · exact ⟨c16, put_same, _, rfl⟩
      · rintro j δ S' _ ⟨_, hq, _⟩
        exact listJ hq
      · rintro j d δ S17 hd ⟨c17, hq, v17, rfl⟩
        have ed : d = .bl b := by
          rcases j with _ | _ | j
          · exact (Option.some.inj hd).symm
          · exact (Option.some.inj hd).symm
          · simp at hd
        subst ed
        walk_at "dl"
        refine ⟨_, _, rfl, kit_bb, ?_⟩
        walk_at "dl"
        exact ⟨c17, hq, _, rfl⟩
      · rintro δ S17 ⟨c17, hq, v17, rfl⟩
        exact ⟨c17, _, _, _, _, rfl⟩
    · rintro δ S11 ⟨c11, u14, u15, u16, u17, rfl⟩
      exact ⟨_, _, _, _, _, _, _, _, _, _, _, _, _, _, _, _, rfl, c11.2⟩
  · rintro δ S' ⟨o2, o3, o4, o5, o6, o7, o8, o9, o10, o11, o12, o13, o14, o15, o16, o17, rfl, d2⟩
    walk_at "dl"
    exact ⟨S', Sub.refl, h S'⟩
end
end K72

set_option Elab.async false
set_option maxRecDepth 100000
set_option linter.unusedVariables false
namespace K72
open PySem PySem.Spec PyProof.Rows L2 DL
/-- what stands at the top -/
structure Top (K : PySem.W.Frag) (mg : Str → Option Value) (C : Addr) : Prop where
  bt : Bt mg
  f_holds : At K mg "holds" "holds" s_holds
  f_put_term : At K mg "put_term" "put_term" s_put_term
  f_unfolded_by : At K mg "unfolded_by" "unfolded_by" s_unfolded_by
  f_unfolded : At K mg "unfolded" "unfolded" s_unfolded
  f_free_name : At K mg "free_name" "free_name" s_free_name
  f_things_of : At K mg "things_of" "things_of" s_things_of
  f_world_with : At K mg "world_with" "world_with" s_world_with
  f_l_mixed : At K mg "_law_mixed" "_law_mixed" s_l_mixed
  f_l_deck : At K mg "_law_deck" "_law_deck" s_l_deck
  f_l_draw : At K mg "_law_draw" "_law_draw" s_l_draw
  f_l_word : At K mg "_law_word" "_law_word" s_l_word
  f_l_kinds : At K mg "_law_kinds" "_law_kinds" s_l_kinds
  f_l_names : At K mg "_law_names" "_law_names" s_l_names
  f_l_leaf : At K mg "_law_leaf" "_law_leaf" s_l_leaf
  f_l_form : At K mg "_law_form" "_law_form" s_l_form
  f_l_words_drawn : At K mg "_law_words_drawn" "_law_words_drawn" s_l_words_drawn
  f_l_meanings : At K mg "_law_meanings" "_law_meanings" s_l_meanings
  f_l_world : At K mg "_law_world" "_law_world" s_l_world
  f_l_thing : At K mg "_law_thing" "_law_thing" s_l_thing
  f_l_of_kind : At K mg "_law_of_kind" "_law_of_kind" s_l_of_kind
  f_l_holds : At K mg "_law_holds" "_law_holds" s_l_holds
  f_l_due : At K mg "_law_due" "_law_due" s_l_due
  c_JOINED : Cst K mg "JOINED" (.tup [.str "not", .str "and", .str "or", .str "if"])
  c_BOUND : Cst K mg "BOUND" (.tup [.str "every", .str "some"])
  vc : Vc K mg C
  m_thing : AtM K C "thing" "View.thing" s_View_thing
  m_count : AtM K C "count" "View.count" s_View_count
  m_keeps_plain : AtM K C "keeps_plain" "View.keeps_plain" s_View_keeps_plain
  m_keeps_of : AtM K C "keeps_of" "View.keeps_of" s_View_keeps_of
  m_keeps : AtM K C "keeps" "View.keeps" s_View_keeps
  ini : ∃ f fd, Fun K "__init__" "View.__init__" s_View___init__ f fd ∧ L2.Mk K C f
theorem Top.defs {P : Program} {w : World} {K : PySem.W.Frag} {mg : Str → Option Value} {base : Heap} {C : Addr} (t : Top K mg C) : Defs P w K mg base := by
  have mixed := df_mixed (P := P) (w := w) (base := base) (k := 0) t.f_l_mixed
  have draw := df_drawC (df_draw t.bt t.f_l_draw mixed)
  have word := df_word t.bt t.f_l_word draw
  have names := df_names t.bt t.f_l_names (draw.mono (show 2 ≤ 3 by decide)) word
  have kinds := df_kinds t.bt t.f_l_kinds (draw.mono (show 2 ≤ 3 by decide)) word
  have leaf := df_leaf t.bt t.f_l_leaf draw
  have form := df_formC t.bt t.f_l_form (draw.mono (show 2 ≤ 3 by decide)) leaf
  have words := df_words_drawn t.bt t.f_l_words_drawn (draw.mono (show 2 ≤ 4 by decide)) names kinds
  have meanings := df_meanings t.bt t.f_l_meanings (draw.mono (show 2 ≤ 20 by decide)) ((form 4).mono (show 8 ≤ 20 by decide))
  have deck := df_deck (P := P) (w := w) (base := base) (k := 0) t.bt t.f_l_deck
  have world := df_lworld t.bt t.f_l_world draw
  have putM := df_putM (P := P) (w := w) (base := base) t.bt t.f_put_term t.c_JOINED t.c_BOUND 60
  have unfBy := df_unfBy t.bt t.f_unfolded_by t.c_JOINED t.c_BOUND putM 60
  have unfd := df_unfolded t.bt t.f_unfolded unfBy
  have lthing := df_lthing (P := P) (w := w) (base := base) (k := 0) t.bt t.f_l_thing
  have lholds := df_lholds t.bt t.f_l_holds t.f_l_of_kind lthing 40 (by decide)
  have ofKind := df_ofKind t.bt t.f_l_of_kind lholds
  have due := df_lawdue t.bt t.f_l_due ofKind
  have cnt := df_count (P := P) (w := w) (mg := mg) (base := base) (k := 0) t.m_count
  have thing := df_thing (P := P) (w := w) (base := base) (k := 0) t.bt t.vc t.m_thing
  have plain := df_plain t.bt t.vc t.m_keeps_plain thing cnt
  have keeps := df_keeps t.bt t.vc t.m_keeps t.m_keeps_of plain 60
  obtain ⟨fi, fdi, Fi, mki⟩ := t.ini
  have ini : DfI P w K mg base C 123 (spInitC C) := ⟨fi, fdi, ["self", "world"], (df_init (k := 0) t.bt t.vc Fi).mono (by decide), mki, Fi.binds fun _ _ _ _ _ _ us hl => match us, hl with | [_, _], _ => rfl⟩
  have holds := df_holds t.bt t.vc t.f_holds keeps ini
  have free := df_free (P := P) (w := w) (base := base) (k := 0) t.bt t.f_free_name
  have things := df_things t.bt t.f_things_of (free.mono (show 1 ≤ 125 by decide)) (putM.mono (show 61 ≤ 125 by decide)) holds
  have wth := df_with t.bt t.f_world_with things
  exact ⟨deck.mono (by decide), draw.mono (by decide), words.mono (by decide), meanings.mono (by decide), (form 6).mono (by decide), world.mono (by decide), due.mono (by decide), lholds.mono (by decide), wth.mono (by decide), holds.mono (by decide), unfd.mono (by decide)⟩
theorem cst_mk {K : PySem.W.Frag} {h : Heap} {mg : Str → Option Value} (X : K.In h) (G : h.Ns mainGlobals mg) {x : Str} {p : Addr} {dd : Option Addr} {its : Array Value} {n : Nat} {sl : Array (Option Value)} {ys : List Str}
    (a : PySem.W.nsIn K mainGlobals x = some (some (.ref p))) (l : K.lookup p = some ⟨.type "tuple", dd, .seq its n, sl⟩) (hz : its.size ≤ 100) (hv : Vals (ys.map V.str) its.toList) : Cst K mg x (.tup (ys.map D.str)) :=
  ⟨.ref p, .ref p, PySem.W.mg_of X G a, rfl, fun H => ⟨p, ys.map V.str, rfl, .inr ⟨_, its, n, l, rfl, rfl, szOk (by omega), hv⟩, RDs.of_map (f := D.str) (g := V.str) (fun _ => rfl) ys⟩⟩
/-! ### the call of the law -/
/-- what is seen at the start: the script, if it is not the module's own -/
def eyes (K : PySem.W.Frag) (a : Addr) (o : Obj) (ns : List Int) : Hp := fun b => if b = a ∧ K.lookup a = none then some (.frz o (.lst (ns.map V.int))) else none
theorem eyes_some {K : PySem.W.Frag} {a b : Addr} {o : Obj} {ns : List Int} {u : HO} (h : eyes K a o ns b = some u) : b = a ∧ K.lookup a = none ∧ u = .frz o (.lst (ns.map V.int)) := by
  unfold eyes at h
  split at h
  · rename_i c
    cases h
    exact ⟨c.1, c.2, rfl⟩
  · cases h
theorem called {P : Program} {w : World} {K : PySem.W.Frag} {mg mb : Str → Option Value} {fa a : Addr} {fd : FuncData} {s : Shared} {vs : List Value} {ns : List Int} (KX : K.In s.heap) (hG : s.heap.Ns mainGlobals mg) (hB : s.heap.Ns builtinsNs mb)
    (hbb : ∀ x : Str, x ≠ "__name__" → mb x = bootBuiltins x) (hN : s.heap.NoLimit) (hg : s.gens = #[]) (ha : s.heap.get? a = some { cls := .type "list", data := .seq vs.toArray }) (hi : IntsAre vs ns) (hl : ns.length ≤ 63)
    (F : ∀ base : Heap, FnG P w K mg base 141 fa fd ["_law_script"] (liftSp K spLaw)) (hb : ∀ (s : Shared) (u : Value), BindsTo s fd ⟨[u], []⟩ [("_law_script", u)]) :
    codeAny (model P w) callerA (.call (.ref fa) ⟨[.ref a], []⟩) (fun r s' => r = .ok (.ret (.bool true)) ∧ OldK s.heap s'.heap ∧ s'.os = s.os ∧ AllBare s'.gens) s := by
  have rel := vals_ints hi
  have hlen := hi.length
  let o : Obj := { cls := .type "list", data := .seq vs.toArray }
  let H := eyes K a o ns
  have none_of : ∀ {b : Addr} {ob : Obj} {es : Array DictEntry} {ep : Nat}, s.heap.get? b = some ob → ob.data = .dict es ep → H b = none := by
    intro b ob es ep e d
    cases q : H b with
    | none => rfl
    | some u =>
      obtain ⟨rfl, _, _⟩ := eyes_some q
      rw [ha] at e
      cases e
      exact (nomatch d)
  have ns_of : ∀ {b : Addr} {m : Str → Option Value}, s.heap.Ns b m → (hidT s.heap H).Ns b m := by
    rintro b m ⟨ob, es, ep, e, d, r⟩
    exact ⟨ob, es, ep, hidT_get e (none_of e d), d, r⟩
  have k_of : K.In (hidT s.heap H) := by
    intro b ob e
    refine hidT_get (KX b ob e) ?_
    cases q : H b with
    | none => rfl
    | some u =>
      obtain ⟨rfl, e2, _⟩ := eyes_some q
      rw [e2] at e
      cases e
  have sees : HOk P w H s.heap := by
    intro b u q
    obtain ⟨rfl, _, rfl⟩ := eyes_some q
    exact ⟨ha, by rw [List.length_map]; exact szOk (by omega), vs, _, rel, ha⟩
  have seq : SqR K H a (ns.map V.int) := by
    cases e : K.lookup a with
    | none => exact .inl ⟨o, if_pos ⟨rfl, e⟩⟩
    | some ob =>
      have e2 := KX a ob e
      rw [ha] at e2
      cases e2
      exact .inr ⟨_, vs.toArray, _, e, rfl, rfl, rfl, by rw [List.size_toArray, hlen]; exact szOk (by omega), by simpa using rel⟩
  have wish : liftSp K spLaw [.ref a] H (fun v _ => v = .bl true) fun _ _ _ => False :=
    ⟨[.rol (ns.map D.int)], fun _ => none, fun d _ => d = .bl true, ⟨.ref a, [], rfl, ⟨a, ns.map V.int, rfl, seq, RDs.of_map (f := D.int) (g := V.int) (fun _ => rfl) ns⟩, rfl⟩, (fun b ob e => nomatch e), ⟨ns, rfl, hl, fun _ => rfl⟩,
      fun d S' v H' q _ r _ => by subst q; exact r⟩
  have hM : Mod K mg (hidT s.heap H) := ⟨k_of, ns_of hG, ⟨mb, ns_of hB, hbb⟩, let ⟨mc, h1, h2⟩ := hN; ⟨mc, ns_of h1, h2⟩⟩
  have here : Env0 P w K mg (hidT s.heap H) callerA [] s H := ⟨rfl, hM, fun b ob e => of_hidT e, Nat.le_of_eq (hidT_size _ _), trivial, (fun b z => nomatch (show b ∈ ([] : List Addr) from z)), sees, .of_eq hg⟩
  have run := (F (hidT s.heap H)).run callerA [] s H ⟨[.ref a], []⟩ [.ref a] [.ref a] _ _ rfl ⟨rfl, by decide, by decide⟩ here (hb s (.ref a)) (.cons rfl .nil) wish
  refine codeAny_mono run ?_
  intro r s' z
  cases r with
  | error e => exact z.elim
  | ok fl =>
    cases fl with
    | next => exact z.elim
    | brk => exact z.elim
    | cont => exact z.elim
    | ret u =>
      obtain ⟨v, H', os, bare, un, ok2, rv, ev⟩ := z
      cases (show v = .bl true from ev)
      cases (show u = Value.bool true from rv)
      refine ⟨rfl, OldK.of_keep (fun b ob e => ?_), os, bare⟩
      cases q : H b with
      | none => exact un.keep b ob e q (fun z => nomatch (show b ∈ ([] : List Addr) from z)) (by simp)
      | some u =>
        obtain ⟨rfl, _, rfl⟩ := eyes_some q
        obtain ⟨e3, _⟩ := ok2 _ _ (un.frzs _ _ _ q)
        rw [ha] at e
        cases e
        exact e3
theorem all_mk {l : PySem.W.OpenLaw} {w : World} {K : PySem.W.Frag} {h : Heap} {mg : Str → Option Value} {fa C f1 f2 f3 f4 f5 f6 f7 f8 f9 f10 f11 f12 f13 f14 f15 f16 f17 f18 f19 f20 f21 f22 f23 f24 f25 f26 f27 f28 f29 : Addr} (X : K.In h) (G : h.Ns mainGlobals mg) (hfa : mg "law" = some (.ref fa))
    {od1 an1 od2 an2 od3 an3 od4 an4 od5 an5 od6 an6 od7 an7 od8 an8 od9 an9 od10 an10 od11 an11 od12 an12 od13 an13 od14 an14 od15 an15 od16 an16 od17 an17 od18 an18 od19 an19 od20 an20 od21 an21 od22 an22 od23 an23 od24 an24 od25 an25 od26 an26 od27 an27 od28 an28 od29 an29 : Option Addr} {sl1 sl2 sl3 sl4 sl5 sl6 sl7 sl8 sl9 sl10 sl11 sl12 sl13 sl14 sl15 sl16 sl17 sl18 sl19 sl20 sl21 sl22 sl23 sl24 sl25 sl26 sl27 sl28 sl29 : Array (Option Value)} {oc1 kV1 dc1 pm1 cd1 ct1 oc2 kV2 dc2 pm2 cd2 ct2 oc3 kV3 dc3 pm3 cd3 ct3 oc4 kV4 dc4 pm4 cd4 ct4 oc5 kV5 dc5 pm5 cd5 ct5 oc6 kV6 dc6 pm6 cd6 ct6 oc7 kV7 dc7 pm7 cd7 ct7 oc8 kV8 dc8 pm8 cd8 ct8 oc9 kV9 dc9 pm9 cd9 ct9 oc10 kV10 dc10 pm10 cd10 ct10 oc11 kV11 dc11 pm11 cd11 ct11 oc12 kV12 dc12 pm12 cd12 ct12 oc13 kV13 dc13 pm13 cd13 ct13 oc14 kV14 dc14 pm14 cd14 ct14 oc15 kV15 dc15 pm15 cd15 ct15 oc16 kV16 dc16 pm16 cd16 ct16 oc17 kV17 dc17 pm17 cd17 ct17 oc18 kV18 dc18 pm18 cd18 ct18 oc19 kV19 dc19 pm19 cd19 ct19 oc20 kV20 dc20 pm20 cd20 ct20 oc21 kV21 dc21 pm21 cd21 ct21 oc22 kV22 dc22 pm22 cd22 ct22 oc23 kV23 dc23 pm23 cd23 ct23 oc24 kV24 dc24 pm24 cd24 ct24 oc25 kV25 dc25 pm25 cd25 ct25 oc26 kV26 dc26 pm26 cd26 ct26 oc27 kV27 dc27 pm27 cd27 ct27 oc28 kV28 dc28 pm28 cd28 ct28 oc29 kV29 dc29 pm29 cd29 ct29 : Value}
    (a1 : PySem.W.nsIn K mainGlobals "holds" = some (some (.ref f1))) (l1 : K.lookup f1 = some ⟨oc1, od1, .func (PySem.W.fnOf "holds" "holds" (defArgs s_holds) (defBody s_holds) (defScope s_holds) .none kV1 dc1 pm1 an1 cd1 ct1), sl1⟩) (c1 : PySem.W.codeIn K cd1 "holds" = true) (k1 : PySem.W.keepIn K (.ref f1) = true)
    (a2 : PySem.W.nsIn K mainGlobals "put_term" = some (some (.ref f2))) (l2 : K.lookup f2 = some ⟨oc2, od2, .func (PySem.W.fnOf "put_term" "put_term" (defArgs s_put_term) (defBody s_put_term) (defScope s_put_term) .none kV2 dc2 pm2 an2 cd2 ct2), sl2⟩) (c2 : PySem.W.codeIn K cd2 "put_term" = true) (k2 : PySem.W.keepIn K (.ref f2) = true)
    (a3 : PySem.W.nsIn K mainGlobals "unfolded_by" = some (some (.ref f3))) (l3 : K.lookup f3 = some ⟨oc3, od3, .func (PySem.W.fnOf "unfolded_by" "unfolded_by" (defArgs s_unfolded_by) (defBody s_unfolded_by) (defScope s_unfolded_by) .none kV3 dc3 pm3 an3 cd3 ct3), sl3⟩) (c3 : PySem.W.codeIn K cd3 "unfolded_by" = true) (k3 : PySem.W.keepIn K (.ref f3) = true)
    (a4 : PySem.W.nsIn K mainGlobals "unfolded" = some (some (.ref f4))) (l4 : K.lookup f4 = some ⟨oc4, od4, .func (PySem.W.fnOf "unfolded" "unfolded" (defArgs s_unfolded) (defBody s_unfolded) (defScope s_unfolded) .none kV4 dc4 pm4 an4 cd4 ct4), sl4⟩) (c4 : PySem.W.codeIn K cd4 "unfolded" = true) (k4 : PySem.W.keepIn K (.ref f4) = true)
    (a5 : PySem.W.nsIn K mainGlobals "free_name" = some (some (.ref f5))) (l5 : K.lookup f5 = some ⟨oc5, od5, .func (PySem.W.fnOf "free_name" "free_name" (defArgs s_free_name) (defBody s_free_name) (defScope s_free_name) .none kV5 dc5 pm5 an5 cd5 ct5), sl5⟩) (c5 : PySem.W.codeIn K cd5 "free_name" = true) (k5 : PySem.W.keepIn K (.ref f5) = true)
    (a6 : PySem.W.nsIn K mainGlobals "things_of" = some (some (.ref f6))) (l6 : K.lookup f6 = some ⟨oc6, od6, .func (PySem.W.fnOf "things_of" "things_of" (defArgs s_things_of) (defBody s_things_of) (defScope s_things_of) .none kV6 dc6 pm6 an6 cd6 ct6), sl6⟩) (c6 : PySem.W.codeIn K cd6 "things_of" = true) (k6 : PySem.W.keepIn K (.ref f6) = true)
    (a7 : PySem.W.nsIn K mainGlobals "world_with" = some (some (.ref f7))) (l7 : K.lookup f7 = some ⟨oc7, od7, .func (PySem.W.fnOf "world_with" "world_with" (defArgs s_world_with) (defBody s_world_with) (defScope s_world_with) .none kV7 dc7 pm7 an7 cd7 ct7), sl7⟩) (c7 : PySem.W.codeIn K cd7 "world_with" = true) (k7 : PySem.W.keepIn K (.ref f7) = true)
    (a8 : PySem.W.nsIn K mainGlobals "_law_mixed" = some (some (.ref f8))) (l8 : K.lookup f8 = some ⟨oc8, od8, .func (PySem.W.fnOf "_law_mixed" "_law_mixed" (defArgs s_l_mixed) (defBody s_l_mixed) (defScope s_l_mixed) .none kV8 dc8 pm8 an8 cd8 ct8), sl8⟩) (c8 : PySem.W.codeIn K cd8 "_law_mixed" = true) (k8 : PySem.W.keepIn K (.ref f8) = true)
    (a9 : PySem.W.nsIn K mainGlobals "_law_deck" = some (some (.ref f9))) (l9 : K.lookup f9 = some ⟨oc9, od9, .func (PySem.W.fnOf "_law_deck" "_law_deck" (defArgs s_l_deck) (defBody s_l_deck) (defScope s_l_deck) .none kV9 dc9 pm9 an9 cd9 ct9), sl9⟩) (c9 : PySem.W.codeIn K cd9 "_law_deck" = true) (k9 : PySem.W.keepIn K (.ref f9) = true)
    (a10 : PySem.W.nsIn K mainGlobals "_law_draw" = some (some (.ref f10))) (l10 : K.lookup f10 = some ⟨oc10, od10, .func (PySem.W.fnOf "_law_draw" "_law_draw" (defArgs s_l_draw) (defBody s_l_draw) (defScope s_l_draw) .none kV10 dc10 pm10 an10 cd10 ct10), sl10⟩) (c10 : PySem.W.codeIn K cd10 "_law_draw" = true) (k10 : PySem.W.keepIn K (.ref f10) = true)
    (a11 : PySem.W.nsIn K mainGlobals "_law_word" = some (some (.ref f11))) (l11 : K.lookup f11 = some ⟨oc11, od11, .func (PySem.W.fnOf "_law_word" "_law_word" (defArgs s_l_word) (defBody s_l_word) (defScope s_l_word) .none kV11 dc11 pm11 an11 cd11 ct11), sl11⟩) (c11 : PySem.W.codeIn K cd11 "_law_word" = true) (k11 : PySem.W.keepIn K (.ref f11) = true)
    (a12 : PySem.W.nsIn K mainGlobals "_law_kinds" = some (some (.ref f12))) (l12 : K.lookup f12 = some ⟨oc12, od12, .func (PySem.W.fnOf "_law_kinds" "_law_kinds" (defArgs s_l_kinds) (defBody s_l_kinds) (defScope s_l_kinds) .none kV12 dc12 pm12 an12 cd12 ct12), sl12⟩) (c12 : PySem.W.codeIn K cd12 "_law_kinds" = true) (k12 : PySem.W.keepIn K (.ref f12) = true)
    (a13 : PySem.W.nsIn K mainGlobals "_law_names" = some (some (.ref f13))) (l13 : K.lookup f13 = some ⟨oc13, od13, .func (PySem.W.fnOf "_law_names" "_law_names" (defArgs s_l_names) (defBody s_l_names) (defScope s_l_names) .none kV13 dc13 pm13 an13 cd13 ct13), sl13⟩) (c13 : PySem.W.codeIn K cd13 "_law_names" = true) (k13 : PySem.W.keepIn K (.ref f13) = true)
    (a14 : PySem.W.nsIn K mainGlobals "_law_leaf" = some (some (.ref f14))) (l14 : K.lookup f14 = some ⟨oc14, od14, .func (PySem.W.fnOf "_law_leaf" "_law_leaf" (defArgs s_l_leaf) (defBody s_l_leaf) (defScope s_l_leaf) .none kV14 dc14 pm14 an14 cd14 ct14), sl14⟩) (c14 : PySem.W.codeIn K cd14 "_law_leaf" = true) (k14 : PySem.W.keepIn K (.ref f14) = true)
    (a15 : PySem.W.nsIn K mainGlobals "_law_form" = some (some (.ref f15))) (l15 : K.lookup f15 = some ⟨oc15, od15, .func (PySem.W.fnOf "_law_form" "_law_form" (defArgs s_l_form) (defBody s_l_form) (defScope s_l_form) .none kV15 dc15 pm15 an15 cd15 ct15), sl15⟩) (c15 : PySem.W.codeIn K cd15 "_law_form" = true) (k15 : PySem.W.keepIn K (.ref f15) = true)
    (a16 : PySem.W.nsIn K mainGlobals "_law_words_drawn" = some (some (.ref f16))) (l16 : K.lookup f16 = some ⟨oc16, od16, .func (PySem.W.fnOf "_law_words_drawn" "_law_words_drawn" (defArgs s_l_words_drawn) (defBody s_l_words_drawn) (defScope s_l_words_drawn) .none kV16 dc16 pm16 an16 cd16 ct16), sl16⟩) (c16 : PySem.W.codeIn K cd16 "_law_words_drawn" = true) (k16 : PySem.W.keepIn K (.ref f16) = true)
    (a17 : PySem.W.nsIn K mainGlobals "_law_meanings" = some (some (.ref f17))) (l17 : K.lookup f17 = some ⟨oc17, od17, .func (PySem.W.fnOf "_law_meanings" "_law_meanings" (defArgs s_l_meanings) (defBody s_l_meanings) (defScope s_l_meanings) .none kV17 dc17 pm17 an17 cd17 ct17), sl17⟩) (c17 : PySem.W.codeIn K cd17 "_law_meanings" = true) (k17 : PySem.W.keepIn K (.ref f17) = true)
    (a18 : PySem.W.nsIn K mainGlobals "_law_world" = some (some (.ref f18))) (l18 : K.lookup f18 = some ⟨oc18, od18, .func (PySem.W.fnOf "_law_world" "_law_world" (defArgs s_l_world) (defBody s_l_world) (defScope s_l_world) .none kV18 dc18 pm18 an18 cd18 ct18), sl18⟩) (c18 : PySem.W.codeIn K cd18 "_law_world" = true) (k18 : PySem.W.keepIn K (.ref f18) = true)
    (a19 : PySem.W.nsIn K mainGlobals "_law_thing" = some (some (.ref f19))) (l19 : K.lookup f19 = some ⟨oc19, od19, .func (PySem.W.fnOf "_law_thing" "_law_thing" (defArgs s_l_thing) (defBody s_l_thing) (defScope s_l_thing) .none kV19 dc19 pm19 an19 cd19 ct19), sl19⟩) (c19 : PySem.W.codeIn K cd19 "_law_thing" = true) (k19 : PySem.W.keepIn K (.ref f19) = true)
    (a20 : PySem.W.nsIn K mainGlobals "_law_of_kind" = some (some (.ref f20))) (l20 : K.lookup f20 = some ⟨oc20, od20, .func (PySem.W.fnOf "_law_of_kind" "_law_of_kind" (defArgs s_l_of_kind) (defBody s_l_of_kind) (defScope s_l_of_kind) .none kV20 dc20 pm20 an20 cd20 ct20), sl20⟩) (c20 : PySem.W.codeIn K cd20 "_law_of_kind" = true) (k20 : PySem.W.keepIn K (.ref f20) = true)
    (a21 : PySem.W.nsIn K mainGlobals "_law_holds" = some (some (.ref f21))) (l21 : K.lookup f21 = some ⟨oc21, od21, .func (PySem.W.fnOf "_law_holds" "_law_holds" (defArgs s_l_holds) (defBody s_l_holds) (defScope s_l_holds) .none kV21 dc21 pm21 an21 cd21 ct21), sl21⟩) (c21 : PySem.W.codeIn K cd21 "_law_holds" = true) (k21 : PySem.W.keepIn K (.ref f21) = true)
    (a22 : PySem.W.nsIn K mainGlobals "_law_due" = some (some (.ref f22))) (l22 : K.lookup f22 = some ⟨oc22, od22, .func (PySem.W.fnOf "_law_due" "_law_due" (defArgs s_l_due) (defBody s_l_due) (defScope s_l_due) .none kV22 dc22 pm22 an22 cd22 ct22), sl22⟩) (c22 : PySem.W.codeIn K cd22 "_law_due" = true) (k22 : PySem.W.keepIn K (.ref f22) = true)
    (a23 : PySem.W.nsIn K mainGlobals "law" = some (some (.ref f23))) (l23 : K.lookup f23 = some ⟨oc23, od23, .func (PySem.W.fnOf "law" "law" (defArgs s_law) (defBody s_law) (defScope s_law) .none kV23 dc23 pm23 an23 cd23 ct23), sl23⟩) (c23 : PySem.W.codeIn K cd23 "law" = true) (k23 : PySem.W.keepIn K (.ref f23) = true)
    {p1 : Addr} {dd1 : Option Addr} {n1 : Nat} {sc1 : Array (Option Value)} {t1_0 t1_1 t1_2 t1_3 : Nat}
    (ac1 : PySem.W.nsIn K mainGlobals "JOINED" = some (some (.ref p1))) (lc1 : K.lookup p1 = some ⟨.type "tuple", dd1, .seq #[.str "not" t1_0, .str "and" t1_1, .str "or" t1_2, .str "if" t1_3] n1, sc1⟩)
    {p2 : Addr} {dd2 : Option Addr} {n2 : Nat} {sc2 : Array (Option Value)} {t2_0 t2_1 : Nat}
    (ac2 : PySem.W.nsIn K mainGlobals "BOUND" = some (some (.ref p2))) (lc2 : K.lookup p2 = some ⟨.type "tuple", dd2, .seq #[.str "every" t2_0, .str "some" t2_1] n2, sc2⟩)
    (z_len : PySem.W.nsIn K mainGlobals "len" = some none)
    (z_sum : PySem.W.nsIn K mainGlobals "sum" = some none)
    (z_list : PySem.W.nsIn K mainGlobals "list" = some none)
    (z_tuple : PySem.W.nsIn K mainGlobals "tuple" = some none)
    (z_range : PySem.W.nsIn K mainGlobals "range" = some none)
    (z_sorted : PySem.W.nsIn K mainGlobals "sorted" = some none)
    (z_max : PySem.W.nsIn K mainGlobals "max" = some none)
    (z_min : PySem.W.nsIn K mainGlobals "min" = some none)
    (z_int : PySem.W.nsIn K mainGlobals "int" = some none)
    (z_dict : PySem.W.nsIn K mainGlobals "dict" = some none)
    (z_isinstance : PySem.W.nsIn K mainGlobals "isinstance" = some none)
    (z_repr : PySem.W.nsIn K mainGlobals "repr" = some none)
    (z_all : PySem.W.nsIn K mainGlobals "all" = some none)
    (z_any : PySem.W.nsIn K mainGlobals "any" = some none)
    (z_bool : PySem.W.nsIn K mainGlobals "bool" = some none)
    (aC : PySem.W.nsIn K mainGlobals "View" = some (some (.ref C)))
    (a24 : PySem.W.findIn K (.ref C) "__init__" = some (some (.ref f24))) (i24 : PySem.W.isFn K (.ref f24) = true) (l24 : K.lookup f24 = some ⟨oc24, od24, .func (PySem.W.fnOf "__init__" "View.__init__" (defArgs s_View___init__) (defBody s_View___init__) (defScope s_View___init__) .none kV24 dc24 pm24 an24 cd24 ct24), sl24⟩) (c24 : PySem.W.codeIn K cd24 "View.__init__" = true) (k24 : PySem.W.keepIn K (.ref f24) = true)
    (a25 : PySem.W.findIn K (.ref C) "thing" = some (some (.ref f25))) (i25 : PySem.W.isFn K (.ref f25) = true) (l25 : K.lookup f25 = some ⟨oc25, od25, .func (PySem.W.fnOf "thing" "View.thing" (defArgs s_View_thing) (defBody s_View_thing) (defScope s_View_thing) .none kV25 dc25 pm25 an25 cd25 ct25), sl25⟩) (c25 : PySem.W.codeIn K cd25 "View.thing" = true) (k25 : PySem.W.keepIn K (.ref f25) = true)
    (a26 : PySem.W.findIn K (.ref C) "count" = some (some (.ref f26))) (i26 : PySem.W.isFn K (.ref f26) = true) (l26 : K.lookup f26 = some ⟨oc26, od26, .func (PySem.W.fnOf "count" "View.count" (defArgs s_View_count) (defBody s_View_count) (defScope s_View_count) .none kV26 dc26 pm26 an26 cd26 ct26), sl26⟩) (c26 : PySem.W.codeIn K cd26 "View.count" = true) (k26 : PySem.W.keepIn K (.ref f26) = true)
    (a27 : PySem.W.findIn K (.ref C) "keeps_plain" = some (some (.ref f27))) (i27 : PySem.W.isFn K (.ref f27) = true) (l27 : K.lookup f27 = some ⟨oc27, od27, .func (PySem.W.fnOf "keeps_plain" "View.keeps_plain" (defArgs s_View_keeps_plain) (defBody s_View_keeps_plain) (defScope s_View_keeps_plain) .none kV27 dc27 pm27 an27 cd27 ct27), sl27⟩) (c27 : PySem.W.codeIn K cd27 "View.keeps_plain" = true) (k27 : PySem.W.keepIn K (.ref f27) = true)
    (a28 : PySem.W.findIn K (.ref C) "keeps_of" = some (some (.ref f28))) (i28 : PySem.W.isFn K (.ref f28) = true) (l28 : K.lookup f28 = some ⟨oc28, od28, .func (PySem.W.fnOf "keeps_of" "View.keeps_of" (defArgs s_View_keeps_of) (defBody s_View_keeps_of) (defScope s_View_keeps_of) .none kV28 dc28 pm28 an28 cd28 ct28), sl28⟩) (c28 : PySem.W.codeIn K cd28 "View.keeps_of" = true) (k28 : PySem.W.keepIn K (.ref f28) = true)
    (a29 : PySem.W.findIn K (.ref C) "keeps" = some (some (.ref f29))) (i29 : PySem.W.isFn K (.ref f29) = true) (l29 : K.lookup f29 = some ⟨oc29, od29, .func (PySem.W.fnOf "keeps" "View.keeps" (defArgs s_View_keeps) (defBody s_View_keeps) (defScope s_View_keeps) .none kV29 dc29 pm29 an29 cd29 ct29), sl29⟩) (c29 : PySem.W.codeIn K cd29 "View.keeps" = true) (k29 : PySem.W.keepIn K (.ref f29) = true)
    (pg : PySem.W.plainGet K C Str.empty = true) (hdC : PySem.W.hasDictIn K C = true) (po : PySem.W.plainOver K C = true) (sa : PySem.W.findIn K (.ref C) "__setattr__" = some (some (.builtin "object.__setattr__"))) (mkC : PySem.W.makesIn K C = true) (kcC : PySem.W.keepIn K (.ref C) = true)
    (n_things : PySem.W.findIn K (.ref C) "things" = some none)
    (n_names : PySem.W.findIn K (.ref C) "names" = some none)
    (n_kinds : PySem.W.findIn K (.ref C) "kinds" = some none)
    (n_doings : PySem.W.findIn K (.ref C) "doings" = some none)
    : ∃ fd : FuncData, (∀ (s : Shared) (v : Value), BindsTo s fd ⟨[v], []⟩ [("_law_script", v)]) ∧ ∀ base : Heap, FnG l.prog w K mg base 141 fa fd ["_law_script"] (liftSp K spLaw) := by
  have e := hfa.symm.trans (PySem.W.mg_of X G a23)
  cases e
  have none : ∀ {x : Str}, PySem.W.nsIn K mainGlobals x = some none → mg x = none := fun z => PySem.W.mg_none_of X G z
  have t : Top K mg C := ⟨⟨none z_len, none z_sum, none z_list, none z_tuple, none z_range, none z_sorted, none z_max, none z_min, none z_int, none z_dict, none z_isinstance, none z_repr, none z_all, none z_any, none z_bool⟩,
    ⟨_, _, fun_mk (st := s_holds) l1 c1 k1, PySem.W.mg_of X G a1⟩,
    ⟨_, _, fun_mk (st := s_put_term) l2 c2 k2, PySem.W.mg_of X G a2⟩,
    ⟨_, _, fun_mk (st := s_unfolded_by) l3 c3 k3, PySem.W.mg_of X G a3⟩,
    ⟨_, _, fun_mk (st := s_unfolded) l4 c4 k4, PySem.W.mg_of X G a4⟩,
    ⟨_, _, fun_mk (st := s_free_name) l5 c5 k5, PySem.W.mg_of X G a5⟩,
    ⟨_, _, fun_mk (st := s_things_of) l6 c6 k6, PySem.W.mg_of X G a6⟩,
    ⟨_, _, fun_mk (st := s_world_with) l7 c7 k7, PySem.W.mg_of X G a7⟩,
    ⟨_, _, fun_mk (st := s_l_mixed) l8 c8 k8, PySem.W.mg_of X G a8⟩,
    ⟨_, _, fun_mk (st := s_l_deck) l9 c9 k9, PySem.W.mg_of X G a9⟩,
    ⟨_, _, fun_mk (st := s_l_draw) l10 c10 k10, PySem.W.mg_of X G a10⟩,
    ⟨_, _, fun_mk (st := s_l_word) l11 c11 k11, PySem.W.mg_of X G a11⟩,
    ⟨_, _, fun_mk (st := s_l_kinds) l12 c12 k12, PySem.W.mg_of X G a12⟩,
    ⟨_, _, fun_mk (st := s_l_names) l13 c13 k13, PySem.W.mg_of X G a13⟩,
    ⟨_, _, fun_mk (st := s_l_leaf) l14 c14 k14, PySem.W.mg_of X G a14⟩,
    ⟨_, _, fun_mk (st := s_l_form) l15 c15 k15, PySem.W.mg_of X G a15⟩,
    ⟨_, _, fun_mk (st := s_l_words_drawn) l16 c16 k16, PySem.W.mg_of X G a16⟩,
    ⟨_, _, fun_mk (st := s_l_meanings) l17 c17 k17, PySem.W.mg_of X G a17⟩,
    ⟨_, _, fun_mk (st := s_l_world) l18 c18 k18, PySem.W.mg_of X G a18⟩,
    ⟨_, _, fun_mk (st := s_l_thing) l19 c19 k19, PySem.W.mg_of X G a19⟩,
    ⟨_, _, fun_mk (st := s_l_of_kind) l20 c20 k20, PySem.W.mg_of X G a20⟩,
    ⟨_, _, fun_mk (st := s_l_holds) l21 c21 k21, PySem.W.mg_of X G a21⟩,
    ⟨_, _, fun_mk (st := s_l_due) l22 c22 k22, PySem.W.mg_of X G a22⟩,
    cst_mk (ys := ["not", "and", "or", "if"]) X G ac1 lc1 (by simp) (.cons ⟨_, rfl⟩ (.cons ⟨_, rfl⟩ (.cons ⟨_, rfl⟩ (.cons ⟨_, rfl⟩ (.nil))))),
    cst_mk (ys := ["every", "some"]) X G ac2 lc2 (by simp) (.cons ⟨_, rfl⟩ (.cons ⟨_, rfl⟩ (.nil))),
    ⟨⟨pg, hdC, po, sa⟩, n_things, n_names, n_kinds, n_doings, PySem.W.mg_of X G aC⟩,
    ⟨_, _, fun_mk (st := s_View_thing) l25 c25 k25, ⟨a25, i25, k25⟩⟩,
    ⟨_, _, fun_mk (st := s_View_count) l26 c26 k26, ⟨a26, i26, k26⟩⟩,
    ⟨_, _, fun_mk (st := s_View_keeps_plain) l27 c27 k27, ⟨a27, i27, k27⟩⟩,
    ⟨_, _, fun_mk (st := s_View_keeps_of) l28 c28 k28, ⟨a28, i28, k28⟩⟩,
    ⟨_, _, fun_mk (st := s_View_keeps) l29 c29 k29, ⟨a29, i29, k29⟩⟩,
    ⟨_, _, fun_mk (st := s_View___init__) l24 c24 k24, ⟨mkC, a24, i24, kcC⟩⟩⟩
  refine ⟨_, fun s v => .of_eq rfl, fun base => fnG_law t.bt (fun_mk (st := s_law) l23 c23 k23) t.defs⟩
theorem walk {l : PySem.W.OpenLaw} {q : Program} {loose : List Str} {XP : (Str → Option Value) → Heap → Prop} {YP : World → Heap → Prop} {d : DefRec} {K : Params → PySem.W.Frag} (hn : l.most = some 63) (hdf : d.params.defaults = [])
    (hY : ∀ (w : World) (h : Heap), YP w h → (K w.params).In h)
    (F : ∀ (w : World) (mg : Str → Option Value) (fa : Addr) (h : Heap), (K w.params).In h → h.Ns mainGlobals mg → mg d.name = some (.ref fa) →
      ∃ fd : FuncData, (∀ (s : Shared) (u : Value), BindsTo s fd ⟨[u], []⟩ [("_law_script", u)]) ∧ ∀ base : Heap, FnG l.prog w (K w.params) mg base 141 fa fd ["_law_script"] (liftSp (K w.params) spLaw)) :
    PySem.W.WalkO q loose XP YP l.row.toRowW d [] (fun f vs => PySem.call f vs) :=
  Att.attach_call hn hdf fun w _ s _ _ _ _ _ _ _ _ _ _ G Y _ _ _ hm hobj hints hlen hg =>
    let KX := hY w _ Y
    let ⟨_, hb, hF⟩ := F w _ _ _ KX G.T.g hm
    called KX G.T.g G.T.b G.T.builtins G.T.nolimit hg hobj hints hlen hF hb
end K72
open PySem PySem.W PyProof.Rows
set_option maxRecDepth 100000 in
set_option maxHeartbeats 0 in
theorem PySem.Challenge.cw_linecourt_k73_worlds_with_meanings_holds : PySem.Challenge.rw_linecourt_k73_worlds_with_meanings.Holds := by
  w_on; o_law; k_head; (case hw => w_witness2)
  k_fill
  refine K72.walk (l := PySem.Challenge.rw_linecourt_k73_worlds_with_meanings) rfl rfl (fun w h Y => PySem.W.kIn_of Y) ?F
  case F =>
    intro w mg fa h KX G hmg
    refine' K72.all_mk KX G hmg ?a1 ?l1 ?c1 ?k1 ?a2 ?l2 ?c2 ?k2 ?a3 ?l3 ?c3 ?k3 ?a4 ?l4 ?c4 ?k4 ?a5 ?l5 ?c5 ?k5 ?a6 ?l6 ?c6 ?k6 ?a7 ?l7 ?c7 ?k7 ?a8 ?l8 ?c8 ?k8 ?a9 ?l9 ?c9 ?k9 ?a10 ?l10 ?c10 ?k10 ?a11 ?l11 ?c11 ?k11 ?a12 ?l12 ?c12 ?k12 ?a13 ?l13 ?c13 ?k13 ?a14 ?l14 ?c14 ?k14 ?a15 ?l15 ?c15 ?k15 ?a16 ?l16 ?c16 ?k16 ?a17 ?l17 ?c17 ?k17 ?a18 ?l18 ?c18 ?k18 ?a19 ?l19 ?c19 ?k19 ?a20 ?l20 ?c20 ?k20 ?a21 ?l21 ?c21 ?k21 ?a22 ?l22 ?c22 ?k22 ?a23 ?l23 ?c23 ?k23 ?ac1 ?lc1 ?ac2 ?lc2 ?z_len ?z_sum ?z_list ?z_tuple ?z_range ?z_sorted ?z_max ?z_min ?z_int ?z_dict ?z_isinstance ?z_repr ?z_all ?z_any ?z_bool ?aC ?a24 ?i24 ?l24 ?c24 ?k24 ?a25 ?i25 ?l25 ?c25 ?k25 ?a26 ?i26 ?l26 ?c26 ?k26 ?a27 ?i27 ?l27 ?c27 ?k27 ?a28 ?i28 ?l28 ?c28 ?k28 ?a29 ?i29 ?l29 ?c29 ?k29 ?pg ?hdC ?po ?sa ?mkC ?kcC ?n_things ?n_names ?n_kinds ?n_doings
    (case a1 => k_is)
    (case l1 => k_is)
    (case c1 => k_is)
    (case k1 => k_is)
    (case a2 => k_is)
    (case l2 => k_is)
    (case c2 => k_is)
    (case k2 => k_is)
    (case a3 => k_is)
    (case l3 => k_is)
    (case c3 => k_is)
    (case k3 => k_is)
    (case a4 => k_is)
    (case l4 => k_is)
    (case c4 => k_is)
    (case k4 => k_is)
    (case a5 => k_is)
    (case l5 => k_is)
    (case c5 => k_is)
    (case k5 => k_is)
    (case a6 => k_is)
    (case l6 => k_is)
    (case c6 => k_is)
    (case k6 => k_is)
    (case a7 => k_is)
    (case l7 => k_is)
    (case c7 => k_is)
    (case k7 => k_is)
    (case a8 => k_is)
    (case l8 => k_is)
    (case c8 => k_is)
    (case k8 => k_is)
    (case a9 => k_is)
    (case l9 => k_is)
    (case c9 => k_is)
    (case k9 => k_is)
    (case a10 => k_is)
    (case l10 => k_is)
    (case c10 => k_is)
    (case k10 => k_is)
    (case a11 => k_is)
    (case l11 => k_is)
    (case c11 => k_is)
    (case k11 => k_is)
    (case a12 => k_is)
    (case l12 => k_is)
    (case c12 => k_is)
    (case k12 => k_is)
    (case a13 => k_is)
    (case l13 => k_is)
    (case c13 => k_is)
    (case k13 => k_is)
    (case a14 => k_is)
    (case l14 => k_is)
    (case c14 => k_is)
    (case k14 => k_is)
    (case a15 => k_is)
    (case l15 => k_is)
    (case c15 => k_is)
    (case k15 => k_is)
    (case a16 => k_is)
    (case l16 => k_is)
    (case c16 => k_is)
    (case k16 => k_is)
    (case a17 => k_is)
    (case l17 => k_is)
    (case c17 => k_is)
    (case k17 => k_is)
    (case a18 => k_is)
    (case l18 => k_is)
    (case c18 => k_is)
    (case k18 => k_is)
    (case a19 => k_is)
    (case l19 => k_is)
    (case c19 => k_is)
    (case k19 => k_is)
    (case a20 => k_is)
    (case l20 => k_is)
    (case c20 => k_is)
    (case k20 => k_is)
    (case a21 => k_is)
    (case l21 => k_is)
    (case c21 => k_is)
    (case k21 => k_is)
    (case a22 => k_is)
    (case l22 => k_is)
    (case c22 => k_is)
    (case k22 => k_is)
    (case a23 => k_is)
    (case l23 => k_is)
    (case c23 => k_is)
    (case k23 => k_is)
    (case ac1 => k_is)
    (case lc1 => k_is)
    (case ac2 => k_is)
    (case lc2 => k_is)
    (case z_len => k_is)
    (case z_sum => k_is)
    (case z_list => k_is)
    (case z_tuple => k_is)
    (case z_range => k_is)
    (case z_sorted => k_is)
    (case z_max => k_is)
    (case z_min => k_is)
    (case z_int => k_is)
    (case z_dict => k_is)
    (case z_isinstance => k_is)
    (case z_repr => k_is)
    (case z_all => k_is)
    (case z_any => k_is)
    (case z_bool => k_is)
    (case aC => k_is)
    (case a24 => k_is)
    (case i24 => k_is)
    (case l24 => k_is)
    (case c24 => k_is)
    (case k24 => k_is)
    (case a25 => k_is)
    (case i25 => k_is)
    (case l25 => k_is)
    (case c25 => k_is)
    (case k25 => k_is)
    (case a26 => k_is)
    (case i26 => k_is)
    (case l26 => k_is)
    (case c26 => k_is)
    (case k26 => k_is)
    (case a27 => k_is)
    (case i27 => k_is)
    (case l27 => k_is)
    (case c27 => k_is)
    (case k27 => k_is)
    (case a28 => k_is)
    (case i28 => k_is)
    (case l28 => k_is)
    (case c28 => k_is)
    (case k28 => k_is)
    (case a29 => k_is)
    (case i29 => k_is)
    (case l29 => k_is)
    (case c29 => k_is)
    (case k29 => k_is)
    (case pg => k_is)
    (case hdC => k_is)
    (case po => k_is)
    (case sa => k_is)
    (case mkC => k_is)
    (case kcC => k_is)
    (case n_things => k_is)
    (case n_names => k_is)
    (case n_kinds => k_is)
    (case n_doings => k_is)

