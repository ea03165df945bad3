import PyProof.Rows.All
import Wide.All
import OpenK.AllK
import Wide.FinOn
import HandS.ForMost
import HandS.TupAny
import HandS.Deep
import PySem.Challenge.RW_linecourt_k61_needed_lines
import HandS.IsInst
import HandS.TupMul
import HandS.Style
import HandS.Conv
import HandS.NoneIn
import HandS.Zip
import KE.SortData
import KE.KDictPairs
import HandS.More
import HandS.Text
import KE.GoesZip
import KE.GoesMore
import HandS.SetFor
import HandS.Strs
import HandS.CallLocal
import HandS.StrMore
import HandS.FStrTup
import HandS.HeadHook3
set_option Elab.async false
set_option maxRecDepth 100000
/-! DL: values as data (tuples by what they hold), a store of lists and dicts, and the hand layer's judgements over these. -/
namespace DL
open PySem PySem.Spec PyProof.Rows L2

/-- a value by what it is: a tuple by its items, a list or dict by its place -/
inductive D where
  | non | bl (b : Bool) | int (i : Int) | str (x : Str) | ref (a : Addr) | ty (n : String) | tup (ds : List D)
  /-- a list that nobody changes (the script) -/
  | rol (ds : List D)
  /-- a tuple whose very object is known (made by tuple(..)): dict(..) takes it -/
  | ftup (ds : List D)

/-- a list that nobody changes: frozen, or of the module -/
def SqR (K : PySem.W.Frag) (H : Hp) (a : Addr) (xs : List V) : Prop :=
  (∃ o, H a = some (.frz o (.lst xs))) ∨
    ∃ (o : Obj) (its : Array Value) (n : Nat), K.lookup a = some o ∧ o.cls = .type "list" ∧ o.dict = none ∧ o.data = .seq its n ∧ its.size ≤ sizeLine ∧ Vals xs its.toList
theorem SqR.sq {K : PySem.W.Frag} {H : Hp} {a : Addr} {xs : List V} (h : SqR K H a xs) : SqL K H a xs := by
  rcases h with ⟨o, h⟩ | h
  · exact .inl (.inr ⟨o, h⟩)
  · exact .inr h
/-- a tuple known to its object -/
def SqF (K : PySem.W.Frag) (H : Hp) (a : Addr) (xs : List V) : Prop := ∃ (o : Obj), H a = some (.frz o (.tup xs)) ∧ o.dict = none ∧ o.cls = .type "tuple"
theorem SqF.sq {K : PySem.W.Frag} {H : Hp} {a : Addr} {xs : List V} (h : SqF K H a xs) : SqT K H a xs := let ⟨o, h, _⟩ := h; .inl (.inr ⟨o, h⟩)
mutual
def RD (K : PySem.W.Frag) (H : Hp) : D → V → Prop
  | .non, v => v = .non
  | .bl b, v => v = .bl b
  | .int i, v => v = .int i
  | .str x, v => v = .str x
  | .ref a, v => v = .ref a
  | .ty n, v => v = .ty n
  | .tup ds, v => ∃ p vs, v = .ref p ∧ SqT K H p vs ∧ RDs K H ds vs
  | .rol ds, v => ∃ p vs, v = .ref p ∧ SqR K H p vs ∧ RDs K H ds vs
  | .ftup ds, v => ∃ p vs, v = .ref p ∧ SqF K H p vs ∧ RDs K H ds vs
def RDs (K : PySem.W.Frag) (H : Hp) : List D → List V → Prop
  | [], vs => vs = []
  | d :: ds, vs => ∃ v r, vs = v :: r ∧ RD K H d v ∧ RDs K H ds r
end

/-- tuples stay -/
def Ext (K : PySem.W.Frag) (H H' : Hp) : Prop := (∀ p vs, SqT K H p vs → SqT K H' p vs) ∧ (∀ p vs, SqR K H p vs → SqR K H' p vs) ∧ ∀ p vs, SqF K H p vs → SqF K H' p vs
section
variable {K : PySem.W.Frag} {H H1 H2 : Hp}
theorem Ext.refl : Ext K H H := ⟨fun _ _ h => h, fun _ _ h => h, fun _ _ h => h⟩
theorem Ext.trans (a : Ext K H H1) (b : Ext K H1 H2) : Ext K H H2 := ⟨fun p vs h => b.1 p vs (a.1 p vs h), fun p vs h => b.2.1 p vs (a.2.1 p vs h), fun p vs h => b.2.2 p vs (a.2.2 p vs h)⟩
/-- what a tuple, or a frozen thing, is not -/
def soft : HO → Prop
  | .tup _ => False
  | .frz _ _ => False
  | _ => True
theorem Ext.upd {a : Addr} {o : HO} (h : ∀ u, H a = some u → soft u) : Ext K H (upd H a o) := by
 refine ⟨fun p vs hp => ?_, fun p vs hp => ?_, fun p vs hp => ?_⟩
 · rcases hp with (hp | ⟨ob, hp⟩) | hp
   · refine .inl (.inl ?_)
     rw [upd_ne ?_]
     · exact hp
     · rintro rfl
       exact h _ hp
   · refine .inl (.inr ⟨ob, ?_⟩)
     rw [upd_ne ?_]
     · exact hp
     · rintro rfl
       exact h _ hp
   · exact .inr hp
 · rcases hp with ⟨ob, hp⟩ | hp
   · refine .inl ⟨ob, ?_⟩
     rw [upd_ne ?_]
     · exact hp
     · rintro rfl
       exact h _ hp
   · exact .inr hp
 · obtain ⟨ob, hp, r⟩ := hp
   refine ⟨ob, ?_, r⟩
   rw [upd_ne ?_]
   · exact hp
   · rintro rfl
     exact h _ hp
theorem Ext.new {a : Addr} {o : HO} (h : H a = none) : Ext K H (L2.upd H a o) := Ext.upd fun u e => by rw [h] at e; cases e
theorem Ext.put {a : Addr} {o u : HO} (h : H a = some u) (s : soft u) : Ext K H (L2.upd H a o) := Ext.upd fun v e => by rw [h] at e; cases e; exact s
mutual
theorem RD.ext (e : Ext K H H1) : ∀ {d : D} {v : V}, RD K H d v → RD K H1 d v
  | .non, _, h => h
  | .bl _, _, h => h
  | .int _, _, h => h
  | .str _, _, h => h
  | .ref _, _, h => h
  | .ty _, _, h => h
  | .tup ds, v, h => by
    obtain ⟨p, vs, rfl, ht, hd⟩ := h
    exact ⟨p, vs, rfl, e.1 p vs ht, RDs.ext e hd⟩
  | .rol ds, v, h => by
    obtain ⟨p, vs, rfl, ht, hd⟩ := h
    exact ⟨p, vs, rfl, e.2.1 p vs ht, RDs.ext e hd⟩
  | .ftup ds, v, h => by
    obtain ⟨p, vs, rfl, ht, hd⟩ := h
    exact ⟨p, vs, rfl, e.2.2 p vs ht, RDs.ext e hd⟩
theorem RDs.ext (e : Ext K H H1) : ∀ {ds : List D} {vs : List V}, RDs K H ds vs → RDs K H1 ds vs
  | [], _, h => h
  | d :: ds, _, h => by
    obtain ⟨v, r, rfl, h1, h2⟩ := h
    exact ⟨v, r, rfl, RD.ext e h1, RDs.ext e h2⟩
end
theorem RDs.length : ∀ {ds : List D} {vs : List V}, RDs K H ds vs → vs.length = ds.length
  | [], _, h => by cases (show _ = [] from h); rfl
  | d :: ds, _, h => by
    obtain ⟨v, r, rfl, _, h2⟩ := h
    rw [List.length_cons, List.length_cons, RDs.length h2]
theorem RDs.get : ∀ {ds : List D} {vs : List V} {i : Nat} {d : D}, RDs K H ds vs → ds[i]? = some d → ∃ v, vs[i]? = some v ∧ RD K H d v
  | [], _, _, _, _, e => by simp at e
  | d :: ds, _, 0, _, h, e => by
    obtain ⟨v, r, rfl, h1, h2⟩ := h
    simp at e
    subst e
    exact ⟨v, by simp, h1⟩
  | d :: ds, _, i + 1, _, h, e => by
    obtain ⟨v, r, rfl, h1, h2⟩ := h
    obtain ⟨w, e1, q⟩ := RDs.get (i := i) h2 (by simpa using e)
    exact ⟨w, by simpa using e1, q⟩
theorem RDs.getV : ∀ {ds : List D} {vs : List V} {i : Nat} {v : V}, RDs K H ds vs → vs[i]? = some v → ∃ d, ds[i]? = some d ∧ RD K H d v
  | [], _, _, _, h, e => by cases (show _ = [] from h); simp at e
  | d :: ds, _, 0, _, h, e => by
    obtain ⟨v, r, rfl, h1, h2⟩ := h
    simp at e
    subst e
    exact ⟨d, by simp, h1⟩
  | d :: ds, _, i + 1, _, h, e => by
    obtain ⟨v, r, rfl, h1, h2⟩ := h
    obtain ⟨w, e1, q⟩ := RDs.getV (i := i) h2 (by simpa using e)
    exact ⟨w, by simpa using e1, q⟩
theorem RDs.append : ∀ {ds es : List D} {vs ws : List V}, RDs K H ds vs → RDs K H es ws → RDs K H (ds ++ es) (vs ++ ws)
  | [], _, _, _, h, g => by cases (show _ = [] from h); exact g
  | d :: ds, _, _, _, h, g => by
    obtain ⟨v, r, rfl, h1, h2⟩ := h
    exact ⟨v, r ++ _, rfl, h1, RDs.append h2 g⟩
theorem RDs.take : ∀ (n : Nat) {ds : List D} {vs : List V}, RDs K H ds vs → RDs K H (ds.take n) (vs.take n)
  | 0, _, _, _ => rfl
  | n + 1, [], _, h => by cases (show _ = [] from h); exact rfl
  | n + 1, d :: ds, _, h => by
    obtain ⟨v, r, rfl, h1, h2⟩ := h
    exact ⟨v, r.take n, rfl, h1, RDs.take n h2⟩
theorem RDs.drop : ∀ (n : Nat) {ds : List D} {vs : List V}, RDs K H ds vs → RDs K H (ds.drop n) (vs.drop n)
  | 0, _, _, h => h
  | n + 1, [], _, h => by cases (show _ = [] from h); exact rfl
  | n + 1, d :: ds, _, h => by
    obtain ⟨v, r, rfl, h1, h2⟩ := h
    exact RDs.drop n h2
theorem RDs.set : ∀ (n : Nat) {ds : List D} {vs : List V} {d : D} {v : V}, RDs K H ds vs → RD K H d v → RDs K H (ds.set n d) (vs.set n v)
  | _, [], _, _, _, h, _ => by cases (show _ = [] from h); exact rfl
  | 0, d :: ds, _, _, _, h, q => by
    obtain ⟨v, r, rfl, h1, h2⟩ := h
    exact ⟨_, r, rfl, q, h2⟩
  | n + 1, d :: ds, _, _, _, h, q => by
    obtain ⟨v, r, rfl, h1, h2⟩ := h
    exact ⟨v, _, rfl, h1, RDs.set n h2 q⟩
theorem RDs.eraseIdx : ∀ (n : Nat) {ds : List D} {vs : List V}, RDs K H ds vs → RDs K H (ds.eraseIdx n) (vs.eraseIdx n)
  | _, [], _, h => by cases (show _ = [] from h); exact rfl
  | 0, d :: ds, _, h => by
    obtain ⟨v, r, rfl, h1, h2⟩ := h
    exact h2
  | n + 1, d :: ds, _, h => by
    obtain ⟨v, r, rfl, h1, h2⟩ := h
    exact ⟨v, _, rfl, h1, RDs.eraseIdx n h2⟩
theorem RDs.snoc {ds : List D} {vs : List V} {d : D} {v : V} (h : RDs K H ds vs) (q : RD K H d v) : RDs K H (ds ++ [d]) (vs ++ [v]) :=
  h.append ⟨v, [], rfl, q, rfl⟩
theorem RDs.reverse : ∀ {ds : List D} {vs : List V}, RDs K H ds vs → RDs K H ds.reverse vs.reverse
  | [], _, h => by cases (show _ = [] from h); exact rfl
  | d :: ds, _, h => by
    obtain ⟨v, r, rfl, h1, h2⟩ := h
    rw [List.reverse_cons, List.reverse_cons]
    exact RDs.snoc (RDs.reverse h2) h1
theorem RDs.dropLast : ∀ {ds : List D} {vs : List V}, RDs K H ds vs → RDs K H ds.dropLast vs.dropLast := fun {ds vs} h => by
  rw [List.dropLast_eq_take, List.dropLast_eq_take, h.length]
  exact h.take _
theorem RDs.nil_iff {ds : List D} {vs : List V} (h : RDs K H ds vs) : vs = [] ↔ ds = [] := by
  rw [← List.length_eq_zero_iff, ← List.length_eq_zero_iff, h.length]
/-- lists whose items are plain: known on both sides -/
theorem RDs.map {α : Type} (f : α → D) (g : α → V) (e : ∀ a v, RD K H (f a) v → v = g a) : ∀ {xs : List α} {vs : List V}, RDs K H (xs.map f) vs → vs = xs.map g
  | [], _, h => h
  | x :: xs, _, h => by
    obtain ⟨v, r, rfl, h1, h2⟩ := h
    rw [List.map_cons, e x v h1, RDs.map f g e h2]
theorem RDs.ints {xs : List Int} {vs : List V} (h : RDs K H (xs.map D.int) vs) : vs = xs.map V.int := RDs.map D.int V.int (fun _ _ q => q) h
theorem RDs.strs {xs : List Str} {vs : List V} (h : RDs K H (xs.map D.str) vs) : vs = xs.map V.str := RDs.map D.str V.str (fun _ _ q => q) h
theorem RDs.bls {xs : List Bool} {vs : List V} (h : RDs K H (xs.map D.bl) vs) : vs = xs.map V.bl := RDs.map D.bl V.bl (fun _ _ q => q) h
theorem RDs.of_map {α : Type} {f : α → D} {g : α → V} (e : ∀ a, RD K H (f a) (g a)) : ∀ (xs : List α), RDs K H (xs.map f) (xs.map g)
  | [] => rfl
  | x :: xs => ⟨g x, _, rfl, e x, RDs.of_map e xs⟩
end

/-! ### the store -/
inductive DO where
  /-- a list -/
  | lst (ds : List D)
  /-- a dict with ints and texts for keys -/
  | dk (kvs : List (Key × D))
  /-- an instance of the class at C -/
  | ins (C : Addr) (fs : List (Str × D))
abbrev Store := Addr → Option DO
def put (S : Store) (a : Addr) (o : DO) : Store := fun b => if b = a then some o else S b
theorem put_same {S : Store} {a : Addr} {o : DO} : put S a o a = some o := by unfold put; rw [if_pos rfl]
theorem put_ne {S : Store} {a b : Addr} {o : DO} (h : b ≠ a) : put S a o b = S b := by unfold put; rw [if_neg h]
theorem put_put {S : Store} {a : Addr} {o u : DO} : put (put S a o) a u = put S a u := by funext b; unfold put; split <;> rfl
/-- less is known -/
def Sub (S S' : Store) : Prop := ∀ a o, S a = some o → S' a = some o
theorem Sub.refl {S : Store} : Sub S S := fun _ _ h => h
theorem Sub.trans {S S1 S2 : Store} (a : Sub S S1) (b : Sub S1 S2) : Sub S S2 := fun p o h => b p o (a p o h)
theorem Sub.new {S : Store} {a : Addr} {o : DO} (h : S a = none) : Sub S (put S a o) := fun b u e => by
  rw [put_ne]
  · exact e
  · rintro rfl
    rw [h] at e; cases e

def RKV (K : PySem.W.Frag) (H : Hp) {κ : Type} : List (κ × D) → List (κ × V) → Prop
  | [], ws => ws = []
  | (k, d) :: r, ws => ∃ v t, ws = (k, v) :: t ∧ RD K H d v ∧ RKV K H r t
def RO (K : PySem.W.Frag) (H : Hp) (a : Addr) : DO → Prop
  | .lst ds => ∃ vs, H a = some (.lst vs) ∧ RDs K H ds vs
  | .dk kvs => ∃ ws, H a = some (.dK ws) ∧ RKV K H kvs ws
  | .ins C fs => ∃ dx ws, H a = some (.ins C dx ws) ∧ RKV K H fs ws
def RS (K : PySem.W.Frag) (H : Hp) (S : Store) : Prop := ∀ a o, S a = some o → RO K H a o
section
variable {K : PySem.W.Frag} {H H1 : Hp} {S S' : Store}
theorem RKV.ext (e : Ext K H H1) {κ : Type} : ∀ {kvs : List (κ × D)} {ws : List (κ × V)}, RKV K H kvs ws → RKV K H1 kvs ws
  | [], _, h => h
  | (k, d) :: r, _, h => by
    obtain ⟨v, t, rfl, h1, h2⟩ := h
    exact ⟨v, t, rfl, RD.ext e h1, RKV.ext e h2⟩
theorem RKV.length {κ : Type} : ∀ {kvs : List (κ × D)} {ws : List (κ × V)}, RKV K H kvs ws → ws.length = kvs.length
  | [], _, h => by cases (show _ = [] from h); rfl
  | (k, d) :: r, _, h => by
    obtain ⟨v, t, rfl, h1, h2⟩ := h
    rw [List.length_cons, List.length_cons, RKV.length h2]
theorem RKV.keys {κ : Type} : ∀ {kvs : List (κ × D)} {ws : List (κ × V)}, RKV K H kvs ws → ws.map (·.1) = kvs.map (·.1)
  | [], _, h => by cases (show _ = [] from h); rfl
  | (k, d) :: r, _, h => by
    obtain ⟨v, t, rfl, h1, h2⟩ := h
    rw [List.map_cons, List.map_cons, RKV.keys h2]
theorem RKV.vals {κ : Type} : ∀ {kvs : List (κ × D)} {ws : List (κ × V)}, RKV K H kvs ws → RDs K H (kvs.map (·.2)) (ws.map (·.2))
  | [], _, h => by cases (show _ = [] from h); exact rfl
  | (k, d) :: r, _, h => by
    obtain ⟨v, t, rfl, h1, h2⟩ := h
    exact ⟨v, _, rfl, h1, RKV.vals h2⟩
theorem RO.stable {a : Addr} {o : DO} (e : Ext K H H1) (k : ∀ u, H a = some u → H1 a = some u) (h : RO K H a o) : RO K H1 a o := by
  cases o with
  | lst ds => obtain ⟨vs, h1, h2⟩ := h; exact ⟨vs, k _ h1, h2.ext e⟩
  | dk kvs => obtain ⟨ws, h1, h2⟩ := h; exact ⟨ws, k _ h1, h2.ext e⟩
  | ins C fs => obtain ⟨dx, ws, h1, h2⟩ := h; exact ⟨dx, ws, k _ h1, h2.ext e⟩
theorem RS.sub (h : RS K H S') (q : Sub S S') : RS K H S := fun a o e => h a o (q a o e)
/-- heap grown at p by what the store doesn't hold -/
theorem RS.grow {p : Addr} {u : HO} (h : RS K H S) (n : H p = none) : RS K (upd H p u) S := fun a o e =>
  (h a o e).stable (Ext.new n) fun w hw => by rw [upd_ne (ne_of_none hw n)]; exact hw
theorem RS.new {p : Addr} {u : HO} {o : DO} (h : RS K H S) (n : H p = none) (q : RO K (upd H p u) p o) : RS K (upd H p u) (put S p o) := fun a v e => by
  by_cases z : a = p
  · subst z
    rw [put_same] at e
    cases e
    exact q
  · rw [put_ne z] at e
    exact h.grow n a v e
theorem RS.put {p : Addr} {u w : HO} {o : DO} (h : RS K H S) (n : H p = some w) (s : soft w) (q : RO K (upd H p u) p o) : RS K (upd H p u) (put S p o) := fun a v e => by
  by_cases z : a = p
  · subst z
    rw [put_same] at e
    cases e
    exact q
  · rw [put_ne z] at e
    exact (h a v e).stable (Ext.put n s) fun x hx => by rw [upd_ne z]; exact hx
theorem RS.lst {a : Addr} {ds : List D} (h : RS K H S) (e : S a = some (.lst ds)) : ∃ vs, H a = some (.lst vs) ∧ RDs K H ds vs := h a _ e
theorem RS.free {a : Addr} (h : RS K H S) (n : H a = none) : S a = none := by
  cases e : S a with
  | none => rfl
  | some o =>
    cases o with
    | lst ds => obtain ⟨vs, h1, _⟩ := h a _ e; rw [n] at h1; cases h1
    | dk ds => obtain ⟨vs, h1, _⟩ := h a _ e; rw [n] at h1; cases h1
    | ins C ds => obtain ⟨dx, vs, h1, _⟩ := h a _ e; rw [n] at h1; cases h1
end
end DL

set_option Elab.async false
set_option maxRecDepth 100000
/-! DLb: the judgements over data: expressions, tests, arguments, statements, targets. -/
namespace DL
open PySem PySem.Spec PyProof.Rows L2

/-! ### the slots -/
abbrev StD := List (Option D)
def lk : StD → Nat → Option D
  | [], _ => none
  | x :: _, 0 => x
  | _ :: r, n + 1 => lk r n
def sto : StD → Nat → Option D → StD
  | [], _, _ => []
  | _ :: r, 0, d => d :: r
  | x :: r, n + 1, d => x :: sto r n d
def RSt (K : PySem.W.Frag) (H : Hp) : StD → L2.St → Prop
  | [], σ => σ = []
  | o :: r, σ => ∃ v t, σ = v :: t ∧ (∀ d, o = some d → ∃ x, v = some x ∧ RD K H d x) ∧ RSt K H r t
section
variable {K : PySem.W.Frag} {H H1 : Hp}
theorem RSt.ext (e : Ext K H H1) : ∀ {δ : StD} {σ : L2.St}, RSt K H δ σ → RSt K H1 δ σ
  | [], _, h => h
  | o :: r, _, h => by
    obtain ⟨v, t, rfl, h1, h2⟩ := h
    exact ⟨v, t, rfl, fun d hd => let ⟨x, e1, q⟩ := h1 d hd; ⟨x, e1, q.ext e⟩, RSt.ext e h2⟩
theorem RSt.lk : ∀ {δ : StD} {σ : L2.St} {i : Nat} {d : D}, RSt K H δ σ → DL.lk δ i = some d → ∃ v, σ[i]? = some (some v) ∧ RD K H d v
  | [], _, _, _, _, e => by cases e
  | o :: r, _, 0, d, h, e => by
    obtain ⟨v, t, rfl, h1, h2⟩ := h
    obtain ⟨x, e1, q⟩ := h1 d e
    exact ⟨x, by simp [e1], q⟩
  | o :: r, _, i + 1, d, h, e => by
    obtain ⟨v, t, rfl, h1, h2⟩ := h
    obtain ⟨x, e1, q⟩ := RSt.lk (i := i) h2 e
    exact ⟨x, by simpa using e1, q⟩
theorem RSt.sto : ∀ {δ : StD} {σ : L2.St} {i : Nat} {d : D} {v : V}, RSt K H δ σ → RD K H d v → RSt K H (DL.sto δ i (some d)) (σ.set i (some v))
  | [], _, _, _, _, h, _ => by cases (show _ = [] from h); exact rfl
  | o :: r, _, 0, d, v, h, q => by
    obtain ⟨w, t, rfl, h1, h2⟩ := h
    exact ⟨some v, t, rfl, fun d' hd => by cases hd; exact ⟨v, rfl, q⟩, h2⟩
  | o :: r, _, i + 1, d, v, h, q => by
    obtain ⟨w, t, rfl, h1, h2⟩ := h
    exact ⟨w, _, rfl, h1, RSt.sto (i := i) h2 q⟩
theorem RSt.stn : ∀ {δ : StD} {σ : L2.St} {i : Nat}, RSt K H δ σ → RSt K H (DL.sto δ i none) (σ.set i none)
  | [], _, _, h => by cases (show _ = [] from h); exact rfl
  | o :: r, _, 0, h => by
    obtain ⟨w, t, rfl, h1, h2⟩ := h
    exact ⟨none, t, rfl, fun d' hd => (nomatch hd), h2⟩
  | o :: r, _, i + 1, h => by
    obtain ⟨w, t, rfl, h1, h2⟩ := h
    exact ⟨w, _, rfl, h1, RSt.stn (i := i) h2⟩
theorem RSt.nones : ∀ n : Nat, RSt K H (List.replicate n none) (List.replicate n none)
  | 0 => rfl
  | n + 1 => ⟨none, _, rfl, fun d e => (nomatch e), RSt.nones n⟩
theorem RSt.args : ∀ {ds : List D} {vs : List V} {n : Nat}, RDs K H ds vs → RSt K H (ds.map some ++ List.replicate n none) (vs.map some ++ List.replicate n none)
  | [], _, n, h => by cases (show _ = [] from h); exact RSt.nones n
  | d :: ds, _, n, h => by
    obtain ⟨v, r, rfl, h1, h2⟩ := h
    exact ⟨some v, _, rfl, fun d' e => by cases e; exact ⟨v, rfl, h1⟩, RSt.args h2⟩
end
def startD (N : List Str) (ds : List D) : StD := ds.map some ++ List.replicate (N.length - ds.length) none

/-! ### judgements -/
abbrev KD := D → Store → Prop
abbrev TED := StD → Store → KD → Prop
abbrev TTD := StD → Store → (Bool → Store → Prop) → Prop
abbrev TAD := StD → Store → (List D → Store → Prop) → Prop
structure EndsD where
  nx : StD → Store → Prop
  rt : KD
  bk : StD → Store → Prop := fun _ _ => False
  ct : StD → Store → Prop := fun _ _ => False
abbrev TSD := EndsD → StD → Store → Prop
def liftE (K : PySem.W.Frag) (t : TED) : TE := fun σ H Q => ∃ δ S Q0, RSt K H δ σ ∧ RS K H S ∧ t δ S Q0 ∧ ∀ d S' v H', Q0 d S' → Ext K H H' → RD K H' d v → RS K H' S' → Q v H'
def liftT (K : PySem.W.Frag) (t : TTD) : TT := fun σ H Q => ∃ δ S Q0, RSt K H δ σ ∧ RS K H S ∧ t δ S Q0 ∧ ∀ b S' H', Q0 b S' → Ext K H H' → RS K H' S' → Q b H'
def liftA (K : PySem.W.Frag) (t : TAD) : TA := fun σ H Q => ∃ δ S Q0, RSt K H δ σ ∧ RS K H S ∧ t δ S Q0 ∧ ∀ ds S' vs H', Q0 ds S' → Ext K H H' → RDs K H' ds vs → RS K H' S' → Q vs H'
def liftS (K : PySem.W.Frag) (t : TSD) : TS := fun E σ H => ∃ δ S G, RSt K H δ σ ∧ RS K H S ∧ t G δ S ∧
  (∀ δ' S' σ' H', G.nx δ' S' → Ext K H H' → RSt K H' δ' σ' → RS K H' S' → E.nx σ' H') ∧ (∀ d S' v H', G.rt d S' → Ext K H H' → RD K H' d v → RS K H' S' → E.rt v H') ∧
  (∀ δ' S' σ' H', G.bk δ' S' → Ext K H H' → RSt K H' δ' σ' → RS K H' S' → E.bk σ' H') ∧ (∀ δ' S' σ' H', G.ct δ' S' → Ext K H H' → RSt K H' δ' σ' → RS K H' S' → E.ct σ' H')
def DE (X : Cx) (e : Expr) (t : TED) : Prop := PE X e (liftE X.K t)
def DT (X : Cx) (e : Expr) (t : TTD) : Prop := PT X e (liftT X.K t)
def DW (X : Cx) (e : Expr) (t : TTD) : Prop := PW X e (liftT X.K t)
def DA (X : Cx) (es : List Expr) (t : TAD) : Prop := PA X es (liftA X.K t)
def DS (X : Cx) (st : Stmt) (t : TSD) : Prop := PS X st (liftS X.K t)
def DSs (X : Cx) (st : List Stmt) (t : TSD) : Prop := PSs X st (liftS X.K t)

section
variable {X : Cx}
theorem PEi {e : Expr} {t t' : TE} (h : PE X e t') (w : ∀ σ H Q, t σ H Q → t' σ H Q) : PE X e t := ⟨fun pins s σ H Q I q => h.run pins s σ H Q I (w _ _ _ q)⟩
theorem PTi {e : Expr} {t t' : TT} (h : PT X e t') (w : ∀ σ H Q, t σ H Q → t' σ H Q) : PT X e t := ⟨fun pins s σ H Q I q => h.run pins s σ H Q I (w _ _ _ q)⟩
theorem PWi {e : Expr} {t t' : TT} (h : PW X e t') (w : ∀ σ H Q, t σ H Q → t' σ H Q) : PW X e t := ⟨fun wh pins s σ H Q I q => h.run wh pins s σ H Q I (w _ _ _ q)⟩
theorem PAi {e : List Expr} {t t' : TA} (h : PA X e t') (w : ∀ σ H Q, t σ H Q → t' σ H Q) : PA X e t := ⟨fun pos pins s σ H Q I q => h.run pos pins s σ H Q I (w _ _ _ q)⟩
theorem PSi {e : Stmt} {t t' : TS} (h : PS X e t') (w : ∀ E σ H, t E σ H → t' E σ H) : PS X e t := ⟨fun pins s σ H E I q => h.run pins s σ H E I (w _ _ _ q)⟩
theorem PSsi {e : List Stmt} {t t' : TS} (h : PSs X e t') (w : ∀ E σ H, t E σ H → t' E σ H) : PSs X e t := ⟨fun pins s σ H E I q => h.run pins s σ H E I (w _ _ _ q)⟩
theorem OpRi {f : Value → Value → Sem Value} {r r' : R2} (h : OpR X f r') (w : ∀ x y H Q, r x y H Q → r' x y H Q) : OpR X f r := fun pins s σ H x y v u Q I rx ry q => h pins s σ H x y v u Q I rx ry (w _ _ _ _ q)
theorem CallRi {f : Value} {r r' : List V → Hp → VK → Prop} (h : CallR X f r') (w : ∀ xs H Q, r xs H Q → r' xs H Q) : CallR X f r := fun pins s σ H xs us Q I rs q => h pins s σ H xs us Q I rs (w _ _ _ q)
end

/-! ### values by two, by many -/
abbrev R2D := D → D → Store → KD → Prop
abbrev R1D := D → Store → KD → Prop
abbrev RAD := List D → Store → KD → Prop
def lift2 (K : PySem.W.Frag) (r : R2D) : R2 := fun x y H Q => ∃ dx dy S Q0, RD K H dx x ∧ RD K H dy y ∧ RS K H S ∧ r dx dy S Q0 ∧ ∀ d S' v H', Q0 d S' → Ext K H H' → RD K H' d v → RS K H' S' → Q v H'
def liftC (K : PySem.W.Frag) (r : RAD) : List V → Hp → VK → Prop := fun xs H Q => ∃ ds S Q0, RDs K H ds xs ∧ RS K H S ∧ r ds S Q0 ∧ ∀ d S' v H', Q0 d S' → Ext K H H' → RD K H' d v → RS K H' S' → Q v H'
def OpD (X : Cx) (f : Value → Value → Sem Value) (r : R2D) : Prop := OpR X f (lift2 X.K r)
def CallD (X : Cx) (f : Value) (r : RAD) : Prop := CallR X f (liftC X.K r)

/-! ### names, constants -/
def tVarD (i : Nat) : TED := fun δ S Q => match lk δ i with
  | some d => Q d S
  | none => False
def tCD (d : D) : TED := fun _ S Q => Q d S
section
variable {X : Cx} {pos : Pos}
theorem dv (i : Nat) {x : Str} (hN : X.N[i]? = some x := by rfl) (hv : Vis X.env.scope x := by first | exact Or.inl rfl | exact Or.inr (Or.inl rfl) | exact Or.inr (Or.inr rfl)) (hd : (x == ("__debug__" : Str)) = false := by decide)
    (hcd : (x == ("__classdict__" : Str)) = false := by decide) : DE X (.Name x pos) (tVarD i) := PEi (pe_var hN hv hd hcd) fun σ H Q h => by
  obtain ⟨δ, S, Q0, h1, h2, h3, h4⟩ := h
  unfold tVarD at h3
  split at h3
  · rename_i d e
    obtain ⟨v, e1, q⟩ := h1.lk e
    exact ⟨v, e1, h4 _ _ _ _ h3 .refl q h2⟩
  · cases h3
theorem de_c {e : Expr} {d : D} {v : V} (h : PE X e (tC v)) (r : ∀ H, RD X.K H d v) : DE X e (tCD d) := PEi h fun σ H Q q => by
  obtain ⟨δ, S, Q0, h1, h2, h3, h4⟩ := q
  exact h4 _ _ _ _ h3 .refl (r H) h2
theorem de_int {i j} : DE X (.Constant (.int i) j pos) (tCD (.int i)) := de_c pe_int fun _ => rfl
theorem de_bl {b j} : DE X (.Constant (.bool b) j pos) (tCD (.bl b)) := de_c pe_bl fun _ => rfl
theorem de_non {j} : DE X (.Constant .none j pos) (tCD .non) := de_c pe_non fun _ => rfl
theorem de_str {x j} : DE X (.Constant (.str x) j pos) (tCD (.str x)) := de_c pe_str fun _ => rfl
end

/-! ### operators -/
section
variable {X : Cx} {pos : Pos} {a b c e : Expr} {ta tb tc te : TED} {tt : TTD}
def tOpD (r : R2D) (ta tb : TED) : TED := fun δ S Q => ta δ S fun x S1 => tb δ S1 fun y S2 => r x y S2 Q
theorem op_lift {r : R2D} {σ : L2.St} {H : Hp} {Q : VK} (h : liftE X.K (tOpD r ta tb) σ H Q) : tOp (lift2 X.K r) (liftE X.K ta) (liftE X.K tb) σ H Q := by
  obtain ⟨δ, S, Q0, h1, h2, h3, h4⟩ := h
  refine ⟨δ, S, _, h1, h2, h3, fun x S1 v H1 q e1 r1 s1 => ⟨δ, S1, _, h1.ext e1, s1, q, fun y S2 w H2 q2 e2 r2 s2 => ⟨x, y, S2, Q0, r1.ext e2, r2, s2, q2, fun d S' z H' q3 e3 r3 s3 => h4 d S' z H' q3 (e1.trans (e2.trans e3)) r3 s3⟩⟩⟩
theorem de_op {op : Operator} {r : R2D} (ho : OpD X (binaryOp op) r) (ha : DE X a ta) (hb : DE X b tb) : DE X (.BinOp a op b pos) (tOpD r ta tb) := PEi (pe_op ho ha hb) fun _ _ _ h => op_lift h
theorem de_cmp {op : CmpOp} {r : R2D} (ho : OpD X (compareOp op) r) (ha : DE X a ta) (hb : DE X b tb) (hm : behindInMarks op b = false) : DE X (.Compare a [op] [b] pos) (tOpD r ta tb) := PEi (pe_cmpR ho ha hb hm) fun _ _ _ h => op_lift h
/-- the answer of an expression that tells a truth, as a test -/
def tTestD (t : TED) : TTD := fun δ S Q => t δ S fun x S1 => match x with
  | .bl k => Q k S1
  | _ => False
theorem test_lift {σ : L2.St} {H : Hp} {Q : Bool → Hp → Prop} (h : liftT X.K (tTestD te) σ H Q) : tB (liftE X.K te) σ H Q := by
  obtain ⟨δ, S, Q0, h1, h2, h3, h4⟩ := h
  refine ⟨δ, S, _, h1, h2, h3, fun x S1 v H1 q e1 r1 s1 => ?_⟩
  cases x with
  | bl k => exact ⟨k, r1, h4 _ _ _ q e1 s1⟩
  | _ => cases q
theorem dt_cmp {op : CmpOp} {r : R2D} (ho : OpD X (compareOp op) r) (ha : DE X a ta) (hb : DE X b tb) (hm : behindInMarks op b = false) : DT X (.Compare a [op] [b] pos) (tTestD (tOpD r ta tb)) := PTi (pt_cmpR ho ha hb hm) fun σ H Q h => by
  obtain ⟨k, S, Q0, h1, h2, h3, h4⟩ := test_lift h
  exact op_lift (X := X) ⟨k, S, Q0, h1, h2, h3, h4⟩
/-- a call, a name that tells a truth, as a test -/
theorem dt_val (h : DE X e te) (he : ∀ whole, isTrue e X.env whole = (do let v ← whole; standAt e.pos; holding [v] (truthy v)) := by intro _; rfl) : DT X e (tTestD te) := PTi (pt_val h he) fun _ _ _ q => test_lift q
def tAndD (t u : TTD) : TTD := fun δ S Q => t δ S fun c S1 => if c = true then u δ S1 Q else Q false S1
def tOrD (t u : TTD) : TTD := fun δ S Q => t δ S fun c S1 => if c = true then Q true S1 else u δ S1 Q
def tNotD (t : TTD) : TTD := fun δ S Q => t δ S fun c S1 => Q (!c) S1
variable {rest : List Expr} {tA tB : TTD}
theorem dw_and1 (ha : DT X a tA) : DW X (.BoolOp .And [a] pos) tA := pw_and1 ha
theorem dw_or1 (ha : DT X a tA) : DW X (.BoolOp .Or [a] pos) tA := pw_or1 ha
theorem dw_and (ha : DT X a tA) (hb : DW X (.BoolOp .And (b :: rest) pos) tB) : DW X (.BoolOp .And (a :: b :: rest) pos) (tAndD tA tB) := PWi (pw_and ha hb) fun σ H Q h => by
  obtain ⟨δ, S, Q0, h1, h2, h3, h4⟩ := h
  refine ⟨δ, S, _, h1, h2, h3, fun c S1 H1 q e1 s1 => ?_⟩
  cases c with
  | true => exact ⟨δ, S1, Q0, h1.ext e1, s1, q, fun b' S' H' q' e' s' => h4 b' S' H' q' (e1.trans e') s'⟩
  | false => exact h4 _ _ _ q e1 s1
theorem dw_or (ha : DT X a tA) (hb : DW X (.BoolOp .Or (b :: rest) pos) tB) : DW X (.BoolOp .Or (a :: b :: rest) pos) (tOrD tA tB) := PWi (pw_or ha hb) fun σ H Q h => by
  obtain ⟨δ, S, Q0, h1, h2, h3, h4⟩ := h
  refine ⟨δ, S, _, h1, h2, h3, fun c S1 H1 q e1 s1 => ?_⟩
  cases c with
  | true => exact h4 _ _ _ q e1 s1
  | false => exact ⟨δ, S1, Q0, h1.ext e1, s1, q, fun b' S' H' q' e' s' => h4 b' S' H' q' (e1.trans e') s'⟩
theorem dt_w (h : DW X e tt) : DT X e tt := PW.pt h
theorem dt_not (ha : DT X a tA) : DT X (.UnaryOp .Not a pos) (tNotD tA) := PTi (pt_not ha) fun σ H Q h => by
  obtain ⟨δ, S, Q0, h1, h2, h3, h4⟩ := h
  exact ⟨δ, S, _, h1, h2, h3, fun c S1 H1 q e1 s1 => h4 _ _ _ q e1 s1⟩
/-- and, or, not as values: of truths -/
def tAndV (ta tb : TED) : TED := fun δ S Q => ta δ S fun x S1 => match x with
  | .bl c => if c = true then tb δ S1 Q else Q (.bl false) S1
  | _ => False
def tOrV (ta tb : TED) : TED := fun δ S Q => ta δ S fun x S1 => match x with
  | .bl c => if c = true then Q (.bl true) S1 else tb δ S1 Q
  | _ => False
def tNotV (ta : TED) : TED := fun δ S Q => ta δ S fun x S1 => match x with
  | .bl c => Q (.bl (!c)) S1
  | _ => False
theorem de_one {op} (h : DE X a ta) : DE X (.BoolOp op [a] pos) ta := pe_one h
theorem de_and (ha : DE X a ta) (hb : DE X (.BoolOp .And (b :: rest) pos) tb) : DE X (.BoolOp .And (a :: b :: rest) pos) (tAndV ta tb) := PEi (pe_and ha hb) fun σ H Q h => by
  obtain ⟨δ, S, Q0, h1, h2, h3, h4⟩ := h
  refine ⟨δ, S, _, h1, h2, h3, fun x S1 v H1 q e1 r1 s1 => ?_⟩
  cases x with
  | bl k =>
    refine ⟨k, r1, ?_⟩
    cases k with
    | true => exact ⟨δ, S1, Q0, h1.ext e1, s1, q, fun b' S' w H' q' e' r' s' => h4 b' S' w H' q' (e1.trans e') r' s'⟩
    | false => exact h4 _ _ _ _ q e1 rfl s1
  | _ => cases q
theorem de_or (ha : DE X a ta) (hb : DE X (.BoolOp .Or (b :: rest) pos) tb) : DE X (.BoolOp .Or (a :: b :: rest) pos) (tOrV ta tb) := PEi (pe_or ha hb) fun σ H Q h => by
  obtain ⟨δ, S, Q0, h1, h2, h3, h4⟩ := h
  refine ⟨δ, S, _, h1, h2, h3, fun x S1 v H1 q e1 r1 s1 => ?_⟩
  cases x with
  | bl k =>
    refine ⟨k, r1, ?_⟩
    cases k with
    | false => exact ⟨δ, S1, Q0, h1.ext e1, s1, q, fun b' S' w H' q' e' r' s' => h4 b' S' w H' q' (e1.trans e') r' s'⟩
    | true => exact h4 _ _ _ _ q e1 rfl s1
  | _ => cases q
theorem de_not (ha : DE X a ta) : DE X (.UnaryOp .Not a pos) (tNotV ta) := PEi (pe_not ha) fun σ H Q h => by
  obtain ⟨δ, S, Q0, h1, h2, h3, h4⟩ := h
  refine ⟨δ, S, _, h1, h2, h3, fun x S1 v H1 q e1 r1 s1 => ?_⟩
  cases x with
  | bl k => exact ⟨k, r1, h4 _ _ _ _ q e1 rfl s1⟩
  | _ => cases q
def tIfD (t : TTD) (ta tb : TED) : TED := fun δ S Q => t δ S fun c S1 => if c = true then ta δ S1 Q else tb δ S1 Q
theorem de_if (hc : DT X c tt) (ha : DE X a ta) (hb : DE X b tb) : DE X (.IfExp c a b pos) (tIfD tt ta tb) := PEi (pe_ifExp hc ha hb) fun σ H Q h => by
  obtain ⟨δ, S, Q0, h1, h2, h3, h4⟩ := h
  refine ⟨δ, S, _, h1, h2, h3, fun k S1 H1 q e1 s1 => ?_⟩
  cases k with
  | true => exact ⟨δ, S1, Q0, h1.ext e1, s1, q, fun b' S' w H' q' e' r' s' => h4 b' S' w H' q' (e1.trans e') r' s'⟩
  | false => exact ⟨δ, S1, Q0, h1.ext e1, s1, q, fun b' S' w H' q' e' r' s' => h4 b' S' w H' q' (e1.trans e') r' s'⟩
/-- a negative number -/
def tNegD (ta : TED) : TED := fun δ S Q => ta δ S fun x S1 => match x with
  | .int i => Q (.int (-i)) S1
  | _ => False
theorem de_neg (ha : DE X a ta) : DE X (.UnaryOp .USub a pos) (tNegD ta) := PEi (pe_un un_neg ha) fun σ H Q h => by
  obtain ⟨δ, S, Q0, h1, h2, h3, h4⟩ := h
  refine ⟨δ, S, _, h1, h2, h3, fun x S1 v H1 q e1 r1 s1 => ?_⟩
  cases x with
  | int i => exact ⟨i, r1, h4 _ _ _ _ q e1 rfl s1⟩
  | _ => cases q
end

/-! ### arguments, tuples, lists -/
section
variable {X : Cx} {pos : Pos} {e : Expr} {es : List Expr} {te : TED} {t : TAD}
def tNilD : TAD := fun _ S Q => Q [] S
def tConsD (te : TED) (t : TAD) : TAD := fun δ S Q => te δ S fun x S1 => t δ S1 fun xs S2 => Q (x :: xs) S2
theorem da_nil : DA X [] tNilD := PAi pa_nil fun σ H Q h => by
  obtain ⟨δ, S, Q0, h1, h2, h3, h4⟩ := h
  exact h4 _ _ _ _ h3 .refl rfl h2
theorem da_cons (ha : DE X e te) (hr : DA X es t) (hs : starEach (e :: es) X.env = (false, eval e X.env) :: starEach es X.env := by rfl) : DA X (e :: es) (tConsD te t) := PAi (pa_cons ha hr hs) fun σ H Q h => by
  obtain ⟨δ, S, Q0, h1, h2, h3, h4⟩ := h
  refine ⟨δ, S, _, h1, h2, h3, fun x S1 v H1 q e1 r1 s1 => ⟨δ, S1, _, h1.ext e1, s1, q, fun xs S2 vs H2 q2 e2 r2 s2 => h4 _ _ _ _ q2 (e1.trans e2) ⟨v, vs, rfl, r1.ext e2, r2⟩ s2⟩⟩
def tTupD (t : TAD) : TED := fun δ S Q => t δ S fun xs S1 => xs.length ≤ sizeLine ∧ Q (.tup xs) S1
def tLstD (t : TAD) : TED := fun δ S Q => t δ S fun xs S1 => xs.length ≤ sizeLine ∧ ∀ p, S1 p = none → Q (.ref p) (put S1 p (.lst xs))
theorem RD.newTup {K : PySem.W.Frag} {H : Hp} {p : Addr} {ds : List D} {vs : List V} (n : H p = none) (h : RDs K H ds vs) : RD K (upd H p (.tup vs)) (.tup ds) (.ref p) := ⟨p, vs, rfl, SqT.of upd_same, h.ext (Ext.new n)⟩
theorem RS.newLst {K : PySem.W.Frag} {H : Hp} {S : Store} {p : Addr} {ds : List D} {vs : List V} (s : RS K H S) (n : H p = none) (h : RDs K H ds vs) : RS K (upd H p (.lst vs)) (DL.put S p (.lst ds)) := s.new n ⟨vs, upd_same, h.ext (Ext.new n)⟩
theorem de_tup {x1} (h : DA X es t) : DE X (.Tuple es x1 pos) (tTupD t) := PEi (pe_tup h) fun σ H Q q => by
  obtain ⟨δ, S, Q0, h1, h2, h3, h4⟩ := q
  refine ⟨δ, S, _, h1, h2, h3, fun xs S1 vs H1 q1 e1 r1 s1 => ⟨by rw [r1.length]; exact q1.1, fun p np => ?_⟩⟩
  exact h4 _ _ _ _ q1.2 (e1.trans (Ext.new np)) (.newTup np r1) (s1.grow np)
theorem de_lst (h : DA X es t) : DE X (.List es pos) (tLstD t) := PEi (pe_lst h) fun σ H Q q => by
  obtain ⟨δ, S, Q0, h1, h2, h3, h4⟩ := q
  refine ⟨δ, S, _, h1, h2, h3, fun xs S1 vs H1 q1 e1 r1 s1 => ⟨by rw [r1.length]; exact q1.1, fun p np => ?_⟩⟩
  exact h4 _ _ _ _ (q1.2 p (s1.free np)) (e1.trans (Ext.new np)) rfl (s1.newLst np r1)
end

/-! ### statements -/
section
variable {X : Cx} {pos : Pos} {st : Stmt} {rest : List Stmt} {t u : TSD} {e : Expr} {te : TED} {tt : TTD}
def tNextD : TSD := fun G δ S => G.nx δ S
def tSeqD (t u : TSD) : TSD := fun G δ S => t { G with nx := u G } δ S
def tRetD (te : TED) : TSD := fun G δ S => te δ S G.rt
def tDropD (te : TED) : TSD := fun G δ S => te δ S fun _ S1 => G.nx δ S1
def tIfSD (c : TTD) (t u : TSD) : TSD := fun G δ S => c δ S fun b S1 => if b = true then t G δ S1 else u G δ S1
def tBreakD : TSD := fun G δ S => G.bk δ S
def tContD : TSD := fun G δ S => G.ct δ S
theorem lift_shift {K : PySem.W.Frag} {G : EndsD} {E : Ends} {δ : StD} {S : Store} {σ : L2.St} {H H1 : Hp} {t : TSD} (e : Ext K H H1) (h1 : RSt K H1 δ σ) (h2 : RS K H1 S) (h : t G δ S)
    (n : ∀ δ' S' σ' H', G.nx δ' S' → Ext K H H' → RSt K H' δ' σ' → RS K H' S' → E.nx σ' H') (r : ∀ d S' v H', G.rt d S' → Ext K H H' → RD K H' d v → RS K H' S' → E.rt v H')
    (b : ∀ δ' S' σ' H', G.bk δ' S' → Ext K H H' → RSt K H' δ' σ' → RS K H' S' → E.bk σ' H') (c : ∀ δ' S' σ' H', G.ct δ' S' → Ext K H H' → RSt K H' δ' σ' → RS K H' S' → E.ct σ' H') : liftS K t E σ H1 :=
  ⟨δ, S, G, h1, h2, h, fun δ' S' σ' H' q x => n δ' S' σ' H' q (e.trans x), fun d S' v H' q x => r d S' v H' q (e.trans x), fun δ' S' σ' H' q x => b δ' S' σ' H' q (e.trans x), fun δ' S' σ' H' q x => c δ' S' σ' H' q (e.trans x)⟩
theorem dss_nil : DSs X [] tNextD := PSsi pss_nil fun E σ H h => by
  obtain ⟨δ, S, G, h1, h2, h3, n, r, b, c⟩ := h
  exact n _ _ _ _ h3 .refl h1 h2
theorem dss_cons (h1 : DS X st t) (h2 : DSs X rest u) : DSs X (st :: rest) (tSeqD t u) := PSsi (pss_cons h1 h2) fun E σ H h => by
  obtain ⟨δ, S, G, h1, h2, h3, n, r, b, c⟩ := h
  exact ⟨δ, S, _, h1, h2, h3, fun δ' S' σ' H' q x h1' h2' => lift_shift x h1' h2' q n r b c, r, b, c⟩
theorem dss_one (h1 : DS X st t) : DSs X [st] t := pss_one h1
theorem ds_pass : DS X (.Pass pos) tNextD := PSi ps_pass fun E σ H h => by
  obtain ⟨δ, S, G, h1, h2, h3, n, r, b, c⟩ := h
  exact n _ _ _ _ h3 .refl h1 h2
theorem ds_break : DS X (.Break pos) tBreakD := PSi ps_break fun E σ H h => by
  obtain ⟨δ, S, G, h1, h2, h3, n, r, b, c⟩ := h
  exact b _ _ _ _ h3 .refl h1 h2
theorem ds_cont : DS X (.Continue pos) tContD := PSi ps_continue fun E σ H h => by
  obtain ⟨δ, S, G, h1, h2, h3, n, r, b, c⟩ := h
  exact c _ _ _ _ h3 .refl h1 h2
theorem ds_expr (he : DE X e te) (hs : swapsWith e none pos.line X.env = pure false := by rfl) : DS X (.Expr e pos) (tDropD te) := PSi (ps_expr he hs) fun E σ H h => by
  obtain ⟨δ, S, G, h1, h2, h3, n, r, b, c⟩ := h
  exact ⟨δ, S, _, h1, h2, h3, fun d S1 v H1 q e1 r1 s1 => n _ _ _ _ q e1 (h1.ext e1) s1⟩
theorem ds_ret (he : DE X e te) : DS X (.Return (some e) pos) (tRetD te) := PSi (ps_ret he) fun E σ H h => by
  obtain ⟨δ, S, G, h1, h2, h3, n, r, b, c⟩ := h
  exact ⟨δ, S, _, h1, h2, h3, fun d S1 v H1 q e1 r1 s1 => r _ _ _ _ q e1 r1 s1⟩
def tRetND : TSD := fun G _ S => G.rt .non S
theorem ds_retN : DS X (.Return none pos) tRetND := PSi ps_retN fun E σ H h => by
  obtain ⟨δ, S, G, h1, h2, h3, n, r, b, c⟩ := h
  exact r _ _ _ _ h3 .refl rfl h2
theorem ds_if {c : Expr} {x y : List Stmt} (hc : DT X c tt) (ha : DSs X x t) (hb : DSs X y u) : DS X (.If c x y pos) (tIfSD tt t u) := PSi (ps_if hc ha hb) fun E σ H h => by
  obtain ⟨δ, S, G, h1, h2, h3, n, r, b, c⟩ := h
  refine ⟨δ, S, _, h1, h2, h3, fun k S1 H1 q e1 s1 => ?_⟩
  cases k with
  | true => exact lift_shift e1 (h1.ext e1) s1 q n r b c
  | false => exact lift_shift e1 (h1.ext e1) s1 q n r b c
def tNeverD : TSD := fun _ _ _ => False
theorem ds_never : DS X st tNeverD := PSi ps_never fun E σ H h => by
  obtain ⟨δ, S, G, h1, h2, h3, n, r, b, c⟩ := h
  exact h3
theorem dss_never : DSs X rest tNeverD := PSsi pss_never fun E σ H h => by
  obtain ⟨δ, S, G, h1, h2, h3, n, r, b, c⟩ := h
  exact h3
end

/-! ### targets: a name, several names -/
inductive GD where
  | one (i : Nat) | many (is : List Nat)
def gNames : List Nat → TGs
  | [] => gNil
  | i :: r => gCons (gName i) (gNames r)
def realG (K : PySem.W.Frag) : GD → TG
  | .one i => gName i
  | .many is => gTup K is.length (gNames is)
def stos : StD → List Nat → List D → StD
  | δ, i :: is, d :: ds => stos (sto δ i (some d)) is ds
  | δ, _, _ => δ
def asg : GD → D → StD → Store → (StD → Store → Prop) → Prop
  | .one i, d, δ, S, Q => Q (sto δ i (some d)) S
  | .many is, .tup ds, δ, S, Q => ds.length = is.length ∧ Q (stos δ is ds) S
  | _, _, _, _, _ => False
def DG (X : Cx) (tg : Expr) (g : GD) : Prop := PG X tg (realG X.K g)
def DGs (X : Cx) (ts : List Expr) (is : List Nat) : Prop := PGs X ts (gNames is)
section
variable {X : Cx} {pos : Pos} {tg e : Expr} {te : TED} {g : GD}
theorem dg_name {i : Nat} {x : Str} (hN : X.N.Nodup) (hi : X.N[i]? = some x) (hx : Loc X.env.scope x) (hf : X.fn x = true ∨ X.env.scope.names.lookup x = some .local := by first | exact .inl rfl | exact .inr rfl | assumption) : DG X (.Name x pos) (.one i) := pg_name hN hi hx hf
theorem dgs_nil : DGs X [] [] := pgs_nil
theorem dgs_cons {es : List Expr} {i : Nat} {is : List Nat} (h1 : DG X e (.one i)) (h2 : DGs X es is) (hs : (assignEach (e :: es) X.env).map (·.2) = assign e X.env :: (assignEach es X.env).map (·.2) := by rfl) : DGs X (e :: es) (i :: is) := pgs_cons h1 h2 hs
theorem dg_tup {es : List Expr} {k : Nat} {is : List Nat} (hc : X.calm = true) (h : DGs X es is) (hn : (assignEach es X.env).length = is.length := by rfl) (hst : (assignEach es X.env).findIdx? (·.1) = none := by rfl) : DG X (.Tuple es k pos) (.many is) := pg_tup hc h hn hst
/-- the real slots behind several stores -/
def sets : L2.St → List Nat → List V → L2.St
  | σ, i :: is, v :: vs => sets (σ.set i (some v)) is vs
  | σ, _, _ => σ
theorem gNames_at : ∀ {is : List Nat} {vs : List V} {σ : L2.St} {H : Hp} {Q : L2.St → Hp → Prop}, vs.length = is.length → Q (sets σ is vs) H → gNames is vs σ H Q
  | [], [], _, _, _, _, q => ⟨rfl, q⟩
  | i :: is, v :: vs, σ, H, Q, e, q => ⟨v, vs, rfl, gNames_at (by simpa using e) q⟩
theorem RSt.sets {K : PySem.W.Frag} {H : Hp} : ∀ {is : List Nat} {ds : List D} {vs : List V} {δ : StD} {σ : L2.St}, RSt K H δ σ → RDs K H ds vs → RSt K H (stos δ is ds) (DL.sets σ is vs)
  | [], _, _, _, _, h, _ => by unfold stos DL.sets; exact h
  | i :: is, [], _, _, _, h, q => by cases (show _ = [] from q); unfold stos DL.sets; exact h
  | i :: is, d :: ds, _, _, _, h, q => by
    obtain ⟨v, r, rfl, h1, h2⟩ := q
    exact RSt.sets (is := is) (h.sto h1) h2
/-- what a store does, over data -/
theorem asg_real {K : PySem.W.Frag} {g : GD} {d : D} {v : V} {δ : StD} {σ : L2.St} {S : Store} {H : Hp} {Q0 : StD → Store → Prop} {Q : L2.St → Hp → Prop} (h : asg g d δ S Q0) (rd : RD K H d v) (h1 : RSt K H δ σ) (h2 : RS K H S)
    (q : ∀ δ' σ', Q0 δ' S → RSt K H δ' σ' → Q σ' H) : realG K g v σ H Q := by
  cases g with
  | one i => exact q _ _ h (h1.sto rd)
  | many is =>
    cases d with
    | tup ds =>
      obtain ⟨hl, h⟩ := h
      obtain ⟨p, vs, rfl, ht, hd⟩ := rd
      exact ⟨p, vs, rfl, ht, by rw [hd.length]; exact hl, gNames_at (by rw [hd.length]; exact hl) (q _ _ h (h1.sets hd))⟩
    | _ => cases h
def tAsgD (te : TED) (g : GD) : TSD := fun G δ S => te δ S fun d S1 => asg g d δ S1 G.nx
theorem ds_asg (he : DE X e te) (hg : DG X tg g) (hs : swapsWithSole [tg] e pos.line X.env = pure false := by rfl) (hw : swappedStores [tg] e X.env = pure none := by rfl)
    (h1 : (assignEach [tg] X.env).map (·.2) = [assign tg X.env] := by rfl) : DS X (.Assign [tg] e pos) (tAsgD te g) := PSi (ps_asg he hg hs hw h1) fun E σ H h => by
  obtain ⟨δ, S, G, h1, h2, h3, n, r, b, c⟩ := h
  exact ⟨δ, S, _, h1, h2, h3, fun d S1 v H1 q e1 r1 s1 => asg_real q r1 (h1.ext e1) s1 fun δ' σ' q' h' => n _ _ _ _ q' e1 h' s1⟩
theorem ds_set {i : Nat} {x : Str} {pos' : Pos} (hN : X.N.Nodup) (hi : X.N[i]? = some x) (hx : Loc X.env.scope x) (he : DE X e te) (hs : swapsWith e (some (.Name x pos')) pos.line X.env = pure false := by rfl) (hf : X.fn x = true ∨ X.env.scope.names.lookup x = some .local := by first | exact .inl rfl | exact .inr rfl | assumption) :
    DS X (.Assign [.Name x pos'] e pos) (tAsgD te (.one i)) := PSi (ps_set hN hi hx he hs hf) fun E σ H h => by
  obtain ⟨δ, S, G, h1, h2, h3, n, r, b, c⟩ := h
  exact ⟨δ, S, _, h1, h2, h3, fun d S1 v H1 q e1 r1 s1 => asg_real (g := .one i) q r1 (h1.ext e1) s1 fun δ' σ' q' h' => n _ _ _ _ q' e1 h' s1⟩
end

/-! ### defs and calls -/
abbrev SpD := List D → Store → KD → Prop
def liftSp (K : PySem.W.Frag) (sp : SpD) : Sp := fun vs H Q _ => ∃ ds S Q0, RDs K H ds vs ∧ RS K H S ∧ sp ds S Q0 ∧ ∀ d S' v H', Q0 d S' → Ext K H H' → RD K H' d v → RS K H' S' → Q v H'
/-- the def of that name keeps its promise -/
def Df (P : Program) (w : World) (K : PySem.W.Frag) (mg : Str → Option Value) (base : Heap) (x : Str) (k : Nat) (sp : SpD) : Prop :=
  ∃ f fd ps, FnOk P w K mg base CX0 k f fd ps (liftSp K sp) ∧ mg x = some (.ref f) ∧ PySem.W.keepIn K (.ref f) = true ∧ Binds K fd ps []
/-- the def of that name stands as the text says -/
def At (K : PySem.W.Frag) (mg : Str → Option Value) (g x : Str) (st : Stmt) : Prop := ∃ f fd, Fun K x x st f fd ∧ mg g = some (.ref f)
/-- a module's constant -/
def Cst (K : PySem.W.Frag) (mg : Str → Option Value) (x : Str) (d : D) : Prop := ∃ v u, mg x = some u ∧ RelV v u ∧ ∀ H, RD K H d v
section
variable {P : Program} {w : World} {K : PySem.W.Frag} {mg : Str → Option Value} {base : Heap}
theorem Df.mono {x : Str} {j k : Nat} {sp : SpD} (h : Df P w K mg base x j sp) (l : j ≤ k) : Df P w K mg base x k sp := by
  obtain ⟨f, fd, ps, h1, h2⟩ := h
  exact ⟨f, fd, ps, h1.mono l, h2⟩
theorem Df.imp {x : Str} {k : Nat} {sp sp' : SpD} (h : Df P w K mg base x k sp) (l : ∀ ds S Q, sp' ds S Q → sp ds S Q) : Df P w K mg base x k sp' := by
  obtain ⟨f, fd, ps, h1, h2⟩ := h
  exact ⟨f, fd, ps, h1.imp fun vs H Q E ⟨ds, S, Q0, a, b, c, d⟩ => ⟨ds, S, Q0, a, b, l _ _ _ c, d⟩, h2⟩
/-- a def's end: what is made within may be forgotten -/
def endsD (Q : KD) : EndsD := { nx := fun _ S' => ∃ S'', Sub S'' S' ∧ Q .non S'', rt := fun d S' => ∃ S'', Sub S'' S' ∧ Q d S'' }
theorem df_mk {g x : Str} {st : Stmt} {N ps : List Str} {k : Nat} {sp : SpD} {sc : Scope} (A : At K mg g x st) (hsc : defScope st = sc) (SC : FnScope N ps sc)
    (hbi : ∀ (kV doc pm : Value) (an : Option Addr) (cdv ct : Value) (us : List Value), us.length = ps.length → bindArgs (PySem.W.fnOf x x (defArgs st) (defBody st) (defScope st) .none kV doc pm an cdv ct) ⟨us, []⟩ = pure (ps.zip us))
    (len : ∀ ds S Q, sp ds S Q → ds.length = ps.length)
    (hbody : ∀ (f : Addr) (cdv : Value) (A : Around) (outer : List Env) (s : Shared) (H : Hp) (E : XK), Room k (A.deeper (envOfC x sc s.heap.objs.size f cdv)) → ∀ ds S Q, sp ds S Q →
      ∃ t, DSs (cxOf CX0 P w K mg base N x sc f cdv A outer s H E).nox (defBody st) t ∧ t (endsD Q) (startD N ds) S) : Df P w K mg base g (k + 1) sp := by
  obtain ⟨f, fd, F, hm⟩ := A
  refine ⟨f, fd, ps, ?_, hm, F.kp, F.binds hbi⟩
  subst hsc
  refine F.ok SC (fun vs H Q E h => ?_) (fun cdv A outer s H vs Q E hr h => ?_)
  · obtain ⟨ds, S, Q0, h1, h2, h3, h4⟩ := h
    rw [h1.length, len _ _ _ h3]
  · obtain ⟨ds, S, Q0, h1, h2, h3, h4⟩ := h
    obtain ⟨t, ht, q⟩ := hbody f cdv A outer s H E hr ds S Q0 h3
    refine ⟨_, ht, startD N ds, S, _, ?_, h2, q, fun δ' S' σ' H' n e r' s' => ?_, fun d S' v H' n e r' s' => ?_, fun _ _ _ _ n => n.elim, fun _ _ _ _ n => n.elim⟩
    · unfold startD L2.start
      rw [← h1.length]
      exact RSt.args h1
    · obtain ⟨S'', hs, q⟩ := n
      exact h4 _ _ _ _ q e rfl (s'.sub hs)
    · obtain ⟨S'', hs, q⟩ := n
      exact h4 _ _ _ _ q e r' (s'.sub hs)
end
section
variable {X : Cx} {pos p : Pos} {e : Expr} {es : List Expr} {t : TAD} {x : Str} {k : Nat} {sp : SpD}
theorem de_cst {d : D} (hg : Gl X x) (h : Cst X.K X.mg x d) (hdb : (x == ("__debug__" : Str)) = false := by decide) : DE X (.Name x pos) (tCD d) := by
  obtain ⟨v, u, hm, r, hd⟩ := h
  exact de_c (pe_glob hg hm r hdb) hd
def tCallD (sp : SpD) (t : TAD) : TED := fun δ S Q => t δ S fun ds S1 => sp ds S1 Q
theorem call_lift {σ : L2.St} {H : Hp} {Q : VK} (h : liftE X.K (tCallD sp t) σ H Q) : tCall (liftSp X.K sp) [] E0 (liftA X.K t) σ H Q := by
  obtain ⟨δ, S, Q0, h1, h2, h3, h4⟩ := h
  refine ⟨δ, S, _, h1, h2, h3, fun ds S1 vs H1 q e1 r1 s1 => ?_⟩
  show liftSp X.K sp (vs ++ []) H1 Q E0
  rw [List.append_nil]
  exact ⟨ds, S1, Q0, r1, s1, q, fun d S' v H' q' e' r' s' => h4 _ _ _ _ q' (e1.trans e') r' s'⟩
theorem de_call (F : Df X.prog X.w X.K X.mg X.base x k sp) (hr : Room k X.A) (hg : Gl X x) (ha : DA X (e :: es) t) (hd : (x == ("__debug__" : Str)) = false := by decide) (he : starEach (e :: es) X.env = (false, eval e X.env) :: starEach es X.env := by rfl) (hpl : (backTo pos (starEach es X.env)).any (·.1) = false := by rfl) : DE X (.Call (.Name x p) (e :: es) [] pos) (tCallD sp t) := by
  obtain ⟨f, fd, ps, h1, h2, h3, h4⟩ := F
  exact PEi (pe_call h1 hr hg h2 h3 h4 .nil pass0 ha hd he hpl) fun _ _ _ h => call_lift h
theorem de_call0 (F : Df X.prog X.w X.K X.mg X.base x k sp) (hr : Room k X.A) (hg : Gl X x) (hd : (x == ("__debug__" : Str)) = false := by decide) : DE X (.Call (.Name x p) [] [] pos) (tCallD sp tNilD) := by
  obtain ⟨f, fd, ps, h1, h2, h3, h4⟩ := F
  refine PEi (pe_call0 h1 hr hg h2 h3 h4 .nil pass0 hd) fun σ H Q h => ?_
  obtain ⟨δ, S, Q0, g1, g2, g3, g4⟩ := h
  exact ⟨[], S, Q0, rfl, g2, g3, g4⟩
/-- a built-in by its name -/
theorem callB_lift {r : RAD} {σ : L2.St} {H : Hp} {Q : VK} (h : liftE X.K (tCallD r t) σ H Q) : tCB (liftC X.K r) (liftA X.K t) σ H Q := by
  obtain ⟨δ, S, Q0, h1, h2, h3, h4⟩ := h
  exact ⟨δ, S, _, h1, h2, h3, fun ds S1 vs H1 q e1 r1 s1 => ⟨ds, S1, Q0, r1, s1, q, fun d S' v H' q' e' r' s' => h4 _ _ _ _ q' (e1.trans e') r' s'⟩⟩
theorem de_callB {id : String} {r : RAD} (hc : CallD X (.builtin id) r) (hg : Gl X x) (hm : X.mg x = none) (hv : bootBuiltins x = some (.builtin id)) (ha : DA X (e :: es) t) (hn : x ≠ "__name__" := by decide) (hdb : (x == ("__debug__" : Str)) = false := by decide) (he : starEach (e :: es) X.env = (false, eval e X.env) :: starEach es X.env := by rfl) (hpl : (backTo pos (starEach es X.env)).any (·.1) = false := by rfl) :
    DE X (.Call (.Name x p) (e :: es) [] pos) (tCallD r t) := PEi (pe_callB hc hg hm hv ha hn hdb he hpl) fun _ _ _ h => callB_lift h
theorem de_callTy {T : String} {r : RAD} (hc : CallD X (.type T) r) (hg : Gl X x) (hm : X.mg x = none) (hv : bootBuiltins x = some (.type T)) (ha : DA X (e :: es) t) (hn : x ≠ "__name__" := by decide) (hdb : (x == ("__debug__" : Str)) = false := by decide) (he : starEach (e :: es) X.env = (false, eval e X.env) :: starEach es X.env := by rfl) (hpl : (backTo pos (starEach es X.env)).any (·.1) = false := by rfl) :
    DE X (.Call (.Name x p) (e :: es) [] pos) (tCallD r t) := PEi (pe_callTy hc hg hm hv ha hn hdb he hpl) fun _ _ _ h => callB_lift h
end
end DL

set_option Elab.async false
set_option maxRecDepth 100000
/-! DLc: operators, comparisons, subscripts, slices over data. -/
namespace DL
open PySem PySem.Spec PyProof.Rows L2

section
variable {X : Cx}
/-! ### + - * // % ** -/
def oAdd : R2D := fun x y S Q => match x, y with
  | .int i, .int j => Q (.int (i + j)) S
  | .str a, .str b => a.length + b.length ≤ sizeLine ∧ Q (.str (a ++ b)) S
  | .tup a, .tup b => a.length + b.length ≤ sizeLine ∧ Q (.tup (a ++ b)) S
  | .ref a, .ref b => ∃ xs ys, S a = some (.lst xs) ∧ S b = some (.lst ys) ∧ xs.length + ys.length ≤ sizeLine ∧ ∀ p, S p = none → Q (.ref p) (put S p (.lst (xs ++ ys)))
  | _, _ => False
theorem od_add : OpD X (binaryOp .Add) oAdd := by
  intro pins s σ H x y v u Q I rx ry h
  obtain ⟨dx, dy, S, Q0, hx, hy, hs, h, q⟩ := h
  cases dx with
  | int i =>
    cases dy with
    | int j =>
      cases (show x = .int i from hx)
      cases (show y = .int j from hy)
      exact op_add pins s σ H _ _ v u Q I rx ry ⟨i, j, rfl, rfl, q _ _ _ _ h .refl rfl hs⟩
    | _ => cases h
  | str a =>
    cases dy with
    | str b =>
      cases (show x = .str a from hx)
      cases (show y = .str b from hy)
      exact op_add_str pins s σ H _ _ v u Q I rx ry ⟨a, b, rfl, rfl, h.1, q _ _ _ _ h.2 .refl rfl hs⟩
    | _ => cases h
  | tup a =>
    cases dy with
    | tup b =>
      obtain ⟨p, vs, rfl, tp, hp⟩ := hx
      obtain ⟨r, ws, rfl, tr, hr⟩ := hy
      refine op_catA pins s σ H _ _ v u Q I rx ry ⟨p, r, vs, ws, rfl, rfl, tp, tr, by rw [hp.length, hr.length]; exact h.1, fun e => ?_, fun _ e => ?_, fun _ _ z nz => ?_⟩
      · have e1 := hp.nil_iff.mp e
        subst e1
        exact q _ _ _ _ h.2 .refl ⟨r, ws, rfl, tr, hr⟩ hs
      · have e1 := hr.nil_iff.mp e
        subst e1
        have h2 := h.2
        rw [List.append_nil] at h2
        exact q _ _ _ _ h2 .refl ⟨p, vs, rfl, tp, hp⟩ hs
      · exact q _ _ _ _ h.2 (Ext.new nz) (.newTup nz (hp.append hr)) (hs.grow nz)
    | _ => cases h
  | ref a =>
    cases dy with
    | ref b =>
      cases (show x = .ref a from hx)
      cases (show y = .ref b from hy)
      obtain ⟨xs, ys, ea, eb, hl, h⟩ := h
      obtain ⟨vs, ha, ra⟩ := hs.lst ea
      obtain ⟨ws, hb, rb⟩ := hs.lst eb
      exact op_cat pins s σ H _ _ v u Q I rx ry ⟨a, b, vs, ws, rfl, rfl, ha, hb, by rw [ra.length, rb.length]; exact hl, fun p np => q _ _ _ _ (h p (hs.free np)) (Ext.new np) rfl (hs.newLst np (ra.append rb))⟩
    | _ => cases h
  | _ => cases dy <;> cases h
/-- two ints, under C -/
def oII (C : Int → Int → Prop) (g : Int → Int → D) : R2D := fun x y S Q => match x, y with
  | .int i, .int j => C i j ∧ Q (g i j) S
  | _, _ => False
theorem od_ii {f : Value → Value → Sem Value} {C : Int → Int → Prop} {g : Int → Int → V} {g' : Int → Int → D} (o : OpR X f (rI C g)) (e : ∀ i j H, RD X.K H (g' i j) (g i j)) : OpD X f (oII C g') := by
  intro pins s σ H x y v u Q I rx ry h
  obtain ⟨dx, dy, S, Q0, hx, hy, hs, h, q⟩ := h
  cases dx with
  | int i =>
    cases dy with
    | int j =>
      cases (show x = .int i from hx)
      cases (show y = .int j from hy)
      exact o pins s σ H _ _ v u Q I rx ry ⟨i, j, rfl, rfl, h.1, q _ _ _ _ h.2 .refl (e i j H) hs⟩
    | _ => cases h
  | _ => cases h
theorem rI_of {f : Value → Value → Sem Value} {g : Int → Int → V} (o : OpR X f (rI0 g)) : OpR X f (rI (fun _ _ => True) g) := OpRi o fun _ _ _ _ ⟨i, j, a, b, _, q⟩ => ⟨i, j, a, b, q⟩
def oSub : R2D := oII (fun _ _ => True) fun i j => .int (i - j)
theorem od_sub : OpD X (binaryOp .Sub) oSub := od_ii (rI_of op_sub) fun _ _ _ => rfl
def oMod : R2D := oII (fun _ j => 0 < j) fun i j => .int (i % j)
theorem od_mod : OpD X (binaryOp .Mod) oMod := od_ii op_mod fun _ _ _ => rfl
def oDiv : R2D := oII (fun _ j => 0 < j ∧ j < 1073741824) fun i j => .int (i / j)
theorem od_div : OpD X (binaryOp .FloorDiv) oDiv := od_ii op_fdiv fun _ _ _ => rfl
def oPow : R2D := oII CPow fun i j => .int (i ^ j.toNat)
theorem od_pow : OpD X (binaryOp .Pow) oPow := od_ii op_pow fun _ _ _ => rfl
def oShl : R2D := oII CPow fun i j => .int (i * 2 ^ j.toNat)
theorem od_shl : OpD X (binaryOp .LShift) oShl := od_ii op_shl fun _ _ _ => rfl
def oMul : R2D := fun x y S Q => match x, y with
  | .int i, .int j => ((-(2 ^ 64) < i ∧ i < 2 ^ 64) ∨ (-(2 ^ 64) < j ∧ j < 2 ^ 64)) ∧ Q (.int (i * j)) S
  | .ref a, .int k => ∃ xs, S a = some (.lst xs) ∧ -(2 ^ 63) ≤ k ∧ k < 2 ^ 63 ∧ xs.length * k.toNat ≤ sizeLine ∧ ∀ p, S p = none → Q (.ref p) (put S p (.lst (List.replicate k.toNat xs).flatten))
  | _, _ => False
theorem RDs.rep {K : PySem.W.Frag} {H : Hp} {ds : List D} {vs : List V} (h : RDs K H ds vs) : ∀ n : Nat, RDs K H (List.replicate n ds).flatten (List.replicate n vs).flatten
  | 0 => rfl
  | n + 1 => by
    rw [List.replicate_succ, List.replicate_succ, List.flatten_cons, List.flatten_cons]
    exact h.append (RDs.rep h n)
theorem od_mul : OpD X (binaryOp .Mult) oMul := by
  intro pins s σ H x y v u Q I rx ry h
  obtain ⟨dx, dy, S, Q0, hx, hy, hs, h, q⟩ := h
  cases dx with
  | int i =>
    cases dy with
    | int j =>
      cases (show x = .int i from hx)
      cases (show y = .int j from hy)
      exact op_mul pins s σ H _ _ v u Q I rx ry ⟨i, j, rfl, rfl, h.1, q _ _ _ _ h.2 .refl rfl hs⟩
    | _ => cases h
  | ref a =>
    cases dy with
    | int k =>
      cases (show x = .ref a from hx)
      cases (show y = .int k from hy)
      obtain ⟨xs, ea, k1, k2, k3, h⟩ := h
      obtain ⟨vs, ha, ra⟩ := hs.lst ea
      exact op_rep pins s σ H _ _ v u Q I rx ry ⟨a, k, vs, rfl, rfl, ha, k1, k2, by rw [ra.length]; exact k3, fun p np => q _ _ _ _ (h p (hs.free np)) (Ext.new np) rfl (hs.newLst np (ra.rep _))⟩
    | _ => cases h
  | _ => cases dy <;> cases h

/-! ### order -/
def oLt : R2D := fun x y S Q => match x, y with
  | .int i, .int j => Q (.bl (decide (i < j))) S
  | .str a, .str b => Q (.bl (decide (a.cps.toList < b.cps.toList))) S
  | _, _ => False
theorem od_lt : OpD X (compareOp .Lt) oLt := by
  intro pins s σ H x y v u Q I rx ry h
  obtain ⟨dx, dy, S, Q0, hx, hy, hs, h, q⟩ := h
  cases dx with
  | int i =>
    cases dy with
    | int j =>
      cases (show x = .int i from hx)
      cases (show y = .int j from hy)
      exact op_lt pins s σ H _ _ v u Q I rx ry ⟨i, j, rfl, rfl, q _ _ _ _ h .refl rfl hs⟩
    | _ => cases h
  | str i =>
    cases dy with
    | str j =>
      cases (show x = .str i from hx)
      cases (show y = .str j from hy)
      exact op_lt_str pins s σ H _ _ v u Q I rx ry ⟨i, j, rfl, rfl, q _ _ _ _ h .refl rfl hs⟩
    | _ => cases h
  | _ => cases dy <;> cases h
def oCmpI (g : Int → Int → Bool) : R2D := fun x y S Q => match x, y with
  | .int i, .int j => Q (.bl (g i j)) S
  | _, _ => False
theorem od_cmpI {f : Value → Value → Sem Value} {g : Int → Int → Bool} (o : OpR X f (rI0 fun i j => .bl (g i j))) : OpD X f (oCmpI g) := by
  intro pins s σ H x y v u Q I rx ry h
  obtain ⟨dx, dy, S, Q0, hx, hy, hs, h, q⟩ := h
  cases dx with
  | int i =>
    cases dy with
    | int j =>
      cases (show x = .int i from hx)
      cases (show y = .int j from hy)
      exact o pins s σ H _ _ v u Q I rx ry ⟨i, j, rfl, rfl, q _ _ _ _ h .refl rfl hs⟩
    | _ => cases h
  | _ => cases h
def oLe : R2D := oCmpI fun i j => decide (i ≤ j)
def oGt : R2D := oCmpI fun i j => decide (j < i)
def oGe : R2D := oCmpI fun i j => decide (j ≤ i)
theorem od_le : OpD X (compareOp .LtE) oLe := od_cmpI op_le
theorem od_gt : OpD X (compareOp .Gt) oGt := od_cmpI op_gt
theorem od_ge : OpD X (compareOp .GtE) oGe := od_cmpI op_ge

/-! ### data of any depth, ==, in -/
mutual
inductive PD (S : Store) : D → PyData → Prop
  | non : PD S .non .none
  | bl (b : Bool) : PD S (.bl b) (.bool b)
  | int (i : Int) : PD S (.int i) (.int i)
  | str (x : Str) : PD S (.str x) (.str x)
  | tup {ds : List D} {ps : List PyData} : PDs S ds ps → PD S (.tup ds) (.tuple ps)
  | rol {ds : List D} {ps : List PyData} : PDs S ds ps → PD S (.rol ds) (.list ps)
  | ftup {ds : List D} {ps : List PyData} : PDs S ds ps → PD S (.ftup ds) (.tuple ps)
  | lst {a : Addr} {ds : List D} {ps : List PyData} : S a = some (.lst ds) → PDs S ds ps → PD S (.ref a) (.list ps)
inductive PDs (S : Store) : List D → List PyData → Prop
  | nil : PDs S [] []
  | cons {d : D} {ds : List D} {p : PyData} {ps : List PyData} : PD S d p → PDs S ds ps → PDs S (d :: ds) (p :: ps)
end
mutual
theorem PD.dp {K : PySem.W.Frag} {H : Hp} {S : Store} (s : RS K H S) : ∀ (p : PyData) (d : D) (v : V), PD S d p → RD K H d v → Dp K H v p
  | .none, _, _, h, r => by cases h; cases (show _ = V.non from r); exact .non
  | .bool b, _, _, h, r => by cases h; cases (show _ = V.bl b from r); exact .bl b
  | .int i, _, _, h, r => by cases h; cases (show _ = V.int i from r); exact .int i
  | .str x, _, _, h, r => by cases h; cases (show _ = V.str x from r); exact .str x
  | .tuple ps, _, _, h, r => by
    cases h with
    | tup h =>
      obtain ⟨p, vs, rfl, ht, hd⟩ := r
      exact .tup ht (PDs.dp s ps _ _ h hd)
    | ftup h =>
      obtain ⟨p, vs, rfl, ht, hd⟩ := r
      exact .tup ht.sq (PDs.dp s ps _ _ h hd)
  | .list ps, _, _, h, r => by
    cases h with
    | rol h =>
      obtain ⟨p, vs, rfl, ht, hd⟩ := r
      exact .lst ht.sq (PDs.dp s ps _ _ h hd)
    | lst e h =>
      cases (show _ = V.ref _ from r)
      obtain ⟨vs, h1, h2⟩ := s.lst e
      exact .lst (SqL.of h1) (PDs.dp s ps _ _ h h2)
  | .dict _, _, _, h, _ => by cases h
theorem PDs.dp {K : PySem.W.Frag} {H : Hp} {S : Store} (s : RS K H S) : ∀ (ps : List PyData) (ds : List D) (vs : List V), PDs S ds ps → RDs K H ds vs → DpAll K H vs ps
  | [], _, _, h, r => by cases h; cases (show _ = [] from r); exact .nil
  | p :: ps, _, _, h, r => by
    cases h with
    | cons h1 h2 =>
      obtain ⟨v, t, rfl, r1, r2⟩ := r
      exact .cons (PD.dp s p _ _ h1 r1) (PDs.dp s ps _ _ h2 r2)
end
/-- == of anything whose data is known -/
def eqAny (f : Bool → Bool) : R2D := fun x y S Q => ∃ p q, PD S x p ∧ PD S y q ∧ SeqAt.shaped p = true ∧ SeqAt.shaped q = true ∧ Q (.bl (f (PyData.eqv p q))) S
def oEqG (f : Bool → Bool) : R2D := fun x y S Q => match x, y with
  | .int i, .int j => Q (.bl (f (decide (i = j)))) S
  | .str i, .str j => Q (.bl (f (decide (i = j)))) S
  | .bl i, .bl j => Q (.bl (f (decide (i = j)))) S
  | x, y => eqAny f x y S Q
def oEq : R2D := oEqG id
def oNe : R2D := oEqG not
theorem dec_int_eq {i j : Int} : decide (V.int i = V.int j) = decide (i = j) := by rw [Bool.eq_iff_iff]; simp
theorem dec_str_eq {i j : Str} : decide (V.str i = V.str j) = decide (i = j) := by rw [Bool.eq_iff_iff]; simp
theorem dec_bl_eq {i j : Bool} : decide (V.bl i = V.bl j) = decide (i = j) := by rw [Bool.eq_iff_iff]; simp
theorem od_eqAny (hu : X.A.units + 64 < cLine) : OpD X (compareOp .Eq) (eqAny id) := by
  intro pins s σ H x y v u Q I rx ry h
  obtain ⟨dx, dy, S, Q0, hx, hy, hs, ⟨p, r, hp, hr, sp, sr, h⟩, q⟩ := h
  exact op_eqD hu pins s σ H _ _ v u Q I rx ry ⟨p, r, PD.dp hs _ _ _ hp hx, PD.dp hs _ _ _ hr hy, sp, sr, q _ _ _ _ h .refl rfl hs⟩
theorem od_neAny (hu : X.A.units + 64 < cLine) : OpD X (compareOp .NotEq) (eqAny not) := by
  intro pins s σ H x y v u Q I rx ry h
  obtain ⟨dx, dy, S, Q0, hx, hy, hs, ⟨p, r, hp, hr, sp, sr, h⟩, q⟩ := h
  exact op_neD hu pins s σ H _ _ v u Q I rx ry ⟨p, r, PD.dp hs _ _ _ hp hx, PD.dp hs _ _ _ hr hy, sp, sr, q _ _ _ _ h .refl rfl hs⟩
theorem oEqG_cases {f : Bool → Bool} {x y : D} {S : Store} {Q : KD} (h : oEqG f x y S Q) :
    (∃ i j, x = .int i ∧ y = .int j ∧ Q (.bl (f (decide (i = j)))) S) ∨ (∃ i j, x = .str i ∧ y = .str j ∧ Q (.bl (f (decide (i = j)))) S) ∨ (∃ i j, x = .bl i ∧ y = .bl j ∧ Q (.bl (f (decide (i = j)))) S) ∨ eqAny f x y S Q := by
  unfold oEqG at h
  split at h
  · exact .inl ⟨_, _, rfl, rfl, h⟩
  · exact .inr (.inl ⟨_, _, rfl, rfl, h⟩)
  · exact .inr (.inr (.inl ⟨_, _, rfl, rfl, h⟩))
  · exact .inr (.inr (.inr h))
theorem od_eq (hu : X.A.units + 64 < cLine) : OpD X (compareOp .Eq) oEq := by
  intro pins s σ H x y v u Q I rx ry h
  obtain ⟨dx, dy, S, Q0, hx, hy, hs, h, q⟩ := h
  rcases oEqG_cases h with ⟨i, j, rfl, rfl, h⟩ | ⟨i, j, rfl, rfl, h⟩ | ⟨i, j, rfl, rfl, h⟩ | h
  · cases (show x = .int i from hx)
    cases (show y = .int j from hy)
    exact op_eq pins s σ H _ _ v u Q I rx ry ⟨rfl, by rw [dec_int_eq]; exact q _ _ _ _ h .refl rfl hs⟩
  · cases (show x = .str i from hx)
    cases (show y = .str j from hy)
    exact op_eq pins s σ H _ _ v u Q I rx ry ⟨rfl, by rw [dec_str_eq]; exact q _ _ _ _ h .refl rfl hs⟩
  · cases (show x = .bl i from hx)
    cases (show y = .bl j from hy)
    exact op_eq pins s σ H _ _ v u Q I rx ry ⟨rfl, by rw [dec_bl_eq]; exact q _ _ _ _ h .refl rfl hs⟩
  · exact od_eqAny hu pins s σ H x y v u Q I rx ry ⟨dx, dy, S, Q0, hx, hy, hs, h, q⟩
theorem od_ne (hu : X.A.units + 64 < cLine) : OpD X (compareOp .NotEq) oNe := by
  intro pins s σ H x y v u Q I rx ry h
  obtain ⟨dx, dy, S, Q0, hx, hy, hs, h, q⟩ := h
  rcases oEqG_cases h with ⟨i, j, rfl, rfl, h⟩ | ⟨i, j, rfl, rfl, h⟩ | ⟨i, j, rfl, rfl, h⟩ | h
  · cases (show x = .int i from hx)
    cases (show y = .int j from hy)
    exact op_ne pins s σ H _ _ v u Q I rx ry ⟨rfl, by rw [dec_int_eq]; exact q _ _ _ _ h .refl rfl hs⟩
  · cases (show x = .str i from hx)
    cases (show y = .str j from hy)
    exact op_ne pins s σ H _ _ v u Q I rx ry ⟨rfl, by rw [dec_str_eq]; exact q _ _ _ _ h .refl rfl hs⟩
  · cases (show x = .bl i from hx)
    cases (show y = .bl j from hy)
    exact op_ne pins s σ H _ _ v u Q I rx ry ⟨rfl, by rw [dec_bl_eq]; exact q _ _ _ _ h .refl rfl hs⟩
  · exact od_neAny hu pins s σ H x y v u Q I rx ry ⟨dx, dy, S, Q0, hx, hy, hs, h, q⟩

/-! ### in, not in: texts (or ints) in lists and tuples, keys in dicts, one text in another -/
theorem inV_strs (x : Str) (xs : List Str) : inV (.str x) (xs.map V.str) = decide (x ∈ xs) := by
  unfold inV
  rw [Bool.eq_iff_iff, List.any_map, List.any_eq_true]
  simp only [Function.comp, eqV, decide_eq_true_eq]
  constructor
  · rintro ⟨y, hy, e⟩
    have e' : y = x := by simpa using e
    exact e' ▸ hy
  · intro h
    exact ⟨x, h, by simp⟩
theorem inV_ints (x : Int) (xs : List Int) : inV (.int x) (xs.map V.int) = decide (x ∈ xs) := by
  unfold inV
  rw [Bool.eq_iff_iff, List.any_map, List.any_eq_true]
  simp only [Function.comp, eqV, decide_eq_true_eq]
  constructor
  · rintro ⟨y, hy, e⟩
    have e' : y = x := by simpa using e
    exact e' ▸ hy
  · intro h
    exact ⟨x, h, by simp⟩
theorem flat_ints (ys : List Int) : (ys.map V.int).all flatV = true := by
  rw [List.all_eq_true]
  intro y hy
  obtain ⟨z, _, rfl⟩ := List.mem_map.mp hy
  rfl
theorem flat_texts (ys : List Str) : (ys.map V.str).all flatV = true := by
  rw [List.all_eq_true]
  intro y hy
  obtain ⟨z, _, rfl⟩ := List.mem_map.mp hy
  rfl
/-- dicts: the value at a key -/
def dval (kvs : List (Key × D)) (k : Key) : Option D := (kvs.find? fun kv => decide (kv.1 = k)).map (·.2)
def dput (kvs : List (Key × D)) (k : Key) (v : D) : List (Key × D) := if (kvs.any fun kv => decide (kv.1 = k)) = true then kvs.map (fun kv => if kv.1 = k then (kv.1, v) else kv) else kvs ++ [(k, v)]
def ddrop (kvs : List (Key × D)) (k : Key) : List (Key × D) := kvs.filter fun kv => decide (kv.1 ≠ k)
theorem RKV.val {K : PySem.W.Frag} {H : Hp} : ∀ {kvs : List (Key × D)} {ws : List (Key × V)} (k : Key), RKV K H kvs ws → (∃ d v, dval kvs k = some d ∧ valV ws k = some v ∧ RD K H d v) ∨ (dval kvs k = none ∧ valV ws k = none)
  | [], _, k, h => by cases (show _ = [] from h); exact .inr ⟨rfl, rfl⟩
  | (j, d) :: r, _, k, h => by
    obtain ⟨v, t, rfl, h1, h2⟩ := h
    by_cases e : j = k
    · refine .inl ⟨d, v, ?_, valV_pos e, h1⟩
      unfold dval
      rw [List.find?_cons_of_pos (by simp [e])]
      rfl
    · rw [valV_neg e]
      have q : dval ((j, d) :: r) k = dval r k := by
        unfold dval
        rw [List.find?_cons_of_neg (by simp [e])]
      rw [q]
      exact RKV.val k h2
theorem RKV.any {K : PySem.W.Frag} {H : Hp} {kvs : List (Key × D)} {ws : List (Key × V)} (k : Key) (h : RKV K H kvs ws) : (kvs.any fun kv => decide (kv.1 = k)) = ws.any fun kv => decide (kv.1 = k) := by
  have e := h.keys
  have e1 : (kvs.any fun kv => decide (kv.1 = k)) = (kvs.map (·.1)).any fun j => decide (j = k) := by rw [List.any_map]; rfl
  have e2 : (ws.any fun kv => decide (kv.1 = k)) = (ws.map (·.1)).any fun j => decide (j = k) := by rw [List.any_map]; rfl
  rw [e1, e2, e]
theorem RKV.repl {K : PySem.W.Frag} {H : Hp} {d : D} {v : V} (q : RD K H d v) (k : Key) : ∀ {kvs : List (Key × D)} {ws : List (Key × V)}, RKV K H kvs ws → RKV K H (kvs.map fun kv => if kv.1 = k then (kv.1, d) else kv) (ws.map fun kv => if kv.1 = k then (kv.1, v) else kv)
  | [], _, h => by cases (show _ = [] from h); exact rfl
  | (j, e) :: r, _, h => by
    obtain ⟨w, t, rfl, h1, h2⟩ := h
    have ih := RKV.repl q k h2
    rw [List.map_cons, List.map_cons]
    by_cases z : j = k
    · rw [if_pos z, if_pos z]
      exact ⟨v, _, rfl, q, ih⟩
    · rw [if_neg z, if_neg z]
      exact ⟨w, _, rfl, h1, ih⟩
theorem RKV.append {K : PySem.W.Frag} {H : Hp} {κ : Type} : ∀ {as bs : List (κ × D)} {vs ws : List (κ × V)}, RKV K H as vs → RKV K H bs ws → RKV K H (as ++ bs) (vs ++ ws)
  | [], _, _, _, h, g => by cases (show _ = [] from h); exact g
  | (j, e) :: r, _, _, _, h, g => by
    obtain ⟨w, t, rfl, h1, h2⟩ := h
    exact ⟨w, _, rfl, h1, RKV.append h2 g⟩
theorem RKV.put {K : PySem.W.Frag} {H : Hp} {d : D} {v : V} {kvs : List (Key × D)} {ws : List (Key × V)} (h : RKV K H kvs ws) (k : Key) (q : RD K H d v) : RKV K H (dput kvs k d) (putK ws k v) := by
  unfold dput putK
  rw [h.any k]
  split
  · exact RKV.repl q k h
  · exact h.append ⟨v, [], rfl, q, rfl⟩
theorem RKV.drop {K : PySem.W.Frag} {H : Hp} (k : Key) : ∀ {kvs : List (Key × D)} {ws : List (Key × V)}, RKV K H kvs ws → RKV K H (ddrop kvs k) (dropK ws k)
  | [], _, h => by cases (show _ = [] from h); exact rfl
  | (j, e) :: r, _, h => by
    obtain ⟨w, t, rfl, h1, h2⟩ := h
    have ih := RKV.drop k h2
    unfold ddrop dropK at ih ⊢
    by_cases z : j = k
    · rw [List.filter_cons_of_neg (by simp [z]), List.filter_cons_of_neg (by simp [z])]
      exact ih
    · rw [List.filter_cons_of_pos (by simp [z]), List.filter_cons_of_pos (by simp [z])]
      exact ⟨w, _, rfl, h1, ih⟩
/-- a key as a value -/
def kD : Key → D
  | .inl i => .int i
  | .inr x => .str x
theorem kD_kV {K : PySem.W.Frag} {H : Hp} {k : Key} {v : V} (h : RD K H (kD k) v) : v = kV k := by
  cases k with
  | inl i => exact h
  | inr x => exact h
/-- what a value is as a key -/
def keyOf : D → Option Key
  | .int i => some (.inl i)
  | .str x => some (.inr x)
  | _ => none
theorem keyOf_kD {d : D} {k : Key} (h : keyOf d = some k) : d = kD k := by
  cases d with
  | int i => cases h; rfl
  | str x => cases h; rfl
  | _ => cases h
/-- the texts of data -/
def strsOf : List D → Option (List Str)
  | [] => some []
  | .str x :: r => (strsOf r).map (x :: ·)
  | _ :: _ => none
theorem strsOf_map : ∀ {ds : List D} {xs : List Str}, strsOf ds = some xs → ds = xs.map D.str
  | [], _, h => by cases h; rfl
  | .str x :: r, _, h => by
    obtain ⟨ys, e, rfl⟩ := Option.map_eq_some_iff.mp h
    rw [strsOf_map e]
    rfl
theorem strsOf_of : ∀ xs : List Str, strsOf (xs.map D.str) = some xs
  | [] => rfl
  | x :: xs => by
    rw [List.map_cons]
    show (strsOf (xs.map D.str)).map (x :: ·) = _
    rw [strsOf_of xs]
    rfl
def intsOf : List D → Option (List Int)
  | [] => some []
  | .int x :: r => (intsOf r).map (x :: ·)
  | _ :: _ => none
theorem intsOf_map : ∀ {ds : List D} {xs : List Int}, intsOf ds = some xs → ds = xs.map D.int
  | [], _, h => by cases h; rfl
  | .int x :: r, _, h => by
    obtain ⟨ys, e, rfl⟩ := Option.map_eq_some_iff.mp h
    rw [intsOf_map e]
    rfl
theorem intsOf_of : ∀ xs : List Int, intsOf (xs.map D.int) = some xs
  | [] => rfl
  | x :: xs => by
    rw [List.map_cons]
    show (intsOf (xs.map D.int)).map (x :: ·) = _
    rw [intsOf_of xs]
    rfl
end
end DL

set_option Elab.async false
set_option maxRecDepth 100000
/-! DLd: in, subscripts, slices, stores by place, dicts, built-ins and methods over data. -/
namespace DL
open PySem PySem.Spec PyProof.Rows L2

section
variable {X : Cx}
/-! ### in, not in -/
def inFlat (f : Bool → Bool) (x : D) (ds : List D) (S : Store) (Q : KD) : Prop := match x with
  | .str a => ∃ xs, strsOf ds = some xs ∧ Q (.bl (f (decide (a ∈ xs)))) S
  | .int i => ∃ xs, intsOf ds = some xs ∧ Q (.bl (f (decide (i ∈ xs)))) S
  | _ => False
def inDO (f : Bool → Bool) (x : D) (o : Option DO) (S : Store) (Q : KD) : Prop := match o with
  | some (.lst ds) => inFlat f x ds S Q
  | some (.dk kvs) => ∃ k, keyOf x = some k ∧ Q (.bl (f (dval kvs k).isSome)) S
  | _ => False
def oInG (f : Bool → Bool) : R2D := fun x y S Q => match y with
  | .tup ds => inFlat f x ds S Q
  | .rol ds => inFlat f x ds S Q
  | .str t => (match x with
    | .str z => Q (.bl (f (!(Builtin.Str.occurrences t z 0 t.length 1).isEmpty))) S
    | _ => False)
  | .ref a => inDO f x (S a) S Q
  | _ => False
def oIn : R2D := oInG id
def oNotIn : R2D := oInG not
/-- what a membership rule of the hand layer must serve -/
theorem od_inG {f : Bool → Bool} {op : CmpOp} (neg : Bool) (hf : ∀ b, f b = if neg then !b else b) (seq : OpR X (compareOp op) (rIn X.K neg)) (txt : OpR X (compareOp op) (fun x y H Q => ∃ i j, x = .str i ∧ y = .str j ∧ Q (.bl (f (!(Builtin.Str.occurrences j i 0 j.length 1).isEmpty))) H))
    (dic : ∀ {pins : List (Addr × Obj)} {s : Shared} {σ : L2.St} {H : Hp} {a : Addr} {y : V} {u : Value} {o : Option V} {Q : Value → Shared → Prop}, Inv X pins σ H s → DGet H a y o → RelV y u → (∀ s', Inv X pins σ H s' → Q (.bool (f o.isSome)) s') → wpAny (model X.prog X.w) X.A (compareOp op u (.ref a)) Q X.xe s) :
    OpD X (compareOp op) (oInG f) := by
  intro pins s σ H x y v u Q I rx ry h
  obtain ⟨dx, dy, S, Q0, hx, hy, hs, h, q⟩ := h
  have flat : ∀ (p : Addr) (ds : List D) (vs : List V), y = .ref p → (SqL X.K H p vs ∨ SqT X.K H p vs) → RDs X.K H ds vs → inFlat f dx ds S Q0 → wpAny (model X.prog X.w) X.A (compareOp op v u) (EP X pins σ Q) X.xe s := by
    intro p ds vs ey hp hd hf'
    cases dx with
    | str a =>
      obtain ⟨xs, e1, h1⟩ := hf'
      cases strsOf_map e1
      cases hd.strs
      cases (show x = .str a from hx)
      refine seq pins s σ H _ _ v u Q I rx ry ⟨p, _, ey, hp, rfl, flat_texts xs, ?_⟩
      have z : (if neg = true then !inV (V.str a) (xs.map V.str) else inV (V.str a) (xs.map V.str)) = f (decide (a ∈ xs)) := by rw [inV_strs, hf]
      rw [z]
      exact q _ _ _ _ h1 .refl rfl hs
    | int a =>
      obtain ⟨xs, e1, h1⟩ := hf'
      cases intsOf_map e1
      cases hd.ints
      cases (show x = .int a from hx)
      refine seq pins s σ H _ _ v u Q I rx ry ⟨p, _, ey, hp, rfl, flat_ints xs, ?_⟩
      have z : (if neg = true then !inV (V.int a) (xs.map V.int) else inV (V.int a) (xs.map V.int)) = f (decide (a ∈ xs)) := by rw [inV_ints, hf]
      rw [z]
      exact q _ _ _ _ h1 .refl rfl hs
    | _ => cases hf'
  cases dy with
  | tup ds =>
    obtain ⟨p, vs, e, ht, hd⟩ := hy
    exact flat p ds vs e (.inr ht) hd h
  | rol ds =>
    obtain ⟨p, vs, e, ht, hd⟩ := hy
    exact flat p ds vs e (.inl ht.sq) hd h
  | str t =>
    cases dx with
    | str z =>
      cases (show x = .str z from hx)
      cases (show y = .str t from hy)
      exact txt pins s σ H _ _ v u Q I rx ry ⟨z, t, rfl, rfl, q _ _ _ _ h .refl rfl hs⟩
    | _ => cases h
  | ref a =>
    cases (show y = .ref a from hy)
    have hr : inDO f dx (S a) S Q0 := h
    clear h
    unfold inDO at hr
    split at hr
    · rename_i ds e
      obtain ⟨vs, h1, h2⟩ := hs.lst e
      exact flat a ds vs rfl (.inl (SqL.of h1)) h2 hr
    · rename_i kvs e
      obtain ⟨k, ek, hq⟩ := hr
      have ed := keyOf_kD ek
      subst ed
      have ev := kD_kV hx
      subst ev
      obtain ⟨ws, h1, h2⟩ := hs a _ e
      cases (show u = Value.ref a from ry)
      refine dic I (DGet.k (k := k) h1) rx fun s' I' => ⟨.bl _, H, I', rfl, ?_⟩
      have z : (valV ws k).isSome = (dval kvs k).isSome := by
        rcases h2.val k with ⟨d, w', e1, e2, _⟩ | ⟨e1, e2⟩
        · rw [e1, e2]; rfl
        · rw [e1, e2]; rfl
      rw [z]
      exact q _ _ _ _ hq .refl rfl hs
    · cases hr
  | _ => cases h
theorem od_in (hu : X.A.units + 1 < cLine) : OpD X (compareOp .In) oIn := od_inG false (fun b => by simp) op_in_seq op_in_str fun I g r k => d_in hu I g r k
theorem od_notIn (hu : X.A.units + 1 < cLine) : OpD X (compareOp .NotIn) oNotIn := od_inG true (fun b => by simp) op_notIn_seq op_notIn_str fun I g r k => d_notIn hu I g r k

/-! ### is None -/
def oIsN : R2D := fun x y S Q => match y with
  | .non => (match x with
    | .non => Q (.bl true) S
    | _ => Q (.bl false) S)
  | _ => False
def oNotN : R2D := fun x y S Q => match y with
  | .non => (match x with
    | .non => Q (.bl false) S
    | _ => Q (.bl true) S)
  | _ => False
theorem RD.non_iff {K : PySem.W.Frag} {H : Hp} {d : D} {v : V} (h : RD K H d v) : decide (v = .non) = (match d with | .non => true | _ => false) := by
  cases d with
  | non => cases (show v = .non from h); rfl
  | bl b => cases (show v = .bl b from h); rfl
  | int b => cases (show v = .int b from h); rfl
  | str b => cases (show v = .str b from h); rfl
  | ref b => cases (show v = .ref b from h); rfl
  | ty b => cases (show v = .ty b from h); rfl
  | tup b => obtain ⟨p, vs, rfl, _⟩ := h; rfl
  | rol b => obtain ⟨p, vs, rfl, _⟩ := h; rfl
  | ftup b => obtain ⟨p, vs, rfl, _⟩ := h; rfl
theorem od_isN : OpD X (compareOp .Is) oIsN := by
  intro pins s σ H x y v u Q I rx ry h
  obtain ⟨dx, dy, S, Q0, hx, hy, hs, h, q⟩ := h
  cases dy with
  | non =>
    cases (show y = .non from hy)
    refine op_isN pins s σ H _ _ v u Q I rx ry ⟨rfl, ?_⟩
    rw [hx.non_iff]
    cases dx <;> exact q _ _ _ _ h .refl rfl hs
  | _ => cases h
theorem od_notN : OpD X (compareOp .IsNot) oNotN := by
  intro pins s σ H x y v u Q I rx ry h
  obtain ⟨dx, dy, S, Q0, hx, hy, hs, h, q⟩ := h
  cases dy with
  | non =>
    cases (show y = .non from hy)
    refine op_notN pins s σ H _ _ v u Q I rx ry ⟨rfl, ?_⟩
    rw [hx.non_iff]
    cases dx <;> exact q _ _ _ _ h .refl rfl hs
  | _ => cases h

/-! ### subscripts -/
def ixSeq (ds : List D) (y : D) (S : Store) (Q : KD) : Prop := match y with
  | .int i => ∃ d, atI ds i = some d ∧ Q d S
  | _ => False
def ixStr (z : Str) (y : D) (S : Store) (Q : KD) : Prop := match y with
  | .int i => ∃ c, z.length ≤ sizeLine ∧ atI z.cps.toList i = some c ∧ Q (.str ⟨#[c]⟩) S
  | _ => False
def ixDO (o : Option DO) (y : D) (S : Store) (Q : KD) : Prop := match o with
  | some (.lst ds) => ixSeq ds y S Q
  | some (.dk kvs) => ∃ k d, keyOf y = some k ∧ dval kvs k = some d ∧ Q d S
  | _ => False
def oIx : R2D := fun x y S Q => match x with
  | .tup ds => ixSeq ds y S Q
  | .rol ds => ixSeq ds y S Q
  | .str z => ixStr z y S Q
  | .ref a => ixDO (S a) y S Q
  | _ => False
def IxD (X : Cx) (r : R2D) : Prop := IxR X (lift2 X.K r)
theorem RDs.atI {K : PySem.W.Frag} {H : Hp} {ds : List D} {vs : List V} (h : RDs K H ds vs) {i : Int} {d : D} (e : L2.atI ds i = some d) : ∃ v, L2.atI vs i = some v ∧ RD K H d v := by
  unfold L2.atI at e ⊢
  rw [h.length]
  obtain ⟨j, e1, e2⟩ := Option.bind_eq_some_iff.mp e
  obtain ⟨v, e3, r⟩ := h.get e2
  exact ⟨v, by rw [e1]; exact e3, r⟩
theorem ix_dict (hu : X.A.units + 1 < cLine) : IxR X (fun x y H Q => ∃ a v, x = .ref a ∧ DGet H a y (some v) ∧ Q v H) := by
  intro value slice pins s σ H x y v u Q I rx ry h hs
  obtain ⟨a, z, rfl, g, q⟩ := h
  cases (show v = Value.ref a from rx)
  exact tail_any (dict_typeIs I g) PySem.F.slot_dict_getitem.lookup (d_getItem hu I g ry fun w' s3 I3 rw' => ⟨z, H, I3, rw', q⟩) hs
theorem ixd (hu : X.A.units + 1 < cLine) : IxD X oIx := by
  intro value slice pins s σ H x y v u Q I rx ry h hsl
  obtain ⟨dx, dy, S, Q0, hx, hy, hs, h, q⟩ := h
  have seq : ∀ (p : Addr) (ds : List D) (vs : List V), x = .ref p → (SqL X.K H p vs ∨ SqT X.K H p vs) → RDs X.K H ds vs → ixSeq ds dy S Q0 → wpAny (model X.prog X.w) X.A (subscriptTail value slice v u) (EP X pins σ Q) X.xe s := by
    intro p ds vs ex hp hd h
    cases dy with
    | int i =>
      obtain ⟨d, e, h⟩ := h
      cases (show y = .int i from hy)
      obtain ⟨w', e', r⟩ := hd.atI e
      refine ix_seq value slice pins s σ H x _ v u Q I rx ry ?_ hsl
      rcases hp with hp | hp
      · exact .inl ⟨p, vs, i, w', ex, rfl, hp, e', q _ _ _ _ h .refl r hs⟩
      · exact .inr (.inl ⟨p, vs, i, w', ex, rfl, hp, e', q _ _ _ _ h .refl r hs⟩)
    | _ => cases h
  cases dx with
  | tup ds =>
    obtain ⟨p, vs, e, ht, hd⟩ := hx
    exact seq p ds vs e (.inr ht) hd h
  | rol ds =>
    obtain ⟨p, vs, e, ht, hd⟩ := hx
    exact seq p ds vs e (.inl ht.sq) hd h
  | str z =>
    cases dy with
    | int i =>
      obtain ⟨c, h1, h2, h⟩ := h
      cases (show x = .str z from hx)
      cases (show y = .int i from hy)
      exact ix_seq value slice pins s σ H _ _ v u Q I rx ry (.inr (.inr ⟨z, i, c, rfl, rfl, h1, h2, q _ _ _ _ h .refl rfl hs⟩)) hsl
    | _ => cases h
  | ref a =>
    cases (show x = .ref a from hx)
    have hr : ixDO (S a) dy S Q0 := h
    clear h
    unfold ixDO at hr
    split at hr
    · rename_i ds e
      obtain ⟨vs, h1, h2⟩ := hs.lst e
      exact seq a ds vs rfl (.inl (SqL.of h1)) h2 hr
    · rename_i kvs e
      obtain ⟨k, d, ek, ed, hq⟩ := hr
      have eD := keyOf_kD ek
      subst eD
      have eV := kD_kV hy
      subst eV
      obtain ⟨ws, h1, h2⟩ := hs a _ e
      rcases h2.val k with ⟨d', w', e1, e2, r⟩ | ⟨e1, _⟩
      · rw [ed] at e1
        cases e1
        refine ix_dict hu value slice pins s σ H _ _ v u Q I rx ry ⟨a, w', rfl, ?_, q _ _ _ _ hq .refl r hs⟩ hsl
        rw [← e2]
        exact DGet.k h1
      · rw [ed] at e1
        cases e1
    · cases hr
  | _ => cases h
variable {a b e lo hi : Expr} {ta tb te : TED} {pos p2 : Pos}
theorem de_ix (hu : X.A.units + 1 < cLine) (ha : DE X a ta) (hb : DE X b tb) (hs : PlainIx b := by exact fun _ _ => rfl) : DE X (.Subscript a b pos) (tOpD oIx ta tb) := PEi (pe_ix (ixd hu) ha hb hs) fun _ _ _ h => op_lift h

/-! ### slices -/
abbrev TOD := StD → Store → (Option Int → Store → Prop) → Prop
def liftO (K : PySem.W.Frag) (t : TOD) : TO := fun σ H Q => ∃ δ S Q0, RSt K H δ σ ∧ RS K H S ∧ t δ S Q0 ∧ ∀ o S' H', Q0 o S' → Ext K H H' → RS K H' S' → Q o H'
def DOp (X : Cx) (e : Option Expr) (t : TOD) : Prop := PO X e (liftO X.K t)
theorem POi {e : Option Expr} {t t' : TO} (h : PO X e t') (w : ∀ σ H Q, t σ H Q → t' σ H Q) : PO X e t := ⟨fun pins s σ H Q I q => h.run pins s σ H Q I (w _ _ _ q)⟩
def tNoD : TOD := fun _ S Q => Q none S
def tPartD (te : TED) : TOD := fun δ S Q => te δ S fun x S1 => match x with
  | .int i => Q (some i) S1
  | _ => False
theorem do_none : DOp X none tNoD := POi po_none fun σ H Q h => by
  obtain ⟨δ, S, Q0, h1, h2, h3, h4⟩ := h
  exact h4 _ _ _ h3 .refl h2
theorem do_some (h : DE X e te) : DOp X (some e) (tPartD te) := POi (po_some h) fun σ H Q h => by
  obtain ⟨δ, S, Q0, h1, h2, h3, h4⟩ := h
  refine ⟨δ, S, _, h1, h2, h3, fun x S1 v H1 q e1 r1 s1 => ?_⟩
  cases x with
  | int i => exact ⟨i, r1, h4 _ _ _ q e1 s1⟩
  | _ => cases q
def cutL {α : Type} (xs : List α) (lo hi : Option Int) : List α := (xs.drop (HT.sIx xs.length 0 lo)).take (HT.sIx xs.length xs.length hi - HT.sIx xs.length 0 lo)
theorem RDs.cut {K : PySem.W.Frag} {H : Hp} {ds : List D} {vs : List V} (h : RDs K H ds vs) (lo hi : Option Int) : RDs K H (cutL ds lo hi) (cutV vs lo hi) := by
  unfold cutL cutV
  rw [h.length]
  exact (h.drop _).take _
def slDO (o : Option DO) (lo hi : Option Int) (S : Store) (Q : KD) : Prop := match o with
  | some (.lst ds) => ∀ p, S p = none → Q (.ref p) (put S p (.lst (cutL ds lo hi)))
  | _ => False
def oSl (x : D) (lo hi : Option Int) (S : Store) (Q : KD) : Prop := match x with
  | .tup ds => Q (.tup (cutL ds lo hi)) S
  | .str z => z.length ≤ sizeLine ∧ Q (.str (cutS z lo hi)) S
  | .rol ds => ∀ p, S p = none → Q (.ref p) (put S p (.lst (cutL ds lo hi)))
  | .ref a => slDO (S a) lo hi S Q
  | _ => False
theorem cut_whole {xs : List V} {lo hi : Option Int} (h : HT.sIx xs.length 0 lo = 0 ∧ HT.sIx xs.length xs.length hi = xs.length) : cutV xs lo hi = xs := by
  unfold cutV
  rw [h.1, h.2]
  simp
def slr (K : PySem.W.Frag) : V → Option Int → Option Int → Hp → VK → Prop := fun x lo hi H Q => ∃ d S Q0, RD K H d x ∧ RS K H S ∧ oSl d lo hi S Q0 ∧ ∀ d' S' v H', Q0 d' S' → Ext K H H' → RD K H' d' v → RS K H' S' → Q v H'
theorem sl_any : SlR X (slr X.K) := by
  intro pins s σ H x v vl vu lo hi sl Q I rx hsl pl pu h
  obtain ⟨d, S, Q0, hx, hs, h, q⟩ := h
  cases d with
  | tup ds =>
    obtain ⟨p, vs, rfl, ht, hd⟩ := hx
    refine sl_tupA pins s σ H _ v vl vu lo hi sl Q I rx hsl pl pu ⟨p, vs, rfl, ht, fun w => ?_, fun w r nr => ?_⟩
    · have c := hd.cut lo hi
      rw [cut_whole w] at c
      exact q _ _ _ _ h .refl ⟨p, vs, rfl, ht, c⟩ hs
    · exact q _ _ _ _ h (Ext.new nr) (.newTup nr (hd.cut lo hi)) (hs.grow nr)
  | str z =>
    cases (show x = .str z from hx)
    exact sl_str pins s σ H _ v vl vu lo hi sl Q I rx hsl pl pu ⟨z, rfl, h.1, q _ _ _ _ h.2 .refl rfl hs⟩
  | rol ds =>
    obtain ⟨p, vs, rfl, ht, hd⟩ := hx
    exact sl_list pins s σ H _ v vl vu lo hi sl Q I rx hsl pl pu ⟨p, vs, rfl, ht.sq, fun r nr => q _ _ _ _ (h r (hs.free nr)) (Ext.new nr) rfl (hs.newLst nr (hd.cut lo hi))⟩
  | ref a =>
    cases (show x = .ref a from hx)
    have h : slDO (S a) lo hi S Q0 := h
    unfold slDO at h
    split at h
    · rename_i ds e
      obtain ⟨vs, h1, hd⟩ := hs.lst e
      exact sl_list pins s σ H _ v vl vu lo hi sl Q I rx hsl pl pu ⟨a, vs, rfl, SqL.of h1, fun r nr => q _ _ _ _ (h r (hs.free nr)) (Ext.new nr) rfl (hs.newLst nr (hd.cut lo hi))⟩
    · cases h
  | _ => cases h
def tSlD (te : TED) (tl th : TOD) : TED := fun δ S Q => te δ S fun x S1 => tl δ S1 fun l S2 => th δ S2 fun u S3 => oSl x l u S3 Q
theorem de_slice {lo hi : Option Expr} {tl th : TOD} (he : DE X e te) (hl : DOp X lo tl) (hh : DOp X hi th) : DE X (.Subscript e (.Slice lo hi none p2) pos) (tSlD te tl th) := PEi (pe_slice sl_any he hl hh) fun σ H Q h => by
  obtain ⟨δ, S, Q0, h1, h2, h3, h4⟩ := h
  refine ⟨δ, S, _, h1, h2, h3, fun x S1 v H1 q e1 r1 s1 => ⟨δ, S1, _, h1.ext e1, s1, q, fun l S2 H2 q2 e2 s2 => ⟨δ, S2, _, h1.ext (e1.trans e2), s2, q2, fun u S3 H3 q3 e3 s3 => ?_⟩⟩⟩
  exact ⟨x, S3, Q0, r1.ext (e2.trans e3), s3, q3, fun d' S' v' H' q' e' r' s' => h4 _ _ _ _ q' (e1.trans (e2.trans (e3.trans e'))) r' s'⟩
def revDO (o : Option DO) (S : Store) (Q : KD) : Prop := match o with
  | some (.lst ds) => ∀ p, S p = none → Q (.ref p) (put S p (.lst ds.reverse))
  | _ => False
def tRevD (te : TED) : TED := fun δ S Q => te δ S fun x S1 => match x with
  | .rol ds => ∀ p, S1 p = none → Q (.ref p) (put S1 p (.lst ds.reverse))
  | .ref a => revDO (S1 a) S1 Q
  | _ => False
theorem de_rev {k : Nat} {q1 q2 q3 : Pos} (he : DE X e te) : DE X (.Subscript e (.Slice none none (some (.UnaryOp .USub (.Constant (.int 1) k q1) q2)) q3) pos) (tRevD te) := PEi (pe_revL he) fun σ H Q h => by
  obtain ⟨δ, S, Q0, h1, h2, h3, h4⟩ := h
  refine ⟨δ, S, _, h1, h2, h3, fun x S1 v H1 q e1 r1 s1 => ?_⟩
  cases x with
  | rol ds =>
    obtain ⟨p, vs, rfl, ht, hd⟩ := r1
    exact ⟨p, vs, rfl, ht.sq, fun r nr => h4 _ _ _ _ (q r (s1.free nr)) (e1.trans (Ext.new nr)) rfl (s1.newLst nr hd.reverse)⟩
  | ref a =>
    cases (show v = .ref a from r1)
    have q : revDO (S1 a) S1 Q0 := q
    unfold revDO at q
    split at q
    · rename_i ds e
      obtain ⟨vs, h1, hd⟩ := s1.lst e
      exact ⟨a, vs, rfl, SqL.of h1, fun r nr => h4 _ _ _ _ (q r (s1.free nr)) (e1.trans (Ext.new nr)) rfl (s1.newLst nr hd.reverse)⟩
    · cases q
  | _ => cases q

/-! ### o[i] = v -/
def setSeq (a : Addr) (ds : List D) (i v : D) (S : Store) (Q : Store → Prop) : Prop := match i with
  | .int k => ∃ j, ixN ds.length k = some j ∧ Q (put S a (.lst (ds.set j v)))
  | _ => False
def setDO (o : Option DO) (a : Addr) (i v : D) (S : Store) (Q : Store → Prop) : Prop := match o with
  | some (.lst ds) => setSeq a ds i v S Q
  | some (.dk kvs) => ∃ k, keyOf i = some k ∧ kvs.length < sizeLine ∧ Q (put S a (.dk (dput kvs k v)))
  | _ => False
def oSet (o i v : D) (S : Store) (Q : Store → Prop) : Prop := match o with
  | .ref a => setDO (S a) a i v S Q
  | _ => False
def tSetD (to ti te : TED) : TSD := fun G δ S => te δ S fun d S1 => to δ S1 fun o S2 => ti δ S2 fun i S3 => oSet o i d S3 fun S4 => G.nx δ S4
def setr (K : PySem.W.Frag) : V → V → V → Hp → (Hp → Prop) → Prop := fun o i v H Q => ∃ d0 d1 d2 S Q0, RD K H d0 o ∧ RD K H d1 i ∧ RD K H d2 v ∧ RS K H S ∧ oSet d0 d1 d2 S Q0 ∧ ∀ S' H', Q0 S' → Ext K H H' → RS K H' S' → Q H'
theorem set_any (hu : X.A.units + 1 < cLine) : PSet X (setr X.K) := by
  intro pins s σ H o i v ov iv u Q I ro ri rv h
  obtain ⟨d0, d1, d2, S, Q0, h0, h1, h2, hs, h, q⟩ := h
  cases d0 with
  | ref a =>
    cases (show o = .ref a from h0)
    have hr : setDO (S a) a d1 d2 S Q0 := h
    clear h
    unfold setDO at hr
    split at hr
    · rename_i ds e
      obtain ⟨vs, g1, g2⟩ := hs.lst e
      cases d1 with
      | int k =>
        obtain ⟨j, ej, hq⟩ := hr
        cases (show i = .int k from h1)
        refine set_list pins s σ H _ _ v ov iv u Q I ro ri rv ⟨a, vs, k, j, rfl, rfl, g1, by rw [g2.length]; exact ej, ?_⟩
        exact q _ _ hq (Ext.put g1 trivial) (hs.put g1 trivial ⟨_, upd_same, (g2.set j h2).ext (Ext.put g1 trivial)⟩)
      | _ => cases hr
    · rename_i kvs e
      obtain ⟨k, ek, hl, hq⟩ := hr
      have eD := keyOf_kD ek
      subst eD
      have eV := kD_kV h1
      subst eV
      obtain ⟨ws, g1, g2⟩ := hs a _ e
      cases (show ov = Value.ref a from ro)
      refine d_setItem hu I (DPut.k g1 (by rw [g2.length]; exact hl)) ri rv fun s' I' => ⟨_, I', ?_⟩
      refine q _ _ hq (Ext.put g1 trivial) (hs.put g1 trivial ?_)
      exact ⟨_, upd_same, (g2.put k h2).ext (Ext.put g1 trivial)⟩
    · cases hr
  | _ => cases h
theorem ds_setitem {o i : Expr} {to ti : TED} {p1 : Pos} (hu : X.A.units + 1 < cLine) (ho : DE X o to) (hi : DE X i ti) (he : DE X e te)
    (ha : ∀ v, assign (.Subscript o i p1) X.env v = (do
      let ov ← holding [v] (eval o X.env)
      let iv ← holding [v, ov] (eval i X.env)
      standAt p1
      holding [v, ov, iv] (setItem ov iv v)
      release [v, ov, iv] []) := by intro _; rfl)
    (hs : swapsWithSole [.Subscript o i p1] e pos.line X.env = pure false := by rfl) (hw : swappedStores [.Subscript o i p1] e X.env = pure none := by rfl)
    (h1 : (assignEach [.Subscript o i p1] X.env).map (·.2) = [assign (.Subscript o i p1) X.env] := by rfl) : DS X (.Assign [.Subscript o i p1] e pos) (tSetD to ti te) :=
  PSi (ps_asg he (pg_sub ho hi (set_any hu) ha) hs hw h1) fun E σ H h => by
  obtain ⟨δ, S, G, h1, h2, h3, n, r, b, c⟩ := h
  refine ⟨δ, S, _, h1, h2, h3, fun d S1 v H1 q e1 r1 s1 => ⟨δ, S1, _, h1.ext e1, s1, q, fun o' S2 ov H2 q2 e2 r2 s2 => ⟨δ, S2, _, h1.ext (e1.trans e2), s2, q2, fun i' S3 iv H3 q3 e3 r3 s3 => ?_⟩⟩⟩
  exact ⟨o', i', d, S3, _, r2.ext e3, r3, r1.ext (e2.trans e3), s3, q3, fun S4 H4 q4 e4 s4 => n _ _ _ _ q4 (e1.trans (e2.trans (e3.trans e4))) (h1.ext (e1.trans (e2.trans (e3.trans e4)))) s4⟩

/-! ### dicts: displays, get, pop, dict(d) -/
def tDictD : TED := fun _ S Q => ∀ p, S p = none → Q (.ref p) (put S p (.dk []))
theorem de_dict : DE X (.Dict [] [] pos) tDictD := PEi pe_dnewK fun σ H Q h => by
  obtain ⟨δ, S, Q0, h1, h2, h3, h4⟩ := h
  intro p np
  exact h4 _ _ _ _ (h3 p (h2.free np)) (Ext.new np) rfl (h2.new np ⟨[], upd_same, rfl⟩)
/-- one pair -/
def tDict1 (tk tv : TED) : TED := fun δ S Q => tk δ S fun x S1 => tv δ S1 fun y S2 => ∃ k, keyOf x = some k ∧ ∀ p, S2 p = none → Q (.ref p) (put S2 p (.dk [(k, y)]))
end
end DL

set_option Elab.async false
set_option maxRecDepth 100000
/-! DLe: built-ins and methods over data. -/
namespace DL
open PySem PySem.Spec PyProof.Rows L2

section
variable {X : Cx}
/-- less may be known of the store behind an expression -/
def tLess (t : TED) : TED := fun δ S Q => t δ S fun d S' => ∃ S'', Sub S'' S' ∧ Q d S''
theorem de_less {e : Expr} {t : TED} (h : DE X e t) : DE X e (tLess t) := PEi h fun σ H Q q => by
  obtain ⟨δ, S, Q0, h1, h2, h3, h4⟩ := q
  exact ⟨δ, S, _, h1, h2, h3, fun d S' v H' ⟨S'', hs, q⟩ e r s => h4 _ _ _ _ q e r (s.sub hs)⟩
def tLessT (t : TTD) : TTD := fun δ S Q => t δ S fun d S' => ∃ S'', Sub S'' S' ∧ Q d S''
theorem dt_less {e : Expr} {t : TTD} (h : DT X e t) : DT X e (tLessT t) := PTi h fun σ H Q q => by
  obtain ⟨δ, S, Q0, h1, h2, h3, h4⟩ := q
  exact ⟨δ, S, _, h1, h2, h3, fun d S' H' ⟨S'', hs, q⟩ e s => h4 _ _ _ q e (s.sub hs)⟩
/-- .. behind a statement -/
def tLessS (t : TSD) : TSD := fun G δ S => t { G with nx := fun δ' S' => ∃ S'', Sub S'' S' ∧ G.nx δ' S'' } δ S
theorem ds_less {st : Stmt} {t : TSD} (h : DS X st t) : DS X st (tLessS t) := PSi h fun E σ H q => by
  obtain ⟨δ, S, G, h1, h2, h3, n, r, b, c⟩ := q
  exact ⟨δ, S, _, h1, h2, h3, fun δ' S' σ' H' ⟨S'', hs, q⟩ e r' s' => n _ _ _ _ q e r' (s'.sub hs), r, b, c⟩
/-- a built-in type as a value -/
theorem de_ty {x : Str} {n : String} {pos : Pos} (hg : Gl X x) (hm : X.mg x = none) (hv : bootBuiltins x = some (.type n)) (hn : x ≠ "__name__" := by decide) (hd : (x == ("__debug__" : Str)) = false := by decide) : DE X (.Name x pos) (tCD (.ty n)) :=
  de_c (v := .ty n) (pe_bltn hg hm hv (show RelV (.ty n) (.type n) from rfl) hn hd) fun _ => rfl
/-- a module's constant of texts -/
theorem de_const {x : Str} {d : D} {v : V} {u : Value} {pos : Pos} (hg : Gl X x) (hm : X.mg x = some u) (r : RelV v u) (hd : ∀ H, RD X.K H d v) (hdb : (x == ("__debug__" : Str)) = false := by decide) : DE X (.Name x pos) (tCD d) := de_c (pe_glob hg hm r hdb) hd

/-! ### len -/
def oLenDO (o : Option DO) (S : Store) (Q : KD) : Prop := match o with
  | some (.lst ds) => Q (.int (ds.length : Nat)) S
  | some (.dk kvs) => Q (.int (kvs.length : Nat)) S
  | _ => False
def oLen : RAD := fun xs S Q => match xs with
  | [.tup ds] => Q (.int (ds.length : Nat)) S
  | [.rol ds] => Q (.int (ds.length : Nat)) S
  | [.str z] => z.length ≤ sizeLine ∧ Q (.int (z.length : Nat)) S
  | [.ref a] => oLenDO (S a) S Q
  | _ => False
theorem RDs.one {K : PySem.W.Frag} {H : Hp} {d : D} {vs : List V} (h : RDs K H [d] vs) : ∃ v, vs = [v] ∧ RD K H d v := by
  obtain ⟨v, r, rfl, h1, h2⟩ := h
  cases (show r = [] from h2)
  exact ⟨v, rfl, h1⟩
theorem RDs.two {K : PySem.W.Frag} {H : Hp} {d e : D} {vs : List V} (h : RDs K H [d, e] vs) : ∃ v w, vs = [v, w] ∧ RD K H d v ∧ RD K H e w := by
  obtain ⟨v, r, rfl, h1, h2⟩ := h
  obtain ⟨w, rfl, h3⟩ := RDs.one h2
  exact ⟨v, w, rfl, h1, h3⟩
theorem RDs.three {K : PySem.W.Frag} {H : Hp} {d e f : D} {vs : List V} (h : RDs K H [d, e, f] vs) : ∃ v w x, vs = [v, w, x] ∧ RD K H d v ∧ RD K H e w ∧ RD K H f x := by
  obtain ⟨v, r, rfl, h1, h2⟩ := h
  obtain ⟨w, x, rfl, h3, h4⟩ := RDs.two h2
  exact ⟨v, w, x, rfl, h1, h3, h4⟩
theorem cd_len : CallD X (.builtin "len") oLen := by
  intro pins s σ H xs us Q I rs h
  obtain ⟨ds, S, Q0, hx, hs, h, q⟩ := h
  unfold oLen at h
  split at h
  · obtain ⟨v, rfl, p, vs, rfl, ht, hd⟩ := hx.one
    exact call_len_seq pins s σ H _ us Q I rs ⟨p, vs, rfl, .inr ht, by rw [hd.length]; exact q _ _ _ _ h .refl rfl hs⟩
  · obtain ⟨v, rfl, p, vs, rfl, ht, hd⟩ := hx.one
    exact call_len_seq pins s σ H _ us Q I rs ⟨p, vs, rfl, .inl ht.sq, by rw [hd.length]; exact q _ _ _ _ h .refl rfl hs⟩
  · obtain ⟨v, rfl, e⟩ := hx.one
    cases (show v = .str _ from e)
    exact call_len_str pins s σ H _ us Q I rs ⟨_, rfl, h.1, q _ _ _ _ h.2 .refl rfl hs⟩
  · rename_i a
    obtain ⟨v, rfl, e⟩ := hx.one
    cases (show v = .ref a from e)
    unfold oLenDO at h
    split at h
    · rename_i ds e
      obtain ⟨vs, h1, hd⟩ := hs.lst e
      exact call_len_seq pins s σ H _ us Q I rs ⟨a, vs, rfl, .inl (SqL.of h1), by rw [hd.length]; exact q _ _ _ _ h .refl rfl hs⟩
    · rename_i kvs e
      obtain ⟨ws, h1, hd⟩ := hs a _ e
      exact call_lenD pins s σ H _ us Q I rs ⟨a, ws, rfl, h1, by rw [hd.length]; exact q _ _ _ _ h .refl rfl hs⟩
    · cases h
  · cases h

/-! ### list(..), tuple(..) -/
def oListDO (o : Option DO) (S : Store) (Q : KD) : Prop := match o with
  | some (.lst ds) => ∀ p, S p = none → Q (.ref p) (put S p (.lst ds))
  | some (.dk kvs) => ∀ p, S p = none → Q (.ref p) (put S p (.lst (kvs.map fun kv => kD kv.1)))
  | _ => False
def oList : RAD := fun xs S Q => match xs with
  | [.tup ds] => ∀ p, S p = none → Q (.ref p) (put S p (.lst ds))
  | [.rol ds] => ∀ p, S p = none → Q (.ref p) (put S p (.lst ds))
  | [.ref a] => oListDO (S a) S Q
  | _ => False
theorem RKV.kDs {K : PySem.W.Frag} {H : Hp} : ∀ {kvs : List (Key × D)} {ws : List (Key × V)}, RKV K H kvs ws → RDs K H (kvs.map fun kv => kD kv.1) (ws.map fun kv => kV kv.1)
  | [], _, h => by cases (show _ = [] from h); exact rfl
  | (k, d) :: r, _, h => by
    obtain ⟨v, t, rfl, h1, h2⟩ := h
    refine ⟨kV k, _, rfl, ?_, RKV.kDs h2⟩
    cases k with
    | inl i => exact rfl
    | inr x => exact rfl
theorem cd_list (hc : X.calm = true) : CallD X (.type "list") oList := by
  intro pins s σ H xs us Q I rs h
  obtain ⟨ds, S, Q0, hx, hs, h, q⟩ := h
  unfold oList at h
  split at h
  · obtain ⟨v, rfl, p, vs, rfl, ht, hd⟩ := hx.one
    exact call_list_of pins s σ H _ us Q I rs ⟨p, vs, rfl, .inr ht, fun l nl => q _ _ _ _ (h l (hs.free nl)) (Ext.new nl) rfl (hs.newLst nl hd)⟩
  · obtain ⟨v, rfl, p, vs, rfl, ht, hd⟩ := hx.one
    exact call_list_of pins s σ H _ us Q I rs ⟨p, vs, rfl, .inl ht.sq, fun l nl => q _ _ _ _ (h l (hs.free nl)) (Ext.new nl) rfl (hs.newLst nl hd)⟩
  · rename_i a
    obtain ⟨v, rfl, e⟩ := hx.one
    cases (show v = .ref a from e)
    unfold oListDO at h
    split at h
    · rename_i ds e
      obtain ⟨vs, h1, hd⟩ := hs.lst e
      exact call_list_of pins s σ H _ us Q I rs ⟨a, vs, rfl, .inl (SqL.of h1), fun l nl => q _ _ _ _ (h l (hs.free nl)) (Ext.new nl) rfl (hs.newLst nl hd)⟩
    · rename_i kvs e
      obtain ⟨ws, h1, hd⟩ := hs a _ e
      exact call_list_dK hc pins s σ H _ us Q I rs ⟨a, ws, rfl, h1, fun l nl => q _ _ _ _ (h l (hs.free nl)) (Ext.new nl) rfl (hs.newLst nl hd.kDs)⟩
    · cases h
  · cases h
def oTuple : RAD := fun xs S Q => match xs with
  | [.tup ds] => Q (.tup ds) S
  | [.ref a] => ∃ ds, S a = some (.lst ds) ∧ Q (.tup ds) S
  | _ => False
theorem cd_tuple : CallD X (.type "tuple") oTuple := by
  intro pins s σ H xs us Q I rs h
  obtain ⟨ds, S, Q0, hx, hs, h, q⟩ := h
  unfold oTuple at h
  split at h
  · obtain ⟨v, rfl, p, vs, rfl, ht, hd⟩ := hx.one
    exact call_tuple_of pins s σ H _ us Q I rs ⟨p, vs, rfl, .inr ⟨ht, q _ _ _ _ h .refl ⟨p, vs, rfl, ht, hd⟩ hs⟩⟩
  · rename_i a
    obtain ⟨v, rfl, e⟩ := hx.one
    cases (show v = .ref a from e)
    obtain ⟨ds, e, h⟩ := h
    obtain ⟨vs, h1, hd⟩ := hs.lst e
    exact call_tuple_of pins s σ H _ us Q I rs ⟨a, vs, rfl, .inl ⟨SqL.of h1, fun l nl => q _ _ _ _ h (Ext.new nl) (.newTup nl hd) (hs.grow nl)⟩⟩
  · cases h

/-! ### sum, max, min, all, any, sorted -/
def seqDO : Option DO → Option (List D)
  | some (.lst ds) => some ds
  | _ => none
def seqAt (S : Store) : D → Option (List D)
  | .rol ds => some ds
  | .ref a => seqDO (S a)
  | _ => none
theorem seqAt_ref {S : Store} {a : Addr} {ds : List D} (h : S a = some (.lst ds)) : seqAt S (.ref a) = some ds := by
  show seqDO (S a) = some ds
  rw [h]
  rfl
theorem seqAt_sq {K : PySem.W.Frag} {H : Hp} {S : Store} {d : D} {ds : List D} {v : V} (h : seqAt S d = some ds) (r : RD K H d v) (s : RS K H S) : ∃ a vs, v = .ref a ∧ SqL K H a vs ∧ RDs K H ds vs := by
  cases d with
  | rol es =>
    cases h
    obtain ⟨p, vs, rfl, ht, hd⟩ := r
    exact ⟨p, vs, rfl, ht.sq, hd⟩
  | ref a =>
    cases (show v = .ref a from r)
    have h : seqDO (S a) = some ds := h
    unfold seqDO at h
    split at h
    · rename_i es e
      cases h
      obtain ⟨vs, h1, hd⟩ := s.lst e
      exact ⟨a, vs, rfl, SqL.of h1, hd⟩
    · cases h
  | _ => cases h
def oSum : RAD := fun xs S Q => match xs with
  | [x] => ∃ ds ns, seqAt S x = some ds ∧ intsOf ds = some ns ∧ Q (.int ns.sum) S
  | _ => False
theorem cd_sum (hc : X.calm = true) : CallD X (.builtin "sum") oSum := by
  intro pins s σ H xs us Q I rs h
  obtain ⟨ds, S, Q0, hx, hs, h, q⟩ := h
  unfold oSum at h
  split at h
  · obtain ⟨v, rfl, e⟩ := hx.one
    obtain ⟨ds, ns, e1, e2, h⟩ := h
    obtain ⟨a, vs, rfl, hq, hd⟩ := seqAt_sq e1 e hs
    cases intsOf_map e2
    cases hd.ints
    exact cr_sum hc pins s σ H _ us Q I rs ⟨a, ns, rfl, hq, q _ _ _ _ h .refl rfl hs⟩
  · cases h
def oMax2 : RAD := fun xs S Q => match xs with
  | [.int i, .int j] => Q (.int (if j > i then j else i)) S
  | _ => False
theorem cd_max2 (hc : X.calm = true) : CallD X (.builtin "max") oMax2 := by
  intro pins s σ H xs us Q I rs h
  obtain ⟨ds, S, Q0, hx, hs, h, q⟩ := h
  unfold oMax2 at h
  split at h
  · obtain ⟨v, w, rfl, e1, e2⟩ := hx.two
    cases (show v = .int _ from e1)
    cases (show w = .int _ from e2)
    exact call_max2 hc pins s σ H _ us Q I rs ⟨_, _, rfl, q _ _ _ _ h .refl rfl hs⟩
  · cases h
def oMin2 : RAD := fun xs S Q => match xs with
  | [.int i, .int j] => Q (.int (if j < i then j else i)) S
  | _ => False
theorem cd_min2 (hc : X.calm = true) : CallD X (.builtin "min") oMin2 := by
  intro pins s σ H xs us Q I rs h
  obtain ⟨ds, S, Q0, hx, hs, h, q⟩ := h
  unfold oMin2 at h
  split at h
  · obtain ⟨v, w, rfl, e1, e2⟩ := hx.two
    cases (show v = .int _ from e1)
    cases (show w = .int _ from e2)
    exact call_min2 hc pins s σ H _ us Q I rs ⟨_, _, rfl, q _ _ _ _ h .refl rfl hs⟩
  · cases h
def oInt : RAD := fun xs S Q => match xs with
  | [.int i] => Q (.int i) S
  | [.bl k] => Q (.int (if k = true then 1 else 0)) S
  | _ => False
theorem cd_int : CallD X (.type "int") oInt := by
  intro pins s σ H xs us Q I rs h
  obtain ⟨ds, S, Q0, hx, hs, h, q⟩ := h
  unfold oInt at h
  split at h
  · obtain ⟨v, rfl, e⟩ := hx.one
    cases (show v = .int _ from e)
    exact call_int1 pins s σ H _ us Q I rs (.inl ⟨_, rfl, q _ _ _ _ h .refl rfl hs⟩)
  · obtain ⟨v, rfl, e⟩ := hx.one
    cases (show v = .bl _ from e)
    exact call_int1 pins s σ H _ us Q I rs (.inr ⟨_, rfl, q _ _ _ _ h .refl rfl hs⟩)
  · cases h
def oStr : RAD := fun xs S Q => match xs with
  | [.int i] => i.natAbs.log2 < 1920 ∧ Q (.str (toString i)) S
  | _ => False
theorem cd_str : CallD X (.type "str") oStr := by
  intro pins s σ H xs us Q I rs h
  obtain ⟨ds, S, Q0, hx, hs, h, q⟩ := h
  unfold oStr at h
  split at h
  · obtain ⟨v, rfl, e⟩ := hx.one
    cases (show v = .int _ from e)
    exact call_str_int pins s σ H _ us Q I rs ⟨_, rfl, h.1, q _ _ _ _ h.2 .refl rfl hs⟩
  · cases h
def blsOf : List D → Option (List Bool)
  | [] => some []
  | .bl x :: r => (blsOf r).map (x :: ·)
  | _ :: _ => none
theorem blsOf_map : ∀ {ds : List D} {xs : List Bool}, blsOf ds = some xs → ds = xs.map D.bl
  | [], _, h => by cases h; rfl
  | .bl x :: r, _, h => by
    obtain ⟨ys, e, rfl⟩ := Option.map_eq_some_iff.mp h
    rw [blsOf_map e]
    rfl
theorem blsOf_of : ∀ xs : List Bool, blsOf (xs.map D.bl) = some xs
  | [] => rfl
  | x :: xs => by
    rw [List.map_cons]
    show (blsOf (xs.map D.bl)).map (x :: ·) = _
    rw [blsOf_of xs]
    rfl
def oAll : RAD := fun xs S Q => match xs with
  | [x] => ∃ ds bs, seqAt S x = some ds ∧ blsOf ds = some bs ∧ Q (.bl (bs.all id)) S
  | _ => False
def oAny : RAD := fun xs S Q => match xs with
  | [x] => ∃ ds bs, seqAt S x = some ds ∧ blsOf ds = some bs ∧ Q (.bl (bs.any id)) S
  | _ => False
theorem cd_all (hc : X.calm = true) : CallD X (.builtin "all") oAll := by
  intro pins s σ H xs us Q I rs h
  obtain ⟨ds, S, Q0, hx, hs, h, q⟩ := h
  unfold oAll at h
  split at h
  · obtain ⟨v, rfl, e⟩ := hx.one
    obtain ⟨ds, ns, e1, e2, h⟩ := h
    obtain ⟨a, vs, rfl, hq, hd⟩ := seqAt_sq e1 e hs
    cases blsOf_map e2
    cases hd.bls
    exact cr_all hc pins s σ H _ us Q I rs ⟨a, ns, rfl, hq, q _ _ _ _ h .refl rfl hs⟩
  · cases h
theorem cd_any (hc : X.calm = true) : CallD X (.builtin "any") oAny := by
  intro pins s σ H xs us Q I rs h
  obtain ⟨ds, S, Q0, hx, hs, h, q⟩ := h
  unfold oAny at h
  split at h
  · obtain ⟨v, rfl, e⟩ := hx.one
    obtain ⟨ds, ns, e1, e2, h⟩ := h
    obtain ⟨a, vs, rfl, hq, hd⟩ := seqAt_sq e1 e hs
    cases blsOf_map e2
    cases hd.bls
    exact cr_any hc pins s σ H _ us Q I rs ⟨a, ns, rfl, hq, q _ _ _ _ h .refl rfl hs⟩
  · cases h
/-- sorted of texts, or of ints -/
def oSorted : RAD := fun xs S Q => match xs with
  | [x] => ∃ ds, seqAt S x = some ds ∧ ds.length < 64 ∧
      ((∃ ts, strsOf ds = some ts ∧ ∀ (ys : List Str) (p : Addr), ys.Perm ts → sortedS ys = true → S p = none → Q (.ref p) (put S p (.lst (ys.map D.str)))) ∨
       (∃ ts, intsOf ds = some ts ∧ ∀ (ys : List Int) (p : Addr), ys.Perm ts → ys.Pairwise (· ≤ ·) → S p = none → Q (.ref p) (put S p (.lst (ys.map D.int)))))
  | _ => False
theorem cd_sorted : CallD X (.builtin "sorted") oSorted := by
  intro pins s σ H xs us Q I rs h
  obtain ⟨ds, S, Q0, hx, hs, h, q⟩ := h
  unfold oSorted at h
  split at h
  · obtain ⟨v, rfl, e⟩ := hx.one
    obtain ⟨ds, e1, hl, h⟩ := h
    obtain ⟨a, vs, rfl, hq, hd⟩ := seqAt_sq e1 e hs
    rcases h with ⟨ts, e2, h⟩ | ⟨ts, e2, h⟩
    · cases strsOf_map e2
      cases hd.strs
      exact cr_sortedS pins s σ H _ us Q I rs ⟨a, ts, rfl, hq, by rw [List.length_map] at hl; exact hl, fun ys p h1 h2 np => q _ _ _ _ (h ys p h1 h2 (hs.free np)) (Ext.new np) rfl (hs.newLst np (RDs.of_map (f := D.str) (g := V.str) (fun _ => rfl) ys))⟩
    · cases intsOf_map e2
      cases hd.ints
      exact cr_sorted pins s σ H _ us Q I rs ⟨a, ts, rfl, hq, by rw [List.length_map] at hl; exact hl, fun ys p h1 h2 np => q _ _ _ _ (h ys p h1 h2 (hs.free np)) (Ext.new np) rfl (hs.newLst np (RDs.of_map (f := D.int) (g := V.int) (fun _ => rfl) ys))⟩
  · cases h

/-! ### isinstance of built-in classes -/
def tyNmDO : Option DO → Option String
  | some (.lst _) => some "list"
  | some (.dk _) => some "dict"
  | _ => none
def tyNm (S : Store) : D → Option String
  | .non => some "NoneType"
  | .bl _ => some "bool"
  | .int _ => some "int"
  | .str _ => some "str"
  | .tup _ => some "tuple"
  | .ftup _ => some "tuple"
  | .rol _ => some "list"
  | .ref a => tyNmDO (S a)
  | .ty _ => none
theorem tyNm_ok {K : PySem.W.Frag} {H : Hp} {S : Store} {d : D} {v : V} {t : String} (h : tyNm S d = some t) (r : RD K H d v) (s : RS K H S) : TyX K H v (.type t) := by
  cases d with
  | non => cases h; cases (show v = .non from r); exact .base .non
  | bl b => cases h; cases (show v = .bl b from r); exact .base (.bl b)
  | int b => cases h; cases (show v = .int b from r); exact .base (.int b)
  | str b => cases h; cases (show v = .str b from r); exact .base (.str b)
  | tup ds =>
    cases h
    obtain ⟨p, vs, rfl, ht, _⟩ := r
    rcases ht with (ht | ⟨o, ht⟩) | ⟨o, its, n, hk, hc, _⟩
    · exact .base (.tup ht)
    · exact .fTuple ht
    · exact .kTuple hk hc
  | ftup ds =>
    cases h
    obtain ⟨p, vs, rfl, ⟨o, ht, _⟩, _⟩ := r
    exact .fTuple ht
  | rol ds =>
    cases h
    obtain ⟨p, vs, rfl, ht, _⟩ := r
    rcases ht with ⟨o, ht⟩ | ⟨o, its, n, hk, hc, _⟩
    · exact .base (.frz ht)
    · exact .kList hk hc
  | ref a =>
    cases (show v = .ref a from r)
    have h : tyNmDO (S a) = some t := h
    unfold tyNmDO at h
    split at h
    · rename_i ds e
      cases h
      obtain ⟨vs, h1, _⟩ := s.lst e
      exact .base (.lst h1)
    · rename_i ds e
      cases h
      obtain ⟨vs, h1, _⟩ := s a _ e
      exact .base (.dK h1)
    · cases h
  | ty n => cases h
def oIsi : RAD := fun xs S Q => match xs with
  | [x, .ty T] => ∃ t b, tyNm S x = some t ∧ kitB t T = some b ∧ Q (.bl b) S
  | _ => False
theorem cd_isi : CallD X (.builtin "isinstance") oIsi := by
  intro pins s σ H xs us Q I rs h
  obtain ⟨ds, S, Q0, hx, hs, h, q⟩ := h
  unfold oIsi at h
  split at h
  · obtain ⟨v, w, rfl, e1, e2⟩ := hx.two
    cases (show w = .ty _ from e2)
    obtain ⟨t, b, e3, e4, h⟩ := h
    exact call_isi pins s σ H _ us Q I rs ⟨v, _, _, _, b, rfl, .ty _, tyNm_ok e3 e1 hs, kit_ty e4, q _ _ _ _ h .refl rfl hs⟩
  · cases h
theorem kit_tt : kitB "tuple" "tuple" = some true := by decide +kernel
theorem kit_st : kitB "str" "tuple" = some false := by decide +kernel
theorem kit_it : kitB "int" "tuple" = some false := by decide +kernel
theorem kit_bt : kitB "bool" "tuple" = some false := by decide +kernel
theorem kit_ss : kitB "str" "str" = some true := by decide +kernel
theorem kit_ts : kitB "tuple" "str" = some false := by decide +kernel
theorem kit_is : kitB "int" "str" = some false := by decide +kernel
theorem kit_ii : kitB "int" "int" = some true := by decide +kernel
theorem kit_si : kitB "str" "int" = some false := by decide +kernel
theorem kit_ti : kitB "tuple" "int" = some false := by decide +kernel
theorem kit_bi : kitB "bool" "int" = some true := by decide +kernel
theorem kit_ib : kitB "int" "bool" = some false := by decide +kernel
theorem kit_sb : kitB "str" "bool" = some false := by decide +kernel
theorem kit_tb : kitB "tuple" "bool" = some false := by decide +kernel
theorem kit_bb : kitB "bool" "bool" = some true := by decide +kernel

/-- dict(d): a copy -/
def oDictCopy : RAD := fun xs S Q => match xs with
  | [.ref a] => ∃ kvs, S a = some (.dk kvs) ∧ ∀ p, S p = none → Q (.ref p) (put S p (.dk kvs))
  | _ => False
theorem cd_dict : CallD X (.type "dict") oDictCopy := by
  intro pins s σ H xs us Q I rs h
  obtain ⟨ds, S, Q0, hx, hs, h, q⟩ := h
  unfold oDictCopy at h
  split at h
  · rename_i a
    obtain ⟨v, rfl, e⟩ := hx.one
    cases (show v = .ref a from e)
    obtain ⟨kvs, e, h⟩ := h
    obtain ⟨ws, h1, hd⟩ := hs a _ e
    cases rs with
    | cons r1 r2 =>
      cases r2
      cases (show _ = Value.ref a from r1)
      refine d_copyOf I (.inl h1) fun p s' np I' => ⟨.ref p, _, I', rfl, ?_⟩
      exact q _ _ _ _ (h p (hs.free np)) (Ext.new np) rfl (hs.new np ⟨ws, upd_same, RKV.ext (Ext.new np) hd⟩)
  · cases h

/-! ### methods -/
abbrev RMD := D → List D → Store → KD → Prop
def liftM (K : PySem.W.Frag) (r : RMD) : V → List V → Hp → VK → Prop := fun x xs H Q => ∃ d ds S Q0, RD K H d x ∧ RDs K H ds xs ∧ RS K H S ∧ r d ds S Q0 ∧ ∀ d' S' v H', Q0 d' S' → Ext K H H' → RD K H' d' v → RS K H' S' → Q v H'
def MtD (X : Cx) (id : String) (r : RMD) : Prop := MtR X id (liftM X.K r)
def tyD (T : String) (x : D) (S : Store) : Prop := match x with
  | .str _ => T = "str"
  | .ref a => (T = "list" ∧ ∃ ds, S a = some (.lst ds)) ∨ (T = "dict" ∧ ∃ kvs, S a = some (.dk kvs))
  | .rol _ => T = "list"
  | _ => False
theorem tyD_ok {K : PySem.W.Frag} {H : Hp} {S : Store} {T : String} {d : D} {v : V} (h : tyD T d S) (r : RD K H d v) (s : RS K H S) : tyV K T v H := by
  cases d with
  | str z => cases (show v = .str z from r); exact h
  | ref a =>
    cases (show v = .ref a from r)
    rcases h with ⟨e, ds, h⟩ | ⟨e, kvs, h⟩
    · obtain ⟨vs, h1, _⟩ := s.lst h
      exact .inl ⟨e, vs, SqL.of h1⟩
    · obtain ⟨vs, h1, _⟩ := s a _ h
      exact .inr (.inr (.inl ⟨e, .inl ⟨vs, h1⟩⟩))
  | rol ds =>
    obtain ⟨p, vs, rfl, ht, _⟩ := r
    exact .inl ⟨h, vs, ht.sq⟩
  | _ => cases h
def tMD (T : String) (r : RMD) (to : TED) (t : TAD) : TED := fun δ S Q => to δ S fun x S1 => tyD T x S1 ∧ t δ S1 fun xs S2 => r x xs S2 Q
variable {o e : Expr} {es : List Expr} {to : TED} {t : TAD} {name : Str} {apos cpos : Pos} {T id : String} {r : RMD}
theorem de_m0 (pa : PlainAttrs T) (slot : Slot T name id) (hty : typeOf (.builtin id) = pure (.type "method_descriptor")) (hm : MtD X id r) (ho : DE X o to)
    (hbase : attributeBase o name X.env (eval o X.env) = eval o X.env := by rfl) (hline : (apos.endLine == cpos.line) = true := by rfl) : DE X (.Call (.Attribute o name apos) [] [] cpos) (tMD T r to tNilD) :=
  PEi (pe_bm0 pa slot hty hm ho hbase hline) fun σ H Q h => by
  obtain ⟨δ, S, Q0, h1, h2, h3, h4⟩ := h
  refine ⟨δ, S, _, h1, h2, h3, fun x S1 v H1 q e1 r1 s1 => ⟨tyD_ok q.1 r1 s1, x, [], S1, Q0, r1, rfl, s1, q.2, fun d' S' v' H' q' e' r' s' => h4 _ _ _ _ q' (e1.trans e') r' s'⟩⟩
theorem de_m (pa : PlainAttrs T) (slot : Slot T name id) (hty : typeOf (.builtin id) = pure (.type "method_descriptor")) (hm : MtD X id r) (ho : DE X o to) (ha : DA X (e :: es) t)
    (hbase : attributeBase o name X.env (eval o X.env) = eval o X.env := by rfl)
    (hfew : ((backTo cpos (starEach (e :: es) X.env)).all (fun x => !x.1) && (backToKw cpos (keywordEach [] X.env)).all (fun x => x.1.isSome)
      && decide ((e :: es).length + ([] : List Keyword).length + (if ([] : List Keyword).isEmpty then 0 else 1) < 30)) = true := by rfl)
    (hline : (apos.endLine == cpos.line) = true := by rfl) (hs : starEach (e :: es) X.env = (false, eval e X.env) :: starEach es X.env := by rfl) (hplain : (backTo cpos (starEach es X.env)).any (·.1) = false := by rfl) :
    DE X (.Call (.Attribute o name apos) (e :: es) [] cpos) (tMD T r to t) :=
  PEi (pe_bm pa slot hty hm ho ha hbase hfew hline hs hplain) fun σ H Q h => by
  obtain ⟨δ, S, Q0, h1, h2, h3, h4⟩ := h
  refine ⟨δ, S, _, h1, h2, h3, fun x S1 v H1 q e1 r1 s1 => ⟨tyD_ok q.1 r1 s1, δ, S1, _, h1.ext e1, s1, q.2, fun ds S2 vs H2 q2 e2 r2 s2 => ?_⟩⟩
  exact ⟨x, ds, S2, Q0, r1.ext e2, r2, s2, q2, fun d' S' v' H' q' e' r' s' => h4 _ _ _ _ q' (e1.trans (e2.trans e')) r' s'⟩
def mAppend : RMD := fun x xs S Q => match x, xs with
  | .ref a, [y] => ∃ ds, S a = some (.lst ds) ∧ ds.length < sizeLine ∧ Q .non (put S a (.lst (ds ++ [y])))
  | _, _ => False
theorem md_append : MtD X "list.append" mAppend := by
  intro pins s σ H x xs v us Q I rx rs h
  obtain ⟨d, ds, S, Q0, hx, hxs, hs, h, q⟩ := h
  unfold mAppend at h
  split at h
  · rename_i a y
    cases (show x = .ref a from hx)
    obtain ⟨w, rfl, ry⟩ := hxs.one
    obtain ⟨ds, e, hl, h⟩ := h
    obtain ⟨vs, h1, hd⟩ := hs.lst e
    refine mt_append pins s σ H _ _ v us Q I rx rs ⟨a, vs, w, rfl, rfl, h1, by rw [hd.length]; exact hl, ?_⟩
    exact q _ _ _ _ h (Ext.put h1 trivial) rfl (hs.put h1 trivial ⟨_, upd_same, (hd.snoc ry).ext (Ext.put h1 trivial)⟩)
  · cases h
def mPop : RMD := fun x xs S Q => match x, xs with
  | .ref a, [] => ∃ ds y, S a = some (.lst ds) ∧ ds[ds.length - 1]? = some y ∧ Q y (put S a (.lst ds.dropLast))
  | _, _ => False
theorem md_pop : MtD X "list.pop" mPop := by
  intro pins s σ H x xs v us Q I rx rs h
  obtain ⟨d, ds, S, Q0, hx, hxs, hs, h, q⟩ := h
  unfold mPop at h
  split at h
  · rename_i a
    cases (show x = .ref a from hx)
    cases (show xs = [] from hxs)
    obtain ⟨ds, y, e, ey, h⟩ := h
    obtain ⟨vs, h1, hd⟩ := hs.lst e
    obtain ⟨w, ew, rw'⟩ := hd.get ey
    refine mt_pop pins s σ H _ _ v us Q I rx rs ⟨a, vs, w, rfl, rfl, h1, by rw [hd.length]; exact ew, ?_⟩
    exact q _ _ _ _ h (Ext.put h1 trivial) (rw'.ext (Ext.put h1 trivial)) (hs.put h1 trivial ⟨_, upd_same, hd.dropLast.ext (Ext.put h1 trivial)⟩)
  · cases h
def mSplit : RMD := fun x xs S Q => match x, xs with
  | .str a, [.str b] => (b.length == 0) = false ∧ a.length + 2 ≤ sizeLine ∧ ∀ p, S p = none → Q (.ref p) (put S p (.lst ((Txt.split a b).map D.str)))
  | _, _ => False
theorem md_split : MtD X "str.split" mSplit := by
  intro pins s σ H x xs v us Q I rx rs h
  obtain ⟨d, ds, S, Q0, hx, hxs, hs, h, q⟩ := h
  unfold mSplit at h
  split at h
  · rename_i a b
    cases (show x = .str a from hx)
    obtain ⟨w, rfl, ry⟩ := hxs.one
    cases (show w = .str b from ry)
    refine mt_split pins s σ H _ _ v us Q I rx rs ⟨a, b, rfl, rfl, h.1, h.2.1, fun p np => ?_⟩
    exact q _ _ _ _ (h.2.2 p (hs.free np)) (Ext.new np) rfl (hs.newLst np (RDs.of_map (f := D.str) (g := V.str) (fun _ => rfl) _))
  · cases h
/-- d.get(k, x), d.get(k) -/
def mGet : RMD := fun x xs S Q => match x, xs with
  | .ref a, [y, z] => ∃ kvs k, S a = some (.dk kvs) ∧ keyOf y = some k ∧ Q ((dval kvs k).getD z) S
  | .ref a, [y] => ∃ kvs k, S a = some (.dk kvs) ∧ keyOf y = some k ∧ Q ((dval kvs k).getD .non) S
  | _, _ => False
theorem RKV.getD {K : PySem.W.Frag} {H : Hp} {kvs : List (Key × D)} {ws : List (Key × V)} (h : RKV K H kvs ws) (k : Key) {d : D} {v : V} (r : RD K H d v) : RD K H ((dval kvs k).getD d) ((valV ws k).getD v) := by
  rcases h.val k with ⟨d', v', e1, e2, r'⟩ | ⟨e1, e2⟩
  · rw [e1, e2]; exact r'
  · rw [e1, e2]; exact r
theorem md_get (hu : X.A.units + 1 < cLine) : MtD X "dict.get" mGet := by
  intro pins s σ H x xs v us Q I rx rs h
  obtain ⟨d, ds, S, Q0, hx, hxs, hs, h, q⟩ := h
  unfold mGet at h
  split at h
  · rename_i a y z
    cases (show x = .ref a from hx)
    obtain ⟨w1, w2, rfl, r1, r2⟩ := hxs.two
    obtain ⟨kvs, k, e, ek, hq⟩ := h
    have ed := keyOf_kD ek
    subst ed
    have ev := kD_kV r1
    subst ev
    obtain ⟨ws, h1, hd⟩ := hs a _ e
    cases (show v = Value.ref a from rx)
    cases rs with
    | cons p1 p2 =>
      cases p2 with
      | cons p2 p3 =>
        cases p3
        refine d_get2 hu I (DGet.k h1) p1 p2 fun w' s' I' r' => ⟨_, H, I', r', ?_⟩
        exact q _ _ _ _ hq .refl (hd.getD k r2) hs
  · rename_i a y
    cases (show x = .ref a from hx)
    obtain ⟨w1, rfl, r1⟩ := hxs.one
    obtain ⟨kvs, k, e, ek, hq⟩ := h
    have ed := keyOf_kD ek
    subst ed
    have ev := kD_kV r1
    subst ev
    obtain ⟨ws, h1, hd⟩ := hs a _ e
    cases (show v = Value.ref a from rx)
    cases rs with
    | cons p1 p2 =>
      cases p2
      refine d_get1 hu I (DGet.k h1) p1 fun w' s' I' r' => ⟨_, H, I', r', ?_⟩
      exact q _ _ _ _ hq .refl (hd.getD k rfl) hs
  · cases h
/-- d.pop(k, x) -/
def mDPop : RMD := fun x xs S Q => match x, xs with
  | .ref a, [y, z] => ∃ kvs k, S a = some (.dk kvs) ∧ keyOf y = some k ∧ Q ((dval kvs k).getD z) (put S a (.dk (ddrop kvs k)))
  | _, _ => False
theorem dropK_none {kvs : List (Key × V)} {k : Key} (h : valV kvs k = none) : dropK kvs k = kvs := by
  unfold dropK
  rw [List.filter_eq_self]
  intro a ha
  simp only [ne_eq, decide_not, Bool.not_eq_true', decide_eq_false_iff_not]
  intro e
  have z := valV_any k kvs
  rw [h] at z
  have z2 : (kvs.any fun kv => decide (kv.1 = k)) = true := List.any_eq_true.mpr ⟨a, ha, by simp [e]⟩
  rw [z2] at z
  cases z
theorem md_dpop : MtD X "dict.pop" mDPop := by
  intro pins s σ H x xs v us Q I rx rs h
  obtain ⟨d, ds, S, Q0, hx, hxs, hs, h, q⟩ := h
  unfold mDPop at h
  split at h
  · rename_i a y z
    cases (show x = .ref a from hx)
    obtain ⟨w1, w2, rfl, r1, r2⟩ := hxs.two
    obtain ⟨kvs, k, e, ek, hq⟩ := h
    have ed := keyOf_kD ek
    subst ed
    have ev := kD_kV r1
    subst ev
    obtain ⟨ws, h1, hd⟩ := hs a _ e
    have go := hd.drop k
    cases (show v = Value.ref a from rx)
    cases rs with
    | cons p1 p2 =>
      cases p2 with
      | cons p2 p3 =>
        cases p3
        rcases hd.val k with ⟨d', v', e1, e2, r'⟩ | ⟨e1, e2⟩
        · refine d_pop I h1 p1 e2 (.inr ⟨_, rfl⟩) fun w' s' I' r'' => ⟨v', _, I', r'', ?_⟩
          rw [e1] at hq
          exact q _ _ _ _ hq (Ext.put h1 trivial) (r'.ext (Ext.put h1 trivial)) (hs.put h1 trivial ⟨_, upd_same, RKV.ext (Ext.put h1 trivial) go⟩)
        · refine d_popD I h1 p1 e2 fun s' I' => ⟨w2, H, I', p2, ?_⟩
          rw [e1] at hq
          rw [dropK_none e2] at go
          refine q _ _ _ _ hq .refl r2 fun b o eb => ?_
          by_cases z : b = a
          · subst z
            rw [put_same] at eb
            cases eb
            exact ⟨ws, h1, go⟩
          · rw [put_ne z] at eb
            exact hs b o eb
  · cases h
end
end DL

set_option Elab.async false
set_option maxRecDepth 100000
/-! DLf: loops and comprehensions over data. -/
namespace DL
open PySem PySem.Spec PyProof.Rows L2

/-- what a loop walks: at turn i, in a store: not known, at its end, or the item -/
abbrev ItD := Nat → Store → Option (Option D)
/-- it is what the hand layer walks, from a heap on -/
def RI (K : PySem.W.Frag) (H1 : Hp) (J : ItD) (I : It) : Prop := ∀ i S H, Ext K H1 H → RS K H S →
  (J i S = some none → I.stop i H) ∧ ∀ d, J i S = some (some d) → I.go i H ∧ ∀ x H', I.yld i H x H' → Ext K H H' ∧ RD K H' d x ∧ RS K H' S
abbrev TID := StD → Store → (ItD → Store → Prop) → Prop
def liftI (K : PySem.W.Frag) (t : TID) : TI := fun σ H R => ∃ δ S R0, RSt K H δ σ ∧ RS K H S ∧ t δ S R0 ∧ ∀ J S' I H', R0 J S' → Ext K H H' → RI K H' J I → RS K H' S' → R I H'
def DI (X : Cx) (tg e : Expr) (t : TID) : Prop := PI X tg e (liftI X.K t)
def lstJ (o : Option DO) (i : Nat) : Option (Option D) := match o with
  | some (.lst ds) => some ds[i]?
  | _ => none
def itJ : D → ItD
  | .tup ds => fun i _ => some ds[i]?
  | .rol ds => fun i _ => some ds[i]?
  | .str z => fun i _ => some (z.cps[i]?.map fun c => .str ⟨#[c]⟩)
  | .ref a => fun i S => lstJ (S a) i
  | _ => fun _ _ => none
def rngJ (lo : Int) (n : Nat) : ItD := fun i _ => some (if i < n then some (.int (lo + (i : Nat))) else none)
def itOk : D → Store → Prop
  | .tup _, _ => True
  | .rol _, _ => True
  | .str _, _ => True
  | .ref a, S => ∃ ds, S a = some (.lst ds)
  | _, _ => False
section
variable {K : PySem.W.Frag} {H1 : Hp}
theorem ri_tup {p : Addr} {ds : List D} {vs : List V} (ht : SqT K H1 p vs) (hd : RDs K H1 ds vs) (inj : ∀ H xs, Ext K H1 H → SqT K H p xs → xs[0]? = xs[0]?) : RI K H1 (itJ (.tup ds)) (Itt K p) := fun i S H e s => by
  have ht' := e.1 _ _ ht
  have hd' := hd.ext e
  refine ⟨fun q => ⟨vs, ht', ?_⟩, fun d q => ?_⟩
  · have q' : ds[i]? = none := Option.some.inj q
    rw [hd.length]
    exact List.getElem?_eq_none_iff.mp q'
  · have q' : ds[i]? = some d := Option.some.inj q
    obtain ⟨v, ev, rv⟩ := hd'.get q'
    refine ⟨⟨vs, v, ht', ev⟩, fun x H' y => ?_⟩
    obtain ⟨rfl, y⟩ := y
    have := y vs ht'
    rw [ev] at this
    cases this
    exact ⟨.refl, rv, s⟩
theorem ri_rol {p : Addr} {ds : List D} {vs : List V} (ht : SqR K H1 p vs) (hd : RDs K H1 ds vs) : RI K H1 (itJ (.rol ds)) (Itl K p) := fun i S H e s => by
  have ht' := (e.2.1 _ _ ht).sq
  have hd' := hd.ext e
  refine ⟨fun q => ⟨vs, ht', ?_⟩, fun d q => ?_⟩
  · have q' : ds[i]? = none := Option.some.inj q
    rw [hd.length]
    exact List.getElem?_eq_none_iff.mp q'
  · have q' : ds[i]? = some d := Option.some.inj q
    obtain ⟨v, ev, rv⟩ := hd'.get q'
    refine ⟨⟨vs, v, ht', ev⟩, fun x H' y => ?_⟩
    obtain ⟨rfl, y⟩ := y
    have := y vs ht'
    rw [ev] at this
    cases this
    exact ⟨.refl, rv, s⟩
theorem lstJ_some {o : Option DO} {i : Nat} {r : Option D} (h : lstJ o i = some r) : ∃ ds, o = some (.lst ds) ∧ ds[i]? = r := by
  unfold lstJ at h
  split at h
  · exact ⟨_, rfl, Option.some.inj h⟩
  · cases h
theorem ri_lst {a : Addr} : RI K H1 (itJ (.ref a)) (Itl K a) := fun i S H e s => by
  refine ⟨fun q => ?_, fun d q => ?_⟩
  · obtain ⟨ds, ea, q'⟩ := lstJ_some q
    obtain ⟨vs, h1, hd⟩ := s.lst ea
    refine ⟨vs, SqL.of h1, ?_⟩
    rw [hd.length]
    exact List.getElem?_eq_none_iff.mp q'
  · obtain ⟨ds, ea, q'⟩ := lstJ_some q
    obtain ⟨vs, h1, hd⟩ := s.lst ea
    obtain ⟨v, ev, rv⟩ := hd.get q'
    refine ⟨⟨vs, v, SqL.of h1, ev⟩, fun x H' y => ?_⟩
    obtain ⟨rfl, y⟩ := y
    have := y vs (SqL.of h1)
    rw [ev] at this
    cases this
    exact ⟨.refl, rv, s⟩
theorem ri_str {z : Str} : RI K H1 (itJ (.str z)) (Its z) := fun i S H e s => by
  refine ⟨fun q => ?_, fun d q => ?_⟩
  · have q' : (z.cps[i]?.map fun c => D.str ⟨#[c]⟩) = none := Option.some.inj q
    have q2 := Option.map_eq_none_iff.mp q'
    exact Array.getElem?_eq_none_iff.mp q2
  · have q' : (z.cps[i]?.map fun c => D.str ⟨#[c]⟩) = some d := Option.some.inj q
    obtain ⟨c, ec, rfl⟩ := Option.map_eq_some_iff.mp q'
    refine ⟨(Array.getElem?_eq_some_iff.mp ec).1, fun x H' y => ?_⟩
    obtain ⟨rfl, c', ec', rfl⟩ := y
    rw [ec] at ec'
    cases ec'
    exact ⟨.refl, rfl, s⟩
theorem ri_rng {lo : Int} {n : Nat} : RI K H1 (rngJ lo n) (Itr lo n) := fun i S H e s => by
  refine ⟨fun q => ?_, fun d q => ?_⟩
  · have q' : (if i < n then some (D.int (lo + (i : Nat))) else none) = none := Option.some.inj q
    split at q'
    · cases q'
    · rename_i h
      exact Nat.le_of_not_lt h
  · have q' : (if i < n then some (D.int (lo + (i : Nat))) else none) = some d := Option.some.inj q
    split at q'
    · rename_i h
      cases q'
      refine ⟨h, fun x H' y => ?_⟩
      obtain ⟨rfl, rfl⟩ := y
      exact ⟨.refl, rfl, s⟩
    · cases q'
end
section
variable {X : Cx} {tg e : Expr} {te : TED} {ta : TAD}
def tIterD (te : TED) : TID := fun δ S R => te δ S fun x S1 => itOk x S1 ∧ R (itJ x) S1
/-- a walk over a value: list, tuple, text -/
theorem di_any (he : DE X e te) : DI X tg e (tIterD te) := by
  refine ⟨fun pins s σ H R I h => ?_⟩
  obtain ⟨δ, S, R0, h1, h2, h3, h4⟩ := h
  have key : liftE X.K te σ H (fun v H1 => ∃ d S1, RD X.K H1 d v ∧ RS X.K H1 S1 ∧ Ext X.K H H1 ∧ itOk d S1 ∧ R0 (itJ d) S1) := ⟨δ, S, _, h1, h2, h3, fun d S1 v H1 q e1 r1 s1 => ⟨d, S1, r1, s1, e1, q.1, q.2⟩⟩
  refine thn (he.run pins s σ H _ I key) fun v s1 ⟨x, H1, I1, rx, d, S1, rd, rs, e1, ok, q⟩ => ?_
  cases d with
  | tup ds =>
    obtain ⟨p, vs, rfl, ht, hd⟩ := rd
    cases (show v = Value.ref p from rx)
    obtain ⟨its, rv, pt, hz⟩ := I1.tuple ht
    exact wpAny_pyIter_tuple (show s1.heap.IsTuple p its.toArray from pt) (pi_one (tk := s1.toks) I1 _ (turn_tuple p _) ⟨_, Heap.get?_push_size _ rfl, rfl, rfl⟩ (h4 _ _ _ _ q e1 (ri_tup ht hd fun _ _ _ _ => rfl) rs))
  | rol ds =>
    obtain ⟨p, vs, rfl, ht, hd⟩ := rd
    cases (show v = Value.ref p from rx)
    obtain ⟨its, rv, pt, hz⟩ := I1.list ht.sq
    exact wpAny_pyIter_list pt.isList (pi_one (tk := s1.toks) I1 _ (turn_list p _) ⟨_, Heap.get?_push_size _ rfl, rfl, rfl⟩ (h4 _ _ _ _ q e1 (ri_rol ht hd) rs))
  | ref a =>
    cases (show x = .ref a from rd)
    cases (show v = Value.ref a from rx)
    obtain ⟨ds, ea⟩ := ok
    obtain ⟨vs, hv, hd⟩ := rs.lst ea
    obtain ⟨its, rv, pt, hz⟩ := I1.list (SqL.of hv)
    exact wpAny_pyIter_list pt.isList (pi_one (tk := s1.toks) I1 _ (turn_list a _) ⟨_, Heap.get?_push_size _ rfl, rfl, rfl⟩ (h4 _ _ _ _ q e1 ri_lst rs))
  | str z =>
    cases (show x = .str z from rd)
    obtain ⟨t, rfl⟩ := rx
    have go := h4 _ _ _ _ q e1 (ri_str (z := z)) rs
    cases ha : z.cps.all (· < 128)
    · exact wpAny_pyIter_wide ha (pi_one (tk := s1.toks) I1 _ (turn_str _ z t "str_iterator" (.inr rfl)) ⟨_, Heap.get?_push_size _ rfl, rfl, rfl⟩ go)
    · exact wpAny_pyIter_ascii ha (pi_one (tk := s1.toks) I1 _ (turn_str _ z t "str_ascii_iterator" (.inl rfl)) ⟨_, Heap.get?_push_size _ rfl, rfl, rfl⟩ go)
  | _ => cases ok
theorem PIi {t t' : TI} (h : PI X tg e t') (w : ∀ σ H Q, t σ H Q → t' σ H Q) : PI X tg e t := ⟨fun pins s σ H Q I q => h.run pins s σ H Q I (w _ _ _ q)⟩
def tRng1D (ta : TAD) : TID := fun δ S R => ta δ S fun xs S1 => match xs with
  | [.int j] => (-(2 ^ 62) ≤ j ∧ j < 2 ^ 62) ∧ R (rngJ 0 j.toNat) S1
  | _ => False
def tRng2D (ta : TAD) : TID := fun δ S R => ta δ S fun xs S1 => match xs with
  | [.int i, .int j] => (-(2 ^ 62) ≤ i ∧ i < 2 ^ 62 ∧ -(2 ^ 62) ≤ j ∧ j < 2 ^ 62) ∧ R (rngJ i (j - i).toNat) S1
  | _ => False
theorem di_range1 {a : Expr} {p pos : Pos} (hg : Gl X "range") (hm : X.mg "range" = none) (ha : DA X [a] ta) (hs : starEach [a] X.env = [(false, eval a X.env)] := by rfl) : DI X tg (.Call (.Name "range" p) [a] [] pos) (tRng1D ta) := PIi (pi_range1 hg hm ha hs) fun σ H R h => by
  obtain ⟨δ, S, R0, h1, h2, h3, h4⟩ := h
  refine ⟨δ, S, _, h1, h2, h3, fun xs S1 vs H1 q e1 r1 s1 => ?_⟩
  split at q
  · obtain ⟨v, rfl, ev⟩ := r1.one
    exact ⟨_, by rw [show v = .int _ from ev], q.1.1, q.1.2, h4 _ _ _ _ q.2 e1 ri_rng s1⟩
  · cases q
theorem di_range2 {a b : Expr} {p pos : Pos} (hg : Gl X "range") (hm : X.mg "range" = none) (ha : DA X [a, b] ta) (hs : starEach [a, b] X.env = [(false, eval a X.env), (false, eval b X.env)] := by rfl) (hs2 : starEach [b] X.env = [(false, eval b X.env)] := by rfl) : DI X tg (.Call (.Name "range" p) [a, b] [] pos) (tRng2D ta) := PIi (pi_range2 hg hm ha hs hs2) fun σ H R h => by
  obtain ⟨δ, S, R0, h1, h2, h3, h4⟩ := h
  refine ⟨δ, S, _, h1, h2, h3, fun xs S1 vs H1 q e1 r1 s1 => ?_⟩
  split at q
  · obtain ⟨v, w, rfl, ev, ew⟩ := r1.two
    exact ⟨_, _, by rw [show v = .int _ from ev, show w = .int _ from ew], q.1, h4 _ _ _ _ q.2 e1 ri_rng s1⟩
  · cases q
end

/-! ### for, while -/
/-- n: a bound of the turns; W: what holds ahead of turn i -/
def forB (J : ItD) (g : GD) (tb : TSD) (G : EndsD) (δ : StD) (S1 : Store) : Prop := ∃ (n : Nat) (W : Nat → StD → Store → Prop), W 0 δ S1 ∧ ∀ i δ S, W i δ S →
  (J i S = some none ∧ G.nx δ S) ∨ ∃ d, J i S = some (some d) ∧ i < n ∧ asg g d δ S fun δ2 S2 => tb { G with nx := W (i + 1), ct := W (i + 1), bk := G.nx } δ2 S2
def tForD (wi : TID) (g : GD) (tb : TSD) : TSD := fun G δ S => wi δ S fun J S1 => forB J g tb G δ S1
def tWhileD (c : TTD) (tb : TSD) : TSD := fun G δ S => ∃ W : Nat → StD → Store → Prop, (∃ m, W m δ S) ∧ ∀ m δ S, W m δ S →
  c δ S fun b S1 => if b = true then ∃ N : StD → Store → Prop, (∀ δ' S', N δ' S' → ∃ m', m' < m ∧ W m' δ' S') ∧ tb { G with nx := N, ct := N, bk := G.nx } δ S1 else G.nx δ S1
section
variable {X : Cx} {tg iter c : Expr} {body : List Stmt} {wi : TID} {g : GD} {tb : TSD} {pos : Pos} {tc : TTD}
theorem ds_for (hp : PassesOwn (model X.prog X.w) X.A X.env X.xe) (hc : X.calm = true) (hi : DI X tg iter wi) (hg : DG X tg g) (hb : DSs X body tb) (hs : ∀ x, foldedSetIterable iter X.env x = pure x := by intro _; rfl) : DS X (.For tg iter body [] pos) (tForD wi g tb) :=
  PSi (ps_for hp hc hi hg hb hs) fun E σ H h => by
  obtain ⟨δ, S, G, h1, h2, h3, n, r, b, ct⟩ := h
  refine ⟨δ, S, _, h1, h2, h3, fun J S1 It H1 q e1 ri s1 => ?_⟩
  obtain ⟨N, W, w0, turn⟩ := q
  refine ⟨fun i m σ' H' => m = N - i ∧ ∃ δ' S', Ext X.K H1 H' ∧ RSt X.K H' δ' σ' ∧ RS X.K H' S' ∧ W i δ' S', ⟨N, rfl, δ, S1, .refl, h1.ext e1, s1, w0⟩, ?_⟩
  rintro i m σ' H' ⟨rfl, δ', S', e2, r2, s2, w2⟩
  obtain ⟨stop, go⟩ := ri i S' H' e2 s2
  rcases turn i δ' S' w2 with ⟨ej, q⟩ | ⟨d, ej, hi', q⟩
  · exact .inl ⟨stop ej, n _ _ _ _ q (e1.trans e2) r2 s2⟩
  · obtain ⟨hgo, hy⟩ := go d ej
    refine .inr ⟨hgo, fun σ3 H3 => ∃ δ3 S3, Ext X.K H1 H3 ∧ RSt X.K H3 δ3 σ3 ∧ RS X.K H3 S3 ∧ W (i + 1) δ3 S3, fun σ3 H3 ⟨δ3, S3, a1, a2, a3, a4⟩ => ⟨N - (i + 1), by omega, rfl, δ3, S3, a1, a2, a3, a4⟩, fun x H3 y => ?_⟩
    obtain ⟨e3, rd, s3⟩ := hy x H3 y
    refine asg_real q rd (r2.ext e3) s3 fun δ4 σ4 q4 r4 => ?_
    exact lift_shift (e2.trans e3) r4 s3 q4 (fun δ5 S5 σ5 H5 w5 e5 r5 s5 => ⟨δ5, S5, e5, r5, s5, w5⟩) (fun d5 S5 v5 H5 w5 e5 => r d5 S5 v5 H5 w5 (e1.trans e5)) (fun δ5 S5 σ5 H5 w5 e5 => n δ5 S5 σ5 H5 w5 (e1.trans e5)) fun δ5 S5 σ5 H5 w5 e5 r5 s5 => ⟨δ5, S5, e5, r5, s5, w5⟩
theorem ds_while (hp : PassesOwn (model X.prog X.w) X.A X.env X.xe) (hc : DT X c tc) (hb : DSs X body tb) : DS X (.While c body [] pos) (tWhileD tc tb) := PSi (ps_while hp hc hb) fun E σ H h => by
  obtain ⟨δ, S, G, h1, h2, h3, n, r, b, ct⟩ := h
  obtain ⟨W, ⟨m0, w0⟩, turn⟩ := h3
  refine ⟨fun m σ' H' => ∃ δ' S', Ext X.K H H' ∧ RSt X.K H' δ' σ' ∧ RS X.K H' S' ∧ W m δ' S', ⟨m0, δ, S, .refl, h1, h2, w0⟩, ?_⟩
  rintro m σ' H' ⟨δ', S', e2, r2, s2, w2⟩
  refine ⟨δ', S', _, r2, s2, turn m δ' S' w2, fun k S3 H3 q e3 s3 => ?_⟩
  cases k with
  | false => exact n _ _ _ _ q (e2.trans e3) (r2.ext e3) s3
  | true =>
    obtain ⟨N, hN, q⟩ := q
    rw [if_pos rfl]
    refine ⟨fun σ4 H4 => ∃ δ4 S4, Ext X.K H H4 ∧ RSt X.K H4 δ4 σ4 ∧ RS X.K H4 S4 ∧ N δ4 S4, fun σ4 H4 ⟨δ4, S4, a1, a2, a3, a4⟩ => ?_, ?_⟩
    · obtain ⟨m', hm, w4⟩ := hN δ4 S4 a4
      exact ⟨m', hm, δ4, S4, a1, a2, a3, w4⟩
    · exact lift_shift (e2.trans e3) (r2.ext e3) s3 q (fun δ5 S5 σ5 H5 w5 e5 r5 s5 => ⟨δ5, S5, e5, r5, s5, w5⟩) r n fun δ5 S5 σ5 H5 w5 e5 r5 s5 => ⟨δ5, S5, e5, r5, s5, w5⟩
end

/-! ### comprehensions -/
def wipeD (δ : StD) : List Nat → StD
  | [] => δ
  | v :: vs => sto (wipeD δ vs) v none
theorem RSt.wipe {K : PySem.W.Frag} {H : Hp} {δ : StD} {σ : L2.St} (h : RSt K H δ σ) : ∀ vs : List Nat, RSt K H (wipeD δ vs) (L2.wipe σ vs)
  | [] => h
  | v :: vs => RSt.stn (RSt.wipe h vs)
/-- the places that a target stores -/
def GD.places : GD → List Nat
  | .one i => [i]
  | .many is => is
theorem wipe_set {σ : L2.St} {i : Nat} {x : Option V} : ∀ {vs : List Nat}, i ∈ vs → L2.wipe (σ.set i x) vs = L2.wipe σ vs
  | v :: vs, h => by
    show (L2.wipe (σ.set i x) vs).set v none = (L2.wipe σ vs).set v none
    by_cases hi : i ∈ vs
    · rw [wipe_set hi]
    · have e : i = v := by
        rcases List.mem_cons.mp h with e | e
        · exact e
        · exact absurd e hi
      subst e
      have comm : ∀ (ws : List Nat), i ∉ ws → L2.wipe (σ.set i x) ws = (L2.wipe σ ws).set i x := by
        intro ws
        induction ws with
        | nil => intro _; rfl
        | cons w ws ih =>
          intro hw
          show (L2.wipe (σ.set i x) ws).set w none = ((L2.wipe σ ws).set w none).set i x
          rw [ih (fun z => hw (List.mem_cons_of_mem _ z)), List.set_comm _ _ (fun z => hw (by subst z; exact List.mem_cons_self))]
      rw [comm vs hi, List.set_set]
theorem wipe_idem {σ : L2.St} : ∀ {ws vs : List Nat}, (∀ w ∈ ws, w ∈ vs) → L2.wipe (L2.wipe σ ws) vs = L2.wipe σ vs
  | [], _, _ => rfl
  | w :: ws, vs, h => by
    show L2.wipe ((L2.wipe σ ws).set w none) vs = L2.wipe σ vs
    rw [wipe_set (h w List.mem_cons_self), wipe_idem fun x hx => h x (List.mem_cons_of_mem _ hx)]
theorem wipe_sets {vs : List Nat} : ∀ {is : List Nat} {xs : List V} {σ : L2.St}, (∀ i ∈ is, i ∈ vs) → L2.wipe (DL.sets σ is xs) vs = L2.wipe σ vs
  | [], _, _, _ => by unfold DL.sets; rfl
  | i :: is, [], _, _ => by unfold DL.sets; rfl
  | i :: is, x :: xs, σ, h => by
    show L2.wipe (DL.sets (σ.set i (some x)) is xs) vs = _
    rw [wipe_sets fun j hj => h j (List.mem_cons_of_mem _ hj), wipe_set (h i List.mem_cons_self)]
/-- .. with what the store did to the slots -/
theorem asg_wipe {K : PySem.W.Frag} {g : GD} {d : D} {v : V} {δ : StD} {σ : L2.St} {S : Store} {H : Hp} {vs : List Nat} {Q0 : StD → Store → Prop} {Q : L2.St → Hp → Prop} (hp : ∀ i ∈ g.places, i ∈ vs) (h : asg g d δ S Q0) (rd : RD K H d v) (h1 : RSt K H δ σ) (h2 : RS K H S)
    (q : ∀ δ' σ', Q0 δ' S → RSt K H δ' σ' → L2.wipe σ' vs = L2.wipe σ vs → Q σ' H) : realG K g v σ H Q := by
  cases g with
  | one i => exact q _ _ h (h1.sto rd) (wipe_set (hp i List.mem_cons_self))
  | many is =>
    cases d with
    | tup ds =>
      obtain ⟨hl, h⟩ := h
      obtain ⟨p, ws, rfl, ht, hd⟩ := rd
      exact ⟨p, ws, rfl, ht, by rw [hd.length]; exact hl, gNames_at (by rw [hd.length]; exact hl) (q _ _ h (h1.sets hd) (wipe_sets hp))⟩
    | _ => cases h
/-- [elt for tg in iter if ..]: the new list stands at p; W: what holds ahead of turn i, the store with the list within -/
def lcB (J : ItD) (g : GD) (tt : TTD) (te : TED) (vs : List Nat) (δ : StD) (Q : KD) (p : Addr) (S1 : Store) : Prop := ∃ (n : Nat) (W : Nat → Store → Prop), W 0 (put S1 p (.lst [])) ∧ ∀ i S, W i S →
  (J i S = some none ∧ Q (.ref p) S) ∨ ∃ d, J i S = some (some d) ∧ i < n ∧ asg g d (wipeD δ vs) S fun δ2 S2 => tt δ2 S2 fun b S3 =>
    if b = true then te δ2 S3 fun y S4 => ∃ acc, S4 p = some (.lst acc) ∧ acc.length < sizeLine ∧ W (i + 1) (put S4 p (.lst (acc ++ [y]))) else W (i + 1) S3
def tLcD (wi : TID) (g : GD) (tt : TTD) (te : TED) (vs : List Nat) : TED := fun δ S Q => wi δ S fun J S1 => ∀ p, S1 p = none → lcB J g tt te vs δ Q p S1
def tYesD : TTD := fun _ S Q => Q true S
def DTs (X : Cx) (ifs : List Expr) (t : TTD) : Prop := PTs X ifs (liftT X.K t)
section
variable {X : Cx} {elt tg iter : Expr} {ifs : List Expr} {scope : Scope} {own : List (Str × Nat)} {pos : Pos} {wi : TID} {g : GD} {tt : TTD} {te : TED}
theorem PTsi {t t' : TT} (h : PTs X ifs t') (w : ∀ σ H Q, t σ H Q → t' σ H Q) : PTs X ifs t := ⟨fun pins s σ H Q I q => h.run pins s σ H Q I (w _ _ _ q)⟩
theorem dts_nil : DTs X [] tYesD := PTsi pts_nil fun σ H Q h => by
  obtain ⟨δ, S, Q0, h1, h2, h3, h4⟩ := h
  exact h4 _ _ _ h3 .refl h2
theorem dts_one {c : Expr} (h : DT X c tt) : DTs X [c] tt := pts_one h
theorem lc_lift {σ : L2.St} {H : Hp} {Q : VK} {vs : List Nat} (hp : ∀ i ∈ g.places, i ∈ vs) (h : liftE X.K (tLcD wi g tt te vs) σ H Q) : tLc (liftI X.K wi) (realG X.K g) (liftT X.K tt) (liftE X.K te) vs σ H Q := by
  obtain ⟨δ, S, Q0, h1, h2, h3, h4⟩ := h
  refine ⟨δ, S, _, h1, h2, h3, fun J S1 It H1 q e1 ri s1 => fun D nD => ?_⟩
  obtain ⟨N, W, w0, turn⟩ := q D (s1.free nD)
  refine ⟨fun i m H' => m = N - i ∧ ∃ S', Ext X.K H1 H' ∧ RS X.K H' S' ∧ W i S', ⟨N, rfl, _, Ext.new nD, s1.newLst (ds := []) (vs := []) nD rfl, w0⟩, ?_⟩
  rintro i m H' ⟨rfl, S', e2, s2, w2⟩
  obtain ⟨stop, go⟩ := ri i S' H' e2 s2
  rcases turn i S' w2 with ⟨ej, q⟩ | ⟨d, ej, hi', q⟩
  · exact .inl ⟨stop ej, h4 _ _ _ _ q (e1.trans e2) rfl s2⟩
  · obtain ⟨hgo, hy⟩ := go d ej
    refine .inr ⟨hgo, fun H3 => ∃ S3, Ext X.K H1 H3 ∧ RS X.K H3 S3 ∧ W (i + 1) S3, fun H3 ⟨S3, a1, a2, a3⟩ => ⟨N - (i + 1), by omega, rfl, S3, a1, a2, a3⟩, fun x H3 y => ?_⟩
    obtain ⟨e3, rd, s3⟩ := hy x H3 y
    have e13 := e2.trans e3
    refine asg_wipe (vs := vs) hp q rd ((h1.ext (e1.trans e13)).wipe vs) s3 fun δ4 σ4 q4 r4 w4 => ⟨?_, ?_⟩
    · rw [w4]
      exact wipe_idem fun w hw => hw
    · refine ⟨δ4, _, _, r4, s3, q4, fun k S5 H5 q5 e5 s5 => ?_⟩
      cases k with
      | false => exact ⟨S5, e13.trans e5, s5, q5⟩
      | true =>
        rw [if_pos rfl]
        refine ⟨δ4, S5, _, r4.ext e5, s5, q5, fun y' S6 v6 H6 q6 e6 r6 s6 => ?_⟩
        obtain ⟨acc, ea, hl, w6⟩ := q6
        obtain ⟨ws, hw, ra⟩ := s6.lst ea
        refine ⟨ws, hw, by rw [ra.length]; exact hl, _, (e13.trans (e5.trans e6)).trans (Ext.put hw trivial), ?_, w6⟩
        exact s6.put hw trivial ⟨_, upd_same, (ra.snoc r6).ext (Ext.put hw trivial)⟩
theorem de_lc (hc : X.calm = true) (hN : X.N.Nodup) (hi : DI X tg iter wi) (ok : BlkOk X.N X.env.scope scope own)
    (hg : ∀ (s : Shared) (H : Hp) (C : Addr) (cl : List (Str × Addr)) (fp : List Addr), DG (X.blk s H scope (compEnvC scope cl C X.env) fp) tg g) (ht : ∀ (s : Shared) (H : Hp) (C : Addr) (cl : List (Str × Addr)) (fp : List Addr), DTs (X.blk s H scope (compEnvC scope cl C X.env) fp) ifs tt)
    (he : ∀ (s : Shared) (H : Hp) (C : Addr) (cl : List (Str × Addr)) (fp : List Addr), DE (X.blk s H scope (compEnvC scope cl C X.env) fp) elt te) (hp : ∀ i ∈ g.places, i ∈ own.map (·.2) := by decide) (hs : ∀ x, foldedSetIterable iter X.env x = pure x := by intro _; rfl) :
    DE X (.ListComp elt [⟨tg, iter, ifs, 0⟩] scope pos) (tLcD wi g tt te (own.map (·.2))) := PEi (pe_lc (g := realG X.K g) (tt := liftT X.K tt) (te := liftE X.K te) hc hN hi ok hg ht he hs) fun σ H Q h => lc_lift hp h
theorem ds_setLc {i : Nat} {y : Str} {py spos : Pos} (hc : X.calm = true) (hN : X.N.Nodup) (hy : X.N[i]? = some y) (hyl : X.env.scope.names.lookup y = some .local)
    (hsw : swapsWith (.ListComp elt [⟨tg, iter, ifs, 0⟩] scope pos) (some (.Name y py)) spos.line X.env = pure true) (hi : DI X tg iter wi) (ok : BlkOk X.N X.env.scope scope own)
    (hg : ∀ (s : Shared) (H : Hp) (C : Addr) (cl : List (Str × Addr)) (fp : List Addr), DG (X.blk s H scope (compEnvC scope cl C X.env) fp) tg g) (ht : ∀ (s : Shared) (H : Hp) (C : Addr) (cl : List (Str × Addr)) (fp : List Addr), DTs (X.blk s H scope (compEnvC scope cl C X.env) fp) ifs tt)
    (he : ∀ (s : Shared) (H : Hp) (C : Addr) (cl : List (Str × Addr)) (fp : List Addr), DE (X.blk s H scope (compEnvC scope cl C X.env) fp) elt te) (hp : ∀ i ∈ g.places, i ∈ own.map (·.2) := by decide) (hs : ∀ x, foldedSetIterable iter X.env x = pure x := by intro _; rfl) :
    DS X (.Assign [.Name y py] (.ListComp elt [⟨tg, iter, ifs, 0⟩] scope pos) spos) (tAsgD (tLcD wi g tt te (own.map (·.2))) (.one i)) := PSi (ps_setLc (g := realG X.K g) (tt := liftT X.K tt) (te := liftE X.K te) hc hN hy hyl hsw hi ok hg ht he hs) fun E σ H h => by
  obtain ⟨δ, S, G, h1, h2, h3, n, r, b, c⟩ := h
  refine lc_lift (X := X) (Q := fun x H1 => gName i x σ H1 E.nx) hp ⟨δ, S, _, h1, h2, h3, fun d S1 v H1 q e1 r1 s1 => ?_⟩
  exact asg_real (K := X.K) (g := .one i) q r1 (h1.ext e1) s1 fun δ' σ' q' h' => n _ _ _ _ q' e1 h' s1
end
end DL

set_option Elab.async false
set_option maxRecDepth 100000
/-! DLg: how loops and comprehensions are used. -/
namespace DL
open PySem PySem.Spec PyProof.Rows L2

section
variable {J : ItD} {g : GD} {tb : TSD} {G : EndsD} {δ : StD} {S1 : Store}
/-- items that stand while the loop runs -/
theorem forB_seq (ds : List D) (Pv : Nat → StD → Store → Prop) (h0 : Pv 0 δ S1) (hJ : ∀ i δ S, i ≤ ds.length → Pv i δ S → J i S = some ds[i]?)
    (turn : ∀ i d δ S, ds[i]? = some d → Pv i δ S → asg g d δ S fun δ2 S2 => tb { G with nx := Pv (i + 1), ct := Pv (i + 1), bk := G.nx } δ2 S2) (done : ∀ δ S, Pv ds.length δ S → G.nx δ S) : forB J g tb G δ S1 := by
  refine ⟨ds.length, fun i δ S => i ≤ ds.length ∧ Pv i δ S, ⟨Nat.zero_le _, h0⟩, ?_⟩
  rintro i δ S ⟨hi, p⟩
  have ej := hJ i δ S hi p
  by_cases hlt : i < ds.length
  · refine .inr ⟨ds[i], by rw [ej, List.getElem?_eq_getElem hlt], hlt, ?_⟩
    have q := turn i ds[i] δ S (List.getElem?_eq_getElem hlt) p
    have e : (fun i δ S => i ≤ ds.length ∧ Pv i δ S) (i + 1) = Pv (i + 1) := by
      funext δ S
      exact propext ⟨fun h => h.2, fun h => ⟨hlt, h⟩⟩
    rw [e]
    exact q
  · have e : i = ds.length := Nat.le_antisymm hi (Nat.le_of_not_lt hlt)
    subst e
    exact .inl ⟨by rw [ej, List.getElem?_eq_none (Nat.le_refl _)], done δ S p⟩
theorem forB_rng {lo : Int} {n : Nat} (Pv : Nat → StD → Store → Prop) (h0 : Pv 0 δ S1)
    (turn : ∀ i δ S, i < n → Pv i δ S → asg g (.int (lo + (i : Nat))) δ S fun δ2 S2 => tb { G with nx := Pv (i + 1), ct := Pv (i + 1), bk := G.nx } δ2 S2) (done : ∀ δ S, Pv n δ S → G.nx δ S) : forB (rngJ lo n) g tb G δ S1 := by
  refine ⟨n, fun i δ S => i ≤ n ∧ Pv i δ S, ⟨Nat.zero_le _, h0⟩, ?_⟩
  rintro i δ S ⟨hi, p⟩
  by_cases hlt : i < n
  · refine .inr ⟨.int (lo + (i : Nat)), by unfold rngJ; rw [if_pos hlt], hlt, ?_⟩
    have q := turn i δ S hlt p
    have e : (fun i δ S => i ≤ n ∧ Pv i δ S) (i + 1) = Pv (i + 1) := by
      funext δ S
      exact propext ⟨fun h => h.2, fun h => ⟨hlt, h⟩⟩
    rw [e]
    exact q
  · have e : i = n := Nat.le_antisymm hi (Nat.le_of_not_lt hlt)
    subst e
    exact .inl ⟨by unfold rngJ; rw [if_neg (Nat.lt_irrefl _)], done δ S p⟩
end
section
variable {J : ItD} {g : GD} {tt : TTD} {te : TED} {vs : List Nat} {δ : StD} {Q : KD} {p : Addr} {S1 : Store}
/-- each item gives none or one, and nothing else is changed -/
theorem lcB_pure (ds : List D) (f : D → List D) (hJ : ∀ i acc, J i (put S1 p (.lst acc)) = some ds[i]?) (hz : ds.length ≤ sizeLine) (h1 : ∀ d ∈ ds, (f d).length ≤ 1)
    (turn : ∀ d acc, d ∈ ds → acc.length < sizeLine → asg g d (wipeD δ vs) (put S1 p (.lst acc)) fun δ2 S2 => tt δ2 S2 fun b S3 =>
      if b = true then te δ2 S3 fun y S4 => ∃ acc', S4 p = some (.lst acc') ∧ acc'.length < sizeLine ∧ put S4 p (.lst (acc' ++ [y])) = put S1 p (.lst (acc ++ f d)) else S3 = put S1 p (.lst (acc ++ f d)))
    (done : Q (.ref p) (put S1 p (.lst (ds.flatMap f)))) : lcB J g tt te vs δ Q p S1 := by
  have hl : ∀ es : List D, (∀ d ∈ es, (f d).length ≤ 1) → (es.flatMap f).length ≤ es.length := by
    intro es
    induction es with
    | nil => intro _; exact Nat.le_refl _
    | cons e es ih =>
      intro h
      rw [List.flatMap_cons, List.length_append, List.length_cons]
      have a := h e List.mem_cons_self
      have b := ih fun d hd => h d (List.mem_cons_of_mem _ hd)
      omega
  refine ⟨ds.length, fun i S => i ≤ ds.length ∧ S = put S1 p (.lst ((ds.take i).flatMap f)), ⟨Nat.zero_le _, rfl⟩, ?_⟩
  rintro i S ⟨hi, rfl⟩
  have ej := hJ i ((ds.take i).flatMap f)
  by_cases hlt : i < ds.length
  · refine .inr ⟨ds[i], by rw [ej, List.getElem?_eq_getElem hlt], hlt, ?_⟩
    have l1 := hl (ds.take i) fun d hd => h1 d (List.mem_of_mem_take hd)
    rw [List.length_take] at l1
    have q := turn ds[i] ((ds.take i).flatMap f) (List.getElem_mem hlt) (by omega)
    have e : (ds.take (i + 1)).flatMap f = (ds.take i).flatMap f ++ f ds[i] := by
      rw [← List.take_append_getElem hlt, List.flatMap_append, List.flatMap_cons, List.flatMap_nil, List.append_nil]
    have e2 : ∀ S, (i + 1 ≤ ds.length ∧ S = put S1 p (.lst ((ds.take (i + 1)).flatMap f))) = (S = put S1 p (.lst ((ds.take i).flatMap f ++ f ds[i]))) := fun S => by
      rw [e]
      exact propext ⟨fun h => h.2, fun h => ⟨hlt, h⟩⟩
    simp only [e2]
    exact q
  · have e : i = ds.length := Nat.le_antisymm hi (Nat.le_of_not_lt hlt)
    subst e
    refine .inl ⟨by rw [ej, List.getElem?_eq_none (Nat.le_refl _)], ?_⟩
    rw [List.take_length]
    exact done
/-- an item that gives one, the store as it was -/
theorem lc_one {acc l : List D} {y : D} (hl : acc.length < sizeLine) (e : l = [y]) : ∃ acc', put S1 p (.lst acc) p = some (.lst acc') ∧ acc'.length < sizeLine ∧ put (put S1 p (.lst acc)) p (.lst (acc' ++ [y])) = put S1 p (.lst (acc ++ l)) :=
  ⟨acc, put_same, hl, by rw [put_put, e]⟩
theorem lc_none {acc l : List D} (e : l = []) : put S1 p (.lst acc) = put S1 p (.lst (acc ++ l)) := by rw [e, List.append_nil]
end
theorem drop1 {Q : KD} {d : D} {S S' : Store} (h : Sub S S') (q : Q d S) : ∃ S'', Sub S'' S' ∧ Q d S'' := ⟨S, h, q⟩
end DL

set_option Elab.async false
set_option maxRecDepth 100000
/-! DLh: readings, step by step: rows for simp. -/
namespace DL
open PySem PySem.Spec PyProof.Rows L2

theorem sq {t u : TSD} {G : EndsD} {δ : StD} {S : Store} (h : t { G with nx := u G } δ S) : tSeqD t u G δ S := h
section
variable {i j : Int} {a b : Addr} {x y z : Str} {d e f g h : D} {ds es : List D} {S : Store} {Q : KD} {kvs : List (Key × D)} {k : Key} {c v : Bool}
theorem rAdd_ii : oAdd (.int i) (.int j) S Q = Q (.int (i + j)) S := rfl
theorem rAdd_ss : oAdd (.str x) (.str y) S Q = (x.length + y.length ≤ sizeLine ∧ Q (.str (x ++ y)) S) := rfl
theorem rAdd_tt : oAdd (.tup ds) (.tup es) S Q = (ds.length + es.length ≤ sizeLine ∧ Q (.tup (ds ++ es)) S) := rfl
theorem rAdd_rr : oAdd (.ref a) (.ref b) S Q = ∃ xs ys, S a = some (.lst xs) ∧ S b = some (.lst ys) ∧ xs.length + ys.length ≤ sizeLine ∧ ∀ p, S p = none → Q (.ref p) (put S p (.lst (xs ++ ys))) := rfl
theorem rII {C : Int → Int → Prop} {q : Int → Int → D} : oII C q (.int i) (.int j) S Q = (C i j ∧ Q (q i j) S) := rfl
theorem rSub_ii : oSub (.int i) (.int j) S Q = Q (.int (i - j)) S := by
  show (True ∧ _) = _
  rw [true_and]
theorem rMod_ii : oMod (.int i) (.int j) S Q = (0 < j ∧ Q (.int (i % j)) S) := rfl
theorem rDiv_ii : oDiv (.int i) (.int j) S Q = ((0 < j ∧ j < 1073741824) ∧ Q (.int (i / j)) S) := rfl
theorem rPow_ii : oPow (.int i) (.int j) S Q = (CPow i j ∧ Q (.int (i ^ j.toNat)) S) := rfl
theorem rMul_ii : oMul (.int i) (.int j) S Q = (((-(2 ^ 64) < i ∧ i < 2 ^ 64) ∨ (-(2 ^ 64) < j ∧ j < 2 ^ 64)) ∧ Q (.int (i * j)) S) := rfl
theorem rMul_ri : oMul (.ref a) (.int i) S Q = ∃ xs, S a = some (.lst xs) ∧ -(2 ^ 63) ≤ i ∧ i < 2 ^ 63 ∧ xs.length * i.toNat ≤ sizeLine ∧ ∀ p, S p = none → Q (.ref p) (put S p (.lst (List.replicate i.toNat xs).flatten)) := rfl
theorem rLt_ii : oLt (.int i) (.int j) S Q = Q (.bl (decide (i < j))) S := rfl
theorem rLt_ss : oLt (.str x) (.str y) S Q = Q (.bl (decide (x.cps.toList < y.cps.toList))) S := rfl
theorem rLe_ii : oLe (.int i) (.int j) S Q = Q (.bl (decide (i ≤ j))) S := rfl
theorem rGt_ii : oGt (.int i) (.int j) S Q = Q (.bl (decide (j < i))) S := rfl
theorem rGe_ii : oGe (.int i) (.int j) S Q = Q (.bl (decide (j ≤ i))) S := rfl
theorem rEq_ii : oEq (.int i) (.int j) S Q = Q (.bl (decide (i = j))) S := rfl
theorem rEq_ss : oEq (.str x) (.str y) S Q = Q (.bl (decide (x = y))) S := rfl
theorem rEq_bb : oEq (.bl c) (.bl v) S Q = Q (.bl (decide (c = v))) S := rfl
theorem rNe_ii : oNe (.int i) (.int j) S Q = Q (.bl (!decide (i = j))) S := rfl
theorem rNe_ss : oNe (.str x) (.str y) S Q = Q (.bl (!decide (x = y))) S := rfl
theorem rNe_bb : oNe (.bl c) (.bl v) S Q = Q (.bl (!decide (c = v))) S := rfl
theorem rEq_rr : oEq (.ref a) (.ref b) S Q = eqAny id (.ref a) (.ref b) S Q := rfl
theorem rNe_rr : oNe (.ref a) (.ref b) S Q = eqAny not (.ref a) (.ref b) S Q := rfl
theorem rEq_tt : oEq (.tup ds) (.tup es) S Q = eqAny id (.tup ds) (.tup es) S Q := rfl
theorem rNe_tt : oNe (.tup ds) (.tup es) S Q = eqAny not (.tup ds) (.tup es) S Q := rfl
theorem rIn_st : oIn (.str x) (.tup ds) S Q = ∃ xs, strsOf ds = some xs ∧ Q (.bl (decide (x ∈ xs))) S := rfl
theorem rNotIn_st : oNotIn (.str x) (.tup ds) S Q = ∃ xs, strsOf ds = some xs ∧ Q (.bl (!decide (x ∈ xs))) S := rfl
theorem rIn_r : oIn d (.ref a) S Q = inDO id d (S a) S Q := rfl
theorem rNotIn_r : oNotIn d (.ref a) S Q = inDO not d (S a) S Q := rfl
theorem rIn_ss : oIn (.str x) (.str y) S Q = Q (.bl (!(Builtin.Str.occurrences y x 0 y.length 1).isEmpty)) S := rfl
variable {F : Bool → Bool}
theorem rInDO_sl : inDO F (.str x) (some (.lst ds)) S Q = ∃ xs, strsOf ds = some xs ∧ Q (.bl (F (decide (x ∈ xs)))) S := rfl
theorem rInDO_il : inDO F (.int i) (some (.lst ds)) S Q = ∃ xs, intsOf ds = some xs ∧ Q (.bl (F (decide (i ∈ xs)))) S := rfl
theorem rInDO_sd : inDO F (.str x) (some (.dk kvs)) S Q = Q (.bl (F (dval kvs (.inr x)).isSome)) S := by
  show (∃ k, keyOf (.str x) = some k ∧ _) = _
  exact propext ⟨fun ⟨k, e, q⟩ => by cases e; exact q, fun q => ⟨_, rfl, q⟩⟩
theorem rInDO_id : inDO F (.int i) (some (.dk kvs)) S Q = Q (.bl (F (dval kvs (.inl i)).isSome)) S := by
  show (∃ k, keyOf (.int i) = some k ∧ _) = _
  exact propext ⟨fun ⟨k, e, q⟩ => by cases e; exact q, fun q => ⟨_, rfl, q⟩⟩
theorem rIsN_n : oIsN .non .non S Q = Q (.bl true) S := rfl
theorem rIsN_t : oIsN (.tup ds) .non S Q = Q (.bl false) S := rfl
theorem rIsN_i : oIsN (.int i) .non S Q = Q (.bl false) S := rfl
theorem rIsN_s : oIsN (.str x) .non S Q = Q (.bl false) S := rfl
theorem rIsN_r : oIsN (.ref a) .non S Q = Q (.bl false) S := rfl
theorem rNotN_n : oNotN .non .non S Q = Q (.bl false) S := rfl
theorem rNotN_t : oNotN (.tup ds) .non S Q = Q (.bl true) S := rfl
theorem rNotN_i : oNotN (.int i) .non S Q = Q (.bl true) S := rfl
theorem rNotN_s : oNotN (.str x) .non S Q = Q (.bl true) S := rfl
theorem rNotN_r : oNotN (.ref a) .non S Q = Q (.bl true) S := rfl
theorem ixSeq_at {i : Int} (h : atI ds i = some d) : ixSeq ds (.int i) S Q = Q d S := propext ⟨fun ⟨e, h2, q⟩ => by rw [h] at h2; cases h2; exact q, fun q => ⟨d, h, q⟩⟩
theorem at0 {r : List D} : atI (d :: r) 0 = some d := atI_nat (j := 0) rfl
theorem at1 {r : List D} : atI (d :: e :: r) 1 = some e := atI_nat (j := 1) rfl
theorem at2 {r : List D} : atI (d :: e :: f :: r) 2 = some f := atI_nat (j := 2) rfl
theorem at3 {r : List D} : atI (d :: e :: f :: g :: r) 3 = some g := atI_nat (j := 3) rfl
variable {r : List D}
theorem rIx_t : oIx (.tup ds) (.int i) S Q = ixSeq ds (.int i) S Q := rfl
theorem rIx_r : oIx (.ref a) d S Q = ixDO (S a) d S Q := rfl
theorem rIx_s : oIx (.str x) (.int i) S Q = ∃ c, x.length ≤ sizeLine ∧ atI x.cps.toList i = some c ∧ Q (.str ⟨#[c]⟩) S := rfl
theorem rIxDO_l : ixDO (some (.lst ds)) (.int i) S Q = ixSeq ds (.int i) S Q := rfl
theorem rIxDO_ds : ixDO (some (.dk kvs)) (.str x) S Q = ∃ d, dval kvs (.inr x) = some d ∧ Q d S := propext ⟨fun ⟨k, d, e, h, q⟩ => by cases e; exact ⟨d, h, q⟩, fun ⟨d, h, q⟩ => ⟨_, d, rfl, h, q⟩⟩
theorem rIx0 : ixSeq (d :: r) (.int 0) S Q = Q d S := ixSeq_at at0
theorem rIx1 : ixSeq (d :: e :: r) (.int 1) S Q = Q e S := ixSeq_at at1
theorem rIx2 : ixSeq (d :: e :: f :: r) (.int 2) S Q = Q f S := ixSeq_at at2
theorem rIx3 : ixSeq (d :: e :: f :: g :: r) (.int 3) S Q = Q g S := ixSeq_at at3
variable {lo hi : Option Int} {S1 : Store} {Q1 : Store → Prop}
theorem rSl_t : oSl (.tup ds) lo hi S Q = Q (.tup (cutL ds lo hi)) S := rfl
theorem rSl_s : oSl (.str x) lo hi S Q = (x.length ≤ sizeLine ∧ Q (.str (cutS x lo hi)) S) := rfl
theorem rSl_o : oSl (.rol ds) lo hi S Q = ∀ p, S p = none → Q (.ref p) (put S p (.lst (cutL ds lo hi))) := rfl
theorem rSl_r : oSl (.ref a) lo hi S Q = slDO (S a) lo hi S Q := rfl
theorem rSlDO : slDO (some (.lst ds)) lo hi S Q = ∀ p, S p = none → Q (.ref p) (put S p (.lst (cutL ds lo hi))) := rfl
theorem rSet_r : oSet (.ref a) d e S Q1 = setDO (S a) a d e S Q1 := rfl
theorem rSetDO_l : setDO (some (.lst ds)) a (.int i) d S Q1 = ∃ j, ixN ds.length i = some j ∧ Q1 (put S a (.lst (ds.set j d))) := rfl
theorem rSetDO_s : setDO (some (.dk kvs)) a (.str x) d S Q1 = (kvs.length < sizeLine ∧ Q1 (put S a (.dk (dput kvs (.inr x) d)))) := propext ⟨fun ⟨k, e, h, q⟩ => by cases e; exact ⟨h, q⟩, fun ⟨h, q⟩ => ⟨_, rfl, h, q⟩⟩
theorem rSetDO_0 {r : List D} : setDO (some (.lst (e :: r))) a (.int 0) d S Q1 = Q1 (put S a (.lst (d :: r))) := propext ⟨fun ⟨j, h, q⟩ => by
    have h' : some (0 : Int).toNat = some j := by
      have z : ixN (e :: r).length 0 = some (0 : Int).toNat := by
        unfold ixN
        rw [if_pos (by decide), if_pos (by rw [List.length_cons]; omega)]
      rw [← z]
      exact h
    cases h'
    exact q, fun q => ⟨0, by unfold ixN; rw [if_pos (by decide), if_pos (by rw [List.length_cons]; omega)]; rfl, q⟩⟩
theorem rLen_t : oLen [.tup ds] S Q = Q (.int (ds.length : Nat)) S := rfl
theorem rLen_o : oLen [.rol ds] S Q = Q (.int (ds.length : Nat)) S := rfl
theorem rLen_s : oLen [.str x] S Q = (x.length ≤ sizeLine ∧ Q (.int (x.length : Nat)) S) := rfl
theorem rLen_r : oLen [.ref a] S Q = oLenDO (S a) S Q := rfl
theorem rLenDO : oLenDO (some (.lst ds)) S Q = Q (.int (ds.length : Nat)) S := rfl
theorem rLenDO_d : oLenDO (some (.dk kvs)) S Q = Q (.int (kvs.length : Nat)) S := rfl
theorem rList_t : oList [.tup ds] S Q = ∀ p, S p = none → Q (.ref p) (put S p (.lst ds)) := rfl
theorem rList_o : oList [.rol ds] S Q = ∀ p, S p = none → Q (.ref p) (put S p (.lst ds)) := rfl
theorem rList_r : oList [.ref a] S Q = oListDO (S a) S Q := rfl
theorem rListDO : oListDO (some (.lst ds)) S Q = ∀ p, S p = none → Q (.ref p) (put S p (.lst ds)) := rfl
theorem rTuple_t : oTuple [.tup ds] S Q = Q (.tup ds) S := rfl
theorem rTuple_r : oTuple [.ref a] S Q = ∃ ds, S a = some (.lst ds) ∧ Q (.tup ds) S := rfl
theorem rInt_i : oInt [.int i] S Q = Q (.int i) S := rfl
theorem rInt_b : oInt [.bl c] S Q = Q (.int (if c = true then 1 else 0)) S := rfl
theorem rMax : oMax2 [.int i, .int j] S Q = Q (.int (if j > i then j else i)) S := rfl
theorem rMin : oMin2 [.int i, .int j] S Q = Q (.int (if j < i then j else i)) S := rfl
theorem rAppend : mAppend (.ref a) [d] S Q = ∃ ds, S a = some (.lst ds) ∧ ds.length < sizeLine ∧ Q .non (put S a (.lst (ds ++ [d]))) := rfl
theorem rPop : mPop (.ref a) [] S Q = ∃ ds y, S a = some (.lst ds) ∧ ds[ds.length - 1]? = some y ∧ Q y (put S a (.lst ds.dropLast)) := rfl
theorem rTy_r {T : String} : tyD T (.ref a) S = ((T = "list" ∧ ∃ ds, S a = some (.lst ds)) ∨ (T = "dict" ∧ ∃ kvs, S a = some (.dk kvs))) := rfl
theorem ty_list (h : S a = some (.lst ds)) : tyD "list" (.ref a) S := .inl ⟨rfl, ds, h⟩
theorem ty_dict (h : S a = some (.dk kvs)) : tyD "dict" (.ref a) S := .inr ⟨rfl, kvs, h⟩
theorem pop_of {xs : List D} (h : S a = some (.lst (xs ++ [d]))) (q : Q d (put S a (.lst xs))) : mPop (.ref a) [] S Q :=
  ⟨xs ++ [d], d, h, by simp, by rw [List.dropLast_concat]; exact q⟩
theorem append_of {xs : List D} (h : S a = some (.lst xs)) (l : xs.length < sizeLine) (q : Q .non (put S a (.lst (xs ++ [d])))) : mAppend (.ref a) [d] S Q := ⟨xs, h, l, q⟩
theorem ty_str : tyD "str" (.str x) S := rfl
end
end DL

set_option Elab.async false
set_option maxRecDepth 100000
/-! DLi: {k: v}; == and != against the empty list; repr where no guard stands. -/
namespace DL
open PySem PySem.Spec PyProof.Rows L2

section
variable {X : Cx} {pos : Pos} {e f : Expr} {tk tv : TED}
def tDictOne (tk tv : TED) : TED := fun δ S Q => ∀ p, S p = none → tk δ (put S p (.dk [])) fun x S1 => tv δ S1 fun y S2 => S2 p = some (.dk []) ∧ ∃ k, keyOf x = some k ∧ Q (.ref p) (put S2 p (.dk [(k, y)]))
theorem de_dict1 (hk : DE X e tk) (hv : DE X f tv) : DE X (.Dict [some e] [f] pos) (tDictOne tk tv) := PEi (pe_disp (pps_cons hk hv pps_nil) rfl rfl (by simp) (by simp)) fun σ H Q h => by
  obtain ⟨δ, S, Q0, h1, h2, h3, h4⟩ := h
  intro p np
  have ex : Ext X.K H (upd H p (.dK [])) := Ext.new np
  have s0 : RS X.K (upd H p (.dK [])) (put S p (.dk [])) := h2.new np ⟨[], upd_same, rfl⟩
  refine ⟨δ, _, _, h1.ext ex, s0, h3 p (h2.free np), fun x S1 v H1 q e1 r1 s1 => ?_⟩
  refine ⟨δ, S1, _, h1.ext (ex.trans e1), s1, q, fun y S2 w H2 q2 e2 r2 s2 => ?_⟩
  obtain ⟨eS, k, ek, q2⟩ := q2
  obtain ⟨ws, hw, rw'⟩ := s2 p _ eS
  cases (show ws = [] from rw')
  refine ⟨hw, [(k, w)], ?_, by simp, ?_⟩
  · have := keyOf_kD ek
    subst this
    rw [kD_kV r1]
    rfl
  · have ex2 : Ext X.K H2 (upd H2 p (.dK [(k, w)])) := Ext.put hw trivial
    refine h4 _ _ _ _ q2 (ex.trans (e1.trans (e2.trans ex2))) rfl (s2.put hw trivial ⟨_, upd_same, w, [], rfl, r2.ext ex2, rfl⟩)
/-- xs == [] : nothing but the length is looked at -/
def emE (f : Bool → Bool) : R2D := fun x y S Q => match x, y with
  | .ref a, .ref b => ∃ xs, S a = some (.lst xs) ∧ S b = some (.lst []) ∧ Q (.bl (f xs.isEmpty)) S
  | _, _ => False
theorem emE_cases {f : Bool → Bool} {x y : D} {S : Store} {Q : KD} (h : emE f x y S Q) : ∃ a b xs, x = .ref a ∧ y = .ref b ∧ S a = some (.lst xs) ∧ S b = some (.lst []) ∧ Q (.bl (f xs.isEmpty)) S := by
  unfold emE at h
  split at h
  · obtain ⟨xs, h1, h2, h3⟩ := h
    exact ⟨_, _, xs, rfl, rfl, h1, h2, h3⟩
  · cases h
theorem emE_rr {f : Bool → Bool} {a b : Addr} {S : Store} {Q : KD} : emE f (.ref a) (.ref b) S Q = ∃ xs, S a = some (.lst xs) ∧ S b = some (.lst []) ∧ Q (.bl (f xs.isEmpty)) S := rfl
theorem list_at {pins : List (Addr × Obj)} {s : Shared} {σ : L2.St} {H : Hp} {S : Store} {a : Addr} {xs : List D} (I : Inv X pins σ H s) (hs : RS X.K H S) (e : S a = some (.lst xs)) : ∃ its : List Value, s.heap.IsList a its.toArray ∧ its.length = xs.length := by
  obtain ⟨vs, hv, rv⟩ := hs.lst e
  obtain ⟨us, ru, ⟨o, n, ho, hc, _, hd⟩, _⟩ := I.list (SqL.of hv)
  exact ⟨us, ⟨o, ho, hc, n, hd⟩, by rw [← ru.length, rv.length]⟩
theorem od_eqE (hu : X.A.units + 64 < cLine) : OpD X (compareOp .Eq) (emE id) := by
  intro pins s σ H x y v u Q I rx ry h
  obtain ⟨dx, dy, S, Q0, hx, hy, hs, h, q⟩ := h
  obtain ⟨a, b, xs, rfl, rfl, ea, eb, h⟩ := emE_cases h
  cases xs with
  | nil => exact op_eqD hu pins s σ H _ _ v u Q I rx ry ⟨.list [], .list [], PD.dp hs _ _ _ (.lst ea .nil) hx, PD.dp hs _ _ _ (.lst eb .nil) hy, by decide, by decide, q _ _ _ _ h .refl rfl hs⟩
  | cons z zs =>
    cases (show x = .ref a from hx)
    cases (show y = .ref b from hy)
    obtain ⟨us, hl, el⟩ := list_at I hs ea
    obtain ⟨ws, hl2, el2⟩ := list_at I hs eb
    cases rx
    cases ry
    refine SeqAt.eq_list_lengthsAt hl hl2 ?_ (by omega) ⟨.bl false, H, I, rfl, q _ _ _ _ h .refl rfl hs⟩
    simp [el, el2]
theorem od_neE (hu : X.A.units + 64 < cLine) : OpD X (compareOp .NotEq) (emE not) := by
  intro pins s σ H x y v u Q I rx ry h
  obtain ⟨dx, dy, S, Q0, hx, hy, hs, h, q⟩ := h
  obtain ⟨a, b, xs, rfl, rfl, ea, eb, h⟩ := emE_cases h
  cases xs with
  | nil => exact op_neD hu pins s σ H _ _ v u Q I rx ry ⟨.list [], .list [], PD.dp hs _ _ _ (.lst ea .nil) hx, PD.dp hs _ _ _ (.lst eb .nil) hy, by decide, by decide, q _ _ _ _ h .refl rfl hs⟩
  | cons z zs =>
    cases (show x = .ref a from hx)
    cases (show y = .ref b from hy)
    obtain ⟨us, hl, el⟩ := list_at I hs ea
    obtain ⟨ws, hl2, el2⟩ := list_at I hs eb
    cases rx
    cases ry
    refine SeqAt.RcNeAt.lists_lengths hl hl2 ?_ (by omega) _ _ _ _ ⟨.bl true, H, I, rfl, q _ _ _ _ h .refl rfl hs⟩
    simp [el, el2]
/-- repr of data, where no guard stands -/
def oRepr : RAD := fun xs S Q => match xs with
  | [x] => ∃ p, PD S x p ∧ (∃ ps, p = .tuple ps) ∧ p.showable = true ∧ p.hasDict = false ∧ p.depth ≤ 64 ∧ p.shown.length ≤ sizeLine ∧ Q (.str p.shown) S
  | _ => False
theorem cd_repr (hg : X.A.guards = some []) (hu : X.A.units + 100 < cLine) : CallD X (.builtin "repr") oRepr := by
  intro pins s σ H xs us Q I rs h
  obtain ⟨ds, S, Q0, hx, hs, h, q⟩ := h
  unfold oRepr at h
  split at h
  · obtain ⟨v, rfl, e⟩ := hx.one
    obtain ⟨p, hp, ⟨ps, rfl⟩, h1, h2, h3, h4, h⟩ := h
    have dp := PD.dp hs _ _ _ hp e
    cases rs with
    | cons r1 r2 =>
      cases r2
      obtain ⟨as, rd⟩ := Dp.reads I _ _ _ dp r1
      cases rd with
      | tuple a1 a2 a3 a4 =>
        refine PySem.repr_of_reads' (.tuple a1 a2 a3 a4) h1 (fun z => by rw [h2] at z; cases z) hg (by omega) (fun _ _ e => e) (fun h' u tk hk => ?_) h4
        exact ⟨.str _, H, I.kept hk, ⟨_, rfl⟩, q _ _ _ _ h .refl rfl hs⟩
  · cases h
end
end DL

set_option Elab.async false
set_option maxRecDepth 100000
set_option linter.unusedVariables false
/-! DLj: small steps of a reading: tests that are known, sizes, comprehensions item by item. -/
namespace DL
open PySem PySem.Spec PyProof.Rows L2
section
variable {A B C : Prop} {ds : List D} {xs : List Str} {x : Str}
theorem inY (e : strsOf ds = some xs) (m : x ∈ xs) (h : A) : ∃ xs, strsOf ds = some xs ∧ if x ∈ xs then A else B := ⟨xs, e, by rw [if_pos m]; exact h⟩
theorem inN (e : strsOf ds = some xs) (m : x ∉ xs) (h : B) : ∃ xs, strsOf ds = some xs ∧ if x ∈ xs then A else B := ⟨xs, e, by rw [if_neg m]; exact h⟩
theorem ifY {_ : Decidable C} (c : C) (h : A) : if C then A else B := by rw [if_pos c]; exact h
theorem ifN {_ : Decidable C} (c : ¬ C) (h : B) : if C then A else B := by rw [if_neg c]; exact h
theorem szOk {n : Nat} (h : n ≤ 100000) : n ≤ sizeLine := Nat.le_trans h (by decide)
theorem szLt {n : Nat} (h : n ≤ 100000) : n < sizeLine := Nat.lt_of_le_of_lt h (by decide)
theorem rSz0 : (0 ≤ sizeLine) = True := eq_true (by decide)
theorem rSz1 : (1 ≤ sizeLine) = True := eq_true (by decide)
theorem rSz2 : (2 ≤ sizeLine) = True := eq_true (by decide)
theorem rSz3 : (3 ≤ sizeLine) = True := eq_true (by decide)
theorem rSz4 : (4 ≤ sizeLine) = True := eq_true (by decide)
theorem rSz5 : (5 ≤ sizeLine) = True := eq_true (by decide)
theorem rSz6 : (6 ≤ sizeLine) = True := eq_true (by decide)
theorem rSz7 : (7 ≤ sizeLine) = True := eq_true (by decide)
theorem rSz8 : (8 ≤ sizeLine) = True := eq_true (by decide)
end
section
variable {J : ItD} {g : GD} {tt : TTD} {te : TED} {vs : List Nat} {δ : StD} {Q : KD} {p : Addr} {S1 : Store}
/-- each item gives its own one, and nothing else is changed -/
theorem lcB_zip (ds rs : List D) (hl : ds.length = rs.length) (hJ : ∀ i acc, J i (put S1 p (.lst acc)) = some ds[i]?) (hz : ds.length ≤ sizeLine)
    (turn : ∀ (i : Nat) (d r : D) (acc : List D) (Y : KD) (N : Store → Prop), ds[i]? = some d → rs[i]? = some r → Y r (put S1 p (.lst acc)) → asg g d (wipeD δ vs) (put S1 p (.lst acc)) fun δ2 S2 => tt δ2 S2 fun b S3 =>
      if b = true then te δ2 S3 Y else N S3)
    (done : Q (.ref p) (put S1 p (.lst rs))) : lcB J g tt te vs δ Q p S1 := by
  refine ⟨ds.length, fun i S => i ≤ ds.length ∧ S = put S1 p (.lst (rs.take i)), ⟨Nat.zero_le _, rfl⟩, ?_⟩
  rintro i S ⟨hi, rfl⟩
  have ej := hJ i (rs.take i)
  by_cases hlt : i < ds.length
  · have hlt2 : i < rs.length := hl ▸ hlt
    refine .inr ⟨ds[i], by rw [ej, List.getElem?_eq_getElem hlt], hlt, ?_⟩
    exact turn i ds[i] rs[i] (rs.take i) _ _ (List.getElem?_eq_getElem hlt) (List.getElem?_eq_getElem hlt2) ⟨_, put_same, by rw [List.length_take]; omega, hlt, by rw [put_put, List.take_append_getElem hlt2]⟩
  · have e : i = ds.length := Nat.le_antisymm hi (Nat.le_of_not_lt hlt)
    subst e
    refine .inl ⟨by rw [ej, List.getElem?_eq_none (Nat.le_refl _)], ?_⟩
    rw [hl, List.take_length]
    exact done
end
end DL

set_option Elab.async false
set_option maxRecDepth 100000
set_option linter.unusedVariables false
/-! DLk: defs that are promised only where no guard stands (for what comes to repr). -/
namespace DL
open PySem PySem.Spec PyProof.Rows L2
/-- a promise kept where no guard stands -/
structure FnG (P : Program) (w : World) (K : PySem.W.Frag) (mg : Str → Option Value) (base : Heap) (k : Nat) (f : Addr) (fd : FuncData) (ps : List Str) (sp : Sp) : Prop where
  len : ∀ vs H Q E, sp vs H Q E → vs.length = ps.length
  run : ∀ (A : Around) (outer : List Env) (s : Shared) (H : Hp) (args : Args) (us : List Value) (vs : List V) (Q : VK) (E : XK), A.guards = some [] → Room k A → Env0 P w K mg base A outer s H → BindsTo s fd args (ps.zip us) → Vals vs us → sp vs H Q E →
    codeAny (model P w) A (.call (.ref f) args) (CR CX0 outer P w H s Q E) s
section
variable {P : Program} {w : World} {K : PySem.W.Frag} {mg : Str → Option Value} {base : Heap}
theorem fnG_mk {k : Nat} {f : Addr} {fd : FuncData} {x qual : Str} {st : Stmt} {N ps : List Str} {sp : Sp} (F : Fun K x qual st f fd) (S : FnScope N ps (defScope st)) (len : ∀ vs H Q E, sp vs H Q E → vs.length = ps.length)
    (body : ∀ (cdv : Value) (A : Around) (outer : List Env) (s : Shared) (H : Hp) (vs : List V) (Q : VK) (E : XK), A.guards = some [] → Room k (A.deeper (envOfC qual (defScope st) s.heap.objs.size f cdv)) → sp vs H Q E →
      ∃ t, PSs (cxOf CX0 P w K mg base N qual (defScope st) f cdv A outer s H E).nox (defBody st) t ∧ t { nx := fun _ H' => Q .non H', rt := Q } (start N vs) H) : FnG P w K mg base (k + 1) f fd ps sp := by
  obtain ⟨oc, od, kV, doc, pm, an, cdv, ct, osl, rfl, lk, code⟩ := F.ex
  constructor
  · exact len
  intro A outer s H args us vs Q E guards room at0 binds rel wish
  have there := at0.mod.kin.keeps fun b o e => (at0.bs b o e).1
  have free := at0.mod.nolimit.keeps fun b o e => (at0.bs b o e).1
  obtain ⟨t, walk, q⟩ := body cdv A outer s H vs Q E guards (room.deeper _) wish
  have places : ∀ y ∈ ps.zip us, (defScope st).names.lookup y.1 = some .local ∨ ((defScope st).names.lookup y.1 = some .cell ∧ ((cellsFrom (s.heap.objs.size + 1) (defScope st).names []).lookup y.1).isSome = true) := by
    rintro ⟨n, v⟩ hy
    exact (S.par n (List.of_mem_zip hy).1).imp id fun c => ⟨c, PySem.W.cellsFrom_some _ _ _ (.inl c)⟩
  apply codeAny_call_function room.depth (there _ _ lk) rfl S.co S.gen rfl (PySem.W.codeRec_of there code)
  apply binds
  apply wpAny_newFunctionEnv_cells S.kind places
  rintro env rfl s1 made
  have I := inv_start (CX := CX0) (P := P) (w := w) (E := E) S room.hd at0 (len _ _ _ _ wish) rel made
  refine ⟨free.keeps made.toInCall.keep, codeAny_func (wpAny_mono (walk.nox.run [] s1 _ H _ I q) ?_ fun _ _ z => z)⟩
  intro fl s' z
  cases fl with
  | ret u => obtain ⟨v, _, H', J, rv, g⟩ := z; exact ⟨v, H', J.os, J.bare, J.base, J.hok, rv, g⟩
  | next => obtain ⟨_, H', J, g⟩ := z; exact ⟨.non, H', J.os, J.bare, J.base, J.hok, rfl, g⟩
  | brk => obtain ⟨_, _, _, z⟩ := z; exact z.elim
  | cont => obtain ⟨_, _, _, z⟩ := z; exact z.elim
/-- the def of that name keeps its promise where no guard stands -/
def DfG (P : Program) (w : World) (K : PySem.W.Frag) (mg : Str → Option Value) (base : Heap) (x : Str) (k : Nat) (sp : SpD) : Prop :=
  ∃ f fd ps, FnG P w K mg base k f fd ps (liftSp K sp) ∧ mg x = some (.ref f) ∧ PySem.W.keepIn K (.ref f) = true ∧ Binds K fd ps []
theorem fnG_body {f : Addr} {fd : FuncData} {x : Str} {st : Stmt} {N ps : List Str} {k : Nat} {sp : SpD} {sc : Scope} (F : Fun K x x st f fd) (hsc : defScope st = sc) (SC : FnScope N ps sc)
    (len : ∀ ds S Q, sp ds S Q → ds.length = ps.length)
    (hbody : ∀ (cdv : Value) (A : Around) (outer : List Env) (s : Shared) (H : Hp) (E : XK), A.guards = some [] → Room k (A.deeper (envOfC x sc s.heap.objs.size f cdv)) → ∀ ds S Q, sp ds S Q →
      ∃ t, DSs (cxOf CX0 P w K mg base N x sc f cdv A outer s H E).nox (defBody st) t ∧ t (endsD Q) (startD N ds) S) : FnG P w K mg base (k + 1) f fd ps (liftSp K sp) := by
  subst hsc
  refine fnG_mk F SC (fun vs H Q E h => ?_) (fun cdv A outer s H vs Q E hg hr h => ?_)
  · obtain ⟨ds, S, Q0, h1, h2, h3, h4⟩ := h
    rw [h1.length, len _ _ _ h3]
  · obtain ⟨ds, S, Q0, h1, h2, h3, h4⟩ := h
    obtain ⟨t, ht, q⟩ := hbody cdv A outer s H E hg hr ds S Q0 h3
    refine ⟨_, ht, startD N ds, S, _, ?_, h2, q, fun δ' S' σ' H' n e r' s' => ?_, fun d S' v H' n e r' s' => ?_, fun _ _ _ _ n => n.elim, fun _ _ _ _ n => n.elim⟩
    · unfold startD L2.start
      rw [← h1.length]
      exact RSt.args h1
    · obtain ⟨S'', hs, q⟩ := n
      exact h4 _ _ _ _ q e rfl (s'.sub hs)
    · obtain ⟨S'', hs, q⟩ := n
      exact h4 _ _ _ _ q e r' (s'.sub hs)
theorem dfG_mk {g x : Str} {st : Stmt} {N ps : List Str} {k : Nat} {sp : SpD} {sc : Scope} (A : At K mg g x st) (hsc : defScope st = sc) (SC : FnScope N ps sc)
    (hbi : ∀ (kV doc pm : Value) (an : Option Addr) (cdv ct : Value) (us : List Value), us.length = ps.length → bindArgs (PySem.W.fnOf x x (defArgs st) (defBody st) (defScope st) .none kV doc pm an cdv ct) ⟨us, []⟩ = pure (ps.zip us))
    (len : ∀ ds S Q, sp ds S Q → ds.length = ps.length)
    (hbody : ∀ (f : Addr) (cdv : Value) (A : Around) (outer : List Env) (s : Shared) (H : Hp) (E : XK), A.guards = some [] → Room k (A.deeper (envOfC x sc s.heap.objs.size f cdv)) → ∀ ds S Q, sp ds S Q →
      ∃ t, DSs (cxOf CX0 P w K mg base N x sc f cdv A outer s H E).nox (defBody st) t ∧ t (endsD Q) (startD N ds) S) : DfG P w K mg base g (k + 1) sp := by
  obtain ⟨f, fd, F, hm⟩ := A
  exact ⟨f, fd, ps, fnG_body F hsc SC len (hbody f), hm, F.kp, F.binds hbi⟩
end
section
variable {X : Cx} {pos p : Pos} {e : Expr} {es : List Expr} {t : TAD} {x : Str} {k : Nat} {sp : SpD}
theorem de_callG (F : DfG X.prog X.w X.K X.mg X.base x k sp) (hg0 : X.A.guards = some []) (hr : Room k X.A) (hg : Gl X x) (ha : DA X (e :: es) t) (hd : (x == ("__debug__" : Str)) = false := by decide) (he : starEach (e :: es) X.env = (false, eval e X.env) :: starEach es X.env := by rfl) (hpl : (backTo pos (starEach es X.env)).any (·.1) = false := by rfl) : DE X (.Call (.Name x p) (e :: es) [] pos) (tCallD sp t) := by
  obtain ⟨f, fd, ps, h1, h2, h3, h4⟩ := F
  refine PEi (t' := tCall (liftSp X.K sp) [] E0 (liftA X.K t)) ⟨fun pins s σ H Q I h => wpAny_Call_Name_kw (ld_glob I hg h2 ?_ hd)⟩ fun _ _ _ h => call_lift h
  refine PySem.W.callWith_K (h₀ := X.base) I.ok.mod.kin h3 (thn (ha.run pos pins s σ H _ I h) fun us s1 ⟨vs, H1, I1, rel, q⟩ => ⟨I1.kIn, ?_⟩) he hpl
  have q' : liftSp X.K sp vs H1 Q E0 := by
    have q1 : liftSp X.K sp (vs ++ []) H1 Q E0 := q
    rw [List.append_nil] at q1
    exact q1
  have bound := h4 s1 us I1.kIn (by rw [List.append_nil, ← rel.length]; exact h1.len _ _ _ _ q')
  rw [List.append_nil] at bound
  refine wpAny_call (codeAny_mono (h1.run X.A X.stack s1 H1 ⟨us, []⟩ us vs Q E0 hg0 hr I1.env0 bound rel q') ?_)
  intro r s' z
  cases r with
  | error e => exact z.elim
  | ok fl =>
    cases fl with
    | ret u => exact I1.after z
    | next => exact z.elim
    | brk => exact z.elim
    | cont => exact z.elim
end
end DL

set_option Elab.async false
set_option maxRecDepth 100000
set_option linter.unusedVariables false
/-! DLm: sorted of tuples (data), dict of a tuple of pairs, list.index of texts, in a tuple of data. -/
namespace DL
open PySem PySem.Spec PySem.Calls PyProof.Rows L2
mutual
theorem reads_there {h : Heap} : ∀ (d : PyData) (v : Value) (as : List Addr), d.hasDict = false → Reads h v d as → ∀ a ∈ as, ∃ o, h.get? a = some o
  | .none, _, _, _, r => by cases r; intro a z; cases z
  | .bool _, _, _, _, r => by cases r; intro a z; cases z
  | .int _, _, _, _, r => by cases r; intro a z; cases z
  | .str _, _, _, _, r => by cases r; intro a z; cases z
  | .list xs, _, _, hd, r => by
    cases r with
    | list h1 h2 h3 h4 =>
      intro a z
      rcases List.mem_cons.mp z with rfl | z
      · exact ⟨_, h1⟩
      · exact readsAll_there xs _ _ hd h4 a z
  | .tuple xs, _, _, hd, r => by
    cases r with
    | tuple h1 h2 h3 h4 => exact readsAll_there xs _ _ hd h4
  | .dict kvs, _, _, hd, _ => by cases hd
theorem readsAll_there {h : Heap} : ∀ (ds : List PyData) (vs : List Value) (as : List Addr), PyData.hasDictAll ds = false → ReadsAll h vs ds as → ∀ a ∈ as, ∃ o, h.get? a = some o
  | [], _, _, _, r => by cases r; intro a z; cases z
  | d :: ds, _, _, hd, r => by
    have hd' : d.hasDict = false ∧ PyData.hasDictAll ds = false := by simpa [PyData.hasDictAll] using hd
    cases r with
    | cons h1 h2 =>
      intro a z
      rcases List.mem_append.mp z with z | z
      · exact reads_there d _ _ hd'.1 h1 a z
      · exact readsAll_there ds _ _ hd'.2 h2 a z
end
mutual
theorem PD.nodict {S : Store} : ∀ {d : D} {p : PyData}, PD S d p → p.hasDict = false
  | _, _, .non => rfl
  | _, _, .bl _ => rfl
  | _, _, .int _ => rfl
  | _, _, .str _ => rfl
  | _, _, .tup h => PDs.nodict h
  | _, _, .rol h => PDs.nodict h
  | _, _, .ftup h => PDs.nodict h
  | _, _, .lst _ h => PDs.nodict h
theorem PDs.nodict {S : Store} : ∀ {ds : List D} {ps : List PyData}, PDs S ds ps → PyData.hasDictAll ps = false
  | _, _, .nil => rfl
  | _, _, .cons h1 h2 => by
    rw [PyData.hasDictAll, PD.nodict h1, PDs.nodict h2]; rfl
end
/-- an item to be sorted: by its key -/
structure SK where
  key : Str
  d : D
  p : PyData
def SK.le (b c : SK) : Bool := PySem.W.dataLe false SK.p b c
/-- sorted of a list or tuple of tuples that begin with a text -/
def oSortK : RAD := fun xs S Q => match xs with
  | [x] => ∃ bs : List SK, (x = .tup (bs.map SK.d) ∨ seqAt S x = some (bs.map SK.d)) ∧ bs.length ≤ 1000 ∧ (∀ b ∈ bs, PD S b.d b.p) ∧ (∀ b ∈ bs, ∃ r, b.p = .tuple (.str b.key :: r)) ∧ (∀ b ∈ bs, ∀ c ∈ bs, PySem.W.alike b.p c.p = true) ∧ (∀ b ∈ bs, b.p.depth ≤ 60) ∧
      ∀ p, S p = none → Q (.ref p) (put S p (.lst ((bs.mergeSort SK.le).map SK.d)))
  | _ => False
section
variable {X : Cx}
theorem vals_each {K : PySem.W.Frag} {H : Hp} : ∀ {bs : List SK} {vs : List V} {us : List Value}, RDs K H (bs.map SK.d) vs → Vals vs us → PySem.W.EachIs (fun u (b : SK) => ∃ v, RelV v u ∧ RD K H b.d v) us bs
  | [], vs, us, h, r => by cases (show vs = [] from h); cases r; exact .nil
  | b :: bs, vs, us, h, r => by
    obtain ⟨v, t, rfl, h1, h2⟩ := h
    cases r with
    | cons r1 r2 => exact .cons ⟨v, r1, h1⟩ (vals_each h2 r2)
theorem each_vals {K : PySem.W.Frag} {H : Hp} : ∀ {bs : List SK} {us : List Value}, PySem.W.EachIs (fun u (b : SK) => ∃ v, RelV v u ∧ RD K H b.d v) us bs → ∃ vs, Vals vs us ∧ RDs K H (bs.map SK.d) vs
  | [], us, h => by cases h; exact ⟨[], .nil, rfl⟩
  | b :: bs, us, h => by
    cases h with
    | cons h1 h2 =>
      obtain ⟨v, r1, r2⟩ := h1
      obtain ⟨vs, q1, q2⟩ := each_vals h2
      exact ⟨v :: vs, .cons r1 q1, v, vs, rfl, r2, q2⟩
theorem each_imp {α β : Type} {R R' : α → β → Prop} : ∀ {us : List α} {bs : List β}, PySem.W.EachIs R us bs → (∀ u b, b ∈ bs → R u b → R' u b) → PySem.W.EachIs R' us bs
  | _, [], h, _ => by cases h; exact .nil
  | _, b :: bs, h, q => by
    cases h with
    | cons h1 h2 => exact .cons (q _ _ List.mem_cons_self h1) (each_imp h2 fun u c hc => q u c (List.mem_cons_of_mem _ hc))
theorem cd_sortK (hu : X.A.units + 100 < cLine) : CallD X (.builtin "sorted") oSortK := by
  intro pins s σ H xs us Q I rs h
  obtain ⟨ds, S, Q0, hx, hs, h, q⟩ := h
  unfold oSortK at h
  split at h
  · obtain ⟨v, rfl, e⟩ := hx.one
    obtain ⟨bs, hb, hl, hp, hk, hal, hdp, h⟩ := h
    -- the items at the place
    have items : ∃ (a : Addr) (T : String) (o : Obj) (its : Array Value) (n : Nat) (vs : List V), v = .ref a ∧ (T = "list" ∨ T = "tuple") ∧ s.heap.get? a = some o ∧ o.cls = .type T ∧ o.data = .seq its n ∧ Vals vs its.toList ∧ RDs X.K H (bs.map SK.d) vs := by
      rcases hb with rfl | hb
      · obtain ⟨a, vs, rfl, ht, hd⟩ := e
        obtain ⟨its, rv, ⟨o, ho, hc, n, hdd⟩, _⟩ := I.tuple ht
        exact ⟨a, "tuple", o, its.toArray, n, vs, rfl, .inr rfl, ho, hc, hdd, by simpa using rv, hd⟩
      · obtain ⟨a, vs, rfl, hq, hd⟩ := seqAt_sq hb e hs
        obtain ⟨its, rv, ⟨o, n, ho, hc, _, hdd⟩, _⟩ := I.list hq
        exact ⟨a, "list", o, its.toArray, n, vs, rfl, .inl rfl, ho, hc, hdd, by simpa using rv, hd⟩
    obtain ⟨a, T, o, its, n, vs, rfl, hT, ho, hc, hdd, rv, hd⟩ := items
    cases rs with
    | cons r1 r2 =>
      cases r2
      cases r1
      have hlen : its.toList.length = bs.length := by rw [← rv.length, hd.length, List.length_map]
      have hz : its.size ≤ sizeLine := by
        have : its.size = its.toList.length := by simp
        rw [this, hlen]; exact szOk (by omega)
      have ev := vals_each hd rv
      refine call_function_entry kind_sorted plain_sorted entry_sorted (args_sorted1 _) ?_
      unfold Builtin.«sorted»
      refine wpAny_bind (m := checkCount "sorted" 1 1 _) (wpAny_pure ?_)
      refine wpAny_bind (wpAny_collect_seq a hT ho hc hdd (fun h1 k1 => ?_) hz)
      refine wpAny_bind (wpAny_newList ?_ (by rw [hlen]; exact szOk (by omega)))
      have I1 : Inv X pins σ H { s with heap := h1 } := I.kept (t' := s.toks) k1
      have er0 : PySem.W.EachIs (fun u (b : SK) => ∃ as, Reads h1 u b.p as) its.toList bs := each_imp ev fun u b hb ⟨v, r, rd⟩ => Dp.reads I1 _ _ _ (PD.dp hs _ _ _ (hp b hb) rd) r
      have k2 : ∀ b o', h1.get? b = some o' → (h1.push { cls := .type "list", data := .seq its.toList.toArray }).get? b = some o' := fun b o' e => Heap.get?_push_of_some _ e
      have at2 : (h1.push ({ cls := .type "list", data := .seq its.toList.toArray } : Obj)).get? h1.objs.size = some (seqObj "list" its.toList.toArray 0) := Heap.get?_push_size _ rfl
      have fresh : h1.objs.size ≤ h1.objs.size := Nat.le_refl _
      have hn : H h1.objs.size = none := I1.hok.fresh fresh
      refine wpAny_bind (wpAny_holding (wpAny_mono (Q := fun r s' => r = .none ∧ EP X pins σ Q (.ref h1.objs.size) s') (E := fun _ _ => False) (PySem.W.list_sort_data (a := h1.objs.size) (n := 0) (enc := SK.p) at2 ev ?_ ?_ ?_ ?_ ?_ ?_) (fun r s' z => ?_) fun _ _ z => z.elim))
      · refine each_imp er0 fun u b hb ⟨as, r⟩ => ⟨as, PyProof.Rows.Reads.keeps k2 r, fun z => ?_⟩
        obtain ⟨o', e'⟩ := reads_there _ _ _ (PD.nodict (hp b hb)) r _ z
        exact absurd (Heap.lt_size e') (Nat.not_lt.mpr fresh)
      · intro d hd1 d' hd2
        obtain ⟨b, hb1, rfl⟩ := List.mem_map.mp hd1
        obtain ⟨c, hc1, rfl⟩ := List.mem_map.mp hd2
        exact hal b hb1 c hc1
      · refine .inl fun d hd1 => ?_
        obtain ⟨b, hb1, rfl⟩ := List.mem_map.mp hd1
        obtain ⟨r, e⟩ := hk b hb1
        exact ⟨_, r, e⟩
      · exact szOk (by omega)
      · intro b hb1
        have := hdp b hb1
        show X.A.units + 1 + 1 + _ < _
        omega
      · intro out hol eo
        obtain ⟨vs', rv', rd'⟩ := each_vals eo
        obtain ⟨ep, he'⟩ := PyProof.Rows.sortedHeap_at (out := out.toArray) at2
        refine ⟨rfl, .ref h1.objs.size, upd H h1.objs.size (.lst vs'), I1.laid (t' := s.toks) (fun b u e => ?_) fresh ⟨by rw [rv'.length, hol]; exact szOk (by omega), out, ep, rv', he'⟩, rfl, ?_⟩
        · have hlt := Heap.lt_size e
          rw [PyProof.Rows.sortedHeap_old (Nat.ne_of_lt (Nat.lt_of_lt_of_le hlt fresh)) (Heap.lt_size (k2 b u e))]
          exact k2 b u e
        · exact q _ _ _ _ (h h1.objs.size (hs.free hn)) (Ext.new hn) rfl (hs.newLst hn rd')
      · obtain ⟨rfl, z⟩ := z
        exact wpAny_pure ⟨_, rfl, z⟩
  · cases h
end
end DL

set_option Elab.async false
set_option maxRecDepth 100000
set_option linter.unusedVariables false
/-! DLn: tuple(xs) as an object that is known, dict of a tuple of pairs, list.index of texts, in a tuple of data. -/
namespace DL
open PySem PySem.Spec PySem.Calls PyProof.Rows L2
section
variable {X : Cx} {e : Expr} {te : TED}
/-- a known tuple is a tuple -/
def thaw : D → D
  | .ftup ds => .tup ds
  | d => d
theorem RD.thaw {K : PySem.W.Frag} {H : Hp} {d : D} {v : V} (h : RD K H d v) : RD K H (DL.thaw d) v := by
  cases d with
  | ftup ds => obtain ⟨p, vs, rfl, ht, hd⟩ := h; exact ⟨p, vs, rfl, ht.sq, hd⟩
  | _ => exact h
def tThaw (te : TED) : TED := fun δ S Q => te δ S fun d S1 => Q (thaw d) S1
theorem de_thaw (h : DE X e te) : DE X e (tThaw te) := PEi h fun σ H Q h => by
  obtain ⟨δ, S, Q0, h1, h2, h3, h4⟩ := h
  exact ⟨δ, S, _, h1, h2, h3, fun d S1 v H1 q e1 r1 s1 => h4 _ _ _ _ q e1 r1.thaw s1⟩
/-- tuple(xs) of a list: its object is known -/
def oTupleF : RAD := fun xs S Q => match xs with
  | [x] => ∃ ds, seqAt S x = some ds ∧ Q (.ftup ds) S
  | _ => False
theorem cd_tupleF : CallD X (.type "tuple") oTupleF := by
  intro pins s σ H xs us Q I rs h
  obtain ⟨ds, S, Q0, hx, hs, h, q⟩ := h
  unfold oTupleF at h
  split at h
  · obtain ⟨v, rfl, e⟩ := hx.one
    obtain ⟨es, e1, h⟩ := h
    obtain ⟨a, vs, rfl, hq, hd⟩ := seqAt_sq e1 e hs
    cases rs with
    | cons r1 r2 =>
      cases r2
      cases r1
      obtain ⟨its, rv, pl, hz⟩ := I.list hq
      have hl := rv.length
      refine call_tuple_list pl.isList (fun h' kp => ?_) (by simp only [List.size_toArray]; omega)
      have I1 : Inv X pins σ H { s with heap := h' } := I.kept (t' := s.toks) kp
      let o : Obj := { cls := .type "tuple", data := .seq its.toArray }
      have hn : H h'.objs.size = none := I1.hok.fresh (Nat.le_refl _)
      have I2 : Inv X pins σ (upd H h'.objs.size (.frz o (.tup vs))) { s with heap := h'.push o } :=
        I1.laid (t' := s.toks) (fun b o e => Heap.get?_push_of_some _ e) (Nat.le_refl _) ⟨Heap.get?_push_size _ rfl, hz, its, rv, ⟨o, Heap.get?_push_size _ rfl, rfl, _, rfl⟩⟩
      refine ⟨.ref h'.objs.size, _, I2, rfl, q _ _ _ _ h (Ext.new hn) ⟨_, vs, rfl, ⟨o, upd_same, rfl, rfl⟩, hd.ext (Ext.new hn)⟩ (hs.grow hn)⟩
  · cases h
/-- the pairs of a tuple of pairs -/
def pairsD : List (Key × D) → List D
  | [] => []
  | (k, d) :: r => .tup [kD k, d] :: pairsD r
def dmerge (kvs more : List (Key × D)) : List (Key × D) := more.foldl (fun acc kv => dput acc kv.1 kv.2) kvs
theorem RKV.merge {K : PySem.W.Frag} {H : Hp} : ∀ {more : List (Key × D)} {mw : List (Key × V)} {kvs : List (Key × D)} {ws : List (Key × V)}, RKV K H more mw → RKV K H kvs ws → RKV K H (dmerge kvs more) (mergeK ws mw)
  | [], mw, kvs, ws, h, g => by cases (show mw = [] from h); exact g
  | (k, d) :: r, mw, kvs, ws, h, g => by
    obtain ⟨v, t, rfl, h1, h2⟩ := h
    show RKV K H (dmerge (dput kvs k d) r) (mergeK (putK ws k v) t)
    exact RKV.merge h2 (g.put k h1)
/-- dict(ps): a known tuple of pairs; dict(d): a copy -/
def oDict : RAD := fun xs S Q => match xs with
  | [.ref a] => ∃ kvs, S a = some (.dk kvs) ∧ ∀ p, S p = none → Q (.ref p) (put S p (.dk kvs))
  | [.ftup ds] => ∃ kvs, ds = pairsD kvs ∧ ∀ p, S p = none → Q (.ref p) (put S p (.dk (dmerge [] kvs)))
  | _ => False
theorem pairs_read {pins : List (Addr × Obj)} {s : Shared} {σ : L2.St} {H : Hp} (I : Inv X pins σ H s) : ∀ {kvs : List (Key × D)} {vs : List V} {us : List Value}, RDs X.K H (pairsD kvs) vs → Vals vs us →
    ∃ (ws : List (Key × V)) (prs : List (Key × Value)) (Ts : List Addr) (ps : List (Value × Value)), RKV X.K H kvs ws ∧ KV ws prs ∧ prs.length = kvs.length ∧ us = Ts.map Value.ref ∧ ps.length = kvs.length ∧
      ∀ (j : Nat) (k y : Value), ps[j]? = some (k, y) → ∃ b key, Ts[j]? = some b ∧ IsTup s.heap b #[k, y] ∧ prs[j]? = some (key, y) ∧ keyIs key k = true
  | [], vs, us, h, r => by cases (show vs = [] from h); cases r; exact ⟨[], [], [], [], rfl, .nil, rfl, rfl, rfl, fun j k y e => by simp at e⟩
  | (k, d) :: kvs, vs, us, h, r => by
    obtain ⟨v, t, rfl, ⟨p, ps, rfl, ht, hd⟩, h2⟩ := h
    cases r with
    | cons r1 r2 =>
      cases r1
      obtain ⟨ws, prs, Ts, pp, q1, q2, q3, q4, q5, q6⟩ := pairs_read I h2 r2
      obtain ⟨w1, w2, rfl, e1, e2⟩ := hd.two
      obtain ⟨its, rv, it, _⟩ := I.tuple ht
      obtain ⟨u, y, ei, ru, ry⟩ := vals2 rv
      subst ei
      refine ⟨(k, w2) :: ws, (k, y) :: prs, p :: Ts, (u, y) :: pp, ⟨w2, ws, rfl, e2, q1⟩, .cons ⟨rfl, ry⟩ q2, by simp [q3], by rw [q4]; rfl, by simp [q5], fun j k' y' e => ?_⟩
      cases j with
      | zero =>
        have e' : (u, y) = (k', y') := by simpa using e
        cases e'
        have ek := kD_kV e1
        subst ek
        exact ⟨p, k, rfl, it, rfl, kV_is (P := X.prog) (w := X.w) ru⟩
      | succ j =>
        obtain ⟨b, key, e1, e2, e3, e4⟩ := q6 j k' y' (by simpa using e)
        exact ⟨b, key, by simpa using e1, e2, by simpa using e3, e4⟩
theorem pairsD_length : ∀ l : List (Key × D), (pairsD l).length = l.length
  | [] => rfl
  | (k, d) :: l => by show (pairsD l).length + 1 = _; rw [pairsD_length l]; rfl
theorem cd_dictF (hc : X.calm = true) : CallD X (.type "dict") oDict := by
  intro pins s σ H xs us Q I rs h
  obtain ⟨ds, S, Q0, hx, hs, h, q⟩ := h
  unfold oDict at h
  split at h
  · exact cd_dict pins s σ H xs us Q I rs ⟨_, S, Q0, hx, hs, h, q⟩
  · obtain ⟨v, rfl, e⟩ := hx.one
    obtain ⟨kvs, rfl, h⟩ := h
    obtain ⟨a, vs, rfl, ⟨o, ho, hdict, hcls⟩, hd⟩ := e
    cases rs with
    | cons r1 r2 =>
      cases r2
      cases r1
      obtain ⟨hget, hz, its, rv, it⟩ := I.hok a _ ho
      obtain ⟨ws, prs, Ts, ps, q1, q2, q3, q4, q5, q6⟩ := pairs_read I hd rv
      obtain ⟨o', ho', hc', n, hd'⟩ := it
      rw [hget] at ho'
      cases ho'
      have hlen : kvs.length ≤ sizeLine := by
        have e1 := hd.length
        rw [pairsD_length] at e1
        omega
      have hps : its.length = kvs.length := by rw [← rv.length, hd.length, pairsD_length]
      refine PySem.call_dict_pairs (knd := mixKind X.prog X.w) (kvs := prs) (PySem.PairArg.tuple a its.toArray (fun j => Ts.getD j 0) ps) (I.ok.hd hc) ⟨⟨o, n, hget, hc', hdict, hd'⟩, by simp [hps, q5], fun j k y e => ?_⟩ ⟨by rw [q3, q5], fun i key v e => ?_⟩ (by rw [q5]; exact hlen) fun h' tk hdo hk => ?_
      · obtain ⟨b, key, e1, e2, _⟩ := q6 j k y e
        have eb : Ts.getD j 0 = b := by rw [List.getD_eq_getElem?_getD, e1]; rfl
        refine ⟨by rw [q4]; simp [e1, eb], ?_⟩
        show PairAt s.heap (Ts.getD j 0) k y
        rw [eb]
        exact .inl e2
      · obtain ⟨b, kk, e1, e2, e3, e4⟩ := q6 i key v e
        exact ⟨kk, e3, e4⟩
      · have hm : (s.heap.objs.size == sysModules) = false := beq_eq_false_iff_ne.mpr (Nat.ne_of_gt I.big)
        have hz2 : (mergeK [] ws).length ≤ sizeLine := by
          refine Nat.le_trans (length_mergeK ws []) ?_
          rw [List.length_nil, Nat.zero_add, q1.length]
          exact hlen
        have hn : H s.heap.objs.size = none := I.hok.fresh (Nat.le_refl _)
        have q1' : RKV X.K H (dmerge [] kvs) (mergeK [] ws) := RKV.merge q1 rfl
        refine ⟨.ref s.heap.objs.size, upd H s.heap.objs.size (.dK (mergeK [] ws)), I.laid (t' := tk) (fun b o e => hk b o (by simp) e) (Nat.le_refl _) (show ObjOk X.prog X.w _ _ _ (.dK (mergeK [] ws)) from ⟨hz2, hm, merged [] prs, KV.merge q2 .nil, hdo⟩), rfl, ?_⟩
        exact q _ _ _ _ (h _ (hs.free hn)) (Ext.new hn) rfl (hs.new hn ⟨_, upd_same, q1'.ext (Ext.new hn)⟩)
  · cases h
end
end DL

set_option Elab.async false
set_option maxRecDepth 100000
set_option linter.unusedVariables false
/-! DLo: instances: making, fields, methods. -/
namespace DL
open PySem PySem.Spec PyProof.Rows L2
def fput (f : Str) (d : D) : List (Str × D) → List (Str × D)
  | [] => [(f, d)]
  | (g, x) :: r => if g = f then (g, d) :: r else (g, x) :: fput f d r
theorem RKV.lookup {K : PySem.W.Frag} {H : Hp} {f : Str} : ∀ {fs : List (Str × D)} {ws : List (Str × V)} {d : D}, RKV K H fs ws → fs.lookup f = some d → ∃ v, ws.lookup f = some v ∧ RD K H d v
  | [], _, _, _, e => by cases e
  | (g, x) :: r, _, d, h, e => by
    obtain ⟨v, t, rfl, h1, h2⟩ := h
    rw [List.lookup_cons] at e ⊢
    cases c : f == g with
    | true => rw [c] at e; cases e; exact ⟨v, rfl, h1⟩
    | false => rw [c] at e; exact RKV.lookup h2 e
theorem RKV.lookupN {K : PySem.W.Frag} {H : Hp} {f : Str} : ∀ {fs : List (Str × D)} {ws : List (Str × V)}, RKV K H fs ws → fs.lookup f = none → ws.lookup f = none
  | [], _, h, _ => by cases (show _ = [] from h); rfl
  | (g, x) :: r, _, h, e => by
    obtain ⟨v, t, rfl, h1, h2⟩ := h
    rw [List.lookup_cons] at e ⊢
    cases c : f == g with
    | true => rw [c] at e; cases e
    | false => rw [c] at e; exact RKV.lookupN h2 e
section
variable {X : Cx} {o e value : Expr} {f : Str} {pos pos' : Pos} {ta tv : TED}
def tFldD (K : PySem.W.Frag) (ta : TED) (f : Str) : TED := fun δ S Q => ta δ S fun x S1 => ∃ a C fs d, x = .ref a ∧ S1 a = some (.ins C fs) ∧ Cls K C ∧ NoAttr K C f ∧ fs.lookup f = some d ∧ Q d S1
theorem de_fld (he : DE X e ta) (hb : attributeBase e f X.env (eval e X.env) = eval e X.env := by rfl) : DE X (.Attribute e f pos) (tFldD X.K ta f) := PEi (pe_fld he hb) fun σ H Q h => by
  obtain ⟨δ, S, Q0, h1, h2, h3, h4⟩ := h
  refine ⟨δ, S, _, h1, h2, h3, fun x S1 v H1 q e1 r1 s1 => ?_⟩
  obtain ⟨a, C, fs, d, rfl, ea, c, n, l, q⟩ := q
  obtain ⟨dx, ws, hw, rk⟩ := s1 a _ ea
  obtain ⟨w, lw, rw'⟩ := rk.lookup l
  exact ⟨a, C, dx, ws, w, r1, hw, c, n, lw, h4 _ _ _ _ q e1 rw' s1⟩
theorem RKV.fput {K : PySem.W.Frag} {H : Hp} {f : Str} {d : D} {v : V} (q : RD K H d v) : ∀ {fs : List (Str × D)} {ws : List (Str × V)}, RKV K H fs ws → RKV K H (DL.fput f d fs) (putF f v ws)
  | [], _, h => by cases (show _ = [] from h); exact ⟨v, [], rfl, q, rfl⟩
  | (g, x) :: r, _, h => by
    obtain ⟨y, t, rfl, h1, h2⟩ := h
    unfold DL.fput putF
    by_cases c : g = f
    · rw [if_pos c, if_pos c]; exact ⟨v, t, rfl, q, h2⟩
    · rw [if_neg c, if_neg c]; exact ⟨y, _, rfl, h1, RKV.fput q h2⟩
def tSetF (K : PySem.W.Frag) (ta tv : TED) (f : Str) : TSD := fun G δ S => tv δ S fun y S1 => ta δ S1 fun x S2 => ∃ a C fs, x = .ref a ∧ S2 a = some (.ins C fs) ∧ Cls K C ∧ NoAttr K C f ∧ fs.length < 1000 ∧ G.nx δ (put S2 a (.ins C (fput f y fs)))
theorem ds_fld (ha : DE X o ta) (hv : DE X value tv) (hs : swapsWith value (some (.Attribute o f pos')) pos.line X.env = pure false := by rfl) : DS X (.Assign [.Attribute o f pos'] value pos) (tSetF X.K ta tv f) := PSi (ps_fld ha hv hs) fun E σ H h => by
  obtain ⟨δ, S, G, h1, h2, h3, n, r, b, c⟩ := h
  refine ⟨δ, S, _, h1, h2, h3, fun y S1 v H1 q e1 r1 s1 => ⟨δ, S1, _, h1.ext e1, s1, q, fun x S2 u H2 q2 e2 r2 s2 => ?_⟩⟩
  obtain ⟨a, C, fs, rfl, ea, cc, nn, l, q⟩ := q2
  obtain ⟨dx, ws, hw, rk⟩ := s2 a _ ea
  have ex : Ext X.K H2 (upd H2 a (.ins C dx (putF f v ws))) := Ext.put hw trivial
  refine ⟨a, C, dx, ws, r2, hw, cc, nn, by rw [rk.length]; exact l, ?_⟩
  exact n _ _ _ _ q (e1.trans (e2.trans ex)) (h1.ext (e1.trans (e2.trans ex))) (s2.put hw trivial ⟨dx, _, upd_same, RKV.ext ex (rk.fput (r1.ext e2))⟩)
end
/-- a method keeps its promise -/
def DfM (P : Program) (w : World) (K : PySem.W.Frag) (mg : Str → Option Value) (base : Heap) (C : Addr) (m : Str) (k : Nat) (sp : SpD) : Prop :=
  ∃ f fd ps, FnOk P w K mg base CX0 k f fd ps (liftSp K sp) ∧ Meth K C m f ∧ Binds K fd ps []
def AtM (K : PySem.W.Frag) (C : Addr) (m qual : Str) (st : Stmt) : Prop := ∃ f fd, Fun K m qual st f fd ∧ Meth K C m f
/-- __init__ and the class -/
def DfI (P : Program) (w : World) (K : PySem.W.Frag) (mg : Str → Option Value) (base : Heap) (C : Addr) (k : Nat) (sp : SpD) : Prop :=
  ∃ f fd ps, FnOk P w K mg base CX0 k f fd ps (liftSp K sp) ∧ Mk K C f ∧ Binds K fd ps []
section
variable {P : Program} {w : World} {K : PySem.W.Frag} {mg : Str → Option Value} {base : Heap}
theorem DfM.mono {C : Addr} {x : Str} {j k : Nat} {sp : SpD} (h : DfM P w K mg base C x j sp) (l : j ≤ k) : DfM P w K mg base C x k sp := by
  obtain ⟨f, fd, ps, h1, h2⟩ := h
  exact ⟨f, fd, ps, h1.mono l, h2⟩
theorem fn_body {f : Addr} {fd : FuncData} {x qual : Str} {st : Stmt} {N ps : List Str} {k : Nat} {sp : SpD} {sc : Scope} (F : Fun K x qual st f fd) (hsc : defScope st = sc) (SC : FnScope N ps sc)
    (len : ∀ ds S Q, sp ds S Q → ds.length = ps.length)
    (hbody : ∀ (cdv : Value) (A : Around) (outer : List Env) (s : Shared) (H : Hp) (E : XK), Room k (A.deeper (envOfC qual sc s.heap.objs.size f cdv)) → ∀ ds S Q, sp ds S Q →
      ∃ t, DSs (cxOf CX0 P w K mg base N qual sc f cdv A outer s H E).nox (defBody st) t ∧ t (endsD Q) (startD N ds) S) : FnOk P w K mg base CX0 (k + 1) f fd ps (liftSp K sp) := by
  subst hsc
  refine F.ok SC (fun vs H Q E h => ?_) (fun cdv A outer s H vs Q E hr h => ?_)
  · obtain ⟨ds, S, Q0, h1, h2, h3, h4⟩ := h
    rw [h1.length, len _ _ _ h3]
  · obtain ⟨ds, S, Q0, h1, h2, h3, h4⟩ := h
    obtain ⟨t, ht, q⟩ := hbody cdv A outer s H E hr ds S Q0 h3
    refine ⟨_, ht, startD N ds, S, _, ?_, h2, q, fun δ' S' σ' H' n e r' s' => ?_, fun d S' v H' n e r' s' => ?_, fun _ _ _ _ n => n.elim, fun _ _ _ _ n => n.elim⟩
    · unfold startD L2.start
      rw [← h1.length]
      exact RSt.args h1
    · obtain ⟨S'', hs, q⟩ := n
      exact h4 _ _ _ _ q e rfl (s'.sub hs)
    · obtain ⟨S'', hs, q⟩ := n
      exact h4 _ _ _ _ q e r' (s'.sub hs)
theorem dfM_mk {C : Addr} {m qual : Str} {st : Stmt} {N ps : List Str} {k : Nat} {sp : SpD} {sc : Scope} (A : AtM K C m qual st) (hsc : defScope st = sc) (SC : FnScope N ps sc)
    (hbi : ∀ (kV doc pm : Value) (an : Option Addr) (cdv ct : Value) (us : List Value), us.length = ps.length → bindArgs (PySem.W.fnOf m qual (defArgs st) (defBody st) (defScope st) .none kV doc pm an cdv ct) ⟨us, []⟩ = pure (ps.zip us))
    (len : ∀ ds S Q, sp ds S Q → ds.length = ps.length)
    (hbody : ∀ (f : Addr) (cdv : Value) (A : Around) (outer : List Env) (s : Shared) (H : Hp) (E : XK), Room k (A.deeper (envOfC qual sc s.heap.objs.size f cdv)) → ∀ ds S Q, sp ds S Q →
      ∃ t, DSs (cxOf CX0 P w K mg base N qual sc f cdv A outer s H E).nox (defBody st) t ∧ t (endsD Q) (startD N ds) S) : DfM P w K mg base C m (k + 1) sp := by
  obtain ⟨f, fd, F, hm⟩ := A
  exact ⟨f, fd, ps, fn_body F hsc SC len (hbody f), hm, F.binds hbi⟩
end
section
variable {X : Cx} {C : Addr} {pos p apos : Pos} {e o : Expr} {es : List Expr} {to : TED} {t : TAD} {x m : Str} {k : Nat} {sp : SpD}
def tMethD (C : Addr) (m : Str) (sp : SpD) (to : TED) (t : TAD) : TED := fun δ S Q => to δ S fun x S1 => ∃ a fs, x = .ref a ∧ S1 a = some (.ins C fs) ∧ fs.lookup m = none ∧ t δ S1 fun ds S2 => sp (x :: ds) S2 Q
theorem de_meth {pl : Sem Bool} (F : DfM X.prog X.w X.K X.mg X.base C m k sp) (c : Cls X.K C) (hr : Room k X.A) (ho : DE X o to) (ha : DA X (e :: es) t)
    (hst : starEach (e :: es) X.env = (false, eval e X.env) :: starEach es X.env := by rfl) (hpl : (backTo pos (starEach es X.env)).any (·.1) = false := by rfl)
    (ht : eval (.Call (.Attribute o m apos) (e :: es) [] pos) X.env = (do
      let ov ← eval o X.env
      standAt apos.atName
      let (f, first) ← holding [ov] (getMethod ov m pl)
      callWith pos f first (backTo pos (starEach (e :: es) X.env)) (backToKw pos (keywordEach [] X.env))) := by rfl) : DE X (.Call (.Attribute o m apos) (e :: es) [] pos) (tMethD C m sp to t) := by
  obtain ⟨f, fd, ps, h1, h2, h3⟩ := F
  refine PEi (pe_meth (pl := pl) ho c h2 h1 hr h3 .nil pass0 ha hst hpl ht) fun σ H Q h => ?_
  obtain ⟨δ, S, Q0, g1, g2, g3, g4⟩ := h
  refine ⟨δ, S, _, g1, g2, g3, fun d S1 v H1 q e1 r1 s1 => ?_⟩
  obtain ⟨a, fs, rfl, ea, l, q⟩ := q
  obtain ⟨dx, ws, hw, rk⟩ := s1 a _ ea
  refine ⟨a, dx, ws, r1, hw, rk.lookupN l, δ, S1, _, g1.ext e1, s1, q, fun ds S2 vs H2 q2 e2 r2 s2 => ?_⟩
  show liftSp X.K sp (v :: (vs ++ [])) H2 Q E0
  rw [List.append_nil]
  exact ⟨.ref a :: ds, S2, Q0, ⟨v, vs, rfl, r1, r2⟩, s2, q2, fun d S' v H' q' e' r' s' => g4 _ _ _ _ q' (e1.trans (e2.trans e')) r' s'⟩
def tMakeD (C : Addr) (sp : SpD) (t : TAD) : TED := fun δ S Q => t δ S fun ds S1 => ∀ x, S1 x = none → sp (.ref x :: ds) (put S1 x (.ins C [])) fun d S2 => d = .non ∧ Q (.ref x) S2
theorem de_make (F : DfI X.prog X.w X.K X.mg X.base C k sp) (hm : X.mg x = some (.ref C)) (hr : Room (k + 1) X.A) (hg : Gl X x) (ha : DA X (e :: es) t) (hdb : (x == ("__debug__" : Str)) = false := by decide) (he : starEach (e :: es) X.env = (false, eval e X.env) :: starEach es X.env := by rfl)
    (hpl : (backTo pos (starEach es X.env)).any (·.1) = false := by rfl) : DE X (.Call (.Name x p) (e :: es) [] pos) (tMakeD C sp t) := by
  obtain ⟨f, fd, ps, h1, h2, h3⟩ := F
  refine PEi (pe_make h2 h1 hr hg hm h3 .nil pass0 ha hdb he hpl) fun σ H Q h => ?_
  obtain ⟨δ, S, Q0, g1, g2, g3, g4⟩ := h
  refine ⟨δ, S, _, g1, g2, g3, fun ds S1 vs H1 q e1 r1 s1 y dx ny ndx hne => ?_⟩
  show liftSp X.K sp (.ref y :: (vs ++ [])) _ _ E0
  rw [List.append_nil]
  have x1 : Ext X.K H1 (upd H1 dx (.own y)) := Ext.new ndx
  have ny' : upd H1 dx (.own y) y = none := by rw [upd_ne hne.symm]; exact ny
  have x2 : Ext X.K (upd H1 dx (.own y)) (upd (upd H1 dx (.own y)) y (.ins C dx [])) := Ext.new ny'
  have s2 : RS X.K (upd (upd H1 dx (.own y)) y (.ins C dx [])) (put S1 y (.ins C [])) := (s1.grow ndx).new ny' ⟨dx, [], upd_same, rfl⟩
  refine ⟨.ref y :: ds, _, _, ⟨.ref y, vs, rfl, rfl, r1.ext (x1.trans x2)⟩, s2, q y (s1.free ny), fun d S' v H' q' e' r' s' => ?_⟩
  obtain ⟨rfl, q'⟩ := q'
  exact ⟨r', g4 _ _ _ _ q' (e1.trans (x1.trans (x2.trans e'))) rfl s'⟩
end
end DL

set_option Elab.async false
set_option maxRecDepth 100000
set_option linter.unusedVariables false
/-! DLp: list.index of texts, in a tuple of data. -/
namespace DL
open PySem PySem.Spec PyProof.Rows L2
section
variable {X : Cx}
def mIndex : RMD := fun x xs S Q => match x, xs with
  | .ref a, [.str y] => ∃ (ts : List Str) (j : Nat), S a = some (.lst (ts.map D.str)) ∧ ts[j]? = some y ∧ (∀ (m : Nat) (z : Str), m < j → ts[m]? = some z → z ≠ y) ∧ Q (.int (j : Nat)) S
  | _, _ => False
theorem md_index : MtD X "list.index" mIndex := by
  intro pins s σ H x xs v us Q I rx rs h
  obtain ⟨d, ds, S, Q0, hx, hxs, hs, h, q⟩ := h
  unfold mIndex at h
  split at h
  · rename_i a y
    cases (show x = .ref a from hx)
    obtain ⟨w, rfl, ry⟩ := hxs.one
    cases (show w = .str y from ry)
    obtain ⟨ts, j, e, ej, hno, h⟩ := h
    obtain ⟨vs, h1, hd⟩ := hs.lst e
    cases hd.strs
    have ev : ∀ a b : Str, eqV (.str a) (.str b) = decide (a = b) := fun a b => by
      by_cases c : a = b
      · subst c; simp [eqV]
      · simp [eqV, c]
    refine mt_index pins s σ H _ _ v us Q I rx rs ⟨a, ts.map V.str, .str y, j, .str y, rfl, rfl, SqL.of h1, rfl, flat_texts ts, by rw [List.getElem?_map, ej]; rfl, by rw [ev]; simp, fun m z hm e => ?_, q _ _ _ _ h .refl rfl hs⟩
    rw [List.getElem?_map] at e
    cases c : ts[m]? with
    | none => rw [c] at e; cases e
    | some t =>
      rw [c] at e
      cases e
      rw [ev]
      exact decide_eq_false (hno m t hm c)
  · cases h
/-- x in t, t a tuple, both data -/
def oInP : R2D := fun x y S Q => match y with
  | .tup ds => ∃ p ps, PD S x p ∧ PDs S ds ps ∧ SeqAt.shaped p = true ∧ SeqAt.shaped (.tuple ps) = true ∧ (∀ q ∈ ps, SeqAt.noMix q p = true) ∧ Q (.bl (ps.any fun q => PyData.eqv q p)) S
  | _ => False
theorem od_inP (hu : X.A.units + 65 < cLine) : OpD X (compareOp .In) oInP := by
  intro pins s σ H x y v u Q I rx ry h
  obtain ⟨dx, dy, S, Q0, hx, hy, hs, h, q⟩ := h
  unfold oInP at h
  split at h
  · obtain ⟨p, ps, h1, h2, h3, h4, h5, h⟩ := h
    obtain ⟨as, r1⟩ := Dp.reads I _ _ _ (PD.dp hs _ _ _ h1 hx) rx
    obtain ⟨bs, r2⟩ := Dp.reads I _ _ _ (PD.dp hs _ _ _ (.tup h2) hy) ry
    exact in_tuple_dataH r2 r1 h4 h3 hu h5 (by rw [← any_eqv_countIn _ _ h5]; exact ⟨.bl _, H, I, rfl, q _ _ _ _ h .refl rfl hs⟩)
  · cases h
/-- list(range(n)) -/
def tLRg (ta : TED) : TED := fun δ S Q => ta δ S fun x S1 => ∃ n : Nat, x = .int (n : Nat) ∧ n ≤ 10000 ∧ ∀ q, S1 q = none → Q (.ref q) (put S1 q (.lst ((List.range n).map fun i : Nat => D.int (i : Nat))))
variable {a : Expr} {ta : TED} {p p2 pos pos2 : Pos}
theorem de_listRg (hc : X.calm = true) (hg : Gl X "list") (hm : X.mg "list" = none) (hg2 : Gl X "range") (hm2 : X.mg "range" = none) (ha : DE X a ta)
    (n1 : starEach [a] X.env = (false, eval a X.env) :: starEach [] X.env := by rfl) (n2 : starEach [.Call (.Name "range" p2) [a] [] pos2] X.env = (false, eval (.Call (.Name "range" p2) [a] [] pos2) X.env) :: starEach [] X.env := by rfl) :
    DE X (.Call (.Name "list" p) [.Call (.Name "range" p2) [a] [] pos2] [] pos) (tLRg ta) := PEi (pe_listRg hc hg hm (prg_1 hg2 hm2 ha n1) n2) fun σ H Q h => by
  obtain ⟨δ, S, Q0, h1, h2, h3, h4⟩ := h
  refine ⟨δ, S, _, h1, h2, h3, fun x S1 v H1 q e1 r1 s1 => ?_⟩
  obtain ⟨n, rfl, hn, q⟩ := q
  refine ⟨n, r1, ?_, fun q' nq => ?_⟩
  · exact RgOk.of_le (by omega) (by omega) (by omega) (by omega)
  · have er : rgV 0 (n : Int) = ((List.range n).map fun i : Nat => V.int (i : Nat)) := by
      unfold rgV
      simp
    rw [er]
    exact h4 _ _ _ _ (q q' (s1.free nq)) (e1.trans (Ext.new nq)) rfl (s1.newLst nq (RDs.of_map (f := fun i : Nat => D.int (i : Nat)) (g := fun i : Nat => V.int (i : Nat)) (fun _ => rfl) _))
end
end DL

set_option Elab.async false
set_option maxRecDepth 100000
set_option linter.unusedVariables false
/-! DLq: chains of comparisons; join, upper, insert, pop(i), extend; max of a list; dicts displayed. -/
namespace DL
open PySem PySem.Spec PyProof.Rows L2
section
variable {X : Cx} {pos : Pos} {a b c : Expr} {ta tb tc : TED}
/-- a op b op c -/
def tChainD (r r' : R2D) (ta tb tc : TED) : TED := fun δ S Q => ta δ S fun x S1 => tb δ S1 fun y S2 => r x y S2 fun z S3 => match z with
  | .bl k => if k = true then tc δ S3 fun w S4 => r' y w S4 Q else Q (.bl false) S3
  | _ => False
theorem chain_lift {r r' : R2D} {σ : L2.St} {H : Hp} {Q : VK} (h : liftE X.K (tChainD r r' ta tb tc) σ H Q) : tChain (lift2 X.K r) (lift2 X.K r') (liftE X.K ta) (liftE X.K tb) (liftE X.K tc) σ H Q := by
  obtain ⟨δ, S, Q0, h1, h2, h3, h4⟩ := h
  refine ⟨δ, S, _, h1, h2, h3, fun x S1 v H1 q e1 r1 s1 => ⟨δ, S1, _, h1.ext e1, s1, q, fun y S2 w H2 q2 e2 r2 s2 => ⟨x, y, S2, _, r1.ext e2, r2, s2, q2, fun z S3 u H3 q3 e3 r3 s3 => ?_⟩⟩⟩
  have e13 := e1.trans (e2.trans e3)
  cases z with
  | bl k =>
    refine ⟨k, r3, ?_⟩
    cases k with
    | false => exact h4 _ _ _ _ q3 e13 rfl s3
    | true =>
      rw [if_pos rfl]
      exact ⟨δ, S3, _, h1.ext e13, s3, q3, fun w' S4 u' H4 q4 e4 r4 s4 => ⟨y, w', S4, Q0, r2.ext (e3.trans e4), r4, s4, q4, fun d S' v' H' q5 e5 r5 s5 => h4 d S' v' H' q5 (e13.trans (e4.trans e5)) r5 s5⟩⟩
  | _ => cases q3
theorem de_chain {op op' : CmpOp} {r r' : R2D} (ho : OpD X (compareOp op) r) (ho' : OpD X (compareOp op') r') (ha : DE X a ta) (hb : DE X b tb) (hc : DE X c tc)
    (hm : lastMarks [op, op'] [b, c] = false := by with_unfolding_all rfl) : DE X (.Compare a [op, op'] [b, c] pos) (tChainD r r' ta tb tc) := PEi (pe_chain ho ho' ha hb hc hm) fun _ _ _ h => chain_lift h
theorem dt_chain {op op' : CmpOp} {r r' : R2D} (ho : OpD X (compareOp op) r) (ho' : OpD X (compareOp op') r') (ha : DE X a ta) (hb : DE X b tb) (hc : DE X c tc)
    (hm : lastMarks [op, op'] [b, c] = false := by with_unfolding_all rfl) : DT X (.Compare a [op, op'] [b, c] pos) (tTestD (tChainD r r' ta tb tc)) := PTi (pt_chain ho ho' ha hb hc hm) fun σ H Q h => by
  obtain ⟨k, S, Q0, h1, h2, h3, h4⟩ := test_lift h
  exact chain_lift (X := X) ⟨k, S, Q0, h1, h2, h3, h4⟩
end
section
variable {X : Cx}
def seqT (S : Store) : D → Option (List D)
  | .tup ds => some ds
  | .ftup ds => some ds
  | d => seqAt S d
theorem seqT_sq {K : PySem.W.Frag} {H : Hp} {S : Store} {d : D} {ds : List D} {v : V} (h : seqT S d = some ds) (r : RD K H d v) (s : RS K H S) : ∃ a vs, v = .ref a ∧ (SqL K H a vs ∨ SqT K H a vs) ∧ RDs K H ds vs := by
  cases d with
  | tup es =>
    obtain ⟨p, vs, rfl, ht, hd⟩ := r
    cases h
    exact ⟨p, vs, rfl, .inr ht, hd⟩
  | ftup es =>
    obtain ⟨p, vs, rfl, ht, hd⟩ := r
    cases h
    exact ⟨p, vs, rfl, .inr ht.sq, hd⟩
  | rol es => obtain ⟨a, vs, e, q, hd⟩ := seqAt_sq (d := .rol es) h r s; exact ⟨a, vs, e, .inl q, hd⟩
  | ref b => obtain ⟨a, vs, e, q, hd⟩ := seqAt_sq (d := .ref b) h r s; exact ⟨a, vs, e, .inl q, hd⟩
  | _ => cases h
/-- s.join(xs), xs a list or tuple of texts -/
def mJoin : RMD := fun x xs S Q => match x, xs with
  | .str a, [d] => ∃ ys : List Str, seqT S d = some (ys.map D.str) ∧ (ys.map (·.length)).sum + ys.length * a.length ≤ 16777216 ∧ Q (.str (Txt.join a ys)) S
  | _, _ => False
theorem md_join : MtD X "str.join" mJoin := by
  intro pins s σ H x xs v us Q I rx rs h
  obtain ⟨d, ds, S, Q0, hx, hxs, hs, h, q⟩ := h
  unfold mJoin at h
  split at h
  · cases (show x = .str _ from hx)
    obtain ⟨w, rfl, ry⟩ := hxs.one
    obtain ⟨ys, e, hz, h⟩ := h
    obtain ⟨p, vs, rfl, hq, hd⟩ := seqT_sq e ry hs
    cases hd.strs
    exact mt_join pins s σ H _ _ v us Q I rx rs ⟨_, p, ys, rfl, rfl, hq, hz, q _ _ _ _ h .refl rfl hs⟩
  · cases h
def mUpper : RMD := fun x xs S Q => match x, xs with
  | .str a, [] => a.length ≤ 5592405 ∧ Q (.str (Txt.upper a)) S
  | _, _ => False
theorem md_upper : MtD X "str.upper" mUpper := by
  intro pins s σ H x xs v us Q I rx rs h
  obtain ⟨d, ds, S, Q0, hx, hxs, hs, h, q⟩ := h
  unfold mUpper at h
  split at h
  · cases (show x = .str _ from hx)
    cases (show xs = [] from hxs)
    exact mt_upper pins s σ H _ _ v us Q I rx rs ⟨_, rfl, rfl, h.1, q _ _ _ _ h.2 .refl rfl hs⟩
  · cases h
def mInsert : RMD := fun x xs S Q => match x, xs with
  | .ref a, [.int i, d] => ∃ ds, S a = some (.lst ds) ∧ ds.length < sizeLine ∧ 0 ≤ i ∧ i < 2 ^ 63 ∧ Q .non (put S a (.lst (ds.take i.toNat ++ [d] ++ ds.drop i.toNat)))
  | _, _ => False
theorem md_insert : MtD X "list.insert" mInsert := by
  intro pins s σ H x xs v us Q I rx rs h
  obtain ⟨d, ds, S, Q0, hx, hxs, hs, h, q⟩ := h
  unfold mInsert at h
  split at h
  · cases (show x = .ref _ from hx)
    obtain ⟨w, u, rfl, r1, r2⟩ := hxs.two
    cases (show w = .int _ from r1)
    obtain ⟨es, e, hl, h0, h1, h⟩ := h
    obtain ⟨vs, hv, hd⟩ := hs.lst e
    refine mt_insert pins s σ H _ _ v us Q I rx rs ⟨_, vs, _, u, rfl, rfl, hv, by rw [hd.length]; exact hl, h0, h1, ?_⟩
    exact q _ _ _ _ h (Ext.put hv trivial) rfl (hs.put hv trivial ⟨_, upd_same, (((hd.take _).snoc r2).append (hd.drop _)).ext (Ext.put hv trivial)⟩)
  · cases h
def mPopAt : RMD := fun x xs S Q => match x, xs with
  | .ref a, [.int i] => ∃ ds k y, S a = some (.lst ds) ∧ -(2 ^ 63) ≤ i ∧ i < 2 ^ 63 ∧ seqIndex? i ds.length = some k ∧ ds[k]? = some y ∧ Q y (put S a (.lst (ds.eraseIdx k)))
  | _, _ => False
theorem md_popAt : MtD X "list.pop" mPopAt := by
  intro pins s σ H x xs v us Q I rx rs h
  obtain ⟨d, ds, S, Q0, hx, hxs, hs, h, q⟩ := h
  unfold mPopAt at h
  split at h
  · cases (show x = .ref _ from hx)
    obtain ⟨w, rfl, r1⟩ := hxs.one
    cases (show w = .int _ from r1)
    obtain ⟨es, k, y, e, h0, h1, hk, hy, h⟩ := h
    obtain ⟨vs, hv, hd⟩ := hs.lst e
    obtain ⟨z, ez, rz⟩ := hd.get hy
    refine mt_popAt pins s σ H _ _ v us Q I rx rs ⟨_, vs, _, k, z, rfl, rfl, hv, h0, h1, by rw [hd.length]; exact hk, ez, ?_⟩
    exact q _ _ _ _ h (Ext.put hv trivial) (rz.ext (Ext.put hv trivial)) (hs.put hv trivial ⟨_, upd_same, (hd.eraseIdx k).ext (Ext.put hv trivial)⟩)
  · cases h
def mExtend : RMD := fun x xs S Q => match x, xs with
  | .ref a, [.ref b] => ∃ ds es, S a = some (.lst ds) ∧ S b = some (.lst es) ∧ ds.length + es.length ≤ sizeLine ∧ Q .non (put S a (.lst (ds ++ es)))
  | _, _ => False
theorem md_extend : MtD X "list.extend" mExtend := by
  intro pins s σ H x xs v us Q I rx rs h
  obtain ⟨d, ds, S, Q0, hx, hxs, hs, h, q⟩ := h
  unfold mExtend at h
  split at h
  · cases (show x = .ref _ from hx)
    obtain ⟨w, rfl, r1⟩ := hxs.one
    cases (show w = .ref _ from r1)
    obtain ⟨ds, es, e1, e2, hl, h⟩ := h
    obtain ⟨vs, hv, hd⟩ := hs.lst e1
    obtain ⟨ws, hw, hf⟩ := hs.lst e2
    refine mt_extend pins s σ H _ _ v us Q I rx rs ⟨_, _, vs, ws, rfl, rfl, hv, hw, by rw [hd.length, hf.length]; exact hl, ?_⟩
    exact q _ _ _ _ h (Ext.put hv trivial) rfl (hs.put hv trivial ⟨_, upd_same, (hd.append hf).ext (Ext.put hv trivial)⟩)
  · cases h
/-- max of a list of whole numbers -/
def oMaxL : RAD := fun xs S Q => match xs with
  | [d] => ∃ ns : List Int, seqAt S d = some (ns.map D.int) ∧ 0 < ns.length ∧ ∀ m, m ∈ ns → (∀ y, y ∈ ns → y ≤ m) → Q (.int m) S
  | _ => False
theorem cd_maxL (hc : X.calm = true) : CallD X (.builtin "max") oMaxL := by
  intro pins s σ H xs us Q I rs h
  obtain ⟨ds, S, Q0, hx, hs, h, q⟩ := h
  unfold oMaxL at h
  split at h
  · obtain ⟨v, rfl, e⟩ := hx.one
    obtain ⟨ns, e1, hl, h⟩ := h
    obtain ⟨a, vs, rfl, hq, hd⟩ := seqAt_sq e1 e hs
    cases hd.ints
    exact cr_max hc pins s σ H _ us Q I rs ⟨a, ns, rfl, hq, hl, fun m hm hle => q _ _ _ _ (h m hm hle) .refl rfl hs⟩
  · cases h
end
end DL

set_option Elab.async false
set_option maxRecDepth 100000
set_option linter.unusedVariables false
/-! DLr: enumerate and zip over lists and tuples. -/
namespace DL
open PySem PySem.Spec PyProof.Rows L2
/-- a list (k) or a tuple -/
def SqK (k : Bool) (K : PySem.W.Frag) (H : Hp) (a : Addr) (xs : List V) : Prop := if k = true then SqL K H a xs else SqT K H a xs
def IterK (k : Bool) (h : Heap) (it a : Addr) (i : Nat) : Prop := if k = true then h.IsListIter it a i else h.IsTupleIter it a i
def IsK (k : Bool) (h : Heap) (a : Addr) (items : Array Value) : Prop := if k = true then h.IsList a items else h.IsTuple a items
section
variable {P : Program} {w : World} {A : Around}
theorem drawsK (k : Bool) (hh : A.handled = none) (it l : Addr) (hne : l ≠ it) (items : Array Value) : Draws P w A it [it, l] items.size (fun i v => items[i]? = some v) (fun i h => IterK k h it l i ∧ IsK k h l items) := by
  cases k
  · exact Draws.tuple hh it l hne items
  · exact Draws.list hh it l hne items
theorem IterK.ex {k : Bool} {h : Heap} {it a : Addr} {i : Nat} (x : IterK k h it a i) : ∃ o c, h.get? it = some o ∧ o.data = .fields c := by
  cases k
  · obtain ⟨o, e, _, d⟩ := (show h.IsTupleIter it a i from x); exact ⟨o, _, e, d⟩
  · obtain ⟨o, e, _, d⟩ := (show h.IsListIter it a i from x); exact ⟨o, _, e, d⟩
theorem IterK.at {k : Bool} {h h' : Heap} {it a : Addr} {i : Nat} (x : IterK k h it a i) (q : ∀ o, h.get? it = some o → h'.get? it = some o) : IterK k h' it a i := by
  cases k
  · exact Heap.IsTupleIter.at (show h.IsTupleIter it a i from x) q
  · exact Heap.IsListIter.at (show h.IsListIter it a i from x) q
end
section
variable {X : Cx}
theorem inv_seq {k : Bool} {pins : List (Addr × Obj)} {s : Shared} {σ : L2.St} {H : Hp} {a : Addr} {xs : List V} (I : Inv X pins σ H s) (h : SqK k X.K H a xs) : ∃ its : List Value, Vals xs its ∧ IsK k s.heap a its.toArray ∧ a < s.heap.objs.size := by
  cases k
  · obtain ⟨its, rv, p, _⟩ := I.tuple (show SqT X.K H a xs from h)
    obtain ⟨o, ho, _⟩ := id p
    exact ⟨its, rv, p, Heap.lt_size ho⟩
  · obtain ⟨its, rv, p, _⟩ := I.list (show SqL X.K H a xs from h)
    exact ⟨its, rv, p.isList, p.lt⟩
theorem sq_inj {k : Bool} {pins : List (Addr × Obj)} {s : Shared} {σ : L2.St} {H : Hp} {a : Addr} {xs ys : List V} (I : Inv X pins σ H s) (h : SqK k X.K H a xs) (g : SqK k X.K H a ys) : xs = ys := by
  cases k
  · exact I.tuple_inj h g
  · exact I.list_inj h g
end
/-- enumerate -/
def IteK (k : Bool) (K : PySem.W.Frag) (a : Addr) : It :=
  ⟨fun i H => ∃ (xs : List V) (x : V), SqK k K H a xs ∧ xs[i]? = some x, fun i H v H' => ∃ T x, v = .ref T ∧ H T = none ∧ H' = upd H T (.tup [.int (i : Nat), x]) ∧ ∀ xs, SqK k K H a xs → xs[i]? = some x, fun i H => ∃ xs : List V, SqK k K H a xs ∧ xs.length = i⟩
theorem turn_enumK {P : Program} {w : World} {K : PySem.W.Frag} {elts : List Expr} {kk : Nat} {tpos : Pos} (k : Bool) (a e it : Addr) (ha : a ≠ it) (hea : e ≠ a) :
    Turn P w K (.Tuple elts kk tpos) (IteK k K a) [e, it] e (fun i h => (∃ old, IsEnum h e it ((i : Nat) : Int) old) ∧ IterK k h it a i ∧ e ≠ it) where
  mem := by simp
  obj := fun i h st b hb => by
    obtain ⟨⟨old, he⟩, hi, _⟩ := st
    obtain ⟨o, c, ho, hd⟩ := hi.ex
    have e' : b = e ∨ b = it := by simpa using hb
    rcases e' with z | z
    · rw [z]; exact ⟨_, he, fun v q => nomatch q⟩
    · rw [z]; exact ⟨o, ho, fun v q => by rw [hd] at q; cases q⟩
  keep := fun i h h' st k => let ⟨⟨old, he⟩, hi, hne⟩ := st; ⟨⟨old, k e (by simp) _ he⟩, hi.at fun o q => k it (by simp) o q, hne⟩
  item := by
    intro X hP hw hK hc i pins s σ H E I hf st hg
    subst hP hw hK
    obtain ⟨⟨old, he⟩, hit, hne⟩ := st
    obtain ⟨xs, x, hq, hx⟩ := hg
    obtain ⟨its, rv, p, hz⟩ := inv_seq I hq
    obtain ⟨u, hu, ru⟩ := rv.get hx
    have hel : e < s.heap.objs.size := Heap.lt_size he
    have hil : it < s.heap.objs.size := by obtain ⟨_, _, q, _⟩ := hit.ex; exact Heap.lt_size q
    have hlt : i < its.toArray.size := by
      rcases Nat.lt_or_ge i its.toArray.size with z | z
      · exact z
      · rw [List.getElem?_eq_none (by simpa using z)] at hu; cases hu
    refine wpAny_pyNext_enum_itemD (drawsK k (show X.A.in1.handled = none from I.ok.hd hc) it a ha its.toArray) he ⟨hit, p⟩ hlt hne (by simp [hne, hea]) fun u' h' tk hP ho hit' hT hsz hk => ?_
    have eu : u' = u := by
      have h2 : its.toArray[i]? = some u := by simpa using hu
      rw [h2] at hP
      exact (Option.some.inj hP).symm
    subst eu
    refine ⟨_, rfl, wpAny_letOwnedTupleGo_enum (s := { s with heap := h', toks := tk + 1 }) ho fun h'' he' sb => ?_⟩
    have hT2 : h''.get? s.heap.objs.size = some { cls := .type "tuple", data := .seq #[.int i tk, u'] } := (sb.2 _ (Nat.ne_of_gt hel)).trans hT
    have new : ObjOk X.prog X.w (upd H s.heap.objs.size (.tup [.int (i : Nat), x])) h'' s.heap.objs.size (.tup [.int (i : Nat), x]) :=
      ⟨by show 2 ≤ sizeLine; decide, [.int i tk, u'], .cons ⟨_, rfl⟩ (.cons ru .nil), ⟨_, hT2, rfl, _, rfl⟩⟩
    have I1 : Inv X pins σ (upd H s.heap.objs.size (.tup [.int (i : Nat), x])) { s with heap := h'', toks := tk + 1 } :=
      I.turnedNew (ch := [e, it]) (fun b ob hb q => (sb.2 b (fun z => hb (by simp [z]))).trans (hk b ob (fun z => hb (by simp [z])) (fun z => hb (by simp [z])) q)) hf (Nat.le_refl _) new
    refine ⟨.ref s.heap.objs.size, _, I1, rfl, ⟨_, x, rfl, I.hok.fresh (Nat.le_refl _), rfl, fun ys hy => by rw [sq_inj I hy hq]; exact hx⟩, ⟨⟨u', ?_⟩, hit'.1.at fun o q => (sb.2 it (Ne.symm hne)).trans q, hne⟩, fun b hb => ?_⟩
    · have e1 : ((i + 1 : Nat) : Int) = (i : Int) + 1 := by omega
      rw [e1]; exact he'
    · have hb' : b < s.heap.objs.size := by
        have e' : b = e ∨ b = it := by simpa using hb
        rcases e' with z | z
        · rw [z]; exact hel
        · rw [z]; exact hil
      rw [upd_ne (Nat.ne_of_lt hb')]
      exact (hf b hb).1
  done := by
    intro X hP hw hK hc i pins s σ H E I hf st hg
    subst hP hw hK
    obtain ⟨⟨old, he⟩, hit, hne⟩ := st
    obtain ⟨xs, hq, hx⟩ := hg
    obtain ⟨its, rv, p, hz⟩ := inv_seq I hq
    obtain ⟨f0, f1, f2, f3, f4, f5⟩ := hf it (by simp)
    have hl := rv.length
    have hsz : its.toArray.size = i := by simp; omega
    exact wpAny_pyNext_enum_endD (drawsK k (show X.A.in1.handled = none from I.ok.hd hc) it a ha its.toArray) he (by rw [hsz]; exact ⟨hit, p⟩) fun h' eb => ⟨rfl, I.turned (t' := s.toks) (fun b o hb q => eb b o hb q) f0 f1 f3 f4 f5⟩
  self := fun A i s Q E st h => let ⟨⟨_, he⟩, _⟩ := st; wpAny_pyIter_enum he h
theorem meets_enumerate_newT (l : Addr) (items : Array Value) :
    Meets (Builtin.«enumerate.__new__» ⟨[.type "enumerate", .ref l], []⟩) (fun _ R s => s.heap.IsTuple l items ∧
      R (.ok (.ret (.ref (s.heap.push { cls := .type "tuple_iterator", data := .fields #[.ref l, .int 0 0] }).objs.size)))
        { s with heap := (s.heap.push { cls := .type "tuple_iterator", data := .fields #[.ref l, .int 0 0] }).push { cls := .type "enumerate", data := .fields #[.none, .bool false, .ref s.heap.objs.size, rawInt 0, .none, .none] } }) :=
  .of_wp fun prog w A R s h => by
    obtain ⟨hp, g, d, tk, os⟩ := s; obtain ⟨hl, h⟩ := h
    have hsub := sub_enumerate
    have hL : Heap.IsTuple (Shared.heap ⟨hp, g, d, tk, os⟩) l items := hl
    obtain ⟨⟨c, dct, dt, sl⟩, hl', hc, n, hd⟩ := hl
    replace hc : c = .type "tuple" := hc
    replace hd : dt = .seq items n := hd
    subst hc hd
    wp_walk using AutoSeq1.wpAny_loadPart' hl'
    refine wpAny_stack_any fun st => wpAny_pure ?_
    split
    · rename_i c _ _ _ _ _
      cases (c == Value.type "enumerate")
      · wp_walk using AutoSeq1.wpAny_loadPart' hl', wpAny_pyIter_tuple hL
        exact ⟨_, rfl, h⟩
      · wp_walk using AutoSeq1.wpAny_loadPart' hl', wpAny_pyIter_tuple hL
        exact ⟨_, rfl, h⟩
    · wp_walk using AutoSeq1.wpAny_loadPart' hl', wpAny_pyIter_tuple hL
      exact ⟨_, rfl, h⟩
section
variable {prog : Program} {w : World} {A : Around} {E : Value → Shared → Prop} {s : Shared}
theorem call_enumerateK (k : Bool) {l : Addr} {items : Array Value} {Q : Value → Shared → Prop} (hL : IsK k s.heap l items)
    (h : ∀ h', IsEnum h' (s.heap.objs.size + 1) s.heap.objs.size 0 .none → IterK k h' s.heap.objs.size l 0 → h'.objs.size = s.heap.objs.size + 2 →
      (∀ b o, s.heap.get? b = some o → h'.get? b = some o) → Q (.ref (s.heap.objs.size + 1)) { s with heap := h' }) :
    wpAny (model prog w) A (call (.type "enumerate") [.ref l]) Q E s := by
  cases k
  · refine callType_new F.called_enumerate (by decide) (F.typeCall_enumerate_1 _) (F.newCall_enumerate_1 _) (fun obj => F.args_object_init_2 obj _) F.entry_enumerate_new
      (meets_enumerate_newT l items) ⟨hL, ?_⟩
    have hz : (s.heap.push { cls := .type "tuple_iterator", data := .fields #[.ref l, .int 0 0] }).objs.size = s.heap.objs.size + 1 := Heap.size_push ..
    show _ ∧ _
    rw [hz]
    have he : IsEnum ((s.heap.push { cls := .type "tuple_iterator", data := .fields #[.ref l, .int 0 0] }).push
        { cls := .type "enumerate", data := .fields #[.none, .bool false, .ref s.heap.objs.size, rawInt 0, .none, .none] }) (s.heap.objs.size + 1) s.heap.objs.size 0 .none := by
      have := Heap.get?_push_size (s.heap.push { cls := .type "tuple_iterator", data := .fields #[.ref l, .int 0 0] })
        (o := { cls := .type "enumerate", data := .fields #[.none, .bool false, .ref s.heap.objs.size, rawInt 0, .none, .none] }) rfl
      rw [hz] at this; exact this
    exact ⟨⟨_, he, rfl⟩, h _ he ⟨_, Heap.get?_push_of_some _ (Heap.get?_push_size _ rfl), rfl, rfl⟩ (by rw [Heap.size_push, hz]) fun b o x => Heap.get?_push_of_some _ (Heap.get?_push_of_some _ x)⟩
  · exact call_enumerate_list hL h
end
section
variable {X : Cx}
theorem pi_enumK {e : Expr} {ta : TA} {p pos tpos : Pos} {elts : List Expr} {kk : Nat} (hg : Gl X "enumerate") (hm : X.mg "enumerate" = none) (ha : PA X [e] ta) (hs : starEach [e] X.env = [(false, eval e X.env)] := by rfl) :
    PI X (.Tuple elts kk tpos) (.Call (.Name "enumerate" p) [e] [] pos) (fun σ H R => ta σ H fun vs H1 => ∃ k a xs, vs = [.ref a] ∧ SqK k X.K H1 a xs ∧ R (IteK k X.K a) H1) := by
  refine ⟨fun pins s σ H R I h => ?_⟩
  refine Call_ (ld_blt I hg hm boot_enumerate (PyProof.Rows.callWith_type1 (thn (ha.run pos pins s σ H _ I h) fun us s1 ⟨vs, H1, I1, r1, q1⟩ => ?_) hs rfl))
  obtain ⟨k, a, xs, ex, hq, q⟩ := q1
  subst ex
  cases r1 with
  | cons r rr =>
    cases rr
    cases r
    obtain ⟨its, rv, p', hz⟩ := inv_seq I1 hq
    refine call_enumerateK k p' fun h' he hit hsz hk => wpAny_pyIter_enum he ?_
    have I2 : Inv X pins σ H1 { s1 with heap := h' } := I1.kept (t' := s1.toks) hk
    refine ⟨s1.heap.objs.size + 1, [s1.heap.objs.size + 1, s1.heap.objs.size], _, _, H1, rfl, I2, turn_enumK k a (s1.heap.objs.size + 1) s1.heap.objs.size (Nat.ne_of_lt hz) (Nat.ne_of_gt (Nat.lt_succ_of_lt hz)), ⟨⟨.none, he⟩, hit, Nat.succ_ne_self _⟩, fun b hb => ?_, q⟩
    have e' : b = s1.heap.objs.size + 1 ∨ b = s1.heap.objs.size := by simpa using hb
    have hle : s1.heap.objs.size ≤ b := by
      rcases e' with z | z
      · rw [z]; exact Nat.le_add_right _ _
      · rw [z]; exact Nat.le_refl _
    exact I1.fpOk hle (I1.hok.fresh hle)
end
/-! ### zip -/
def ItzK (k k2 : Bool) (K : PySem.W.Frag) (a b : Addr) : It :=
  ⟨fun i H => ∃ (xs ys : List V) (x y : V), SqK k K H a xs ∧ SqK k2 K H b ys ∧ xs[i]? = some x ∧ ys[i]? = some y,
    fun i H v H' => ∃ T x y, v = .ref T ∧ H T = none ∧ H' = upd H T (.tup [x, y]) ∧ (∀ xs, SqK k K H a xs → xs[i]? = some x) ∧ ∀ ys, SqK k2 K H b ys → ys[i]? = some y,
    fun i H => ∃ xs ys : List V, SqK k K H a xs ∧ SqK k2 K H b ys ∧ i ≤ xs.length ∧ i ≤ ys.length ∧ (i = xs.length ∨ i = ys.length)⟩
theorem sep_of {z TI TO i1 i2 a b : Addr} (D : ZipApart z TI TO i1 i2 a b) : ZipSep2 z TI TO i1 i2 [i1, a] [i2, b] where
  TIz := D.TIz
  TOz := D.TOz
  TITO := D.TITO
  TIi1 := D.TIi1
  mem1 := by simp
  zf1 := by simp [Ne.symm D.i1z, Ne.symm D.l1z]
  Tf1 := by simp [D.TOi1, Ne.symm D.l1TO]
  TIi2 := D.TIi2
  mem2 := by simp
  zf2 := by simp [Ne.symm D.i2z, Ne.symm D.l2z]
  Tf2 := by simp [D.TOi2, Ne.symm D.l2TO]
  sep1_2 := by simp [D.i12, Ne.symm D.l2i1]
  sep2_1 := by simp [Ne.symm D.i12, Ne.symm D.l1i2]
theorem turn_zipK {P : Program} {w : World} {K : PySem.W.Frag} {elts : List Expr} {kk : Nat} {tpos : Pos} (k k2 : Bool) {a b z TI TO i1 i2 : Addr} (D : ZipApart z TI TO i1 i2 a b) :
    Turn P w K (.Tuple elts kk tpos) (ItzK k k2 K a b) [z, TI, TO, i1, i2] z (fun i h => IsZip h z TI TO .none ∧ IsPair h TI (.ref i1) (.ref i2) ∧ (∃ x y, IsPair h TO x y) ∧ IterK k h i1 a i ∧ IterK k2 h i2 b i) where
  mem := by simp
  obj := fun i h st c hc => by
    obtain ⟨hz, hTI, ⟨x, y, hTO⟩, h1, h2⟩ := st
    obtain ⟨o1, c1, e1, d1⟩ := h1.ex
    obtain ⟨o2, c2, e2, d2⟩ := h2.ex
    have e' : c = z ∨ c = TI ∨ c = TO ∨ c = i1 ∨ c = i2 := by simpa using hc
    rcases e' with q | q | q | q | q
    · rw [q]; exact ⟨_, hz, fun v q => nomatch q⟩
    · rw [q]; exact ⟨_, hTI, fun v q => nomatch q⟩
    · rw [q]; exact ⟨_, hTO, fun v q => nomatch q⟩
    · rw [q]; exact ⟨o1, e1, fun v q => by rw [d1] at q; cases q⟩
    · rw [q]; exact ⟨o2, e2, fun v q => by rw [d2] at q; cases q⟩
  keep := fun i h h' st k => by
    obtain ⟨hz, hTI, ⟨x, y, hTO⟩, h1, h2⟩ := st
    exact ⟨k z (by simp) _ hz, k TI (by simp) _ hTI, ⟨x, y, k TO (by simp) _ hTO⟩, h1.at fun o q => k i1 (by simp) o q, h2.at fun o q => k i2 (by simp) o q⟩
  item := by
    intro X hP hw hK hc i pins s σ H E I hf st hg
    subst hP hw hK
    obtain ⟨hz, hTI, ⟨x0, y0, hTO⟩, h1, h2⟩ := st
    obtain ⟨xs, ys, x, y, hqx, hqy, hx, hy⟩ := hg
    obtain ⟨its, rv, p, pa⟩ := inv_seq I hqx
    obtain ⟨its2, rv2, p2, pb⟩ := inv_seq I hqy
    obtain ⟨u, hu, ru⟩ := rv.get hx
    obtain ⟨u2, hu2, ru2⟩ := rv2.get hy
    have hzl : z < s.heap.objs.size := Heap.lt_size hz
    have lt1 : i < its.toArray.size := by
      rcases Nat.lt_or_ge i its.toArray.size with q | q
      · exact q
      · rw [List.getElem?_eq_none (by simpa using q)] at hu; cases hu
    have lt2 : i < its2.toArray.size := by
      rcases Nat.lt_or_ge i its2.toArray.size with q | q
      · exact q
      · rw [List.getElem?_eq_none (by simpa using q)] at hu2; cases hu2
    have hh : X.A.in1.handled = none := I.ok.hd hc
    refine wpAny_pyNext_zipD2_item (sep_of D) (drawsK k hh i1 a D.l1i1 its.toArray) (drawsK k2 hh i2 b D.l2i2 its2.toArray) hz hTI hTO ⟨h1, p⟩ ⟨h2, p2⟩ lt1 lt2 fun v1 v2 h' tk hv1 hv2 z' TO' h1' h2' hT hsz hk => ?_
    have ev1 : v1 = u := by
      have h2 : its.toArray[i]? = some u := by simpa using hu
      rw [h2] at hv1
      exact (Option.some.inj hv1).symm
    have ev2 : v2 = u2 := by
      have h2 : its2.toArray[i]? = some u2 := by simpa using hu2
      rw [h2] at hv2
      exact (Option.some.inj hv2).symm
    subst ev1 ev2
    refine ⟨_, rfl, wpAny_letOwnedTupleGo_zip (s := { s with heap := h', toks := tk }) z' fun h'' z'' sb => ?_⟩
    have hT2 : h''.get? s.heap.objs.size = some { cls := .type "tuple", data := .seq #[v1, v2] } := (sb.2 _ (Nat.ne_of_gt hzl)).trans hT
    have new : ObjOk X.prog X.w (upd H s.heap.objs.size (.tup [x, y])) h'' s.heap.objs.size (.tup [x, y]) :=
      ⟨by show 2 ≤ sizeLine; decide, [v1, v2], .cons ru (.cons ru2 .nil), ⟨_, hT2, rfl, _, rfl⟩⟩
    have I1 : Inv X pins σ (upd H s.heap.objs.size (.tup [x, y])) { s with heap := h'', toks := tk } :=
      I.turnedNew (ch := [z, TI, TO, i1, i2]) (fun c o hb q => (sb.2 c (fun q' => hb (by simp [q']))).trans (hk c o (fun q' => hb (by simp [q'])) (fun q' => hb (by simp [q'])) (fun q' => hb (by simp [q'])) (fun q' => hb (by simp [q'])) q)) hf (Nat.le_refl _) new
    refine ⟨.ref s.heap.objs.size, _, I1, rfl, ⟨_, x, y, rfl, I.hok.fresh (Nat.le_refl _), rfl, fun l hl => by rw [sq_inj I hl hqx]; exact hx, fun l hl => by rw [sq_inj I hl hqy]; exact hy⟩, ⟨z'', ?_, ⟨v1, v2, ?_⟩, ?_, ?_⟩, fun c hcm => ?_⟩
    · exact (sb.2 _ D.TIz).trans (hk _ _ D.TIz D.TITO D.TIi1 D.TIi2 hTI)
    · exact (sb.2 _ D.TOz).trans TO'
    · exact h1'.1.at fun o q => (sb.2 _ D.i1z).trans q
    · exact h2'.1.at fun o q => (sb.2 _ D.i2z).trans q
    · have hlt : c < s.heap.objs.size := by
        have e' : c = z ∨ c = TI ∨ c = TO ∨ c = i1 ∨ c = i2 := by simpa using hcm
        rcases e' with q | q | q | q | q
        · rw [q]; exact hzl
        · rw [q]; exact Heap.lt_size hTI
        · rw [q]; exact Heap.lt_size hTO
        · rw [q]; obtain ⟨_, _, e1, _⟩ := h1.ex; exact Heap.lt_size e1
        · rw [q]; obtain ⟨_, _, e2, _⟩ := h2.ex; exact Heap.lt_size e2
      rw [upd_ne (Nat.ne_of_lt hlt)]
      exact (hf c hcm).1
  done := by
    intro X hP hw hK hc i pins s σ H E I hf st hg
    subst hP hw hK
    obtain ⟨hz, hTI, ⟨x0, y0, hTO⟩, h1, h2⟩ := st
    obtain ⟨xs, ys, hqx, hqy, l1, l2, hend⟩ := hg
    obtain ⟨its, rv, p, _⟩ := inv_seq I hqx
    obtain ⟨its2, rv2, p2, _⟩ := inv_seq I hqy
    have e1 := rv.length
    have e2 := rv2.length
    have hh : X.A.in1.handled = none := I.ok.hd hc
    refine wpAny_pyNext_zipD2_end (sep_of D) (drawsK k hh i1 a D.l1i1 its.toArray) (drawsK k2 hh i2 b D.l2i2 its2.toArray) hz hTI hTO ⟨h1, p⟩ ⟨h2, p2⟩ (by simp; omega) (by simp; omega) (by simp; omega) fun h' tk hk => ⟨rfl, I.turnedL (t' := tk) (ch := [z, TI, TO, i1, i2]) (fun c o hb q =>
      hk c o (fun q' => hb (by simp [q'])) (fun q' => hb (by simp [q'])) (fun q' => hb (by simp [q'])) (fun q' => hb (by simp [q'])) q) hf⟩
  self := fun A i s Q E st h => wpAny_pyIter_zip st.1 h
abbrev itTy (k : Bool) : String := if k = true then "list_iterator" else "tuple_iterator"
abbrev zH1 (k : Bool) (h : Heap) (l1 : Addr) : Heap := h.push { cls := .type (itTy k), data := .fields #[.ref l1, .int 0 0] }
abbrev zH2 (k k2 : Bool) (h : Heap) (l1 l2 : Addr) : Heap := (zH1 k h l1).push { cls := .type (itTy k2), data := .fields #[.ref l2, .int 0 0] }
abbrev zH3 (k k2 : Bool) (h : Heap) (l1 l2 : Addr) : Heap := (zH2 k k2 h l1 l2).push { cls := .type "tuple", data := .seq #[.ref h.objs.size, .ref (zH1 k h l1).objs.size] }
abbrev zH4 (k k2 : Bool) (h : Heap) (l1 l2 : Addr) : Heap := (zH3 k k2 h l1 l2).push { cls := .type "tuple", data := .seq #[.none, .none] }
abbrev zH5 (k k2 : Bool) (h : Heap) (l1 l2 : Addr) : Heap := (zH4 k k2 h l1 l2).push { cls := .type "zip", data := .fields #[.none, .bool false, .bool false, .ref (zH2 k k2 h l1 l2).objs.size, .ref (zH3 k k2 h l1 l2).objs.size] }
theorem pyIterK (k : Bool) {prog : Program} {w : World} {A : Around} {E : Value → Shared → Prop} {s : Shared} {l : Addr} {items : Array Value} {Q : Value → Shared → Prop} (h : IsK k s.heap l items)
    (hQ : Q (.ref s.heap.objs.size) { s with heap := s.heap.push { cls := .type (itTy k), data := .fields #[.ref l, .int 0 0] } }) : wpAny (model prog w) A (pyIter (.ref l)) Q E s := by
  cases k
  · exact wpAny_pyIter_tuple h hQ
  · exact wpAny_pyIter_list h hQ
theorem IsK.push {k : Bool} {h : Heap} {a : Addr} {items : Array Value} {o : Obj} (x : IsK k h a items) : IsK k (h.push o) a items := by
  cases k
  · exact Heap.IsTuple.push x o
  · exact Heap.IsList.push x o
theorem meets_zipK_new (k k2 : Bool) (l1 l2 : Addr) (xs ys : Array Value) :
    Meets (Builtin.«zip.__new__» ⟨[.type "zip", .ref l1, .ref l2], []⟩) (fun _ R s => IsK k s.heap l1 xs ∧ IsK k2 s.heap l2 ys ∧
      R (.ok (.ret (.ref (zH4 k k2 s.heap l1 l2).objs.size))) { s with heap := zH5 k k2 s.heap l1 l2 }) :=
  .of_wp fun prog w A R s h => by
    obtain ⟨hp, g, d, tk, os⟩ := s; obtain ⟨hl1, hl2, h⟩ := h
    have hsub := sub_zip
    have hL1 : IsK k (Shared.heap ⟨hp, g, d, tk, os⟩) l1 xs := hl1
    have hL2 : IsK k2 (Shared.heap ⟨hp.push { cls := .type (itTy k), data := .fields #[.ref l1, .int 0 0] }, g, d, tk, os⟩) l2 ys := IsK.push hl2
    wp_walk using pyIterK k hL1, pyIterK k2 hL2
    exact ⟨_, rfl, h⟩
theorem iterK_mk {k : Bool} {h : Heap} {it l : Addr} (g : h.get? it = some { cls := .type (itTy k), data := .fields #[.ref l, .int 0 0] }) : IterK k h it l 0 := by
  cases k
  · exact ⟨_, g, rfl, rfl⟩
  · exact ⟨_, g, rfl, rfl⟩
section
variable {prog : Program} {w : World} {A : Around} {E : Value → Shared → Prop} {s : Shared}
theorem call_zipK (k k2 : Bool) {l1 l2 : Addr} {xs ys : Array Value} {Q : Value → Shared → Prop} (hl1 : IsK k s.heap l1 xs) (hl2 : IsK k2 s.heap l2 ys)
    (h : ∀ h', IsZip h' (s.heap.objs.size + 4) (s.heap.objs.size + 2) (s.heap.objs.size + 3) .none → IsPair h' (s.heap.objs.size + 2) (.ref s.heap.objs.size) (.ref (s.heap.objs.size + 1)) →
      IsPair h' (s.heap.objs.size + 3) .none .none → IterK k h' s.heap.objs.size l1 0 → IterK k2 h' (s.heap.objs.size + 1) l2 0 → h'.objs.size = s.heap.objs.size + 5 →
      (∀ c o, s.heap.get? c = some o → h'.get? c = some o) → Q (.ref (s.heap.objs.size + 4)) { s with heap := h' }) :
    wpAny (model prog w) A (call (.type "zip") [.ref l1, .ref l2]) Q E s := by
  refine callType_new F.called_zip (by decide) (F.typeCall_zip_2 _ _) (F.newCall_zip_2 _ _) (fun obj => F.args_object_init_3 obj _ _) F.entry_zip_new
    (meets_zipK_new k k2 l1 l2 xs ys) ⟨hl1, hl2, ?_⟩
  have z1 : (zH1 k s.heap l1).objs.size = s.heap.objs.size + 1 := Heap.size_push ..
  have z2 : (zH2 k k2 s.heap l1 l2).objs.size = s.heap.objs.size + 2 := by rw [Heap.size_push, z1]
  have z3 : (zH3 k k2 s.heap l1 l2).objs.size = s.heap.objs.size + 3 := by rw [Heap.size_push, z2]
  have z4 : (zH4 k k2 s.heap l1 l2).objs.size = s.heap.objs.size + 4 := by rw [Heap.size_push, z3]
  have z5 : (zH5 k k2 s.heap l1 l2).objs.size = s.heap.objs.size + 5 := by rw [Heap.size_push, z4]
  have g5 : (zH5 k k2 s.heap l1 l2).get? (zH4 k k2 s.heap l1 l2).objs.size = some _ := Heap.get?_push_size _ rfl
  have g4 : (zH5 k k2 s.heap l1 l2).get? (zH3 k k2 s.heap l1 l2).objs.size = some _ := Heap.get?_push_of_some _ (Heap.get?_push_size _ rfl)
  have g3 : (zH5 k k2 s.heap l1 l2).get? (zH2 k k2 s.heap l1 l2).objs.size = some _ := Heap.get?_push_of_some _ (Heap.get?_push_of_some _ (Heap.get?_push_size _ rfl))
  have g2 : (zH5 k k2 s.heap l1 l2).get? (zH1 k s.heap l1).objs.size = some _ := Heap.get?_push_of_some _ (Heap.get?_push_of_some _ (Heap.get?_push_of_some _ (Heap.get?_push_size _ rfl)))
  have g1 : (zH5 k k2 s.heap l1 l2).get? s.heap.objs.size = some _ := Heap.get?_push_of_some _ (Heap.get?_push_of_some _ (Heap.get?_push_of_some _ (Heap.get?_push_of_some _ (Heap.get?_push_size _ rfl))))
  show _ ∧ _
  rw [z2, z3, z4] at g5
  rw [z1, z2] at g3
  rw [z3] at g4
  rw [z1] at g2
  rw [z4]
  exact ⟨⟨_, g5, rfl⟩, h _ g5 g3 g4 (iterK_mk g1) (iterK_mk g2) z5 fun c o x =>
    Heap.get?_push_of_some _ (Heap.get?_push_of_some _ (Heap.get?_push_of_some _ (Heap.get?_push_of_some _ (Heap.get?_push_of_some _ x))))⟩
end
section
variable {X : Cx}
theorem pi_zipK {e e2 : Expr} {ta : TA} {p pos tpos : Pos} {elts : List Expr} {kk : Nat} (hg : Gl X "zip") (hm : X.mg "zip" = none) (ha : PA X [e, e2] ta)
    (hs : starEach [e, e2] X.env = (false, eval e X.env) :: starEach [e2] X.env := by rfl) (hpl : (backTo pos (starEach [e2] X.env)).any (·.1) = false := by rfl) :
    PI X (.Tuple elts kk tpos) (.Call (.Name "zip" p) [e, e2] [] pos) (fun σ H R => ta σ H fun vs H1 => ∃ k k2 a b xs ys, vs = [.ref a, .ref b] ∧ SqK k X.K H1 a xs ∧ SqK k2 X.K H1 b ys ∧ R (ItzK k k2 X.K a b) H1) := by
  refine ⟨fun pins s σ H R I h => ?_⟩
  refine Call_ (ld_blt I hg hm PyProof.Rows.boot_zip (PyProof.Rows.callWith_type1 (thn (ha.run pos pins s σ H _ I h) fun us s1 ⟨vs, H1, I1, r1, q1⟩ => ?_) hs hpl))
  obtain ⟨k, k2, a, b, xs, ys, ex, hqx, hqy, q⟩ := q1
  subst ex
  cases r1 with
  | cons r rr =>
    cases rr with
    | cons r' rr =>
      cases rr
      cases r
      cases r'
      have fresh5 : ∀ c, c ∈ [s1.heap.objs.size + 4, s1.heap.objs.size + 2, s1.heap.objs.size + 3, s1.heap.objs.size, s1.heap.objs.size + 1] → FpOk X pins H1 c := fun c hcm => by
        have e' : c = s1.heap.objs.size + 4 ∨ c = s1.heap.objs.size + 2 ∨ c = s1.heap.objs.size + 3 ∨ c = s1.heap.objs.size ∨ c = s1.heap.objs.size + 1 := by simpa using hcm
        have hle : s1.heap.objs.size ≤ c := by
          rcases e' with z | z | z | z | z
          · rw [z]; exact Nat.le_add_right _ _
          · rw [z]; exact Nat.le_add_right _ _
          · rw [z]; exact Nat.le_add_right _ _
          · rw [z]; exact Nat.le_refl _
          · rw [z]; exact Nat.le_add_right _ _
        exact I1.fpOk hle (I1.hok.fresh hle)
      obtain ⟨its, rv, p1, pa⟩ := inv_seq I1 hqx
      obtain ⟨its2, rv2, p2, pb⟩ := inv_seq I1 hqy
      refine call_zipK k k2 p1 p2 fun h' hz hTI hTO h1 h2 hsz hk => wpAny_pyIter_zip hz ?_
      have I2 : Inv X pins σ H1 { s1 with heap := h' } := I1.kept (t' := s1.toks) hk
      exact ⟨s1.heap.objs.size + 4, [s1.heap.objs.size + 4, s1.heap.objs.size + 2, s1.heap.objs.size + 3, s1.heap.objs.size, s1.heap.objs.size + 1], _, _, H1, rfl, I2, turn_zipK k k2 (PySem.W.ktu_apart s1.heap.objs.size a b pa pb), ⟨hz, hTI, ⟨_, _, hTO⟩, h1, h2⟩, fresh5, q⟩
end
/-! ### over data -/
/-- what a walk takes from: the items at a turn -/
def srcJ (S : Store) : D → Option (List D)
  | .tup ds => some ds
  | .rol ds => some ds
  | .ref a => (match S a with
    | some (.lst ds) => some ds
    | _ => none)
  | _ => none
def enJ (d : D) : ItD := fun i S => (srcJ S d).bind fun ds => if i ≤ ds.length then some (ds[i]?.map fun x => .tup [.int (i : Nat), x]) else none
def zpJ (d e : D) : ItD := fun i S => (srcJ S d).bind fun ds => (srcJ S e).bind fun es => if i ≤ ds.length ∧ i ≤ es.length then some (ds[i]?.bind fun x => es[i]?.map fun y => .tup [x, y]) else none
section
variable {K : PySem.W.Frag} {H H1 : Hp} {S S1 : Store}
/-- where it stands -/
def kind : D → Bool
  | .tup _ => false
  | _ => true
theorem srcJ_at {d : D} {ds : List D} {v : V} (h : srcJ S d = some ds) (r : RD K H d v) (s : RS K H S) : ∃ a vs, v = .ref a ∧ SqK (kind d) K H a vs ∧ RDs K H ds vs := by
  cases d with
  | tup es => obtain ⟨p, vs, rfl, ht, hd⟩ := r; cases h; exact ⟨p, vs, rfl, ht, hd⟩
  | rol es => obtain ⟨p, vs, rfl, ht, hd⟩ := r; cases h; exact ⟨p, vs, rfl, ht.sq, hd⟩
  | ref a =>
    unfold srcJ at h
    dsimp only at h
    split at h
    · rename_i es e
      cases h
      obtain ⟨vs, h1, hd⟩ := s.lst e
      exact ⟨a, vs, r, SqL.of h1, hd⟩
    · cases h
  | _ => cases h
theorem ri_enum {d : D} {a : Addr} (r : RD K H1 d (.ref a)) : RI K H1 (enJ d) (IteK (kind d) K a) := fun i S H e s => by
  have r' := r.ext e
  unfold enJ
  cases es : srcJ S d with
  | none => exact ⟨fun q => (by cases q), fun d q => (by cases q)⟩
  | some ds =>
    obtain ⟨a', vs, ea, hq, hd⟩ := srcJ_at es r' s
    cases ea
    by_cases hi : i ≤ ds.length
    · rw [Option.bind_some, if_pos hi]
      refine ⟨fun q => ⟨vs, hq, ?_⟩, fun d' q => ?_⟩
      · have q' : (ds[i]?.map fun x => D.tup [.int (i : Nat), x]) = none := Option.some.inj q
        have q2 := List.getElem?_eq_none_iff.mp (Option.map_eq_none_iff.mp q')
        rw [hd.length]; omega
      · have q' : (ds[i]?.map fun x => D.tup [.int (i : Nat), x]) = some d' := Option.some.inj q
        obtain ⟨x, ex, rfl⟩ := Option.map_eq_some_iff.mp q'
        obtain ⟨v, ev, rv⟩ := hd.get ex
        refine ⟨⟨vs, v, hq, ev⟩, fun y H' hy => ?_⟩
        obtain ⟨T, x', rfl, nT, rfl, f⟩ := hy
        have := f vs hq
        rw [ev] at this
        cases this
        have ex : Ext K H (upd H T (.tup [.int (i : Nat), v])) := Ext.new nT
        exact ⟨ex, ⟨T, _, rfl, .inl (.inl upd_same), ⟨_, _, rfl, rfl, _, _, rfl, rv.ext ex, rfl⟩⟩, s.grow nT⟩
    · rw [Option.bind_some, if_neg hi]
      exact ⟨fun q => (by cases q), fun d q => (by cases q)⟩
theorem ri_zip {d e : D} {a b : Addr} (r : RD K H1 d (.ref a)) (r2 : RD K H1 e (.ref b)) : RI K H1 (zpJ d e) (ItzK (kind d) (kind e) K a b) := fun i S H ex s => by
  have r' := r.ext ex
  have r2' := r2.ext ex
  unfold zpJ
  cases es : srcJ S d with
  | none => exact ⟨fun q => (by cases q), fun d q => (by cases q)⟩
  | some ds =>
    cases es2 : srcJ S e with
    | none => exact ⟨fun q => (by cases q), fun d q => (by cases q)⟩
    | some fs =>
      obtain ⟨a', vs, ea, hq, hd⟩ := srcJ_at es r' s
      cases ea
      obtain ⟨b', ws, eb, hq2, hd2⟩ := srcJ_at es2 r2' s
      cases eb
      by_cases hi : i ≤ ds.length ∧ i ≤ fs.length
      · rw [Option.bind_some, Option.bind_some, if_pos hi]
        refine ⟨fun q => ⟨vs, ws, hq, hq2, by rw [hd.length]; exact hi.1, by rw [hd2.length]; exact hi.2, ?_⟩, fun d' q => ?_⟩
        · have q' := Option.some.inj q
          rw [hd.length, hd2.length]
          by_cases h1 : i < ds.length
          · rw [List.getElem?_eq_getElem h1, Option.bind_some] at q'
            have q2 := List.getElem?_eq_none_iff.mp (Option.map_eq_none_iff.mp q')
            omega
          · omega
        · have q' := Option.some.inj q
          obtain ⟨x, e1, q2⟩ := Option.bind_eq_some_iff.mp q'
          obtain ⟨y, e2, rfl⟩ := Option.map_eq_some_iff.mp q2
          obtain ⟨v, ev, rv⟩ := hd.get e1
          obtain ⟨u, eu, ru⟩ := hd2.get e2
          refine ⟨⟨vs, ws, v, u, hq, hq2, ev, eu⟩, fun z H' hy => ?_⟩
          obtain ⟨T, x', y', rfl, nT, rfl, f, g⟩ := hy
          have t1 := f vs hq
          rw [ev] at t1
          cases t1
          have t2 := g ws hq2
          rw [eu] at t2
          cases t2
          have ex2 : Ext K H (upd H T (.tup [v, u])) := Ext.new nT
          exact ⟨ex2, ⟨T, _, rfl, .inl (.inl upd_same), ⟨_, _, rfl, rv.ext ex2, _, _, rfl, ru.ext ex2, rfl⟩⟩, s.grow nT⟩
      · rw [Option.bind_some, Option.bind_some, if_neg hi]
        exact ⟨fun q => (by cases q), fun d q => (by cases q)⟩
end
section
variable {X : Cx} {e e2 : Expr} {ta : TAD} {p pos tpos : Pos} {elts : List Expr} {kk : Nat}
def tEnumD (ta : TAD) : TID := fun δ S R => ta δ S fun xs S1 => ∃ d ds, xs = [d] ∧ srcJ S1 d = some ds ∧ R (enJ d) S1
def tZipD (ta : TAD) : TID := fun δ S R => ta δ S fun xs S1 => ∃ d e ds es, xs = [d, e] ∧ srcJ S1 d = some ds ∧ srcJ S1 e = some es ∧ R (zpJ d e) S1
theorem di_enum (hg : Gl X "enumerate") (hm : X.mg "enumerate" = none) (ha : DA X [e] ta) (hs : starEach [e] X.env = [(false, eval e X.env)] := by rfl) :
    DI X (.Tuple elts kk tpos) (.Call (.Name "enumerate" p) [e] [] pos) (tEnumD ta) := PIi (pi_enumK hg hm ha hs) fun σ H R h => by
  obtain ⟨δ, S, R0, h1, h2, h3, h4⟩ := h
  refine ⟨δ, S, _, h1, h2, h3, fun xs S1 vs H1 q e1 r1 s1 => ?_⟩
  obtain ⟨d, ds, rfl, hd, q⟩ := q
  obtain ⟨v, rfl, rv⟩ := r1.one
  obtain ⟨a, ws, rfl, hq, _⟩ := srcJ_at hd rv s1
  exact ⟨kind d, a, ws, rfl, hq, h4 _ _ _ _ q e1 (ri_enum rv) s1⟩
theorem di_zip (hg : Gl X "zip") (hm : X.mg "zip" = none) (ha : DA X [e, e2] ta)
    (hs : starEach [e, e2] X.env = (false, eval e X.env) :: starEach [e2] X.env := by rfl) (hpl : (backTo pos (starEach [e2] X.env)).any (·.1) = false := by rfl) :
    DI X (.Tuple elts kk tpos) (.Call (.Name "zip" p) [e, e2] [] pos) (tZipD ta) := PIi (pi_zipK hg hm ha hs hpl) fun σ H R h => by
  obtain ⟨δ, S, R0, h1, h2, h3, h4⟩ := h
  refine ⟨δ, S, _, h1, h2, h3, fun xs S1 vs H1 q e1 r1 s1 => ?_⟩
  obtain ⟨d, e, ds, es, rfl, hd, he, q⟩ := q
  obtain ⟨v, u, rfl, rv, ru⟩ := r1.two
  obtain ⟨a, ws, rfl, hq, _⟩ := srcJ_at hd rv s1
  obtain ⟨b, us, rfl, hq2, _⟩ := srcJ_at he ru s1
  exact ⟨kind d, kind e, a, b, ws, us, rfl, hq, hq2, h4 _ _ _ _ q e1 (ri_zip rv ru) s1⟩
end
end DL

set_option Elab.async false
set_option maxRecDepth 100000
set_option linter.unusedVariables false
/-! DLs: dicts displayed; a dict of the module read; sorted keys; sorted(set(list of numbers)); defs as values. -/
namespace DL
open PySem PySem.Spec PyProof.Rows L2
/-! ### {k: v, ..} -/
def tPairsD : List (TED × TED) → StD → Store → (List (D × D) → Store → Prop) → Prop
  | [], _, S, Q => Q [] S
  | (tk, tv) :: r, δ, S, Q => tk δ S fun x S1 => tv δ S1 fun y S2 => tPairsD r δ S2 fun ps S3 => Q ((x, y) :: ps) S3
def liftP (K : PySem.W.Frag) (ts : List (TED × TED)) : List (TE × TE) := ts.map fun p => (liftE K p.1, liftE K p.2)
def RPs (K : PySem.W.Frag) (H : Hp) : List (D × D) → List (V × V) → Prop
  | [], vs => vs = []
  | (x, y) :: r, vs => ∃ v w t, vs = (v, w) :: t ∧ RD K H x v ∧ RD K H y w ∧ RPs K H r t
theorem RPs.ext {K : PySem.W.Frag} {H H1 : Hp} (e : Ext K H H1) : ∀ {ps : List (D × D)} {vs : List (V × V)}, RPs K H ps vs → RPs K H1 ps vs
  | [], _, h => h
  | (x, y) :: r, _, h => by
    obtain ⟨v, w, t, rfl, h1, h2, h3⟩ := h
    exact ⟨v, w, t, rfl, h1.ext e, h2.ext e, RPs.ext e h3⟩
theorem pairs_lift {K : PySem.W.Frag} : ∀ {ts : List (TED × TED)} {δ : StD} {S : Store} {σ : L2.St} {H : Hp} {Q0 : List (D × D) → Store → Prop} {Q : List (V × V) → Hp → Prop}, RSt K H δ σ → RS K H S → tPairsD ts δ S Q0 →
    (∀ ps S' vs H', Q0 ps S' → Ext K H H' → RPs K H' ps vs → RS K H' S' → Q vs H') → tPairs (liftP K ts) σ H Q
  | [], δ, S, σ, H, Q0, Q, h1, h2, h3, h4 => h4 [] S [] H h3 .refl rfl h2
  | (tk, tv) :: r, δ, S, σ, H, Q0, Q, h1, h2, h3, h4 => by
    refine ⟨δ, S, _, h1, h2, h3, fun x S1 v H1 q e1 r1 s1 => ⟨δ, S1, _, h1.ext e1, s1, q, fun y S2 w H2 q2 e2 r2 s2 => ?_⟩⟩
    exact pairs_lift (ts := r) (h1.ext (e1.trans e2)) s2 q2 fun ps S3 vs H3 q3 e3 r3 s3 => h4 _ _ _ _ q3 (e1.trans (e2.trans e3)) ⟨v, w, vs, rfl, r1.ext (e2.trans e3), r2.ext e3, r3⟩ s3
def DPs (X : Cx) (pos : Pos) (ks : List (Option Expr)) (vs : List Expr) (ts : List (TED × TED)) : Prop := PPs X pos ks vs (liftP X.K ts)
section
variable {X : Cx} {pos : Pos}
theorem dps_nil : DPs X pos [] [] [] := pps_nil
theorem dps_cons {k v : Expr} {ks : List (Option Expr)} {vs : List Expr} {tk tv : TED} {ts : List (TED × TED)} (hk : DE X k tk) (hv : DE X v tv) (hr : DPs X pos ks vs ts) : DPs X pos (some k :: ks) (v :: vs) ((tk, tv) :: ts) := pps_cons hk hv hr
/-- the pairs with their keys -/
def keyed : List (D × D) → Option (List (Key × D))
  | [] => some []
  | (x, y) :: r => (keyOf x).bind fun k => (keyed r).map fun t => (k, y) :: t
theorem keyed_R {K : PySem.W.Frag} {H : Hp} : ∀ {ps : List (D × D)} {vs : List (V × V)} {kvs : List (Key × D)}, keyed ps = some kvs → RPs K H ps vs → ∃ ws : List (Key × V), vs = ws.map (fun kv => (kV kv.1, kv.2)) ∧ RKV K H kvs ws ∧ ws.length = ps.length
  | [], _, kvs, e, h => by cases e; cases (show _ = [] from h); exact ⟨[], rfl, rfl, rfl⟩
  | (x, y) :: r, _, kvs, e, h => by
    obtain ⟨v, w, t, rfl, h1, h2, h3⟩ := h
    unfold keyed at e
    obtain ⟨k, ek, e⟩ := Option.bind_eq_some_iff.mp e
    obtain ⟨t', et, rfl⟩ := Option.map_eq_some_iff.mp e
    obtain ⟨ws, rfl, q1, q2⟩ := keyed_R et h3
    have := keyOf_kD ek
    subst this
    rw [kD_kV h1]
    exact ⟨(k, w) :: ws, rfl, ⟨w, ws, rfl, h2, q1⟩, by simp [q2]⟩
def tDispD (ts : List (TED × TED)) : TED := fun δ S Q => ∀ p, S p = none → tPairsD ts δ (put S p (.dk [])) fun ps S2 => S2 p = some (.dk []) ∧ ∃ kvs, keyed ps = some kvs ∧ ps.length ≤ 15 ∧ Q (.ref p) (put S2 p (.dk (dmerge [] kvs)))
theorem de_disp {keys : List (Option Expr)} {values : List Expr} {ts : List (TED × TED)} (h : DPs X pos keys values ts) (hall : keys.all (·.isSome) = true := by rfl) (hl : keys.length = values.length := by rfl) (h0 : keys ≠ [] := by simp) (h15 : keys.length ≤ 15 := by simp) :
    DE X (.Dict keys values pos) (tDispD ts) := PEi (pe_disp h hall hl h0 h15) fun σ H Q h => by
  obtain ⟨δ, S, Q0, h1, h2, h3, h4⟩ := h
  intro p np
  have ex : Ext X.K H (upd H p (.dK [])) := Ext.new np
  have s0 : RS X.K (upd H p (.dK [])) (put S p (.dk [])) := h2.new np ⟨[], upd_same, rfl⟩
  refine pairs_lift (h1.ext ex) s0 (h3 p (h2.free np)) fun ps S2 vs H2 q2 e2 r2 s2 => ?_
  obtain ⟨eS, kvs, ek, hz, q⟩ := q2
  obtain ⟨ws0, hw, rw0⟩ := s2 p _ eS
  cases (show ws0 = [] from rw0)
  obtain ⟨ws, rfl, q1, ql⟩ := keyed_R ek r2
  refine ⟨hw, ws, rfl, by omega, ?_⟩
  have ex2 : Ext X.K H2 (upd H2 p (.dK (mergeK [] ws))) := Ext.put hw trivial
  have q1' : RKV X.K H2 (dmerge [] kvs) (mergeK [] ws) := RKV.merge q1 rfl
  exact h4 _ _ _ _ q (ex.trans (e2.trans ex2)) rfl (s2.put hw trivial ⟨_, upd_same, q1'.ext ex2⟩)
end
/-! ### sorted(d): the keys -/
section
variable {X : Cx}
def oSortedD : RAD := fun xs S Q => match xs with
  | [.ref a] => ∃ kvs, S a = some (.dk kvs) ∧ kvs.length < 64 ∧
      ((∃ ks : List Str, kvs.map (·.1) = ks.map Sum.inr ∧ ∀ (ys : List Str) (p : Addr), ys.Perm ks → sortedS ys = true → S p = none → Q (.ref p) (put S p (.lst (ys.map D.str)))) ∨
       (∃ ks : List Int, kvs.map (·.1) = ks.map Sum.inl ∧ ∀ (ys : List Int) (p : Addr), ys.Perm ks → ys.Pairwise (· ≤ ·) → S p = none → Q (.ref p) (put S p (.lst (ys.map D.int)))))
  | _ => False
theorem cd_sortedD (hc : X.calm = true) : CallD X (.builtin "sorted") oSortedD := by
  intro pins s σ H xs us Q I rs h
  obtain ⟨ds, S, Q0, hx, hs, h, q⟩ := h
  unfold oSortedD at h
  split at h
  · obtain ⟨v, rfl, e⟩ := hx.one
    cases (show v = .ref _ from e)
    obtain ⟨kvs, ea, hl, h⟩ := h
    obtain ⟨ws, hw, rk⟩ := hs _ _ ea
    have ek := rk.keys
    have el := rk.length
    rcases h with ⟨ks, e1, h⟩ | ⟨ks, e1, h⟩
    · have l1 : ks.length = kvs.length := by have := congrArg List.length e1; simpa using this.symm
      refine call_sortedD hc pins s σ H _ us Q I rs ⟨_, ws, ks, rfl, .inl hw, by rw [ek, e1], by omega, fun ys p perm srt np => ?_⟩
      exact q _ _ _ _ (h ys p perm srt (hs.free np)) (Ext.new np) rfl (hs.newLst np (RDs.of_map (f := D.str) (g := V.str) (fun _ => rfl) ys))
    · have l1 : ks.length = kvs.length := by have := congrArg List.length e1; simpa using this.symm
      refine call_sortedDI hc pins s σ H _ us Q I rs ⟨_, ws, ks, rfl, .inl hw, by rw [ek, e1], by omega, fun ys p perm srt np => ?_⟩
      exact q _ _ _ _ (h ys p perm srt (hs.free np)) (Ext.new np) rfl (hs.newLst np (RDs.of_map (f := D.int) (g := V.int) (fun _ => rfl) ys))
  · cases h
/-! ### a dict of the module -/
/-- the module's dict at d: what stands at some texts (whole numbers), or nothing -/
def CDict (K : PySem.W.Frag) (w : World) (mg : Str → Option Value) (x : Str) (d : Addr) (tbl : List (Str × Option Int)) : Prop :=
  mg x = some (.ref d) ∧ ∃ es n, KDict K w d es n ∧ ∀ z r, tbl.lookup z = some r → ∃ u, PySem.W.nsIn K d z = some u ∧ (r = none → u = none) ∧ ∀ i, r = some i → ∃ t, u = some (.int i t)
def oInK (d : Addr) (tbl : List (Str × Option Int)) : R2D := fun x y S Q => ∃ z r, x = .str z ∧ y = .ref d ∧ tbl.lookup z = some r ∧ Q (.bl r.isSome) S
def oIxK (d : Addr) (tbl : List (Str × Option Int)) : R2D := fun x y S Q => ∃ z i, x = .ref d ∧ y = .str z ∧ tbl.lookup z = some (some i) ∧ Q (.int i) S
theorem od_inK {x : Str} {d : Addr} {tbl : List (Str × Option Int)} (c : CDict X.K X.w X.mg x d tbl) : OpD X (compareOp .In) (oInK d tbl) := by
  intro pins s σ H a b v u Q I rx ry h
  obtain ⟨da, db, S, Q0, hx, hy, hs, ⟨z, r, rfl, rfl, e, h⟩, q⟩ := h
  obtain ⟨_, es, n, kd, tb⟩ := c
  obtain ⟨u0, e0, f0, f1⟩ := tb z r e
  have eb : u0.isSome = r.isSome := by
    cases r with
    | none => rw [f0 rfl]; rfl
    | some i => obtain ⟨t, rfl⟩ := f1 i rfl; rfl
  cases (show a = .str z from hx)
  cases (show b = .ref d from hy)
  exact op_in_kd kd pins s σ H _ _ v u Q I rx ry ⟨z, u0, rfl, rfl, e0, by rw [eb]; exact q _ _ _ _ h .refl rfl hs⟩
theorem ixd_K {x : Str} {d : Addr} {tbl : List (Str × Option Int)} (c : CDict X.K X.w X.mg x d tbl) : IxD X (oIxK d tbl) := by
  intro value slice pins s σ H a b v u Q I rx ry h hsl
  obtain ⟨da, db, S, Q0, hx, hy, hs, ⟨z, i, rfl, rfl, e, h⟩, q⟩ := h
  obtain ⟨_, es, n, kd, tb⟩ := c
  obtain ⟨u0, e0, f0, f1⟩ := tb z _ e
  obtain ⟨t, rfl⟩ := f1 i rfl
  cases (show a = .ref d from hx)
  cases (show b = .str z from hy)
  exact ix_kdict value slice pins s σ H _ _ v u Q I rx ry ⟨d, z, .int i, rfl, rfl, ⟨es, n, _, kd.at_, kd.lit, e0, ⟨t, rfl⟩⟩, q _ _ _ _ h .refl rfl hs⟩ hsl
theorem de_ixK {x : Str} {d : Addr} {tbl : List (Str × Option Int)} {a b : Expr} {ta tb : TED} {pos : Pos} (c : CDict X.K X.w X.mg x d tbl) (ha : DE X a ta) (hb : DE X b tb) (hs : PlainIx b := by exact fun _ _ => rfl) : DE X (.Subscript a b pos) (tOpD (oIxK d tbl) ta tb) := PEi (pe_ix (ixd_K c) ha hb hs) fun _ _ _ h => op_lift h
theorem de_cdict {x : Str} {d : Addr} {tbl : List (Str × Option Int)} {pos : Pos} (c : CDict X.K X.w X.mg x d tbl) (hg : Gl X x) (hd : (x == ("__debug__" : Str)) = false := by decide) : DE X (.Name x pos) (tCD (.ref d)) :=
  de_c (pe_glob (v := .ref d) hg c.1 rfl hd) fun _ => rfl
end
/-! ### a call of a local name that holds a def -/
/-- the def at f keeps its promise -/
def DfV (P : Program) (w : World) (K : PySem.W.Frag) (mg : Str → Option Value) (base : Heap) (f : Addr) (k : Nat) (sp : SpD) : Prop :=
  ∃ fd ps, FnOk P w K mg base CX0 k f fd ps (liftSp K sp) ∧ PySem.W.keepIn K (.ref f) = true ∧ Binds K fd ps []
section
variable {X : Cx} {pos p : Pos} {e : Expr} {es : List Expr} {t : TAD} {x : Str} {k i : Nat} {f : Addr} {sp : SpD}
def tCallLD (i : Nat) (f : Addr) (sp : SpD) (t : TAD) : TED := fun δ S Q => lk δ i = some (.ref f) ∧ t δ S fun ds S1 => sp ds S1 Q
theorem de_callL (F : DfV X.prog X.w X.K X.mg X.base f k sp) (hr : Room k X.A) (i : Nat) (ha : DA X (e :: es) t) (hN : X.N[i]? = some x := by rfl) (hv : Vis X.env.scope x := by first | exact Or.inl rfl | exact Or.inr (Or.inl rfl) | exact Or.inr (Or.inr rfl))
    (hdb : (x == ("__debug__" : Str)) = false := by decide) (hcd : (x == ("__classdict__" : Str)) = false := by decide) (he : starEach (e :: es) X.env = (false, eval e X.env) :: starEach es X.env := by rfl) (hpl : (backTo pos (starEach es X.env)).any (·.1) = false := by rfl) :
    DE X (.Call (.Name x p) (e :: es) [] pos) (tCallLD i f sp t) := by
  obtain ⟨fd, ps, h1, h2, h3⟩ := F
  refine PEi (pe_callL (i := i) (f := f) (dvs := []) h1 hr hN hv h2 h3 .nil pass0 ha hdb hcd he hpl) fun σ H Q h => ?_
  obtain ⟨δ, S, Q0, g1, g2, ⟨g0, g3⟩, g4⟩ := h
  obtain ⟨v, ev, rv⟩ := g1.lk g0
  cases (show v = .ref f from rv)
  refine ⟨ev, δ, S, _, g1, g2, g3, fun ds S1 vs H1 q e1 r1 s1 => ?_⟩
  show liftSp X.K sp (vs ++ []) H1 Q E0
  rw [List.append_nil]
  exact ⟨ds, S1, Q0, r1, s1, q, fun d S' v H' q' e' r' s' => g4 _ _ _ _ q' (e1.trans e') r' s'⟩
theorem de_def (F : Df X.prog X.w X.K X.mg X.base x k sp) (hg : Gl X x) (hd : (x == ("__debug__" : Str)) = false := by decide) : ∃ f, DfV X.prog X.w X.K X.mg X.base f k sp ∧ DE X (.Name x pos) (tCD (.ref f)) := by
  obtain ⟨f, fd, ps, h1, h2, h3, h4⟩ := F
  exact ⟨f, ⟨fd, ps, h1, h3, h4⟩, de_c (pe_glob (v := .ref f) hg h2 rfl hd) fun _ => rfl⟩
end
/-! ### sorted(set(xs)), xs a list of whole numbers -/
section
variable {P : Program} {w : World} {A : Around} {E : Value → Shared → Prop} {s : Shared}
abbrev newSet (w : World) : Obj := { cls := .type "set", dict := none, data := .set #[] 0 (.fresh 0 0 (!w.params.followText "set-order")) }
set_option maxHeartbeats 3200000 in
theorem set_of_list {l : Addr} {items : Array Value} (ns : List Int) {Q : Value → Shared → Prop} (hh : A.handled = none) (hl : s.heap.IsList l items) (hit : IntsAre items.toList ns) (hb : ns.length + 1 < scanBound)
    (h : ∀ (h' : Heap) (tk c : Nat), SetR w h' s.heap.objs.size (fun j => decide (j ∈ ns)) c → c ≤ ns.length → (∀ b o, s.heap.get? b = some o → h'.get? b = some o) → Q (.ref s.heap.objs.size) { s with heap := h', toks := tk }) :
    wpAny (model P w) A (call (.type "set") [.ref l]) Q E s := by
  have size : items.size = ns.length := by
    have := IntsAre.length hit
    simpa using this
  obtain ⟨c, tl, hmro⟩ := F.called_set.mro
  have m1 := F.called_set.made
  have m2 := F.called_set.sub
  refine wpAny_call (codeAny_of_tree ?_)
  show wpAny _ _ (callAny (.type "set") _) _ _ _
  refine wpAny_pure ⟨Code.quiet_builtin _ (by decide +kernel), codeAny_builtin F.entry_type_call ?_⟩
  rw [Around.under_plain (weight_type_call_type "set" [.ref l] []) rfl]
  have m3 := F.called_set.notType
  have m4 := F.called_set.canCreate
  have m5 := F.typeCall_set_1 (.ref l)
  repeat (any_goals (first | assumption | wp_step))
  refine codeAny_mono (code_set_led1 (.ref l) (E := E) (Q₁ := fun obj s₁ => obj = .ref s.heap.objs.size ∧ s₁ = { s with heap := s.heap.push (newSet w) }) ⟨rfl, rfl⟩) fun r s₁ hr => ?_
  cases r with
  | error e => exact hr
  | ok fl =>
    cases fl with
    | ret obj =>
      obtain ⟨rfl, rfl⟩ := hr
      have there : (s.heap.push (newSet w)).get? s.heap.objs.size = some (newSet w) := Heap.get?_push_size _ rfl
      have ty : Shared.TypeIs { s with heap := s.heap.push (newSet w) } (.ref s.heap.objs.size) "set" := ⟨_, there, rfl⟩
      have m6 := F.called_set.init.lookup
      have m7 := F.called_set.init.bind (.ref s.heap.objs.size)
      repeat (any_goals (first | assumption | wp_step))
      refine codeAny_mono (codeAny_call_builtin (R := wants (fun r s₂ => r = .none ∧ ∃ h' tk c, s₂ = { s with heap := h', toks := tk } ∧ SetR w h' s.heap.objs.size (fun j => decide (j ∈ ns)) c ∧ c ≤ ns.length ∧
          (∀ b o, s.heap.get? b = some o → h'.get? b = some o)) E) F.called_set.init.plain F.entry_set_init (check_set_init_1 ty ?_)) fun r₂ s₂ hr₂ => ?_
      · obtain ⟨⟨oc, od, dt, sl⟩, lat, lc, ln, ld⟩ := hl
        have lc' : oc = .type "list" := lc
        have ld' : dt = .seq items ln := ld
        subst lc' ld'
        have lat' : (s.heap.push (newSet w)).get? l = some { cls := .type "list", dict := od, data := .seq items ln, slots := sl } := Heap.get?_push_of_some _ lat
        have m8 := F.sub_list_set
        have m9 := F.sub_list_frozenset
        have nd : (Value.type "list" == Value.type "dict") = false := by decide
        have lis : (s.heap.push (newSet w)).IsList l items := ⟨_, lat', rfl, ln, rfl⟩
        unfold Builtin.«set.__init__» noKeywords Builtin.Frozenset.updateFrom
        generalize hPI : pyIter = PI
        wp_walk
        subst hPI
        refine wpAny_pyIter_list lis ?_
        refine wpAny_bind (wpAny_runValue ?_)
        have ll : l < s.heap.objs.size := Heap.lt_size lat
        have h3 : A.in1.in1.in1.handled = none := by simp [hh]
        have sz : (s.heap.push (newSet w)).objs.size = s.heap.objs.size + 1 := Heap.size_push ..
        have ni : l ≠ (s.heap.push (newSet w)).objs.size := by
          rw [sz]; exact Nat.ne_of_lt (Nat.lt_succ_of_lt ll)
        have nm : s.heap.objs.size ∉ [(s.heap.push (newSet w)).objs.size, l] := by
          rw [sz]
          simp only [List.mem_cons, List.not_mem_nil, or_false, not_or]
          exact ⟨Nat.ne_of_lt (Nat.lt_succ_self _), Nat.ne_of_gt ll⟩
        refine set_update_ints ((Walks.list h3 _ l ni items).toS) s.heap.objs.size nm ns size hb (fun i v hv => ?_) (items.size - 0) 0 _ (by omega) (Nat.zero_le _)
          ⟨⟨_, Heap.get?_push_size _ rfl, rfl, rfl⟩, (lis.push _)⟩ ?_ ?_
        · have hi : i < ns.length := by rw [← size]; exact (Array.getElem?_eq_some_iff.mp hv).1
          obtain ⟨t, e⟩ := PyProof.Rows.IntsAre.int_at hit i v (by rw [Array.getElem?_toList]; exact hv)
          exact ⟨ns[i], t, List.getElem?_eq_getElem hi, by rw [e, List.getD_eq_getElem?_getD, List.getElem?_eq_getElem hi]; rfl⟩
        · exact ⟨0, Nat.le_refl 0, setR_new_at (Heap.get?_push_of_some _ there)⟩
        · rintro ⟨h', g2, d', tk', os'⟩ c' hm hc' hS'
          have e1 : g2 = s.gens := hm.gens
          have e2 : d' = s.drawn := hm.drawn
          have e3 : os' = s.os := hm.os
          subst e1 e2 e3
          show wpAny _ _ _ _ _ _
          refine wpAny_pure ?_
          show wpAny _ _ (ret Value.none) _ _ _
          rw [size] at hc'
          refine wpAny_pure ⟨rfl, h', tk', c', rfl, hS', hc', fun b o e => ?_⟩
          have b0 : b < s.heap.objs.size := Heap.lt_size e
          refine hm.heap b o ?_ (Heap.get?_push_of_some _ (Heap.get?_push_of_some _ e))
          rw [sz]
          simp only [List.mem_cons, List.not_mem_nil, or_false, not_or]
          exact ⟨Nat.ne_of_lt b0, Nat.ne_of_lt (Nat.lt_succ_of_lt b0)⟩
      · cases r₂ with
        | error e => exact hr₂
        | ok fl₂ =>
          cases fl₂ with
          | ret r =>
            obtain ⟨rfl, h', tk, c', rfl, hS', hc', hk'⟩ := hr₂
            repeat (any_goals (first | assumption | wp_step))
            exact h _ _ _ hS' hc' hk'
          | _ => exact hr₂.elim
    | _ => exact hr.elim
end
theorem nodup_le {α : Type} [DecidableEq α] : ∀ (c xs : List α), c.Nodup → (∀ x ∈ c, x ∈ xs) → c.length ≤ xs.length
  | [], _, _, _ => Nat.zero_le _
  | a :: c, xs, hn, h => by
    have ha := h a List.mem_cons_self
    have := nodup_le c (xs.erase a) (List.nodup_cons.mp hn).2 fun x hx => by
      have : x ≠ a := fun e => (List.nodup_cons.mp hn).1 (e ▸ hx)
      exact (List.mem_erase_of_ne this).mpr (h x (List.mem_cons_of_mem _ hx))
    rw [List.length_erase_of_mem ha] at this
    have : 0 < xs.length := List.length_pos_of_mem ha
    rw [List.length_cons]; omega
section
variable {X : Cx} {a : Expr} {ta : TED} {p p2 pos q : Pos}
/-- sorted(set(xs)) -/
def tSortSet (ta : TED) : TED := fun δ S Q => ta δ S fun x S1 => ∃ ns bs : List Int, seqAt S1 x = some (ns.map D.int) ∧ ns.length ≤ 4000 ∧ bs.length < 64 ∧ (∀ k ∈ ns, k ∈ bs) ∧ ∀ (ys : List Int) (p : Addr), ys.Pairwise (· < ·) → (∀ k : Int, k ∈ ys ↔ k ∈ ns) → S1 p = none → Q (.ref p) (put S1 p (.lst (ys.map D.int)))
theorem de_sortSet (hc : X.calm = true) (hg : Gl X "sorted") (hm : X.mg "sorted" = none) (hg2 : Gl X "set") (hm2 : X.mg "set" = none) (ha : DE X a ta)
    (na : starEach [a] X.env = (false, eval a X.env) :: starEach [] X.env := by rfl) : DE X (.Call (.Name "sorted" p) [.Call (.Name "set" p2) [a] [] q] [] pos) (tSortSet ta) := by
  refine ⟨fun pins s σ H Q I h => ?_⟩
  obtain ⟨δ, S, Q0, h1, h2, h3, h4⟩ := h
  refine Call_ (ld_blt I hg hm boot_sorted ?_)
  refine PyProof.Rows.callWith_builtin1 (PyProof.Rows.args_cons ?_ rfl) rfl rfl
  refine Call_ (ld_blt I hg2 hm2 boot_set ?_)
  have key : liftE X.K ta σ H (fun v H1 => ∃ x S1, RD X.K H1 x v ∧ RS X.K H1 S1 ∧ Ext X.K H H1 ∧ ∃ ns bs : List Int, seqAt S1 x = some (ns.map D.int) ∧ ns.length ≤ 4000 ∧ bs.length < 64 ∧ (∀ k ∈ ns, k ∈ bs) ∧ ∀ (ys : List Int) (p : Addr), ys.Pairwise (· < ·) → (∀ k : Int, k ∈ ys ↔ k ∈ ns) → S1 p = none → Q0 (.ref p) (put S1 p (.lst (ys.map D.int)))) :=
    ⟨δ, S, _, h1, h2, h3, fun x S1 v H1 q e1 r1 s1 => ⟨x, S1, r1, s1, e1, q⟩⟩
  refine PyProof.Rows.callWith_type1 (PyProof.Rows.args_cons (thn (ha.run pins s σ H _ I key) fun v s1 ⟨z, H1, I1, r1, q1⟩ => PyProof.Rows.args_nil ?_) na) na rfl
  obtain ⟨x, S1, rx, rs, e1, ns, bs, hs, h4000, h64, hsub, q⟩ := q1
  obtain ⟨l, vs, rfl, hq, hd⟩ := seqAt_sq hs rx rs
  cases hd.ints
  cases r1
  obtain ⟨its, rv, pl, _⟩ := I1.list hq
  refine set_of_list ns (I1.ok.hd hc) pl.isList (by simpa using ints_of_vals rv) (by show ns.length + 1 < 4096; omega) fun h' tk c hR hcl hk => ?_
  have hn : H1 s1.heap.objs.size = none := I1.hok.fresh (Nat.le_refl _)
  have c64 : c < 64 := by
    obtain ⟨o, es, ep, t, ho, _, _, _, hnd, hk', _, _, hsz, _⟩ := hR
    have h1 : (es.toList.map L2.keyOf).length ≤ bs.length := nodup_le _ _ hnd fun k hk2 => hsub k (of_decide_eq_true ((hk' k).mpr hk2))
    rw [List.length_map, Array.length_toList, hsz] at h1
    omega
  have I2 : Inv X pins σ (upd H1 s1.heap.objs.size (SetO X.w s1.heap.objs.size (fun j => decide (j ∈ ns)) c)) { s1 with heap := h', toks := tk } := I1.laid (fun b o e => hk b o e) (Nat.le_refl _) (setO_new hR)
  refine PyProof.Rows.args_nil ?_
  refine cr_sortedSet hc pins _ σ _ _ _ _ I2 (show Vals [V.ref s1.heap.objs.size] [Value.ref s1.heap.objs.size] from .cons rfl .nil) ⟨_, _, c, rfl, upd_same, c64, fun ys p2 srt hmem hlen np => ?_⟩
  have x1 : Ext X.K H1 (upd H1 s1.heap.objs.size (SetO X.w s1.heap.objs.size (fun j => decide (j ∈ ns)) c)) := Ext.new hn
  have s2 := rs.grow (u := SetO X.w s1.heap.objs.size (fun j => decide (j ∈ ns)) c) hn
  exact h4 _ _ _ _ (q ys p2 srt (fun k => (hmem k).trans decide_eq_true_iff) (s2.free np)) (e1.trans (x1.trans (Ext.new np))) rfl (s2.newLst np (RDs.of_map (f := D.int) (g := V.int) (fun _ => rfl) ys))
end
end DL

set_option Elab.async false
set_option maxRecDepth 100000
set_option linter.unusedVariables false
/-! DLt: text.index; in a list of numbers and texts. -/
namespace DL
open PySem PySem.Spec PyProof.Rows L2
section
variable {X : Cx}
/-- s.index(t), t there -/
def mSIndex : RMD := fun x xs S Q => match x, xs with
  | .str a, [.str b] => ∃ (k : Nat) (rest : List Nat), Builtin.Str.occurrences a b 0 a.length 1 = k :: rest ∧ Q (.int (k : Nat)) S
  | _, _ => False
theorem md_sindex : MtD X "str.index" mSIndex := by
  intro pins s σ H x xs v us Q I rx rs h
  obtain ⟨d, ds, S, Q0, hx, hxs, hs, h, q⟩ := h
  unfold mSIndex at h
  split at h
  · cases (show x = .str _ from hx)
    obtain ⟨w, rfl, r1⟩ := hxs.one
    cases (show w = .str _ from r1)
    obtain ⟨k, rest, e, h⟩ := h
    obtain ⟨t, rfl⟩ := rx
    cases rs with
    | cons r2 rr =>
      cases rr
      obtain ⟨u, rfl⟩ := r2
      exact PySem.SC.index e ⟨.int (k : Nat), H, I.tok _, ⟨_, rfl⟩, q _ _ _ _ h .refl rfl hs⟩
  · cases h
/-- numbers and texts -/
def flatD : List D → Option (List V)
  | [] => some []
  | .int i :: r => (flatD r).map (.int i :: ·)
  | .str z :: r => (flatD r).map (.str z :: ·)
  | _ :: _ => none
theorem flatD_R {K : PySem.W.Frag} {H : Hp} : ∀ {ds : List D} {ws vs : List V}, flatD ds = some ws → RDs K H ds vs → vs = ws ∧ ws.all flatV = true
  | [], ws, vs, e, h => by cases e; cases (show vs = [] from h); exact ⟨rfl, rfl⟩
  | .int i :: r, ws, vs, e, h => by
    obtain ⟨t, et, rfl⟩ := Option.map_eq_some_iff.mp (show (flatD r).map (V.int i :: ·) = some ws from e)
    obtain ⟨v, vs', rfl, h1, h2⟩ := h
    obtain ⟨rfl, q⟩ := flatD_R et h2
    cases (show v = .int i from h1)
    exact ⟨rfl, by simp [q, flatV]⟩
  | .str i :: r, ws, vs, e, h => by
    obtain ⟨t, et, rfl⟩ := Option.map_eq_some_iff.mp (show (flatD r).map (V.str i :: ·) = some ws from e)
    obtain ⟨v, vs', rfl, h1, h2⟩ := h
    obtain ⟨rfl, q⟩ := flatD_R et h2
    cases (show v = .str i from h1)
    exact ⟨rfl, by simp [q, flatV]⟩
  | .non :: _, _, _, e, _ => by cases e
  | .bl _ :: _, _, _, e, _ => by cases e
  | .ref _ :: _, _, _, e, _ => by cases e
  | .ty _ :: _, _, _, e, _ => by cases e
  | .tup _ :: _, _, _, e, _ => by cases e
  | .rol _ :: _, _, _, e, _ => by cases e
  | .ftup _ :: _, _, _, e, _ => by cases e
/-- a text in a list of numbers and texts: some answer -/
def oInF (f : Bool → Bool) : R2D := fun x y S Q => ∃ z ds ws, x = .str z ∧ seqAt S y = some ds ∧ flatD ds = some ws ∧ ∀ b, b = inV (V.str z) ws → Q (.bl (f b)) S
theorem od_inF : OpD X (compareOp .In) (oInF id) := by
  intro pins s σ H a b v u Q I rx ry h
  obtain ⟨da, db, S, Q0, hx, hy, hs, ⟨z, ds, ws, rfl, e1, e2, h⟩, q⟩ := h
  cases (show a = .str z from hx)
  obtain ⟨p, vs, rfl, hq, hd⟩ := seqAt_sq e1 hy hs
  obtain ⟨rfl, fl⟩ := flatD_R e2 hd
  exact op_in_seq pins s σ H _ _ v u Q I rx ry ⟨p, _, rfl, .inl hq, rfl, fl, q _ _ _ _ (h _ rfl) .refl rfl hs⟩
theorem od_notInF : OpD X (compareOp .NotIn) (oInF not) := by
  intro pins s σ H a b v u Q I rx ry h
  obtain ⟨da, db, S, Q0, hx, hy, hs, ⟨z, ds, ws, rfl, e1, e2, h⟩, q⟩ := h
  cases (show a = .str z from hx)
  obtain ⟨p, vs, rfl, hq, hd⟩ := seqAt_sq e1 hy hs
  obtain ⟨rfl, fl⟩ := flatD_R e2 hd
  exact op_notIn_seq pins s σ H _ _ v u Q I rx ry ⟨p, _, rfl, .inl hq, rfl, fl, q _ _ _ _ (h _ rfl) .refl rfl hs⟩
end
/-! ### range(i, j, -1) -/
def rngDJ (lo : Int) (n : Nat) : ItD := fun i _ => some (if i < n then some (.int (lo - (i : Nat))) else none)
theorem ri_rngD {K : PySem.W.Frag} {H1 : Hp} {lo : Int} {n : Nat} : RI K H1 (rngDJ lo n) (Itc lo (-1) n) := fun i S H e s => by
  refine ⟨fun q => ?_, fun d q => ?_⟩
  · have q' : (if i < n then some (D.int (lo - (i : Nat))) else none) = none := Option.some.inj q
    split at q'
    · cases q'
    · rename_i h
      exact Nat.le_of_not_lt h
  · have q' : (if i < n then some (D.int (lo - (i : Nat))) else none) = some d := Option.some.inj q
    split at q'
    · rename_i h
      cases q'
      refine ⟨h, fun x H' y => ?_⟩
      obtain ⟨rfl, rfl⟩ := y
      refine ⟨.refl, ?_, s⟩
      show V.int _ = V.int _
      congr 1
      omega
    · cases q'
def tRng3D (ta : TAD) : TID := fun δ S R => ta δ S fun xs S1 => match xs with
  | [.int i, .int j, .int c] => (c = -1 ∧ -(2 ^ 62) ≤ i ∧ i < 2 ^ 62 ∧ -(2 ^ 62) ≤ j ∧ j < 2 ^ 62) ∧ R (rngDJ i (i - j).toNat) S1
  | _ => False
theorem di_range3 {X : Cx} {tg a b c : Expr} {ta : TAD} {p pos : Pos} (hg : Gl X "range") (hm : X.mg "range" = none) (ha : DA X [a, b, c] ta)
    (hs : starEach [a, b, c] X.env = (false, eval a X.env) :: starEach [b, c] X.env := by rfl) (hpl : (backTo pos (starEach [b, c] X.env)).any (·.1) = false := by rfl) :
    DI X tg (.Call (.Name "range" p) [a, b, c] [] pos) (tRng3D ta) := PIi (pi_range3 hg hm ha hs hpl) fun σ H R h => by
  obtain ⟨δ, S, R0, h1, h2, h3, h4⟩ := h
  refine ⟨δ, S, _, h1, h2, h3, fun xs S1 vs H1 q e1 r1 s1 => ?_⟩
  split at q
  · rename_i i j c
    obtain ⟨⟨rfl, b1, b2, b3, b4⟩, q⟩ := q
    obtain ⟨v, r, rfl, e1', r1⟩ := r1
    obtain ⟨w, u, rfl, e2', e3'⟩ := r1.two
    cases (show v = .int i from e1')
    cases (show w = .int j from e2')
    cases (show u = .int (-1) from e3')
    exact ⟨i, j, -1, _, rfl, RgC.neg b1 b2 b3 b4, h4 _ _ _ _ q e1 ri_rngD s1⟩
  · cases q
theorem forB_rngD {lo : Int} {n : Nat} {g : GD} {tb : TSD} {G : EndsD} {δ : StD} {S1 : Store} (Pv : Nat → StD → Store → Prop) (h0 : Pv 0 δ S1)
    (turn : ∀ i δ S, i < n → Pv i δ S → asg g (.int (lo - (i : Nat))) δ S fun δ2 S2 => tb { G with nx := Pv (i + 1), ct := Pv (i + 1), bk := G.nx } δ2 S2) (done : ∀ δ S, Pv n δ S → G.nx δ S) : forB (rngDJ lo n) g tb G δ S1 := by
  refine ⟨n, fun i δ S => i ≤ n ∧ Pv i δ S, ⟨Nat.zero_le _, h0⟩, ?_⟩
  rintro i δ S ⟨hi, p⟩
  by_cases hlt : i < n
  · refine .inr ⟨.int (lo - (i : Nat)), by unfold rngDJ; rw [if_pos hlt], hlt, ?_⟩
    have q := turn i δ S hlt p
    have e : (fun i δ S => i ≤ n ∧ Pv i δ S) (i + 1) = Pv (i + 1) := by
      funext δ S
      exact propext ⟨fun h => h.2, fun h => ⟨hlt, h⟩⟩
    rw [e]
    exact q
  · have e : i = n := Nat.le_antisymm hi (Nat.le_of_not_lt hlt)
    subst e
    exact .inl ⟨by unfold rngDJ; rw [if_neg (Nat.lt_irrefl _)], done δ S p⟩
end DL

set_option Elab.async false
set_option maxRecDepth 100000
set_option linter.unusedVariables false
/-! PB: small steps that many laws use. -/
namespace DL
open PySem PySem.Spec PyProof.Rows L2
abbrev chLow (c : Nat) : Prop := 97 ≤ c ∧ c ≤ 122
abbrev chUp (c : Nat) : Prop := 65 ≤ c ∧ c ≤ 90
theorem atI_mem {α : Type} (l : List α) {r : Int} (h0 : 0 ≤ r) (h1 : r < l.length) : ∃ x, x ∈ l ∧ atI l r = some x := by
  obtain ⟨j, rfl⟩ : ∃ j : Nat, r = j := ⟨r.toNat, (Int.toNat_of_nonneg h0).symm⟩
  have hj : j < l.length := by omega
  exact ⟨l[j], List.getElem_mem hj, atI_nat (List.getElem?_eq_getElem hj)⟩
theorem ixSeq_mem {ds : List D} {r : Int} {S : Store} {Q : KD} (h0 : 0 ≤ r) (h1 : r < ds.length) (h : ∀ d ∈ ds, Q d S) : ixSeq ds (.int r) S Q := by
  obtain ⟨x, hx, e⟩ := atI_mem ds h0 h1
  exact ⟨x, e, h x hx⟩
theorem ixStrs_mem {xs : List Str} {r : Int} {S : Store} {Q : KD} (h0 : 0 ≤ r) (h1 : r < xs.length) (h : ∀ x ∈ xs, Q (.str x) S) : ixSeq (xs.map D.str) (.int r) S Q := by
  refine ixSeq_mem h0 (by rw [List.length_map]; exact h1) fun d hd => ?_
  obtain ⟨x, hx, rfl⟩ := List.mem_map.mp hd
  exact h x hx
theorem ixS {s : Str} (p : Nat → Prop) {r : Int} {R : Nat → Prop} (hp : ∀ c ∈ s.cps.toList, p c) (hl : s.length ≤ 1000) (h0 : 0 ≤ r) (h1 : r < s.length) (h : ∀ c, p c → R c) :
    ∃ c, s.length ≤ sizeLine ∧ atI s.cps.toList r = some c ∧ R c := by
  obtain ⟨c, hc, e⟩ := atI_mem s.cps.toList h0 (by simpa [Str.length] using h1)
  exact ⟨c, szOk (by omega), e, h c (hp c hc)⟩
theorem app_toList {x y : Str} : (x ++ y).cps.toList = x.cps.toList ++ y.cps.toList := by
  show (x.cps ++ y.cps).toList = _
  rw [Array.toList_append]
theorem len_toList {x : Str} : x.length = x.cps.toList.length := by simp [Str.length]
theorem cutS_toList {x : Str} {lo hi : Option Int} : (cutS x lo hi).cps.toList = cutL x.cps.toList lo hi := by
  unfold cutS cutL
  simp [Str.length]
theorem cutL_map {α β : Type} {f : α → β} {xs : List α} {lo hi : Option Int} : cutL (xs.map f) lo hi = (cutL xs lo hi).map f := by
  unfold cutL
  rw [List.length_map, ← List.map_drop, ← List.map_take]
theorem cutL_le {α : Type} {xs : List α} {lo hi : Option Int} : (cutL xs lo hi).length ≤ xs.length := by
  unfold cutL
  rw [List.length_take, List.length_drop]
  omega
theorem cutL_mem {α : Type} {xs : List α} {lo hi : Option Int} {x : α} (h : x ∈ cutL xs lo hi) : x ∈ xs := List.mem_of_mem_drop (List.mem_of_mem_take h)
/-- [one for one in texts if ..] -/
theorem lcB_flt {J : ItD} {tt : TTD} {te : TED} {i : Nat} {δ : StD} {Q : KD} {q : Addr} {S1 : Store} (c : List Str) (b : Str → Bool) (hJ : ∀ k acc, J k (put S1 q (.lst acc)) = some (c.map D.str)[k]?) (hz : c.length ≤ 1000)
    (test : ∀ (x : Str) (acc : List D) (N : Bool → Store → Prop), N (b x) (put S1 q (.lst acc)) → tt (sto (sto δ i none) i (some (.str x))) (put S1 q (.lst acc)) N)
    (val : ∀ (x : Str) (S : Store) (Y : KD), Y (.str x) S → te (sto (sto δ i none) i (some (.str x))) S Y)
    (done : Q (.ref q) (put S1 q (.lst ((c.filter b).map D.str)))) : lcB J (.one i) tt te [i] δ Q q S1 := by
  have fm : ∀ l : List Str, (l.map D.str).flatMap (fun d => match d with | .str x => if b x = true then [.str x] else [] | _ => []) = (l.filter b).map D.str := by
    intro l
    induction l with
    | nil => rfl
    | cons x l ih =>
      rw [List.map_cons, List.flatMap_cons, ih, List.filter_cons]
      show (if b x = true then [D.str x] else []) ++ _ = _
      cases b x <;> simp
  refine lcB_pure (c.map D.str) (fun d => match d with | .str x => if b x = true then [.str x] else [] | _ => []) hJ (by rw [List.length_map]; exact szOk (by omega)) (fun d hd => ?_) (fun d acc hd hl => ?_) (by rw [fm]; exact done)
  · obtain ⟨x, _, rfl⟩ := List.mem_map.mp hd
    show (if b x = true then [D.str x] else []).length ≤ 1
    split <;> simp
  · obtain ⟨x, _, rfl⟩ := List.mem_map.mp hd
    refine test x acc _ ?_
    cases e : b x with
    | true =>
      simp only [if_true]
      exact val x _ _ ⟨acc, put_same, hl, by rw [put_put]; simp [e]⟩
    | false =>
      simp [e]
theorem seq_cut {A u : TSD} {G : EndsD} {δ : StD} {S : Store} (P : StD → Store → Prop) (h1 : ∀ N : StD → Store → Prop, (∀ δ' S', P δ' S' → N δ' S') → A { G with nx := N } δ S) (h2 : ∀ δ' S', P δ' S' → u G δ' S') : tSeqD A u G δ S := h1 _ h2
theorem orIf {A B : Prop} {_ : Decidable A} {_ : Decidable B} {X Y : Prop} (h1 : X) (h2 : ¬ A → ¬ B → Y) : if A then X else if B then X else Y := by
  by_cases a : A
  · rw [if_pos a]; exact h1
  · rw [if_neg a]
    by_cases b : B
    · rw [if_pos b]; exact h1
    · rw [if_neg b]; exact h2 a b
theorem seq_if {c : TTD} {t u rest : TSD} {G : EndsD} {δ : StD} {S : Store} (Pt Pf : Store → Prop) (hc : ∀ N : Bool → Store → Prop, (∀ S', Pt S' → N true S') → (∀ S', Pf S' → N false S') → c δ S N)
    (ht : ∀ S', Pt S' → t { G with nx := rest G } δ S') (hf : ∀ S', Pf S' → u { G with nx := rest G } δ S') : tSeqD (tIfSD c t u) rest G δ S :=
  hc _ (fun S' p => by show if true = true then _ else _; rw [if_pos rfl]; exact ht S' p) fun S' p => by show if false = true then _ else _; rw [if_neg (by simp)]; exact hf S' p
theorem cutL_from {α : Type} {xs : List α} {j : Nat} : cutL xs (some (j : Int)) none = xs.drop j := by
  unfold cutL
  rw [HT.sIx_nat, HT.sIx_none]
  by_cases h : j ≤ xs.length
  · rw [Nat.min_eq_left h, List.take_of_length_le (by rw [List.length_drop]; omega)]
  · rw [Nat.min_eq_right (by omega), List.drop_length, List.drop_eq_nil_of_le (by omega)]; simp
theorem cutL_to {α : Type} {xs : List α} {j : Nat} : cutL xs none (some (j : Int)) = xs.take j := by
  unfold cutL
  rw [HT.sIx_nat, HT.sIx_none, List.drop_zero]
  by_cases h : j ≤ xs.length
  · rw [Nat.min_eq_left h]; simp
  · rw [Nat.min_eq_right (by omega), List.take_of_length_le (by omega), List.take_of_length_le (by omega)]
/-- a comprehension over things of a kind, some left out -/
theorem lcB_fltA {α : Type} {J : ItD} {tt : TTD} {te : TED} {i : Nat} {δ : StD} {Q : KD} {q : Addr} {S1 : Store} (c : List α) (f h : α → D) (b : α → Bool) (hJ : ∀ k acc, J k (put S1 q (.lst acc)) = some (c.map f)[k]?) (hz : c.length ≤ 10000)
    (test : ∀ (x : α) (acc : List D) (N : Bool → Store → Prop), x ∈ c → N (b x) (put S1 q (.lst acc)) → tt (sto (sto δ i none) i (some (f x))) (put S1 q (.lst acc)) N)
    (val : ∀ (x : α) (S : Store) (Y : KD), x ∈ c → Y (h x) S → te (sto (sto δ i none) i (some (f x))) S Y)
    (done : Q (.ref q) (put S1 q (.lst ((c.filter b).map h)))) : lcB J (.one i) tt te [i] δ Q q S1 := by
  refine ⟨c.length, fun j S => j ≤ c.length ∧ S = put S1 q (.lst (((c.take j).filter b).map h)), ⟨Nat.zero_le _, rfl⟩, ?_⟩
  rintro j S ⟨hj, rfl⟩
  have ej := hJ j (((c.take j).filter b).map h)
  rw [List.getElem?_map] at ej
  by_cases hlt : j < c.length
  · refine .inr ⟨f c[j], by rw [ej, List.getElem?_eq_getElem hlt]; rfl, hlt, ?_⟩
    have hl : ((c.take j).filter b).length ≤ j := Nat.le_trans (List.length_filter_le _ _) (by rw [List.length_take]; omega)
    refine test c[j] _ _ (List.getElem_mem hlt) ?_
    cases eb : b c[j] with
    | true =>
      have e : (c.take (j + 1)).filter b = (c.take j).filter b ++ [c[j]] := by
        rw [← List.take_append_getElem hlt, List.filter_append, List.filter_cons, if_pos eb]
        rfl
      rw [if_pos rfl]
      exact val c[j] _ _ (List.getElem_mem hlt) ⟨_, put_same, by rw [List.length_map]; exact szLt (by omega), hlt, by rw [put_put, e, List.map_append]; rfl⟩
    | false =>
      have e : (c.take (j + 1)).filter b = (c.take j).filter b := by
        rw [← List.take_append_getElem hlt, List.filter_append, List.filter_cons, if_neg (by rw [eb]; decide)]
        simp
      rw [if_neg (by decide)]
      exact ⟨hlt, by rw [e]⟩
  · have e : j = c.length := Nat.le_antisymm hj (Nat.le_of_not_lt hlt)
    subst e
    refine .inl ⟨by rw [ej, List.getElem?_eq_none (Nat.le_refl _)]; rfl, ?_⟩
    rw [List.take_length]
    exact done
theorem pigeon {α : Type} [DecidableEq α] : ∀ (c xs : List α), c.Nodup → (∀ x ∈ c, x ∈ xs) → c.length ≤ xs.length
  | [], _, _, _ => Nat.zero_le _
  | a :: c, xs, hn, h => by
    have ha := h a List.mem_cons_self
    have := pigeon c (xs.erase a) (List.nodup_cons.mp hn).2 fun x hx => by
      have : x ≠ a := fun e => (List.nodup_cons.mp hn).1 (e ▸ hx)
      exact (List.mem_erase_of_ne this).mpr (h x (List.mem_cons_of_mem _ hx))
    rw [List.length_erase_of_mem ha] at this
    have : 0 < xs.length := List.length_pos_of_mem ha
    rw [List.length_cons]; omega
theorem free_one {α : Type} [DecidableEq α] {c xs : List α} (hn : c.Nodup) (h : xs.length < c.length) : ∃ x r, c.filter (fun x => decide (x ∉ xs)) = x :: r ∧ x ∈ c ∧ x ∉ xs := by
  cases e : c.filter (fun x => decide (x ∉ xs)) with
  | nil =>
    have : ∀ x ∈ c, x ∈ xs := fun x hx => by
      have := List.filter_eq_nil_iff.mp e x hx
      simpa using this
    have := pigeon c xs hn this
    omega
  | cons x r =>
    have hx : x ∈ c.filter (fun x => decide (x ∉ xs)) := by rw [e]; exact List.mem_cons_self
    have := List.mem_filter.mp hx
    exact ⟨x, r, rfl, this.1, by simpa using this.2⟩
theorem listJ {S : Store} {p : Addr} {ds : List D} {k : Nat} (h : S p = some (.lst ds)) : itJ (.ref p) k S = some ds[k]? := by
  show lstJ (S p) k = _
  rw [h]
  rfl
theorem hR_of {A : Around} {k : Nat} (hr : Room k A) : A.units + 100 < cLine := by have := hr.un; omega
theorem rng_nat {n : Nat} {k : Nat} {S : Store} : rngJ 0 n k S = some ((List.range n).map fun i : Nat => D.int (i : Nat))[k]? := by
  unfold rngJ
  rw [List.getElem?_map]
  by_cases h : k < n
  · rw [if_pos h, List.getElem?_range h, Int.zero_add]; rfl
  · rw [if_neg h, List.getElem?_eq_none (by rw [List.length_range]; omega)]; rfl
/-! ### what may change -/
def ChS (as : List Addr) (S S' : Store) : Prop := ∀ b o, b ∉ as → S b = some o → S' b = some o
def Live (as : List Addr) (S : Store) : Prop := ∀ a ∈ as, ∃ o, S a = some o
theorem ChS.refl {as : List Addr} {S : Store} : ChS as S S := fun _ _ _ e => e
theorem ChS.trans {as : List Addr} {S S1 S2 : Store} (h : ChS as S S1) (g : ChS as S1 S2) : ChS as S S2 := fun b o n e => g b o n (h b o n e)
theorem ChS.mono {as bs : List Addr} {S S' : Store} (h : ChS as S S') (m : ∀ a ∈ as, a ∈ bs) : ChS bs S S' := fun b o n e => h b o (fun z => n (m b z)) e
theorem ChS.put {as : List Addr} {S S' : Store} {a : Addr} {o : DO} (h : ChS as S S') (m : a ∈ as) : ChS as S (put S' a o) := fun b u n e => by
  rw [put_ne]
  · exact h b u n e
  · rintro rfl; exact n m
theorem ChS.at {as : List Addr} {S S' : Store} {p : Addr} {o : DO} (h : ChS as S S') (n : S p = none) : ChS as S (DL.put S' p o) := fun b u nb e => by
  rw [put_ne]
  · exact h b u nb e
  · rintro rfl
    rw [n] at e; cases e
theorem ChS.none' {as : List Addr} {S S' : Store} {p : Addr} (h : ChS as S S') (l : Live as S') (n : S' p = none) : S p = none := by
  have pa : p ∉ as := fun z => by obtain ⟨o, e⟩ := l p z; rw [n] at e; cases e
  cases e : S p with
  | none => rfl
  | some o => rw [h p o pa e] at n; cases n
theorem ChS.new {as : List Addr} {S S' : Store} {p : Addr} {o : DO} (h : ChS as S S') (l : Live as S') (n : S' p = none) : ChS as S (DL.put S' p o) := h.at (h.none' l n)
theorem ChS.sub {as : List Addr} {S S' S2 : Store} (h : ChS as S S') (q : Sub S' S2) : ChS as S S2 := fun b o n e => q b o (h b o n e)
theorem Live.ne {as : List Addr} {S : Store} {p a : Addr} (l : Live as S) (n : S p = none) (m : a ∈ as) : a ≠ p := by
  rintro rfl
  obtain ⟨o, e⟩ := l a m
  rw [n] at e; cases e
theorem ne_new {S : Store} {a p : Addr} {o : DO} (e : S a = some o) (n : S p = none) : a ≠ p := by
  rintro rfl
  rw [n] at e; cases e
end DL

set_option Elab.async false
set_option maxRecDepth 100000
set_option linter.unusedVariables false
/-! PF: forms as plain things. -/
namespace FO
open PySem PySem.Spec PyProof.Rows L2 DL
inductive J3 | and | or | if
inductive Q2 | every | some
def J3.s : J3 → Str
  | .and => "and" | .or => "or" | .if => "if"
def Q2.s : Q2 → Str
  | .every => "every" | .some => "some"
structure Su where
  parts : List (Str × Int)
  num : Int
def paD (p : Str × Int) : D := .tup [.str p.1, .int p.2]
def Su.d (s : Su) : D := .tup [.tup (s.parts.map paD), .int s.num]
def Su.ok (K : Str → Prop) (s : Su) : Prop := (∀ p ∈ s.parts, K p.1) ∧ s.parts.length ≤ 6
inductive Fo
  | is (t k : Str)
  | does (d a b : Str)
  | same (a b : Str)
  | least (p q : Su)
  | fls
  | neg (f : Fo)
  | bin (w : J3) (f g : Fo)
  | qu (w : Q2) (x : Str) (f : Fo)
def Fo.d : Fo → D
  | .is t k => .tup [.str "is", .str t, .str k]
  | .does d a b => .tup [.str "does", .str d, .str a, .str b]
  | .same a b => .tup [.str "same", .str a, .str b]
  | .least p q => .tup [.str "least", p.d, q.d]
  | .fls => .tup [.str "false"]
  | .neg f => .tup [.str "not", f.d]
  | .bin w f g => .tup [.str w.s, f.d, g.d]
  | .qu w x f => .tup [.str w.s, .str x, f.d]
def Fo.ht : Fo → Nat
  | .neg f => f.ht + 1
  | .bin _ f g => max f.ht g.ht + 1
  | .qu _ _ f => f.ht + 1
  | _ => 1
/-- terms (and bound letters) T, kinds K, doings W -/
def Fo.ok (T K W : Str → Prop) : Fo → Prop
  | .is t k => T t ∧ K k
  | .does d a b => W d ∧ T a ∧ T b
  | .same a b => T a ∧ T b
  | .least p q => p.ok K ∧ q.ok K
  | .fls => True
  | .neg f => f.ok T K W
  | .bin _ f g => f.ok T K W ∧ g.ok T K W
  | .qu _ x f => T x ∧ f.ok T K W
theorem Su.ok.imp {K K' : Str → Prop} {s : Su} (k : ∀ s, K s → K' s) (h : s.ok K) : s.ok K' := ⟨fun p hp => k _ (h.1 p hp), h.2⟩
theorem Fo.ok.imp {T K W T' K' W' : Str → Prop} (t : ∀ s, T s → T' s) (k : ∀ s, K s → K' s) (w : ∀ s, W s → W' s) : ∀ {F : Fo}, F.ok T K W → F.ok T' K' W'
  | .is _ _, h => ⟨t _ h.1, k _ h.2⟩
  | .does _ _ _, h => ⟨w _ h.1, t _ h.2.1, t _ h.2.2⟩
  | .same _ _, h => ⟨t _ h.1, t _ h.2⟩
  | .least _ _, h => ⟨h.1.imp k, h.2.imp k⟩
  | .fls, _ => trivial
  | .neg f, h => Fo.ok.imp (F := f) t k w h
  | .bin _ f g, h => ⟨Fo.ok.imp (F := f) t k w h.1, Fo.ok.imp (F := g) t k w h.2⟩
  | .qu _ _ f, h => ⟨t _ h.1, Fo.ok.imp (F := f) t k w h.2⟩
theorem Fo.ht_pos : ∀ F : Fo, 1 ≤ F.ht
  | .is _ _ => Nat.le_refl _
  | .does _ _ _ => Nat.le_refl _
  | .same _ _ => Nat.le_refl _
  | .least _ _ => Nat.le_refl _
  | .fls => Nat.le_refl _
  | .neg f => Nat.succ_le_succ (Nat.zero_le _)
  | .bin _ f g => Nat.succ_le_succ (Nat.zero_le _)
  | .qu _ _ f => Nat.succ_le_succ (Nat.zero_le _)
def Fo.hd : Fo → Str
  | .is _ _ => "is"
  | .does _ _ _ => "does"
  | .same _ _ => "same"
  | .least _ _ => "least"
  | .fls => "false"
  | .neg _ => "not"
  | .bin w _ _ => w.s
  | .qu w _ _ => w.s
def Fo.tl : Fo → List D
  | .is t k => [.str t, .str k]
  | .does d a b => [.str d, .str a, .str b]
  | .same a b => [.str a, .str b]
  | .least p q => [p.d, q.d]
  | .fls => []
  | .neg f => [f.d]
  | .bin _ f g => [f.d, g.d]
  | .qu _ x f => [.str x, f.d]
theorem Fo.d_eq : ∀ F : Fo, F.d = .tup (.str F.hd :: F.tl)
  | .is _ _ => rfl
  | .does _ _ _ => rfl
  | .same _ _ => rfl
  | .least _ _ => rfl
  | .fls => rfl
  | .neg _ => rfl
  | .bin _ _ _ => rfl
  | .qu _ _ _ => rfl
theorem Fo.tl_len (F : Fo) : F.tl.length ≤ 3 := by cases F <;> simp [Fo.tl]
/-! ### as data -/
def paP (p : Str × Int) : PyData := .tuple [.str p.1, .int p.2]
def Su.pd (s : Su) : PyData := .tuple [.tuple (s.parts.map paP), .int s.num]
def Fo.pd : Fo → PyData
  | .is t k => .tuple [.str "is", .str t, .str k]
  | .does d a b => .tuple [.str "does", .str d, .str a, .str b]
  | .same a b => .tuple [.str "same", .str a, .str b]
  | .least p q => .tuple [.str "least", p.pd, q.pd]
  | .fls => .tuple [.str "false"]
  | .neg f => .tuple [.str "not", f.pd]
  | .bin w f g => .tuple [.str w.s, f.pd, g.pd]
  | .qu w x f => .tuple [.str w.s, .str x, f.pd]
theorem PDs.map {α : Type} {S : Store} (f : α → D) (g : α → PyData) (h : ∀ a, PD S (f a) (g a)) : ∀ l : List α, PDs S (l.map f) (l.map g)
  | [] => .nil
  | a :: l => .cons (h a) (PDs.map f g h l)
theorem Su.pd_PD {S : Store} (s : Su) : PD S s.d s.pd := .tup (.cons (.tup (PDs.map paD paP (fun p => .tup (.cons (.str _) (.cons (.int _) .nil))) s.parts)) (.cons (.int _) .nil))
theorem Fo.pd_PD {S : Store} : ∀ F : Fo, PD S F.d F.pd
  | .is t k => .tup (.cons (.str _) (.cons (.str _) (.cons (.str _) .nil)))
  | .does d a b => .tup (.cons (.str _) (.cons (.str _) (.cons (.str _) (.cons (.str _) .nil))))
  | .same a b => .tup (.cons (.str _) (.cons (.str _) (.cons (.str _) .nil)))
  | .least p q => .tup (.cons (.str _) (.cons p.pd_PD (.cons q.pd_PD .nil)))
  | .fls => .tup (.cons (.str _) .nil)
  | .neg f => .tup (.cons (.str _) (.cons (Fo.pd_PD f) .nil))
  | .bin w f g => .tup (.cons (.str _) (.cons (Fo.pd_PD f) (.cons (Fo.pd_PD g) .nil)))
  | .qu w x f => .tup (.cons (.str _) (.cons (.str _) (.cons (Fo.pd_PD f) .nil)))
/-- a text of plain signs -/
abbrev SOk (s : Str) : Prop := PyData.strOk s = true
theorem sok_of {s : Str} (h : ∀ c ∈ s.cps.toList, c < 1000) : SOk s := by
  show PyData.strOk s = true
  unfold PyData.strOk
  rw [← Array.all_toList, List.all_eq_true]
  intro c hc
  have := h c hc
  simp; omega
theorem J3.sok (w : J3) : SOk w.s := by cases w <;> exact sok_of (by decide +kernel)
theorem Q2.sok (w : Q2) : SOk w.s := by cases w <;> exact sok_of (by decide +kernel)
theorem can_map {α : Type} (f : α → PyData) : ∀ l : List α, (∀ a ∈ l, (f a).canLay0 = true) → PyData.canLayAll0 (l.map f) = true
  | [], _ => by simp [PyData.canLayAll0]
  | a :: l, h => by simp [PyData.canLayAll0, h a List.mem_cons_self, can_map f l fun b hb => h b (List.mem_cons_of_mem _ hb)]
theorem dep_map {α : Type} (f : α → PyData) (n : Nat) : ∀ l : List α, (∀ a ∈ l, (f a).depth ≤ n) → PyData.depthAll (l.map f) ≤ n
  | [], _ => by simp [PyData.depthAll]
  | a :: l, h => by
    have h1 := h a List.mem_cons_self
    have h2 := dep_map f n l fun b hb => h b (List.mem_cons_of_mem _ hb)
    simp only [List.map_cons, PyData.depthAll]
    omega
theorem Su.pd_can {s : Su} (h : s.ok SOk) : s.pd.canLay0 = true := by
  have := can_map paP s.parts fun p hp => by simp [paP, PyData.canLay0, PyData.canLayAll0, h.1 p hp]
  simp [Su.pd, PyData.canLay0, PyData.canLayAll0, this]
theorem Su.pd_depth (s : Su) : s.pd.depth ≤ 3 := by
  have := dep_map paP 1 s.parts fun p _ => by simp [paP, PyData.depth, PyData.depthAll]
  simp only [Su.pd, PyData.depth, PyData.depthAll]
  omega
theorem Fo.pd_can : ∀ {F : Fo}, F.ok SOk SOk SOk → F.pd.canLay0 = true
  | .is t k, h => by simp [Fo.pd, PyData.canLay0, PyData.canLayAll0, show PyData.strOk "is" = true from sok_of (by decide +kernel), h.1, h.2]
  | .does d a b, h => by simp [Fo.pd, PyData.canLay0, PyData.canLayAll0, show PyData.strOk "does" = true from sok_of (by decide +kernel), h.1, h.2.1, h.2.2]
  | .same a b, h => by simp [Fo.pd, PyData.canLay0, PyData.canLayAll0, show PyData.strOk "same" = true from sok_of (by decide +kernel), h.1, h.2]
  | .least p q, h => by simp [Fo.pd, PyData.canLay0, PyData.canLayAll0, show PyData.strOk "least" = true from sok_of (by decide +kernel), Su.pd_can h.1, Su.pd_can h.2]
  | .fls, h => by simp [Fo.pd, PyData.canLay0, PyData.canLayAll0, show PyData.strOk "false" = true from sok_of (by decide +kernel)]
  | .neg f, h => by simp [Fo.pd, PyData.canLay0, PyData.canLayAll0, show PyData.strOk "not" = true from sok_of (by decide +kernel), Fo.pd_can (F := f) h]
  | .bin w f g, h => by simp [Fo.pd, PyData.canLay0, PyData.canLayAll0, show PyData.strOk w.s = true from w.sok, Fo.pd_can (F := f) h.1, Fo.pd_can (F := g) h.2]
  | .qu w x f, h => by simp [Fo.pd, PyData.canLay0, PyData.canLayAll0, show PyData.strOk w.s = true from w.sok, show PyData.strOk x = true from h.1, Fo.pd_can (F := f) h.2]
theorem Fo.pd_depth : ∀ F : Fo, F.pd.depth ≤ F.ht + 3
  | .is t k => by simp [Fo.pd, PyData.depth, PyData.depthAll, Fo.ht]
  | .does d a b => by simp [Fo.pd, PyData.depth, PyData.depthAll, Fo.ht]
  | .same a b => by simp [Fo.pd, PyData.depth, PyData.depthAll, Fo.ht]
  | .least p q => by have := p.pd_depth; have := q.pd_depth; simp only [Fo.pd, PyData.depth, PyData.depthAll, Fo.ht]; omega
  | .fls => by simp [Fo.pd, PyData.depth, PyData.depthAll, Fo.ht]
  | .neg f => by have := Fo.pd_depth f; simp only [Fo.pd, PyData.depth, PyData.depthAll, Fo.ht]; omega
  | .bin w f g => by have := Fo.pd_depth f; have := Fo.pd_depth g; simp only [Fo.pd, PyData.depth, PyData.depthAll, Fo.ht]; omega
  | .qu w x f => by have := Fo.pd_depth f; simp only [Fo.pd, PyData.depth, PyData.depthAll, Fo.ht]; omega
theorem Fo.shaped {F : Fo} (h : F.ok SOk SOk SOk) (hh : F.ht ≤ 60) : SeqAt.shaped F.pd = true := by
  unfold SeqAt.shaped
  rw [Fo.pd_can h]
  have := F.pd_depth
  simp; omega
end FO

set_option Elab.async false
set_option maxRecDepth 100000
set_option linter.unusedVariables false
/-! PG: trees of texts and numbers; forms as such. -/
namespace DL
open PySem PySem.Spec PyProof.Rows L2
theorem Sub.at {S S' : Store} {a : Addr} {o : DO} (h : Sub S S') (n : S a = none) : Sub S (put S' a o) := fun b u e => by
  rw [put_ne]
  · exact h b u e
  · rintro rfl
    rw [n] at e; cases e
theorem Sub.gen {S S' S3 : Store} {a : Addr} {o : DO} (h : Sub S S') (hS : put S' a o = S3) (n : S' a = none) : Sub S S3 := hS ▸ h.trans (Sub.new n)
theorem Sub.none' {S S' : Store} {a : Addr} (h : Sub S S') (n : S' a = none) : S a = none := by
  cases e : S a with
  | none => rfl
  | some o => rw [h a o e] at n; cases n
theorem gen_at {e : Addr} {S2 S3 : Store} {o : DO} (hS : put S2 e o = S3) : S3 e = some o := hS ▸ put_same
theorem gen_kp {e q : Addr} {S2 S3 : Store} {o u : DO} (hS : put S2 e o = S3) (n : S2 e = none) (h : S2 q = some u) : S3 q = some u := hS ▸ (put_ne (ne_new h n)).trans h
end DL
namespace FO
open PySem PySem.Spec PyProof.Rows L2 DL
/-- a tree of texts and numbers, less than n deep -/
inductive Pl : Nat → D → Prop
  | str {n : Nat} {x : Str} : SOk x → Pl n (.str x)
  | int {n : Nat} {i : Int} : Pl n (.int i)
  | tup {n : Nat} {ds : List D} : (∀ d ∈ ds, Pl n d) → ds.length ≤ 100 → Pl (n + 1) (.tup ds)
theorem Pl.le : ∀ {n m : Nat} {d : D}, Pl n d → n ≤ m → Pl m d := by
  intro n m d h
  induction h generalizing m with
  | str h => intro _; exact .str h
  | int => intro _; exact .int
  | tup h l ih =>
    intro hm
    obtain ⟨m, rfl⟩ : ∃ k, m = k + 1 := ⟨m - 1, by omega⟩
    exact .tup (fun d hd => ih d hd (by omega)) l
theorem Pl.all {n : Nat} {ds : List D} (h : Pl (n + 1) (.tup ds)) : ∀ d ∈ ds, Pl n d := by
  cases h with
  | tup h _ => exact h
theorem Pl.len {n : Nat} {ds : List D} (h : Pl n (.tup ds)) : ds.length ≤ 100 := by
  cases h with
  | tup _ l => exact l
theorem pds_all {S : Store} {n : Nat} : ∀ ds : List D, (∀ d ∈ ds, ∃ p, PD S d p ∧ p.canLay0 = true ∧ p.depth ≤ n) → ∃ ps, PDs S ds ps ∧ PyData.canLayAll0 ps = true ∧ PyData.depthAll ps ≤ n
  | [], _ => ⟨[], .nil, by simp [PyData.canLayAll0], by simp [PyData.depthAll]⟩
  | d :: ds, h => by
    obtain ⟨p, h1, h2, h3⟩ := h d List.mem_cons_self
    obtain ⟨ps, g1, g2, g3⟩ := pds_all ds fun e he => h e (List.mem_cons_of_mem _ he)
    exact ⟨p :: ps, .cons h1 g1, by simp [PyData.canLayAll0, h2, g2], by simp only [PyData.depthAll]; omega⟩
theorem Pl.pd {S : Store} {n : Nat} {d : D} (h : Pl n d) : ∃ p, PD S d p ∧ p.canLay0 = true ∧ p.depth ≤ n := by
  induction h with
  | str h => exact ⟨_, .str _, by simpa [PyData.canLay0] using h, by simp [PyData.depth]⟩
  | int => exact ⟨_, .int _, by simp [PyData.canLay0], by simp [PyData.depth]⟩
  | @tup n ds h l ih =>
    obtain ⟨ps, h1, h2, h3⟩ := pds_all ds ih
    exact ⟨.tuple ps, .tup h1, by simpa [PyData.canLay0] using h2, by simp only [PyData.depth]; omega⟩
def isS (d : D) (o : Str) : Bool := match d with
  | .str x => decide (x = o)
  | _ => false
theorem shaped_of {p : PyData} {n : Nat} (h : p.canLay0 = true) (d : p.depth ≤ n) (hn : n ≤ 60) : SeqAt.shaped p = true := by
  unfold SeqAt.shaped
  rw [h]
  simp; omega
/-- a part against a text -/
theorem eqPart {n : Nat} {d : D} {o : Str} {S : Store} {Q : KD} (h : Pl n d) (hn : n ≤ 60) (so : SOk o) (q : Q (.bl (isS d o)) S) : oEq d (.str o) S Q := by
  obtain ⟨p, h1, h2, h3⟩ := h.pd (S := S)
  have hs : SeqAt.shaped (.str o) = true := shaped_of (n := 0) (by simpa [PyData.canLay0] using so) (by simp [PyData.depth]) (by omega)
  cases h with
  | str h => exact q
  | int => 
    refine ⟨_, .str o, h1, .str o, shaped_of h2 h3 hn, hs, ?_⟩
    cases h1
    simp only [PyData.eqv]
    exact q
  | tup h l =>
    refine ⟨_, .str o, h1, .str o, shaped_of h2 h3 hn, hs, ?_⟩
    cases h1
    simp only [PyData.eqv]
    exact q
/-- two trees: some answer -/
theorem eqTrees {n m : Nat} {d e : D} {S : Store} {Q : KD} (h : Pl n d) (g : Pl m e) (hn : n ≤ 60) (hm : m ≤ 60) (q : ∀ b, Q (.bl b) S) : eqAny id d e S Q := by
  obtain ⟨p, h1, h2, h3⟩ := h.pd (S := S)
  obtain ⟨r, g1, g2, g3⟩ := g.pd (S := S)
  exact ⟨p, r, h1, g1, shaped_of h2 h3 hn, shaped_of g2 g3 hm, q _⟩
mutual
/-- o put otherwise -/
def swD (o n : Str) : D → D
  | .str x => .str (if x = o then n else x)
  | .tup ds => .tup (swDs o n ds)
  | .int i => .int i
  | .non => .non
  | .bl b => .bl b
  | .ref a => .ref a
  | .ty t => .ty t
  | .rol ds => .rol ds
  | .ftup ds => .ftup ds
def swDs (o n : Str) : List D → List D
  | [] => []
  | d :: ds => swD o n d :: swDs o n ds
/-- the texts and numbers in it, counted -/
def lvD : D → Nat
  | .tup ds => lvDs ds
  | _ => 1
def lvDs : List D → Nat
  | [] => 0
  | d :: ds => lvD d + lvDs ds
def dpD : D → Nat
  | .tup ds => dpDs ds + 1
  | _ => 0
def dpDs : List D → Nat
  | [] => 0
  | d :: ds => max (dpD d) (dpDs ds)
end
theorem swDs_map (o n : Str) : ∀ ds, swDs o n ds = ds.map (swD o n)
  | [] => by simp [swDs]
  | d :: ds => by simp [swDs, swDs_map o n ds]
theorem lvDs_sum : ∀ ds, lvDs ds = (ds.map lvD).sum
  | [] => by simp [lvDs]
  | d :: ds => by simp [lvDs, lvDs_sum ds]
theorem dpDs_le {b : Nat} : ∀ ds, (∀ d ∈ ds, dpD d ≤ b) → dpDs ds ≤ b
  | [], _ => by simp [dpDs]
  | d :: ds, h => by
    have := h d List.mem_cons_self
    have := dpDs_le ds fun e he => h e (List.mem_cons_of_mem _ he)
    simp only [dpDs]
    omega
theorem le_dpDs : ∀ {ds : List D} {d : D}, d ∈ ds → dpD d ≤ dpDs ds
  | d :: ds, _, h => by
    simp only [dpDs]
    rcases List.mem_cons.mp h with rfl | h
    · omega
    · have := le_dpDs h
      omega
theorem Pl.sw {n : Nat} {d : D} {o w : Str} (h : Pl n d) (hw : SOk w) : Pl n (swD o w d) := by
  induction h with
  | str h =>
    simp only [swD]
    split
    · exact .str hw
    · exact .str h
  | int => simp only [swD]; exact .int
  | @tup n ds h l ih =>
    simp only [swD]
    rw [swDs_map]
    refine .tup (fun d hd => ?_) (by rw [List.length_map]; exact l)
    obtain ⟨e, he, rfl⟩ := List.mem_map.mp hd
    exact ih e he
/-! ### forms -/
theorem Su.pl {s : Su} (h : s.ok SOk) : Pl 3 s.d := by
  refine .tup (fun d hd => ?_) (by simp)
  simp only [List.mem_cons, List.not_mem_nil, or_false] at hd
  rcases hd with rfl | rfl
  · refine .tup (fun d hd => ?_) (by rw [List.length_map]; have := h.2; omega)
    obtain ⟨p, hp, rfl⟩ := List.mem_map.mp hd
    refine .tup (fun d hd => ?_) (by simp)
    simp only [List.mem_cons, List.not_mem_nil, or_false] at hd
    rcases hd with rfl | rfl
    · exact .str (h.1 p hp)
    · exact .int
  · exact .int
theorem pl2 {n : Nat} {a b : D} (h1 : Pl n a) (h2 : Pl n b) : Pl (n + 1) (.tup [a, b]) := .tup (fun d hd => by
  simp only [List.mem_cons, List.not_mem_nil, or_false] at hd
  rcases hd with rfl | rfl
  · exact h1
  · exact h2) (by simp)
theorem pl3 {n : Nat} {a b c : D} (h1 : Pl n a) (h2 : Pl n b) (h3 : Pl n c) : Pl (n + 1) (.tup [a, b, c]) := .tup (fun d hd => by
  simp only [List.mem_cons, List.not_mem_nil, or_false] at hd
  rcases hd with rfl | rfl | rfl
  · exact h1
  · exact h2
  · exact h3) (by simp)
theorem sokL (s : String) (h : ∀ c ∈ (Str.ofString s).cps.toList, c < 1000) : SOk (Str.ofString s) := sok_of h
theorem Fo.pl : ∀ {F : Fo}, F.ok SOk SOk SOk → Pl (F.ht + 3) F.d
  | .is t k, h => pl3 (.str (sok_of (by decide +kernel))) (.str h.1) (.str h.2)
  | .does d a b, h => .tup (fun d hd => by
      simp only [List.mem_cons, List.not_mem_nil, or_false] at hd
      rcases hd with rfl | rfl | rfl | rfl
      · exact .str (sok_of (by decide +kernel))
      · exact .str h.1
      · exact .str h.2.1
      · exact .str h.2.2) (by simp)
  | .same a b, h => pl3 (.str (sok_of (by decide +kernel))) (.str h.1) (.str h.2)
  | .least p q, h => pl3 (.str (sok_of (by decide +kernel))) (Su.pl h.1) (Su.pl h.2)
  | .fls, h => .tup (fun d hd => by
      simp only [List.mem_cons, List.not_mem_nil, or_false] at hd
      rcases hd with rfl
      exact .str (sok_of (by decide +kernel))) (by simp)
  | .neg f, h => (pl2 (.str (sok_of (by decide +kernel))) ((Fo.pl (F := f) h))).le (Nat.le_of_eq (by simp only [Fo.ht]; try omega))
  | .bin w f g, h => pl3 (n := (max f.ht g.ht) + 3) (.str w.sok) ((Fo.pl (F := f) h.1).le (by omega)) ((Fo.pl (F := g) h.2).le (by omega)) |>.le (Nat.le_of_eq (by simp only [Fo.ht]; try omega))
  | .qu w x f, h => (pl3 (.str w.sok) (.str h.1) (Fo.pl (F := f) h.2)).le (Nat.le_of_eq (by simp only [Fo.ht]; try omega))
theorem Fo.dp : ∀ F : Fo, F.ht ≤ dpD F.d
  | .is t k => by simp [Fo.ht, Fo.d, dpD]
  | .does d a b => by simp [Fo.ht, Fo.d, dpD]
  | .same a b => by simp [Fo.ht, Fo.d, dpD]
  | .least p q => by simp [Fo.ht, Fo.d, dpD]
  | .fls => by simp [Fo.ht, Fo.d, dpD]
  | .neg f => by have := Fo.dp f; simp only [Fo.ht, Fo.d, dpD, dpDs]; omega
  | .bin w f g => by have := Fo.dp f; have := Fo.dp g; simp only [Fo.ht, Fo.d, dpD, dpDs]; omega
  | .qu w x f => by have := Fo.dp f; simp only [Fo.ht, Fo.d, dpD, dpDs]; omega
theorem lv_pa : ∀ l : List (Str × Int), lvDs (l.map paD) = 2 * l.length
  | [] => by simp [lvDs]
  | p :: l => by
    have := lv_pa l
    simp only [List.map_cons, lvDs, paD, lvD, List.length_cons]
    omega
theorem Su.lv {s : Su} (h : s.parts.length ≤ 6) : lvD s.d ≤ 13 := by
  simp only [Su.d, lvD, lvDs]
  rw [lv_pa]
  omega
theorem Fo.lv {T K W : Str → Prop} : ∀ {F : Fo}, F.ok T K W → lvD F.d + 2 ≤ 30 * 2 ^ (F.ht - 1)
  | .is t k, h => by simp [Fo.ht, Fo.d, lvD, lvDs]
  | .does d a b, h => by simp [Fo.ht, Fo.d, lvD, lvDs]
  | .same a b, h => by simp [Fo.ht, Fo.d, lvD, lvDs]
  | .least p q, h => by
    have := Su.lv h.1.2
    have := Su.lv h.2.2
    simp only [Fo.ht, Fo.d, lvD, lvDs]
    omega
  | .fls, h => by simp [Fo.ht, Fo.d, lvD, lvDs]
  | .neg f, h => by
    have h1 := Fo.lv (F := f) h
    have h2 := f.ht_pos
    have e : f.ht + 1 - 1 = f.ht - 1 + 1 := by omega
    simp only [Fo.ht, Fo.d, lvD, lvDs, e, Nat.pow_succ]
    have : 1 ≤ 2 ^ (f.ht - 1) := Nat.one_le_two_pow
    omega
  | .bin w f g, h => by
    have h1 := Fo.lv (F := f) h.1
    have h2 := Fo.lv (F := g) h.2
    have h3 := f.ht_pos
    have e : max f.ht g.ht + 1 - 1 = max f.ht g.ht - 1 + 1 := by omega
    have p1 : 2 ^ (f.ht - 1) ≤ 2 ^ (max f.ht g.ht - 1) := Nat.pow_le_pow_right (by decide) (by omega)
    have p2 : 2 ^ (g.ht - 1) ≤ 2 ^ (max f.ht g.ht - 1) := Nat.pow_le_pow_right (by decide) (by omega)
    simp only [Fo.ht, Fo.d, lvD, lvDs, e, Nat.pow_succ]
    omega
  | .qu w x f, h => by
    have h1 := Fo.lv (F := f) h.2
    have h2 := f.ht_pos
    have e : f.ht + 1 - 1 = f.ht - 1 + 1 := by omega
    simp only [Fo.ht, Fo.d, lvD, lvDs, e, Nat.pow_succ]
    have : 1 ≤ 2 ^ (f.ht - 1) := Nat.one_le_two_pow
    omega
theorem Fo.lv10 {T K W : Str → Prop} {F : Fo} (h : F.ok T K W) (hh : F.ht ≤ 11) : lvD F.d ≤ 40000 := by
  have := Fo.lv h
  have : 2 ^ (F.ht - 1) ≤ 2 ^ 10 := Nat.pow_le_pow_right (by decide) (by omega)
  omega
/-! ### names put otherwise -/
def rp (o n x : Str) : Str := if x = o then n else x
def Fo.sw (o n : Str) : Fo → Fo
  | .is t k => .is (rp o n t) k
  | .does d a b => .does d (rp o n a) (rp o n b)
  | .same a b => .same (rp o n a) (rp o n b)
  | .least p q => .least p q
  | .fls => .fls
  | .neg f => .neg (f.sw o n)
  | .bin w f g => .bin w (f.sw o n) (g.sw o n)
  | .qu w x f => .qu w (rp o n x) (f.sw o n)
def Fo.pt (o n : Str) : Fo → Fo
  | .is t k => .is (rp o n t) k
  | .does d a b => .does d (rp o n a) (rp o n b)
  | .same a b => .same (rp o n a) (rp o n b)
  | .least p q => .least p q
  | .fls => .fls
  | .neg f => .neg (f.pt o n)
  | .bin w f g => .bin w (f.pt o n) (g.pt o n)
  | .qu w x f => if x = o then .qu w x f else .qu w x (f.pt o n)
theorem Fo.sw_ht (o n : Str) : ∀ F : Fo, (F.sw o n).ht = F.ht
  | .is t k => rfl
  | .does d a b => rfl
  | .same a b => rfl
  | .least p q => rfl
  | .fls => rfl
  | .neg f => by simp only [Fo.sw, Fo.ht, Fo.sw_ht o n f]
  | .bin w f g => by simp only [Fo.sw, Fo.ht, Fo.sw_ht o n f, Fo.sw_ht o n g]
  | .qu w x f => by simp only [Fo.sw, Fo.ht, Fo.sw_ht o n f]
theorem Fo.pt_ht (o n : Str) : ∀ F : Fo, (F.pt o n).ht = F.ht
  | .is t k => rfl
  | .does d a b => rfl
  | .same a b => rfl
  | .least p q => rfl
  | .fls => rfl
  | .neg f => by simp only [Fo.pt, Fo.ht, Fo.pt_ht o n f]
  | .bin w f g => by simp only [Fo.pt, Fo.ht, Fo.pt_ht o n f, Fo.pt_ht o n g]
  | .qu w x f => by
    simp only [Fo.pt]
    split
    · rfl
    · simp only [Fo.ht, Fo.pt_ht o n f]
theorem rp_ok {T : Str → Prop} {o n x : Str} (hn : T n) (hx : T x) : T (rp o n x) := by
  unfold rp
  split
  · exact hn
  · exact hx
theorem Fo.sw_ok {T K W : Str → Prop} {o n : Str} (hn : T n) : ∀ {F : Fo}, F.ok T K W → (F.sw o n).ok T K W
  | .is t k, h => ⟨rp_ok hn h.1, h.2⟩
  | .does d a b, h => ⟨h.1, rp_ok hn h.2.1, rp_ok hn h.2.2⟩
  | .same a b, h => ⟨rp_ok hn h.1, rp_ok hn h.2⟩
  | .least p q, h => h
  | .fls, h => trivial
  | .neg f, h => Fo.sw_ok hn (F := f) h
  | .bin w f g, h => ⟨Fo.sw_ok hn (F := f) h.1, Fo.sw_ok hn (F := g) h.2⟩
  | .qu w x f, h => ⟨rp_ok hn h.1, Fo.sw_ok hn (F := f) h.2⟩
theorem Fo.pt_ok {T K W : Str → Prop} {o n : Str} (hn : T n) : ∀ {F : Fo}, F.ok T K W → (F.pt o n).ok T K W
  | .is t k, h => ⟨rp_ok hn h.1, h.2⟩
  | .does d a b, h => ⟨h.1, rp_ok hn h.2.1, rp_ok hn h.2.2⟩
  | .same a b, h => ⟨rp_ok hn h.1, rp_ok hn h.2⟩
  | .least p q, h => h
  | .fls, h => trivial
  | .neg f, h => Fo.pt_ok hn (F := f) h
  | .bin w f g, h => ⟨Fo.pt_ok hn (F := f) h.1, Fo.pt_ok hn (F := g) h.2⟩
  | .qu w x f, h => by
    simp only [Fo.pt]
    split
    · exact h
    · exact ⟨h.1, Fo.pt_ok hn (F := f) h.2⟩
/-- no head of a form -/
def NoHd (o : Str) : Prop := ∀ h ∈ (["is", "does", "same", "least", "false", "not", "and", "or", "if", "every", "some"] : List Str), h ≠ o
theorem NoHd.j {o : Str} (h : NoHd o) (w : J3) : w.s ≠ o := h _ (by cases w <;> simp [J3.s])
theorem NoHd.q {o : Str} (h : NoHd o) (w : Q2) : w.s ≠ o := h _ (by cases w <;> simp [Q2.s])
theorem sw_pa {K : Str → Prop} {o n : Str} (hk : ∀ k, K k → k ≠ o) : ∀ l : List (Str × Int), (∀ p ∈ l, K p.1) → (l.map paD).map (FO.swD o n) = l.map paD
  | [], _ => rfl
  | p :: l, h => by
    have h1 := hk _ (h p List.mem_cons_self)
    have := sw_pa hk (n := n) l fun x hx => h x (List.mem_cons_of_mem _ hx)
    simp only [List.map_cons, this, paD, FO.swD, swDs, if_neg h1]
theorem Su.swD {K : Str → Prop} {o n : Str} (hk : ∀ k, K k → k ≠ o) {s : Su} (h : s.ok K) : FO.swD o n s.d = s.d := by
  simp only [Su.d, FO.swD, swDs]
  rw [swDs_map, sw_pa hk _ h.1]
theorem Fo.swD {T K W : Str → Prop} {o n : Str} (ho : NoHd o) (hk : ∀ k, K k → k ≠ o) (hw : ∀ k, W k → k ≠ o) : ∀ {F : Fo}, F.ok T K W → FO.swD o n F.d = (F.sw o n).d
  | .is t k, h => by
    have h1 := ho "is" (by simp)
    simp only [Fo.d, Fo.sw, FO.swD, swDs, rp, if_neg h1, if_neg (hk _ h.2)]
  | .does d a b, h => by
    have h1 := ho "does" (by simp)
    simp only [Fo.d, Fo.sw, FO.swD, swDs, rp, if_neg h1, if_neg (hw _ h.1)]
  | .same a b, h => by
    have h1 := ho "same" (by simp)
    simp only [Fo.d, Fo.sw, FO.swD, swDs, rp, if_neg h1]
  | .least p q, h => by
    have h1 := ho "least" (by simp)
    simp only [Fo.d, Fo.sw, FO.swD, swDs, if_neg h1, Su.swD hk h.1, Su.swD hk h.2]
  | .fls, h => by
    have h1 := ho "false" (by simp)
    simp only [Fo.d, Fo.sw, FO.swD, swDs, if_neg h1]
  | .neg f, h => by
    have h1 := ho "not" (by simp)
    simp only [Fo.d, Fo.sw, FO.swD, swDs, if_neg h1, Fo.swD ho hk hw (F := f) h]
  | .bin w f g, h => by
    simp only [Fo.d, Fo.sw, FO.swD, swDs, if_neg (ho.j w), Fo.swD ho hk hw (F := f) h.1, Fo.swD ho hk hw (F := g) h.2]
  | .qu w x f, h => by
    simp only [Fo.d, Fo.sw, FO.swD, swDs, rp, if_neg (ho.q w), Fo.swD ho hk hw (F := f) h.2]
/-- the parts of a form -/
def Fo.ps : Fo → List (Str ⊕ Fo)
  | .is t k => [.inl "is", .inl t, .inl k]
  | .does d a b => [.inl "does", .inl d, .inl a, .inl b]
  | .same a b => [.inl "same", .inl a, .inl b]
  | .least p q => []
  | .fls => [.inl "false"]
  | .neg f => [.inl "not", .inr f]
  | .bin w f g => [.inl w.s, .inr f, .inr g]
  | .qu w x f => [.inl w.s, .inl x, .inr f]
def psD : Str ⊕ Fo → D
  | .inl s => .str s
  | .inr f => f.d
def ptP (o n : Str) : Str ⊕ Fo → D
  | .inl s => .str (rp o n s)
  | .inr f => (f.pt o n).d
/-- nothing is put in it -/
def Fo.stop (o : Str) : Fo → Bool
  | .least _ _ => true
  | .fls => true
  | .qu _ x _ => decide (x = o)
  | _ => false
theorem Fo.ps_d {F : Fo} {o : Str} (h : F.stop o = false) : F.d = .tup (F.ps.map psD) := by
  cases F <;> first | rfl | (simp [Fo.stop] at h)
theorem Fo.pt_stop {F : Fo} {o n : Str} (h : F.stop o = true) : (F.pt o n) = F := by
  cases F <;> simp_all [Fo.stop, Fo.pt]
theorem Fo.pt_d {T K W : Str → Prop} {F : Fo} {o n : Str} (ho : NoHd o) (hk : ∀ k, K k → k ≠ o) (hw : ∀ k, W k → k ≠ o) (h : F.ok T K W) (hs : F.stop o = false) : (F.pt o n).d = .tup (F.ps.map (ptP o n)) := by
  cases F with
  | is t k => simp only [Fo.pt, Fo.d, Fo.ps, List.map, ptP, rp, if_neg (ho "is" (by simp)), if_neg (hk _ h.2)]
  | does d a b => simp only [Fo.pt, Fo.d, Fo.ps, List.map, ptP, rp, if_neg (ho "does" (by simp)), if_neg (hw _ h.1)]
  | same a b => simp only [Fo.pt, Fo.d, Fo.ps, List.map, ptP, rp, if_neg (ho "same" (by simp))]
  | least p q => simp [Fo.stop] at hs
  | fls => simp [Fo.stop] at hs
  | neg f => simp only [Fo.pt, Fo.d, Fo.ps, List.map, ptP, rp, if_neg (ho "not" (by simp))]
  | bin w f g => simp only [Fo.pt, Fo.d, Fo.ps, List.map, ptP, rp, if_neg (ho.j w)]
  | qu w x f =>
    have hx : x ≠ o := by simpa [Fo.stop] using hs
    simp only [Fo.pt, if_neg hx, Fo.d, Fo.ps, List.map, ptP, rp, if_neg (ho.q w)]
end FO

set_option Elab.async false
set_option maxRecDepth 100000
set_option linter.unusedVariables false
/-! PL: lines of an argument as plain things. -/
namespace FO
open PySem PySem.Spec PyProof.Rows L2 DL
inductive Rs
  /-- given, supposed, itself -/
  | w0 (w : Str)
  | w1 (w : Str) (k : Nat)
  | w2 (w : Str) (j k : Nat)
  | wn (w : Str) (k : Nat) (x : Str)
  | any (x : Str)
  | called (x : Str) (k : Nat)
  | sums (ks : List Nat) (ts : List Int)
  | bx (w : Str) (i : Nat)
  | cases (k i n : Nat)
def inD (k : Nat) : D := .int (k : Nat)
def Rs.d : Rs → D
  | .w0 w => .tup [.str w]
  | .w1 w k => .tup [.str w, .int (k : Nat)]
  | .w2 w j k => .tup [.str w, .int (j : Nat), .int (k : Nat)]
  | .wn w k x => .tup [.str w, .int (k : Nat), .str x]
  | .any x => .tup [.str "any", .str x]
  | .called x k => .tup [.str "called", .str x, .int (k : Nat)]
  | .sums ks ts => .tup [.str "sums", .tup (ks.map inD), .tup (ts.map D.int)]
  | .bx w i => .tup [.str w, .int (i : Nat)]
  | .cases k i n => .tup [.str "cases", .int (k : Nat), .int (i : Nat), .int (n : Nat)]
def W0 : List Str := ["given", "supposed", "itself"]
def W1 : List Str := ["left", "right", "one", "turned", "again", "orleft", "orright"]
def W2 : List Str := ["then", "put", "both", "absurd"]
def WN : List Str := ["at", "such"]
def WB : List Str := ["soif", "not", "contrary", "forany", "forsome"]
def Rs.ok : Rs → Prop
  | .w0 w => w ∈ W0
  | .w1 w _ => w ∈ W1
  | .w2 w _ _ => w ∈ W2
  | .wn w _ _ => w ∈ WN
  | .sums ks _ => ks.length ≤ 6
  | .bx w _ => w ∈ WB
  | _ => True
/-- the lines that it names -/
def Rs.nums : Rs → List Nat
  | .w0 _ => []
  | .w1 _ k => [k]
  | .w2 _ j k => [j, k]
  | .wn _ k _ => [k]
  | .any _ => []
  | .called _ k => [k]
  | .sums ks _ => ks
  | .bx _ i => [i]
  | .cases k i n => [k, i, n]
/-- the openers of the boxes that it names -/
def Rs.bxs : Rs → List Nat
  | .bx _ i => [i]
  | .cases _ i n => [i, n]
  | _ => []
def Rs.opens : Rs → Bool
  | .w0 w => decide (w = "supposed")
  | .any _ => true
  | .called _ _ => true
  | _ => false
structure Ln where
  lv : Nat
  f : Fo
  r : Rs
def Ln.d (n : Ln) : D := .tup [.int (n.lv : Nat), n.f.d, n.r.d]
/-- a step's line: no box -/
def Rs.plain (r : Rs) (n : Nat) : Prop := r.ok ∧ r.opens = false ∧ r.bxs = [] ∧ ∀ k ∈ r.nums, 1 ≤ k ∧ k ≤ n
def LvAt (L : List Ln) (k : Nat) (P : Ln → Prop) : Prop := ∃ n, L[k - 1]? = some n ∧ P n
/-- the box that opens at i is done for line k: e is its last line -/
def BoxOk (L : List Ln) (i k : Nat) : Prop := ∃ e ni nk, 1 ≤ i ∧ i ≤ e ∧ e < k ∧ L[i - 1]? = some ni ∧ L[k - 1]? = some nk ∧ ni.r.opens = true ∧ ni.lv = nk.lv + 1 ∧
  (∀ m nm, i < m → m ≤ e → L[m - 1]? = some nm → ni.lv ≤ nm.lv ∧ ¬ (nm.lv = ni.lv ∧ nm.r.opens = true)) ∧ LvAt L e (fun n => n.lv = ni.lv) ∧
  LvAt L (e + 1) (fun n => n.lv < ni.lv ∨ (n.lv = ni.lv ∧ n.r.opens = true)) ∧ (∀ m nm, i ≤ m → m < k → L[m - 1]? = some nm → ni.lv ≤ nm.lv)
/-- a line of this level may stand behind -/
def LastLe (L : List Ln) (m : Nat) : Prop := (L = [] → m = 0) ∧ ∀ z, L.getLast? = some z → m ≤ z.lv
/-- line k is right in its place -/
def LineOk (L : List Ln) (k : Nat) : Prop := ∃ n, L[k - 1]? = some n ∧ n.r.ok ∧ (∀ j ∈ n.r.nums, 1 ≤ j ∧ j < k) ∧ (∀ i ∈ n.r.bxs, BoxOk L i k ∧ n.r.opens = false) ∧ (n.r.opens = true → 1 ≤ n.lv) ∧ LastLe (L.take (k - 1)) (if n.r.opens = true then n.lv - 1 else n.lv)
def Gd (L : List Ln) : Prop := ∀ k, 1 ≤ k → k ≤ L.length → LineOk L k
theorem ap_get {L : List Ln} {M : List Ln} {k : Nat} (h1 : 1 ≤ k) (h : k ≤ L.length) : (L ++ M)[k - 1]? = L[k - 1]? := List.getElem?_append_left (by omega)
theorem BoxOk.app {L M : List Ln} {i k : Nat} (hk : k ≤ L.length) (h : BoxOk L i k) : BoxOk (L ++ M) i k := by
  obtain ⟨e, ni, nk, h1, h2, h3, h4, h5, h6, h7, h8, ⟨n9, a9, b9⟩, ⟨n10, a10, b10⟩, h11⟩ := h
  refine ⟨e, ni, nk, h1, h2, h3, by rw [ap_get (by omega) (by omega)]; exact h4, by rw [ap_get (by omega) (by omega)]; exact h5, h6, h7, fun m nm a b c => ?_, ⟨n9, by rw [ap_get (by omega) (by omega)]; exact a9, b9⟩,
    ⟨n10, by rw [ap_get (by omega) (by omega)]; exact a10, b10⟩, fun m nm a b c => ?_⟩
  · rw [ap_get (by omega) (by omega)] at c; exact h8 m nm a b c
  · rw [ap_get (by omega) (by omega)] at c; exact h11 m nm a b c
theorem LineOk.app {L M : List Ln} {k : Nat} (h1 : 1 ≤ k) (hk : k ≤ L.length) (h : LineOk L k) : LineOk (L ++ M) k := by
  obtain ⟨n, a, b, c, d, o, t⟩ := h
  exact ⟨n, by rw [ap_get h1 hk]; exact a, b, c, fun i hi => ⟨(d i hi).1.app hk, (d i hi).2⟩, o, by rw [List.take_append_of_le_length (by omega)]; exact t⟩
theorem Gd.snoc {L : List Ln} {n : Ln} (h : Gd L) (g : LineOk (L ++ [n]) (L.length + 1)) : Gd (L ++ [n]) := fun k h1 hk => by
  rw [List.length_append, List.length_singleton] at hk
  rcases Nat.lt_or_ge L.length k with z | z
  · have : k = L.length + 1 := by omega
    exact this ▸ g
  · exact (h k h1 z).app h1 z
theorem last_get {L : List Ln} {n : Ln} : (L ++ [n])[L.length + 1 - 1]? = some n := by simp
theorem take_last {L : List Ln} {n : Ln} : (L ++ [n]).take (L.length + 1 - 1) = L := by simp
/-- a plain line behind -/
theorem Gd.plain {L : List Ln} {n : Ln} (h : Gd L) (p : n.r.plain L.length) (hl : LastLe L n.lv) : Gd (L ++ [n]) :=
  h.snoc ⟨n, last_get, p.1, fun j hj => by have := p.2.2.2 j hj; omega, (fun i hi => by rw [p.2.2.1] at hi; cases hi), (fun e => by rw [p.2.1] at e; cases e), by rw [take_last, p.2.1]; exact hl⟩
/-- an opener behind -/
theorem Gd.opener {L : List Ln} {n : Ln} (h : Gd L) (o : n.r.opens = true) (k : n.r.ok) (l : 1 ≤ n.lv) (hl : LastLe L (n.lv - 1)) (hn : ∀ j ∈ n.r.nums, 1 ≤ j ∧ j ≤ L.length) : Gd (L ++ [n]) :=
  h.snoc ⟨n, last_get, k, fun j hj => by have := hn j hj; omega, (fun i hi => by
    cases e : n.r <;> rw [e] at hi o <;> simp [Rs.bxs, Rs.opens] at hi o), fun _ => l, by rw [take_last, o]; exact hl⟩
/-- a box behind: opener, inner lines, the line that closes it -/
theorem box_ok {L M : List Ln} {o n : Ln} (ho : o.r.opens = true) (hM : ∀ m ∈ M, o.lv ≤ m.lv ∧ ¬ (m.lv = o.lv ∧ m.r.opens = true)) (hl : ∀ z, (o :: M).getLast? = some z → z.lv = o.lv) (hn : n.lv + 1 = o.lv) :
    BoxOk (L ++ o :: M ++ [n]) (L.length + 1) ((L ++ o :: M).length + 1) := by
  have eo : (L ++ o :: M ++ [n])[L.length + 1 - 1]? = some o := by simp
  have en : (L ++ o :: M ++ [n])[(L ++ o :: M).length + 1 - 1]? = some n := by simp
  have inn : ∀ m nm, L.length + 1 < m → m ≤ L.length + 1 + M.length → (L ++ o :: M ++ [n])[m - 1]? = some nm → nm ∈ M := fun m nm a b c => by
    have e : m - 1 = L.length + (m - L.length - 2 + 1) := by omega
    rw [List.append_assoc, e, List.getElem?_append_right (by omega), Nat.add_sub_cancel_left, List.cons_append, List.getElem?_cons_succ, List.getElem?_append_left (by omega)] at c
    exact List.mem_of_getElem? c
  have hlen : (L ++ o :: M).length = L.length + 1 + M.length := by simp [Nat.add_assoc, Nat.add_comm 1]
  refine ⟨L.length + 1 + M.length, o, n, by omega, by omega, by omega, eo, en, ho, by omega, fun m nm a b c => hM nm (inn m nm a b c), ?_, ?_, fun m nm a b c => ?_⟩
  · obtain ⟨z, ez⟩ : ∃ z, (o :: M).getLast? = some z := ⟨_, List.getLast?_eq_some_getLast (by simp)⟩
    refine ⟨z, ?_, hl z ez⟩
    rw [List.append_assoc, List.getElem?_append_right (by omega), List.getElem?_append_left (by simp)]
    rw [List.getLast?_eq_getElem?] at ez
    rw [← ez]
    congr 1
    simp
    try omega
  · exact ⟨n, by rw [show L.length + 1 + M.length + 1 = (L ++ o :: M).length + 1 by omega]; exact en, .inl (by omega)⟩
  · rcases Nat.lt_or_ge (L.length + 1) m with z | z
    · exact (hM nm (inn m nm z (by omega) c)).1
    · have : m = L.length + 1 := by omega
      subst this
      rw [eo] at c; cases c
      exact Nat.le_refl _
end FO

set_option Elab.async false
set_option maxRecDepth 100000
set_option linter.unusedVariables false
/-! P61: the needed lines, in plain terms. -/
namespace FO
open PySem PySem.Spec PyProof.Rows L2 DL
def dLn : Ln := ⟨0, .fls, .w0 "given"⟩
/-- line k, counted from 1 -/
def ln (L : List Ln) (k : Nat) : Ln := L.getD (k - 1) dLn
theorem ln_at {L : List Ln} {k : Nat} {n : Ln} (h : L[k - 1]? = some n) : ln L k = n := by
  unfold ln
  rw [List.getD_eq_getElem?_getD, h]
  rfl
theorem at_ln {L : List Ln} {k : Nat} (h1 : 1 ≤ k) (h : k ≤ L.length) : L[k - 1]? = some (ln L k) := by
  unfold ln
  rw [List.getD_eq_getElem?_getD, List.getElem?_eq_getElem (by omega)]
  rfl
/-- does n end the box that o opens -/
def ends (o n : Ln) : Bool := if n.lv = o.lv then n.r.opens else decide (n.lv < o.lv)
/-- the openers of line k, the law's way -/
def stk (L : List Ln) : Nat → List Nat
  | 0 => []
  | k + 1 => if (ln L (k + 1)).r.opens = true then (stk L k).take ((ln L (k + 1)).lv - 1) ++ [k + 1] else (stk L k).take (ln L (k + 1)).lv
/-- .. the program's way -/
def ops (L : List Ln) : Nat → List Nat
  | 0 => []
  | k + 1 => (ops L k).filter (fun i => !ends (ln L i) (ln L (k + 1))) ++ (if (ln L (k + 1)).r.opens = true then [k + 1] else [])
/-- levels one by one -/
def Lad (L : List Ln) : Nat → List Nat → Prop
  | _, [] => True
  | a, i :: s => (ln L i).lv = a ∧ Lad L (a + 1) s
theorem Lad.take {L : List Ln} : ∀ {a : Nat} {s : List Nat} {m : Nat}, Lad L a s → Lad L a (s.take m)
  | _, [], _, _ => by simp [Lad]
  | _, _ :: _, 0, _ => trivial
  | _, _ :: _, m + 1, h => ⟨h.1, h.2.take⟩
theorem Lad.snoc {L : List Ln} {k : Nat} : ∀ {a : Nat} {s : List Nat}, Lad L a s → (ln L k).lv = a + s.length → Lad L a (s ++ [k])
  | _, [], _, e => ⟨e, trivial⟩
  | _, _ :: _, h, e => ⟨h.1, h.2.snoc (by rw [e, List.length_cons]; omega)⟩
theorem Lad.mem {L : List Ln} {i : Nat} : ∀ {a : Nat} {s : List Nat}, Lad L a s → i ∈ s → a ≤ (ln L i).lv ∧ (ln L i).lv < a + s.length
  | _, j :: s, h, m => by
    rcases List.mem_cons.mp m with rfl | m
    · have := h.1
      rw [List.length_cons]
      omega
    · have := h.2.mem m
      rw [List.length_cons]
      omega
theorem Lad.filter {L : List Ln} (b : Nat → Bool) (m : Nat) : ∀ {a : Nat} {s : List Nat}, Lad L a s → (∀ i ∈ s, b i = decide ((ln L i).lv < m)) → s.filter b = s.take (m - a)
  | _, [], _, _ => by simp
  | a, i :: s, h, hb => by
    have h1 := hb i List.mem_cons_self
    rw [h.1] at h1
    by_cases c : a < m
    · have e : m - a = (m - (a + 1)) + 1 := by omega
      rw [List.filter_cons, if_pos (by rw [h1]; simpa using c), e, List.take_succ_cons]
      rw [h.2.filter b m fun j hj => hb j (List.mem_cons_of_mem _ hj)]
    · rw [List.filter_cons, if_neg (by rw [h1]; simpa using c), show m - a = 0 by omega, List.take_zero]
      have := h.2.filter b m fun j hj => hb j (List.mem_cons_of_mem _ hj)
      rw [this, show m - (a + 1) = 0 by omega, List.take_zero]
structure StkOk (L : List Ln) (k : Nat) : Prop where
  lad : Lad L 1 (stk L k)
  len : 1 ≤ k → (stk L k).length = (ln L k).lv
  len0 : k = 0 → stk L k = []
  rng : ∀ i ∈ stk L k, 1 ≤ i ∧ i ≤ k ∧ (ln L i).r.opens = true
  same : ops L k = stk L k
theorem last_take {L : List Ln} {k : Nat} (h1 : 1 ≤ k) (h : k ≤ L.length) : (L.take k).getLast? = some (ln L k) := by
  rw [List.getLast?_eq_getElem?, List.length_take, Nat.min_eq_left h, List.getElem?_take_of_lt (by omega)]
  exact at_ln h1 h
theorem Gd.at' {L : List Ln} (g : Gd L) {k : Nat} (h1 : 1 ≤ k) (h : k ≤ L.length) : (ln L k).r.ok ∧ (∀ j ∈ (ln L k).r.nums, 1 ≤ j ∧ j < k) ∧ (∀ i ∈ (ln L k).r.bxs, BoxOk L i k ∧ (ln L k).r.opens = false) ∧ ((ln L k).r.opens = true → 1 ≤ (ln L k).lv) ∧
    LastLe (L.take (k - 1)) (if (ln L k).r.opens = true then (ln L k).lv - 1 else (ln L k).lv) := by
  obtain ⟨n, e, r⟩ := g k h1 h
  rw [ln_at e]
  exact r
theorem stk_ok {L : List Ln} (g : Gd L) : ∀ k, k ≤ L.length → StkOk L k
  | 0, _ => ⟨trivial, fun h => by omega, fun _ => rfl, fun i hi => by simp [stk] at hi, rfl⟩
  | k + 1, h => by
    have ih := stk_ok g k (by omega)
    obtain ⟨_, _, _, ho, hl⟩ := g.at' (show 1 ≤ k + 1 by omega) h
    rw [Nat.add_sub_cancel] at hl
    have room : (if (ln L (k + 1)).r.opens = true then (ln L (k + 1)).lv - 1 else (ln L (k + 1)).lv) ≤ (stk L k).length := by
      rcases Nat.eq_zero_or_pos k with z | z
      · subst z
        rw [hl.1 (by simp)]
        exact Nat.zero_le _
      · rw [ih.len z]
        exact hl.2 _ (last_take z (by omega))
    have flt : ∀ i ∈ stk L k, (!ends (ln L i) (ln L (k + 1))) = decide ((ln L i).lv < (if (ln L (k + 1)).r.opens = true then (ln L (k + 1)).lv else (ln L (k + 1)).lv + 1)) := by
      intro i _
      unfold ends
      rw [Bool.eq_iff_iff]
      by_cases c : (ln L (k + 1)).lv = (ln L i).lv
      · rw [if_pos c]
        by_cases o : (ln L (k + 1)).r.opens = true
        · simp [o]; omega
        · simp [o]; omega
      · rw [if_neg c]
        by_cases o : (ln L (k + 1)).r.opens = true
        · simp [o]; omega
        · simp [o]; omega
    have ef : (ops L k).filter (fun i => !ends (ln L i) (ln L (k + 1))) = (stk L k).take (if (ln L (k + 1)).r.opens = true then (ln L (k + 1)).lv - 1 else (ln L (k + 1)).lv) := by
      rw [ih.same, ih.lad.filter _ _ flt]
      congr 1
      split <;> omega
    have same : ops L (k + 1) = stk L (k + 1) := by
      show (ops L k).filter _ ++ _ = (if _ then _ else _)
      rw [ef]
      split
      · rfl
      · rw [List.append_nil]
    by_cases o : (ln L (k + 1)).r.opens = true
    · have e : stk L (k + 1) = (stk L k).take ((ln L (k + 1)).lv - 1) ++ [k + 1] := by
        show (if _ then _ else _) = _
        rw [if_pos o]
      rw [if_pos o] at room
      have l1 := ho o
      have len : ((stk L k).take ((ln L (k + 1)).lv - 1)).length = (ln L (k + 1)).lv - 1 := by rw [List.length_take]; omega
      refine ⟨?_, fun _ => ?_, fun z => by omega, fun i hi => ?_, same⟩
      · rw [e]
        exact ih.lad.take.snoc (by rw [len]; omega)
      · rw [e, List.length_append, len, List.length_singleton]; omega
      · rw [e] at hi
        rcases List.mem_append.mp hi with z | z
        · have := ih.rng i (List.mem_of_mem_take z)
          exact ⟨this.1, by omega, this.2.2⟩
        · cases List.mem_singleton.mp z
          exact ⟨by omega, Nat.le_refl _, o⟩
    · have e : stk L (k + 1) = (stk L k).take (ln L (k + 1)).lv := by
        show (if _ then _ else _) = _
        rw [if_neg o]
      rw [if_neg o] at room
      refine ⟨?_, fun _ => ?_, fun z => by omega, fun i hi => ?_, same⟩
      · rw [e]
        exact ih.lad.take
      · rw [e, List.length_take]; omega
      · rw [e] at hi
        have := ih.rng i (List.mem_of_mem_take hi)
        exact ⟨this.1, by omega, this.2.2⟩
/-- the box's last line, or as far as there are lines -/
def bEnd (L : List Ln) (i : Nat) : Nat := i + ((L.drop i).takeWhile fun n => !ends (ln L i) n).length
theorem bEnd_lt {L : List Ln} {i m : Nat} (h1 : i < m) (h : m ≤ bEnd L i) : m ≤ L.length ∧ ends (ln L i) (ln L m) = false := by
  unfold bEnd at h
  have hl : m - i - 1 < ((L.drop i).takeWhile fun n => !ends (ln L i) n).length := by omega
  have hp := List.takeWhile_prefix (fun n => !ends (ln L i) n) (l := L.drop i)
  have hle := hp.length_le
  rw [List.length_drop] at hle
  have e1 : ((L.drop i).takeWhile fun n => !ends (ln L i) n)[m - i - 1] = (L.drop i)[m - i - 1]'(by rw [List.length_drop]; omega) := hp.getElem hl
  have e2 := List.all_takeWhile (p := fun n => !ends (ln L i) n) (l := L.drop i)
  rw [List.all_eq_true] at e2
  have e3 := e2 _ (List.getElem_mem hl)
  rw [e1, List.getElem_drop] at e3
  refine ⟨by omega, ?_⟩
  have e4 := at_ln (L := L) (k := m) (by omega) (by omega)
  rw [List.getElem?_eq_getElem (by omega)] at e4
  have e5 := Option.some.inj e4
  have e6 : i + (m - i - 1) = m - 1 := by omega
  simp only [e6, e5] at e3
  simpa using e3
theorem bEnd_le {L : List Ln} {i : Nat} (h : i ≤ L.length) : bEnd L i ≤ L.length := by
  unfold bEnd
  have := (List.takeWhile_prefix (fun n => !ends (ln L i) n) (l := L.drop i)).length_le
  rw [List.length_drop] at this
  omega
theorem bEnd_end {L : List Ln} {i : Nat} (h : bEnd L i < L.length) : ends (ln L i) (ln L (bEnd L i + 1)) = true := by
  have z := h
  unfold bEnd at z
  have hd : ∃ n, (L.drop i)[((L.drop i).takeWhile fun n => !ends (ln L i) n).length]? = some n ∧ (!ends (ln L i) n) = false := by
    have hlt : ((L.drop i).takeWhile fun n => !ends (ln L i) n).length < (L.drop i).length := by rw [List.length_drop]; omega
    have happ := List.takeWhile_append_dropWhile (p := fun n => !ends (ln L i) n) (l := L.drop i)
    cases ed : (L.drop i).dropWhile fun n => !ends (ln L i) n with
    | nil =>
      rw [ed, List.append_nil] at happ
      rw [happ] at hlt
      omega
    | cons y ys =>
      refine ⟨y, ?_, ?_⟩
      · conv => lhs; arg 1; rw [← happ]
        rw [ed, List.getElem?_append_right (Nat.le_refl _), Nat.sub_self]
        rfl
      · have := List.head?_dropWhile_not (fun n => !ends (ln L i) n) (L.drop i)
        rw [ed] at this
        simpa using this
  obtain ⟨n, en, hn⟩ := hd
  rw [List.getElem?_drop] at en
  have e4 : ln L (bEnd L i + 1) = n := ln_at (by rw [Nat.add_sub_cancel]; exact en)
  rw [e4]
  simpa using hn
theorem bEnd_is {L : List Ln} {i e : Nat} (h1 : i ≤ e) (hin : ∀ m, i < m → m ≤ e → ends (ln L i) (ln L m) = false) (hel : e ≤ L.length) (hout : e < L.length → ends (ln L i) (ln L (e + 1)) = true) : bEnd L i = e := by
  rcases Nat.lt_trichotomy (bEnd L i) e with z | z | z
  · exfalso
    have h1' : i ≤ bEnd L i := by unfold bEnd; omega
    have := hin (bEnd L i + 1) (by omega) (by omega)
    rw [bEnd_end (by omega)] at this
    exact absurd this (by decide)
  · exact z
  · exfalso
    have h2 := bEnd_lt (L := L) (i := i) (m := e + 1) (by omega) (by omega)
    rw [hout (by omega)] at h2
    exact absurd h2.2 (by decide)
theorem stk_len {L : List Ln} (g : Gd L) {k : Nat} (h1 : 1 ≤ k) (h : k ≤ L.length) : (stk L k).length = (ln L k).lv := (stk_ok g k h).len h1
theorem stk_o {L : List Ln} {k : Nat} (h1 : 1 ≤ k) (o : (ln L k).r.opens = true) : stk L k = (stk L (k - 1)).take ((ln L k).lv - 1) ++ [k] := by
  obtain ⟨j, rfl⟩ : ∃ j, k = j + 1 := ⟨k - 1, by omega⟩
  show (if _ then _ else _) = _
  rw [if_pos o]
  rfl
theorem stk_n {L : List Ln} {k : Nat} (h1 : 1 ≤ k) (o : (ln L k).r.opens = false) : stk L k = (stk L (k - 1)).take (ln L k).lv := by
  obtain ⟨j, rfl⟩ : ∃ j, k = j + 1 := ⟨k - 1, by omega⟩
  show (if _ then _ else _) = _
  rw [if_neg (by rw [o]; decide)]
  rfl
theorem stk_tk {L : List Ln} (g : Gd L) {k : Nat} (h1 : 1 ≤ k) (h : k ≤ L.length) (o : (ln L k).r.opens = true) : ((stk L (k - 1)).take ((ln L k).lv - 1)).length = (ln L k).lv - 1 := by
  have e := stk_len g h1 h
  rw [stk_o h1 o, List.length_append, List.length_singleton] at e
  omega
/-- the outer openers stay -/
theorem stk_pre {L : List Ln} (g : Gd L) {i : Nat} (h1 : 1 ≤ i) : ∀ d, i + d ≤ L.length → (∀ m, i ≤ m → m ≤ i + d → (ln L i).lv ≤ (ln L m).lv) → (stk L (i + d)).take ((ln L i).lv - 1) = (stk L i).take ((ln L i).lv - 1)
  | 0, _, _ => rfl
  | d + 1, h, hm => by
    have ih := stk_pre g h1 d (by omega) fun m a b => hm m a (by omega)
    have hl := hm (i + (d + 1)) (by omega) (Nat.le_refl _)
    have e0 : i + (d + 1) - 1 = i + d := by omega
    cases o : (ln L (i + (d + 1))).r.opens with
    | true =>
      have ht := stk_tk g (show 1 ≤ i + (d + 1) by omega) h o
      rw [stk_o (by omega) o]
      rw [e0] at ht ⊢
      rw [List.take_append_of_le_length (by rw [ht]; omega), List.take_take, Nat.min_eq_left (by omega), ih]
    | false =>
      rw [stk_n (by omega) o, e0, List.take_take, Nat.min_eq_left (by omega), ih]
/-- an opener stays where its box does not end -/
theorem stk_in {L : List Ln} (g : Gd L) {i : Nat} (h1 : 1 ≤ i) (o : (ln L i).r.opens = true) : ∀ d, i + d ≤ L.length → (∀ m, i < m → m ≤ i + d → ends (ln L i) (ln L m) = false) → (stk L (i + d))[(ln L i).lv - 1]? = some i
  | 0, h, _ => by
    have ht := stk_tk g h1 h o
    rw [Nat.add_zero, stk_o h1 o, List.getElem?_append_right (by omega), ht, Nat.sub_self]
    rfl
  | d + 1, h, hm => by
    have ih := stk_in g h1 o d (by omega) fun m a b => hm m a (by omega)
    have hl := hm (i + (d + 1)) (by omega) (Nat.le_refl _)
    have e0 : i + (d + 1) - 1 = i + d := by omega
    have hi1 := (g.at' h1 (by omega)).2.2.2.1 o
    unfold ends at hl
    cases o2 : (ln L (i + (d + 1))).r.opens with
    | true =>
      have hlt : (ln L i).lv < (ln L (i + (d + 1))).lv := by
        split at hl
        · rw [o2] at hl; exact absurd hl (by decide)
        · simp at hl; omega
      have ht := stk_tk g (show 1 ≤ i + (d + 1) by omega) h o2
      rw [stk_o (by omega) o2]
      rw [e0] at ht ⊢
      rw [List.getElem?_append_left (by rw [ht]; omega), List.getElem?_take_of_lt (by omega), ih]
    | false =>
      have hle : (ln L i).lv ≤ (ln L (i + (d + 1))).lv := by
        split at hl
        · omega
        · simp at hl; omega
      rw [stk_n (by omega) o2, e0, List.getElem?_take_of_lt (by omega), ih]
/-- .. and is gone behind it -/
theorem stk_out {L : List Ln} (g : Gd L) {i m : Nat} (him : i < m) (h : m ≤ L.length) (he : ends (ln L i) (ln L m) = true) : i ∉ stk L m := by
  intro hi
  have ok := stk_ok g m h
  have h1 := ok.lad.mem hi
  rw [ok.len (by omega)] at h1
  unfold ends at he
  split at he
  · rw [stk_o (by omega) he] at hi
    rcases List.mem_append.mp hi with z | z
    · have ok2 := stk_ok g (m - 1) (by omega)
      have := ok2.lad.take.mem z
      rw [stk_tk g (by omega) h he] at this
      omega
    · cases List.mem_singleton.mp z
      omega
  · simp at he
    omega
structure BoxIs (L : List Ln) (i k : Nat) : Prop where
  i1 : 1 ≤ i
  ie : i ≤ bEnd L i
  ek : bEnd L i < k
  op : (ln L i).r.opens = true
  lv : (ln L i).lv = (ln L k).lv + 1
  el : (ln L (bEnd L i)).lv = (ln L i).lv
  out : ∀ z ∈ (stk L i).take ((stk L i).length - 1), z ∈ stk L k
  end_ : ends (ln L i) (ln L (bEnd L i + 1)) = true
theorem box_is {L : List Ln} (g : Gd L) {i k : Nat} (hk : k ≤ L.length) (h1 : 1 ≤ k) (ho : (ln L k).r.opens = false) (b : BoxOk L i k) : BoxIs L i k := by
  obtain ⟨e, ni, nk, i1, ie, ek, eni, enk, op, lv, hin, ⟨ne, ee, el⟩, ⟨nx, ex, hx⟩, hall⟩ := b
  cases ln_at eni
  cases ln_at enk
  cases ln_at ee
  cases ln_at ex
  have hend : ends (ln L i) (ln L (e + 1)) = true := by
    unfold ends
    rcases hx with z | z
    · rw [if_neg (by omega)]; simpa using z
    · rw [if_pos z.1]; exact z.2
  have hb : bEnd L i = e := bEnd_is ie (fun m a b => by
    have := hin m (ln L m) a b (at_ln (by omega) (by omega))
    unfold ends
    split
    · rename_i c
      cases o : (ln L m).r.opens with
      | false => rfl
      | true => exact absurd ⟨c, o⟩ this.2
    · simp; omega) (by omega) (fun _ => hend)
  have hpre := stk_pre g i1 (k - 1 - i) (by omega) fun m a b => hall m (ln L m) a (by omega) (at_ln (by omega) (by omega))
  rw [show i + (k - 1 - i) = k - 1 by omega] at hpre
  refine ⟨i1, by rw [hb]; exact ie, by rw [hb]; exact ek, op, lv, by rw [hb]; exact el, fun z hz => ?_, by rw [hb]; exact hend⟩
  rw [stk_len g i1 (by omega)] at hz
  rw [stk_n h1 ho, show (ln L k).lv = (ln L i).lv - 1 by omega, hpre]
  exact hz
def needs (L : List Ln) (k : Nat) : List Nat := (ln L k).r.nums ++ stk L k ++ (ln L k).r.bxs.map (bEnd L)
theorem needs_le {L : List Ln} (g : Gd L) {k j : Nat} (h1 : 1 ≤ k) (h : k ≤ L.length) (hj : j ∈ needs L k) : 1 ≤ j ∧ j ≤ k := by
  obtain ⟨_, hn, hb, _, _⟩ := g.at' h1 h
  unfold needs at hj
  rcases List.mem_append.mp hj with hj | hj
  · rcases List.mem_append.mp hj with hj | hj
    · have := hn j hj; omega
    · have := (stk_ok g k h).rng j hj; omega
  · obtain ⟨i, hi, rfl⟩ := List.mem_map.mp hj
    obtain ⟨b, o⟩ := hb i hi
    have b2 := box_is g h h1 o b
    have := b2.i1
    have := b2.ie
    have := b2.ek
    omega
/-- the needed lines -/
inductive Nd (L : List Ln) : Nat → Prop
  | last : Nd L L.length
  | step {k j : Nat} : Nd L k → j ∈ needs L k → Nd L j
theorem Nd.rng {L : List Ln} (g : Gd L) (h : 1 ≤ L.length) {k : Nat} (n : Nd L k) : 1 ≤ k ∧ k ≤ L.length := by
  induction n with
  | last => omega
  | step _ hj ih =>
    have := needs_le g ih.1 ih.2 hj
    omega
/-- what holds the last one, only needed ones, and with each one its needs -/
theorem nd_iff {L : List Ln} {C : Nat → Prop} (h0 : C L.length) (h1 : ∀ k, C k → Nd L k) (h2 : ∀ k, C k → ∀ j ∈ needs L k, C j) (k : Nat) : C k ↔ Nd L k := by
  refine ⟨h1 k, fun n => ?_⟩
  induction n with
  | last => exact h0
  | step _ hj ih => exact h2 _ ih _ hj
theorem sorted_eq : ∀ {xs ys : List Int}, xs.Pairwise (· < ·) → ys.Pairwise (· < ·) → (∀ k, k ∈ xs ↔ k ∈ ys) → xs = ys
  | [], [], _, _, _ => rfl
  | [], y :: ys, _, _, h => absurd ((h y).mpr List.mem_cons_self) (by simp)
  | x :: xs, [], _, _, h => absurd ((h x).mp List.mem_cons_self) (by simp)
  | x :: xs, y :: ys, h1, h2, h => by
    rw [List.pairwise_cons] at h1 h2
    have e : x = y := by
      rcases List.mem_cons.mp ((h x).mp List.mem_cons_self) with z | z
      · exact z
      · rcases List.mem_cons.mp ((h y).mpr List.mem_cons_self) with w | w
        · exact w.symm
        · have := h2.1 x z
          have := h1.1 y w
          omega
    subst e
    rw [sorted_eq h1.2 h2.2 fun k => ?_]
    refine ⟨fun hk => ?_, fun hk => ?_⟩
    · rcases List.mem_cons.mp ((h k).mp (List.mem_cons_of_mem _ hk)) with z | z
      · have := h1.1 k hk; omega
      · exact z
    · rcases List.mem_cons.mp ((h k).mpr (List.mem_cons_of_mem _ hk)) with z | z
      · have := h2.1 k hk; omega
      · exact z
end FO

set_option Elab.async false
set_option maxRecDepth 100000
set_option linter.unusedVariables false
namespace DL
open PySem PySem.Spec PyProof.Rows L2
section
variable {S : Store} {p : Addr} {kvs : List (Key × D)} {ds : List D} {x : Str} {i : Int} {d : D} {Q : KD} {Q1 : Store → Prop}
theorem ixDk (h : S p = some (.dk kvs)) (e : dval kvs (.inr x) = some d) (q : Q d S) : ixDO (S p) (.str x) S Q := by
  rw [h, rIxDO_ds]
  exact ⟨d, e, q⟩
theorem setDk (h : S p = some (.dk kvs)) (l : kvs.length ≤ 1000) (q : Q1 (put S p (.dk (dput kvs (.inr x) d)))) : setDO (S p) p (.str x) d S Q1 := by
  rw [h, rSetDO_s]
  exact ⟨szLt (by omega), q⟩
theorem ixL (h : S p = some (.lst ds)) (e : atI ds i = some d) (q : Q d S) : ixDO (S p) (.int i) S Q := by
  rw [h, rIxDO_l]
  exact ⟨d, e, q⟩
theorem lenL (h : S p = some (.lst ds)) (q : Q (.int (ds.length : Nat)) S) : oLenDO (S p) S Q := by
  rw [h]
  exact q
end
end DL
namespace K61
open PySem PySem.Spec PyProof.Rows L2 DL
def top (i : Nat) : Stmt := PySem.Challenge.pw_linecourt_k61_needed_lines.main.body.getD i (.Pass ⟨0, 0, 0, 0⟩)
structure Bt (mg : Str → Option Value) : Prop where
  len_ : mg "len" = none
  sum_ : mg "sum" = none
  list_ : mg "list" = none
  tuple_ : mg "tuple" = none
  range_ : mg "range" = none
  sorted_ : mg "sorted" = none
  max_ : mg "max" = none
  int_ : mg "int" = none
  isinstance_ : mg "isinstance" = none
  repr_ : mg "repr" = none
  all_ : mg "all" = none
  set_ : mg "set" = none
  zip_ : mg "zip" = none
  enumerate_ : mg "enumerate" = none
local macro_rules | `(tactic| walk_at "dl") => `(tactic| try simp only [DL.tAsgD, DL.asg, DL.tVarD, DL.lk, DL.sto, DL.stos, DL.tOpD, DL.tCD, DL.tCallD, DL.tConsD, DL.tNilD, DL.tRetD, DL.endsD, DL.startD, DL.tIfSD, DL.tTestD, DL.tNextD, DL.tDropD, DL.tAndD, DL.tOrD, DL.tNotD, DL.tAndV, DL.tOrV, DL.tNotV, DL.tIfD, DL.tNegD, DL.tTupD, DL.tLstD, DL.tSetD, DL.tMD, DL.tSlD, DL.tPartD, DL.tNoD, DL.tRevD, DL.tForD, DL.tLcD, DL.tIterD, DL.tRng1D, DL.tRng2D, DL.tYesD, DL.wipeD, DL.tDictD, DL.tDictOne, DL.tFldD, DL.tMethD, DL.tMakeD, DL.tSetF, DL.tThaw, DL.thaw, DL.tLRg, DL.tChainD, DL.tDispD, DL.tPairsD, DL.tEnumD, DL.tZipD, DL.tCallLD, DL.tSortSet, DL.tRng3D, DL.keyOf, DL.emE_rr, DL.tLess, DL.tLessS, DL.itOk, DL.rAdd_ii, DL.rAdd_ss, DL.rAdd_tt, DL.rAdd_rr, DL.rSub_ii, DL.rMod_ii, DL.rDiv_ii, DL.rPow_ii, DL.rMul_ii, DL.rMul_ri, DL.rLt_ii, DL.rLt_ss, DL.rLe_ii, DL.rGt_ii, DL.rGe_ii, DL.rEq_ii, DL.rEq_ss, DL.rEq_bb, DL.rNe_ii, DL.rNe_ss, DL.rNe_bb, DL.rEq_rr, DL.rNe_rr, DL.rEq_tt, DL.rNe_tt, DL.rIn_st, DL.rNotIn_st, DL.rIn_r, DL.rNotIn_r, DL.rIn_ss, DL.rInDO_sl, DL.rInDO_il, DL.rInDO_sd, DL.rInDO_id, DL.rIsN_n, DL.rIsN_t, DL.rIsN_i, DL.rIsN_s, DL.rIsN_r, DL.rNotN_n, DL.rNotN_t, DL.rNotN_i, DL.rNotN_s, DL.rNotN_r, DL.rIx_t, DL.rIx_r, DL.rIx_s, DL.rIxDO_l, DL.rIxDO_ds, DL.rIx0, DL.rIx1, DL.rIx2, DL.rIx3, DL.rSl_t, DL.rSl_s, DL.rSl_o, DL.rSl_r, DL.rSlDO, DL.rSet_r, DL.rSetDO_0, DL.rSetDO_s, DL.rLen_t, DL.rLen_o, DL.rLen_s, DL.rLen_r, DL.rLenDO, DL.rLenDO_d, DL.rList_t, DL.rList_o, DL.rList_r, DL.rListDO, DL.rTuple_t, DL.rTuple_r, DL.rInt_i, DL.rInt_b, DL.rMax, DL.rMin, DL.rSz0, DL.rSz1, DL.rSz2, DL.rSz3, DL.rSz4, DL.rSz5, DL.rSz6, DL.rSz7, DL.rSz8, Option.some.injEq, DL.DO.lst.injEq, exists_eq_left', exists_eq_left, DL.put_same, DL.put_put, true_and, and_true, List.map, List.replicate, List.length, List.cons_append, List.nil_append, Nat.reduceSub, Nat.reduceAdd, decide_eq_true_eq, if_true, if_false, Bool.false_eq_true, Bool.not_true, Bool.not_false])
local macro_rules | `(tactic| walk_at "dlh") => `(tactic| try simp only [*, DL.tAsgD, DL.asg, DL.tVarD, DL.lk, DL.sto, DL.stos, DL.tOpD, DL.tCD, DL.tCallD, DL.tConsD, DL.tNilD, DL.tRetD, DL.endsD, DL.startD, DL.tIfSD, DL.tTestD, DL.tNextD, DL.tDropD, DL.tAndD, DL.tOrD, DL.tNotD, DL.tAndV, DL.tOrV, DL.tNotV, DL.tIfD, DL.tNegD, DL.tTupD, DL.tLstD, DL.tSetD, DL.tMD, DL.tSlD, DL.tPartD, DL.tNoD, DL.tRevD, DL.tForD, DL.tLcD, DL.tIterD, DL.tRng1D, DL.tRng2D, DL.tYesD, DL.wipeD, DL.tDictD, DL.tDictOne, DL.tFldD, DL.tMethD, DL.tMakeD, DL.tSetF, DL.tThaw, DL.thaw, DL.tLRg, DL.tChainD, DL.tDispD, DL.tPairsD, DL.tEnumD, DL.tZipD, DL.tCallLD, DL.tSortSet, DL.tRng3D, DL.keyOf, DL.emE_rr, DL.tLess, DL.tLessS, DL.itOk, DL.rAdd_ii, DL.rAdd_ss, DL.rAdd_tt, DL.rAdd_rr, DL.rSub_ii, DL.rMod_ii, DL.rDiv_ii, DL.rPow_ii, DL.rMul_ii, DL.rMul_ri, DL.rLt_ii, DL.rLt_ss, DL.rLe_ii, DL.rGt_ii, DL.rGe_ii, DL.rEq_ii, DL.rEq_ss, DL.rEq_bb, DL.rNe_ii, DL.rNe_ss, DL.rNe_bb, DL.rEq_rr, DL.rNe_rr, DL.rEq_tt, DL.rNe_tt, DL.rIn_st, DL.rNotIn_st, DL.rIn_r, DL.rNotIn_r, DL.rIn_ss, DL.rInDO_sl, DL.rInDO_il, DL.rInDO_sd, DL.rInDO_id, DL.rIsN_n, DL.rIsN_t, DL.rIsN_i, DL.rIsN_s, DL.rIsN_r, DL.rNotN_n, DL.rNotN_t, DL.rNotN_i, DL.rNotN_s, DL.rNotN_r, DL.rIx_t, DL.rIx_r, DL.rIx_s, DL.rIxDO_l, DL.rIxDO_ds, DL.rIx0, DL.rIx1, DL.rIx2, DL.rIx3, DL.rSl_t, DL.rSl_s, DL.rSl_o, DL.rSl_r, DL.rSlDO, DL.rSet_r, DL.rSetDO_0, DL.rSetDO_s, DL.rLen_t, DL.rLen_o, DL.rLen_s, DL.rLen_r, DL.rLenDO, DL.rLenDO_d, DL.rList_t, DL.rList_o, DL.rList_r, DL.rListDO, DL.rTuple_t, DL.rTuple_r, DL.rInt_i, DL.rInt_b, DL.rMax, DL.rMin, DL.rSz0, DL.rSz1, DL.rSz2, DL.rSz3, DL.rSz4, DL.rSz5, DL.rSz6, DL.rSz7, DL.rSz8, Option.some.injEq, DL.DO.lst.injEq, exists_eq_left', exists_eq_left, DL.put_same, DL.put_put, true_and, and_true, List.map, List.replicate, List.length, List.cons_append, List.nil_append, Nat.reduceSub, Nat.reduceAdd, decide_eq_true_eq, if_true, if_false, Bool.false_eq_true, Bool.not_true, Bool.not_false])
local macro_rules | `(tactic| walk_at "go") => `(tactic| repeat (first | (refine DL.sq ?_; try walk_at "dl") | (refine DL.ifY rfl ?_; try walk_at "dl") | (refine DL.inY rfl (by decide) ?_; try walk_at "dl") | (refine DL.inN rfl (by decide) ?_; try walk_at "dl") | (refine DL.ifN (by decide) ?_; try walk_at "dl")))
abbrev s_l_deck : Stmt := top 22
theorem sc_l_deck : FnScope ["_law_script"] ["_law_script"] (defScope s_l_deck) := ⟨rfl, rfl, rfl, by decide +kernel, rfl, by decide +kernel, by decide +kernel⟩
abbrev s_l_next : Stmt := top 23
theorem sc_l_next : FnScope ["_law_deck_here", "_law_most", "_law_cells", "_law_number", "_law_seed"] ["_law_deck_here", "_law_most"] (defScope s_l_next) := ⟨rfl, rfl, rfl, by decide +kernel, rfl, by decide +kernel, by decide +kernel⟩
abbrev deckD (c : Addr) (s n : Int) : List (Key × D) := [(.inr "cells", .ref c), (.inr "seed", .int s), (.inr "count", .int n)]
theorem dv1 {c : Addr} {s n : Int} : dval (deckD c s n) (.inr "cells") = some (.ref c) := rfl
theorem dv2 {c : Addr} {s n : Int} : dval (deckD c s n) (.inr "seed") = some (.int s) := rfl
theorem dv3 {c : Addr} {s n : Int} : dval (deckD c s n) (.inr "count") = some (.int n) := rfl
theorem dp2 {c : Addr} {s n m : Int} : dput (deckD c s n) (.inr "seed") (.int m) = deckD c m n := rfl
theorem dp3 {c : Addr} {s n m : Int} : dput (deckD c s n) (.inr "count") (.int m) = deckD c s m := rfl
/-- the deck at p with its cells at c -/
def Dk (p c : Addr) (S : Store) : Prop := p ≠ c ∧ ∃ (s n : Int) (ns : List Int), S p = some (.dk (deckD c s n)) ∧ S c = some (.lst (ns.map D.int)) ∧ ns.length ≤ 63 ∧ 0 ≤ s ∧ s < 4294967296
def Ch (p c : Addr) (S S' : Store) : Prop := ChS [p, c] S S' ∧ Dk p c S'
theorem Dk.live {p c : Addr} {S : Store} (h : Dk p c S) : Live [p, c] S := by
  obtain ⟨_, s, n, ns, h1, h2, _⟩ := h
  intro a ha
  simp only [List.mem_cons, List.not_mem_nil, or_false] at ha
  rcases ha with rfl | rfl
  · exact ⟨_, h1⟩
  · exact ⟨_, h2⟩
theorem Ch.refl {p c : Addr} {S : Store} (h : Dk p c S) : Ch p c S S := ⟨.refl, h⟩
theorem Ch.trans {p c : Addr} {S S1 S2 : Store} (h : Ch p c S S1) (g : Ch p c S1 S2) : Ch p c S S2 := ⟨h.1.trans g.1, g.2⟩
theorem Dk.put {p c q : Addr} {S : Store} {o : DO} (h : Dk p c S) (n1 : q ≠ p) (n2 : q ≠ c) : Dk p c (put S q o) := by
  obtain ⟨h0, s, n, ns, h1, h2, r⟩ := h
  exact ⟨h0, s, n, ns, (put_ne n1.symm).trans h1, (put_ne n2.symm).trans h2, r⟩
theorem Dk.new {p c q : Addr} {S : Store} {o : DO} (h : Dk p c S) (n : S q = none) : Dk p c (DL.put S q o) := h.put (h.live.ne n (by simp)).symm (h.live.ne n (by simp)).symm
theorem Ch.new {p c q : Addr} {S S' : Store} {o : DO} (h : Ch p c S S') (n : S' q = none) : Ch p c S (put S' q o) := ⟨h.1.new h.2.live n, h.2.new n⟩
/-- .. where a new thing is changed -/
theorem Ch.at {p c q : Addr} {S S' : Store} {o : DO} (h : Ch p c S S') (d : Dk p c S) (n : S q = none) : Ch p c S (put S' q o) := ⟨h.1.at n, h.2.put (d.live.ne n (by simp)).symm (d.live.ne n (by simp)).symm⟩
theorem Ch.get {p c b : Addr} {S S' : Store} {o : DO} (h : Ch p c S S') (n1 : b ≠ p) (n2 : b ≠ c) (e : S b = some o) : S' b = some o := h.1 b o (by simp [n1, n2]) e
/-- what is new stays -/
theorem Ch.keep {p c b : Addr} {S S' : Store} {o : DO} (h : Ch p c S S') (d : Dk p c S) {S0 : Store} (d0 : Dk p c S0) (n : S0 b = none) (e : S b = some o) : S' b = some o :=
  h.get (d0.live.ne n (by simp)).symm (d0.live.ne n (by simp)).symm e
def spDeck : SpD := fun ds S Q => ∃ ns : List Int, ds = [.rol (ns.map D.int)] ∧ ns.length ≤ 63 ∧ ∀ p c S', Dk p c S' → Q (.ref p) S'
def spNext : SpD := fun ds S Q => ∃ (p c : Addr) (m : Int), ds = [.ref p, .int m] ∧ Dk p c S ∧ 0 < m ∧ m < 1073741824 ∧ ∀ (r : Int) (S' : Store), 0 ≤ r → r < m → Ch p c S S' → Q (.int r) S'
section
variable {P : Program} {w : World} {K : PySem.W.Frag} {mg : Str → Option Value} {base : Heap}
theorem df_deck {k : Nat} (T : Bt mg) (A : At K mg "_law_deck" "_law_deck" s_l_deck) : Df P w K mg base "_law_deck" (k + 1) spDeck := by
  have nd := sc_l_deck.nd
  refine df_mk A rfl sc_l_deck (fun _ _ _ _ _ _ us hl => match us, hl with | [_], _ => rfl) (fun ds S Q h => ?_) (fun f cdv A outer s H E hr ds S Q h => ?_)
  · obtain ⟨ns, rfl, _⟩ := h
    rfl
  obtain ⟨ns, rfl, hl, h⟩ := h
  have hu := hu_of hr
  refine ⟨_, (dss_one (ds_ret (de_disp (dps_cons de_str (de_callTy (cd_list rfl) rfl T.list_ (by decide +kernel) (da_cons (de_slice (dv 0) do_none (do_some de_int)) da_nil)) (dps_cons de_str (de_op od_add (de_op od_mod (de_callB (cd_sum rfl) rfl T.sum_ (by decide +kernel) (da_cons (dv 0) da_nil)) de_int) de_int) (dps_cons de_str de_int dps_nil)))))), ?_⟩
  walk_at "dl"
  intro p np q nq
  rw [cutL_map]
  have hz : (cutL ns none (some 63)).length ≤ 63 := Nat.le_trans cutL_le hl
  generalize cutL ns none (some 63) = cs at hz
  intro r nr
  have pq : p ≠ q := ne_new put_same nq
  have hp2 : put (put S p (.dk [])) q (.lst (cs.map D.int)) p = some (.dk []) := (put_ne pq).trans put_same
  have pr : p ≠ r := ne_new hp2 nr
  refine ⟨_, ns, rfl, intsOf_of ns, ?_⟩
  walk_at "dl"
  refine ⟨by decide, (put_ne pr).trans hp2, ⟨_, rfl, by simp, ?_⟩⟩
  refine ⟨_, Sub.refl, h p r _ ⟨pr, _, _, cs, put_same, (put_ne pr.symm).trans put_same, hz, ?_, ?_⟩⟩
  · omega
  · omega
theorem df_next {k : Nat} (T : Bt mg) (A : At K mg "_law_next" "_law_next" s_l_next) : Df P w K mg base "_law_next" (k + 1) spNext := by
  have nd := sc_l_next.nd
  refine df_mk A rfl sc_l_next (fun _ _ _ _ _ _ us hl => match us, hl with | [_, _], _ => rfl) (fun ds S Q h => ?_) (fun f cdv A outer s H E hr ds S Q h => ?_)
  · obtain ⟨p, c, m, rfl, _⟩ := h
    rfl
  obtain ⟨p, c, m, rfl, ⟨pc, s0, n, ns, hp, hc, hl, b1, b2⟩, m0, m1, h⟩ := h
  have hu := hu_of hr
  refine ⟨_, (dss_cons (ds_setitem hu (dv 0) de_str (de_op od_add (de_ix hu (dv 0) de_str) de_int))
    (dss_cons (ds_set (i := 2) nd rfl (Or.inl rfl) (de_ix hu (dv 0) de_str))
    (dss_cons (ds_set (i := 3) nd rfl (Or.inl rfl) de_int)
    (dss_cons (ds_if (dt_w (dw_and (dt_cmp (od_neE hr.units) (dv 2) (de_lst da_nil) (nomark _)) (dw_and1 (dt_cmp od_ge (de_ix hu (dv 2) de_int) (de_op od_pow de_int de_int) (nomark _))))) (dss_cons (ds_set (i := 3) nd rfl (Or.inl rfl) (de_op od_mod (de_ix hu (dv 2) de_int) (dv 1)))
    (dss_cons (ds_setitem hu (dv 2) de_int (de_op od_div (de_ix hu (dv 2) de_int) (dv 1)))
    (dss_one (ds_ret (dv 3))))) dss_nil)
    (dss_cons (ds_if (dt_cmp (od_neE hr.units) (dv 2) (de_lst da_nil) (nomark _)) (dss_one (ds_set (i := 3) nd rfl (Or.inl rfl) (de_m PySem.F.plainAttrs_list PySem.F.slot_list_pop PySem.F.type_list_pop md_popAt (dv 2) (da_cons de_int da_nil)))) dss_nil)
    (dss_cons (ds_set (i := 4) nd rfl (Or.inl rfl) (de_op od_mod (de_op od_add (de_op od_add (de_op od_mul (de_ix hu (dv 0) de_str) de_int) (de_op od_mul de_int (de_ix hu (dv 0) de_str))) (dv 3)) de_int))
    (dss_cons (ds_setitem hu (dv 0) de_str (dv 4))
    (dss_one (ds_ret (de_op od_mod (de_op od_mod (de_op od_mul (dv 4) (de_op od_add (de_op od_div (dv 4) de_int) de_int)) de_int) (dv 1))))))))))), ?_⟩
  refine sq ?_
  walk_at "dl"
  refine ixDk hp dv3 ?_
  walk_at "dl"
  refine setDk hp (by simp) ?_
  rw [dp3]
  have hp1 : put S p (.dk (deckD c s0 (n + 1))) p = some (.dk (deckD c s0 (n + 1))) := put_same
  have hc1 : put S p (.dk (deckD c s0 (n + 1))) c = some (.lst (ns.map D.int)) := (put_ne pc.symm).trans hc
  have c1 : ChS [p, c] S (put S p (.dk (deckD c s0 (n + 1)))) := ChS.refl.put (by simp)
  generalize put S p (.dk (deckD c s0 (n + 1))) = S1 at hp1 hc1 c1
  refine sq ?_
  walk_at "dl"
  refine ixDk hp1 dv1 ?_
  walk_at "dl"
  refine sq ?_
  walk_at "dl"
  have l1 : Live [p, c] S1 := (show Dk p c S1 from ⟨pc, s0, n + 1, ns, hp1, hc1, hl, b1, b2⟩).live
  refine seq_if (fun S2 => ∃ x xs, ns = x :: xs ∧ ChS [p, c] S S2 ∧ S2 p = some (.dk (deckD c s0 (n + 1))) ∧ S2 c = some (.lst (ns.map D.int))) (fun S2 => ChS [p, c] S S2 ∧ S2 p = some (.dk (deckD c s0 (n + 1))) ∧ S2 c = some (.lst (ns.map D.int))) (fun N N1 N2 => ?_) ?_ ?_
  · walk_at "dl"
    intro e ne
    refine ⟨_, (put_ne (ne_new hc1 ne)).trans hc1, ?_⟩
    have ep : p ≠ e := ne_new hp1 ne
    have ec : c ≠ e := ne_new hc1 ne
    have c2 : ChS [p, c] S (put S1 e (.lst [])) := c1.new l1 ne
    have hp2 : put S1 e (.lst []) p = some (.dk (deckD c s0 (n + 1))) := (put_ne ep).trans hp1
    have hc2 : put S1 e (.lst []) c = some (.lst (ns.map D.int)) := (put_ne ec).trans hc1
    cases ns with
    | nil =>
      refine ifN (by simp) ?_
      exact N2 _ ⟨c2, hp2, hc2⟩
    | cons x xs =>
      refine ifY (by simp) ?_
      walk_at "dl"
      refine ixL hc2 (at0 (d := .int x) (r := xs.map D.int)) ?_
      walk_at "dl"
      refine ⟨⟨by decide, by decide, by decide⟩, ?_⟩
      by_cases cx : (10 : Int) ^ (18 : Int).toNat ≤ x
      · rw [decide_eq_true cx]
        exact N1 _ ⟨x, xs, rfl, c2, hp2, hc2⟩
      · rw [decide_eq_false cx]
        exact N2 _ ⟨c2, hp2, hc2⟩
  · rintro S2 ⟨x, xs, rfl, c2, hp2, hc2⟩
    walk_at "go"
    refine ixL hc2 (at0 (d := .int x) (r := xs.map D.int)) ?_
    walk_at "dl"
    refine ⟨m0, ?_⟩
    walk_at "go"
    refine ixL hc2 (at0 (d := .int x) (r := xs.map D.int)) ?_
    walk_at "dl"
    refine ⟨⟨m0, m1⟩, ?_⟩
    rw [hc2, List.map_cons, rSetDO_0]
    walk_at "dl"
    refine ⟨_, Sub.refl, h _ _ (Int.emod_nonneg _ (by omega)) (Int.emod_lt_of_pos _ m0) ⟨c2.put (by simp), pc, s0, n + 1, (x / m) :: xs, (put_ne pc).trans hp2, put_same, by simpa using hl, b1, b2⟩⟩
  rintro S2 ⟨c2, hp2, hc2⟩
  walk_at "dl"
  have l2 : Live [p, c] S2 := (show Dk p c S2 from ⟨pc, s0, n + 1, ns, hp2, hc2, hl, b1, b2⟩).live
  refine seq_cut (fun δ' S3 => ∃ (nu : Int) (ns' : List Int), δ' = [some (.ref p), some (.int m), some (.ref c), some (.int nu), none] ∧ ChS [p, c] S S3 ∧ S3 p = some (.dk (deckD c s0 (n + 1))) ∧ S3 c = some (.lst (ns'.map D.int)) ∧ ns'.length ≤ 63) (fun N hN => ?_) ?_
  · walk_at "dl"
    intro e ne
    refine ⟨_, (put_ne (ne_new hc2 ne)).trans hc2, ?_⟩
    have ep : p ≠ e := ne_new hp2 ne
    have ec : c ≠ e := ne_new hc2 ne
    have c3 : ChS [p, c] S (put S2 e (.lst [])) := c2.new l2 ne
    have hp3 : put S2 e (.lst []) p = some (.dk (deckD c s0 (n + 1))) := (put_ne ep).trans hp2
    have hc3 : put S2 e (.lst []) c = some (.lst (ns.map D.int)) := (put_ne ec).trans hc2
    cases ns with
    | nil =>
      refine ifN (by simp) ?_
      exact hN _ _ ⟨0, [], rfl, c3, hp3, hc3, by simp⟩
    | cons x xs =>
      refine ifY (by simp) ?_
      walk_at "dl"
      refine ⟨ty_list hc3, ?_⟩
      refine ⟨_, 0, .int x, hc3, by decide, by decide, by simp [seqIndex?], rfl, ?_⟩
      walk_at "dl"
      refine hN _ _ ⟨x, xs, rfl, c3.put (by simp), (put_ne pc).trans hp3, put_same, ?_⟩
      simp at hl
      omega
  rintro δ' S3 ⟨nu, ns', rfl, c3, hp3, hc3, hl'⟩
  walk_at "go"
  refine ixDk hp3 dv2 ?_
  walk_at "dl"
  refine ⟨.inr (by decide), ?_⟩
  refine ixDk hp3 dv3 ?_
  walk_at "dl"
  refine ⟨.inl (by decide), by decide, ?_⟩
  generalize e2 : (s0 * 48271 + 69621 * (n + 1) + nu) % 2147483587 = sd
  have h1 : 0 ≤ sd ∧ sd < 2147483587 := by omega
  refine sq ?_
  walk_at "dl"
  refine setDk hp3 (by simp) ?_
  rw [dp2]
  walk_at "dl"
  refine ⟨⟨by decide, by decide⟩, .inl (by omega), by decide, m0, _, Sub.refl, ?_⟩
  refine h _ _ (Int.emod_nonneg _ (by omega)) (Int.emod_lt_of_pos _ m0) ⟨c3.put (by simp), pc, sd, n + 1, ns', put_same, (put_ne pc.symm).trans hc3, hl', h1.1, by omega⟩
end
end K61

set_option Elab.async false
set_option maxRecDepth 100000
set_option linter.unusedVariables false
namespace DL
open PySem PySem.Spec PyProof.Rows L2
/-- a comprehension, the store's law kept -/
theorem lcB_inv {α β : Type} {J : ItD} {tt : TTD} {te : TED} {i : Nat} {δ : StD} {Q : KD} {q : Addr} {S1 : Store} (c : List α) (f : α → D) (h : β → D) (Pv : Nat → List β → Prop) (I : Store → Prop) (hz : c.length ≤ 10000)
    (hI : ∀ S ds, I S → I (put S q (.lst ds))) (hI0 : I (put S1 q (.lst []))) (hJ : ∀ k S, I S → J k S = some (c.map f)[k]?) (h0 : Pv 0 [])
    (turn : ∀ (k : Nat) (x : α) (ys : List β) (S : Store) (Y : KD) (N : Store → Prop), c[k]? = some x → Pv k ys → I S → S q = some (.lst (ys.map h)) → (∀ z S', I S' → S' q = some (.lst (ys.map h)) → Pv (k + 1) (ys ++ [z]) → Y (h z) S') → (∀ S', I S' → S' q = some (.lst (ys.map h)) → Pv (k + 1) ys → N S') →
      tt (sto (sto δ i none) i (some (f x))) S fun b S3 => if b = true then te (sto (sto δ i none) i (some (f x))) S3 Y else N S3)
    (done : ∀ ys S, I S → S q = some (.lst (ys.map h)) → Pv c.length ys → ys.length ≤ c.length → Q (.ref q) S) : lcB J (.one i) tt te [i] δ Q q S1 := by
  refine ⟨c.length, fun j S => j ≤ c.length ∧ ∃ ys : List β, ys.length ≤ j ∧ Pv j ys ∧ I S ∧ S q = some (.lst (ys.map h)), ⟨Nat.zero_le _, [], Nat.le_refl _, h0, hI0, put_same⟩, ?_⟩
  rintro j S ⟨hj, ys, hl, hp, hc, hq⟩
  have ej := hJ j S hc
  rw [List.getElem?_map] at ej
  by_cases hlt : j < c.length
  · refine .inr ⟨f c[j], by rw [ej, List.getElem?_eq_getElem hlt]; rfl, hlt, ?_⟩
    refine turn j c[j] ys S _ _ (List.getElem?_eq_getElem hlt) hp hc hq (fun z S' c' q' p' => ?_) fun S' c' q' p' => ?_
    · refine ⟨_, q', by rw [List.length_map]; exact szLt (by omega), hlt, ys ++ [z], by simp; omega, p', hI _ _ c', by rw [put_same, List.map_append]; rfl⟩
    · exact ⟨hlt, ys, by omega, p', c', q'⟩
  · have e : j = c.length := Nat.le_antisymm hj (Nat.le_of_not_lt hlt)
    subst e
    exact .inl ⟨by rw [ej, List.getElem?_eq_none (Nat.le_refl _)]; rfl, done ys S hc hq hp hl⟩
/-- a while that goes through states until a test fails -/
theorem while_seq {c : TTD} {tb : TSD} {G : EndsD} {δ : StD} {S : Store} (f : Nat → StD) (n : Nat) (b : Nat → Bool) (I : Store → Prop) (h0 : f 0 = δ) (hn : b n = false) (hS : I S)
    (test : ∀ j S, j ≤ n → I S → ∀ N : Bool → Store → Prop, (∀ S', I S' → N (b j) S') → c (f j) S N)
    (body : ∀ j S (N : StD → Store → Prop), j < n → I S → (∀ S', I S' → N (f (j + 1)) S') → tb { G with nx := N, ct := N, bk := G.nx } (f j) S)
    (done : ∀ j S, j ≤ n → b j = false → I S → G.nx (f j) S) : tWhileD c tb G δ S := by
  refine ⟨fun m δ S => ∃ j, j ≤ n ∧ m = n - j ∧ δ = f j ∧ I S, ⟨n, 0, Nat.zero_le _, rfl, h0.symm, hS⟩, ?_⟩
  rintro m δ S ⟨j, hj, rfl, rfl, hI⟩
  refine test j S hj hI _ fun S' hI' => ?_
  cases e : b j with
  | false => exact done j S' hj e hI'
  | true =>
    have hlt : j < n := by
      rcases Nat.lt_or_ge j n with z | z
      · exact z
      · have : j = n := Nat.le_antisymm hj z
        subst this
        rw [hn] at e; cases e
    rw [if_pos rfl]
    refine ⟨fun δ' S' => δ' = f (j + 1) ∧ I S', ?_, body j S' _ hlt hI' fun S'' h'' => ⟨rfl, h''⟩⟩
    rintro δ' S'' ⟨rfl, h''⟩
    exact ⟨n - (j + 1), by omega, j + 1, hlt, rfl, rfl, h''⟩
theorem join_empty (cs : List Nat) : (Txt.join "" (cs.map fun c => (⟨#[c]⟩ : Str))).cps.toList = cs := by
  rw [TL.join_eq]
  match cs with
  | [] => rfl
  | [a] => rfl
  | a :: b :: r =>
    have e : Str.join "" ((a :: b :: r).map fun c => (⟨#[c]⟩ : Str)) = (⟨#[a]⟩ : Str) ++ ("" : Str) ++ Str.join "" ((b :: r).map fun c => (⟨#[c]⟩ : Str)) := rfl
    have ih := join_empty (b :: r)
    rw [TL.join_eq] at ih
    rw [e, app_toList, app_toList, ih]
    rfl
end DL
namespace K61
open PySem PySem.Spec PyProof.Rows L2 DL
local macro_rules | `(tactic| walk_at "dl") => `(tactic| try simp only [DL.tAsgD, DL.asg, DL.tVarD, DL.lk, DL.sto, DL.stos, DL.tOpD, DL.tCD, DL.tCallD, DL.tConsD, DL.tNilD, DL.tRetD, DL.endsD, DL.startD, DL.tIfSD, DL.tTestD, DL.tNextD, DL.tDropD, DL.tAndD, DL.tOrD, DL.tNotD, DL.tAndV, DL.tOrV, DL.tNotV, DL.tIfD, DL.tNegD, DL.tTupD, DL.tLstD, DL.tSetD, DL.tMD, DL.tSlD, DL.tPartD, DL.tNoD, DL.tRevD, DL.tForD, DL.tLcD, DL.tIterD, DL.tRng1D, DL.tRng2D, DL.tYesD, DL.wipeD, DL.tDictD, DL.tDictOne, DL.tFldD, DL.tMethD, DL.tMakeD, DL.tSetF, DL.tThaw, DL.thaw, DL.tLRg, DL.tChainD, DL.tDispD, DL.tPairsD, DL.tEnumD, DL.tZipD, DL.tCallLD, DL.tSortSet, DL.tRng3D, DL.keyOf, DL.emE_rr, DL.tLess, DL.tLessS, DL.itOk, DL.rAdd_ii, DL.rAdd_ss, DL.rAdd_tt, DL.rAdd_rr, DL.rSub_ii, DL.rMod_ii, DL.rDiv_ii, DL.rPow_ii, DL.rMul_ii, DL.rMul_ri, DL.rLt_ii, DL.rLt_ss, DL.rLe_ii, DL.rGt_ii, DL.rGe_ii, DL.rEq_ii, DL.rEq_ss, DL.rEq_bb, DL.rNe_ii, DL.rNe_ss, DL.rNe_bb, DL.rEq_rr, DL.rNe_rr, DL.rEq_tt, DL.rNe_tt, DL.rIn_st, DL.rNotIn_st, DL.rIn_r, DL.rNotIn_r, DL.rIn_ss, DL.rInDO_sl, DL.rInDO_il, DL.rInDO_sd, DL.rInDO_id, DL.rIsN_n, DL.rIsN_t, DL.rIsN_i, DL.rIsN_s, DL.rIsN_r, DL.rNotN_n, DL.rNotN_t, DL.rNotN_i, DL.rNotN_s, DL.rNotN_r, DL.rIx_t, DL.rIx_r, DL.rIx_s, DL.rIxDO_l, DL.rIxDO_ds, DL.rIx0, DL.rIx1, DL.rIx2, DL.rIx3, DL.rSl_t, DL.rSl_s, DL.rSl_o, DL.rSl_r, DL.rSlDO, DL.rSet_r, DL.rSetDO_0, DL.rSetDO_s, DL.rLen_t, DL.rLen_o, DL.rLen_s, DL.rLen_r, DL.rLenDO, DL.rLenDO_d, DL.rList_t, DL.rList_o, DL.rList_r, DL.rListDO, DL.rTuple_t, DL.rTuple_r, DL.rInt_i, DL.rInt_b, DL.rMax, DL.rMin, DL.rSz0, DL.rSz1, DL.rSz2, DL.rSz3, DL.rSz4, DL.rSz5, DL.rSz6, DL.rSz7, DL.rSz8, Option.some.injEq, DL.DO.lst.injEq, exists_eq_left', exists_eq_left, DL.put_same, DL.put_put, true_and, and_true, List.map, List.replicate, List.length, List.cons_append, List.nil_append, Nat.reduceSub, Nat.reduceAdd, decide_eq_true_eq, if_true, if_false, Bool.false_eq_true, Bool.not_true, Bool.not_false])
local macro_rules | `(tactic| walk_at "dlh") => `(tactic| try simp only [*, DL.tAsgD, DL.asg, DL.tVarD, DL.lk, DL.sto, DL.stos, DL.tOpD, DL.tCD, DL.tCallD, DL.tConsD, DL.tNilD, DL.tRetD, DL.endsD, DL.startD, DL.tIfSD, DL.tTestD, DL.tNextD, DL.tDropD, DL.tAndD, DL.tOrD, DL.tNotD, DL.tAndV, DL.tOrV, DL.tNotV, DL.tIfD, DL.tNegD, DL.tTupD, DL.tLstD, DL.tSetD, DL.tMD, DL.tSlD, DL.tPartD, DL.tNoD, DL.tRevD, DL.tForD, DL.tLcD, DL.tIterD, DL.tRng1D, DL.tRng2D, DL.tYesD, DL.wipeD, DL.tDictD, DL.tDictOne, DL.tFldD, DL.tMethD, DL.tMakeD, DL.tSetF, DL.tThaw, DL.thaw, DL.tLRg, DL.tChainD, DL.tDispD, DL.tPairsD, DL.tEnumD, DL.tZipD, DL.tCallLD, DL.tSortSet, DL.tRng3D, DL.keyOf, DL.emE_rr, DL.tLess, DL.tLessS, DL.itOk, DL.rAdd_ii, DL.rAdd_ss, DL.rAdd_tt, DL.rAdd_rr, DL.rSub_ii, DL.rMod_ii, DL.rDiv_ii, DL.rPow_ii, DL.rMul_ii, DL.rMul_ri, DL.rLt_ii, DL.rLt_ss, DL.rLe_ii, DL.rGt_ii, DL.rGe_ii, DL.rEq_ii, DL.rEq_ss, DL.rEq_bb, DL.rNe_ii, DL.rNe_ss, DL.rNe_bb, DL.rEq_rr, DL.rNe_rr, DL.rEq_tt, DL.rNe_tt, DL.rIn_st, DL.rNotIn_st, DL.rIn_r, DL.rNotIn_r, DL.rIn_ss, DL.rInDO_sl, DL.rInDO_il, DL.rInDO_sd, DL.rInDO_id, DL.rIsN_n, DL.rIsN_t, DL.rIsN_i, DL.rIsN_s, DL.rIsN_r, DL.rNotN_n, DL.rNotN_t, DL.rNotN_i, DL.rNotN_s, DL.rNotN_r, DL.rIx_t, DL.rIx_r, DL.rIx_s, DL.rIxDO_l, DL.rIxDO_ds, DL.rIx0, DL.rIx1, DL.rIx2, DL.rIx3, DL.rSl_t, DL.rSl_s, DL.rSl_o, DL.rSl_r, DL.rSlDO, DL.rSet_r, DL.rSetDO_0, DL.rSetDO_s, DL.rLen_t, DL.rLen_o, DL.rLen_s, DL.rLen_r, DL.rLenDO, DL.rLenDO_d, DL.rList_t, DL.rList_o, DL.rList_r, DL.rListDO, DL.rTuple_t, DL.rTuple_r, DL.rInt_i, DL.rInt_b, DL.rMax, DL.rMin, DL.rSz0, DL.rSz1, DL.rSz2, DL.rSz3, DL.rSz4, DL.rSz5, DL.rSz6, DL.rSz7, DL.rSz8, Option.some.injEq, DL.DO.lst.injEq, exists_eq_left', exists_eq_left, DL.put_same, DL.put_put, true_and, and_true, List.map, List.replicate, List.length, List.cons_append, List.nil_append, Nat.reduceSub, Nat.reduceAdd, decide_eq_true_eq, if_true, if_false, Bool.false_eq_true, Bool.not_true, Bool.not_false])
local macro_rules | `(tactic| walk_at "go") => `(tactic| repeat (first | (refine DL.sq ?_; try walk_at "dl") | (refine DL.ifY rfl ?_; try walk_at "dl") | (refine DL.inY rfl (by decide) ?_; try walk_at "dl") | (refine DL.inN rfl (by decide) ?_; try walk_at "dl") | (refine DL.ifN (by decide) ?_; try walk_at "dl")))
abbrev s_l_vocabulary : Stmt := top 24
theorem sc_l_vocabulary : FnScope ["_law_deck_here", "_law_most", "_law_letters", "_law_names", "_law_k", "_law_at_here", "_law_small", "_law_many", "_law_words", "_law_word", "_law_j"] ["_law_deck_here", "_law_most"] (defScope s_l_vocabulary) := ⟨rfl, rfl, rfl, by decide +kernel, rfl, by decide +kernel, by decide +kernel⟩
def nmS (s : Str) : Prop := ∃ c r, s.cps.toList = c :: r ∧ chUp c ∧ (∀ x ∈ r, chLow x) ∧ r.length ≤ 7
def kdS (s : Str) : Prop := (∀ c ∈ s.cps.toList, chLow c) ∧ 2 ≤ s.cps.toList.length ∧ s.cps.toList.length ≤ 8
abbrev abcZ : Str := "abcdefghijklmnopqrstuvwxyz"
theorem abcZ_list : abcZ.cps.toList = (List.range 26).map (97 + ·) := by decide +kernel
theorem abcZ_len : abcZ.length = 26 := by decide +kernel
theorem abcZ_at {i : Int} (h0 : 0 ≤ i) (h1 : i < 26) : atI abcZ.cps.toList i = some (97 + i.toNat) := by
  obtain ⟨n, rfl⟩ : ∃ n : Nat, i = n := ⟨i.toNat, by omega⟩
  refine atI_nat ?_
  rw [abcZ_list, List.getElem?_map, List.getElem?_range (by omega)]
  rfl
theorem abcZ_occ : ∀ i : Fin 26, Builtin.Str.occurrences abcZ ⟨#[97 + i.val]⟩ 0 abcZ.length 1 = [i.val] := by decide +kernel
theorem abcZ_up : ∀ i : Fin 26, Txt.upper ⟨#[97 + i.val]⟩ = ⟨#[65 + i.val]⟩ := by decide +kernel
theorem one_len {c : Nat} : (⟨#[c]⟩ : Str).length = 1 := rfl
theorem one_len' (s : Str) (h : s.length = 1) : s.length = 1 := h
theorem one_sum (cs : List Nat) : ((cs.map fun c => (⟨#[c]⟩ : Str)).map (·.length)).sum = cs.length := by
  induction cs with
  | nil => rfl
  | cons c cs ih => rw [List.map_cons, List.map_cons, List.sum_cons, ih, one_len, List.length_cons]; omega
theorem ixN_last {n : Nat} (h : 0 < n) : ixN n (-1) = some (n - 1) := by
  unfold ixN
  rw [if_neg (by decide), if_pos (by omega)]
  congr 1
  omega
theorem atI_last {xs : List Str} (h : xs ≠ []) : atI (xs.map D.str) (-1) = some (.str (xs.getLast h)) := by
  have hl : 0 < xs.length := List.length_pos_iff.mpr h
  unfold atI
  rw [List.length_map, ixN_last hl, Option.bind_some, List.getElem?_map, ← List.getLast?_eq_getElem?, List.getLast?_eq_some_getLast h]
  rfl
/-- the cells that a walk of the deck changes -/
theorem Ch.nil {p c : Addr} {S S' : Store} (h : Ch p c S S') : Live [p, c] S' := h.2.live
def spVoc : SpD := fun ds S Q => ∃ (p c : Addr) (m0 m1 m2 : Nat), ds = [.ref p, .tup [.int (m0 : Nat), .int (m1 : Nat), .int (m2 : Nat)]] ∧ Dk p c S ∧ m0 ≤ 6 ∧ 1 ≤ m1 ∧ m1 ≤ 6 ∧ m2 ≤ 6 ∧
  ∀ (ns ks dos : List Str) (S' : Store), Ch p c S S' → ns.length ≤ m0 → 1 ≤ ks.length → ks.length ≤ m1 → dos.length ≤ m2 → (∀ x ∈ ns, nmS x) → (∀ x ∈ ks, kdS x) → (∀ x ∈ dos, kdS x) → ns.Nodup → (ks ++ dos).Nodup → sortedS ns = true → sortedS ks = true → sortedS dos = true →
    Q (.tup [.tup (ns.map D.str), .tup (ks.map D.str), .tup (dos.map D.str)]) S'
section
variable {P : Program} {w : World} {K : PySem.W.Frag} {mg : Str → Option Value} {base : Heap}
/-- letters drawn and joined -/
theorem lc_letters {p c : Addr} {S1 : Store} {q : Addr} {n : Nat} {i : Nat} {δ : StD} {R : KD} {J : ItD} {te : TED} (d : Dk p c S1) (nq : S1 q = none) (hn : n ≤ 100) (hJ : ∀ k S, J k S = some ((List.range n).map fun i : Nat => D.int (i : Nat))[k]?)
    (ev : ∀ (k : Nat) (S : Store) (Y : KD), Dk p c S → (∀ (x : Nat) (S' : Store), chLow x → Ch p c S S' → Y (.str ⟨#[x]⟩) S') → te (sto (sto δ i none) i (some (.int (k : Nat)))) S Y)
    (done : ∀ (cs : List Nat) (S : Store), Ch p c S1 S → S q = some (.lst ((cs.map fun c => (⟨#[c]⟩ : Str)).map D.str)) → (∀ x ∈ cs, chLow x) → cs.length = n → R (.ref q) S) : lcB J (.one i) tYesD te [i] δ R q S1 := by
  have qp := d.live.ne nq (show p ∈ [p, c] by simp)
  have qc := d.live.ne nq (show c ∈ [p, c] by simp)
  refine lcB_inv (List.range n) (fun i : Nat => D.int (i : Nat)) (fun c : Nat => D.str ⟨#[c]⟩) (fun j ys => (∀ x ∈ ys, chLow x) ∧ ys.length = j) (fun S => Ch p c S1 S) (by rw [List.length_range]; omega) (fun S ds h => h.at d nq) ((Ch.refl d).at d nq) (fun k S _ => hJ k S) ⟨(fun x hx => by cases hx), rfl⟩
    (fun k x ys S Y N ex hp hS hq yy nn => ?_) (fun ys S hS hq hp hl => ?_)
  · show if true = true then te (sto (sto δ i none) i (some (.int (x : Nat)))) S Y else N S
    rw [if_pos rfl]
    refine ev x S Y hS.2 fun z S' hz c' => yy z S' (hS.trans c') (c'.get qp.symm qc.symm hq) ⟨fun y hy => ?_, by simp [hp.2]⟩
    rcases List.mem_append.mp hy with hy | hy
    · exact hp.1 y hy
    · cases List.mem_singleton.mp hy; exact hz
  · refine done ys S hS (by rw [List.map_map]; exact hq) hp.1 (by rw [hp.2, List.length_range])
/-- names that differ in their head -/
def nmAt (a : Nat) (tl : List Nat) (j : Nat) : Str := ⟨#[65 + (a + j) % 26]⟩ ++ ⟨tl.toArray⟩
theorem nmAt_list {a j : Nat} {tl : List Nat} : (nmAt a tl j).cps.toList = (65 + (a + j) % 26) :: tl := by
  unfold nmAt
  rw [app_toList]
  rfl
theorem free_name {a : Nat} {tl : List Nat} {xs : List Str} (h : xs.length < 26) : ∃ j, j < 26 ∧ nmAt a tl j ∉ xs := by
  obtain ⟨x, r, _, hx, hn⟩ := free_one (c := (List.range 26).map (nmAt a tl)) (xs := xs) (by
    rw [List.nodup_iff_pairwise_ne, List.pairwise_map]
    refine List.Pairwise.imp_of_mem ?_ (List.nodup_iff_pairwise_ne.mp List.nodup_range)
    intro i j hi hj ne e
    have e2 := congrArg (fun s : Str => s.cps.toList) e
    simp only [nmAt_list, List.cons.injEq, and_true] at e2
    have := List.mem_range.mp hi
    have := List.mem_range.mp hj
    omega) (by simpa using h)
  obtain ⟨j, hj, rfl⟩ := List.mem_map.mp hx
  exact ⟨j, List.mem_range.mp hj, hn⟩
def wdAt (a : Nat) (tl : List Nat) (j : Nat) : Str := ⟨#[97 + (a + j) % 26]⟩ ++ ⟨tl.toArray⟩
theorem wdAt_list {a j : Nat} {tl : List Nat} : (wdAt a tl j).cps.toList = (97 + (a + j) % 26) :: tl := by
  unfold wdAt
  rw [app_toList]
  rfl
theorem free_word {a : Nat} {tl : List Nat} {xs : List Str} (h : xs.length < 25) : ∃ j, j < 26 ∧ wdAt a tl j ∉ xs ∧ (a + j) % 26 ≠ 16 := by
  obtain ⟨x, r, _, hx, hn⟩ := free_one (c := ((List.range 26).filter fun j => decide ((a + j) % 26 ≠ 16)).map (wdAt a tl)) (xs := xs) (by
    rw [List.nodup_iff_pairwise_ne, List.pairwise_map]
    refine List.Pairwise.imp_of_mem ?_ (List.nodup_iff_pairwise_ne.mp (List.nodup_range.filter _))
    intro i j hi hj ne e
    have e2 := congrArg (fun s : Str => s.cps.toList) e
    simp only [wdAt_list, List.cons.injEq, and_true] at e2
    have := List.mem_range.mp (List.mem_filter.mp hi).1
    have := List.mem_range.mp (List.mem_filter.mp hj).1
    omega) (by
      rw [List.length_map]
      have e1 : ∀ b : Fin 26, ((List.range 26).filter fun j => decide ((b.val + j) % 26 ≠ 16)).length = 25 := by decide +kernel
      have e2 := e1 ⟨a % 26, Nat.mod_lt _ (by decide)⟩
      have e3 : ((List.range 26).filter fun j => decide ((a + j) % 26 ≠ 16)) = ((List.range 26).filter fun j => decide ((a % 26 + j) % 26 ≠ 16)) := by
        congr 1
        funext j
        congr 1
        have : (a + j) % 26 = (a % 26 + j) % 26 := by omega
        rw [this]
      rw [e3, e2]
      exact h)
  obtain ⟨j, hj, rfl⟩ := List.mem_map.mp hx
  obtain ⟨h1, h2⟩ := List.mem_filter.mp hj
  exact ⟨j, List.mem_range.mp h1, hn, of_decide_eq_true h2⟩
theorem str_of_list {x : Str} {l : List Nat} (h : x.cps.toList = l) : x = ⟨l.toArray⟩ := by
  cases x
  simp only at h
  rw [← h]
def VnI (S : Store) (p c q : Addr) (m0 m1 m2 : Nat) (i : Nat) : StD → Store → Prop := fun δ S' => ∃ (xs : List Str) (o4 o5 o6 : Option D), δ = [some (.ref p), some (.tup [.int (m0 : Nat), .int (m1 : Nat), .int (m2 : Nat)]), some (.str abcZ), some (.ref q), o4, o5, o6, none, none, none, none] ∧
  Ch p c S S' ∧ S' q = some (.lst (xs.map D.str)) ∧ xs.length = i ∧ (∀ x ∈ xs, nmS x) ∧ xs.Nodup
def VwI (S : Store) (p c q a4 a8 : Addr) (ns : List Str) (m0 m1 m2 : Nat) (u v : Int) (i : Nat) : StD → Store → Prop := fun δ S' => ∃ (xs : List Str) (o4 o5 o6 o9 : Option D), δ = [some (.ref p), some (.tup [.int (m0 : Nat), .int (m1 : Nat), .int (m2 : Nat)]), some (.str abcZ), some (.ref q), o4, o5, o6, some (.ref a4), some (.ref a8), o9, none] ∧
  Ch p c S S' ∧ S' q = some (.lst (ns.map D.str)) ∧ S' a4 = some (.lst [.int u, .int v]) ∧ S' a8 = some (.lst (xs.map D.str)) ∧ xs.length = i ∧ (∀ x ∈ xs, kdS x) ∧ xs.Nodup
theorem df_voc {k : Nat} (T : Bt mg) (A : At K mg "_law_vocabulary" "_law_vocabulary" s_l_vocabulary) (G_l_next : Df P w K mg base "_law_next" k spNext) : Df P w K mg base "_law_vocabulary" (k + 1) spVoc := by
  have nd := sc_l_vocabulary.nd
  refine df_mk A rfl sc_l_vocabulary (fun _ _ _ _ _ _ us hl => match us, hl with | [_, _], _ => rfl) (fun ds S Q h => ?_) (fun f cdv A outer s H E hr ds S Q h => ?_)
  · obtain ⟨p, c, m0, m1, m2, rfl, _⟩ := h
    rfl
  obtain ⟨p, c, m0, m1, m2, rfl, hd, b0, b1, b1', b2, h⟩ := h
  have hu := hu_of hr
  refine ⟨_, (dss_cons (ds_set (i := 2) nd rfl (Or.inr rfl) de_str)
    (dss_cons (ds_set (i := 3) nd rfl (Or.inl rfl) (de_lst da_nil))
    (dss_cons (ds_for PassesOwn.never rfl (di_range1 rfl T.range_ (da_cons (de_call G_l_next hr rfl (da_cons (dv 0) (da_cons (de_op od_add (de_ix hu (dv 1) de_int) de_int) da_nil))) da_nil)) (dg_name (i := 4) nd rfl (Or.inl rfl)) (dss_cons (ds_set (i := 5) nd rfl (Or.inl rfl) (de_call G_l_next hr rfl (da_cons (dv 0) (da_cons de_int da_nil))))
    (dss_cons (ds_set (i := 6) nd rfl (Or.inl rfl) (de_m PySem.F.plainAttrs_str PySem.F.slot_str_join PySem.F.type_str_join md_join de_str (da_cons (de_lc (own := [("_law_j", 10)]) (g := GD.one 10) rfl nd (di_range1 rfl T.range_ (da_cons (de_call G_l_next hr rfl (da_cons (dv 0) (da_cons de_int da_nil))) da_nil)) (blkOk_by (own := [("_law_j", 10)]) (N := ["_law_deck_here", "_law_most", "_law_letters", "_law_names", "_law_k", "_law_at_here", "_law_small", "_law_many", "_law_words", "_law_word", "_law_j"]) (sc := defScope s_l_vocabulary) (by decide +kernel)) (fun _ _ _ _ _ => (dg_name (i := 10) nd rfl (Or.inl rfl))) (fun _ _ _ _ _ => dts_nil) (fun _ _ _ _ _ => (de_ix hu (dv 2) (de_call G_l_next hr rfl (da_cons (dv 0) (da_cons de_int da_nil)))))) da_nil)))
    (dss_cons (ds_while PassesOwn.never (dt_cmp (od_in hu) (de_op od_add (de_m0 PySem.F.plainAttrs_str PySem.F.slot_str_upper PySem.F.type_str_upper md_upper (de_ix hu (dv 2) (dv 5))) (dv 6)) (dv 3) rfl) (dss_one (ds_set (i := 5) nd rfl (Or.inl rfl) (de_op od_mod (de_op od_add (dv 5) de_int) de_int))))
    (dss_one (ds_expr (de_m PySem.F.plainAttrs_list PySem.F.slot_list_append PySem.F.type_list_append md_append (dv 3) (da_cons (de_op od_add (de_m0 PySem.F.plainAttrs_str PySem.F.slot_str_upper PySem.F.type_str_upper md_upper (de_ix hu (dv 2) (dv 5))) (dv 6)) da_nil))))))))
    (dss_cons (ds_set (i := 7) nd rfl (Or.inl rfl) (de_lst (da_cons (de_op od_add de_int (de_call G_l_next hr rfl (da_cons (dv 0) (da_cons (de_ix hu (dv 1) de_int) da_nil)))) (da_cons (de_call G_l_next hr rfl (da_cons (dv 0) (da_cons (de_op od_add (de_ix hu (dv 1) de_int) de_int) da_nil))) da_nil))))
    (dss_cons (ds_set (i := 8) nd rfl (Or.inl rfl) (de_lst da_nil))
    (dss_cons (ds_for PassesOwn.never rfl (di_range1 rfl T.range_ (da_cons (de_op od_add (de_ix hu (dv 7) de_int) (de_ix hu (dv 7) de_int)) da_nil)) (dg_name (i := 4) nd rfl (Or.inl rfl)) (dss_cons (ds_set (i := 9) nd rfl (Or.inl rfl) (de_op od_add (de_ix hu (dv 2) (de_call G_l_next hr rfl (da_cons (dv 0) (da_cons de_int da_nil)))) de_str))
    (dss_cons (ds_set (i := 9) nd rfl (Or.inl rfl) (de_op od_add (dv 9) (de_m PySem.F.plainAttrs_str PySem.F.slot_str_join PySem.F.type_str_join md_join de_str (da_cons (de_lc (own := [("_law_j", 10)]) (g := GD.one 10) rfl nd (di_range1 rfl T.range_ (da_cons (de_call G_l_next hr rfl (da_cons (dv 0) (da_cons de_int da_nil))) da_nil)) (blkOk_by (own := [("_law_j", 10)]) (N := ["_law_deck_here", "_law_most", "_law_letters", "_law_names", "_law_k", "_law_at_here", "_law_small", "_law_many", "_law_words", "_law_word", "_law_j"]) (sc := defScope s_l_vocabulary) (by decide +kernel)) (fun _ _ _ _ _ => (dg_name (i := 10) nd rfl (Or.inl rfl))) (fun _ _ _ _ _ => dts_nil) (fun _ _ _ _ _ => (de_ix hu (dv 2) (de_call G_l_next hr rfl (da_cons (dv 0) (da_cons de_int da_nil)))))) da_nil))))
    (dss_cons (ds_if (dt_w (dw_and (dt_cmp (od_neE hr.units) (dv 8) (de_lst da_nil) (nomark _)) (dw_and1 (dt_cmp (od_eq hr.units) (de_call G_l_next hr rfl (da_cons (dv 0) (da_cons de_int da_nil))) de_int (nomark _))))) (dss_one (ds_set (i := 9) nd rfl (Or.inl rfl) (de_slice (de_op od_add (de_ix hu (dv 8) (de_neg de_int)) (dv 9)) do_none (do_some de_int)))) dss_nil)
    (dss_cons (ds_while PassesOwn.never (dt_w (dw_or (dt_cmp (od_in hu) (dv 9) (dv 8) rfl) (dw_or1 (dt_cmp (od_eq hr.units) (de_ix hu (dv 9) de_int) de_str (nomark _))))) (dss_one (ds_set (i := 9) nd rfl (Or.inl rfl) (de_op od_add (de_ix hu (dv 2) (de_op od_mod (de_op od_add (de_m PySem.F.plainAttrs_str PySem.F.slot_str_index PySem.F.type_str_index md_sindex (dv 2) (da_cons (de_ix hu (dv 9) de_int) da_nil)) de_int) de_int)) (de_slice (dv 9) (do_some de_int) do_none)))))
    (dss_one (ds_expr (de_m PySem.F.plainAttrs_list PySem.F.slot_list_append PySem.F.type_list_append md_append (dv 8) (da_cons (dv 9) da_nil)))))))))
    (dss_one (ds_ret (de_tup (da_cons (de_callTy cd_tuple rfl T.tuple_ (by decide +kernel) (da_cons (de_callB cd_sorted rfl T.sorted_ (by decide +kernel) (da_cons (dv 3) da_nil)) da_nil)) (da_cons (de_callTy cd_tuple rfl T.tuple_ (by decide +kernel) (da_cons (de_callB cd_sorted rfl T.sorted_ (by decide +kernel) (da_cons (de_slice (dv 8) do_none (do_some (de_ix hu (dv 7) de_int))) da_nil)) da_nil)) (da_cons (de_callTy cd_tuple rfl T.tuple_ (by decide +kernel) (da_cons (de_callB cd_sorted rfl T.sorted_ (by decide +kernel) (da_cons (de_slice (dv 8) (do_some (de_ix hu (dv 7) de_int)) do_none) da_nil)) da_nil)) da_nil)))))))))))), ?_⟩
  walk_at "go"
  intro q nq
  have qp := hd.live.ne nq (show p ∈ [p, c] by simp)
  have qc := hd.live.ne nq (show c ∈ [p, c] by simp)
  refine sq ?_
  walk_at "dl"
  have c0 : Ch p c S (put S q (.lst [])) := (Ch.refl hd).new nq
  refine ⟨p, c, _, rfl, c0.2, by omega, by omega, fun r S1 r0 r1 c1 => ?_⟩
  walk_at "dl"
  refine ⟨by omega, ?_⟩
  have hq1 : S1 q = some (.lst []) := c1.get qp.symm qc.symm put_same
  refine forB_rng (VnI S p c q m0 m1 m2) ⟨[], none, none, none, rfl, c0.trans c1, hq1, rfl, (fun x hx => by cases hx), List.nodup_nil⟩ ?_ ?_
  · rintro i δ S2 hi ⟨xs, o4, o5, o6, rfl, c2, hq2, hl2, hn2, hnd2⟩
    walk_at "go"
    refine ⟨p, c, _, rfl, c2.2, by decide, by decide, fun a0 S3 a1 a2 c3 => ?_⟩
    walk_at "go"
    refine ⟨ty_str, ?_⟩
    refine ⟨p, c, _, rfl, c3.2, by decide, by decide, fun r3 S4 r30 r31 c4 => ?_⟩
    walk_at "dl"
    refine ⟨by omega, fun q5 nq5 => ?_⟩
    have c34 := c2.trans (c3.trans c4)
    refine lc_letters (n := r3.toNat) c4.2 nq5 (by omega) (fun k S => rng_nat) (fun k S Y dk yy => ?_) (fun cs S6 c6 hq6 hc6 hl6 => ?_)
    · walk_at "dl"
      refine ⟨p, c, _, rfl, dk, by decide, by decide, fun x S' x0 x1 c' => ?_⟩
      walk_at "dl"
      refine ⟨_, szOk (by rw [abcZ_len]; decide), abcZ_at x0 x1, ?_⟩
      exact yy _ _ (by unfold chLow; omega) c'
    walk_at "dl"
    have hsum : ∀ cs : List Nat, ((cs.map fun c => (⟨#[c]⟩ : Str)).map (·.length)).sum = cs.length := fun cs => by
      induction cs with
      | nil => rfl
      | cons c cs ih => rw [List.map_cons, List.map_cons, List.sum_cons, ih, one_len, List.length_cons]; omega
    refine ⟨cs.map fun c => (⟨#[c]⟩ : Str), (show seqT S6 (.ref q5) = _ from seqAt_ref hq6), by rw [hsum, show ("" : Str).length = 0 from rfl]; omega, ?_⟩
    have hsm := str_of_list (join_empty cs)
    rw [hsm]
    obtain ⟨an, rfl⟩ : ∃ n : Nat, a0 = n := ⟨a0.toNat, by omega⟩
    have c26 : Ch p c S S6 := c34.trans c6
    have hq6' : S6 q = some (.lst (xs.map D.str)) := c6.get qp.symm qc.symm (c4.get qp.symm qc.symm (c3.get qp.symm qc.symm hq2))
    have upS : ∀ j : Nat, Txt.upper ⟨#[97 + (an + j) % 26]⟩ ++ ⟨cs.toArray⟩ = nmAt an cs j := fun j => by
      unfold nmAt
      rw [abcZ_up ⟨(an + j) % 26, Nat.mod_lt _ (by decide)⟩]
    obtain ⟨j0, hj0, hfree⟩ := free_name (a := an) (tl := cs) (xs := xs) (by omega)
    have upT : ∀ (j : Nat) (S' : Store) (R : KD), R (.str (nmAt an cs j)) S' → ∃ ch, abcZ.length ≤ sizeLine ∧ atI abcZ.cps.toList (((an + j) % 26 : Nat) : Int) = some ch ∧ tyD "str" (.str ⟨#[ch]⟩) S' ∧ (mUpper (.str ⟨#[ch]⟩) [] S' fun x S1 => oAdd x (.str ⟨cs.toArray⟩) S1 R) := fun j S' R hR => by
      have e1 : (Txt.upper ⟨#[97 + (an + j) % 26]⟩).length = 1 := by rw [abcZ_up ⟨(an + j) % 26, Nat.mod_lt _ (by decide)⟩]; rfl
      have e2 : (⟨cs.toArray⟩ : Str).length = cs.length := by simp [Str.length]
      have e3 := abcZ_at (i := (((an + j) % 26 : Nat) : Int)) (by omega) (by omega)
      refine ⟨97 + (an + j) % 26, szOk (by rw [abcZ_len]; decide), by rw [e3]; rfl, ty_str, by rw [one_len]; decide, szOk (by rw [e1, e2]; omega), ?_⟩
      rw [upS]; exact hR
    refine sq ?_
    walk_at "dl"
    refine while_seq (fun j => [some (.ref p), some (.tup [.int (m0 : Nat), .int (m1 : Nat), .int (m2 : Nat)]), some (.str abcZ), some (.ref q), some (.int (0 + (i : Int))), some (.int (((an + j) % 26 : Nat) : Int)), some (.str ⟨cs.toArray⟩), none, none, none, none]) j0 (fun j => decide (nmAt an cs j ∈ xs)) (fun S' => S' = S6) ?_ (by simpa using hfree) rfl ?_ ?_ ?_
    · have : (an + 0) % 26 = an := by omega
      simp only [this]
    · rintro j S7 hj rfl N hN
      walk_at "dl"
      refine upT j _ _ ?_
      rw [hq6']
      walk_at "dl"
      exact ⟨xs, strsOf_of xs, hN _ rfl⟩
    · rintro j S7 N hj rfl hN
      walk_at "dl"
      refine ⟨by decide, ?_⟩
      have e : (((an + j) % 26 : Nat) : Int) + 1 = ((an + j) % 26 + 1 : Nat) := by omega
      have e2 : ((((an + j) % 26 : Nat) : Int) + 1) % 26 = (((an + (j + 1)) % 26 : Nat) : Int) := by omega
      rw [e2]
      exact hN _ rfl
    · rintro j S7 hj hb rfl
      have hnew : nmAt an cs j ∉ xs := by simpa using hb
      walk_at "dl"
      refine ⟨ty_list hq6', ?_⟩
      refine upT j _ _ ?_
      refine append_of hq6' (szLt (by rw [List.length_map]; omega)) ?_
      have cp : Ch p c S (put S7 q (.lst (xs.map D.str ++ [.str (nmAt an cs j)]))) := c26.at hd nq
      refine ⟨xs ++ [nmAt an cs j], _, _, _, rfl, cp, by rw [put_same, List.map_append]; rfl, by simp [hl2], fun x hx => ?_, ?_⟩
      · rcases List.mem_append.mp hx with z | z
        · exact hn2 x z
        · cases List.mem_singleton.mp z
          exact ⟨65 + (an + j) % 26, cs, nmAt_list, by unfold chUp; omega, hc6, by omega⟩
      · rw [List.nodup_append]
        exact ⟨hnd2, by simp, fun u hu v hv e => hnew (by rw [← List.mem_singleton.mp hv, ← e]; exact hu)⟩
  rintro δ S2 ⟨xs, o4, o5, o6, rfl, c2, hq2, hl2, hn2, hnd2⟩
  walk_at "go"
  refine ⟨p, c, _, rfl, c2.2, by omega, by omega, fun u S3 u0 u1 c3 => ?_⟩
  walk_at "dl"
  refine ⟨p, c, _, rfl, c3.2, by omega, by omega, fun v S4 v0 v1 c4 => ?_⟩
  walk_at "dl"
  intro a7 n7
  have c24 : Ch p c S S4 := c2.trans (c3.trans c4)
  have hq4 : S4 q = some (.lst (xs.map D.str)) := c4.get qp.symm qc.symm (c3.get qp.symm qc.symm hq2)
  have q7 : q ≠ a7 := ne_new hq4 n7
  have hq5 : put S4 a7 (.lst [.int (1 + u), .int v]) q = some (.lst (xs.map D.str)) := (put_ne q7).trans hq4
  have h75 : put S4 a7 (.lst [.int (1 + u), .int v]) a7 = some (.lst [.int (1 + u), .int v]) := put_same
  have c5 : Ch p c S (put S4 a7 (.lst [.int (1 + u), .int v])) := c24.new n7
  have n7' : S a7 = none := c24.1.none' c24.2.live n7
  generalize put S4 a7 (.lst [.int (1 + u), .int v]) = S5 at hq5 h75 c5
  walk_at "go"
  intro a8 n8
  have q8 : q ≠ a8 := ne_new hq5 n8
  have a78 : a7 ≠ a8 := ne_new h75 n8
  have n8' : S a8 = none := c5.1.none' c5.2.live n8
  refine sq ?_
  walk_at "dl"
  have h76 : put S5 a8 (.lst []) a7 = some (.lst [.int (1 + u), .int v]) := (put_ne a78).trans h75
  refine ixL h76 at0 ?_
  walk_at "dl"
  refine ixL h76 at1 ?_
  walk_at "dl"
  refine ⟨by omega, ?_⟩
  obtain ⟨un, rfl⟩ : ∃ n : Nat, u = n := ⟨u.toNat, by omega⟩
  obtain ⟨vn, rfl⟩ : ∃ n : Nat, v = n := ⟨v.toNat, by omega⟩
  have etot : (1 + (un : Int) + (vn : Int)).toNat = 1 + un + vn := by omega
  rw [etot]
  have p7 := (hd.live.ne n7' (show p ∈ [p, c] by simp))
  have c7n := (hd.live.ne n7' (show c ∈ [p, c] by simp))
  have p8 := (hd.live.ne n8' (show p ∈ [p, c] by simp))
  have c8n := (hd.live.ne n8' (show c ∈ [p, c] by simp))
  refine forB_rng (VwI S p c q a7 a8 xs m0 m1 m2 (1 + (un : Int)) vn) ⟨[], o4, o5, o6, none, rfl, c5.new n8, (put_ne q8).trans hq5, h76, put_same, rfl, (fun x hx => by cases hx), List.nodup_nil⟩ ?_ ?_
  · rintro i δ S7 hi ⟨ws, o4, o5, o6, o9, rfl, c7, hq7, h77, h87, hl7, hw7, hnd7⟩
    have keep : ∀ {S' : Store}, Ch p c S7 S' → S' q = some (.lst (xs.map D.str)) ∧ S' a7 = some (.lst [.int (1 + (un : Int)), .int (vn : Int)]) ∧ S' a8 = some (.lst (ws.map D.str)) := fun hc => ⟨hc.get qp.symm qc.symm hq7, hc.get p7.symm c7n.symm h77, hc.get p8.symm c8n.symm h87⟩
    walk_at "go"
    refine ⟨p, c, _, rfl, c7.2, by decide, by decide, fun a0 S8 a1 a2 c8 => ?_⟩
    walk_at "dl"
    refine ⟨_, szOk (by rw [abcZ_len]; decide), abcZ_at a1 a2, ?_⟩
    refine ⟨szOk (by rw [one_len, one_len' "q" rfl]; decide), ?_⟩
    walk_at "go"
    refine ⟨ty_str, ?_⟩
    refine ⟨p, c, _, rfl, c8.2, by decide, by decide, fun r3 S9 r30 r31 c9 => ?_⟩
    walk_at "dl"
    refine ⟨by omega, fun q5 nq5 => ?_⟩
    refine lc_letters (n := r3.toNat) c9.2 nq5 (by omega) (fun k S => rng_nat) (fun k S Y dk yy => ?_) (fun cs S10 c10 hq10 hc10 hl10 => ?_)
    · walk_at "dl"
      refine ⟨p, c, _, rfl, dk, by decide, by decide, fun x S' x0 x1 c' => ?_⟩
      walk_at "dl"
      refine ⟨_, szOk (by rw [abcZ_len]; decide), abcZ_at x0 x1, ?_⟩
      exact yy _ _ (by unfold chLow; omega) c'
    walk_at "dl"
    refine ⟨cs.map fun c => (⟨#[c]⟩ : Str), (show seqT S10 (.ref q5) = _ from seqAt_ref hq10), by rw [one_sum, show ("" : Str).length = 0 from rfl]; omega, ?_⟩
    rw [str_of_list (join_empty cs)]
    walk_at "dl"
    have wl : ((⟨#[97 + a0.toNat]⟩ : Str) ++ ("q" : Str) ++ (⟨cs.toArray⟩ : Str)).cps.toList = (97 + a0.toNat) :: 113 :: cs := by
      rw [app_toList, app_toList]
      rfl
    have wk : kdS ((⟨#[97 + a0.toNat]⟩ : Str) ++ ("q" : Str) ++ (⟨cs.toArray⟩ : Str)) := by
      refine ⟨fun x hx => ?_, by rw [wl]; simp, by rw [wl]; simp; omega⟩
      rw [wl] at hx
      simp only [List.mem_cons] at hx
      rcases hx with rfl | rfl | hx
      · unfold chLow; omega
      · decide
      · exact hc10 x hx
    refine ⟨szOk (by rw [len_toList, len_toList, app_toList]; simp [show ("q" : Str).cps.toList = [113] from rfl]; omega), ?_⟩
    generalize (⟨#[97 + a0.toNat]⟩ : Str) ++ ("q" : Str) ++ (⟨cs.toArray⟩ : Str) = wd at wk
    have c710 : Ch p c S7 S10 := c8.trans (c9.trans c10)
    refine seq_cut (fun δ' S11 => ∃ wd : Str, kdS wd ∧ Ch p c S7 S11 ∧ δ' = [some (.ref p), some (.tup [.int (m0 : Nat), .int (m1 : Nat), .int (m2 : Nat)]), some (.str abcZ), some (.ref q), some (.int (0 + (i : Int))), o5, o6, some (.ref a7), some (.ref a8), some (.str wd), none]) (fun N hN => ?_) ?_
    · walk_at "dl"
      intro e ne
      have c11 := c710.new (o := .lst []) ne
      obtain ⟨_, _, k8⟩ := keep c11
      refine ⟨_, k8, ?_⟩
      have last : ∀ (S' : Store), Ch p c S7 S' → N [some (.ref p), some (.tup [.int (m0 : Nat), .int (m1 : Nat), .int (m2 : Nat)]), some (.str abcZ), some (.ref q), some (.int (0 + (i : Int))), o5, o6, some (.ref a7), some (.ref a8), some (.str wd), none] S' := fun S' hc => hN _ _ ⟨wd, wk, hc, rfl⟩
      cases hws : ws with
      | nil =>
        refine ifN (by simp) ?_
        exact last _ c11
      | cons z zs =>
        refine ifY (by simp) ?_
        walk_at "dl"
        refine ⟨p, c, _, rfl, c11.2, by decide, by decide, fun r4 S12 g0 g1 c12 => ?_⟩
        walk_at "dl"
        have c13 := c11.trans c12
        refine ite2 (fun e1 => ?_) (fun e1 => ?_)
        · walk_at "dl"
          obtain ⟨_, _, k8⟩ := keep c13
          have hne : ws ≠ [] := by rw [hws]; simp
          have hlast := List.getLast_mem hne
          have wz := hw7 _ hlast
          refine ixL (d := .str (ws.getLast hne)) k8 ?_ ?_
          · exact atI_last hne
          · walk_at "dl"
            have l1 := wz.2.2
            have l2 := wk.2.2
            have ecut : (8 : Int) = ((8 : Nat) : Int) := rfl
            refine ⟨szOk (by rw [len_toList, len_toList]; omega), szOk (by rw [len_toList, app_toList, List.length_append]; omega), ?_⟩
            refine hN _ _ ⟨_, ?_, c13, rfl⟩
            have e5 : (cutS (ws.getLast hne ++ wd) none (some 8)).cps.toList = ((ws.getLast hne).cps.toList ++ wd.cps.toList).take 8 := by
              rw [cutS_toList, app_toList, ecut, cutL_to]
            refine ⟨fun x hx => ?_, ?_, ?_⟩
            · rw [e5] at hx
              rcases List.mem_append.mp (List.mem_of_mem_take hx) with z | z
              · exact wz.1 x z
              · exact wk.1 x z
            · rw [e5, List.length_take, List.length_append]
              have := wz.2.1
              omega
            · rw [e5, List.length_take]; omega
        · walk_at "dl"
          exact last _ c13
    rintro δ' S11 ⟨wd, wk, c11, rfl⟩
    obtain ⟨k1, k2, k3⟩ := keep c11
    obtain ⟨hd0, tl, ewd⟩ : ∃ h t, wd.cps.toList = h :: t := by
      cases e : wd.cps.toList with
      | nil => have := wk.2.1; rw [e] at this; simp at this
      | cons h t => exact ⟨h, t, rfl⟩
    have hhd : chLow hd0 := wk.1 hd0 (by rw [ewd]; simp)
    obtain ⟨an, rfl⟩ : ∃ a, hd0 = 97 + a := ⟨hd0 - 97, by unfold chLow at hhd; omega⟩
    have ewat : wd = wdAt an tl 0 := by
      refine PySem.W.str_of_cps ?_
      rw [ewd, wdAt_list]
      unfold chLow at hhd
      congr 1
      omega
    obtain ⟨j0, hj0, hfree, hnq⟩ := free_word (a := an) (tl := tl) (xs := ws) (by omega)
    have tlk : tl.length ≤ 7 ∧ 1 ≤ tl.length ∧ ∀ x ∈ tl, chLow x := by
      have h1 := wk.2.1
      have h2 := wk.2.2
      rw [ewd] at h1 h2
      simp at h1 h2
      exact ⟨by omega, by omega, fun x hx => wk.1 x (by rw [ewd]; exact List.mem_cons_of_mem _ hx)⟩
    have wlen : ∀ j, (wdAt an tl j).length ≤ 8 := fun j => by rw [len_toList, wdAt_list, List.length_cons]; omega
    refine sq ?_
    walk_at "dl"
    refine while_seq (fun j => [some (.ref p), some (.tup [.int (m0 : Nat), .int (m1 : Nat), .int (m2 : Nat)]), some (.str abcZ), some (.ref q), some (.int (0 + (i : Int))), o5, o6, some (.ref a7), some (.ref a8), some (.str (wdAt an tl j)), none]) j0 (fun j => decide (wdAt an tl j ∈ ws) || decide ((an + j) % 26 = 16)) (fun S' => S' = S11) ?_ (by simp [hfree, hnq]) rfl ?_ ?_ ?_
    · rw [ewat]
    · rintro j S12 hj rfl N hN
      walk_at "dl"
      rw [k3]
      walk_at "dl"
      refine ⟨ws, strsOf_of ws, ?_⟩
      have hN' := hN S12 rfl
      by_cases c1 : wdAt an tl j ∈ ws
      · refine ifY (by simpa using c1) ?_
        rw [decide_eq_true c1, Bool.true_or] at hN'
        exact hN'
      · refine ifN (by simpa using c1) ?_
        rw [decide_eq_false c1, Bool.false_or] at hN'
        walk_at "dl"
        refine ⟨97 + (an + j) % 26, szOk (by have := wlen j; omega), ?_, ?_⟩
        · rw [wdAt_list]; exact atI_nat (j := 0) rfl
        · have e6 : decide ((⟨#[97 + (an + j) % 26]⟩ : Str) = "q") = decide ((an + j) % 26 = 16) := by
            refine decide_eq_decide.mpr ⟨fun z => ?_, fun z => by rw [z]; rfl⟩
            have := congrArg (fun s : Str => s.cps.toList) z
            have e7 : [97 + (an + j) % 26] = [113] := this
            have := (List.cons.inj e7).1
            omega
          rw [e6]
          exact hN'
    · rintro j S12 N hj rfl hN
      walk_at "dl"
      refine ⟨ty_str, ?_⟩
      refine ⟨97 + (an + j) % 26, szOk (by have := wlen j; omega), by rw [wdAt_list]; exact atI_nat (j := 0) rfl, ?_⟩
      have e1 := abcZ_occ ⟨(an + j) % 26, Nat.mod_lt _ (by decide)⟩
      refine ⟨_, [], e1, ?_⟩
      walk_at "dl"
      refine ⟨by decide, ?_⟩
      have e2 : ((((an + j) % 26 : Nat) : Int) + 1) % 26 = (((an + (j + 1)) % 26 : Nat) : Int) := by omega
      rw [e2]
      refine ⟨97 + (an + (j + 1)) % 26, szOk (by rw [abcZ_len]; decide), ?_, ?_⟩
      · have := abcZ_at (i := (((an + (j + 1)) % 26 : Nat) : Int)) (by omega) (by omega)
        rw [this]; rfl
      · refine ⟨szOk (by have := wlen j; omega), ?_⟩
        have e3 : cutS (wdAt an tl j) (some 1) none = ⟨tl.toArray⟩ := by
          refine str_of_list ?_
          rw [cutS_toList, wdAt_list, show (1 : Int) = ((1 : Nat) : Int) from rfl, cutL_from]
          rfl
        rw [e3]
        refine ⟨szOk (by rw [one_len]; simp [Str.length]; omega), ?_⟩
        exact hN _ rfl
    · rintro j S12 hj hb rfl
      have hb' : wdAt an tl j ∉ ws := by
        rw [Bool.or_eq_false_iff] at hb
        simpa using hb.1
      walk_at "dl"
      refine ⟨ty_list k3, append_of k3 (szLt (by rw [List.length_map]; omega)) ?_⟩
      have cp : Ch p c S (put S12 a8 (.lst (ws.map D.str ++ [.str (wdAt an tl j)]))) := (c7.trans c11).at hd n8'
      refine ⟨ws ++ [wdAt an tl j], _, _, _, _, rfl, cp, (put_ne q8).trans k1, (put_ne a78).trans k2, by rw [put_same, List.map_append]; rfl, by simp [hl7], fun x hx => ?_, ?_⟩
      · rcases List.mem_append.mp hx with z | z
        · exact hw7 x z
        · cases List.mem_singleton.mp z
          refine ⟨fun y hy => ?_, by rw [wdAt_list, List.length_cons]; omega, by rw [wdAt_list, List.length_cons]; omega⟩
          rw [wdAt_list] at hy
          rcases List.mem_cons.mp hy with rfl | hy
          · unfold chLow; omega
          · exact tlk.2.2 y hy
      · rw [List.nodup_append]
        exact ⟨hnd7, by simp, fun u hu v hv e => hb' (by rw [← List.mem_singleton.mp hv, ← e]; exact hu)⟩
  · rintro δ S7 ⟨ws, o4, o5, o6, o9, rfl, c7, hq7, h77, h87, hl7, hw7, hnd7⟩
    walk_at "dl"
    refine ⟨_, seqAt_ref hq7, by rw [List.length_map]; omega, .inl ⟨_, strsOf_of _, fun ns p1 perm1 srt1 np1 => ?_⟩⟩
    have c8 := c7.new (o := .lst (ns.map D.str)) np1
    refine ⟨_, put_same, ?_⟩
    walk_at "dl"
    have h87' : put S7 p1 (.lst (ns.map D.str)) a8 = some (.lst (ws.map D.str)) := (put_ne (ne_new h87 np1)).trans h87
    have h77' : put S7 p1 (.lst (ns.map D.str)) a7 = some (.lst [.int (1 + (un : Int)), .int (vn : Int)]) := (put_ne (ne_new h77 np1)).trans h77
    refine ixL h77' at0 ?_
    rw [h87']
    walk_at "dl"
    rw [cutL_map, show (1 + (un : Int)) = ((1 + un : Nat) : Int) by omega, cutL_to]
    intro p2 np2
    refine ⟨_, seqAt_ref put_same, by rw [List.length_map, List.length_take]; omega, .inl ⟨_, strsOf_of _, fun ks p3 perm2 srt2 np3 => ?_⟩⟩
    refine ⟨_, put_same, ?_⟩
    walk_at "dl"
    have st : ∀ {a : Addr} {o : DO}, put S7 p1 (.lst (ns.map D.str)) a = some o → put (put (put S7 p1 (.lst (ns.map D.str))) p2 (.lst ((ws.take (1 + un)).map D.str))) p3 (.lst (ks.map D.str)) a = some o := fun e => (put_ne (ne_new ((put_ne (ne_new e np2)).trans e) np3)).trans ((put_ne (ne_new e np2)).trans e)
    have c10 := (c8.new (o := .lst ((ws.take (1 + un)).map D.str)) np2).new (o := .lst (ks.map D.str)) np3
    have h77'' := st h77'
    have h87'' := st h87'
    generalize put (put (put S7 p1 (.lst (ns.map D.str))) p2 (.lst ((ws.take (1 + un)).map D.str))) p3 (.lst (ks.map D.str)) = S10 at c10 h77'' h87''
    refine ixL h77'' at0 ?_
    rw [h87'']
    walk_at "dl"
    rw [cutL_map, show (1 + (un : Int)) = ((1 + un : Nat) : Int) by omega, cutL_from]
    intro p4 np4
    refine ⟨_, seqAt_ref put_same, by rw [List.length_map, List.length_drop]; omega, .inl ⟨_, strsOf_of _, fun dos p5 perm3 srt3 np5 => ?_⟩⟩
    refine ⟨_, put_same, ?_⟩
    have c12 := (c10.new (o := .lst ((ws.drop (1 + un)).map D.str)) np4).new (o := .lst (dos.map D.str)) np5
    have hk := perm2.append perm3
    rw [List.take_append_drop] at hk
    refine ⟨_, Sub.refl, h ns ks dos _ c12 (by rw [perm1.length_eq, hl2]; omega) (by rw [perm2.length_eq, List.length_take]; omega) (by rw [perm2.length_eq, List.length_take]; omega) (by rw [perm3.length_eq, List.length_drop]; omega) (fun x hx => hn2 x (perm1.mem_iff.mp hx))
      (fun x hx => hw7 x (List.mem_of_mem_take (perm2.mem_iff.mp hx))) (fun x hx => hw7 x (List.mem_of_mem_drop (perm3.mem_iff.mp hx))) (perm1.nodup_iff.mpr hnd2) (hk.nodup_iff.mpr hnd7) srt1 srt2 srt3⟩
end
end K61

set_option Elab.async false
set_option maxRecDepth 100000
set_option linter.unusedVariables false
namespace DL
open PySem PySem.Spec PyProof.Rows L2
section
variable {S : Store} {p : Addr} {ds : List D} {i : Int} {Q : KD}
theorem ixL_mem (h : S p = some (.lst ds)) (h0 : 0 ≤ i) (h1 : i < ds.length) (q : ∀ d ∈ ds, Q d S) : ixDO (S p) (.int i) S Q := by
  rw [h, rIxDO_l]
  exact ixSeq_mem h0 h1 q
end
theorem eqv_emp (xs : List PyData) : PyData.eqv (.tuple xs) (.tuple []) = xs.isEmpty := by
  cases xs <;> simp [PyData.eqv, PyData.eqvAll]
theorem PDs.strs {S : Store} : ∀ xs : List Str, PDs S (xs.map D.str) (xs.map PyData.str)
  | [] => .nil
  | x :: xs => .cons (.str x) (PDs.strs xs)
theorem shaped_strs {xs : List Str} (h : ∀ x ∈ xs, FO.SOk x) : SeqAt.shaped (.tuple (xs.map PyData.str)) = true := by
  have h1 := FO.can_map PyData.str xs fun x hx => by simpa [PyData.canLay0] using h x hx
  have h2 := FO.dep_map PyData.str 0 xs fun x hx => by simp [PyData.depth]
  unfold SeqAt.shaped
  simp only [PyData.canLay0, h1, PyData.depth, Bool.true_and]
  exact decide_eq_true (by omega)
/-- a tuple of texts against () -/
theorem embT {xs : List Str} {S : Store} {Q : KD} (f : Bool → Bool) (h : ∀ x ∈ xs, FO.SOk x) (q : Q (.bl (f xs.isEmpty)) S) : eqAny f (.tup (xs.map D.str)) (.tup []) S Q := by
  refine ⟨_, .tuple [], .tup (PDs.strs xs), .tup .nil, shaped_strs h, by decide +kernel, ?_⟩
  rw [eqv_emp]
  have : (xs.map PyData.str).isEmpty = xs.isEmpty := by cases xs <;> rfl
  rw [this]
  exact q
end DL
namespace K61
open PySem PySem.Spec PyProof.Rows L2 DL FO
local macro_rules | `(tactic| walk_at "dl") => `(tactic| try simp only [DL.tAsgD, DL.asg, DL.tVarD, DL.lk, DL.sto, DL.stos, DL.tOpD, DL.tCD, DL.tCallD, DL.tConsD, DL.tNilD, DL.tRetD, DL.endsD, DL.startD, DL.tIfSD, DL.tTestD, DL.tNextD, DL.tDropD, DL.tAndD, DL.tOrD, DL.tNotD, DL.tAndV, DL.tOrV, DL.tNotV, DL.tIfD, DL.tNegD, DL.tTupD, DL.tLstD, DL.tSetD, DL.tMD, DL.tSlD, DL.tPartD, DL.tNoD, DL.tRevD, DL.tForD, DL.tLcD, DL.tIterD, DL.tRng1D, DL.tRng2D, DL.tYesD, DL.wipeD, DL.tDictD, DL.tDictOne, DL.tFldD, DL.tMethD, DL.tMakeD, DL.tSetF, DL.tThaw, DL.thaw, DL.tLRg, DL.tChainD, DL.tDispD, DL.tPairsD, DL.tEnumD, DL.tZipD, DL.tCallLD, DL.tSortSet, DL.tRng3D, DL.keyOf, DL.emE_rr, DL.tLess, DL.tLessS, DL.itOk, DL.rAdd_ii, DL.rAdd_ss, DL.rAdd_tt, DL.rAdd_rr, DL.rSub_ii, DL.rMod_ii, DL.rDiv_ii, DL.rPow_ii, DL.rMul_ii, DL.rMul_ri, DL.rLt_ii, DL.rLt_ss, DL.rLe_ii, DL.rGt_ii, DL.rGe_ii, DL.rEq_ii, DL.rEq_ss, DL.rEq_bb, DL.rNe_ii, DL.rNe_ss, DL.rNe_bb, DL.rEq_rr, DL.rNe_rr, DL.rEq_tt, DL.rNe_tt, DL.rIn_st, DL.rNotIn_st, DL.rIn_r, DL.rNotIn_r, DL.rIn_ss, DL.rInDO_sl, DL.rInDO_il, DL.rInDO_sd, DL.rInDO_id, DL.rIsN_n, DL.rIsN_t, DL.rIsN_i, DL.rIsN_s, DL.rIsN_r, DL.rNotN_n, DL.rNotN_t, DL.rNotN_i, DL.rNotN_s, DL.rNotN_r, DL.rIx_t, DL.rIx_r, DL.rIx_s, DL.rIxDO_l, DL.rIxDO_ds, DL.rIx0, DL.rIx1, DL.rIx2, DL.rIx3, DL.rSl_t, DL.rSl_s, DL.rSl_o, DL.rSl_r, DL.rSlDO, DL.rSet_r, DL.rSetDO_0, DL.rSetDO_s, DL.rLen_t, DL.rLen_o, DL.rLen_s, DL.rLen_r, DL.rLenDO, DL.rLenDO_d, DL.rList_t, DL.rList_o, DL.rList_r, DL.rListDO, DL.rTuple_t, DL.rTuple_r, DL.rInt_i, DL.rInt_b, DL.rMax, DL.rMin, DL.rSz0, DL.rSz1, DL.rSz2, DL.rSz3, DL.rSz4, DL.rSz5, DL.rSz6, DL.rSz7, DL.rSz8, Option.some.injEq, DL.DO.lst.injEq, exists_eq_left', exists_eq_left, DL.put_same, DL.put_put, true_and, and_true, List.map, List.replicate, List.length, List.cons_append, List.nil_append, Nat.reduceSub, Nat.reduceAdd, decide_eq_true_eq, if_true, if_false, Bool.false_eq_true, Bool.not_true, Bool.not_false])
local macro_rules | `(tactic| walk_at "dlh") => `(tactic| try simp only [*, DL.tAsgD, DL.asg, DL.tVarD, DL.lk, DL.sto, DL.stos, DL.tOpD, DL.tCD, DL.tCallD, DL.tConsD, DL.tNilD, DL.tRetD, DL.endsD, DL.startD, DL.tIfSD, DL.tTestD, DL.tNextD, DL.tDropD, DL.tAndD, DL.tOrD, DL.tNotD, DL.tAndV, DL.tOrV, DL.tNotV, DL.tIfD, DL.tNegD, DL.tTupD, DL.tLstD, DL.tSetD, DL.tMD, DL.tSlD, DL.tPartD, DL.tNoD, DL.tRevD, DL.tForD, DL.tLcD, DL.tIterD, DL.tRng1D, DL.tRng2D, DL.tYesD, DL.wipeD, DL.tDictD, DL.tDictOne, DL.tFldD, DL.tMethD, DL.tMakeD, DL.tSetF, DL.tThaw, DL.thaw, DL.tLRg, DL.tChainD, DL.tDispD, DL.tPairsD, DL.tEnumD, DL.tZipD, DL.tCallLD, DL.tSortSet, DL.tRng3D, DL.keyOf, DL.emE_rr, DL.tLess, DL.tLessS, DL.itOk, DL.rAdd_ii, DL.rAdd_ss, DL.rAdd_tt, DL.rAdd_rr, DL.rSub_ii, DL.rMod_ii, DL.rDiv_ii, DL.rPow_ii, DL.rMul_ii, DL.rMul_ri, DL.rLt_ii, DL.rLt_ss, DL.rLe_ii, DL.rGt_ii, DL.rGe_ii, DL.rEq_ii, DL.rEq_ss, DL.rEq_bb, DL.rNe_ii, DL.rNe_ss, DL.rNe_bb, DL.rEq_rr, DL.rNe_rr, DL.rEq_tt, DL.rNe_tt, DL.rIn_st, DL.rNotIn_st, DL.rIn_r, DL.rNotIn_r, DL.rIn_ss, DL.rInDO_sl, DL.rInDO_il, DL.rInDO_sd, DL.rInDO_id, DL.rIsN_n, DL.rIsN_t, DL.rIsN_i, DL.rIsN_s, DL.rIsN_r, DL.rNotN_n, DL.rNotN_t, DL.rNotN_i, DL.rNotN_s, DL.rNotN_r, DL.rIx_t, DL.rIx_r, DL.rIx_s, DL.rIxDO_l, DL.rIxDO_ds, DL.rIx0, DL.rIx1, DL.rIx2, DL.rIx3, DL.rSl_t, DL.rSl_s, DL.rSl_o, DL.rSl_r, DL.rSlDO, DL.rSet_r, DL.rSetDO_0, DL.rSetDO_s, DL.rLen_t, DL.rLen_o, DL.rLen_s, DL.rLen_r, DL.rLenDO, DL.rLenDO_d, DL.rList_t, DL.rList_o, DL.rList_r, DL.rListDO, DL.rTuple_t, DL.rTuple_r, DL.rInt_i, DL.rInt_b, DL.rMax, DL.rMin, DL.rSz0, DL.rSz1, DL.rSz2, DL.rSz3, DL.rSz4, DL.rSz5, DL.rSz6, DL.rSz7, DL.rSz8, Option.some.injEq, DL.DO.lst.injEq, exists_eq_left', exists_eq_left, DL.put_same, DL.put_put, true_and, and_true, List.map, List.replicate, List.length, List.cons_append, List.nil_append, Nat.reduceSub, Nat.reduceAdd, decide_eq_true_eq, if_true, if_false, Bool.false_eq_true, Bool.not_true, Bool.not_false])
local macro_rules | `(tactic| walk_at "go") => `(tactic| repeat (first | (refine DL.sq ?_; try walk_at "dl") | (refine DL.ifY rfl ?_; try walk_at "dl") | (refine DL.inY rfl (by decide) ?_; try walk_at "dl") | (refine DL.inN rfl (by decide) ?_; try walk_at "dl") | (refine DL.ifN (by decide) ?_; try walk_at "dl")))
abbrev s_l_total : Stmt := top 25
theorem sc_l_total : FnScope ["_law_deck_here", "_law_kinds", "_law_parts", "_law_kind"] ["_law_deck_here", "_law_kinds"] (defScope s_l_total) := ⟨rfl, rfl, rfl, by decide +kernel, rfl, by decide +kernel, by decide +kernel⟩
abbrev s_l_atom : Stmt := top 26
theorem sc_l_atom : FnScope ["_law_deck_here", "_law_words", "_law_terms", "_law_ways", "_law_way", "_law_one", "_law_other"] ["_law_deck_here", "_law_words", "_law_terms"] (defScope s_l_atom) := ⟨rfl, rfl, rfl, by decide +kernel, rfl, by decide +kernel, by decide +kernel⟩
abbrev s_l_form : Stmt := top 27
theorem sc_l_form : FnScope ["_law_deck_here", "_law_words", "_law_terms", "_law_deep_here", "_law_way", "_law_one", "_law_letter_here", "_law_inner", "_law_term"] ["_law_deck_here", "_law_words", "_law_terms", "_law_deep_here"] (defScope s_l_form) := ⟨rfl, rfl, rfl, by decide +kernel, rfl, by decide +kernel, by decide +kernel⟩
theorem Ch.kp {p c b : Addr} {S S1 S2 : Store} {o : DO} (d : Dk p c S) (n : S b = none) (h : Ch p c S1 S2) (e : S1 b = some o) : S2 b = some o :=
  h.get (d.live.ne n (by simp)).symm (d.live.ne n (by simp)).symm e
theorem Ch.gen {p c e : Addr} {S S2 S3 : Store} {o : DO} (h : Ch p c S S2) (hS : put S2 e o = S3) (n : S2 e = none) : Ch p c S S3 := hS ▸ h.new n
/-- of three numbers one, by a draw -/
theorem pick3 {q : Addr} {S : Store} {Q : KD} {a b c r : Int} (h : S q = some (.lst [.int a, .int b, .int c])) (r0 : 0 ≤ r) (r1 : r < 8) (ha : ∀ x ∈ [a, b, c], 0 < x ∧ x < 1073741824) (qa : ∀ m : Int, 0 < m → m < 1073741824 → Q (.int m) S) : ixDO (S q) (.int (r / 3)) S Q := by
  refine ixL_mem h (by omega) (by show r / 3 < 3; omega) fun d hd => ?_
  simp only [List.mem_cons, List.not_mem_nil, or_false] at hd
  rcases hd with rfl | rfl | rfl
  · exact qa _ (ha a (by simp)).1 (ha a (by simp)).2
  · exact qa _ (ha b (by simp)).1 (ha b (by simp)).2
  · exact qa _ (ha c (by simp)).1 (ha c (by simp)).2
def spTotal : SpD := fun ds S Q => ∃ (p c : Addr) (ks : List Str), ds = [.ref p, .tup (ks.map D.str)] ∧ Dk p c S ∧ ks.length ≤ 6 ∧ ∀ (s : Su) (S' : Store), Ch p c S S' → s.ok (· ∈ ks) → Q s.d S'
abbrev wordsD (ns ks dos : List Str) : D := .tup [.tup (ns.map D.str), .tup (ks.map D.str), .tup (dos.map D.str), .tup [], .bl true]
def spAtom : SpD := fun ds S Q => ∃ (p c pt : Addr) (ns ks dos ts : List Str), ds = [.ref p, wordsD ns ks dos, .ref pt] ∧ Dk p c S ∧ pt ≠ p ∧ pt ≠ c ∧ S pt = some (.lst (ts.map D.str)) ∧ 1 ≤ ks.length ∧ ks.length ≤ 6 ∧ dos.length ≤ 6 ∧ (∀ x ∈ dos, SOk x) ∧ ts.length ≤ 100 ∧
  ∀ (F : Fo) (S' : Store), Ch p c S S' → F.ok (· ∈ ts) (· ∈ ks) (· ∈ dos) → F.ht = 1 → Q F.d S'
def spForm (n : Nat) : SpD := fun ds S Q => ∃ (TT : Str → Prop) (p c pt : Addr) (ns ks dos ts : List Str) (deep : Nat), ds = [.ref p, wordsD ns ks dos, .ref pt, .int (deep : Nat)] ∧ Dk p c S ∧ pt ≠ p ∧ pt ≠ c ∧ S pt = some (.lst (ts.map D.str)) ∧ 1 ≤ ks.length ∧ ks.length ≤ 6 ∧ dos.length ≤ 6 ∧ (∀ x ∈ dos, SOk x) ∧
  ts.length + deep ≤ 90 ∧ deep < n ∧ (∀ x ∈ ts, TT x) ∧ (∀ ch, 117 ≤ ch ∧ ch ≤ 122 → TT ⟨#[ch]⟩) ∧
  ∀ (F : Fo) (S' : Store), Ch p c S S' → F.ok TT (· ∈ ks) (· ∈ dos) → F.ht ≤ deep + 1 → Q F.d S'
section
variable {P : Program} {w : World} {K : PySem.W.Frag} {mg : Str → Option Value} {base : Heap}
theorem df_total {k : Nat} (T : Bt mg) (A : At K mg "_law_total" "_law_total" s_l_total) (G_l_next : Df P w K mg base "_law_next" k spNext) : Df P w K mg base "_law_total" (k + 1) spTotal := by
  have nd := sc_l_total.nd
  refine df_mk A rfl sc_l_total (fun _ _ _ _ _ _ us hl => match us, hl with | [_, _], _ => rfl) (fun ds S Q h => ?_) (fun f cdv A outer s H E hr ds S Q h => ?_)
  · obtain ⟨p, c, ks, rfl, _⟩ := h
    rfl
  obtain ⟨p, c, ks, rfl, hd, hk, h⟩ := h
  have hu := hu_of hr
  refine ⟨_, (dss_cons (ds_set (i := 2) nd rfl (Or.inl rfl) (de_lst da_nil))
    (dss_cons (ds_for PassesOwn.never rfl (di_any (dv 1)) (dg_name (i := 3) nd rfl (Or.inl rfl)) (dss_one (ds_if (dt_cmp (od_eq hr.units) (de_call G_l_next hr rfl (da_cons (dv 0) (da_cons de_int da_nil))) de_int (nomark _)) (dss_one (ds_expr (de_m PySem.F.plainAttrs_list PySem.F.slot_list_append PySem.F.type_list_append md_append (dv 2) (da_cons (de_tup (da_cons (dv 3) (da_cons (de_op od_add de_int (de_call G_l_next hr rfl (da_cons (dv 0) (da_cons (de_ix hu (de_lst (da_cons de_int (da_cons de_int (da_cons (de_op od_sub (de_op od_pow de_int de_int) de_int) da_nil)))) (de_op od_div (de_call G_l_next hr rfl (da_cons (dv 0) (da_cons de_int da_nil))) de_int)) da_nil)))) da_nil))) da_nil)))) dss_nil)))
    (dss_one (ds_ret (de_tup (da_cons (de_callTy cd_tuple rfl T.tuple_ (by decide +kernel) (da_cons (dv 2) da_nil)) (da_cons (de_call G_l_next hr rfl (da_cons (dv 0) (da_cons (de_ix hu (de_lst (da_cons de_int (da_cons de_int (da_cons (de_op od_sub (de_op od_pow de_int de_int) de_int) da_nil)))) (de_op od_div (de_call G_l_next hr rfl (da_cons (dv 0) (da_cons de_int da_nil))) de_int)) da_nil))) da_nil))))))), ?_⟩
  refine sq ?_
  walk_at "dl"
  intro q nq
  have cq : Ch p c S (put S q (.lst [])) := (Ch.refl hd).new nq
  have hq0 : put S q (.lst []) q = some (.lst []) := put_same
  generalize put S q (.lst []) = S0 at cq hq0
  refine sq ?_
  walk_at "dl"
  refine forB_seq (ks.map D.str) (fun i δ S' => ∃ (ps : List (Str × Int)) (o3 : Option D), δ = [some (.ref p), some (.tup (ks.map D.str)), some (.ref q), o3] ∧ Ch p c S S' ∧ S' q = some (.lst (ps.map paD)) ∧ ps.length ≤ i ∧ ∀ x ∈ ps, x.1 ∈ ks) ⟨[], none, rfl, cq, hq0, Nat.zero_le _, fun x hx => by cases hx⟩ (fun i δ S' _ _ => rfl) ?_ ?_
  · rintro i d δ S1 hi ⟨ps, o3, rfl, c1, hq1, hl1, hp1⟩
    obtain ⟨kk, mk, rfl⟩ := List.mem_map.mp (List.mem_of_getElem? hi)
    have hil : i < ks.length := by
      have := (List.getElem?_eq_some_iff.mp hi).1
      simpa using this
    walk_at "dl"
    refine ⟨p, c, _, rfl, c1.2, by decide, by decide, fun r S2 r0 r1 c2' => ?_⟩
    have c2 := c1.trans c2'
    have hq2 := c2'.kp hd nq hq1
    walk_at "dl"
    refine ite2 (fun e1 => ?_) (fun e1 => ?_)
    · walk_at "dl"
      refine ⟨ty_list hq2, ?_⟩
      refine ⟨⟨by decide, by decide, by decide⟩, fun e ne => ?_⟩
      generalize hS : put S2 e _ = S3
      have c3 := c2.gen hS ne
      have hq3 := gen_kp hS ne hq2
      have he3 := gen_at hS
      have ne' : S e = none := c2.1.none' c2.2.live ne
      refine ⟨p, c, _, rfl, c3.2, by decide, by decide, fun r2 S4 q0 q1 c4' => ?_⟩
      have c4 := c3.trans c4'
      have hq4 := c4'.kp hd nq hq3
      have he4 := c4'.kp hd ne' he3
      walk_at "dl"
      refine ⟨by decide, ?_⟩
      refine pick3 he4 q0 q1 (by decide) fun m m0 m1 => ?_
      walk_at "dl"
      refine ⟨p, c, _, rfl, c4.2, m0, m1, fun r3 S5 g0 g1 c5' => ?_⟩
      have c5 := c4.trans c5'
      have hq5 := c5'.kp hd nq hq4
      walk_at "dl"
      refine append_of hq5 (szLt (by rw [List.length_map]; omega)) ?_
      refine ⟨ps ++ [(kk, 1 + r3)], _, rfl, c5.at hd nq, by rw [put_same, List.map_append]; rfl, by simp; omega, fun x hx => ?_⟩
      rcases List.mem_append.mp hx with z | z
      · exact hp1 x z
      · cases List.mem_singleton.mp z; exact mk
    · exact ⟨ps, _, rfl, c2, hq2, by omega, hp1⟩
  · rintro δ S1 ⟨ps, o3, rfl, c1, hq1, hl1, hp1⟩
    rw [List.length_map] at hl1
    walk_at "dl"
    refine ⟨_, hq1, ?_⟩
    refine ⟨⟨by decide, by decide, by decide⟩, fun e ne => ?_⟩
    generalize hS : put S1 e _ = S3
    have c3 := c1.gen hS ne
    have he3 := gen_at hS
    have ne' : S e = none := c1.1.none' c1.2.live ne
    refine ⟨p, c, _, rfl, c3.2, by decide, by decide, fun r2 S4 q0 q1 c4' => ?_⟩
    have c4 := c3.trans c4'
    have he4 := c4'.kp hd ne' he3
    walk_at "dl"
    refine ⟨by decide, ?_⟩
    refine pick3 he4 q0 q1 (by decide) fun m m0 m1 => ?_
    walk_at "dl"
    refine ⟨p, c, _, rfl, c4.2, m0, m1, fun r3 S5 g0 g1 c5' => ?_⟩
    walk_at "dl"
    exact ⟨S5, Sub.refl, h ⟨ps, r3⟩ S5 (c4.trans c5') ⟨hp1, Nat.le_trans hl1 hk⟩⟩
theorem df_atom {k : Nat} (T : Bt mg) (A : At K mg "_law_atom" "_law_atom" s_l_atom) (G_l_next : Df P w K mg base "_law_next" k spNext) (G_l_total : Df P w K mg base "_law_total" k spTotal) : Df P w K mg base "_law_atom" (k + 1) spAtom := by
  have nd := sc_l_atom.nd
  refine df_mk A rfl sc_l_atom (fun _ _ _ _ _ _ us hl => match us, hl with | [_, _, _], _ => rfl) (fun ds S Q h => ?_) (fun f cdv A outer s H E hr ds S Q h => ?_)
  · obtain ⟨p, c, pt, ns, ks, dos, ts, rfl, _⟩ := h
    rfl
  obtain ⟨p, c, pt, ns, ks, dos, ts, rfl, hd, tp, tc, ht, hk1, hk6, hd6, hds, htl, h⟩ := h
  have hu := hu_of hr
  refine ⟨_, (dss_cons (ds_set (i := 3) nd rfl (Or.inl rfl) (de_op od_add (de_lst (da_cons de_str da_nil)) (de_op od_mul (de_op od_mul (de_lst (da_cons de_str da_nil)) de_int) (de_callTy cd_int rfl T.int_ (by decide +kernel) (da_cons (de_ix hu (dv 1) de_int) da_nil)))))
    (dss_cons (ds_if (dt_cmp (od_neE hr.units) (dv 2) (de_lst da_nil) (nomark _)) (dss_one (ds_set (i := 3) nd rfl (Or.inl rfl) (de_op od_add (de_op od_add (de_lst (da_cons de_str (da_cons de_str (da_cons de_str (da_cons de_str da_nil))))) (de_op od_mul (de_lst (da_cons de_str da_nil)) (de_callTy cd_int rfl T.int_ (by decide +kernel) (da_cons (de_ix hu (dv 1) de_int) da_nil)))) (de_op od_mul (de_op od_mul (de_lst (da_cons de_str da_nil)) de_int) (de_callTy cd_int rfl T.int_ (by decide +kernel) (da_cons (de_cmp (od_ne hr.units) (de_ix hu (dv 1) de_int) (de_tup da_nil) (nomark _)) da_nil)))))) dss_nil)
    (dss_cons (ds_set (i := 4) nd rfl (Or.inl rfl) (de_ix hu (dv 3) (de_call G_l_next hr rfl (da_cons (dv 0) (da_cons (de_callB cd_len rfl T.len_ (by decide +kernel) (da_cons (dv 3) da_nil)) da_nil)))))
    (dss_cons (ds_if (dt_cmp (od_eq hr.units) (dv 4) de_str (nomark _)) (dss_one (ds_ret (de_tup (da_cons de_str (da_cons (de_call G_l_total hr rfl (da_cons (dv 0) (da_cons (de_ix hu (dv 1) de_int) da_nil))) (da_cons (de_call G_l_total hr rfl (da_cons (dv 0) (da_cons (de_ix hu (dv 1) de_int) da_nil))) da_nil)))))) dss_nil)
    (dss_cons (ds_if (dt_cmp (od_eq hr.units) (dv 4) de_str (nomark _)) (dss_one (ds_ret (de_tup (da_cons de_str da_nil)))) dss_nil)
    (dss_cons (ds_set (i := 5) nd rfl (Or.inl rfl) (de_ix hu (dv 2) (de_call G_l_next hr rfl (da_cons (dv 0) (da_cons (de_callB cd_len rfl T.len_ (by decide +kernel) (da_cons (dv 2) da_nil)) da_nil)))))
    (dss_cons (ds_if (dt_cmp (od_eq hr.units) (dv 4) de_str (nomark _)) (dss_one (ds_ret (de_tup (da_cons de_str (da_cons (dv 5) (da_cons (de_ix hu (de_op od_add (de_ix hu (dv 1) de_int) (de_ix hu (dv 1) de_int)) (de_call G_l_next hr rfl (da_cons (dv 0) (da_cons (de_callB cd_len rfl T.len_ (by decide +kernel) (da_cons (de_op od_add (de_ix hu (dv 1) de_int) (de_ix hu (dv 1) de_int)) da_nil)) da_nil)))) da_nil)))))) dss_nil)
    (dss_cons (ds_set (i := 6) nd rfl (Or.inl rfl) (de_ix hu (dv 2) (de_call G_l_next hr rfl (da_cons (dv 0) (da_cons (de_callB cd_len rfl T.len_ (by decide +kernel) (da_cons (dv 2) da_nil)) da_nil)))))
    (dss_cons (ds_if (dt_cmp (od_eq hr.units) (dv 4) de_str (nomark _)) (dss_one (ds_ret (de_tup (da_cons de_str (da_cons (dv 5) (da_cons (dv 6) da_nil)))))) dss_nil)
    (dss_one (ds_ret (de_tup (da_cons de_str (da_cons (de_ix hu (de_ix hu (dv 1) de_int) (de_call G_l_next hr rfl (da_cons (dv 0) (da_cons (de_callB cd_len rfl T.len_ (by decide +kernel) (da_cons (de_ix hu (dv 1) de_int) da_nil)) da_nil)))) (da_cons (dv 5) (da_cons (dv 6) da_nil)))))))))))))))), ?_⟩
  have kt : ∀ {S' : Store}, Ch p c S S' → S' pt = some (.lst (ts.map D.str)) := fun hc => hc.get tp tc ht
  refine seq_cut (fun δ' S' => ∃ q, δ' = [some (.ref p), some (wordsD ns ks dos), some (.ref pt), some (.ref q), none, none, none] ∧ Ch p c S S' ∧ S q = none ∧ S' q = some (.lst ((["false", "least", "least"] : List Str).map D.str))) (fun N hN => ?_) ?_
  · walk_at "dl"
    intro e0 n0
    generalize hS0 : put S e0 _ = S0
    have c0 := (Ch.refl hd).gen hS0 n0
    have k0 := gen_at hS0
    intro e1 n1
    generalize hS1 : put S0 e1 _ = S1
    have c1 := c0.gen hS1 n1
    have k1 := gen_at hS1
    have k0 := gen_kp hS1 n1 k0
    refine ⟨by decide, by decide, by decide, fun e2 n2 => ?_⟩
    generalize hS2 : put S1 e2 _ = S2
    have c2 := c1.gen hS2 n2
    have k2 := gen_at hS2
    have k0 := gen_kp hS2 n2 k0
    refine ⟨.bl true, rfl, ?_⟩
    walk_at "dl"
    refine ⟨_, k2, by decide, by decide, by decide, fun e3 n3 => ?_⟩
    generalize hS3 : put S2 e3 _ = S3
    have c3 := c2.gen hS3 n3
    have k3 := gen_at hS3
    have k0 := gen_kp hS3 n3 k0
    refine ⟨_, _, k0, rfl, by decide, fun e4 n4 => ?_⟩
    refine hN _ _ ⟨e4, rfl, c3.new n4, c3.1.none' c3.2.live n4, put_same⟩
  rintro δ' S1 ⟨q, rfl, c1, nq, hq1⟩
  walk_at "dl"
  refine seq_cut (fun δ' S' => ∃ (q : Addr) (ws : List Str), δ' = [some (.ref p), some (wordsD ns ks dos), some (.ref pt), some (.ref q), none, none, none] ∧ Ch p c S S' ∧ S' q = some (.lst (ws.map D.str)) ∧ S q = none ∧ 1 ≤ ws.length ∧ ws.length ≤ 20 ∧ ∀ x ∈ ws, x = "false" ∨ x = "least" ∨ (ts ≠ [] ∧ (x = "is" ∨ x = "same" ∨ (x = "does" ∧ dos ≠ [])))) (fun N hN => ?_) ?_
  · walk_at "dl"
    intro e ne
    refine ⟨_, (put_ne (ne_new (kt c1) ne)).trans (kt c1), ?_⟩
    generalize hS : put S1 e _ = S2
    have c2 := c1.gen hS ne
    have k2 := gen_kp hS ne hq1
    cases ts with
    | nil =>
      refine ifN (by simp) ?_
      refine hN _ _ ⟨q, _, rfl, c2, k2, nq, by decide, by decide, fun x hx => ?_⟩
      simp only [List.mem_cons, List.not_mem_nil, or_false] at hx
      rcases hx with rfl | rfl | rfl
      · exact .inl rfl
      · exact .inr (.inl rfl)
      · exact .inr (.inl rfl)
    | cons t1 tr =>
      refine ifY (by simp) ?_
      walk_at "dl"
      intro e0 n0
      generalize hS0 : put S2 e0 _ = S3
      have c3 := c2.gen hS0 n0
      have k0 := gen_at hS0
      intro e1 n1
      generalize hS1 : put S3 e1 _ = S4
      have c4 := c3.gen hS1 n1
      have k1 := gen_at hS1
      have k0 := gen_kp hS1 n1 k0
      refine ⟨.bl true, rfl, ?_⟩
      walk_at "dl"
      refine ⟨_, k1, by decide, by decide, by decide, fun e2 n2 => ?_⟩
      generalize hS2 : put S4 e2 _ = S5
      have c5 := c4.gen hS2 n2
      have k2 := gen_at hS2
      have k0 := gen_kp hS2 n2 k0
      refine ⟨_, _, k0, rfl, by decide, fun e3 n3 => ?_⟩
      generalize hS3 : put S5 e3 _ = S6
      have c6 := c5.gen hS3 n3
      have k3 := gen_at hS3
      intro e4 n4
      generalize hS4 : put S6 e4 _ = S7
      have c7 := c6.gen hS4 n4
      have k4 := gen_at hS4
      have k3 := gen_kp hS4 n4 k3
      refine ⟨by decide, by decide, by decide, fun e5 n5 => ?_⟩
      generalize hS5 : put S7 e5 _ = S8
      have c8 := c7.gen hS5 n5
      have k5 := gen_at hS5
      have k3 := gen_kp hS5 n5 k3
      refine embT not hds ?_
      walk_at "dl"
      refine ⟨_, k5, ?_⟩
      by_cases hdo : dos = []
      · rw [show dos.isEmpty = true by simp [hdo]]
        walk_at "dl"
        refine ⟨by decide, by decide, by decide, fun e6 n6 => ?_⟩
        generalize hS6 : put S8 e6 _ = S9
        have c9 := c8.gen hS6 n6
        have k6 := gen_at hS6
        have k3 := gen_kp hS6 n6 k3
        refine ⟨_, _, k3, rfl, by decide, fun e7 n7 => ?_⟩
        refine hN _ _ ⟨e7, ["is", "is", "is", "same", "least"], rfl, c9.new n7, put_same, c9.1.none' c9.2.live n7, by decide, by decide, fun x hx => ?_⟩
        simp only [List.mem_cons, List.not_mem_nil, or_false] at hx
        rcases hx with rfl | rfl | rfl | rfl | rfl
        · exact .inr (.inr ⟨by simp, .inl rfl⟩)
        · exact .inr (.inr ⟨by simp, .inl rfl⟩)
        · exact .inr (.inr ⟨by simp, .inl rfl⟩)
        · exact .inr (.inr ⟨by simp, .inr (.inl rfl)⟩)
        · exact .inr (.inl rfl)
      · rw [show dos.isEmpty = false by simp [hdo]]
        walk_at "dl"
        refine ⟨by decide, by decide, by decide, fun e6 n6 => ?_⟩
        generalize hS6 : put S8 e6 _ = S9
        have c9 := c8.gen hS6 n6
        have k6 := gen_at hS6
        have k3 := gen_kp hS6 n6 k3
        refine ⟨_, _, k3, rfl, by decide, fun e7 n7 => ?_⟩
        refine hN _ _ ⟨e7, ["is", "is", "is", "same", "least", "does", "does", "does"], rfl, c9.new n7, put_same, c9.1.none' c9.2.live n7, by decide, by decide, fun x hx => ?_⟩
        simp only [List.mem_cons, List.not_mem_nil, or_false] at hx
        rcases hx with rfl | rfl | rfl | rfl | rfl | rfl | rfl | rfl
        · exact .inr (.inr ⟨by simp, .inl rfl⟩)
        · exact .inr (.inr ⟨by simp, .inl rfl⟩)
        · exact .inr (.inr ⟨by simp, .inl rfl⟩)
        · exact .inr (.inr ⟨by simp, .inr (.inl rfl)⟩)
        · exact .inr (.inl rfl)
        · exact .inr (.inr ⟨by simp, .inr (.inr ⟨rfl, hdo⟩)⟩)
        · exact .inr (.inr ⟨by simp, .inr (.inr ⟨rfl, hdo⟩)⟩)
        · exact .inr (.inr ⟨by simp, .inr (.inr ⟨rfl, hdo⟩)⟩)
  rintro δ' S2 ⟨q, ws, rfl, c2, hq2, nq, w1, w20, hws⟩
  refine sq ?_
  walk_at "dl"
  rw [hq2]
  walk_at "dl"
  rw [List.length_map]
  refine ⟨p, c, _, rfl, c2.2, by omega, by omega, fun r S3 r0 r1 c3' => ?_⟩
  have c3 := c2.trans c3'
  have hq3 := c3'.kp hd nq hq2
  walk_at "dl"
  rw [hq3]
  walk_at "dl"
  refine ixStrs_mem r0 r1 fun ww hww => ?_
  have hww := hws ww hww
  refine sq ?_
  walk_at "dl"
  refine ite2 (fun e1 => ?_) (fun e1 => ?_)
  · walk_at "dl"
    refine ⟨p, c, ks, rfl, c3.2, hk6, fun s1 S4 c4' ok1 => ?_⟩
    have c4 := c3.trans c4'
    walk_at "dl"
    refine ⟨p, c, ks, rfl, c4.2, hk6, fun s2 S5 c5' ok2 => ?_⟩
    walk_at "dl"
    exact ⟨S5, Sub.refl, h (.least s1 s2) S5 (c4.trans c5') ⟨ok1, ok2⟩ rfl⟩
  refine sq ?_
  walk_at "dl"
  refine ite2 (fun e2 => ?_) (fun e2 => ?_)
  · walk_at "dl"
    exact ⟨S3, Sub.refl, h .fls S3 c3 trivial rfl⟩
  have hts : ts ≠ [] ∧ (ww = "is" ∨ ww = "same" ∨ (ww = "does" ∧ dos ≠ [])) := by
    rcases hww with z | z | z
    · exact absurd z e2
    · exact absurd z e1
    · exact z
  obtain ⟨tne, hww⟩ := hts
  have tl0 : 0 < ts.length := List.length_pos_iff.mpr tne
  refine sq ?_
  walk_at "dl"
  rw [kt c3]
  walk_at "dl"
  rw [List.length_map]
  refine ⟨p, c, _, rfl, c3.2, by omega, by omega, fun r2 S4 q0 q1 c4' => ?_⟩
  have c4 := c3.trans c4'
  walk_at "dl"
  rw [kt c4]
  walk_at "dl"
  refine ixStrs_mem q0 q1 fun t1 m1 => ?_
  refine sq ?_
  walk_at "dl"
  refine ite2 (fun e3 => ?_) (fun e3 => ?_)
  · walk_at "dl"
    rw [List.append_nil, List.length_map]
    refine ⟨szOk (by omega), szOk (by omega), ?_⟩
    refine ⟨p, c, _, rfl, c4.2, by omega, by omega, fun r3 S5 g0 g1 c5' => ?_⟩
    walk_at "dl"
    refine ixStrs_mem g0 g1 fun kk mk => ?_
    exact ⟨S5, Sub.refl, h (.is t1 kk) S5 (c4.trans c5') ⟨m1, mk⟩ rfl⟩
  refine sq ?_
  walk_at "dl"
  rw [kt c4]
  walk_at "dl"
  rw [List.length_map]
  refine ⟨p, c, _, rfl, c4.2, by omega, by omega, fun r3 S5 g0 g1 c5' => ?_⟩
  have c5 := c4.trans c5'
  walk_at "dl"
  rw [kt c5]
  walk_at "dl"
  refine ixStrs_mem g0 g1 fun t2 m2 => ?_
  refine sq ?_
  walk_at "dl"
  refine ite2 (fun e4 => ?_) (fun e4 => ?_)
  · walk_at "dl"
    exact ⟨S5, Sub.refl, h (.same t1 t2) S5 c5 ⟨m1, m2⟩ rfl⟩
  have hdo : dos ≠ [] := by
    rcases hww with z | z | z
    · exact absurd z e3
    · exact absurd z e4
    · exact z.2
  have dl0 : 0 < dos.length := List.length_pos_iff.mpr hdo
  walk_at "dl"
  rw [List.length_map]
  refine ⟨p, c, _, rfl, c5.2, by omega, by omega, fun r4 S6 i0 i1 c6' => ?_⟩
  walk_at "dl"
  refine ixStrs_mem i0 i1 fun dd md => ?_
  exact ⟨S6, Sub.refl, h (.does dd t1 t2) S6 (c5.trans c6') ⟨md, m1, m2⟩ rfl⟩
theorem df_form {k : Nat} (T : Bt mg) (A : At K mg "_law_form" "_law_form" s_l_form) (Gn : Df P w K mg base "_law_next" k spNext) (Ga : Df P w K mg base "_law_atom" k spAtom) (n : Nat) : Df P w K mg base "_law_form" (k + n + 1) (spForm n) := by
  have nd := sc_l_form.nd
  induction n with
  | zero =>
    refine df_mk A rfl sc_l_form (fun _ _ _ _ _ _ us hl => match us, hl with | [_, _, _, _], _ => rfl) (fun ds S Q h => ?_) (fun f cdv A outer s H E hr ds S Q h => ?_)
    · obtain ⟨TT, p, c, pt, ns, ks, dos, ts, deep, rfl, _⟩ := h
      rfl
    · obtain ⟨TT, p, c, pt, ns, ks, dos, ts, deep, rfl, _, _, _, _, _, _, _, _, _, h, _⟩ := h
      omega
  | succ n G_l_form =>
  have G_l_next := Gn.mono (show k ≤ k + n + 1 by omega)
  have G_l_atom := Ga.mono (show k ≤ k + n + 1 by omega)
  refine df_mk A rfl sc_l_form (fun _ _ _ _ _ _ us hl => match us, hl with | [_, _, _, _], _ => rfl) (fun ds S Q h => ?_) (fun f cdv A outer s H E hr ds S Q h => ?_)
  · obtain ⟨TT, p, c, pt, ns, ks, dos, ts, deep, rfl, _⟩ := h
    rfl
  obtain ⟨TT, p, c, pt, ns, ks, dos, ts, deep, rfl, hd, tp, tc, ht, hk1, hk6, hd6, hds, hz, hn, hT, hTl, h⟩ := h
  have hu := hu_of hr
  have kt : ∀ {S' : Store}, Ch p c S S' → S' pt = some (.lst (ts.map D.str)) := fun hc => hc.get tp tc ht
  refine ⟨_, (dss_cons (ds_set (i := 4) nd rfl (Or.inl rfl) (de_call G_l_next hr rfl (da_cons (dv 0) (da_cons de_int da_nil))))
    (dss_cons (ds_if (dt_w (dw_or (dt_cmp (od_eq hr.units) (dv 3) de_int (nomark _)) (dw_or1 (dt_cmp od_lt (dv 4) de_int (nomark _))))) (dss_one (ds_ret (de_call G_l_atom hr rfl (da_cons (dv 0) (da_cons (dv 1) (da_cons (dv 2) da_nil)))))) dss_nil)
    (dss_cons (ds_if (dt_cmp (od_eq hr.units) (dv 4) de_int (nomark _)) (dss_one (ds_ret (de_tup (da_cons de_str (da_cons (de_call G_l_form hr rfl (da_cons (dv 0) (da_cons (dv 1) (da_cons (dv 2) (da_cons (de_op od_sub (dv 3) de_int) da_nil))))) da_nil))))) dss_nil)
    (dss_cons (ds_if (dt_cmp od_lt (dv 4) de_int (nomark _)) (dss_cons (ds_set (i := 5) nd rfl (Or.inl rfl) (de_call G_l_form hr rfl (da_cons (dv 0) (da_cons (dv 1) (da_cons (dv 2) (da_cons (de_op od_sub (dv 3) de_int) da_nil))))))
    (dss_one (ds_ret (de_tup (da_cons (de_ix hu (de_lst (da_cons de_str (da_cons de_str (da_cons de_str da_nil)))) (de_op od_sub (dv 4) de_int)) (da_cons (dv 5) (da_cons (de_call G_l_form hr rfl (da_cons (dv 0) (da_cons (dv 1) (da_cons (dv 2) (da_cons (de_op od_sub (dv 3) de_int) da_nil))))) da_nil))))))) dss_nil)
    (dss_cons (ds_set (i := 6) nd rfl (Or.inr rfl) (de_ix hu de_str (de_call G_l_next hr rfl (da_cons (dv 0) (da_cons de_int da_nil)))))
    (dss_cons (ds_set (i := 7) nd rfl (Or.inl rfl) (de_op od_add (de_lc (own := [("_law_term", 8)]) (g := GD.one 8) rfl nd (di_any (dv 2)) (blkOk_by (own := [("_law_term", 8)]) (N := ["_law_deck_here", "_law_words", "_law_terms", "_law_deep_here", "_law_way", "_law_one", "_law_letter_here", "_law_inner", "_law_term"]) (sc := defScope s_l_form) (by decide +kernel)) (fun _ _ _ _ _ => (dg_name (i := 8) nd rfl (Or.inl rfl))) (fun _ _ _ _ _ => (dts_one (dt_cmp (od_ne hr.units) (dv 8) (dv 6) (nomark _)))) (fun _ _ _ _ _ => (dv 8))) (de_lst (da_cons (dv 6) da_nil))))
    (dss_one (ds_ret (de_tup (da_cons (de_ix hu (de_lst (da_cons de_str (da_cons de_str da_nil))) (de_op od_mod (dv 4) de_int)) (da_cons (dv 6) (da_cons (de_call G_l_form hr rfl (da_cons (dv 0) (da_cons (dv 1) (da_cons (dv 7) (da_cons (de_op od_sub (dv 3) de_int) da_nil))))) da_nil)))))))))))), ?_⟩
  refine sq ?_
  walk_at "dl"
  refine ⟨p, c, _, rfl, hd, by decide, by decide, fun r S1 r0 r1 c1 => ?_⟩
  refine seq_if (fun S2 => S2 = S1) (fun S2 => S2 = S1 ∧ 0 < deep ∧ 4 ≤ r) (fun N N1 N2 => ?_) ?_ ?_
  · walk_at "dl"
    refine ite2 (fun e1 => ?_) (fun e1 => ?_)
    · exact N1 _ rfl
    · by_cases e2 : r < 4
      · rw [decide_eq_true e2]; exact N1 _ rfl
      · rw [decide_eq_false e2]; exact N2 _ ⟨rfl, by simp at e1; omega, by omega⟩
  · rintro S2 rfl
    walk_at "dl"
    refine ⟨p, c, pt, ns, ks, dos, ts, rfl, c1.2, tp, tc, kt c1, hk1, hk6, hd6, hds, by omega, fun F S3 c3 ok3 ht3 => ?_⟩
    exact ⟨S3, Sub.refl, h F S3 (c1.trans c3) (ok3.imp (fun s hs => hT s hs) (fun _ z => z) fun _ z => z) (by omega)⟩
  rintro S2 ⟨rfl, hdp, r4⟩
  have ed : (deep : Int) - 1 = ((deep - 1 : Nat) : Int) := by omega
  have call : ∀ {S' : Store} {Y : KD} {o : Int}, o = ((deep - 1 : Nat) : Int) → Ch p c S S' → (∀ (F : Fo) (S2 : Store), Ch p c S S2 → F.ok TT (· ∈ ks) (· ∈ dos) → F.ht ≤ deep → Y F.d S2) → spForm n [.ref p, wordsD ns ks dos, .ref pt, .int o] S' Y := fun eo hc hY =>
    eo ▸ ⟨TT, p, c, pt, ns, ks, dos, ts, deep - 1, rfl, hc.2, tp, tc, kt hc, hk1, hk6, hd6, hds, by omega, by omega, hT, hTl, fun F S3 c3 ok3 ht3 => hY F S3 (hc.trans c3) ok3 (by omega)⟩
  refine sq ?_
  walk_at "dl"
  refine ite2 (fun e1 => ?_) (fun e1 => ?_)
  · walk_at "dl"
    refine call ed c1 fun F S3 c3 ok3 ht3 => ?_
    walk_at "dl"
    exact ⟨S3, Sub.refl, h (.neg F) S3 c3 ok3 (by simp only [Fo.ht]; omega)⟩
  refine sq ?_
  walk_at "dl"
  refine ite2 (fun e2 => ?_) (fun e2 => ?_)
  · refine sq ?_
    walk_at "dl"
    refine call ed c1 fun F S3 c3 ok3 ht3 => ?_
    walk_at "dl"
    intro e ne
    generalize hS : put S3 e _ = S4
    have c4 := c3.gen hS ne
    simp only [id, decide_eq_true_eq] at e1 e2
    refine ixStrs_mem (xs := ["and", "or", "if"]) (by omega) (by show r - 5 < 3; omega) fun ww hww => ?_
    refine call ed c4 fun F2 S5 c5 ok5 ht5 => ?_
    walk_at "dl"
    have fin : ∀ w2 : J3, ∃ S'', DL.Sub S'' S5 ∧ Q (.tup [.str w2.s, F.d, F2.d]) S'' := fun w2 =>
      ⟨S5, Sub.refl, h (.bin w2 F F2) S5 c5 ⟨ok3, ok5⟩ (by simp only [Fo.ht]; omega)⟩
    simp only [List.mem_cons, List.not_mem_nil, or_false] at hww
    rcases hww with rfl | rfl | rfl
    · exact fin .and
    · exact fin .or
    · exact fin .if
  refine sq ?_
  walk_at "dl"
  refine ⟨p, c, _, rfl, c1.2, by decide, by decide, fun r2 S3 q0 q1 c3' => ?_⟩
  have c3 := c1.trans c3'
  walk_at "dl"
  refine ixS (s := "xyzuvw") (fun ch => 117 ≤ ch ∧ ch ≤ 122) (by decide +kernel) (by decide +kernel) q0 (by rw [show ("xyzuvw" : Str).length = 6 from by decide +kernel]; exact q1) fun ch hch => ?_
  have hx := hTl ch hch
  generalize (⟨#[ch]⟩ : Str) = x at hx
  refine sq ?_
  walk_at "dl"
  have ht3 := kt c3
  refine ⟨⟨_, ht3⟩, fun q nq => ?_⟩
  have nq' := c3.1.none' c3.2.live nq
  have hne : pt ≠ q := ne_new ht nq'
  refine lcB_flt ts (fun y => !decide (y = x)) (fun k acc => ?_) (by omega) (fun y acc N hN => ?_) (fun y S Y yy => ?_) ?_
  · show lstJ (put S3 q (.lst acc) pt) k = _
    rw [put_ne hne, ht3]
    rfl
  · walk_at "dl"
    exact hN
  · walk_at "dl"
    exact yy
  walk_at "dl"
  generalize hS : put S3 q _ = S4
  have c4 := c3.gen hS nq
  have k4 := gen_at hS
  intro q2 nq2
  generalize hS2 : put S4 q2 _ = S5
  have c5 := c4.gen hS2 nq2
  have k5 := gen_at hS2
  have k4 := gen_kp hS2 nq2 k4
  have elen : (ts.filter fun y => !decide (y = x)).length ≤ ts.length := List.length_filter_le _ _
  refine ⟨_, _, k4, rfl, szOk (by simp; omega), fun q3 nq3 => ?_⟩
  generalize hS3 : put S5 q3 _ = S6
  have c6 := c5.gen hS3 nq3
  have k6 := gen_at hS3
  have nq3' := c5.1.none' c5.2.live nq3
  walk_at "dl"
  intro q4 nq4
  generalize hS4 : put S6 q4 _ = S7
  have c7 := c6.gen hS4 nq4
  have k7 := gen_at hS4
  have k6 := gen_kp hS4 nq4 k6
  refine ⟨by decide, ?_⟩
  refine ixStrs_mem (xs := ["every", "some"]) (by omega) (by show r % 2 < 2; omega) fun ww hww => ?_
  rw [ed]
  refine ⟨TT, p, c, q3, ns, ks, dos, (ts.filter fun y => !decide (y = x)) ++ [x], deep - 1, rfl, c7.2, (hd.live.ne nq3' (by simp)).symm, (hd.live.ne nq3' (by simp)).symm, by rw [k6, List.map_append]; rfl, hk1, hk6, hd6, hds, by simp; omega, by omega, fun y hy => ?_, hTl, fun F S9 c9 ok9 ht9 => ?_⟩
  · rcases List.mem_append.mp hy with hy | hy
    · exact hT y ((List.mem_filter.mp hy).1)
    · cases List.mem_singleton.mp hy; exact hx
  have c10 := c7.trans c9
  walk_at "dl"
  have fin : ∀ w2 : Q2, ∃ S'', DL.Sub S'' S9 ∧ Q (.tup [.str w2.s, .str x, F.d]) S'' := fun w2 =>
    ⟨S9, Sub.refl, h (.qu w2 x F) S9 c10 ⟨hx, ok9⟩ (by simp only [Fo.ht]; omega)⟩
  simp only [List.mem_cons, List.not_mem_nil, or_false] at hww
  rcases hww with rfl | rfl
  · exact fin .every
  · exact fin .some
end
end K61

set_option Elab.async false
set_option maxRecDepth 100000
set_option linter.unusedVariables false
namespace K61
open PySem PySem.Spec PyProof.Rows L2 DL FO
local macro_rules | `(tactic| walk_at "dl") => `(tactic| try simp only [DL.tAsgD, DL.asg, DL.tVarD, DL.lk, DL.sto, DL.stos, DL.tOpD, DL.tCD, DL.tCallD, DL.tConsD, DL.tNilD, DL.tRetD, DL.endsD, DL.startD, DL.tIfSD, DL.tTestD, DL.tNextD, DL.tDropD, DL.tAndD, DL.tOrD, DL.tNotD, DL.tAndV, DL.tOrV, DL.tNotV, DL.tIfD, DL.tNegD, DL.tTupD, DL.tLstD, DL.tSetD, DL.tMD, DL.tSlD, DL.tPartD, DL.tNoD, DL.tRevD, DL.tForD, DL.tLcD, DL.tIterD, DL.tRng1D, DL.tRng2D, DL.tYesD, DL.wipeD, DL.tDictD, DL.tDictOne, DL.tFldD, DL.tMethD, DL.tMakeD, DL.tSetF, DL.tThaw, DL.thaw, DL.tLRg, DL.tChainD, DL.tDispD, DL.tPairsD, DL.tEnumD, DL.tZipD, DL.tCallLD, DL.tSortSet, DL.tRng3D, DL.keyOf, DL.emE_rr, DL.tLess, DL.tLessS, DL.itOk, DL.rAdd_ii, DL.rAdd_ss, DL.rAdd_tt, DL.rAdd_rr, DL.rSub_ii, DL.rMod_ii, DL.rDiv_ii, DL.rPow_ii, DL.rMul_ii, DL.rMul_ri, DL.rLt_ii, DL.rLt_ss, DL.rLe_ii, DL.rGt_ii, DL.rGe_ii, DL.rEq_ii, DL.rEq_ss, DL.rEq_bb, DL.rNe_ii, DL.rNe_ss, DL.rNe_bb, DL.rEq_rr, DL.rNe_rr, DL.rEq_tt, DL.rNe_tt, DL.rIn_st, DL.rNotIn_st, DL.rIn_r, DL.rNotIn_r, DL.rIn_ss, DL.rInDO_sl, DL.rInDO_il, DL.rInDO_sd, DL.rInDO_id, DL.rIsN_n, DL.rIsN_t, DL.rIsN_i, DL.rIsN_s, DL.rIsN_r, DL.rNotN_n, DL.rNotN_t, DL.rNotN_i, DL.rNotN_s, DL.rNotN_r, DL.rIx_t, DL.rIx_r, DL.rIx_s, DL.rIxDO_l, DL.rIxDO_ds, DL.rIx0, DL.rIx1, DL.rIx2, DL.rIx3, DL.rSl_t, DL.rSl_s, DL.rSl_o, DL.rSl_r, DL.rSlDO, DL.rSet_r, DL.rSetDO_0, DL.rSetDO_s, DL.rLen_t, DL.rLen_o, DL.rLen_s, DL.rLen_r, DL.rLenDO, DL.rLenDO_d, DL.rList_t, DL.rList_o, DL.rList_r, DL.rListDO, DL.rTuple_t, DL.rTuple_r, DL.rInt_i, DL.rInt_b, DL.rMax, DL.rMin, DL.rSz0, DL.rSz1, DL.rSz2, DL.rSz3, DL.rSz4, DL.rSz5, DL.rSz6, DL.rSz7, DL.rSz8, Option.some.injEq, DL.DO.lst.injEq, exists_eq_left', exists_eq_left, DL.put_same, DL.put_put, true_and, and_true, List.map, List.replicate, List.length, List.cons_append, List.nil_append, Nat.reduceSub, Nat.reduceAdd, decide_eq_true_eq, if_true, if_false, Bool.false_eq_true, Bool.not_true, Bool.not_false])
local macro_rules | `(tactic| walk_at "dlh") => `(tactic| try simp only [*, DL.tAsgD, DL.asg, DL.tVarD, DL.lk, DL.sto, DL.stos, DL.tOpD, DL.tCD, DL.tCallD, DL.tConsD, DL.tNilD, DL.tRetD, DL.endsD, DL.startD, DL.tIfSD, DL.tTestD, DL.tNextD, DL.tDropD, DL.tAndD, DL.tOrD, DL.tNotD, DL.tAndV, DL.tOrV, DL.tNotV, DL.tIfD, DL.tNegD, DL.tTupD, DL.tLstD, DL.tSetD, DL.tMD, DL.tSlD, DL.tPartD, DL.tNoD, DL.tRevD, DL.tForD, DL.tLcD, DL.tIterD, DL.tRng1D, DL.tRng2D, DL.tYesD, DL.wipeD, DL.tDictD, DL.tDictOne, DL.tFldD, DL.tMethD, DL.tMakeD, DL.tSetF, DL.tThaw, DL.thaw, DL.tLRg, DL.tChainD, DL.tDispD, DL.tPairsD, DL.tEnumD, DL.tZipD, DL.tCallLD, DL.tSortSet, DL.tRng3D, DL.keyOf, DL.emE_rr, DL.tLess, DL.tLessS, DL.itOk, DL.rAdd_ii, DL.rAdd_ss, DL.rAdd_tt, DL.rAdd_rr, DL.rSub_ii, DL.rMod_ii, DL.rDiv_ii, DL.rPow_ii, DL.rMul_ii, DL.rMul_ri, DL.rLt_ii, DL.rLt_ss, DL.rLe_ii, DL.rGt_ii, DL.rGe_ii, DL.rEq_ii, DL.rEq_ss, DL.rEq_bb, DL.rNe_ii, DL.rNe_ss, DL.rNe_bb, DL.rEq_rr, DL.rNe_rr, DL.rEq_tt, DL.rNe_tt, DL.rIn_st, DL.rNotIn_st, DL.rIn_r, DL.rNotIn_r, DL.rIn_ss, DL.rInDO_sl, DL.rInDO_il, DL.rInDO_sd, DL.rInDO_id, DL.rIsN_n, DL.rIsN_t, DL.rIsN_i, DL.rIsN_s, DL.rIsN_r, DL.rNotN_n, DL.rNotN_t, DL.rNotN_i, DL.rNotN_s, DL.rNotN_r, DL.rIx_t, DL.rIx_r, DL.rIx_s, DL.rIxDO_l, DL.rIxDO_ds, DL.rIx0, DL.rIx1, DL.rIx2, DL.rIx3, DL.rSl_t, DL.rSl_s, DL.rSl_o, DL.rSl_r, DL.rSlDO, DL.rSet_r, DL.rSetDO_0, DL.rSetDO_s, DL.rLen_t, DL.rLen_o, DL.rLen_s, DL.rLen_r, DL.rLenDO, DL.rLenDO_d, DL.rList_t, DL.rList_o, DL.rList_r, DL.rListDO, DL.rTuple_t, DL.rTuple_r, DL.rInt_i, DL.rInt_b, DL.rMax, DL.rMin, DL.rSz0, DL.rSz1, DL.rSz2, DL.rSz3, DL.rSz4, DL.rSz5, DL.rSz6, DL.rSz7, DL.rSz8, Option.some.injEq, DL.DO.lst.injEq, exists_eq_left', exists_eq_left, DL.put_same, DL.put_put, true_and, and_true, List.map, List.replicate, List.length, List.cons_append, List.nil_append, Nat.reduceSub, Nat.reduceAdd, decide_eq_true_eq, if_true, if_false, Bool.false_eq_true, Bool.not_true, Bool.not_false])
local macro_rules | `(tactic| walk_at "go") => `(tactic| repeat (first | (refine DL.sq ?_; try walk_at "dl") | (refine DL.ifY rfl ?_; try walk_at "dl") | (refine DL.inY rfl (by decide) ?_; try walk_at "dl") | (refine DL.inN rfl (by decide) ?_; try walk_at "dl") | (refine DL.ifN (by decide) ?_; try walk_at "dl")))
abbrev s_l_swap : Stmt := top 28
theorem sc_l_swap : FnScope ["_law_form_here", "_law_old", "_law_new_here", "_law_some", "_law_part"] ["_law_form_here", "_law_old", "_law_new_here"] (defScope s_l_swap) := ⟨rfl, rfl, rfl, by decide +kernel, rfl, by decide +kernel, by decide +kernel⟩
abbrev s_l_put : Stmt := top 29
theorem sc_l_put : FnScope ["_law_form_here", "_law_letter_here", "_law_name", "_law_some", "_law_part"] ["_law_form_here", "_law_letter_here", "_law_name"] (defScope s_l_put) := ⟨rfl, rfl, rfl, by decide +kernel, rfl, by decide +kernel, by decide +kernel⟩
abbrev s_l_texts : Stmt := top 30
theorem sc_l_texts : FnScope ["_law_form_here", "_law_found", "_law_part"] ["_law_form_here"] (defScope s_l_texts) := ⟨rfl, rfl, rfl, by decide +kernel, rfl, by decide +kernel, by decide +kernel⟩
abbrev s_l_deep : Stmt := top 31
theorem sc_l_deep : FnScope ["_law_form_here", "_law_part"] ["_law_form_here"] (defScope s_l_deep) := ⟨rfl, rfl, rfl, by decide +kernel, rfl, by decide +kernel, by decide +kernel⟩
abbrev s_l_letter : Stmt := top 32
theorem sc_l_letter : FnScope ["_law_form_here", "_law_free", "_law_letter_here"] ["_law_form_here"] (defScope s_l_letter) := ⟨rfl, rfl, rfl, by decide +kernel, rfl, by decide +kernel, by decide +kernel⟩
def spSwap (n : Nat) : SpD := fun ds S Q => ∃ (es : List D) (o w : Str), ds = [.tup es, .str o, .str w] ∧ Pl n (.tup es) ∧ n ≤ 60 ∧ SOk o ∧ SOk w ∧ ∀ S', DL.Sub S S' → Q (swD o w (.tup es)) S'
def preD (o w : Str) : D → D
  | .tup ds => swD o w (.tup ds)
  | d => d
section
variable {P : Program} {w : World} {K : PySem.W.Frag} {mg : Str → Option Value} {base : Heap}
theorem df_swap {k : Nat} (T : Bt mg) (A : At K mg "_law_swap" "_law_swap" s_l_swap) (n : Nat) : Df P w K mg base "_law_swap" (k + n + 1) (spSwap n) := by
  have nd := sc_l_swap.nd
  induction n with
  | zero =>
    refine df_mk A rfl sc_l_swap (fun _ _ _ _ _ _ us hl => match us, hl with | [_, _, _], _ => rfl) (fun ds S Q h => ?_) (fun f cdv A outer s H E hr ds S Q h => ?_)
    · obtain ⟨es, o, w, rfl, _⟩ := h
      rfl
    · obtain ⟨es, o, w, rfl, h, _⟩ := h
      cases h
  | succ n G_l_swap =>
  refine df_mk A rfl sc_l_swap (fun _ _ _ _ _ _ us hl => match us, hl with | [_, _, _], _ => rfl) (fun ds S Q h => ?_) (fun f cdv A outer s H E hr ds S Q h => ?_)
  · obtain ⟨es, o, w, rfl, _⟩ := h
    rfl
  obtain ⟨es, o, w, rfl, hp, hn, ho, hw, h⟩ := h
  have hu := hu_of hr
  have hl := hp.len
  have ha := hp.all
  refine ⟨_, (dss_cons (ds_set (i := 3) nd rfl (Or.inl rfl) (de_lst da_nil))
    (dss_cons (ds_for PassesOwn.never rfl (di_any (dv 0)) (dg_name (i := 4) nd rfl (Or.inl rfl)) (dss_cons (ds_if (dt_val (de_callB cd_isi rfl T.isinstance_ (by decide +kernel) (da_cons (dv 4) (da_cons (de_ty (n := "tuple") rfl T.tuple_ (by decide +kernel)) da_nil)))) (dss_one (ds_set (i := 4) nd rfl (Or.inl rfl) (de_call G_l_swap hr rfl (da_cons (dv 4) (da_cons (dv 1) (da_cons (dv 2) da_nil)))))) dss_nil)
    (dss_one (ds_expr (de_m PySem.F.plainAttrs_list PySem.F.slot_list_append PySem.F.type_list_append md_append (dv 3) (da_cons (de_ix hu (de_lst (da_cons (dv 4) (da_cons (dv 2) da_nil))) (de_callTy cd_int rfl T.int_ (by decide +kernel) (da_cons (de_cmp (od_eq hr.units) (dv 4) (dv 1) (nomark _)) da_nil))) da_nil))))))
    (dss_one (ds_ret (de_callTy cd_tuple rfl T.tuple_ (by decide +kernel) (da_cons (dv 3) da_nil)))))), ?_⟩
  refine sq ?_
  walk_at "dl"
  intro q nq
  have sb : DL.Sub S (put S q (.lst [])) := Sub.new nq
  have hq : put S q (.lst []) q = some (.lst []) := put_same
  generalize put S q (.lst []) = S0 at sb hq
  refine sq ?_
  walk_at "dl"
  refine forB_seq es (fun i δ S' => ∃ o4 : Option D, δ = [some (.tup es), some (.str o), some (.str w), some (.ref q), o4] ∧ DL.Sub S S' ∧ S' q = some (.lst ((es.take i).map (swD o w)))) ⟨none, rfl, sb, hq⟩ (fun i δ S' _ _ => rfl) ?_ ?_
  · rintro i d δ S1 hi ⟨o4, rfl, s1, hq1⟩
    have md := List.mem_of_getElem? hi
    have hd := ha d md
    have hil : i < es.length := (List.getElem?_eq_some_iff.mp hi).1
    have etk : es.take (i + 1) = es.take i ++ [d] := by
      rw [← List.take_append_getElem hil, (List.getElem?_eq_some_iff.mp hi).2]
    walk_at "dl"
    refine seq_cut (fun δ' S' => δ' = [some (.tup es), some (.str o), some (.str w), some (.ref q), some (preD o w d)] ∧ DL.Sub S S' ∧ S' q = some (.lst ((es.take i).map (swD o w)))) (fun N hN => ?_) ?_
    · walk_at "dl"
      cases hd with
      | str hx =>
        refine ⟨_, _, rfl, kit_st, ?_⟩
        refine ifN (by decide) ?_
        exact hN _ _ ⟨rfl, s1, hq1⟩
      | int =>
        refine ⟨_, _, rfl, kit_it, ?_⟩
        refine ifN (by decide) ?_
        exact hN _ _ ⟨rfl, s1, hq1⟩
      | @tup m ds hx hlen =>
        refine ⟨_, _, rfl, kit_tt, ?_⟩
        refine ifY rfl ?_
        walk_at "dl"
        refine ⟨ds, o, w, rfl, .tup hx hlen, by omega, ho, hw, fun S2 s2 => ?_⟩
        exact hN _ _ ⟨rfl, s1.trans s2, s2 _ _ hq1⟩
    rintro δ' S2 ⟨rfl, s2, hq2⟩
    have hpre : Pl n (preD o w d) := by
      cases hd with
      | str hx => exact .str hx
      | int => exact .int
      | @tup m ds hx hlen => exact (Pl.tup hx hlen).sw hw
    walk_at "dl"
    refine ⟨ty_list hq2, ?_⟩
    intro e ne
    generalize hS : put S2 e _ = S3
    have s3 := s2.gen hS ne
    have hq3 := gen_kp hS ne hq2
    have he3 := gen_at hS
    refine eqPart hpre (by omega) ho ?_
    walk_at "dl"
    have last : ∀ y, swD o w d = y → mAppend (.ref q) [y] S3 fun x S1 => ∃ o4, [some (D.tup es), some (.str o), some (.str w), some (.ref q), some (preD o w d)] = [some (D.tup es), some (.str o), some (.str w), some (.ref q), o4] ∧ DL.Sub S S1 ∧ S1 q = some (.lst ((es.take (i + 1)).map (swD o w))) := by
      rintro y rfl
      refine append_of hq3 (szLt (by rw [List.length_map, List.length_take]; omega)) ?_
      exact ⟨_, rfl, s3.at nq, by rw [put_same, etk, List.map_append]; rfl⟩
    cases hd with
    | @str m x hx =>
      by_cases exo : x = o
      · subst exo
        rw [show isS (preD x w (.str x)) x = true by simp [isS, preD]]
        refine ixL he3 at1 ?_
        exact last _ (by simp [swD])
      · rw [show isS (preD o w (.str x)) o = false by simp [isS, preD, exo]]
        refine ixL he3 at0 ?_
        exact last _ (by simp [swD, preD, exo])
    | int =>
      refine ixL he3 at0 ?_
      exact last _ (by simp [swD, preD])
    | @tup m ds hx hlen =>
      rw [show isS (preD o w (.tup ds)) o = false by simp [isS, preD, swD]]
      refine ixL he3 at0 ?_
      exact last _ rfl
  · rintro δ S1 ⟨o4, rfl, s1, hq1⟩
    walk_at "dl"
    refine ⟨_, hq1, ?_⟩
    rw [List.take_length]
    have := h S1 s1
    simp only [swD, swDs_map] at this
    exact ⟨S1, Sub.refl, this⟩
end
def spPut (n : Nat) : SpD := fun ds S Q => ∃ (KK WW : Str → Prop) (F : Fo) (o w : Str), ds = [F.d, .str o, .str w] ∧ F.ok SOk KK WW ∧ (∀ k, KK k → SOk k ∧ k ≠ o) ∧ (∀ k, WW k → SOk k ∧ k ≠ o) ∧ F.ht ≤ n ∧ n ≤ 50 ∧ SOk o ∧ SOk w ∧ NoHd o ∧ ∀ S', DL.Sub S S' → Q (F.pt o w).d S'
def preP (o w : Str) : Str ⊕ Fo → D
  | .inl s => .str s
  | .inr f => (f.pt o w).d
theorem Fo.ps_ht {F f : Fo} (h : Sum.inr f ∈ F.ps) : f.ht < F.ht := by
  cases F with
  | is t k => simp [Fo.ps] at h
  | does d a b => simp [Fo.ps] at h
  | same a b => simp [Fo.ps] at h
  | least p q => simp [Fo.ps] at h
  | fls => simp [Fo.ps] at h
  | neg g => simp [Fo.ps] at h; subst h; simp [Fo.ht]
  | bin v g g2 =>
    simp [Fo.ps] at h
    rcases h with rfl | rfl <;> (simp only [Fo.ht]; omega)
  | qu v x g => simp [Fo.ps] at h; subst h; simp [Fo.ht]
theorem Fo.ps_ok {T K W : Str → Prop} {F f : Fo} (ok : F.ok T K W) (h : Sum.inr f ∈ F.ps) : f.ok T K W := by
  cases F with
  | is t k => simp [Fo.ps] at h
  | does d a b => simp [Fo.ps] at h
  | same a b => simp [Fo.ps] at h
  | least p q => simp [Fo.ps] at h
  | fls => simp [Fo.ps] at h
  | neg g => simp [Fo.ps] at h; subst h; exact ok
  | bin v g g2 =>
    simp [Fo.ps] at h
    rcases h with rfl | rfl
    · exact ok.1
    · exact ok.2
  | qu v x g => simp [Fo.ps] at h; subst h; exact ok.2
theorem Fo.ps_len (F : Fo) : F.ps.length ≤ 4 := by cases F <;> simp [Fo.ps]
theorem d_tup (F : Fo) : ∃ ds, F.d = .tup ds := ⟨_, F.d_eq⟩
section
variable {P : Program} {w : World} {K : PySem.W.Frag} {mg : Str → Option Value} {base : Heap}
theorem df_put {k : Nat} (T : Bt mg) (A : At K mg "_law_put" "_law_put" s_l_put) (n : Nat) : Df P w K mg base "_law_put" (k + n + 1) (spPut n) := by
  have nd := sc_l_put.nd
  induction n with
  | zero =>
    refine df_mk A rfl sc_l_put (fun _ _ _ _ _ _ us hl => match us, hl with | [_, _, _], _ => rfl) (fun ds S Q h => ?_) (fun f cdv A outer s H E hr ds S Q h => ?_)
    · obtain ⟨KK, WW, F, o, w, rfl, _⟩ := h
      rfl
    · obtain ⟨KK, WW, F, o, w, rfl, _, _, _, h, _⟩ := h
      have := F.ht_pos
      omega
  | succ n G_l_put =>
  refine df_mk A rfl sc_l_put (fun _ _ _ _ _ _ us hl => match us, hl with | [_, _, _], _ => rfl) (fun ds S Q h => ?_) (fun f cdv A outer s H E hr ds S Q h => ?_)
  · obtain ⟨KK, WW, F, o, w, rfl, _⟩ := h
    rfl
  obtain ⟨KK, WW, F, o, w, rfl, ok, hk, hww, hh, hn, ho, hw, hhd, h⟩ := h
  have hu := hu_of hr
  refine ⟨_, (dss_cons (ds_if (dt_w (dw_or (dt_cmp (od_in hu) (de_ix hu (dv 0) de_int) (de_tup (da_cons de_str (da_cons de_str da_nil))) rfl) (dw_or1 (dt_w (dw_and (dt_cmp (od_in hu) (de_ix hu (dv 0) de_int) (de_tup (da_cons de_str (da_cons de_str da_nil))) rfl) (dw_and1 (dt_cmp (od_eq hr.units) (de_ix hu (dv 0) de_int) (dv 1) (nomark _)))))))) (dss_one (ds_ret (dv 0))) dss_nil)
    (dss_cons (ds_set (i := 3) nd rfl (Or.inl rfl) (de_lst da_nil))
    (dss_cons (ds_for PassesOwn.never rfl (di_any (dv 0)) (dg_name (i := 4) nd rfl (Or.inl rfl)) (dss_cons (ds_if (dt_val (de_callB cd_isi rfl T.isinstance_ (by decide +kernel) (da_cons (dv 4) (da_cons (de_ty (n := "tuple") rfl T.tuple_ (by decide +kernel)) da_nil)))) (dss_one (ds_set (i := 4) nd rfl (Or.inl rfl) (de_call G_l_put hr rfl (da_cons (dv 4) (da_cons (dv 1) (da_cons (dv 2) da_nil)))))) dss_nil)
    (dss_one (ds_expr (de_m PySem.F.plainAttrs_list PySem.F.slot_list_append PySem.F.type_list_append md_append (dv 3) (da_cons (de_ix hu (de_lst (da_cons (dv 4) (da_cons (dv 2) da_nil))) (de_callTy cd_int rfl T.int_ (by decide +kernel) (da_cons (de_cmp (od_eq hr.units) (dv 4) (dv 1) (nomark _)) da_nil))) da_nil))))))
    (dss_one (ds_ret (de_callTy cd_tuple rfl T.tuple_ (by decide +kernel) (da_cons (dv 3) da_nil))))))), ?_⟩
  refine seq_if (fun S' => S' = S ∧ F.stop o = true) (fun S' => S' = S ∧ F.stop o = false) (fun N N1 N2 => ?_) ?_ ?_
  · walk_at "dl"
    cases F with
    | is t k => simp only [Fo.d]; walk_at "dl"; walk_at "go"; exact N2 _ ⟨rfl, rfl⟩
    | does d a b => simp only [Fo.d]; walk_at "dl"; walk_at "go"; exact N2 _ ⟨rfl, rfl⟩
    | same a b => simp only [Fo.d]; walk_at "dl"; walk_at "go"; exact N2 _ ⟨rfl, rfl⟩
    | least p q => simp only [Fo.d]; walk_at "dl"; walk_at "go"; exact N1 _ ⟨rfl, rfl⟩
    | fls => simp only [Fo.d]; walk_at "dl"; walk_at "go"; exact N1 _ ⟨rfl, rfl⟩
    | neg f => simp only [Fo.d]; walk_at "dl"; walk_at "go"; exact N2 _ ⟨rfl, rfl⟩
    | bin v f g => simp only [Fo.d]; cases v <;> (simp only [J3.s]; walk_at "dl"; walk_at "go"; exact N2 _ ⟨rfl, rfl⟩)
    | qu v x f =>
      simp only [Fo.d]
      have fin : N (id (decide (x = o))) S := by
        by_cases e : x = o
        · rw [decide_eq_true e]; exact N1 _ ⟨rfl, by simp [Fo.stop, e]⟩
        · rw [decide_eq_false e]; exact N2 _ ⟨rfl, by simp [Fo.stop, e]⟩
      cases v <;> (simp only [Q2.s]; walk_at "dl"; walk_at "go"; exact fin)
  · rintro S1 ⟨rfl, hs⟩
    walk_at "dl"
    exact ⟨_, Sub.refl, by rw [← Fo.pt_stop (n := w) hs]; exact h _ Sub.refl⟩
  rintro S1 ⟨rfl, hs⟩
  have hps := Fo.ps_len F
  have hfin := Fo.pt_d hhd (fun k hk' => (hk k hk').2) (fun k hk' => (hww k hk').2) ok hs (n := w)
  rw [Fo.ps_d hs]
  walk_at "dl"
  refine sq ?_
  walk_at "dl"
  intro q nq
  have sb : DL.Sub S1 (put S1 q (.lst [])) := Sub.new nq
  have hq : put S1 q (.lst []) q = some (.lst []) := put_same
  generalize put S1 q (.lst []) = S0 at sb hq
  refine sq ?_
  walk_at "dl"
  refine forB_seq (F.ps.map psD) (fun i δ S' => ∃ o4 : Option D, δ = [some (.tup (F.ps.map psD)), some (.str o), some (.str w), some (.ref q), o4] ∧ DL.Sub S1 S' ∧ S' q = some (.lst ((F.ps.take i).map (ptP o w)))) ⟨none, rfl, sb, hq⟩ (fun i δ S' _ _ => rfl) ?_ ?_
  · rintro i d δ S2 hi ⟨o4, rfl, s1, hq1⟩
    have hil : i < F.ps.length := by
      have := (List.getElem?_eq_some_iff.mp hi).1
      simpa using this
    have hx : F.ps[i]? = some F.ps[i] := List.getElem?_eq_getElem hil
    rw [List.getElem?_map, hx] at hi
    cases hi
    have mx : F.ps[i] ∈ F.ps := List.getElem_mem hil
    have etk : F.ps.take (i + 1) = F.ps.take i ++ [F.ps[i]] := (List.take_append_getElem hil).symm
    generalize F.ps[i] = x at mx etk
    walk_at "dl"
    refine seq_cut (fun δ' S' => δ' = [some (.tup (F.ps.map psD)), some (.str o), some (.str w), some (.ref q), some (preP o w x)] ∧ DL.Sub S1 S' ∧ S' q = some (.lst ((F.ps.take i).map (ptP o w)))) (fun N hN => ?_) ?_
    · walk_at "dl"
      cases x with
      | inl y =>
        refine ⟨_, _, rfl, kit_st, ?_⟩
        refine ifN (by decide) ?_
        exact hN _ _ ⟨rfl, s1, hq1⟩
      | inr f =>
        refine ⟨"tuple", _, ?_, kit_tt, ?_⟩
        · show tyNm S2 f.d = _
          rw [f.d_eq]; rfl
        refine ifY rfl ?_
        walk_at "dl"
        have := Fo.ps_ht mx
        refine ⟨KK, WW, f, o, w, rfl, Fo.ps_ok ok mx, hk, hww, by omega, by omega, ho, hw, hhd, fun S3 s3 => ?_⟩
        exact hN _ _ ⟨rfl, s1.trans s3, s3 _ _ hq1⟩
    rintro δ' S3 ⟨rfl, s2, hq2⟩
    walk_at "dl"
    refine ⟨ty_list hq2, ?_⟩
    intro e ne
    generalize hS : put S3 e _ = S4
    have s3 := s2.gen hS ne
    have hq3 := gen_kp hS ne hq2
    have he3 := gen_at hS
    have last : ∀ y, ptP o w x = y → mAppend (.ref q) [y] S4 fun _ S' => ∃ o4, [some (D.tup (F.ps.map psD)), some (.str o), some (.str w), some (.ref q), some (preP o w x)] = [some (D.tup (F.ps.map psD)), some (.str o), some (.str w), some (.ref q), o4] ∧ DL.Sub S1 S' ∧ S' q = some (.lst ((F.ps.take (i + 1)).map (ptP o w))) := by
      rintro y rfl
      refine append_of hq3 (szLt (by rw [List.length_map, List.length_take]; omega)) ?_
      exact ⟨_, rfl, s3.at nq, by rw [put_same, etk, List.map_append]; rfl⟩
    cases x with
    | inl y =>
      simp only [preP]
      walk_at "dl"
      by_cases exo : y = o
      · rw [if_pos exo]
        refine ixL he3 at1 ?_
        exact last _ (by simp [ptP, rp, exo])
      · rw [if_neg exo]
        refine ixL he3 at0 ?_
        exact last _ (by simp [ptP, rp, exo, preP])
    | inr f =>
      have := Fo.ps_ht mx
      have okf : (f.pt o w).ok SOk SOk SOk := Fo.pt_ok hw ((Fo.ps_ok ok mx).imp (fun _ z => z) (fun k z => (hk k z).1) fun k z => (hww k z).1)
      refine eqPart (Fo.pl okf) (by rw [Fo.pt_ht]; omega) ho ?_
      rw [show isS (preP o w (.inr f)) o = false by show isS (f.pt o w).d o = false; rw [Fo.d_eq]; rfl]
      walk_at "dl"
      refine ixL he3 at0 ?_
      exact last _ rfl
  · rintro δ S2 ⟨o4, rfl, s1, hq1⟩
    walk_at "dl"
    refine ⟨_, hq1, ?_⟩
    rw [List.length_map, List.take_length, ← hfin]
    exact ⟨S2, Sub.refl, h _ s1⟩
/-! ### texts -/
mutual
/-- the texts and numbers in it -/
def txD : D → List D
  | .tup ds => txDs ds
  | d => [d]
def txDs : List D → List D
  | [] => []
  | d :: ds => txD d ++ txDs ds
end
theorem txDs_app : ∀ {xs ys : List D}, txDs (xs ++ ys) = txDs xs ++ txDs ys
  | [], ys => by simp [txDs]
  | x :: xs, ys => by
    have := txDs_app (xs := xs) (ys := ys)
    simp only [List.cons_append, txDs, this, List.append_assoc]
theorem tx_len {n : Nat} {d : D} (h : Pl n d) : (txD d).length = lvD d := by
  induction h with
  | str h => simp [txD, lvD]
  | int => simp [txD, lvD]
  | @tup n ds h l ih =>
    simp only [txD, lvD]
    clear l h
    induction ds with
    | nil => simp [txDs, lvDs]
    | cons d ds ihd =>
      have h1 := ih d List.mem_cons_self
      have h2 := ihd fun e he => ih e (List.mem_cons_of_mem _ he)
      simp only [txDs, lvDs, List.length_append, h1, h2]
def spTexts (n : Nat) : SpD := fun ds S Q => ∃ es : List D, ds = [.tup es] ∧ Pl n (.tup es) ∧ lvDs es ≤ 90000 ∧ ∀ (q : Addr) (S' : Store), DL.Sub S S' → S q = none → S' q = some (.lst (txDs es)) → Q (.ref q) S'
theorem flat_app : ∀ {xs ys : List D}, (flatD xs).isSome = true → (flatD ys).isSome = true → (flatD (xs ++ ys)).isSome = true
  | [], _, _, h => h
  | .str x :: xs, ys, h1, h2 => by
    have e1 : (flatD xs).isSome = true := by simpa [flatD] using h1
    have := flat_app e1 h2
    simpa [flatD] using this
  | .int x :: xs, ys, h1, h2 => by
    have e1 : (flatD xs).isSome = true := by simpa [flatD] using h1
    have := flat_app e1 h2
    simpa [flatD] using this
  | .non :: _, _, e, _ => by simp [flatD] at e
  | .bl _ :: _, _, e, _ => by simp [flatD] at e
  | .ref _ :: _, _, e, _ => by simp [flatD] at e
  | .ty _ :: _, _, e, _ => by simp [flatD] at e
  | .tup _ :: _, _, e, _ => by simp [flatD] at e
  | .rol _ :: _, _, e, _ => by simp [flatD] at e
  | .ftup _ :: _, _, e, _ => by simp [flatD] at e
theorem lvDs_take {es : List D} {i : Nat} : lvDs (es.take i) ≤ lvDs es := by
  induction es generalizing i with
  | nil => simp [lvDs]
  | cons d es ih =>
    cases i with
    | zero => simp [lvDs]
    | succ i =>
      have := ih (i := i)
      simp only [List.take_succ_cons, lvDs]
      omega
theorem lvDs_app : ∀ {xs ys : List D}, lvDs (xs ++ ys) = lvDs xs + lvDs ys
  | [], ys => by simp [lvDs]
  | x :: xs, ys => by
    have := lvDs_app (xs := xs) (ys := ys)
    simp only [List.cons_append, lvDs]
    omega
theorem tx_flat {n : Nat} {d : D} (h : Pl n d) : (flatD (txD d)).isSome = true := by
  induction h with
  | str h => rfl
  | int => rfl
  | @tup n ds h l ih =>
    simp only [txD]
    clear l h
    induction ds with
    | nil => simp [txDs, flatD]
    | cons d ds ihd =>
      have h1 := ih d List.mem_cons_self
      have h2 := ihd fun e he => ih e (List.mem_cons_of_mem _ he)
      simp only [txDs]
      exact flat_app h1 h2
theorem df_texts {k : Nat} (T : Bt mg) (A : At K mg "_law_texts" "_law_texts" s_l_texts) (n : Nat) : Df P w K mg base "_law_texts" (k + n + 1) (spTexts n) := by
  have nd := sc_l_texts.nd
  induction n with
  | zero =>
    refine df_mk A rfl sc_l_texts (fun _ _ _ _ _ _ us hl => match us, hl with | [_], _ => rfl) (fun ds S Q h => ?_) (fun f cdv A outer s H E hr ds S Q h => ?_)
    · obtain ⟨es, rfl, _⟩ := h
      rfl
    · obtain ⟨es, rfl, h, _⟩ := h
      cases h
  | succ n G_l_texts =>
  refine df_mk A rfl sc_l_texts (fun _ _ _ _ _ _ us hl => match us, hl with | [_], _ => rfl) (fun ds S Q h => ?_) (fun f cdv A outer s H E hr ds S Q h => ?_)
  · obtain ⟨es, rfl, _⟩ := h
    rfl
  obtain ⟨es, rfl, hp, hz, h⟩ := h
  have hu := hu_of hr
  have hl := hp.len
  have ha := hp.all
  refine ⟨_, (dss_cons (ds_set (i := 1) nd rfl (Or.inl rfl) (de_lst da_nil))
    (dss_cons (ds_for PassesOwn.never rfl (di_any (dv 0)) (dg_name (i := 2) nd rfl (Or.inl rfl)) (dss_one (ds_expr (de_m PySem.F.plainAttrs_list PySem.F.slot_list_extend PySem.F.type_list_extend md_extend (dv 1) (da_cons (de_if (dt_val (de_callB cd_isi rfl T.isinstance_ (by decide +kernel) (da_cons (dv 2) (da_cons (de_ty (n := "tuple") rfl T.tuple_ (by decide +kernel)) da_nil)))) (de_call G_l_texts hr rfl (da_cons (dv 2) da_nil)) (de_lst (da_cons (dv 2) da_nil))) da_nil)))))
    (dss_one (ds_ret (dv 1))))), ?_⟩
  refine sq ?_
  walk_at "dl"
  intro q nq
  have sb : DL.Sub S (put S q (.lst [])) := Sub.new nq
  have hq : put S q (.lst []) q = some (.lst []) := put_same
  generalize put S q (.lst []) = S0 at sb hq
  refine sq ?_
  walk_at "dl"
  refine forB_seq es (fun i δ S' => ∃ o2 : Option D, δ = [some (.tup es), some (.ref q), o2] ∧ DL.Sub S S' ∧ S' q = some (.lst (txDs (es.take i)))) ⟨none, rfl, sb, hq⟩ (fun i δ S' _ _ => rfl) ?_ ?_
  · rintro i d δ S1 hi ⟨o2, rfl, s1, hq1⟩
    have md := List.mem_of_getElem? hi
    have hd := ha d md
    have hil : i < es.length := (List.getElem?_eq_some_iff.mp hi).1
    have etk : es.take (i + 1) = es.take i ++ [d] := by
      rw [← List.take_append_getElem hil, (List.getElem?_eq_some_iff.mp hi).2]
    have hlv := lvDs_take (es := es) (i := i + 1)
    have htxl : (txDs (es.take (i + 1))).length ≤ 90000 := by
      have e1 := tx_len (n := n + 1) (d := .tup (es.take (i + 1))) (.tup (fun d hd => ha d (List.mem_of_mem_take hd)) (by rw [List.length_take]; omega))
      simp only [txD, lvD] at e1
      omega
    rw [etk, lvDs_app] at hlv
    simp only [lvDs] at hlv
    rw [etk, txDs_app] at htxl
    simp only [txDs, List.append_nil] at htxl
    rw [List.length_append] at htxl
    walk_at "dl"
    refine ⟨ty_list hq1, ?_⟩
    have last : ∀ (S2 : Store) (b : Addr), DL.Sub S S2 → S2 q = some (.lst (txDs (es.take i))) → S2 b = some (.lst (txD d)) → mExtend (.ref q) [.ref b] S2 fun _ S' => ∃ o2 : Option D, [some (.tup es), some (.ref q), some d] = [some (D.tup es), some (.ref q), o2] ∧ DL.Sub S S' ∧ S' q = some (.lst (txDs (es.take (i + 1)))) := by
      intro S2 b s2 hq2 hb
      refine ⟨_, _, hq2, hb, szOk (by omega), _, rfl, s2.at nq, ?_⟩
      rw [put_same, etk, txDs_app]
      simp only [txDs, List.append_nil]
    cases hd with
    | str hx =>
      refine ⟨_, _, rfl, kit_st, ?_⟩
      refine ifN (by decide) ?_
      walk_at "dl"
      intro e ne
      exact last _ e (s1.trans (Sub.new ne)) ((put_ne (ne_new hq1 ne)).trans hq1) (by rw [put_same]; simp [txD])
    | int =>
      refine ⟨_, _, rfl, kit_it, ?_⟩
      refine ifN (by decide) ?_
      walk_at "dl"
      intro e ne
      exact last _ e (s1.trans (Sub.new ne)) ((put_ne (ne_new hq1 ne)).trans hq1) (by rw [put_same]; simp [txD])
    | @tup m ds hx hlen =>
      refine ⟨_, _, rfl, kit_tt, ?_⟩
      refine ifY rfl ?_
      walk_at "dl"
      simp only [lvD] at hlv
      refine ⟨ds, rfl, .tup hx hlen, by omega, fun b S2 s2 nb hb => ?_⟩
      exact last _ b (s1.trans s2) (s2 _ _ hq1) (by simpa [txD] using hb)
  · rintro δ S1 ⟨o2, rfl, s1, hq1⟩
    rw [List.take_length] at hq1
    walk_at "dl"
    exact ⟨S1, Sub.refl, h q S1 s1 nq hq1⟩
/-! ### how deep -/
def spDeep (n : Nat) : SpD := fun ds S Q => ∃ es : List D, ds = [.tup es] ∧ Pl n (.tup es) ∧ ∀ (m : Int) (S' : Store), DL.Sub S S' → (dpD (.tup es) : Int) ≤ m → Q (.int m) S'
theorem df_deep {k : Nat} (T : Bt mg) (A : At K mg "_law_deep" "_law_deep" s_l_deep) (n : Nat) : Df P w K mg base "_law_deep" (k + n + 1) (spDeep n) := by
  have nd := sc_l_deep.nd
  induction n with
  | zero =>
    refine df_mk A rfl sc_l_deep (fun _ _ _ _ _ _ us hl => match us, hl with | [_], _ => rfl) (fun ds S Q h => ?_) (fun f cdv A outer s H E hr ds S Q h => ?_)
    · obtain ⟨es, rfl, _⟩ := h
      rfl
    · obtain ⟨es, rfl, h, _⟩ := h
      cases h
  | succ n G_l_deep =>
  refine df_mk A rfl sc_l_deep (fun _ _ _ _ _ _ us hl => match us, hl with | [_], _ => rfl) (fun ds S Q h => ?_) (fun f cdv A outer s H E hr ds S Q h => ?_)
  · obtain ⟨es, rfl, _⟩ := h
    rfl
  obtain ⟨es, rfl, hp, h⟩ := h
  have hu := hu_of hr
  have hl := hp.len
  have ha := hp.all
  refine ⟨_, (dss_one (ds_ret (de_op od_add de_int (de_callB (cd_maxL rfl) rfl T.max_ (by decide +kernel) (da_cons (de_op od_add (de_lst (da_cons de_int da_nil)) (de_lc (own := [("_law_part", 1)]) (g := GD.one 1) rfl nd (di_any (dv 0)) (blkOk_by (own := [("_law_part", 1)]) (N := ["_law_form_here", "_law_part"]) (sc := defScope s_l_deep) (by decide +kernel)) (fun _ _ _ _ _ => (dg_name (i := 1) nd rfl (Or.inl rfl))) (fun _ _ _ _ _ => (dts_one (dt_val (de_callB cd_isi rfl T.isinstance_ (by decide +kernel) (da_cons (dv 1) (da_cons (de_ty (n := "tuple") rfl T.tuple_ (by decide +kernel)) da_nil)))))) (fun _ _ _ _ _ => (de_call G_l_deep hr rfl (da_cons (dv 1) da_nil))))) da_nil))))), ?_⟩
  walk_at "dl"
  intro e0 n0
  generalize hS0 : put S e0 _ = S0
  have s0 := (Sub.refl (S := S)).gen hS0 n0
  have k0 := gen_at hS0
  intro q nq
  have nq' := s0.none' nq
  refine lcB_inv es id D.int (fun k ys => ∀ j d, j < k → es[j]? = some d → dpD d = 0 ∨ ∃ y ∈ ys, (dpD d : Int) ≤ y) (fun S' => ∃ o, S' q = some o ∧ ∀ b u, b ≠ q → S0 b = some u → S' b = some u) (by omega) (fun S' ds ⟨o, h1, h2⟩ => ⟨_, put_same, fun b u nb e => (put_ne nb).trans (h2 b u nb e)⟩) ⟨_, put_same, fun b u nb e => (put_ne nb).trans e⟩ (fun k S' _ => by rw [List.map_id]; rfl) (fun j d hj _ => by omega) (fun i d ys S1 Y N hi hys ⟨o, _, h2⟩ hq yy nn => ?_) (fun ys S1 ⟨o, _, h2⟩ hq hys hyl => ?_)
  · have hd := ha d (List.mem_of_getElem? hi)
    show tTestD _ _ _ _
    walk_at "dl"
    have skip : dpD d = 0 → N S1 := fun e0 => nn S1 ⟨_, hq, h2⟩ hq fun j d' hj hd' => by
      rcases Nat.lt_succ_iff_lt_or_eq.mp hj with hj | rfl
      · exact hys j d' hj hd'
      · rw [hi] at hd'; cases hd'
        exact .inl e0
    cases hd with
    | str hx =>
      refine ⟨_, _, rfl, kit_st, ?_⟩
      refine ifN (by decide) ?_
      exact skip (by simp [dpD])
    | int =>
      refine ⟨_, _, rfl, kit_it, ?_⟩
      refine ifN (by decide) ?_
      exact skip (by simp [dpD])
    | @tup m ds hx hlen =>
      refine ⟨_, _, rfl, kit_tt, ?_⟩
      refine ifY rfl ?_
      walk_at "dl"
      refine ⟨ds, rfl, .tup hx hlen, fun m S2 s2 hm => ?_⟩
      refine yy m S2 ⟨_, s2 _ _ hq, fun b u nb e => s2 _ _ (h2 b u nb e)⟩ (s2 _ _ hq) fun j d' hj hd' => ?_
      rcases Nat.lt_succ_iff_lt_or_eq.mp hj with hj | rfl
      · rcases hys j d' hj hd' with z | ⟨y, hy, hyy⟩
        · exact .inl z
        · exact .inr ⟨y, List.mem_append_left _ hy, hyy⟩
      · rw [hi] at hd'; cases hd'
        exact .inr ⟨m, by simp, hm⟩
  · walk_at "dl"
    have k1 := h2 e0 _ (ne_new k0 nq) k0
    refine ⟨_, _, k1, hq, szOk (by simp; omega), fun e2 n2 => ?_⟩
    walk_at "dl"
    refine ⟨0 :: ys, seqAt_ref (by rw [put_same]; rfl), by simp, fun m hm hmm => ?_⟩
    walk_at "dl"
    have sf : DL.Sub S (put S1 e2 (.lst (.int 0 :: ys.map D.int))) := fun b u e => by
      have e1 := s0 b u e
      have bq : b ≠ q := fun z => by rw [z, nq'] at e; cases e
      exact (put_ne (ne_new (h2 b u bq e1) n2)).trans (h2 b u bq e1)
    refine ⟨_, Sub.refl, h _ _ sf ?_⟩
    simp only [dpD]
    have m0 := hmm 0 (by simp)
    have : (dpDs es : Int) ≤ m := by
      have := dpDs_le (b := m.toNat) es fun d hd => by
        obtain ⟨j, hj, hjd⟩ := List.getElem_of_mem hd
        rcases hys j d hj (by rw [List.getElem?_eq_getElem hj, hjd]) with z | ⟨y, hy, hyy⟩
        · omega
        · have := hmm y (by simp [hy])
          omega
      omega
    omega
/-! ### a letter -/
def frD (es : List D) (c : Nat) : Bool := !inV (V.str ⟨#[c]⟩) ((flatD (txDs es)).getD [])
/-- the first letter that isn't there, or none -/
def letD (es : List D) : Str := match (("xyzuvw" : Str).cps.toList.filter (frD es)) with
  | [] => ""
  | c :: _ => ⟨#[c]⟩
theorem letD_is (es : List D) : letD es = "" ∨ ∃ ch, (117 ≤ ch ∧ ch ≤ 122) ∧ letD es = ⟨#[ch]⟩ := by
  unfold letD
  cases e : ("xyzuvw" : Str).cps.toList.filter (frD es) with
  | nil => exact .inl rfl
  | cons c r =>
    have hc : c ∈ ("xyzuvw" : Str).cps.toList.filter (frD es) := by rw [e]; exact List.mem_cons_self
    have := (List.mem_filter.mp hc).1
    exact .inr ⟨c, (show ∀ c ∈ ("xyzuvw" : Str).cps.toList, 117 ≤ c ∧ c ≤ 122 from by decide +kernel) c this, rfl⟩
def spLetter (n : Nat) : SpD := fun ds S Q => ∃ es : List D, ds = [.tup es] ∧ Pl n (.tup es) ∧ lvDs es ≤ 90000 ∧ ∀ S', DL.Sub S S' → Q (.str (letD es)) S'
theorem df_letter {k n : Nat} (T : Bt mg) (A : At K mg "_law_letter" "_law_letter" s_l_letter) (G_l_texts : Df P w K mg base "_law_texts" k (spTexts n)) : Df P w K mg base "_law_letter" (k + 1) (spLetter n) := by
  have nd := sc_l_letter.nd
  refine df_mk A rfl sc_l_letter (fun _ _ _ _ _ _ us hl => match us, hl with | [_], _ => rfl) (fun ds S Q h => ?_) (fun f cdv A outer s H E hr ds S Q h => ?_)
  · obtain ⟨es, rfl, _⟩ := h
    rfl
  obtain ⟨es, rfl, hp, hz, h⟩ := h
  have hu := hu_of hr
  refine ⟨_, (dss_cons (ds_setLc (i := 1) (own := [("_law_letter_here", 2)]) (g := GD.one 2) rfl nd rfl rfl (sw_true rfl rfl rfl (by decide +kernel)) (di_any de_str) (blkOk_by (own := [("_law_letter_here", 2)]) (N := ["_law_form_here", "_law_free", "_law_letter_here"]) (sc := defScope s_l_letter) (by decide +kernel)) (fun _ _ _ _ _ => (dg_name (i := 2) nd rfl (Or.inl rfl))) (fun _ _ _ _ _ => (dts_one (dt_cmp od_notInF (dv 2) (de_call G_l_texts hr rfl (da_cons (dv 0) da_nil)) rfl))) (fun _ _ _ _ _ => (dv 2)))
    (dss_one (ds_ret (de_ix hu (de_op od_add (dv 1) (de_lst (da_cons de_str da_nil))) de_int)))), ?_⟩
  refine sq ?_
  walk_at "dl"
  intro q nq
  refine lcB_inv (("xyzuvw" : Str).cps.toList) (fun c => D.str ⟨#[c]⟩) (fun c : Nat => D.str ⟨#[c]⟩) (fun k ys => ys = (("xyzuvw" : Str).cps.toList.take k).filter (frD es)) (fun S' => ∃ o, S' q = some o ∧ ∀ b u, b ≠ q → S b = some u → S' b = some u) (by decide +kernel) (fun S' ds ⟨o, h1, h2⟩ => ⟨_, put_same, fun b u nb e => (put_ne nb).trans (h2 b u nb e)⟩) ⟨_, put_same, fun b u nb e => (put_ne nb).trans e⟩ (fun k S' _ => by
    rw [List.getElem?_map]
    show some (Option.map _ _) = some (Option.map _ _)
    rw [Array.getElem?_toList]) rfl (fun i c ys S1 Y N hi hys ⟨o, _, h2⟩ hq yy nn => ?_) (fun ys S1 ⟨o, _, h2⟩ hq hys hyl => ?_)
  · have hil : i < ("xyzuvw" : Str).cps.toList.length := (List.getElem?_eq_some_iff.mp hi).1
    have etk : ("xyzuvw" : Str).cps.toList.take (i + 1) = ("xyzuvw" : Str).cps.toList.take i ++ [c] := by
      rw [← List.take_append_getElem hil, (List.getElem?_eq_some_iff.mp hi).2]
    show tTestD _ _ _ _
    walk_at "dl"
    refine ⟨es, rfl, hp, hz, fun b S2 s2 nb hb => ?_⟩
    obtain ⟨vs, hvs⟩ := Option.isSome_iff_exists.mp (show (flatD (txDs es)).isSome = true from tx_flat hp)
    refine ⟨_, _, vs, rfl, seqAt_ref hb, hvs, fun bb hbb => ?_⟩
    have efr : frD es c = !bb := by unfold frD; rw [hvs, hbb]; rfl
    have i2 : ∃ o, S2 q = some o ∧ ∀ b u, b ≠ q → S b = some u → S2 b = some u := ⟨_, s2 _ _ hq, fun b u nb e => s2 _ _ (h2 b u nb e)⟩
    cases bb with
    | true =>
      walk_at "dl"
      refine nn S2 i2 (s2 _ _ hq) ?_
      rw [etk, List.filter_append, ← hys]
      simp [efr]
    | false =>
      walk_at "dl"
      refine yy c S2 i2 (s2 _ _ hq) ?_
      rw [etk, List.filter_append, ← hys]
      simp [efr]
  · walk_at "dl"
    intro e ne
    have hle : ys.length ≤ 6 := Nat.le_trans hyl (by decide +kernel)
    refine ⟨_, _, (put_ne (ne_new hq ne)).trans hq, rfl, szOk (by simp; omega), fun e2 n2 => ?_⟩
    walk_at "dl"
    have sf : ∀ o, DL.Sub S (put (put S1 e (.lst [.str ""])) e2 o) := fun o b u eb => by
      have bq : b ≠ q := fun z => by rw [z, nq] at eb; cases eb
      have h3 := h2 b u bq eb
      have h4 := (put_ne (o := .lst [.str ""]) (ne_new h3 ne)).trans h3
      exact (put_ne (ne_new h4 n2)).trans h4
    rw [List.take_length] at hys
    cases ys with
    | nil =>
      refine ⟨_, at0, ?_⟩
      have hlet : letD es = "" := by unfold letD; rw [← hys]
      rw [hlet] at h
      exact ⟨_, Sub.refl, h _ (sf _)⟩
    | cons y ys =>
      refine ⟨_, at0, ?_⟩
      have hlet : letD es = ⟨#[y]⟩ := by unfold letD; rw [← hys]
      rw [hlet] at h
      exact ⟨_, Sub.refl, h _ (sf _)⟩
end
end K61

set_option Elab.async false
set_option maxRecDepth 100000
set_option linter.unusedVariables false
namespace K61
open PySem PySem.Spec PyProof.Rows L2 DL FO
local macro_rules | `(tactic| walk_at "dl") => `(tactic| try simp only [DL.tAsgD, DL.asg, DL.tVarD, DL.lk, DL.sto, DL.stos, DL.tOpD, DL.tCD, DL.tCallD, DL.tConsD, DL.tNilD, DL.tRetD, DL.endsD, DL.startD, DL.tIfSD, DL.tTestD, DL.tNextD, DL.tDropD, DL.tAndD, DL.tOrD, DL.tNotD, DL.tAndV, DL.tOrV, DL.tNotV, DL.tIfD, DL.tNegD, DL.tTupD, DL.tLstD, DL.tSetD, DL.tMD, DL.tSlD, DL.tPartD, DL.tNoD, DL.tRevD, DL.tForD, DL.tLcD, DL.tIterD, DL.tRng1D, DL.tRng2D, DL.tYesD, DL.wipeD, DL.tDictD, DL.tDictOne, DL.tFldD, DL.tMethD, DL.tMakeD, DL.tSetF, DL.tThaw, DL.thaw, DL.tLRg, DL.tChainD, DL.tDispD, DL.tPairsD, DL.tEnumD, DL.tZipD, DL.tCallLD, DL.tSortSet, DL.tRng3D, DL.keyOf, DL.emE_rr, DL.tLess, DL.tLessS, DL.itOk, DL.rAdd_ii, DL.rAdd_ss, DL.rAdd_tt, DL.rAdd_rr, DL.rSub_ii, DL.rMod_ii, DL.rDiv_ii, DL.rPow_ii, DL.rMul_ii, DL.rMul_ri, DL.rLt_ii, DL.rLt_ss, DL.rLe_ii, DL.rGt_ii, DL.rGe_ii, DL.rEq_ii, DL.rEq_ss, DL.rEq_bb, DL.rNe_ii, DL.rNe_ss, DL.rNe_bb, DL.rEq_rr, DL.rNe_rr, DL.rEq_tt, DL.rNe_tt, DL.rIn_st, DL.rNotIn_st, DL.rIn_r, DL.rNotIn_r, DL.rIn_ss, DL.rInDO_sl, DL.rInDO_il, DL.rInDO_sd, DL.rInDO_id, DL.rIsN_n, DL.rIsN_t, DL.rIsN_i, DL.rIsN_s, DL.rIsN_r, DL.rNotN_n, DL.rNotN_t, DL.rNotN_i, DL.rNotN_s, DL.rNotN_r, DL.rIx_t, DL.rIx_r, DL.rIx_s, DL.rIxDO_l, DL.rIxDO_ds, DL.rIx0, DL.rIx1, DL.rIx2, DL.rIx3, DL.rSl_t, DL.rSl_s, DL.rSl_o, DL.rSl_r, DL.rSlDO, DL.rSet_r, DL.rSetDO_0, DL.rSetDO_s, DL.rLen_t, DL.rLen_o, DL.rLen_s, DL.rLen_r, DL.rLenDO, DL.rLenDO_d, DL.rList_t, DL.rList_o, DL.rList_r, DL.rListDO, DL.rTuple_t, DL.rTuple_r, DL.rInt_i, DL.rInt_b, DL.rMax, DL.rMin, DL.rSz0, DL.rSz1, DL.rSz2, DL.rSz3, DL.rSz4, DL.rSz5, DL.rSz6, DL.rSz7, DL.rSz8, Option.some.injEq, DL.DO.lst.injEq, exists_eq_left', exists_eq_left, DL.put_same, DL.put_put, true_and, and_true, List.map, List.replicate, List.length, List.cons_append, List.nil_append, Nat.reduceSub, Nat.reduceAdd, decide_eq_true_eq, if_true, if_false, Bool.false_eq_true, Bool.not_true, Bool.not_false])
local macro_rules | `(tactic| walk_at "dlh") => `(tactic| try simp only [*, DL.tAsgD, DL.asg, DL.tVarD, DL.lk, DL.sto, DL.stos, DL.tOpD, DL.tCD, DL.tCallD, DL.tConsD, DL.tNilD, DL.tRetD, DL.endsD, DL.startD, DL.tIfSD, DL.tTestD, DL.tNextD, DL.tDropD, DL.tAndD, DL.tOrD, DL.tNotD, DL.tAndV, DL.tOrV, DL.tNotV, DL.tIfD, DL.tNegD, DL.tTupD, DL.tLstD, DL.tSetD, DL.tMD, DL.tSlD, DL.tPartD, DL.tNoD, DL.tRevD, DL.tForD, DL.tLcD, DL.tIterD, DL.tRng1D, DL.tRng2D, DL.tYesD, DL.wipeD, DL.tDictD, DL.tDictOne, DL.tFldD, DL.tMethD, DL.tMakeD, DL.tSetF, DL.tThaw, DL.thaw, DL.tLRg, DL.tChainD, DL.tDispD, DL.tPairsD, DL.tEnumD, DL.tZipD, DL.tCallLD, DL.tSortSet, DL.tRng3D, DL.keyOf, DL.emE_rr, DL.tLess, DL.tLessS, DL.itOk, DL.rAdd_ii, DL.rAdd_ss, DL.rAdd_tt, DL.rAdd_rr, DL.rSub_ii, DL.rMod_ii, DL.rDiv_ii, DL.rPow_ii, DL.rMul_ii, DL.rMul_ri, DL.rLt_ii, DL.rLt_ss, DL.rLe_ii, DL.rGt_ii, DL.rGe_ii, DL.rEq_ii, DL.rEq_ss, DL.rEq_bb, DL.rNe_ii, DL.rNe_ss, DL.rNe_bb, DL.rEq_rr, DL.rNe_rr, DL.rEq_tt, DL.rNe_tt, DL.rIn_st, DL.rNotIn_st, DL.rIn_r, DL.rNotIn_r, DL.rIn_ss, DL.rInDO_sl, DL.rInDO_il, DL.rInDO_sd, DL.rInDO_id, DL.rIsN_n, DL.rIsN_t, DL.rIsN_i, DL.rIsN_s, DL.rIsN_r, DL.rNotN_n, DL.rNotN_t, DL.rNotN_i, DL.rNotN_s, DL.rNotN_r, DL.rIx_t, DL.rIx_r, DL.rIx_s, DL.rIxDO_l, DL.rIxDO_ds, DL.rIx0, DL.rIx1, DL.rIx2, DL.rIx3, DL.rSl_t, DL.rSl_s, DL.rSl_o, DL.rSl_r, DL.rSlDO, DL.rSet_r, DL.rSetDO_0, DL.rSetDO_s, DL.rLen_t, DL.rLen_o, DL.rLen_s, DL.rLen_r, DL.rLenDO, DL.rLenDO_d, DL.rList_t, DL.rList_o, DL.rList_r, DL.rListDO, DL.rTuple_t, DL.rTuple_r, DL.rInt_i, DL.rInt_b, DL.rMax, DL.rMin, DL.rSz0, DL.rSz1, DL.rSz2, DL.rSz3, DL.rSz4, DL.rSz5, DL.rSz6, DL.rSz7, DL.rSz8, Option.some.injEq, DL.DO.lst.injEq, exists_eq_left', exists_eq_left, DL.put_same, DL.put_put, true_and, and_true, List.map, List.replicate, List.length, List.cons_append, List.nil_append, Nat.reduceSub, Nat.reduceAdd, decide_eq_true_eq, if_true, if_false, Bool.false_eq_true, Bool.not_true, Bool.not_false])
local macro_rules | `(tactic| walk_at "go") => `(tactic| repeat (first | (refine DL.sq ?_; try walk_at "dl") | (refine DL.ifY rfl ?_; try walk_at "dl") | (refine DL.inY rfl (by decide) ?_; try walk_at "dl") | (refine DL.inN rfl (by decide) ?_; try walk_at "dl") | (refine DL.ifN (by decide) ?_; try walk_at "dl")))
abbrev s_l_new : Stmt := top 33
theorem sc_l_new : FnScope ["_law_state", "_law_name"] ["_law_state"] (defScope s_l_new) := ⟨rfl, rfl, rfl, by decide +kernel, rfl, by decide +kernel, by decide +kernel⟩
abbrev s_l_add : Stmt := top 34
theorem sc_l_add : FnScope ["_law_state", "_law_level", "_law_form_here", "_law_reason"] ["_law_state", "_law_level", "_law_form_here", "_law_reason"] (defScope s_l_add) := ⟨rfl, rfl, rfl, by decide +kernel, rfl, by decide +kernel, by decide +kernel⟩
abbrev s_l_at : Stmt := top 35
theorem sc_l_at : FnScope ["_law_state", "_law_k"] ["_law_state", "_law_k"] (defScope s_l_at) := ⟨rfl, rfl, rfl, by decide +kernel, rfl, by decide +kernel, by decide +kernel⟩
abbrev s_l_find : Stmt := top 36
theorem sc_l_find : FnScope ["_law_state", "_law_known", "_law_word", "_law_start", "_law_k"] ["_law_state", "_law_known", "_law_word"] (defScope s_l_find) := ⟨rfl, rfl, rfl, by decide +kernel, rfl, by decide +kernel, by decide +kernel⟩
abbrev s_l_any_form : Stmt := top 37
theorem sc_l_any_form : FnScope ["_law_state", "_law_names"] ["_law_state", "_law_names"] (defScope s_l_any_form) := ⟨rfl, rfl, rfl, by decide +kernel, rfl, by decide +kernel, by decide +kernel⟩
/-- names and letters -/
def TT (s : Str) : Prop := nmS s ∨ ∃ ch, (117 ≤ ch ∧ ch ≤ 122) ∧ s = ⟨#[ch]⟩
theorem nmS.sok {s : Str} (h : nmS s) : SOk s := by
  obtain ⟨c, r, e, hc, hr, _⟩ := h
  refine sok_of fun x hx => ?_
  rw [e] at hx
  rcases List.mem_cons.mp hx with rfl | hx
  · unfold chUp at hc; omega
  · have := hr x hx; unfold chLow at this; omega
theorem kdS.sok {s : Str} (h : kdS s) : SOk s := sok_of fun x hx => by have := h.1 x hx; unfold chLow at this; omega
theorem TT.sok {s : Str} (h : TT s) : SOk s := by
  rcases h with h | ⟨ch, h, rfl⟩
  · exact h.sok
  · refine sok_of fun x hx => ?_
    simp at hx
    omega
theorem TT.nk {s k : Str} (h : TT s) (hk : kdS k) : k ≠ s := by
  rintro rfl
  rcases h with ⟨c, r, e, hc, _⟩ | ⟨ch, h, rfl⟩
  · have := hk.1 c (by rw [e]; simp)
    unfold chUp at hc; unfold chLow at this; omega
  · have := hk.2.1
    simp at this
theorem TT.nh {s : Str} (h : TT s) : NoHd s := by
  intro w hw e
  have hk : kdS w := by
    have : ∀ w ∈ (["is", "does", "same", "least", "false", "not", "and", "or", "if", "every", "some"] : List Str), kdS w := by
      intro w hw
      have : (∀ c ∈ w.cps.toList, 97 ≤ c ∧ c ≤ 122) ∧ 2 ≤ w.cps.toList.length ∧ w.cps.toList.length ≤ 8 := by
        revert w
        decide +kernel
      exact this
    exact this w hw
  exact h.nk hk e
/-- where the state lies, and the vocabulary -/
structure Fx where
  q : Addr
  p : Addr
  c : Addr
  l : Addr
  t : Addr
  ns : List Str
  ks : List Str
  dos : List Str
abbrev stD (x : Fx) : List (Key × D) := [(.inr "deck", .ref x.p), (.inr "lines", .ref x.l), (.inr "taken", .ref x.t), (.inr "words", wordsD x.ns x.ks x.dos)]
theorem sv1 {x : Fx} : dval (stD x) (.inr "deck") = some (.ref x.p) := rfl
theorem sv2 {x : Fx} : dval (stD x) (.inr "lines") = some (.ref x.l) := rfl
theorem sv3 {x : Fx} : dval (stD x) (.inr "taken") = some (.ref x.t) := rfl
theorem sv4 {x : Fx} : dval (stD x) (.inr "words") = some (wordsD x.ns x.ks x.dos) := rfl
def Fx.as (x : Fx) : List Addr := [x.p, x.c, x.l, x.t]
structure Fx.fit (x : Fx) : Prop where
  qp : x.q ≠ x.p
  qc : x.q ≠ x.c
  ql : x.q ≠ x.l
  qt : x.q ≠ x.t
  lp : x.l ≠ x.p
  lc : x.l ≠ x.c
  lt : x.l ≠ x.t
  tp : x.t ≠ x.p
  tc : x.t ≠ x.c
  k1 : 1 ≤ x.ks.length
  k6 : x.ks.length ≤ 6
  d6 : x.dos.length ≤ 6
  kk : ∀ s ∈ x.ks, kdS s
  dd : ∀ s ∈ x.dos, kdS s
abbrev Fx.fo (x : Fx) (F : Fo) : Prop := F.ok TT (· ∈ x.ks) (· ∈ x.dos)
structure St (x : Fx) (S : Store) (L : List Ln) (X : List Str) : Prop where
  fit : x.fit
  q_ : S x.q = some (.dk (stD x))
  d_ : Dk x.p x.c S
  l_ : S x.l = some (.lst (L.map Ln.d))
  t_ : S x.t = some (.lst (X.map D.str))
  ok : ∀ n ∈ L, x.fo n.f ∧ n.f.ht ≤ 10
def Go (x : Fx) (S S' : Store) (L : List Ln) (X : List Str) : Prop := ChS x.as S S' ∧ St x S' L X
theorem St.live {x : Fx} {S : Store} {L : List Ln} {X : List Str} (h : St x S L X) : Live x.as S := by
  intro a ha
  simp only [Fx.as, List.mem_cons, List.not_mem_nil, or_false] at ha
  rcases ha with rfl | rfl | rfl | rfl
  · exact h.d_.live _ (by simp)
  · exact h.d_.live _ (by simp)
  · exact ⟨_, h.l_⟩
  · exact ⟨_, h.t_⟩
theorem Go.refl {x : Fx} {S : Store} {L : List Ln} {X : List Str} (h : St x S L X) : Go x S S L X := ⟨.refl, h⟩
theorem Go.trans {x : Fx} {S S1 S2 : Store} {L L' : List Ln} {X X' : List Str} (h : Go x S S1 L X) (g : Go x S1 S2 L' X') : Go x S S2 L' X' := ⟨h.1.trans g.1, g.2⟩
theorem St.deck {x : Fx} {S S' : Store} {L : List Ln} {X : List Str} (h : St x S L X) (c : Ch x.p x.c S S') : Go x S S' L X :=
  ⟨c.1.mono (by simp [Fx.as]), h.fit, c.get h.fit.qp h.fit.qc h.q_, c.2, c.get h.fit.lp h.fit.lc h.l_, c.get h.fit.tp h.fit.tc h.t_, h.ok⟩
theorem Dk.sub {p c : Addr} {S S' : Store} (h : Dk p c S) (b : DL.Sub S S') : Dk p c S' := by
  obtain ⟨h0, s, n, ns, h1, h2, r⟩ := h
  exact ⟨h0, s, n, ns, b _ _ h1, b _ _ h2, r⟩
theorem St.sub {x : Fx} {S S' : Store} {L : List Ln} {X : List Str} (h : St x S L X) (b : DL.Sub S S') : Go x S S' L X :=
  ⟨ChS.refl.sub b, h.fit, b _ _ h.q_, h.d_.sub b, b _ _ h.l_, b _ _ h.t_, h.ok⟩
theorem Go.deck {x : Fx} {S S1 S' : Store} {L : List Ln} {X : List Str} (h : Go x S S1 L X) (c : Ch x.p x.c S1 S') : Go x S S' L X := h.trans (h.2.deck c)
theorem Go.sub {x : Fx} {S S1 S' : Store} {L : List Ln} {X : List Str} (h : Go x S S1 L X) (b : DL.Sub S1 S') : Go x S S' L X := h.trans (h.2.sub b)
theorem Go.gen {x : Fx} {S S1 S' : Store} {L : List Ln} {X : List Str} {a : Addr} {o : DO} (h : Go x S S1 L X) (hS : put S1 a o = S') (n : S1 a = none) : Go x S S' L X := h.sub (hS ▸ Sub.new n)
theorem Go.keep {x : Fx} {S S' : Store} {L : List Ln} {X : List Str} {a : Addr} {o : DO} (h : Go x S S' L X) (n : a ∉ x.as) (e : S a = some o) : S' a = some o := h.1 a o n e
theorem St.fresh {x : Fx} {S : Store} {L : List Ln} {X : List Str} {a : Addr} (h : St x S L X) (n : S a = none) : a ∉ x.as := fun m => by
  obtain ⟨o, e⟩ := h.live a m
  rw [n] at e; cases e
theorem Go.none' {x : Fx} {S S' : Store} {L : List Ln} {X : List Str} {a : Addr} (h : Go x S S' L X) (n : S' a = none) : S a = none := h.1.none' h.2.live n
def spNew : SpD := fun ds S Q => ∃ (x : Fx) (L : List Ln) (X : List Str), ds = [.ref x.q] ∧ St x S L X ∧ X.length ≤ 19 ∧ ∀ (nm : Str) (S' : Store), nmS nm → Go x S S' L (X ++ [nm]) → Q (.str nm) S'
def spAdd : SpD := fun ds S Q => ∃ (x : Fx) (L : List Ln) (X : List Str) (lv : Nat) (F : Fo) (r : Rs), ds = [.ref x.q, .int (lv : Nat), F.d, r.d] ∧ St x S L X ∧ L.length ≤ 200 ∧ x.fo F ∧ F.ht ≤ 10 ∧
  ∀ S', Go x S S' (L ++ [⟨lv, F, r⟩]) X → Q (.int ((L.length + 1 : Nat) : Int)) S'
def spAt : SpD := fun ds S Q => ∃ (x : Fx) (L : List Ln) (X : List Str) (k : Nat) (n : Ln), ds = [.ref x.q, .int (k : Nat)] ∧ St x S L X ∧ 1 ≤ k ∧ L[k - 1]? = some n ∧ Q n.f.d S
def Kn (S : Store) (a : Addr) (kn : List Nat) (L : List Ln) : Prop := S a = some (.lst (kn.map inD)) ∧ kn ≠ [] ∧ kn.length ≤ 500 ∧ ∀ k ∈ kn, 1 ≤ k ∧ k ≤ L.length
def spFind : SpD := fun ds S Q => ∃ (x : Fx) (L : List Ln) (X : List Str) (a : Addr) (kn : List Nat) (w : Str), ds = [.ref x.q, .ref a, .str w] ∧ St x S L X ∧ a ∉ x.as ∧ Kn S a kn L ∧
  ∀ (k : Nat) (S' : Store), Go x S S' L X → ((k = 0 ∧ ∀ j ∈ kn, ∀ n, L[j - 1]? = some n → n.f.hd ≠ w) ∨ (k ∈ kn ∧ ∃ n, L[k - 1]? = some n ∧ n.f.hd = w)) → Q (.int (k : Nat)) S'
def spAny : SpD := fun ds S Q => ∃ (x : Fx) (L : List Ln) (X : List Str) (nm : List Str), ds = [.ref x.q, .tup (nm.map D.str)] ∧ St x S L X ∧ nm.length ≤ 60 ∧ (∀ s ∈ nm, nmS s) ∧ ∀ (F : Fo) (S' : Store), Go x S S' L X → x.fo F → F.ht ≤ 3 → Q F.d S'
section
variable {P : Program} {w : World} {K : PySem.W.Frag} {mg : Str → Option Value} {base : Heap}
theorem df_add {k : Nat} (T : Bt mg) (A : At K mg "_law_add" "_law_add" s_l_add) : Df P w K mg base "_law_add" (k + 1) spAdd := by
  have nd := sc_l_add.nd
  refine df_mk A rfl sc_l_add (fun _ _ _ _ _ _ us hl => match us, hl with | [_, _, _, _], _ => rfl) (fun ds S Q h => ?_) (fun f cdv A outer s H E hr ds S Q h => ?_)
  · obtain ⟨x, L, X, lv, F, r, rfl, _⟩ := h
    rfl
  obtain ⟨x, L, X, lv, F, r, rfl, hs, hl, hF, hh, h⟩ := h
  have hu := hu_of hr
  refine ⟨_, (dss_cons (ds_expr (de_m PySem.F.plainAttrs_list PySem.F.slot_list_append PySem.F.type_list_append md_append (de_ix hu (dv 0) de_str) (da_cons (de_tup (da_cons (dv 1) (da_cons (dv 2) (da_cons (dv 3) da_nil)))) da_nil)))
    (dss_one (ds_ret (de_callB cd_len rfl T.len_ (by decide +kernel) (da_cons (de_ix hu (dv 0) de_str) da_nil))))), ?_⟩
  refine sq ?_
  walk_at "dl"
  refine ixDk hs.q_ sv2 ?_
  refine ⟨ty_list hs.l_, ?_⟩
  walk_at "dl"
  refine append_of hs.l_ (szLt (by rw [List.length_map]; omega)) ?_
  have e : L.map Ln.d ++ [.tup [.int (lv : Nat), F.d, r.d]] = (L ++ [(⟨lv, F, r⟩ : Ln)]).map Ln.d := by rw [List.map_append]; rfl
  rw [e]
  have f := hs.fit
  have g : Go x S (put S x.l (.lst ((L ++ [(⟨lv, F, r⟩ : Ln)]).map Ln.d))) (L ++ [⟨lv, F, r⟩]) X := by
    refine ⟨ChS.refl.put (by simp [Fx.as]), f, (put_ne f.ql).trans hs.q_, hs.d_.put f.lp f.lc, put_same, (put_ne f.lt.symm).trans hs.t_, fun n hn => ?_⟩
    rcases List.mem_append.mp hn with z | z
    · exact hs.ok n z
    · cases List.mem_singleton.mp z; exact ⟨hF, hh⟩
  walk_at "dl"
  refine ixDk g.2.q_ sv2 ?_
  walk_at "dl"
  rw [List.length_map, List.length_append, List.length_singleton]
  exact ⟨_, Sub.refl, h _ g⟩
theorem df_at {k : Nat} (T : Bt mg) (A : At K mg "_law_at" "_law_at" s_l_at) : Df P w K mg base "_law_at" (k + 1) spAt := by
  have nd := sc_l_at.nd
  refine df_mk A rfl sc_l_at (fun _ _ _ _ _ _ us hl => match us, hl with | [_, _], _ => rfl) (fun ds S Q h => ?_) (fun f cdv A outer s H E hr ds S Q h => ?_)
  · obtain ⟨x, L, X, j, n, rfl, _⟩ := h
    rfl
  obtain ⟨x, L, X, j, n, rfl, hs, h1, hn, h⟩ := h
  have hu := hu_of hr
  refine ⟨_, (dss_one (ds_ret (de_ix hu (de_ix hu (de_ix hu (dv 0) de_str) (de_op od_sub (dv 1) de_int)) de_int))), ?_⟩
  walk_at "dl"
  refine ixDk hs.q_ sv2 ?_
  walk_at "dl"
  refine ixL hs.l_ (d := n.d) (by
    rw [show (j : Int) - 1 = ((j - 1 : Nat) : Int) by omega]
    exact atI_nat (by rw [List.getElem?_map, hn]; rfl)) ?_
  exact ⟨_, rfl, _, Sub.refl, h⟩
def UpZ : Str := "ABCDEFGHIJKLMNOPQRSTUVWXYZ"
def UpB : Str := "BCDEFGHIJKLMNOPQRSTUVWXYZA"
theorem UpZ_len : UpZ.length = 26 := by decide +kernel
theorem UpB_len : UpB.length = 26 := by decide +kernel
theorem UpZ_list : UpZ.cps.toList = (List.range 26).map (65 + ·) := by decide +kernel
theorem UpB_list : UpB.cps.toList = (List.range 26).map fun i => 65 + (i + 1) % 26 := by decide +kernel
theorem UpZ_at {i : Int} (h0 : 0 ≤ i) (h1 : i < 26) : atI UpZ.cps.toList i = some (65 + i.toNat) := by
  obtain ⟨j, rfl⟩ : ∃ j : Nat, i = j := ⟨i.toNat, by omega⟩
  refine atI_nat ?_
  rw [UpZ_list, List.getElem?_map, List.getElem?_range (by omega)]
  rfl
theorem UpB_at {j : Nat} (h1 : j < 26) : atI UpB.cps.toList (j : Int) = some (65 + (j + 1) % 26) := by
  refine atI_nat ?_
  rw [UpB_list, List.getElem?_map, List.getElem?_range h1]
  rfl
theorem UpZ_occ : ∀ i : Fin 26, Builtin.Str.occurrences UpZ ⟨#[65 + i.val]⟩ 0 UpZ.length 1 = [i.val] := by decide +kernel
theorem df_new {k : Nat} (T : Bt mg) (A : At K mg "_law_new" "_law_new" s_l_new) (G_l_next : Df P w K mg base "_law_next" k spNext) : Df P w K mg base "_law_new" (k + 1) spNew := by
  have nd := sc_l_new.nd
  refine df_mk A rfl sc_l_new (fun _ _ _ _ _ _ us hl => match us, hl with | [_], _ => rfl) (fun ds S Q h => ?_) (fun f cdv A outer s H E hr ds S Q h => ?_)
  · obtain ⟨x, L, X, rfl, _⟩ := h
    rfl
  obtain ⟨x, L, X, rfl, hs, hX, h⟩ := h
  have hu := hu_of hr
  refine ⟨_, (dss_cons (ds_set (i := 1) nd rfl (Or.inl rfl) (de_op od_add (de_ix hu de_str (de_call G_l_next hr rfl (da_cons (de_ix hu (dv 0) de_str) (da_cons de_int da_nil)))) (de_slice de_str do_none (do_some (de_call G_l_next hr rfl (da_cons (de_ix hu (dv 0) de_str) (da_cons de_int da_nil)))))))
    (dss_cons (ds_while PassesOwn.never (dt_cmp (od_in hu) (dv 1) (de_ix hu (dv 0) de_str) rfl) (dss_one (ds_set (i := 1) nd rfl (Or.inl rfl) (de_op od_add (de_ix hu de_str (de_m PySem.F.plainAttrs_str PySem.F.slot_str_index PySem.F.type_str_index md_sindex de_str (da_cons (de_ix hu (dv 1) de_int) da_nil))) (de_slice (dv 1) (do_some de_int) do_none)))))
    (dss_cons (ds_expr (de_m PySem.F.plainAttrs_list PySem.F.slot_list_append PySem.F.type_list_append md_append (de_ix hu (dv 0) de_str) (da_cons (dv 1) da_nil)))
    (dss_one (ds_ret (dv 1)))))), ?_⟩
  refine sq ?_
  walk_at "dl"
  refine ixDk hs.q_ sv1 ?_
  refine ⟨x.p, x.c, _, rfl, hs.d_, by decide, by decide, fun a S1 a0 a1 c1 => ?_⟩
  have g1 := hs.deck c1
  walk_at "dl"
  refine ⟨_, szOk (by decide +kernel), UpZ_at a0 a1, ?_⟩
  refine ixDk g1.2.q_ sv1 ?_
  refine ⟨x.p, x.c, _, rfl, g1.2.d_, by decide, by decide, fun b S2 b0 b1 c2 => ?_⟩
  have g2 := g1.deck c2
  walk_at "dl"
  refine ⟨szOk (by decide +kernel), ?_⟩
  obtain ⟨an, rfl⟩ : ∃ n : Nat, a = n := ⟨a.toNat, by omega⟩
  have ecut : cutS ("bo" : Str) none (some b) = ⟨(cutL ("bo" : Str).cps.toList none (some b)).toArray⟩ := str_of_list cutS_toList
  rw [ecut]
  have htl : ∀ ch ∈ cutL ("bo" : Str).cps.toList none (some b), chLow ch := fun ch hc => (show ∀ ch ∈ ("bo" : Str).cps.toList, 97 ≤ ch ∧ ch ≤ 122 from by decide +kernel) ch (cutL_mem hc)
  have htn : (cutL ("bo" : Str).cps.toList none (some b)).length ≤ 2 := Nat.le_trans cutL_le (by decide +kernel)
  generalize cutL ("bo" : Str).cps.toList none (some b) = tl at htl htn
  refine ⟨szOk (by rw [one_len, len_toList]; simp; omega), ?_⟩
  obtain ⟨j0, hj0, hfree⟩ := free_name (a := an) (tl := tl) (xs := X) (by omega)
  have nlen : ∀ j, (nmAt an tl j).length ≤ 3 := fun j => by rw [len_toList, nmAt_list, List.length_cons]; omega
  have e0 : (⟨#[65 + (an : Int).toNat]⟩ : Str) ++ ⟨tl.toArray⟩ = nmAt an tl 0 := by
    unfold nmAt
    rw [show (an + 0) % 26 = an by omega, Int.toNat_natCast]
  refine sq ?_
  refine while_seq (fun j => [some (.ref x.q), some (.str (nmAt an tl j))]) j0 (fun j => decide (nmAt an tl j ∈ X)) (fun S' => S' = S2) (by rw [e0]) (by simp [hfree]) rfl ?_ ?_ ?_
  · rintro j S3 hj rfl N hN
    walk_at "dl"
    refine ixDk g2.2.q_ sv3 ?_
    walk_at "dl"
    rw [g2.2.t_]
    walk_at "dl"
    exact ⟨X, strsOf_of X, hN _ rfl⟩
  · rintro j S3 N hj rfl hN
    walk_at "dl"
    refine ⟨ty_str, ?_⟩
    refine ⟨65 + (an + j) % 26, szOk (by have := nlen j; omega), by rw [nmAt_list]; exact atI_nat (j := 0) rfl, ?_⟩
    have e1 := UpZ_occ ⟨(an + j) % 26, Nat.mod_lt _ (by decide)⟩
    refine ⟨_, [], e1, ?_⟩
    walk_at "dl"
    refine ⟨_, szOk (by decide +kernel), UpB_at (Nat.mod_lt _ (by decide)), ?_⟩
    refine ⟨szOk (by have := nlen j; omega), ?_⟩
    have e3 : cutS (nmAt an tl j) (some 1) none = ⟨tl.toArray⟩ := by
      refine str_of_list ?_
      rw [cutS_toList, nmAt_list, show (1 : Int) = ((1 : Nat) : Int) from rfl, cutL_from]
      rfl
    rw [e3]
    refine ⟨szOk (by rw [one_len]; simp [Str.length]; omega), ?_⟩
    have e4 : (⟨#[65 + ((an + j) % 26 + 1) % 26]⟩ : Str) ++ ⟨tl.toArray⟩ = nmAt an tl (j + 1) := by
      unfold nmAt
      rw [show ((an + j) % 26 + 1) % 26 = (an + (j + 1)) % 26 by omega]
    rw [e4]
    exact hN _ rfl
  · rintro j S3 hj hb rfl
    walk_at "dl"
    refine sq ?_
    walk_at "dl"
    refine ixDk g2.2.q_ sv3 ?_
    refine ⟨ty_list g2.2.t_, ?_⟩
    refine append_of g2.2.t_ (szLt (by rw [List.length_map]; omega)) ?_
    have e5 : X.map D.str ++ [.str (nmAt an tl j)] = (X ++ [nmAt an tl j]).map D.str := by rw [List.map_append]; rfl
    rw [e5]
    have f := hs.fit
    have g : Go x S (put S3 x.t (.lst ((X ++ [nmAt an tl j]).map D.str))) L (X ++ [nmAt an tl j]) := by
      refine g2.trans ⟨ChS.refl.put (by simp [Fx.as]), f, (put_ne f.qt).trans g2.2.q_, g2.2.d_.put f.tp f.tc, (put_ne f.lt).trans g2.2.l_, put_same, g2.2.ok⟩
    refine ⟨_, Sub.refl, h _ _ ⟨65 + (an + j) % 26, tl, nmAt_list, by unfold chUp; omega, htl, by omega⟩ g⟩
theorem df_find {k : Nat} (T : Bt mg) (A : At K mg "_law_find" "_law_find" s_l_find) (G_l_next : Df P w K mg base "_law_next" k spNext) (G_l_at : Df P w K mg base "_law_at" k spAt) : Df P w K mg base "_law_find" (k + 1) spFind := by
  have nd := sc_l_find.nd
  refine df_mk A rfl sc_l_find (fun _ _ _ _ _ _ us hl => match us, hl with | [_, _, _], _ => rfl) (fun ds S Q h => ?_) (fun f cdv A outer s H E hr ds S Q h => ?_)
  · obtain ⟨x, L, X, a, kn, wd, rfl, _⟩ := h
    rfl
  obtain ⟨x, L, X, a, kn, wd, rfl, hs, ha, ⟨hk, hne, hkl, hkn⟩, h⟩ := h
  have hu := hu_of hr
  have hkp : 0 < kn.length := List.length_pos_iff.mpr hne
  refine ⟨_, (dss_cons (ds_set (i := 3) nd rfl (Or.inl rfl) (de_call G_l_next hr rfl (da_cons (de_ix hu (dv 0) de_str) (da_cons (de_callB cd_len rfl T.len_ (by decide +kernel) (da_cons (dv 1) da_nil)) da_nil))))
    (dss_cons (ds_for PassesOwn.never rfl (di_any (de_op od_add (de_slice (dv 1) (do_some (dv 3)) do_none) (de_slice (dv 1) do_none (do_some (dv 3))))) (dg_name (i := 4) nd rfl (Or.inl rfl)) (dss_one (ds_if (dt_cmp (od_eq hr.units) (de_ix hu (de_call G_l_at hr rfl (da_cons (dv 0) (da_cons (dv 4) da_nil))) de_int) (dv 2) (nomark _)) (dss_one (ds_ret (dv 4))) dss_nil)))
    (dss_one (ds_ret de_int)))), ?_⟩
  refine sq ?_
  walk_at "dl"
  refine ixDk hs.q_ sv1 ?_
  refine lenL hk ?_
  rw [List.length_map]
  refine ⟨x.p, x.c, _, rfl, hs.d_, by omega, by omega, fun r S1 r0 r1 c1 => ?_⟩
  have g1 := hs.deck c1
  have hk1 := g1.keep ha hk
  refine sq ?_
  walk_at "dl"
  obtain ⟨rn, rfl⟩ : ∃ n : Nat, r = n := ⟨r.toNat, by omega⟩
  rw [hk1]
  walk_at "dl"
  rw [cutL_map, cutL_from]
  intro e0 n0
  generalize hS0 : put S1 e0 _ = S2
  have g2 := g1.gen hS0 n0
  have k0 := gen_at hS0
  have hk2 := gen_kp hS0 n0 hk1
  rw [hk2]
  walk_at "dl"
  rw [cutL_map, cutL_to]
  intro e1 n1
  generalize hS1 : put S2 e1 _ = S3
  have g3 := g2.gen hS1 n1
  have k1 := gen_at hS1
  have k0 := gen_kp hS1 n1 k0
  refine ⟨_, _, k0, rfl, szOk (by simp; omega), fun e2 n2 => ?_⟩
  generalize hS2 : put S3 e2 _ = S4
  have g4 := g3.gen hS2 n2
  have k2 := gen_at hS2
  rw [← List.map_append] at k2
  walk_at "dl"
  refine ⟨⟨_, rfl⟩, ?_⟩
  refine forB_seq ((kn.drop rn ++ kn.take rn).map inD) (fun i δ S' => S' = S4 ∧ (∀ j ∈ (kn.drop rn ++ kn.take rn).take i, ∀ n, L[j - 1]? = some n → n.f.hd ≠ wd) ∧ ∃ o4, δ = [some (.ref x.q), some (.ref a), some (.str wd), some (.int (rn : Nat)), o4]) ⟨rfl, (fun j hj => by simp at hj), none, rfl⟩ (fun i δ S' _ hp => hp.1 ▸ listJ k2) ?_ ?_
  · rintro i d δ S5 hi ⟨rfl, hno, o4, rfl⟩
    rw [List.getElem?_map] at hi
    obtain ⟨j, hij, rfl⟩ := Option.map_eq_some_iff.mp hi
    have mj := List.mem_of_getElem? hij
    have mk : j ∈ kn := by
      rcases List.mem_append.mp mj with z | z
      · exact List.mem_of_mem_drop z
      · exact List.mem_of_mem_take z
    have hj := hkn j mk
    walk_at "dl"
    refine ⟨x, L, X, j, L[j - 1], rfl, g4.2, hj.1, List.getElem?_eq_getElem (by omega), ?_⟩
    rw [Fo.d_eq]
    walk_at "dl"
    refine ite2 (fun e1 => ?_) (fun e1 => ?_)
    · walk_at "dl"
      exact ⟨S5, Sub.refl, h j S5 g4 (.inr ⟨mk, _, List.getElem?_eq_getElem (by omega), by simpa using e1⟩)⟩
    · refine ⟨fun j' hj' n hn => ?_, _, rfl⟩
      obtain ⟨hlt, ej⟩ := List.getElem?_eq_some_iff.mp hij
      rw [← List.take_append_getElem hlt, ej] at hj'
      rcases List.mem_append.mp hj' with z | z
      · exact hno j' z n hn
      · cases List.mem_singleton.mp z
        rw [List.getElem?_eq_getElem (by omega)] at hn
        cases hn
        simpa using e1
  · rintro δ S5 ⟨rfl, hno, o4, rfl⟩
    walk_at "dl"
    rw [List.length_map, List.take_length] at hno
    refine ⟨S5, Sub.refl, h 0 S5 g4 (.inl ⟨rfl, fun j hj => hno j ?_⟩)⟩
    rw [← List.take_append_drop rn kn] at hj
    rcases List.mem_append.mp hj with z | z
    · exact List.mem_append_right _ z
    · exact List.mem_append_left _ z
theorem df_any {k n : Nat} (T : Bt mg) (A : At K mg "_law_any_form" "_law_any_form" s_l_any_form) (G_l_next : Df P w K mg base "_law_next" k spNext) (G_l_form : Df P w K mg base "_law_form" k (spForm (n + 3))) : Df P w K mg base "_law_any_form" (k + 1) spAny := by
  have nd := sc_l_any_form.nd
  refine df_mk A rfl sc_l_any_form (fun _ _ _ _ _ _ us hl => match us, hl with | [_, _], _ => rfl) (fun ds S Q h => ?_) (fun f cdv A outer s H E hr ds S Q h => ?_)
  · obtain ⟨x, L, X, nm, rfl, _⟩ := h
    rfl
  obtain ⟨x, L, X, nm, rfl, hs, hl, hnm, h⟩ := h
  have hu := hu_of hr
  refine ⟨_, (dss_one (ds_ret (de_call G_l_form hr rfl (da_cons (de_ix hu (dv 0) de_str) (da_cons (de_ix hu (dv 0) de_str) (da_cons (de_callTy (cd_list rfl) rfl T.list_ (by decide +kernel) (da_cons (dv 1) da_nil)) (da_cons (de_call G_l_next hr rfl (da_cons (de_ix hu (dv 0) de_str) (da_cons de_int da_nil))) da_nil))))))), ?_⟩
  walk_at "dl"
  refine ixDk hs.q_ sv1 ?_
  refine ixDk hs.q_ sv4 ?_
  intro e0 n0
  generalize hS0 : put S e0 _ = S1
  have g1 := (Go.refl hs).gen hS0 n0
  have k0 := gen_at hS0
  have f0 := hs.fresh n0
  refine ixDk g1.2.q_ sv1 ?_
  refine ⟨x.p, x.c, _, rfl, g1.2.d_, by decide, by decide, fun r S2 r0 r1 c2 => ?_⟩
  have g2 := g1.deck c2
  have k2 := (g1.2.deck c2).keep f0 k0
  obtain ⟨rn, rfl⟩ : ∃ n : Nat, r = n := ⟨r.toNat, by omega⟩
  have fit := hs.fit
  refine ⟨TT, x.p, x.c, e0, x.ns, x.ks, x.dos, nm, rn, rfl, g2.2.d_, fun z => f0 (by simp [Fx.as, z]), fun z => f0 (by simp [Fx.as, z]), k2, fit.k1, fit.k6, fit.d6, fun s hs => (fit.dd s hs).sok, by omega, by omega, fun s hs => .inl (hnm s hs), fun ch hch => .inr ⟨ch, hch, rfl⟩, fun F S3 c3 ok ht => ?_⟩
  exact ⟨S3, Sub.refl, h F S3 (g2.deck c3) ok (by omega)⟩
end
end K61

set_option Elab.async false
set_option maxRecDepth 100000
set_option linter.unusedVariables false
namespace K61
open PySem PySem.Spec PyProof.Rows L2 DL FO
local macro_rules | `(tactic| walk_at "dl") => `(tactic| try simp only [DL.tAsgD, DL.asg, DL.tVarD, DL.lk, DL.sto, DL.stos, DL.tOpD, DL.tCD, DL.tCallD, DL.tConsD, DL.tNilD, DL.tRetD, DL.endsD, DL.startD, DL.tIfSD, DL.tTestD, DL.tNextD, DL.tDropD, DL.tAndD, DL.tOrD, DL.tNotD, DL.tAndV, DL.tOrV, DL.tNotV, DL.tIfD, DL.tNegD, DL.tTupD, DL.tLstD, DL.tSetD, DL.tMD, DL.tSlD, DL.tPartD, DL.tNoD, DL.tRevD, DL.tForD, DL.tLcD, DL.tIterD, DL.tRng1D, DL.tRng2D, DL.tYesD, DL.wipeD, DL.tDictD, DL.tDictOne, DL.tFldD, DL.tMethD, DL.tMakeD, DL.tSetF, DL.tThaw, DL.thaw, DL.tLRg, DL.tChainD, DL.tDispD, DL.tPairsD, DL.tEnumD, DL.tZipD, DL.tCallLD, DL.tSortSet, DL.tRng3D, DL.keyOf, DL.emE_rr, DL.tLess, DL.tLessS, DL.itOk, DL.rAdd_ii, DL.rAdd_ss, DL.rAdd_tt, DL.rAdd_rr, DL.rSub_ii, DL.rMod_ii, DL.rDiv_ii, DL.rPow_ii, DL.rMul_ii, DL.rMul_ri, DL.rLt_ii, DL.rLt_ss, DL.rLe_ii, DL.rGt_ii, DL.rGe_ii, DL.rEq_ii, DL.rEq_ss, DL.rEq_bb, DL.rNe_ii, DL.rNe_ss, DL.rNe_bb, DL.rEq_rr, DL.rNe_rr, DL.rEq_tt, DL.rNe_tt, DL.rIn_st, DL.rNotIn_st, DL.rIn_r, DL.rNotIn_r, DL.rIn_ss, DL.rInDO_sl, DL.rInDO_il, DL.rInDO_sd, DL.rInDO_id, DL.rIsN_n, DL.rIsN_t, DL.rIsN_i, DL.rIsN_s, DL.rIsN_r, DL.rNotN_n, DL.rNotN_t, DL.rNotN_i, DL.rNotN_s, DL.rNotN_r, DL.rIx_t, DL.rIx_r, DL.rIx_s, DL.rIxDO_l, DL.rIxDO_ds, DL.rIx0, DL.rIx1, DL.rIx2, DL.rIx3, DL.rSl_t, DL.rSl_s, DL.rSl_o, DL.rSl_r, DL.rSlDO, DL.rSet_r, DL.rSetDO_0, DL.rSetDO_s, DL.rLen_t, DL.rLen_o, DL.rLen_s, DL.rLen_r, DL.rLenDO, DL.rLenDO_d, DL.rList_t, DL.rList_o, DL.rList_r, DL.rListDO, DL.rTuple_t, DL.rTuple_r, DL.rInt_i, DL.rInt_b, DL.rMax, DL.rMin, DL.rSz0, DL.rSz1, DL.rSz2, DL.rSz3, DL.rSz4, DL.rSz5, DL.rSz6, DL.rSz7, DL.rSz8, Option.some.injEq, DL.DO.lst.injEq, exists_eq_left', exists_eq_left, DL.put_same, DL.put_put, true_and, and_true, List.map, List.replicate, List.length, List.cons_append, List.nil_append, Nat.reduceSub, Nat.reduceAdd, decide_eq_true_eq, if_true, if_false, Bool.false_eq_true, Bool.not_true, Bool.not_false])
local macro_rules | `(tactic| walk_at "dlh") => `(tactic| try simp only [*, DL.tAsgD, DL.asg, DL.tVarD, DL.lk, DL.sto, DL.stos, DL.tOpD, DL.tCD, DL.tCallD, DL.tConsD, DL.tNilD, DL.tRetD, DL.endsD, DL.startD, DL.tIfSD, DL.tTestD, DL.tNextD, DL.tDropD, DL.tAndD, DL.tOrD, DL.tNotD, DL.tAndV, DL.tOrV, DL.tNotV, DL.tIfD, DL.tNegD, DL.tTupD, DL.tLstD, DL.tSetD, DL.tMD, DL.tSlD, DL.tPartD, DL.tNoD, DL.tRevD, DL.tForD, DL.tLcD, DL.tIterD, DL.tRng1D, DL.tRng2D, DL.tYesD, DL.wipeD, DL.tDictD, DL.tDictOne, DL.tFldD, DL.tMethD, DL.tMakeD, DL.tSetF, DL.tThaw, DL.thaw, DL.tLRg, DL.tChainD, DL.tDispD, DL.tPairsD, DL.tEnumD, DL.tZipD, DL.tCallLD, DL.tSortSet, DL.tRng3D, DL.keyOf, DL.emE_rr, DL.tLess, DL.tLessS, DL.itOk, DL.rAdd_ii, DL.rAdd_ss, DL.rAdd_tt, DL.rAdd_rr, DL.rSub_ii, DL.rMod_ii, DL.rDiv_ii, DL.rPow_ii, DL.rMul_ii, DL.rMul_ri, DL.rLt_ii, DL.rLt_ss, DL.rLe_ii, DL.rGt_ii, DL.rGe_ii, DL.rEq_ii, DL.rEq_ss, DL.rEq_bb, DL.rNe_ii, DL.rNe_ss, DL.rNe_bb, DL.rEq_rr, DL.rNe_rr, DL.rEq_tt, DL.rNe_tt, DL.rIn_st, DL.rNotIn_st, DL.rIn_r, DL.rNotIn_r, DL.rIn_ss, DL.rInDO_sl, DL.rInDO_il, DL.rInDO_sd, DL.rInDO_id, DL.rIsN_n, DL.rIsN_t, DL.rIsN_i, DL.rIsN_s, DL.rIsN_r, DL.rNotN_n, DL.rNotN_t, DL.rNotN_i, DL.rNotN_s, DL.rNotN_r, DL.rIx_t, DL.rIx_r, DL.rIx_s, DL.rIxDO_l, DL.rIxDO_ds, DL.rIx0, DL.rIx1, DL.rIx2, DL.rIx3, DL.rSl_t, DL.rSl_s, DL.rSl_o, DL.rSl_r, DL.rSlDO, DL.rSet_r, DL.rSetDO_0, DL.rSetDO_s, DL.rLen_t, DL.rLen_o, DL.rLen_s, DL.rLen_r, DL.rLenDO, DL.rLenDO_d, DL.rList_t, DL.rList_o, DL.rList_r, DL.rListDO, DL.rTuple_t, DL.rTuple_r, DL.rInt_i, DL.rInt_b, DL.rMax, DL.rMin, DL.rSz0, DL.rSz1, DL.rSz2, DL.rSz3, DL.rSz4, DL.rSz5, DL.rSz6, DL.rSz7, DL.rSz8, Option.some.injEq, DL.DO.lst.injEq, exists_eq_left', exists_eq_left, DL.put_same, DL.put_put, true_and, and_true, List.map, List.replicate, List.length, List.cons_append, List.nil_append, Nat.reduceSub, Nat.reduceAdd, decide_eq_true_eq, if_true, if_false, Bool.false_eq_true, Bool.not_true, Bool.not_false])
local macro_rules | `(tactic| walk_at "go") => `(tactic| repeat (first | (refine DL.sq ?_; try walk_at "dl") | (refine DL.ifY rfl ?_; try walk_at "dl") | (refine DL.inY rfl (by decide) ?_; try walk_at "dl") | (refine DL.inN rfl (by decide) ?_; try walk_at "dl") | (refine DL.ifN (by decide) ?_; try walk_at "dl")))
abbrev s_l_two_step : Stmt := top 41
theorem sc_l_two_step : FnScope ["_law_state", "_law_level", "_law_known", "_law_names", "_law_deck_here", "_law_way", "_law_j", "_law_k", "_law_one", "_law_other", "_law_name", "_law_form_here"] ["_law_state", "_law_level", "_law_known", "_law_names"] (defScope s_l_two_step) := ⟨rfl, rfl, rfl, by decide +kernel, rfl, by decide +kernel, by decide +kernel⟩
theorem Fx.fit.sk {x : Fx} (f : x.fit) {F : Fo} (h : x.fo F) : F.ok SOk SOk SOk := h.imp (fun _ z => z.sok) (fun s z => (f.kk s z).sok) fun s z => (f.dd s z).sok
theorem Fx.fit.pl {x : Fx} (f : x.fit) {F : Fo} (h : x.fo F) (hh : F.ht ≤ 10) : Pl 13 (.tup (.str F.hd :: F.tl)) := F.d_eq ▸ (Fo.pl (f.sk h)).le (by omega)
section
variable {x : Fx} {F : Fo} {S : Store} {Q : KD}
theorem callDeep (f : x.fit) (h : x.fo F) (hh : F.ht ≤ 10) (q : ∀ (m : Int) (S' : Store), DL.Sub S S' → (F.ht : Int) ≤ m → Q (.int m) S') : spDeep 13 [F.d] S Q := by
  have e := F.dp
  rw [F.d_eq] at e ⊢
  exact ⟨_, rfl, f.pl h hh, fun m S' b hm => q m S' b (by omega)⟩
theorem lvT (f : x.fit) (h : x.fo F) (hh : F.ht ≤ 10) : lvDs (.str F.hd :: F.tl) ≤ 90000 := by
  have e := Fo.lv10 h (by omega)
  rw [F.d_eq] at e
  simp only [lvD] at e
  omega
theorem callTexts (f : x.fit) (h : x.fo F) (hh : F.ht ≤ 10) (q : ∀ (a : Addr) (S' : Store) (ws : List D), DL.Sub S S' → S' a = some (.lst ws) → Q (.ref a) S') : spTexts 13 [F.d] S Q := by
  rw [F.d_eq]
  exact ⟨_, rfl, f.pl h hh, lvT f h hh, fun a S' b _ e => q a S' _ b e⟩
def letF (F : Fo) : Str := letD (.str F.hd :: F.tl)
theorem letF_is (F : Fo) : letF F = "" ∨ TT (letF F) := by
  rcases letD_is (.str F.hd :: F.tl) with h | ⟨ch, h, e⟩
  · exact .inl h
  · exact .inr (.inr ⟨ch, h, e⟩)
theorem callLetter (f : x.fit) (h : x.fo F) (hh : F.ht ≤ 10) (q : ∀ S', DL.Sub S S' → Q (.str (letF F)) S') : spLetter 13 [F.d] S Q := by
  rw [F.d_eq]
  exact ⟨_, rfl, f.pl h hh, lvT f h hh, q⟩
theorem callSwap (f : x.fit) (h : x.fo F) (hh : F.ht ≤ 10) {o w : Str} (ho : TT o) (hw : TT w) (q : ∀ S', DL.Sub S S' → Q (F.sw o w).d S') : spSwap 13 [F.d, .str o, .str w] S Q := by
  have e : swD o w F.d = (F.sw o w).d := Fo.swD ho.nh (fun k hk => ho.nk (f.kk k hk)) (fun k hk => ho.nk (f.dd k hk)) h
  rw [F.d_eq] at e ⊢
  exact ⟨_, o, w, rfl, f.pl h hh, by omega, ho.sok, hw.sok, fun S' b => e ▸ q S' b⟩
theorem callPut (f : x.fit) (h : x.fo F) (hh : F.ht ≤ 10) {o w : Str} (ho : TT o) (hw : TT w) (q : ∀ S', DL.Sub S S' → Q (F.pt o w).d S') : spPut 10 [F.d, .str o, .str w] S Q :=
  ⟨(· ∈ x.ks), (· ∈ x.dos), F, o, w, rfl, h.imp (fun _ z => z.sok) (fun _ z => z) fun _ z => z, fun k hk => ⟨(f.kk k hk).sok, ho.nk (f.kk k hk)⟩, fun k hk => ⟨(f.dd k hk).sok, ho.nk (f.dd k hk)⟩, hh, by omega, ho.sok, hw.sok, ho.nh, q⟩
theorem ixKn {a : Addr} {kn : List Nat} {r : Int} (h : S a = some (.lst (kn.map inD))) (h0 : 0 ≤ r) (h1 : r < kn.length) (q : ∀ k ∈ kn, Q (.int (k : Nat)) S) : ixDO (S a) (.int r) S Q :=
  ixL_mem h h0 (by rw [List.length_map]; exact h1) fun d hd => by
    obtain ⟨k, hk, rfl⟩ := List.mem_map.mp hd
    exact q k hk
theorem neNames {nm : List Str} (hn : ∀ s ∈ nm, nmS s) (q : Q (.bl (!nm.isEmpty)) S) : eqAny not (.tup (nm.map D.str)) (.tup []) S Q := embT not (fun s hs => (hn s hs).sok) q
end
def spStep : SpD := fun ds S Q => ∃ (x : Fx) (L : List Ln) (X : List Str) (a : Addr) (kn : List Nat) (lv : Nat) (nm : List Str), ds = [.ref x.q, .int (lv : Nat), .ref a, .tup (nm.map D.str)] ∧ St x S L X ∧ a ∉ x.as ∧ Kn S a kn L ∧ L.length ≤ 200 ∧ nm.length ≤ 60 ∧ (∀ s ∈ nm, nmS s) ∧
  ∀ (n : Ln) (S' : Store), Go x S S' (L ++ [n]) X → n.lv = lv → n.r.plain L.length → Q (.int ((L.length + 1 : Nat) : Int)) S'
theorem ht_bin {w : J3} {F G : Fo} : (Fo.bin w F G).ht = max F.ht G.ht + 1 := rfl
section
variable {P : Program} {w : World} {K : PySem.W.Frag} {mg : Str → Option Value} {base : Heap}
theorem df_two {k : Nat} (T : Bt mg) (A : At K mg "_law_two_step" "_law_two_step" s_l_two_step) (G_l_next : Df P w K mg base "_law_next" k spNext) (G_l_at : Df P w K mg base "_law_at" k spAt) (G_l_add : Df P w K mg base "_law_add" k spAdd)
    (G_l_deep : Df P w K mg base "_law_deep" k (spDeep 13)) (G_l_texts : Df P w K mg base "_law_texts" k (spTexts 13)) (G_l_letter : Df P w K mg base "_law_letter" k (spLetter 13)) (G_l_swap : Df P w K mg base "_law_swap" k (spSwap 13))
    (G_l_any_form : Df P w K mg base "_law_any_form" k spAny) : Df P w K mg base "_law_two_step" (k + 1) spStep := by
  have nd := sc_l_two_step.nd
  refine df_mk A rfl sc_l_two_step (fun _ _ _ _ _ _ us hl => match us, hl with | [_, _, _, _], _ => rfl) (fun ds S Q h => ?_) (fun f cdv A outer s H E hr ds S Q h => ?_)
  · obtain ⟨x, L, X, a, kn, lv, nm, rfl, _⟩ := h
    rfl
  obtain ⟨x, L, X, a, kn, lv, nm, rfl, hs, ha, ⟨hk, hne, hkl, hkn⟩, hL, hnl, hnm, h⟩ := h
  have hu := hu_of hr
  have hkp : 0 < kn.length := List.length_pos_iff.mpr hne
  have fit := hs.fit
  have fin : ∀ {S1 : Store} {F : Fo} {r : Rs}, Go x S S1 L X → x.fo F → F.ht ≤ 10 → r.plain L.length → spAdd [.ref x.q, .int (lv : Nat), F.d, r.d] S1 fun d S' => ∃ S'', DL.Sub S'' S' ∧ Q d S'' := fun {S1 F r} g hF hh hp =>
    ⟨x, L, X, lv, F, r, rfl, g.2, hL, hF, hh, fun S2 g2 => ⟨S2, Sub.refl, h ⟨lv, F, r⟩ S2 (g.trans g2) rfl hp⟩⟩
  refine ⟨_, (dss_cons (ds_set (i := 4) nd rfl (Or.inl rfl) (de_ix hu (dv 0) de_str))
    (dss_cons (ds_set (i := 5) nd rfl (Or.inl rfl) (de_call G_l_next hr rfl (da_cons (dv 4) (da_cons de_int da_nil))))
    (dss_cons (ds_set (i := 6) nd rfl (Or.inl rfl) (de_ix hu (dv 2) (de_call G_l_next hr rfl (da_cons (dv 4) (da_cons (de_callB cd_len rfl T.len_ (by decide +kernel) (da_cons (dv 2) da_nil)) da_nil)))))
    (dss_cons (ds_set (i := 7) nd rfl (Or.inl rfl) (de_ix hu (dv 2) (de_call G_l_next hr rfl (da_cons (dv 4) (da_cons (de_callB cd_len rfl T.len_ (by decide +kernel) (da_cons (dv 2) da_nil)) da_nil)))))
    (dss_cons (ds_set (i := 8) nd rfl (Or.inl rfl) (de_call G_l_at hr rfl (da_cons (dv 0) (da_cons (dv 6) da_nil))))
    (dss_cons (ds_set (i := 9) nd rfl (Or.inl rfl) (de_call G_l_at hr rfl (da_cons (dv 0) (da_cons (dv 7) da_nil))))
    (dss_cons (ds_if (dt_w (dw_and (dt_cmp (od_eq hr.units) (dv 5) de_int (nomark _)) (dw_and1 (dt_cmp (od_ne hr.units) (dv 3) (de_tup da_nil) (nomark _))))) (dss_cons (ds_set (i := 10) nd rfl (Or.inl rfl) (de_ix hu (dv 3) (de_call G_l_next hr rfl (da_cons (dv 4) (da_cons (de_callB cd_len rfl T.len_ (by decide +kernel) (da_cons (dv 3) da_nil)) da_nil)))))
    (dss_one (ds_ret (de_call G_l_add hr rfl (da_cons (dv 0) (da_cons (dv 1) (da_cons (de_tup (da_cons de_str (da_cons (dv 10) (da_cons (dv 10) da_nil)))) (da_cons (de_tup (da_cons de_str da_nil)) da_nil)))))))) dss_nil)
    (dss_cons (ds_if (dt_cmp od_gt (de_call G_l_deep hr rfl (da_cons (dv 8) da_nil)) de_int (nomark _)) (dss_one (ds_ret (de_call G_l_add hr rfl (da_cons (dv 0) (da_cons (dv 1) (da_cons (dv 8) (da_cons (de_tup (da_cons de_str (da_cons (dv 6) da_nil))) da_nil))))))) dss_nil)
    (dss_cons (ds_if (dt_cmp (od_eq hr.units) (dv 5) de_int (nomark _)) (dss_one (ds_ret (de_call G_l_add hr rfl (da_cons (dv 0) (da_cons (dv 1) (da_cons (de_tup (da_cons de_str (da_cons (dv 8) (da_cons (de_call G_l_any_form hr rfl (da_cons (dv 0) (da_cons (dv 3) da_nil))) da_nil)))) (da_cons (de_tup (da_cons de_str (da_cons (dv 6) da_nil))) da_nil))))))) dss_nil)
    (dss_cons (ds_if (dt_cmp (od_eq hr.units) (dv 5) de_int (nomark _)) (dss_one (ds_ret (de_call G_l_add hr rfl (da_cons (dv 0) (da_cons (dv 1) (da_cons (de_tup (da_cons de_str (da_cons (de_call G_l_any_form hr rfl (da_cons (dv 0) (da_cons (dv 3) da_nil))) (da_cons (dv 8) da_nil)))) (da_cons (de_tup (da_cons de_str (da_cons (dv 6) da_nil))) da_nil))))))) dss_nil)
    (dss_cons (ds_if (dt_w (dw_and (dt_cmp (od_eq hr.units) (dv 5) de_int (nomark _)) (dw_and (dt_cmp (od_ne hr.units) (dv 3) (de_tup da_nil) (nomark _)) (dw_and1 (dt_cmp (od_ne hr.units) (de_call G_l_letter hr rfl (da_cons (dv 8) da_nil)) de_str (nomark _)))))) (dss_cons (ds_set (i := 10) nd rfl (Or.inl rfl) (de_ix hu (dv 3) (de_call G_l_next hr rfl (da_cons (dv 4) (da_cons (de_callB cd_len rfl T.len_ (by decide +kernel) (da_cons (dv 3) da_nil)) da_nil)))))
    (dss_cons (ds_set (i := 11) nd rfl (Or.inl rfl) (de_tup (da_cons de_str (da_cons (de_call G_l_letter hr rfl (da_cons (dv 8) da_nil)) (da_cons (de_call G_l_swap hr rfl (da_cons (dv 8) (da_cons (dv 10) (da_cons (de_call G_l_letter hr rfl (da_cons (dv 8) da_nil)) da_nil)))) da_nil)))))
    (dss_one (ds_ret (de_call G_l_add hr rfl (da_cons (dv 0) (da_cons (dv 1) (da_cons (dv 11) (da_cons (de_tup (da_cons de_str (da_cons (dv 6) (da_cons (dv 10) da_nil)))) da_nil))))))))) dss_nil)
    (dss_cons (ds_if (dt_cmp (od_eq hr.units) (dv 5) de_int (nomark _)) (dss_one (ds_ret (de_call G_l_add hr rfl (da_cons (dv 0) (da_cons (dv 1) (da_cons (dv 8) (da_cons (de_tup (da_cons de_str (da_cons (dv 6) da_nil))) da_nil))))))) dss_nil)
    (dss_cons (ds_if (dt_w (dw_or (dt_cmp od_gt (de_op od_add (de_callB cd_len rfl T.len_ (by decide +kernel) (da_cons (de_call G_l_texts hr rfl (da_cons (dv 8) da_nil)) da_nil)) (de_callB cd_len rfl T.len_ (by decide +kernel) (da_cons (de_call G_l_texts hr rfl (da_cons (dv 9) da_nil)) da_nil))) de_int (nomark _)) (dw_or1 (dt_cmp od_gt (de_call G_l_deep hr rfl (da_cons (dv 9) da_nil)) de_int (nomark _))))) (dss_one (ds_ret (de_call G_l_add hr rfl (da_cons (dv 0) (da_cons (dv 1) (da_cons (dv 8) (da_cons (de_tup (da_cons de_str (da_cons (dv 6) da_nil))) da_nil))))))) dss_nil)
    (dss_one (ds_ret (de_call G_l_add hr rfl (da_cons (dv 0) (da_cons (dv 1) (da_cons (de_tup (da_cons de_str (da_cons (dv 8) (da_cons (dv 9) da_nil)))) (da_cons (de_tup (da_cons de_str (da_cons (dv 6) (da_cons (dv 7) da_nil)))) da_nil)))))))))))))))))))), ?_⟩
  refine sq ?_
  walk_at "dl"
  refine ixDk hs.q_ sv1 ?_
  refine sq ?_
  walk_at "dl"
  refine ⟨x.p, x.c, _, rfl, hs.d_, by decide, by decide, fun way S1 w0 w1 c1 => ?_⟩
  have g1 := hs.deck c1
  have hk1 := g1.keep ha hk
  refine sq ?_
  walk_at "dl"
  refine lenL hk1 ?_
  rw [List.length_map]
  refine ⟨x.p, x.c, _, rfl, g1.2.d_, by omega, by omega, fun r S2 r0 r1 c2 => ?_⟩
  have g2 := g1.deck c2
  have hk2 := g2.keep ha hk
  walk_at "dl"
  refine ixKn hk2 r0 r1 fun j mj => ?_
  refine sq ?_
  walk_at "dl"
  refine lenL hk2 ?_
  rw [List.length_map]
  refine ⟨x.p, x.c, _, rfl, g2.2.d_, by omega, by omega, fun r2 S3 r20 r21 c3 => ?_⟩
  have g3 := g2.deck c3
  have hk3 := g3.keep ha hk
  walk_at "dl"
  refine ixKn hk3 r20 r21 fun k2 mk2 => ?_
  have hj := hkn j mj
  have hk2' := hkn k2 mk2
  refine sq ?_
  walk_at "dl"
  refine ⟨x, L, X, j, L[j - 1], rfl, g3.2, hj.1, List.getElem?_eq_getElem (by omega), ?_⟩
  have ok1 := hs.ok L[j - 1] (List.getElem_mem _)
  generalize L[j - 1].f = F1 at ok1
  refine sq ?_
  walk_at "dl"
  refine ⟨x, L, X, k2, L[k2 - 1], rfl, g3.2, hk2'.1, List.getElem?_eq_getElem (by omega), ?_⟩
  have ok2 := hs.ok L[k2 - 1] (List.getElem_mem _)
  generalize L[k2 - 1].f = F2 at ok2
  have p1 : ∀ wd ∈ W1, (Rs.w1 wd j).plain L.length := fun wd hw => ⟨hw, rfl, rfl, fun k hk => by
    cases List.mem_singleton.mp hk
    exact hj⟩
  have again : ∀ {S1 : Store}, Go x S S1 L X → spAdd [.ref x.q, .int (lv : Nat), F1.d, .tup [.str "again", .int (j : Nat)]] S1 fun d S' => ∃ S'', DL.Sub S'' S' ∧ Q d S'' := fun g =>
    fin (r := .w1 "again" j) g ok1.1 ok1.2 (p1 _ (by simp [W1]))
  refine seq_if (fun S4 => S4 = S3 ∧ 0 < nm.length) (fun S4 => S4 = S3) (fun N N1 N2 => ?_) ?_ ?_
  · walk_at "dl"
    refine ite2 (fun e1 => ?_) (fun e1 => ?_)
    · refine neNames hnm ?_
      walk_at "dl"
      cases nm with
      | nil => exact N2 _ rfl
      | cons z zs => exact N1 _ ⟨rfl, by simp⟩
    · exact N2 _ rfl
  · rintro S4 ⟨rfl, hn0⟩
    walk_at "dl"
    refine sq ?_
    walk_at "dl"
    rw [List.length_map]
    refine ⟨x.p, x.c, _, rfl, g3.2.d_, by omega, by omega, fun r3 S5 r30 r31 c5 => ?_⟩
    walk_at "dl"
    refine ixStrs_mem r30 r31 fun nn mn => ?_
    have tn : TT nn := .inl (hnm nn mn)
    exact fin (r := .w0 "itself") (F := .same nn nn) (g3.deck c5) ⟨tn, tn⟩ (by simp [Fo.ht]) ⟨by simp [Rs.ok, W0], by simp [Rs.opens]; decide, rfl, fun k hk => by cases hk⟩
  rintro S4 rfl
  walk_at "dl"
  refine sq ?_
  walk_at "dl"
  refine callDeep fit ok1.1 ok1.2 fun m S5 b5 hm => ?_
  have g5 := g3.sub b5
  walk_at "dl"
  refine ite2 (fun e1 => ?_) (fun e1 => ?_)
  · walk_at "dl"
    exact again g5
  have h8 : F1.ht ≤ 8 := by simp at e1; omega
  refine sq ?_
  walk_at "dl"
  refine ite2 (fun e2 => ?_) (fun e2 => ?_)
  · walk_at "dl"
    refine ⟨x, L, X, nm, rfl, g5.2, hnl, hnm, fun G S6 g6 okG hG => ?_⟩
    walk_at "dl"
    exact fin (r := .w1 "orleft" j) (F := .bin .or F1 G) (g5.trans g6) ⟨ok1.1, okG⟩ (by rw [ht_bin]; omega) (p1 _ (by simp [W1]))
  refine sq ?_
  walk_at "dl"
  refine ite2 (fun e3 => ?_) (fun e3 => ?_)
  · walk_at "dl"
    refine ⟨x, L, X, nm, rfl, g5.2, hnl, hnm, fun G S6 g6 okG hG => ?_⟩
    walk_at "dl"
    exact fin (r := .w1 "orright" j) (F := .bin .or G F1) (g5.trans g6) ⟨okG, ok1.1⟩ (by rw [ht_bin]; omega) (p1 _ (by simp [W1]))
  walk_at "dl"
  refine seq_if (fun S6 => Go x S S6 L X ∧ 0 < nm.length ∧ letF F1 ≠ "") (fun S6 => Go x S S6 L X) (fun N N1 N2 => ?_) ?_ ?_
  · walk_at "dl"
    refine ite2 (fun e4 => ?_) (fun e4 => ?_)
    · refine neNames hnm ?_
      walk_at "dl"
      cases nm with
      | nil => exact N2 _ g5
      | cons z zs =>
        refine ifY (by simp) ?_
        refine callLetter fit ok1.1 ok1.2 fun S6 b6 => ?_
        walk_at "dl"
        by_cases e : letF F1 = ""
        · rw [decide_eq_true e]; exact N2 _ (g5.sub b6)
        · rw [decide_eq_false e]; exact N1 _ ⟨g5.sub b6, by simp, e⟩
    · exact N2 _ g5
  · rintro S6 ⟨g6, hn0, hlet⟩
    have tl : TT (letF F1) := (letF_is F1).resolve_left hlet
    walk_at "dl"
    refine sq ?_
    walk_at "dl"
    rw [List.length_map]
    refine ⟨x.p, x.c, _, rfl, g6.2.d_, by omega, by omega, fun r3 S7 r30 r31 c7 => ?_⟩
    have g7 := g6.deck c7
    walk_at "dl"
    refine ixStrs_mem r30 r31 fun nn mn => ?_
    have tn : TT nn := .inl (hnm nn mn)
    refine sq ?_
    walk_at "dl"
    refine callLetter fit ok1.1 ok1.2 fun S8 b8 => ?_
    have g8 := g7.sub b8
    refine callLetter fit ok1.1 ok1.2 fun S9 b9 => ?_
    have g9 := g8.sub b9
    refine callSwap fit ok1.1 ok1.2 tn tl fun S10 b10 => ?_
    have g10 := g9.sub b10
    walk_at "dl"
    exact fin (r := .wn "such" j nn) (F := .qu .some (letF F1) (F1.sw nn (letF F1))) g10 ⟨tl, Fo.sw_ok tl ok1.1⟩ (by simp only [Fo.ht, Fo.sw_ht]; omega) ⟨by simp [Rs.ok, WN], rfl, rfl, fun k hk => by
      cases List.mem_singleton.mp hk
      exact hj⟩
  rintro S6 g6
  walk_at "dl"
  refine sq ?_
  walk_at "dl"
  refine ite2 (fun e5 => ?_) (fun e5 => ?_)
  · walk_at "dl"
    exact again g6
  walk_at "dl"
  refine seq_if (fun S6 => Go x S S6 L X) (fun S6 => Go x S S6 L X ∧ F2.ht ≤ 8) (fun N N1 N2 => ?_) ?_ ?_
  · walk_at "dl"
    refine callTexts fit ok1.1 ok1.2 fun a7 S7 ws b7 k7 => ?_
    have g7 := g6.sub b7
    rw [rLen_r]
    refine lenL k7 ?_
    refine callTexts fit ok2.1 ok2.2 fun a8 S8 ws2 b8 k8 => ?_
    have g8 := g7.sub b8
    rw [rLen_r]
    refine lenL k8 ?_
    walk_at "dl"
    refine ite2 (fun e6 => ?_) (fun e6 => ?_)
    · exact N1 _ g8
    · refine callDeep fit ok2.1 ok2.2 fun m S9 b9 hm => ?_
      have g9 := g8.sub b9
      walk_at "dl"
      by_cases e : (8 : Int) < m
      · rw [decide_eq_true e]; exact N1 _ g9
      · rw [decide_eq_false e]; exact N2 _ ⟨g9, by omega⟩
  · rintro S7 g7
    walk_at "dl"
    exact again g7
  rintro S7 ⟨g7, h28⟩
  walk_at "dl"
  exact fin (r := .w2 "both" j k2) (F := .bin .and F1 F2) g7 ⟨ok1.1, ok2.1⟩ (by rw [ht_bin]; omega) ⟨by simp [Rs.ok, W2], rfl, rfl, fun k hk => by
    simp only [Rs.nums, List.mem_cons, List.not_mem_nil, or_false] at hk
    rcases hk with rfl | rfl
    · exact hj
    · exact hk2'⟩
end
/-- a dict of texts and whole numbers -/
def KI (ks : List Str) (kvs : List (Key × D)) : Prop := ∃ kk : List Str, kvs.map (·.1) = kk.map Sum.inr ∧ kk.Nodup ∧ (∀ k ∈ kk, k ∈ ks) ∧ ∀ e ∈ kvs, ∃ v : Int, e.2 = .int v
theorem KI.nil {ks : List Str} : KI ks [] := ⟨[], rfl, List.nodup_nil, (fun k hk => by cases hk), fun e he => by cases he⟩
theorem KI.len {ks : List Str} {kvs : List (Key × D)} (h : KI ks kvs) : kvs.length ≤ ks.length := by
  obtain ⟨kk, e, hn, hs, _⟩ := h
  have := pigeon kk ks hn hs
  have := congrArg List.length e
  simp at this
  omega
theorem KI.put {ks : List Str} {kvs : List (Key × D)} {k : Str} {v : Int} (h : KI ks kvs) (hk : k ∈ ks) : KI ks (dput kvs (.inr k) (.int v)) := by
  obtain ⟨kk, e, hn, hs, hv⟩ := h
  unfold dput
  by_cases ha : (kvs.any fun kv => decide (kv.1 = .inr k)) = true
  · rw [if_pos ha]
    refine ⟨kk, ?_, hn, hs, fun x hx => ?_⟩
    · rw [← e, List.map_map]
      refine List.map_congr_left fun kv _ => ?_
      show (if kv.1 = _ then _ else _ : Key × D).1 = kv.1
      split <;> rfl
    · obtain ⟨y, hy, rfl⟩ := List.mem_map.mp hx
      show ∃ w : Int, (if y.1 = _ then _ else _ : Key × D).2 = _
      split
      · exact ⟨v, rfl⟩
      · exact hv y hy
  · rw [if_neg ha]
    refine ⟨kk ++ [k], by rw [List.map_append, List.map_append, e]; rfl, ?_, fun x hx => ?_, fun x hx => ?_⟩
    · rw [List.nodup_append]
      refine ⟨hn, by simp, fun u hu w hw eq => ?_⟩
      cases List.mem_singleton.mp hw
      subst eq
      apply ha
      rw [List.any_eq_true]
      have : Sum.inr u ∈ kvs.map (·.1) := by rw [e]; exact List.mem_map_of_mem hu
      obtain ⟨y, hy, ey⟩ := List.mem_map.mp this
      exact ⟨y, hy, by simpa using ey⟩
    · rcases List.mem_append.mp hx with z | z
      · exact hs x z
      · cases List.mem_singleton.mp z; exact hk
    · rcases List.mem_append.mp hx with z | z
      · exact hv x z
      · cases List.mem_singleton.mp z; exact ⟨v, rfl⟩
theorem KI.getD {ks : List Str} {kvs : List (Key × D)} {k : Str} (h : KI ks kvs) : ∃ v : Int, (dval kvs (.inr k)).getD (.int 0) = .int v := by
  obtain ⟨kk, e, hn, hs, hv⟩ := h
  unfold dval
  cases e1 : kvs.find? fun kv => decide (kv.1 = .inr k) with
  | none => exact ⟨0, rfl⟩
  | some y => 
    obtain ⟨v, ev⟩ := hv y (List.mem_of_find?_eq_some e1)
    exact ⟨v, ev⟩
theorem KI.val {ks : List Str} {kvs : List (Key × D)} {k : Str} {kk : List Str} (h : KI ks kvs) (e : kvs.map (·.1) = kk.map Sum.inr) (hk : k ∈ kk) : ∃ v : Int, dval kvs (.inr k) = some (.int v) := by
  obtain ⟨_, _, _, _, hv⟩ := h
  unfold dval
  have : Sum.inr k ∈ kvs.map (·.1) := by rw [e]; exact List.mem_map_of_mem hk
  obtain ⟨y, hy, ey⟩ := List.mem_map.mp this
  cases e1 : kvs.find? fun kv => decide (kv.1 = .inr k) with
  | none =>
    have := List.find?_eq_none.mp e1 y hy
    simp at this
    exact absurd ey this
  | some z => 
    obtain ⟨v, ev⟩ := hv z (List.mem_of_find?_eq_some e1)
    exact ⟨v, by simp [ev]⟩
def rowD (r : Int × Su) : D := .tup [.int r.1, r.2.d]
def spSummed : SpD := fun ds S Q => ∃ (a : Addr) (rows : List (Int × Su)) (ks : List Str), ds = [.ref a] ∧ S a = some (.lst (rows.map rowD)) ∧ rows.length ≤ 6 ∧ ks.length ≤ 6 ∧ (∀ r ∈ rows, 0 ≤ r.1 ∧ r.1 ≤ 2 ∧ r.2.ok (· ∈ ks)) ∧ ∀ (s : Su) (S' : Store), DL.Sub S S' → s.ok (· ∈ ks) → Q s.d S'
section
variable {P : Program} {w : World} {K : PySem.W.Frag} {mg : Str → Option Value} {base : Heap}
abbrev s_l_summed : Stmt := top 39
theorem sc_l_summed : FnScope ["_law_rows", "_law_number", "_law_found", "_law_times", "_law_total_here", "_law_kind", "_law_often"] ["_law_rows"] (defScope s_l_summed) := ⟨rfl, rfl, rfl, by decide +kernel, rfl, by decide +kernel, by decide +kernel⟩
theorem df_summed {k : Nat} (T : Bt mg) (A : At K mg "_law_summed" "_law_summed" s_l_summed) : Df P w K mg base "_law_summed" (k + 1) spSummed := by
  have nd := sc_l_summed.nd
  refine df_mk A rfl sc_l_summed (fun _ _ _ _ _ _ us hl => match us, hl with | [_], _ => rfl) (fun ds S Q h => ?_) (fun f cdv A outer s H E hr ds S Q h => ?_)
  · obtain ⟨a, rows, ks, rfl, _⟩ := h
    rfl
  obtain ⟨a, rows, ks, rfl, hk, hrl, hkl, hrs, h⟩ := h
  have hu := hu_of hr
  refine ⟨_, (dss_cons (ds_set (i := 1) nd rfl (Or.inl rfl) de_int)
    (dss_cons (ds_set (i := 2) nd rfl (Or.inr rfl) de_dict)
    (dss_cons (ds_for PassesOwn.never rfl (di_any (dv 0)) (dg_tup rfl (dgs_cons (dg_name (i := 3) nd rfl (Or.inl rfl)) (dgs_cons (dg_name (i := 4) nd rfl (Or.inl rfl)) dgs_nil))) (dss_cons (ds_set (i := 1) nd rfl (Or.inl rfl) (de_op od_add (dv 1) (de_op od_mul (dv 3) (de_ix hu (dv 4) de_int))))
    (dss_one (ds_for PassesOwn.never rfl (di_any (de_ix hu (dv 4) de_int)) (dg_tup rfl (dgs_cons (dg_name (i := 5) nd rfl (Or.inl rfl)) (dgs_cons (dg_name (i := 6) nd rfl (Or.inl rfl)) dgs_nil))) (dss_one (ds_setitem hu (dv 2) (dv 5) (de_op od_add (de_m PySem.F.plainAttrs_dict PySem.F.slot_dict_get PySem.F.type_dict_get (md_get hu) (dv 2) (da_cons (dv 5) (da_cons de_int da_nil))) (de_op od_mul (dv 3) (dv 6)))))))))
    (dss_one (ds_ret (de_tup (da_cons (de_callTy cd_tuple rfl T.tuple_ (by decide +kernel) (da_cons (de_lc (own := [("_law_kind", 5)]) (g := GD.one 5) rfl nd (di_any (de_callB (cd_sortedD rfl) rfl T.sorted_ (by decide +kernel) (da_cons (dv 2) da_nil))) (blkOk_by (own := [("_law_kind", 5)]) (N := ["_law_rows", "_law_number", "_law_found", "_law_times", "_law_total_here", "_law_kind", "_law_often"]) (sc := defScope s_l_summed) (by decide +kernel)) (fun _ _ _ _ _ => (dg_name (i := 5) nd rfl (Or.inl rfl))) (fun _ _ _ _ _ => (dts_one (dt_cmp od_gt (de_ix hu (dv 2) (dv 5)) de_int (nomark _)))) (fun _ _ _ _ _ => (de_tup (da_cons (dv 5) (da_cons (de_ix hu (dv 2) (dv 5)) da_nil))))) da_nil)) (da_cons (dv 1) da_nil)))))))), ?_⟩
  refine sq ?_
  walk_at "dl"
  refine sq ?_
  walk_at "dl"
  intro q nq
  have sb : DL.Sub S (put S q (.dk [])) := Sub.new nq
  have hq : put S q (.dk []) q = some (.dk []) := put_same
  generalize put S q (.dk []) = S0 at sb hq
  refine sq ?_
  walk_at "dl"
  refine ⟨⟨_, sb _ _ hk⟩, ?_⟩
  refine forB_seq (rows.map rowD) (fun i δ S' => ∃ (num : Int) (kvs : List (Key × D)) (o3 o4 o5 o6 : Option D), δ = [some (.ref a), some (.int num), some (.ref q), o3, o4, o5, o6] ∧ DL.Sub S S' ∧ S' q = some (.dk kvs) ∧ KI ks kvs) ⟨0, [], none, none, none, none, rfl, sb, hq, KI.nil⟩ (fun i δ S' _ ⟨_, _, _, _, _, _, _, b, _⟩ => listJ (b _ _ hk)) ?_ ?_
  · rintro i d δ S1 hi ⟨num, kvs, o3, o4, o5, o6, rfl, s1, hq1, hki⟩
    obtain ⟨⟨t, s⟩, mr, rfl⟩ := List.mem_map.mp (List.mem_of_getElem? hi)
    obtain ⟨t0, t2, oks⟩ := hrs _ mr
    refine ⟨rfl, ?_⟩
    walk_at "dl"
    refine sq ?_
    walk_at "dl"
    refine ⟨.int s.num, rfl, ?_⟩
    walk_at "dl"
    refine ⟨.inl ⟨by omega, by omega⟩, ?_⟩
    refine ⟨.tup (s.parts.map paD), rfl, ?_⟩
    refine ⟨trivial, ?_⟩
    refine forB_seq (s.parts.map paD) (fun i δ S' => ∃ (kvs : List (Key × D)) (o5 o6 : Option D), δ = [some (.ref a), some (.int (num + t * s.num)), some (.ref q), some (.int t), some s.d, o5, o6] ∧ DL.Sub S S' ∧ S' q = some (.dk kvs) ∧ KI ks kvs) ⟨kvs, o5, o6, rfl, s1, hq1, hki⟩ (fun i δ S' _ _ => rfl) ?_ ?_
    · rintro i2 d2 δ2 S2 hi2 ⟨kvs, o5, o6, rfl, s2, hq2, hki⟩
      obtain ⟨⟨kk, oft⟩, mp, rfl⟩ := List.mem_map.mp (List.mem_of_getElem? hi2)
      have mk := oks.1 _ mp
      refine ⟨rfl, ?_⟩
      walk_at "dl"
      refine ⟨ty_dict hq2, ?_⟩
      obtain ⟨v, ev⟩ := hki.getD (k := kk)
      refine ⟨kvs, .inr kk, hq2, rfl, ?_⟩
      rw [ev]
      walk_at "dl"
      refine ⟨.inl ⟨by omega, by omega⟩, ?_⟩
      have := hki.len
      refine setDk hq2 (by omega) ?_
      exact ⟨_, _, _, rfl, s2.at nq, put_same, hki.put mk⟩
    · rintro δ2 S2 ⟨kvs, o5, o6, rfl, s2, hq2, hki⟩
      exact ⟨_, kvs, _, _, _, _, rfl, s2, hq2, hki⟩
  · rintro δ S1 ⟨num, kvs, o3, o4, o5, o6, rfl, s1, hq1, hki⟩
    have hki' := hki
    obtain ⟨kk, e1, hn, hs, hv⟩ := hki'
    have hlen := hki.len
    walk_at "dl"
    refine ⟨kvs, hq1, by omega, .inl ⟨kk, e1, fun ys p perm srt np => ?_⟩⟩
    walk_at "dl"
    generalize hS : put S1 p _ = S2
    have s2 := s1.gen hS np
    have kp := gen_at hS
    have hq2 := gen_kp hS np hq1
    refine ⟨⟨_, rfl⟩, ?_⟩
    intro e ne
    have ne' := s2.none' ne
    have hyl : ys.length ≤ 6 := by
      rw [perm.length_eq]
      have := congrArg List.length e1
      simp at this
      omega
    refine lcB_inv ys D.str paD (fun k ps => ∀ z ∈ ps, z.1 ∈ ks) (fun S' => ∃ o, S' e = some o ∧ ∀ b u, b ≠ e → S2 b = some u → S' b = some u) (by omega) (fun S' ds ⟨o, h1, h2⟩ => ⟨_, put_same, fun b u nb eb => (put_ne nb).trans (h2 b u nb eb)⟩) ⟨_, put_same, fun b u nb eb => (put_ne nb).trans eb⟩ (fun k S' ⟨_, _, h2⟩ => listJ (h2 _ _ (ne_new kp ne) kp)) (fun z hz => by cases hz) (fun i y ps S3 Y N hi hps ⟨o, _, h2⟩ he yy nn => ?_) (fun ps S3 ⟨o, _, h2⟩ he hps hpl => ?_)
    · have my : y ∈ kk := perm.mem_iff.mp (List.mem_of_getElem? hi)
      have hq3 := h2 _ _ (ne_new hq2 ne) hq2
      obtain ⟨v, ev⟩ := hki.val e1 my
      show tTestD _ _ _ _
      walk_at "dl"
      refine ixDk hq3 ev ?_
      walk_at "dl"
      split
      · refine ixDk hq3 ev ?_
        exact yy (y, v) S3 ⟨_, he, h2⟩ he fun z hz => by
          rcases List.mem_append.mp hz with hz | hz
          · exact hps z hz
          · cases List.mem_singleton.mp hz; exact hs y my
      · exact nn S3 ⟨_, he, h2⟩ he hps
    · walk_at "dl"
      refine ⟨_, he, S3, Sub.refl, h ⟨ps, num⟩ S3 (fun b u eb => ?_) ⟨hps, Nat.le_trans hpl hyl⟩⟩
      exact h2 b u (fun z => by rw [z, ne'] at eb; cases eb) (s2 _ _ eb)
end
end K61

set_option Elab.async false
set_option maxRecDepth 100000
set_option linter.unusedVariables false
namespace DL
open PySem PySem.Spec PyProof.Rows L2
/-- a comprehension, the store's law kept; any target -/
theorem lcB_invG {α β : Type} {J : ItD} {g : GD} {vs : List Nat} {tt : TTD} {te : TED} {δ : StD} {Q : KD} {q : Addr} {S1 : Store} (c : List α) (f : α → D) (h : β → D) (Pv : Nat → List β → Prop) (I : Store → Prop) (hz : c.length ≤ 10000)
    (hI : ∀ S ds, I S → I (put S q (.lst ds))) (hI0 : I (put S1 q (.lst []))) (hJ : ∀ k S, k ≤ c.length → I S → J k S = some (c.map f)[k]?) (h0 : Pv 0 [])
    (turn : ∀ (k : Nat) (x : α) (ys : List β) (S : Store) (Y : KD) (N : Store → Prop), c[k]? = some x → Pv k ys → I S → S q = some (.lst (ys.map h)) → (∀ z S', I S' → S' q = some (.lst (ys.map h)) → Pv (k + 1) (ys ++ [z]) → Y (h z) S') → (∀ S', I S' → S' q = some (.lst (ys.map h)) → Pv (k + 1) ys → N S') →
      asg g (f x) (wipeD δ vs) S fun δ2 S2 => tt δ2 S2 fun b S3 => if b = true then te δ2 S3 Y else N S3)
    (done : ∀ ys S, I S → S q = some (.lst (ys.map h)) → Pv c.length ys → ys.length ≤ c.length → Q (.ref q) S) : lcB J g tt te vs δ Q q S1 := by
  refine ⟨c.length, fun j S => j ≤ c.length ∧ ∃ ys : List β, ys.length ≤ j ∧ Pv j ys ∧ I S ∧ S q = some (.lst (ys.map h)), ⟨Nat.zero_le _, [], Nat.le_refl _, h0, hI0, put_same⟩, ?_⟩
  rintro j S ⟨hj, ys, hl, hp, hc, hq⟩
  have ej := hJ j S hj hc
  rw [List.getElem?_map] at ej
  by_cases hlt : j < c.length
  · refine .inr ⟨f c[j], by rw [ej, List.getElem?_eq_getElem hlt]; rfl, hlt, ?_⟩
    refine turn j c[j] ys S _ _ (List.getElem?_eq_getElem hlt) hp hc hq (fun z S' c' q' p' => ?_) fun S' c' q' p' => ?_
    · refine ⟨_, q', by rw [List.length_map]; exact szLt (by omega), hlt, ys ++ [z], by simp; omega, p', hI _ _ c', by rw [put_same, List.map_append]; rfl⟩
    · exact ⟨hlt, ys, by omega, p', c', q'⟩
  · have e : j = c.length := Nat.le_antisymm hj (Nat.le_of_not_lt hlt)
    subst e
    exact .inl ⟨by rw [ej, List.getElem?_eq_none (Nat.le_refl _)]; rfl, done ys S hc hq hp hl⟩
end DL
namespace K61
open PySem PySem.Spec PyProof.Rows L2 DL FO
local macro_rules | `(tactic| walk_at "dl") => `(tactic| try simp only [DL.tAsgD, DL.asg, DL.tVarD, DL.lk, DL.sto, DL.stos, DL.tOpD, DL.tCD, DL.tCallD, DL.tConsD, DL.tNilD, DL.tRetD, DL.endsD, DL.startD, DL.tIfSD, DL.tTestD, DL.tNextD, DL.tDropD, DL.tAndD, DL.tOrD, DL.tNotD, DL.tAndV, DL.tOrV, DL.tNotV, DL.tIfD, DL.tNegD, DL.tTupD, DL.tLstD, DL.tSetD, DL.tMD, DL.tSlD, DL.tPartD, DL.tNoD, DL.tRevD, DL.tForD, DL.tLcD, DL.tIterD, DL.tRng1D, DL.tRng2D, DL.tYesD, DL.wipeD, DL.tDictD, DL.tDictOne, DL.tFldD, DL.tMethD, DL.tMakeD, DL.tSetF, DL.tThaw, DL.thaw, DL.tLRg, DL.tChainD, DL.tDispD, DL.tPairsD, DL.tEnumD, DL.tZipD, DL.tCallLD, DL.tSortSet, DL.tRng3D, DL.keyOf, DL.emE_rr, DL.tLess, DL.tLessS, DL.itOk, DL.rAdd_ii, DL.rAdd_ss, DL.rAdd_tt, DL.rAdd_rr, DL.rSub_ii, DL.rMod_ii, DL.rDiv_ii, DL.rPow_ii, DL.rMul_ii, DL.rMul_ri, DL.rLt_ii, DL.rLt_ss, DL.rLe_ii, DL.rGt_ii, DL.rGe_ii, DL.rEq_ii, DL.rEq_ss, DL.rEq_bb, DL.rNe_ii, DL.rNe_ss, DL.rNe_bb, DL.rEq_rr, DL.rNe_rr, DL.rEq_tt, DL.rNe_tt, DL.rIn_st, DL.rNotIn_st, DL.rIn_r, DL.rNotIn_r, DL.rIn_ss, DL.rInDO_sl, DL.rInDO_il, DL.rInDO_sd, DL.rInDO_id, DL.rIsN_n, DL.rIsN_t, DL.rIsN_i, DL.rIsN_s, DL.rIsN_r, DL.rNotN_n, DL.rNotN_t, DL.rNotN_i, DL.rNotN_s, DL.rNotN_r, DL.rIx_t, DL.rIx_r, DL.rIx_s, DL.rIxDO_l, DL.rIxDO_ds, DL.rIx0, DL.rIx1, DL.rIx2, DL.rIx3, DL.rSl_t, DL.rSl_s, DL.rSl_o, DL.rSl_r, DL.rSlDO, DL.rSet_r, DL.rSetDO_0, DL.rSetDO_s, DL.rLen_t, DL.rLen_o, DL.rLen_s, DL.rLen_r, DL.rLenDO, DL.rLenDO_d, DL.rList_t, DL.rList_o, DL.rList_r, DL.rListDO, DL.rTuple_t, DL.rTuple_r, DL.rInt_i, DL.rInt_b, DL.rMax, DL.rMin, DL.rSz0, DL.rSz1, DL.rSz2, DL.rSz3, DL.rSz4, DL.rSz5, DL.rSz6, DL.rSz7, DL.rSz8, Option.some.injEq, DL.DO.lst.injEq, exists_eq_left', exists_eq_left, DL.put_same, DL.put_put, true_and, and_true, List.map, List.replicate, List.length, List.cons_append, List.nil_append, Nat.reduceSub, Nat.reduceAdd, decide_eq_true_eq, if_true, if_false, Bool.false_eq_true, Bool.not_true, Bool.not_false])
local macro_rules | `(tactic| walk_at "dlh") => `(tactic| try simp only [*, DL.tAsgD, DL.asg, DL.tVarD, DL.lk, DL.sto, DL.stos, DL.tOpD, DL.tCD, DL.tCallD, DL.tConsD, DL.tNilD, DL.tRetD, DL.endsD, DL.startD, DL.tIfSD, DL.tTestD, DL.tNextD, DL.tDropD, DL.tAndD, DL.tOrD, DL.tNotD, DL.tAndV, DL.tOrV, DL.tNotV, DL.tIfD, DL.tNegD, DL.tTupD, DL.tLstD, DL.tSetD, DL.tMD, DL.tSlD, DL.tPartD, DL.tNoD, DL.tRevD, DL.tForD, DL.tLcD, DL.tIterD, DL.tRng1D, DL.tRng2D, DL.tYesD, DL.wipeD, DL.tDictD, DL.tDictOne, DL.tFldD, DL.tMethD, DL.tMakeD, DL.tSetF, DL.tThaw, DL.thaw, DL.tLRg, DL.tChainD, DL.tDispD, DL.tPairsD, DL.tEnumD, DL.tZipD, DL.tCallLD, DL.tSortSet, DL.tRng3D, DL.keyOf, DL.emE_rr, DL.tLess, DL.tLessS, DL.itOk, DL.rAdd_ii, DL.rAdd_ss, DL.rAdd_tt, DL.rAdd_rr, DL.rSub_ii, DL.rMod_ii, DL.rDiv_ii, DL.rPow_ii, DL.rMul_ii, DL.rMul_ri, DL.rLt_ii, DL.rLt_ss, DL.rLe_ii, DL.rGt_ii, DL.rGe_ii, DL.rEq_ii, DL.rEq_ss, DL.rEq_bb, DL.rNe_ii, DL.rNe_ss, DL.rNe_bb, DL.rEq_rr, DL.rNe_rr, DL.rEq_tt, DL.rNe_tt, DL.rIn_st, DL.rNotIn_st, DL.rIn_r, DL.rNotIn_r, DL.rIn_ss, DL.rInDO_sl, DL.rInDO_il, DL.rInDO_sd, DL.rInDO_id, DL.rIsN_n, DL.rIsN_t, DL.rIsN_i, DL.rIsN_s, DL.rIsN_r, DL.rNotN_n, DL.rNotN_t, DL.rNotN_i, DL.rNotN_s, DL.rNotN_r, DL.rIx_t, DL.rIx_r, DL.rIx_s, DL.rIxDO_l, DL.rIxDO_ds, DL.rIx0, DL.rIx1, DL.rIx2, DL.rIx3, DL.rSl_t, DL.rSl_s, DL.rSl_o, DL.rSl_r, DL.rSlDO, DL.rSet_r, DL.rSetDO_0, DL.rSetDO_s, DL.rLen_t, DL.rLen_o, DL.rLen_s, DL.rLen_r, DL.rLenDO, DL.rLenDO_d, DL.rList_t, DL.rList_o, DL.rList_r, DL.rListDO, DL.rTuple_t, DL.rTuple_r, DL.rInt_i, DL.rInt_b, DL.rMax, DL.rMin, DL.rSz0, DL.rSz1, DL.rSz2, DL.rSz3, DL.rSz4, DL.rSz5, DL.rSz6, DL.rSz7, DL.rSz8, Option.some.injEq, DL.DO.lst.injEq, exists_eq_left', exists_eq_left, DL.put_same, DL.put_put, true_and, and_true, List.map, List.replicate, List.length, List.cons_append, List.nil_append, Nat.reduceSub, Nat.reduceAdd, decide_eq_true_eq, if_true, if_false, Bool.false_eq_true, Bool.not_true, Bool.not_false])
local macro_rules | `(tactic| walk_at "go") => `(tactic| repeat (first | (refine DL.sq ?_; try walk_at "dl") | (refine DL.ifY rfl ?_; try walk_at "dl") | (refine DL.inY rfl (by decide) ?_; try walk_at "dl") | (refine DL.inN rfl (by decide) ?_; try walk_at "dl") | (refine DL.ifN (by decide) ?_; try walk_at "dl")))
abbrev s_l_least_step : Stmt := top 40
theorem sc_l_least_step : FnScope ["_law_state", "_law_level", "_law_known", "_law_k", "_law_deck_here", "_law_some", "_law_times", "_law_ahead", "_law_behind", "_law_most", "_law_word", "_law_one", "_law_other", "_law_often", "_law_kind"] ["_law_state", "_law_level", "_law_known", "_law_k"] (defScope s_l_least_step) := ⟨rfl, rfl, rfl, by decide +kernel, rfl, by decide +kernel, by decide +kernel⟩
theorem St.put {x : Fx} {S : Store} {L : List Ln} {X : List Str} {q : Addr} {o : DO} (h : St x S L X) (n : q ≠ x.q) (m : q ∉ x.as) : St x (DL.put S q o) L X := by
  simp only [Fx.as, List.mem_cons, List.not_mem_nil, or_false, not_or] at m
  exact ⟨h.fit, (put_ne n.symm).trans h.q_, h.d_.put m.1 m.2.1, (put_ne (Ne.symm m.2.2.1)).trans h.l_, (put_ne (Ne.symm m.2.2.2)).trans h.t_, h.ok⟩
theorem Go.at {x : Fx} {S S' : Store} {L L' : List Ln} {X X' : List Str} {q : Addr} {o : DO} (h : Go x S S' L' X') (s : St x S L X) (n : S q = none) : Go x S (put S' q o) L' X' :=
  ⟨h.1.at n, h.2.put (fun z => by rw [z, s.q_] at n; cases n) (s.fresh n)⟩
theorem hd_least {F : Fo} (h : F.hd = "least") : ∃ p q, F = .least p q := by
  cases F with
  | least p q => exact ⟨p, q, rfl⟩
  | bin w f g => cases w <;> (simp only [Fo.hd, J3.s] at h; exact absurd h (by decide +kernel))
  | qu w f g => cases w <;> (simp only [Fo.hd, Q2.s] at h; exact absurd h (by decide +kernel))
  | _ => simp only [Fo.hd] at h; exact absurd h (by decide +kernel)
theorem hd_same {F : Fo} (h : F.hd = "same") : ∃ p q, F = .same p q := by
  cases F with
  | same p q => exact ⟨p, q, rfl⟩
  | bin w f g => cases w <;> (simp only [Fo.hd, J3.s] at h; exact absurd h (by decide +kernel))
  | qu w f g => cases w <;> (simp only [Fo.hd, Q2.s] at h; exact absurd h (by decide +kernel))
  | _ => simp only [Fo.hd] at h; exact absurd h (by decide +kernel)
theorem hd_is {F : Fo} (h : F.hd = "is") : ∃ p q, F = .is p q := by
  cases F with
  | is p q => exact ⟨p, q, rfl⟩
  | bin w f g => cases w <;> (simp only [Fo.hd, J3.s] at h; exact absurd h (by decide +kernel))
  | qu w f g => cases w <;> (simp only [Fo.hd, Q2.s] at h; exact absurd h (by decide +kernel))
  | _ => simp only [Fo.hd] at h; exact absurd h (by decide +kernel)
theorem hd_bin {F : Fo} (v : J3) (h : F.hd = v.s) : ∃ p q, F = .bin v p q := by
  cases F with
  | bin w f g => cases w <;> cases v <;> first | exact ⟨f, g, rfl⟩ | (simp only [Fo.hd, J3.s] at h; exact absurd h (by decide +kernel))
  | qu w f g => cases w <;> cases v <;> (simp only [Fo.hd, Q2.s, J3.s] at h; exact absurd h (by decide +kernel))
  | _ => cases v <;> (simp only [Fo.hd, J3.s] at h; exact absurd h (by decide +kernel))
theorem hd_qu {F : Fo} (v : Q2) (h : F.hd = v.s) : ∃ p q, F = .qu v p q := by
  cases F with
  | bin w f g => cases w <;> cases v <;> (simp only [Fo.hd, J3.s, Q2.s] at h; exact absurd h (by decide +kernel))
  | qu w f g => cases w <;> cases v <;> first | exact ⟨f, g, rfl⟩ | (simp only [Fo.hd, Q2.s] at h; exact absurd h (by decide +kernel))
  | _ => cases v <;> (simp only [Fo.hd, Q2.s] at h; exact absurd h (by decide +kernel))
def LeastAt (L : List Ln) (kn : List Nat) (k : Nat) : Prop := k ∈ kn ∧ ∃ n, L[k - 1]? = some n ∧ n.f.hd = "least"
theorem LeastAt.su {x : Fx} {S : Store} {L : List Ln} {X : List Str} {kn : List Nat} {k : Nat} (s : St x S L X) (h : LeastAt L kn k) : ∃ n p q, L[k - 1]? = some n ∧ n.f = .least p q ∧ p.ok (· ∈ x.ks) ∧ q.ok (· ∈ x.ks) := by
  obtain ⟨_, n, e, hd⟩ := h
  obtain ⟨p, q, ef⟩ := hd_least hd
  have := (s.ok n (List.mem_of_getElem? e)).1
  rw [ef] at this
  exact ⟨n, p, q, e, ef, this.1, this.2⟩
def spLeast : SpD := fun ds S Q => ∃ (x : Fx) (L : List Ln) (X : List Str) (a : Addr) (kn : List Nat) (lv k : Nat), ds = [.ref x.q, .int (lv : Nat), .ref a, .int (k : Nat)] ∧ St x S L X ∧ a ∉ x.as ∧ Kn S a kn L ∧ L.length ≤ 200 ∧ LeastAt L kn k ∧
  ∀ (n : Ln) (S' : Store), Go x S S' (L ++ [n]) X → n.lv = lv → n.r.plain L.length → Q (.int ((L.length + 1 : Nat) : Int)) S'
theorem zip_get {α β : Type} (f : α → D) (g : β → D) : ∀ (as : List α) (bs : List β) (k : Nat), ((as.map f)[k]?.bind fun u => (bs.map g)[k]?.map fun v => D.tup [u, v]) = ((as.zip bs).map fun z => D.tup [f z.1, g z.2])[k]?
  | [], bs, k => by simp
  | a :: as, [], k => by
    simp
  | a :: as, b :: bs, 0 => by simp
  | a :: as, b :: bs, k + 1 => by
    have := zip_get f g as bs k
    simpa using this
theorem lcRows {x : Fx} {L : List Ln} {X : List Str} {kn : List Nat} {S1 : Store} {e q : Addr} {ts : List Int} {zs : List Nat} {δ : StD} {Q : KD} {te : TED} (s : St x S1 L X) (ne : S1 e = none) (hq : S1 q = some (.lst (zs.map inD))) (hl : ts.length = zs.length) (hz : zs.length ≤ 6)
    (ht : ∀ t ∈ ts, 0 ≤ t ∧ t ≤ 2) (hzs : ∀ z ∈ zs, LeastAt L kn z) (pick : Su → Su → Su) (hp : ∀ p q : Su, p.ok (· ∈ x.ks) → q.ok (· ∈ x.ks) → (pick p q).ok (· ∈ x.ks))
    (hte : ∀ (t : Int) (z : Nat) (n : Ln) (p q : Su) (S' : Store) (Y : KD), L[z - 1]? = some n → n.f = .least p q → 1 ≤ z → St x S' L X → Y (.tup [.int t, (pick p q).d]) S' → te (stos (wipeD δ [13, 11]) [13, 11] [.int t, .int (z : Nat)]) S' Y)
    (h1 : ∀ z ∈ kn, 1 ≤ z)
    (done : ∀ (rows : List (Int × Su)) (S' : Store), Go x S1 S' L X → S' e = some (.lst (rows.map rowD)) → rows.length ≤ 6 → (∀ r ∈ rows, 0 ≤ r.1 ∧ r.1 ≤ 2 ∧ r.2.ok (· ∈ x.ks)) → Q (.ref e) S') :
    lcB (zpJ (.tup (ts.map D.int)) (.ref q)) (.many [13, 11]) tYesD te [13, 11] δ Q e S1 := by
  have qe : q ≠ e := ne_new hq ne
  have ea := s.fresh ne
  refine lcB_invG (ts.zip zs) (fun z => D.tup [.int z.1, inD z.2]) rowD (fun k rows => ∀ r ∈ rows, 0 ≤ r.1 ∧ r.1 ≤ 2 ∧ r.2.ok (· ∈ x.ks)) (fun S' => Go x S1 S' L X ∧ S' q = some (.lst (zs.map inD))) (by rw [List.length_zip]; omega)
    (fun S' ds ⟨i1, i2⟩ => ⟨i1.at s ne, (put_ne qe).trans i2⟩) ⟨(Go.refl s).at s ne, (put_ne qe).trans hq⟩ (fun k S' hk ⟨i1, i2⟩ => ?_) (fun r hr => by cases hr) (fun k z rows S' Y N hk hr i hrows yy _ => ?_) (fun rows S' i hrows hr hlen => ?_)
  · rw [List.length_zip] at hk
    have e1 : srcJ S' (.ref q) = some (zs.map inD) := by
      show (match S' q with | some (.lst ds) => some ds | _ => none) = _
      rw [i2]
    have e2 : srcJ S' (.tup (ts.map D.int)) = some (ts.map D.int) := rfl
    unfold zpJ
    rw [e1, e2]
    show (if k ≤ (ts.map D.int).length ∧ k ≤ (zs.map inD).length then some _ else none) = _
    rw [if_pos (by rw [List.length_map, List.length_map]; omega), zip_get D.int inD ts zs k]
  · obtain ⟨m1, m2⟩ := List.of_mem_zip (List.mem_of_getElem? (show (ts.zip zs)[k]? = some (z.1, z.2) from hk))
    obtain ⟨n, p, q', en, ef, o1, o2⟩ := (hzs _ m2).su s
    have t := ht _ m1
    refine ⟨rfl, ?_⟩
    show te _ _ _
    refine hte z.1 z.2 n p q' S' Y en ef (h1 _ (hzs _ m2).1) i.1.2 ?_
    refine yy (z.1, pick p q') S' i hrows fun r hr' => ?_
    rcases List.mem_append.mp hr' with w | w
    · exact hr r w
    · cases List.mem_singleton.mp w
      exact ⟨t.1, t.2, hp _ _ o1 o2⟩
  · rw [List.length_zip] at hlen
    exact done rows S' i.1 hrows (by omega) hr
section
variable {P : Program} {w : World} {K : PySem.W.Frag} {mg : Str → Option Value} {base : Heap}
theorem df_least {k : Nat} (T : Bt mg) (A : At K mg "_law_least_step" "_law_least_step" s_l_least_step) (G_l_next : Df P w K mg base "_law_next" k spNext) (G_l_at : Df P w K mg base "_law_at" k spAt) (G_l_add : Df P w K mg base "_law_add" k spAdd)
    (G_l_find : Df P w K mg base "_law_find" k spFind) (G_l_summed : Df P w K mg base "_law_summed" k spSummed) : Df P w K mg base "_law_least_step" (k + 1) spLeast := by
  have nd := sc_l_least_step.nd
  refine df_mk A rfl sc_l_least_step (fun _ _ _ _ _ _ us hl => match us, hl with | [_, _, _, _], _ => rfl) (fun ds S Q h => ?_) (fun f cdv A outer s H E hr ds S Q h => ?_)
  · obtain ⟨x, L, X, a, kn, lv, j, rfl, _⟩ := h
    rfl
  obtain ⟨x, L, X, a, kn, lv, j, rfl, hs, ha, hkn0, hL, hj, h⟩ := h
  obtain ⟨hk, hne, hkl, hkn⟩ := hkn0
  have hu := hu_of hr
  have fit := hs.fit
  have hj1 := hkn j hj.1
  have fin : ∀ {S1 : Store} {F : Fo} {r : Rs}, Go x S S1 L X → x.fo F → F.ht ≤ 10 → r.plain L.length → spAdd [.ref x.q, .int (lv : Nat), F.d, r.d] S1 fun d S' => ∃ S'', DL.Sub S'' S' ∧ Q d S'' := fun {S1 F r} g hF hh hp =>
    ⟨x, L, X, lv, F, r, rfl, g.2, hL, hF, hh, fun S2 g2 => ⟨S2, Sub.refl, h ⟨lv, F, r⟩ S2 (g.trans g2) rfl hp⟩⟩
  refine ⟨_, (dss_cons (ds_set (i := 4) nd rfl (Or.inr rfl) (de_ix hu (dv 0) de_str))
    (dss_cons (ds_set (i := 5) nd rfl (Or.inl rfl) (de_op od_add (de_lst (da_cons (dv 3) da_nil)) (de_lc (own := [("_law_one", 11)]) (g := GD.one 11) rfl nd (di_range1 rfl T.range_ (da_cons (de_ix hu (de_lst (da_cons de_int (da_cons de_int (da_cons de_int (da_cons de_int da_nil))))) (de_call G_l_next hr rfl (da_cons (dv 4) (da_cons de_int da_nil)))) da_nil)) (blkOk_by (own := [("_law_one", 11)]) (N := ["_law_state", "_law_level", "_law_known", "_law_k", "_law_deck_here", "_law_some", "_law_times", "_law_ahead", "_law_behind", "_law_most", "_law_word", "_law_one", "_law_other", "_law_often", "_law_kind"]) (sc := defScope s_l_least_step) (by decide +kernel)) (fun _ _ _ _ _ => (dg_name (i := 11) nd rfl (Or.inl rfl))) (fun _ _ _ _ _ => dts_nil) (fun _ _ _ _ _ => (de_call G_l_find hr rfl (da_cons (dv 0) (da_cons (dv 2) (da_cons de_str da_nil))))))))
    (dss_cons (ds_set (i := 6) nd rfl (Or.inl rfl) (de_callTy cd_tuple rfl T.tuple_ (by decide +kernel) (da_cons (de_lc (own := [("_law_one", 11)]) (g := GD.one 11) rfl nd (di_any (dv 5)) (blkOk_by (own := [("_law_one", 11)]) (N := ["_law_state", "_law_level", "_law_known", "_law_k", "_law_deck_here", "_law_some", "_law_times", "_law_ahead", "_law_behind", "_law_most", "_law_word", "_law_one", "_law_other", "_law_often", "_law_kind"]) (sc := defScope s_l_least_step) (by decide +kernel)) (fun _ _ _ _ _ => (dg_name (i := 11) nd rfl (Or.inl rfl))) (fun _ _ _ _ _ => dts_nil) (fun _ _ _ _ _ => (de_call G_l_next hr rfl (da_cons (dv 4) (da_cons de_int da_nil))))) da_nil)))
    (dss_cons (ds_set (i := 7) nd rfl (Or.inl rfl) (de_call G_l_summed hr rfl (da_cons (de_lc (own := [("_law_often", 13), ("_law_one", 11)]) (g := GD.many [13, 11]) rfl nd (di_zip rfl T.zip_ (da_cons (dv 6) (da_cons (dv 5) da_nil))) (blkOk_by (own := [("_law_often", 13), ("_law_one", 11)]) (N := ["_law_state", "_law_level", "_law_known", "_law_k", "_law_deck_here", "_law_some", "_law_times", "_law_ahead", "_law_behind", "_law_most", "_law_word", "_law_one", "_law_other", "_law_often", "_law_kind"]) (sc := defScope s_l_least_step) (by decide +kernel)) (fun _ _ _ _ _ => (dg_tup rfl (dgs_cons (dg_name (i := 13) nd rfl (Or.inl rfl)) (dgs_cons (dg_name (i := 11) nd rfl (Or.inl rfl)) dgs_nil)))) (fun _ _ _ _ _ => dts_nil) (fun _ _ _ _ _ => (de_tup (da_cons (dv 13) (da_cons (de_ix hu (de_call G_l_at hr rfl (da_cons (dv 0) (da_cons (dv 11) da_nil))) de_int) da_nil))))) da_nil)))
    (dss_cons (ds_set (i := 8) nd rfl (Or.inl rfl) (de_call G_l_summed hr rfl (da_cons (de_lc (own := [("_law_often", 13), ("_law_one", 11)]) (g := GD.many [13, 11]) rfl nd (di_zip rfl T.zip_ (da_cons (dv 6) (da_cons (dv 5) da_nil))) (blkOk_by (own := [("_law_often", 13), ("_law_one", 11)]) (N := ["_law_state", "_law_level", "_law_known", "_law_k", "_law_deck_here", "_law_some", "_law_times", "_law_ahead", "_law_behind", "_law_most", "_law_word", "_law_one", "_law_other", "_law_often", "_law_kind"]) (sc := defScope s_l_least_step) (by decide +kernel)) (fun _ _ _ _ _ => (dg_tup rfl (dgs_cons (dg_name (i := 13) nd rfl (Or.inl rfl)) (dgs_cons (dg_name (i := 11) nd rfl (Or.inl rfl)) dgs_nil)))) (fun _ _ _ _ _ => dts_nil) (fun _ _ _ _ _ => (de_tup (da_cons (dv 13) (da_cons (de_ix hu (de_call G_l_at hr rfl (da_cons (dv 0) (da_cons (dv 11) da_nil))) de_int) da_nil))))) da_nil)))
    (dss_cons (ds_set (i := 9) nd rfl (Or.inl rfl) (de_callB (cd_maxL rfl) rfl T.max_ (by decide +kernel) (da_cons (de_op od_add (de_lst (da_cons (de_ix hu (dv 7) de_int) (da_cons (de_ix hu (dv 8) de_int) da_nil))) (de_lc (own := [("_law_kind", 14), ("_law_often", 13)]) (g := GD.many [14, 13]) rfl nd (di_any (de_op od_add (de_ix hu (dv 7) de_int) (de_ix hu (dv 8) de_int))) (blkOk_by (own := [("_law_kind", 14), ("_law_often", 13)]) (N := ["_law_state", "_law_level", "_law_known", "_law_k", "_law_deck_here", "_law_some", "_law_times", "_law_ahead", "_law_behind", "_law_most", "_law_word", "_law_one", "_law_other", "_law_often", "_law_kind"]) (sc := defScope s_l_least_step) (by decide +kernel)) (fun _ _ _ _ _ => (dg_tup rfl (dgs_cons (dg_name (i := 14) nd rfl (Or.inl rfl)) (dgs_cons (dg_name (i := 13) nd rfl (Or.inl rfl)) dgs_nil)))) (fun _ _ _ _ _ => dts_nil) (fun _ _ _ _ _ => (dv 13)))) da_nil)))
    (dss_cons (ds_if (dt_w (dw_or (dt_cmp od_gt (dv 9) (de_op od_pow de_int de_int) (nomark _)) (dw_or1 (dt_cmp (od_eq hr.units) (de_ix hu (dv 6) de_int) de_int (nomark _))))) (dss_cons (ds_asg (de_call G_l_at hr rfl (da_cons (dv 0) (da_cons (dv 3) da_nil))) (dg_tup rfl (dgs_cons (dg_name (i := 10) nd rfl (Or.inl rfl)) (dgs_cons (dg_name (i := 11) nd rfl (Or.inl rfl)) (dgs_cons (dg_name (i := 12) nd rfl (Or.inl rfl)) dgs_nil)))))
    (dss_one (ds_ret (de_call G_l_add hr rfl (da_cons (dv 0) (da_cons (dv 1) (da_cons (de_tup (da_cons de_str (da_cons (de_tup (da_cons de_str (da_cons (dv 12) (da_cons (de_tup (da_cons (de_ix hu (dv 11) de_int) (da_cons (de_op od_add (de_ix hu (dv 11) de_int) de_int) da_nil))) da_nil)))) da_nil))) (da_cons (de_tup (da_cons de_str (da_cons (dv 3) da_nil))) da_nil)))))))) dss_nil)
    (dss_one (ds_ret (de_call G_l_add hr rfl (da_cons (dv 0) (da_cons (dv 1) (da_cons (de_tup (da_cons de_str (da_cons (dv 7) (da_cons (dv 8) da_nil)))) (da_cons (de_tup (da_cons de_str (da_cons (de_callTy cd_tuple rfl T.tuple_ (by decide +kernel) (da_cons (dv 5) da_nil)) (da_cons (dv 6) da_nil)))) da_nil)))))))))))))), ?_⟩
  refine sq ?_
  walk_at "dl"
  refine ixDk hs.q_ sv1 ?_
  refine seq_cut (fun δ' S' => ∃ (q : Addr) (zs : List Nat), δ' = [some (.ref x.q), some (.int (lv : Nat)), some (.ref a), some (.int (j : Nat)), some (.ref x.p), some (.ref q), none, none, none, none, none, none, none, none, none] ∧ Go x S S' L X ∧ S q = none ∧ S' q = some (.lst (zs.map inD)) ∧ 1 ≤ zs.length ∧ zs.length ≤ 6 ∧ ∀ z ∈ zs, LeastAt L kn z) (fun N hN => ?_) ?_
  · walk_at "dl"
    intro e0 n0
    generalize hS0 : put S e0 _ = S1
    have g1 := (Go.refl hs).gen hS0 n0
    have k0 := gen_at hS0
    intro e1 n1
    generalize hS1 : put S1 e1 _ = S2
    have g2 := g1.gen hS1 n1
    have k1 := gen_at hS1
    have k0 := gen_kp hS1 n1 k0
    refine ⟨x.p, x.c, _, rfl, g2.2.d_, by decide, by decide, fun r S3 r0 r1 c3 => ?_⟩
    have g3 := g2.deck c3
    have k1 := (g2.2.deck c3).keep (g1.2.fresh n1) k1
    have k0 := (g2.2.deck c3).keep (hs.fresh n0) k0
    walk_at "dl"
    refine ixL_mem k1 r0 r1 fun d hd => ?_
    obtain ⟨m, rfl, hm⟩ : ∃ m : Nat, d = .int (m : Nat) ∧ m ≤ 5 := by
      simp only [List.mem_cons, List.not_mem_nil, or_false] at hd
      rcases hd with rfl | rfl | rfl | rfl
      · exact ⟨0, rfl, by omega⟩
      · exact ⟨1, rfl, by omega⟩
      · exact ⟨2, rfl, by omega⟩
      · exact ⟨5, rfl, by omega⟩
    walk_at "dl"
    refine ⟨⟨by omega, by omega⟩, fun q0 nq0 => ?_⟩
    have e0q := ne_new k0 nq0
    have ak0 := g3.keep ha hk
    have aq := ne_new ak0 nq0
    refine lcB_inv (List.range m) inD inD (fun _ ys => ∀ y ∈ ys, LeastAt L kn y) (fun S' => Go x S3 S' L X ∧ S' e0 = some (.lst [.int (j : Nat)])) (by simp; omega) (fun S' ds ⟨i1, i2⟩ => ⟨i1.at g3.2 nq0, (put_ne e0q).trans i2⟩) ⟨(Go.refl g3.2).at g3.2 nq0, (put_ne e0q).trans k0⟩ (fun k S' _ => rng_nat) (fun y hy => by cases hy) (fun i y ys S' Y N hi hys ⟨i1, i2⟩ hq yy _ => ?_) (fun ys S' ⟨i1, i2⟩ hq hys hyl => ?_)
    · walk_at "dl"
      have f0 : q0 ∉ x.as := g3.2.fresh nq0
      have f1 : e0 ∉ x.as := hs.fresh n0
      refine ⟨x, L, X, a, kn, _, rfl, i1.2, ha, ⟨i1.keep ha ak0, hne, hkl, hkn⟩, fun z S4 g4 hz => ?_⟩
      have hz' : LeastAt L kn z := by
        rcases hz with ⟨_, hz⟩ | hz
        · obtain ⟨m1, n, e, hd⟩ := hj
          exact absurd hd (hz j m1 n e)
        · exact hz
      refine yy z S4 ⟨i1.trans g4, g4.keep f1 i2⟩ (g4.keep f0 hq) fun w hw => ?_
      rcases List.mem_append.mp hw with hw | hw
      · exact hys w hw
      · cases List.mem_singleton.mp hw; exact hz'
    · rw [List.length_range] at hyl
      walk_at "dl"
      refine ⟨_, _, i2, hq, szOk (by simp; omega), fun e5 n5 => ?_⟩
      have g5 := g3.trans i1
      refine hN _ _ ⟨e5, j :: ys, rfl, g5.sub (Sub.new n5), g5.none' n5, put_same, by simp, by simp; omega, fun z hz => ?_⟩
      rcases List.mem_cons.mp hz with rfl | hz
      · exact hj
      · exact hys z hz
  rintro δ' S1 ⟨q, zs, rfl, g1, nq, hq1, z1, z6, hzs⟩
  walk_at "dl"
  have fq : q ∉ x.as := hs.fresh nq
  refine seq_cut (fun δ' S' => ∃ ts : List Int, δ' = [some (.ref x.q), some (.int (lv : Nat)), some (.ref a), some (.int (j : Nat)), some (.ref x.p), some (.ref q), some (.tup (ts.map D.int)), none, none, none, none, none, none, none, none] ∧ Go x S S' L X ∧ S' q = some (.lst (zs.map inD)) ∧ ts.length = zs.length ∧ ∀ t ∈ ts, 0 ≤ t ∧ t ≤ 2) (fun N hN => ?_) ?_
  · walk_at "dl"
    refine ⟨⟨_, hq1⟩, fun q0 nq0 => ?_⟩
    have qq := ne_new hq1 nq0
    refine lcB_inv zs inD D.int (fun k ts => ts.length = k ∧ ∀ t ∈ ts, 0 ≤ t ∧ t ≤ 2) (fun S' => Go x S1 S' L X ∧ S' q = some (.lst (zs.map inD))) (by omega) (fun S' ds ⟨i1, i2⟩ => ⟨i1.at g1.2 nq0, (put_ne qq).trans i2⟩) ⟨(Go.refl g1.2).at g1.2 nq0, (put_ne qq).trans hq1⟩ (fun k S' ⟨i1, i2⟩ => listJ i2) ⟨rfl, fun y hy => by cases hy⟩ (fun i y ts S' Y N hi hts ⟨i1, i2⟩ hq yy _ => ?_) (fun ts S' ⟨i1, i2⟩ hq hts hyl => ?_)
    · walk_at "dl"
      have f0 : q0 ∉ x.as := g1.2.fresh nq0
      refine ⟨x.p, x.c, _, rfl, i1.2.d_, by decide, by decide, fun t S4 t0 t1 c4 => ?_⟩
      have g4 := i1.2.deck c4
      refine yy t S4 ⟨i1.trans g4, g4.keep fq i2⟩ (g4.keep f0 hq) ⟨by simp [hts.1], fun w hw => ?_⟩
      rcases List.mem_append.mp hw with hw | hw
      · exact hts.2 w hw
      · cases List.mem_singleton.mp hw; exact ⟨t0, by omega⟩
    · walk_at "dl"
      refine ⟨_, hq, ?_⟩
      exact hN _ _ ⟨ts, rfl, g1.trans i1, i2, hts.1, hts.2⟩
  rintro δ' S2 ⟨ts, rfl, g2, hq2, htl, hts⟩
  walk_at "dl"
  refine sq ?_
  walk_at "dl"
  refine ⟨_, _, _, _, rfl, rfl, by show (match S2 q with | some (.lst ds) => some ds | _ => none) = _; rw [hq2], fun e3 n3 => ?_⟩
  refine lcRows g2.2 n3 hq2 htl z6 hts hzs (fun p _ => p) (fun p q hp hq => hp) (fun t z n p q' S' Y en ef hz hst hY => ?_) (fun z hz => (hkn z hz).1) (fun rows S3 gr hrows hrl hrok => ?_)
  · walk_at "dl"
    refine ⟨x, L, X, z, n, rfl, hst, hz, en, ?_⟩
    rw [ef]
    refine ⟨_, rfl, ?_⟩
    walk_at "dl"
    exact hY
  refine ⟨e3, rows, x.ks, rfl, hrows, hrl, fit.k6, hrok, fun s1 S4 b4 os1 => ?_⟩
  have g4 := (g2.trans gr).sub b4
  have hq4 : S4 q = some (.lst (zs.map inD)) := b4 _ _ (gr.keep fq hq2)
  refine sq ?_
  walk_at "dl"
  refine ⟨_, _, _, _, rfl, rfl, by show (match S4 q with | some (.lst ds) => some ds | _ => none) = _; rw [hq4], fun e5 n5 => ?_⟩
  refine lcRows g4.2 n5 hq4 htl z6 hts hzs (fun _ p => p) (fun p q hp hq => hq) (fun t z n p q' S' Y en ef hz hst hY => ?_) (fun z hz => (hkn z hz).1) (fun rows2 S5 gr2 hrows2 hrl2 hrok2 => ?_)
  · walk_at "dl"
    refine ⟨x, L, X, z, n, rfl, hst, hz, en, ?_⟩
    rw [ef]
    refine ⟨_, rfl, ?_⟩
    walk_at "dl"
    exact hY
  refine ⟨e5, rows2, x.ks, rfl, hrows2, hrl2, fit.k6, hrok2, fun s2 S6 b6 os2 => ?_⟩
  have g6 := (g4.trans gr2).sub b6
  have hq6 : S6 q = some (.lst (zs.map inD)) := b6 _ _ (gr2.keep fq hq4)
  refine sq ?_
  walk_at "dl"
  refine ⟨.int s1.num, rfl, ⟨.int s2.num, rfl, ?_⟩⟩
  intro e7 n7
  generalize hS7 : put S6 e7 _ = S7
  have g7 := g6.gen hS7 n7
  have k7 := gen_at hS7
  have hq7 := gen_kp hS7 n7 hq6
  have f7 := g6.2.fresh n7
  refine ⟨.tup (s1.parts.map paD), rfl, ⟨.tup (s2.parts.map paD), rfl, ?_⟩⟩
  walk_at "dl"
  refine ⟨szOk (by have := os1.2; have := os2.2; simp; omega), fun e8 n8 => ?_⟩
  have e78 := ne_new k7 n8
  have hz2 : (s1.parts ++ s2.parts).length ≤ 12 := by have := os1.2; have := os2.2; simp; omega
  refine lcB_invG (s1.parts ++ s2.parts) paD D.int (fun _ _ => True) (fun S' => Go x S7 S' L X ∧ S' e7 = some (.lst [.int s1.num, .int s2.num]) ∧ S' q = some (.lst (zs.map inD))) (by omega) (fun S' ds ⟨i1, i2, i3⟩ => ⟨i1.at g7.2 n8, (put_ne e78).trans i2, (put_ne (ne_new hq7 n8)).trans i3⟩) ⟨(Go.refl g7.2).at g7.2 n8, (put_ne e78).trans k7, (put_ne (ne_new hq7 n8)).trans hq7⟩ (fun k S' _ _ => by rw [List.map_append]; rfl) trivial (fun k z ys S' Y N hk' _ i hq yy _ => ?_) (fun ys S8 ⟨i1, i2, i3⟩ hq8 _ hlen => ?_)
  · refine ⟨rfl, ?_⟩
    walk_at "dl"
    exact yy z.2 S' i hq trivial
  have g8 := g7.trans i1
  walk_at "dl"
  refine ⟨_, _, i2, hq8, szOk (by simp; omega), fun e9 n9 => ?_⟩
  generalize hS9 : put S8 e9 _ = S9
  have g9 := g8.gen hS9 n9
  have k9 := gen_at hS9
  have hq9 := gen_kp hS9 n9 i3
  refine ⟨s1.num :: s2.num :: ys, seqAt_ref k9, by simp, fun m _ _ => ?_⟩
  walk_at "dl"
  obtain ⟨t0, tr, rfl⟩ : ∃ t0 tr, ts = t0 :: tr := by
    cases ts with
    | nil => simp at htl; omega
    | cons t0 tr => exact ⟨t0, tr, rfl⟩
  obtain ⟨n, p, q', en, ef, o1, o2⟩ := hj.su hs
  refine seq_if (fun S' => S' = S9) (fun S' => S' = S9) (fun N N1 N2 => ?_) ?_ ?_
  · walk_at "dl"
    refine ⟨⟨by decide, by decide, by decide⟩, ?_⟩
    split
    · exact N1 _ rfl
    · by_cases e : t0 = 0
      · rw [decide_eq_true e]; exact N1 _ rfl
      · rw [decide_eq_false e]; exact N2 _ rfl
  · rintro S' rfl
    walk_at "dl"
    refine ⟨x, L, X, j, n, rfl, g9.2, hj1.1, en, ?_⟩
    rw [ef]
    refine ⟨rfl, ?_⟩
    walk_at "dl"
    refine ⟨.tup (p.parts.map paD), rfl, ⟨.int p.num, rfl, ?_⟩⟩
    walk_at "dl"
    exact fin (r := .w1 "turned" j) (F := .neg (.least q' ⟨p.parts, p.num + 1⟩)) g9 ⟨o2, o1⟩ (by simp [Fo.ht]) ⟨by simp [Rs.ok, W1], rfl, rfl, fun k hk => by
      cases List.mem_singleton.mp hk
      exact hj1⟩
  · rintro S' rfl
    walk_at "dl"
    exact ⟨_, hq9, fin (r := .sums zs (t0 :: tr)) (F := .least s1 s2) g9 ⟨os1, os2⟩ (by simp [Fo.ht]) ⟨z6, rfl, rfl, fun k hk => hkn k (hzs k hk).1⟩⟩
end
end K61

set_option Elab.async false
set_option maxRecDepth 100000
set_option linter.unusedVariables false
namespace K61
open PySem PySem.Spec PyProof.Rows L2 DL FO
local macro_rules | `(tactic| walk_at "dl") => `(tactic| try simp only [DL.tAsgD, DL.asg, DL.tVarD, DL.lk, DL.sto, DL.stos, DL.tOpD, DL.tCD, DL.tCallD, DL.tConsD, DL.tNilD, DL.tRetD, DL.endsD, DL.startD, DL.tIfSD, DL.tTestD, DL.tNextD, DL.tDropD, DL.tAndD, DL.tOrD, DL.tNotD, DL.tAndV, DL.tOrV, DL.tNotV, DL.tIfD, DL.tNegD, DL.tTupD, DL.tLstD, DL.tSetD, DL.tMD, DL.tSlD, DL.tPartD, DL.tNoD, DL.tRevD, DL.tForD, DL.tLcD, DL.tIterD, DL.tRng1D, DL.tRng2D, DL.tYesD, DL.wipeD, DL.tDictD, DL.tDictOne, DL.tFldD, DL.tMethD, DL.tMakeD, DL.tSetF, DL.tThaw, DL.thaw, DL.tLRg, DL.tChainD, DL.tDispD, DL.tPairsD, DL.tEnumD, DL.tZipD, DL.tCallLD, DL.tSortSet, DL.tRng3D, DL.keyOf, DL.emE_rr, DL.tLess, DL.tLessS, DL.itOk, DL.rAdd_ii, DL.rAdd_ss, DL.rAdd_tt, DL.rAdd_rr, DL.rSub_ii, DL.rMod_ii, DL.rDiv_ii, DL.rPow_ii, DL.rMul_ii, DL.rMul_ri, DL.rLt_ii, DL.rLt_ss, DL.rLe_ii, DL.rGt_ii, DL.rGe_ii, DL.rEq_ii, DL.rEq_ss, DL.rEq_bb, DL.rNe_ii, DL.rNe_ss, DL.rNe_bb, DL.rEq_rr, DL.rNe_rr, DL.rEq_tt, DL.rNe_tt, DL.rIn_st, DL.rNotIn_st, DL.rIn_r, DL.rNotIn_r, DL.rIn_ss, DL.rInDO_sl, DL.rInDO_il, DL.rInDO_sd, DL.rInDO_id, DL.rIsN_n, DL.rIsN_t, DL.rIsN_i, DL.rIsN_s, DL.rIsN_r, DL.rNotN_n, DL.rNotN_t, DL.rNotN_i, DL.rNotN_s, DL.rNotN_r, DL.rIx_t, DL.rIx_r, DL.rIx_s, DL.rIxDO_l, DL.rIxDO_ds, DL.rIx0, DL.rIx1, DL.rIx2, DL.rIx3, DL.rSl_t, DL.rSl_s, DL.rSl_o, DL.rSl_r, DL.rSlDO, DL.rSet_r, DL.rSetDO_0, DL.rSetDO_s, DL.rLen_t, DL.rLen_o, DL.rLen_s, DL.rLen_r, DL.rLenDO, DL.rLenDO_d, DL.rList_t, DL.rList_o, DL.rList_r, DL.rListDO, DL.rTuple_t, DL.rTuple_r, DL.rInt_i, DL.rInt_b, DL.rMax, DL.rMin, DL.rSz0, DL.rSz1, DL.rSz2, DL.rSz3, DL.rSz4, DL.rSz5, DL.rSz6, DL.rSz7, DL.rSz8, Option.some.injEq, DL.DO.lst.injEq, exists_eq_left', exists_eq_left, DL.put_same, DL.put_put, true_and, and_true, List.map, List.replicate, List.length, List.cons_append, List.nil_append, Nat.reduceSub, Nat.reduceAdd, decide_eq_true_eq, if_true, if_false, Bool.false_eq_true, Bool.not_true, Bool.not_false])
local macro_rules | `(tactic| walk_at "dlh") => `(tactic| try simp only [*, DL.tAsgD, DL.asg, DL.tVarD, DL.lk, DL.sto, DL.stos, DL.tOpD, DL.tCD, DL.tCallD, DL.tConsD, DL.tNilD, DL.tRetD, DL.endsD, DL.startD, DL.tIfSD, DL.tTestD, DL.tNextD, DL.tDropD, DL.tAndD, DL.tOrD, DL.tNotD, DL.tAndV, DL.tOrV, DL.tNotV, DL.tIfD, DL.tNegD, DL.tTupD, DL.tLstD, DL.tSetD, DL.tMD, DL.tSlD, DL.tPartD, DL.tNoD, DL.tRevD, DL.tForD, DL.tLcD, DL.tIterD, DL.tRng1D, DL.tRng2D, DL.tYesD, DL.wipeD, DL.tDictD, DL.tDictOne, DL.tFldD, DL.tMethD, DL.tMakeD, DL.tSetF, DL.tThaw, DL.thaw, DL.tLRg, DL.tChainD, DL.tDispD, DL.tPairsD, DL.tEnumD, DL.tZipD, DL.tCallLD, DL.tSortSet, DL.tRng3D, DL.keyOf, DL.emE_rr, DL.tLess, DL.tLessS, DL.itOk, DL.rAdd_ii, DL.rAdd_ss, DL.rAdd_tt, DL.rAdd_rr, DL.rSub_ii, DL.rMod_ii, DL.rDiv_ii, DL.rPow_ii, DL.rMul_ii, DL.rMul_ri, DL.rLt_ii, DL.rLt_ss, DL.rLe_ii, DL.rGt_ii, DL.rGe_ii, DL.rEq_ii, DL.rEq_ss, DL.rEq_bb, DL.rNe_ii, DL.rNe_ss, DL.rNe_bb, DL.rEq_rr, DL.rNe_rr, DL.rEq_tt, DL.rNe_tt, DL.rIn_st, DL.rNotIn_st, DL.rIn_r, DL.rNotIn_r, DL.rIn_ss, DL.rInDO_sl, DL.rInDO_il, DL.rInDO_sd, DL.rInDO_id, DL.rIsN_n, DL.rIsN_t, DL.rIsN_i, DL.rIsN_s, DL.rIsN_r, DL.rNotN_n, DL.rNotN_t, DL.rNotN_i, DL.rNotN_s, DL.rNotN_r, DL.rIx_t, DL.rIx_r, DL.rIx_s, DL.rIxDO_l, DL.rIxDO_ds, DL.rIx0, DL.rIx1, DL.rIx2, DL.rIx3, DL.rSl_t, DL.rSl_s, DL.rSl_o, DL.rSl_r, DL.rSlDO, DL.rSet_r, DL.rSetDO_0, DL.rSetDO_s, DL.rLen_t, DL.rLen_o, DL.rLen_s, DL.rLen_r, DL.rLenDO, DL.rLenDO_d, DL.rList_t, DL.rList_o, DL.rList_r, DL.rListDO, DL.rTuple_t, DL.rTuple_r, DL.rInt_i, DL.rInt_b, DL.rMax, DL.rMin, DL.rSz0, DL.rSz1, DL.rSz2, DL.rSz3, DL.rSz4, DL.rSz5, DL.rSz6, DL.rSz7, DL.rSz8, Option.some.injEq, DL.DO.lst.injEq, exists_eq_left', exists_eq_left, DL.put_same, DL.put_put, true_and, and_true, List.map, List.replicate, List.length, List.cons_append, List.nil_append, Nat.reduceSub, Nat.reduceAdd, decide_eq_true_eq, if_true, if_false, Bool.false_eq_true, Bool.not_true, Bool.not_false])
local macro_rules | `(tactic| walk_at "go") => `(tactic| repeat (first | (refine DL.sq ?_; try walk_at "dl") | (refine DL.ifY rfl ?_; try walk_at "dl") | (refine DL.inY rfl (by decide) ?_; try walk_at "dl") | (refine DL.inN rfl (by decide) ?_; try walk_at "dl") | (refine DL.ifN (by decide) ?_; try walk_at "dl")))
abbrev s_l_one_step : Stmt := top 38
theorem sc_l_one_step : FnScope ["_law_state", "_law_level", "_law_known", "_law_names", "_law_deck_here", "_law_word", "_law_k", "_law_form_here", "_law_side", "_law_j", "_law_name"] ["_law_state", "_law_level", "_law_known", "_law_names"] (defScope s_l_one_step) := ⟨rfl, rfl, rfl, by decide +kernel, rfl, by decide +kernel, by decide +kernel⟩
theorem eqForms {x : Fx} {F G : Fo} {S : Store} {Q : KD} (f : x.fit) (h : x.fo F) (g : x.fo G) (hh : F.ht ≤ 11) (hg : G.ht ≤ 11) (q : ∀ b, Q (.bl b) S) : oEq F.d G.d S Q := by
  have h1 := (Fo.pl (f.sk h)).le (show F.ht + 3 ≤ 14 by omega)
  have h2 := (Fo.pl (f.sk g)).le (show G.ht + 3 ≤ 14 by omega)
  rw [F.d_eq] at h1 ⊢
  rw [G.d_eq] at h2 ⊢
  exact eqTrees h1 h2 (by omega) (by omega) q
section
variable {P : Program} {w : World} {K : PySem.W.Frag} {mg : Str → Option Value} {base : Heap}
theorem df_one {k : Nat} (T : Bt mg) (A : At K mg "_law_one_step" "_law_one_step" s_l_one_step) (G_l_next : Df P w K mg base "_law_next" k spNext) (G_l_at : Df P w K mg base "_law_at" k spAt) (G_l_add : Df P w K mg base "_law_add" k spAdd)
    (G_l_find : Df P w K mg base "_law_find" k spFind) (G_l_put : Df P w K mg base "_law_put" k (spPut 10)) (G_l_swap : Df P w K mg base "_law_swap" k (spSwap 13)) (G_l_least_step : Df P w K mg base "_law_least_step" k spLeast)
    (G_l_two_step : Df P w K mg base "_law_two_step" k spStep) : Df P w K mg base "_law_one_step" (k + 1) spStep := by
  have nd := sc_l_one_step.nd
  refine df_mk A rfl sc_l_one_step (fun _ _ _ _ _ _ us hl => match us, hl with | [_, _, _, _], _ => rfl) (fun ds S Q h => ?_) (fun f cdv A outer s H E hr ds S Q h => ?_)
  · obtain ⟨x, L, X, a, kn, lv, nm, rfl, _⟩ := h
    rfl
  obtain ⟨x, L, X, a, kn, lv, nm, rfl, hs, ha, hkn0, hL, hnl, hnm, h⟩ := h
  obtain ⟨hk, hne, hkl, hkn⟩ := hkn0
  have hu := hu_of hr
  have hkp : 0 < kn.length := List.length_pos_iff.mpr hne
  have fit := hs.fit
  have L1 : 1 ≤ L.length := by
    obtain ⟨z, hz⟩ := List.exists_mem_of_ne_nil kn hne
    have := hkn z hz
    omega
  have fin : ∀ {S1 : Store} {F : Fo} {r : Rs}, Go x S S1 L X → x.fo F → F.ht ≤ 10 → r.plain L.length → spAdd [.ref x.q, .int (lv : Nat), F.d, r.d] S1 fun d S' => ∃ S'', DL.Sub S'' S' ∧ Q d S'' := fun {S1 F r} g hF hh hp =>
    ⟨x, L, X, lv, F, r, rfl, g.2, hL, hF, hh, fun S2 g2 => ⟨S2, Sub.refl, h ⟨lv, F, r⟩ S2 (g.trans g2) rfl hp⟩⟩
  refine ⟨_, (dss_cons (ds_set (i := 4) nd rfl (Or.inl rfl) (de_ix hu (dv 0) de_str))
    (dss_cons (ds_set (i := 5) nd rfl (Or.inl rfl) (de_ix hu (de_lst (da_cons de_str (da_cons de_str (da_cons de_str (da_cons de_str (da_cons de_str (da_cons de_str (da_cons de_str (da_cons de_str da_nil))))))))) (de_call G_l_next hr rfl (da_cons (dv 4) (da_cons de_int da_nil)))))
    (dss_cons (ds_set (i := 6) nd rfl (Or.inl rfl) (de_call G_l_find hr rfl (da_cons (dv 0) (da_cons (dv 2) (da_cons (dv 5) da_nil)))))
    (dss_cons (ds_set (i := 7) nd rfl (Or.inl rfl) (de_call G_l_at hr rfl (da_cons (dv 0) (da_cons (de_callB (cd_max2 rfl) rfl T.max_ (by decide +kernel) (da_cons (dv 6) (da_cons de_int da_nil))) da_nil))))
    (dss_cons (ds_if (dt_w (dw_and (dt_cmp od_gt (dv 6) de_int (nomark _)) (dw_and1 (dt_cmp (od_eq hr.units) (dv 5) de_str (nomark _))))) (dss_cons (ds_set (i := 8) nd rfl (Or.inl rfl) (de_call G_l_next hr rfl (da_cons (dv 4) (da_cons de_int da_nil))))
    (dss_one (ds_ret (de_call G_l_add hr rfl (da_cons (dv 0) (da_cons (dv 1) (da_cons (de_ix hu (dv 7) (de_op od_add de_int (dv 8))) (da_cons (de_tup (da_cons (de_ix hu (de_lst (da_cons de_str (da_cons de_str da_nil))) (dv 8)) (da_cons (dv 6) da_nil))) da_nil)))))))) dss_nil)
    (dss_cons (ds_if (dt_w (dw_and (dt_cmp od_gt (dv 6) de_int (nomark _)) (dw_and1 (dt_cmp (od_eq hr.units) (dv 5) de_str (nomark _))))) (dss_one (ds_for PassesOwn.never rfl (di_any (dv 2)) (dg_name (i := 9) nd rfl (Or.inl rfl)) (dss_one (ds_if (dt_cmp (od_eq hr.units) (de_call G_l_at hr rfl (da_cons (dv 0) (da_cons (dv 9) da_nil))) (de_ix hu (dv 7) de_int) (nomark _)) (dss_one (ds_ret (de_call G_l_add hr rfl (da_cons (dv 0) (da_cons (dv 1) (da_cons (de_ix hu (dv 7) de_int) (da_cons (de_tup (da_cons de_str (da_cons (dv 6) (da_cons (dv 9) da_nil)))) da_nil))))))) dss_nil)))) dss_nil)
    (dss_cons (ds_if (dt_w (dw_and (dt_cmp od_gt (dv 6) de_int (nomark _)) (dw_and (dt_cmp (od_eq hr.units) (dv 5) de_str (nomark _)) (dw_and1 (dt_cmp (od_ne hr.units) (dv 3) (de_tup da_nil) (nomark _)))))) (dss_cons (ds_set (i := 10) nd rfl (Or.inl rfl) (de_ix hu (dv 3) (de_call G_l_next hr rfl (da_cons (dv 4) (da_cons (de_callB cd_len rfl T.len_ (by decide +kernel) (da_cons (dv 3) da_nil)) da_nil)))))
    (dss_one (ds_ret (de_call G_l_add hr rfl (da_cons (dv 0) (da_cons (dv 1) (da_cons (de_call G_l_put hr rfl (da_cons (de_ix hu (dv 7) de_int) (da_cons (de_ix hu (dv 7) de_int) (da_cons (dv 10) da_nil)))) (da_cons (de_tup (da_cons de_str (da_cons (dv 6) (da_cons (dv 10) da_nil)))) da_nil)))))))) dss_nil)
    (dss_cons (ds_if (dt_w (dw_and (dt_cmp od_gt (dv 6) de_int (nomark _)) (dw_and1 (dt_cmp (od_eq hr.units) (dv 5) de_str (nomark _))))) (dss_cons (ds_set (i := 9) nd rfl (Or.inl rfl) (de_ix hu (dv 2) (de_call G_l_next hr rfl (da_cons (dv 4) (da_cons (de_callB cd_len rfl T.len_ (by decide +kernel) (da_cons (dv 2) da_nil)) da_nil)))))
    (dss_one (ds_ret (de_call G_l_add hr rfl (da_cons (dv 0) (da_cons (dv 1) (da_cons (de_call G_l_swap hr rfl (da_cons (de_call G_l_at hr rfl (da_cons (dv 0) (da_cons (dv 9) da_nil))) (da_cons (de_ix hu (dv 7) de_int) (da_cons (de_ix hu (dv 7) de_int) da_nil)))) (da_cons (de_tup (da_cons de_str (da_cons (dv 6) (da_cons (dv 9) da_nil)))) da_nil)))))))) dss_nil)
    (dss_cons (ds_if (dt_w (dw_and (dt_cmp od_gt (dv 6) de_int (nomark _)) (dw_and1 (dt_cmp (od_eq hr.units) (dv 5) de_str (nomark _))))) (dss_one (ds_ret (de_call G_l_least_step hr rfl (da_cons (dv 0) (da_cons (dv 1) (da_cons (dv 2) (da_cons (dv 6) da_nil))))))) dss_nil)
    (dss_cons (ds_if (dt_w (dw_and (dt_cmp od_gt (dv 6) de_int (nomark _)) (dw_and (dt_cmp (od_eq hr.units) (dv 5) de_str (nomark _)) (dw_and1 (dt_cmp (od_in hu) (de_ix hu (dv 7) de_int) (de_ix hu (de_ix hu (dv 0) de_str) de_int) rfl))))) (dss_one (ds_ret (de_call G_l_add hr rfl (da_cons (dv 0) (da_cons (dv 1) (da_cons (de_tup (da_cons de_str (da_cons (de_tup (da_cons (de_tup (da_cons (de_tup (da_cons (de_ix hu (dv 7) de_int) (da_cons de_int da_nil))) da_nil)) (da_cons de_int da_nil))) (da_cons (de_tup (da_cons (de_tup da_nil) (da_cons de_int da_nil))) da_nil)))) (da_cons (de_tup (da_cons de_str (da_cons (dv 6) da_nil))) da_nil))))))) dss_nil)
    (dss_one (ds_ret (de_call G_l_two_step hr rfl (da_cons (dv 0) (da_cons (dv 1) (da_cons (dv 2) (da_cons (dv 3) da_nil))))))))))))))))), ?_⟩
  refine sq ?_
  walk_at "dl"
  refine ixDk hs.q_ sv1 ?_
  refine sq ?_
  walk_at "dl"
  intro e0 n0
  generalize hS0 : put S e0 _ = S1
  have g1 := (Go.refl hs).gen hS0 n0
  have k0 := gen_at hS0
  have f0 := hs.fresh n0
  refine ⟨x.p, x.c, _, rfl, g1.2.d_, by decide, by decide, fun r S2 r0 r1 c2 => ?_⟩
  have g2 := g1.deck c2
  have k0 := (g1.2.deck c2).keep f0 k0
  walk_at "dl"
  refine ixL_mem k0 r0 r1 fun d hd => ?_
  obtain ⟨wd, rfl⟩ : ∃ wd : Str, d = .str wd := by
    simp only [List.mem_cons, List.not_mem_nil, or_false] at hd
    rcases hd with rfl | rfl | rfl | rfl | rfl | rfl | rfl | rfl <;> exact ⟨_, rfl⟩
  refine sq ?_
  walk_at "dl"
  refine ⟨x, L, X, a, kn, wd, rfl, g2.2, ha, ⟨g2.keep ha hk, hne, hkl, hkn⟩, fun j S3 g3' hj => ?_⟩
  have g3 := g2.trans g3'
  refine sq ?_
  walk_at "dl"
  have emax : (if (1 : Int) > (j : Nat) then (1 : Int) else (j : Nat)) = ((max j 1 : Nat) : Int) := by
    split <;> omega
  rw [emax]
  have hmj : 1 ≤ max j 1 ∧ max j 1 ≤ L.length := by
    rcases hj with ⟨rfl, _⟩ | ⟨m, _⟩
    · exact ⟨by omega, by omega⟩
    · have := hkn j m
      omega
  refine ⟨x, L, X, max j 1, L[max j 1 - 1], rfl, g3.2, hmj.1, List.getElem?_eq_getElem (by omega), ?_⟩
  have okF := hs.ok L[max j 1 - 1] (List.getElem_mem _)
  have hjF : 0 < j → j ∈ kn ∧ L[max j 1 - 1].f.hd = wd := fun z => by
    rcases hj with ⟨rfl, _⟩ | ⟨m, n, en, hd⟩
    · omega
    · refine ⟨m, ?_⟩
      have e : max j 1 = j := by omega
      have := hkn j m
      rw [List.getElem?_eq_getElem (by omega)] at en
      cases en
      simpa only [e] using hd
  have hleast : 0 < j → wd = "least" → LeastAt L kn j := fun z e => by
    rcases hj with ⟨rfl, _⟩ | ⟨m, n, en, hd⟩
    · omega
    · exact ⟨m, n, en, hd.trans e⟩
  generalize L[max j 1 - 1].f = F at okF hjF
  obtain ⟨okF, htF⟩ := okF
  have hk3 := g3.keep ha hk
  have p1 : 0 < j → ∀ wd ∈ W1, (Rs.w1 wd j).plain L.length := fun z wd hw => ⟨hw, rfl, rfl, fun k hk => by
    cases List.mem_singleton.mp hk
    exact hkn j (hjF z).1⟩
  refine seq_if (fun S4 => S4 = S3 ∧ 0 < j ∧ wd = "and") (fun S4 => S4 = S3) (fun N N1 N2 => ?_) ?_ ?_
  · walk_at "dl"
    refine ite2 (fun e1 => ?_) (fun e1 => ?_)
    · by_cases e : wd = "and"
      · rw [decide_eq_true e]; exact N1 _ ⟨rfl, by omega, e⟩
      · rw [decide_eq_false e]; exact N2 _ rfl
    · exact N2 _ rfl
  · rintro S4 ⟨rfl, j0, ew⟩
    obtain ⟨G1, G2, rfl⟩ := hd_bin .and ((hjF j0).2.trans ew)
    walk_at "dl"
    refine sq ?_
    walk_at "dl"
    refine ⟨x.p, x.c, _, rfl, g3.2.d_, by decide, by decide, fun r3 S5 r30 r31 c5 => ?_⟩
    have g5 := g3.deck c5
    walk_at "dl"
    obtain rfl | rfl : r3 = 0 ∨ r3 = 1 := by omega
    · refine ⟨G1.d, rfl, fun e6 n6 => ⟨.str "left", rfl, ?_⟩⟩
      exact fin (r := .w1 "left" j) (F := G1) (g5.sub (Sub.new n6)) okF.1 (by rw [ht_bin] at htF; omega) (p1 j0 _ (by simp [W1]))
    · refine ⟨G2.d, rfl, fun e6 n6 => ⟨.str "right", rfl, ?_⟩⟩
      exact fin (r := .w1 "right" j) (F := G2) (g5.sub (Sub.new n6)) okF.2 (by rw [ht_bin] at htF; omega) (p1 j0 _ (by simp [W1]))
  rintro S4 rfl
  walk_at "dl"
  refine seq_cut (fun δ' S' => S' = S4 ∧ ∃ o9 : Option D, δ' = [some (.ref x.q), some (.int (lv : Nat)), some (.ref a), some (.tup (nm.map D.str)), some (.ref x.p), some (.str wd), some (.int (j : Nat)), some F.d, none, o9, none]) (fun N hN => ?_) ?_
  · walk_at "dl"
    have skip := hN _ S4 ⟨rfl, none, rfl⟩
    refine ite2 (fun e1 => ?_) (fun e1 => ?_)
    · by_cases e : wd = "if"
      · refine ifY (by simpa using e) ?_
        have j0 : 0 < j := by omega
        obtain ⟨G1, G2, rfl⟩ := hd_bin .if ((hjF j0).2.trans e)
        rw [ht_bin] at htF
        refine ⟨⟨_, hk3⟩, ?_⟩
        refine forB_seq (kn.map inD) (fun i δ S' => S' = S4 ∧ ∃ o9 : Option D, δ = [some (.ref x.q), some (.int (lv : Nat)), some (.ref a), some (.tup (nm.map D.str)), some (.ref x.p), some (.str wd), some (.int (j : Nat)), some (Fo.bin .if G1 G2).d, none, o9, none]) ⟨rfl, none, rfl⟩ (fun i δ S' _ hp => hp.1 ▸ listJ hk3) ?_ ?_
        · rintro i d δ S5 hi ⟨rfl, o9, rfl⟩
          obtain ⟨y, my, rfl⟩ := List.mem_map.mp (List.mem_of_getElem? hi)
          have hy := hkn y my
          walk_at "dl"
          refine ⟨x, L, X, y, L[y - 1], rfl, g3.2, hy.1, List.getElem?_eq_getElem (by omega), ?_⟩
          have okY := hs.ok L[y - 1] (List.getElem_mem _)
          refine ⟨G1.d, rfl, ?_⟩
          refine eqForms fit okY.1 okF.1 (by omega) (by omega) fun b => ?_
          cases b with
          | true =>
            walk_at "dl"
            refine ⟨G2.d, rfl, ?_⟩
            walk_at "dl"
            exact fin (r := .w2 "then" j y) (F := G2) g3 okF.2 (by omega) ⟨by simp [Rs.ok, W2], rfl, rfl, fun k hk => by
              simp only [Rs.nums, List.mem_cons, List.not_mem_nil, or_false] at hk
              rcases hk with rfl | rfl
              · exact hkn _ (hjF j0).1
              · exact hy⟩
          | false =>
            walk_at "dl"
            exact ⟨_, rfl⟩
        · rintro δ S5 ⟨rfl, o9, rfl⟩
          exact hN _ _ ⟨rfl, o9, rfl⟩
      · refine ifN (by simpa using e) ?_
        exact skip
    · exact skip
  rintro δ' S5 ⟨rfl, o9, rfl⟩
  walk_at "dl"
  refine seq_if (fun S4 => S4 = S5 ∧ 0 < j ∧ wd = "every" ∧ 0 < nm.length) (fun S4 => S4 = S5) (fun N N1 N2 => ?_) ?_ ?_
  · walk_at "dl"
    refine ite2 (fun e1 => ?_) (fun e1 => ?_)
    · by_cases e : wd = "every"
      · refine ifY (by simpa using e) ?_
        refine neNames hnm ?_
        walk_at "dl"
        cases nm with
        | nil => exact N2 _ rfl
        | cons z zs => exact N1 _ ⟨rfl, by omega, e, by simp⟩
      · refine ifN (by simpa using e) ?_
        exact N2 _ rfl
    · exact N2 _ rfl
  · rintro S4 ⟨rfl, j0, ew, n0⟩
    obtain ⟨y, G, rfl⟩ := hd_qu .every ((hjF j0).2.trans ew)
    have htG : G.ht + 1 ≤ 10 := htF
    walk_at "dl"
    refine sq ?_
    walk_at "dl"
    rw [List.length_map]
    refine ⟨x.p, x.c, _, rfl, g3.2.d_, by omega, by omega, fun r3 S6 r30 r31 c6 => ?_⟩
    have g6 := g3.deck c6
    walk_at "dl"
    refine ixStrs_mem r30 r31 fun nn mn => ?_
    have tn : TT nn := .inl (hnm nn mn)
    walk_at "dl"
    refine ⟨G.d, rfl, ⟨.str y, rfl, ?_⟩⟩
    walk_at "dl"
    refine callPut fit okF.2 (by omega) okF.1 tn fun S7 b7 => ?_
    walk_at "dl"
    exact fin (r := .wn "at" j nn) (F := G.pt y nn) (g6.sub b7) (Fo.pt_ok tn okF.2) (by rw [Fo.pt_ht]; omega) ⟨by simp [Rs.ok, WN], rfl, rfl, fun k hk => by
      cases List.mem_singleton.mp hk
      exact hkn _ (hjF j0).1⟩
  rintro S4 rfl
  walk_at "dl"
  have two : ∀ {lit : Str} {N : Bool → Store → Prop} {cc : Prop} [Decidable cc], (0 < j → wd = lit → N true S4) → N false S4 → (cc → 0 < j) → (if cc then N (id (decide (wd = lit))) S4 else N false S4) := by
    intro lit N cc _ h1 h2 hc
    by_cases c : cc
    · rw [if_pos c]
      by_cases e : wd = lit
      · rw [decide_eq_true e]; exact h1 (hc c) e
      · rw [decide_eq_false e]; exact h2
    · rw [if_neg c]; exact h2
  refine seq_if (fun S5 => S5 = S4 ∧ 0 < j ∧ wd = "same") (fun S5 => S5 = S4) (fun N N1 N2 => ?_) ?_ ?_
  · walk_at "dl"
    exact two (fun a b => N1 _ ⟨rfl, a, b⟩) (N2 _ rfl) (fun c => by omega)
  · rintro S5 ⟨rfl, j0, ew⟩
    obtain ⟨y, y2, rfl⟩ := hd_same ((hjF j0).2.trans ew)
    walk_at "dl"
    refine sq ?_
    walk_at "dl"
    refine lenL hk3 ?_
    rw [List.length_map]
    refine ⟨x.p, x.c, _, rfl, g3.2.d_, by omega, by omega, fun r3 S6 r30 r31 c6 => ?_⟩
    have g6 := g3.deck c6
    walk_at "dl"
    refine ixKn (g6.keep ha hk) r30 r31 fun z mz => ?_
    have hz := hkn z mz
    walk_at "dl"
    refine ⟨x, L, X, z, L[z - 1], rfl, g6.2, hz.1, List.getElem?_eq_getElem (by omega), ?_⟩
    have okZ := hs.ok L[z - 1] (List.getElem_mem _)
    refine ⟨.str y, rfl, ⟨.str y2, rfl, ?_⟩⟩
    walk_at "dl"
    refine callSwap fit okZ.1 okZ.2 okF.1 okF.2 fun S7 b7 => ?_
    walk_at "dl"
    exact fin (r := .w2 "put" j z) (F := L[z - 1].f.sw y y2) (g6.sub b7) (Fo.sw_ok okF.2 okZ.1) (by rw [Fo.sw_ht]; exact okZ.2) ⟨by simp [Rs.ok, W2], rfl, rfl, fun k hk => by
      simp only [Rs.nums, List.mem_cons, List.not_mem_nil, or_false] at hk
      rcases hk with rfl | rfl
      · exact hkn _ (hjF j0).1
      · exact hz⟩
  rintro S5 rfl
  walk_at "dl"
  refine seq_if (fun S6 => S6 = S5 ∧ 0 < j ∧ wd = "least") (fun S6 => S6 = S5) (fun N N1 N2 => ?_) ?_ ?_
  · walk_at "dl"
    exact two (fun a b => N1 _ ⟨rfl, a, b⟩) (N2 _ rfl) (fun c => by omega)
  · rintro S6 ⟨rfl, j0, ew⟩
    walk_at "dl"
    refine ⟨x, L, X, a, kn, lv, j, rfl, g3.2, ha, ⟨hk3, hne, hkl, hkn⟩, hL, hleast j0 ew, fun n S7 g7 hlv hp => ?_⟩
    exact ⟨S7, Sub.refl, h n S7 (g3.trans g7) hlv hp⟩
  rintro S6 rfl
  walk_at "dl"
  refine seq_if (fun S7 => S7 = S6 ∧ 0 < j ∧ wd = "is") (fun S7 => S7 = S6) (fun N N1 N2 => ?_) ?_ ?_
  · walk_at "dl"
    split
    · rename_i e1
      split
      · rename_i e2
        have j0 : 0 < j := by omega
        obtain ⟨y, kk, rfl⟩ := hd_is ((hjF j0).2.trans e2)
        refine ⟨.str kk, rfl, ?_⟩
        refine ixDk g3.2.q_ sv4 ?_
        walk_at "dl"
        refine ⟨x.ks, strsOf_of x.ks, ?_⟩
        by_cases m : kk ∈ x.ks
        · rw [decide_eq_true m]; exact N1 _ ⟨rfl, j0, e2⟩
        · rw [decide_eq_false m]; exact N2 _ rfl
      · exact N2 _ rfl
    · exact N2 _ rfl
  · rintro S7 ⟨rfl, j0, ew⟩
    obtain ⟨y, kk, rfl⟩ := hd_is ((hjF j0).2.trans ew)
    walk_at "dl"
    refine ⟨.str kk, rfl, ?_⟩
    walk_at "dl"
    exact fin (r := .w1 "one" j) (F := .least ⟨[(kk, 1)], 0⟩ ⟨[], 1⟩) g3 ⟨⟨fun p hp => by cases List.mem_singleton.mp hp; exact okF.2, by simp⟩, ⟨(fun p hp => by cases hp), by simp⟩⟩ (by simp [Fo.ht]) (p1 j0 _ (by simp [W1]))
  rintro S7 rfl
  walk_at "dl"
  refine ⟨x, L, X, a, kn, lv, nm, rfl, g3.2, ha, ⟨hk3, hne, hkl, hkn⟩, hL, hnl, hnm, fun n S8 g8 hlv hp => ?_⟩
  exact ⟨S8, Sub.refl, h n S8 (g3.trans g8) hlv hp⟩
end
end K61

set_option Elab.async false
set_option maxRecDepth 100000
set_option linter.unusedVariables false
namespace DL
open PySem PySem.Spec PyProof.Rows L2
theorem if_cut {c : TTD} {t u : TSD} {G : EndsD} {δ : StD} {S : Store} (Pt Pf : Store → Prop) (hc : ∀ N : Bool → Store → Prop, (∀ S', Pt S' → N true S') → (∀ S', Pf S' → N false S') → c δ S N)
    (ht : ∀ S', Pt S' → t G δ S') (hf : ∀ S', Pf S' → u G δ S') : tIfSD c t u G δ S :=
  hc _ (fun S' p => by show if true = true then _ else _; rw [if_pos rfl]; exact ht S' p) fun S' p => by show if false = true then _ else _; rw [if_neg (by simp)]; exact hf S' p
end DL
namespace K61
open PySem PySem.Spec PyProof.Rows L2 DL FO
local macro_rules | `(tactic| walk_at "dl") => `(tactic| try simp only [DL.tAsgD, DL.asg, DL.tVarD, DL.lk, DL.sto, DL.stos, DL.tOpD, DL.tCD, DL.tCallD, DL.tConsD, DL.tNilD, DL.tRetD, DL.endsD, DL.startD, DL.tIfSD, DL.tTestD, DL.tNextD, DL.tDropD, DL.tAndD, DL.tOrD, DL.tNotD, DL.tAndV, DL.tOrV, DL.tNotV, DL.tIfD, DL.tNegD, DL.tTupD, DL.tLstD, DL.tSetD, DL.tMD, DL.tSlD, DL.tPartD, DL.tNoD, DL.tRevD, DL.tForD, DL.tLcD, DL.tIterD, DL.tRng1D, DL.tRng2D, DL.tYesD, DL.wipeD, DL.tDictD, DL.tDictOne, DL.tFldD, DL.tMethD, DL.tMakeD, DL.tSetF, DL.tThaw, DL.thaw, DL.tLRg, DL.tChainD, DL.tDispD, DL.tPairsD, DL.tEnumD, DL.tZipD, DL.tCallLD, DL.tSortSet, DL.tRng3D, DL.keyOf, DL.emE_rr, DL.tLess, DL.tLessS, DL.itOk, DL.rAdd_ii, DL.rAdd_ss, DL.rAdd_tt, DL.rAdd_rr, DL.rSub_ii, DL.rMod_ii, DL.rDiv_ii, DL.rPow_ii, DL.rMul_ii, DL.rMul_ri, DL.rLt_ii, DL.rLt_ss, DL.rLe_ii, DL.rGt_ii, DL.rGe_ii, DL.rEq_ii, DL.rEq_ss, DL.rEq_bb, DL.rNe_ii, DL.rNe_ss, DL.rNe_bb, DL.rEq_rr, DL.rNe_rr, DL.rEq_tt, DL.rNe_tt, DL.rIn_st, DL.rNotIn_st, DL.rIn_r, DL.rNotIn_r, DL.rIn_ss, DL.rInDO_sl, DL.rInDO_il, DL.rInDO_sd, DL.rInDO_id, DL.rIsN_n, DL.rIsN_t, DL.rIsN_i, DL.rIsN_s, DL.rIsN_r, DL.rNotN_n, DL.rNotN_t, DL.rNotN_i, DL.rNotN_s, DL.rNotN_r, DL.rIx_t, DL.rIx_r, DL.rIx_s, DL.rIxDO_l, DL.rIxDO_ds, DL.rIx0, DL.rIx1, DL.rIx2, DL.rIx3, DL.rSl_t, DL.rSl_s, DL.rSl_o, DL.rSl_r, DL.rSlDO, DL.rSet_r, DL.rSetDO_0, DL.rSetDO_s, DL.rLen_t, DL.rLen_o, DL.rLen_s, DL.rLen_r, DL.rLenDO, DL.rLenDO_d, DL.rList_t, DL.rList_o, DL.rList_r, DL.rListDO, DL.rTuple_t, DL.rTuple_r, DL.rInt_i, DL.rInt_b, DL.rMax, DL.rMin, DL.rSz0, DL.rSz1, DL.rSz2, DL.rSz3, DL.rSz4, DL.rSz5, DL.rSz6, DL.rSz7, DL.rSz8, Option.some.injEq, DL.DO.lst.injEq, exists_eq_left', exists_eq_left, DL.put_same, DL.put_put, true_and, and_true, List.map, List.replicate, List.length, List.cons_append, List.nil_append, Nat.reduceSub, Nat.reduceAdd, decide_eq_true_eq, if_true, if_false, Bool.false_eq_true, Bool.not_true, Bool.not_false])
local macro_rules | `(tactic| walk_at "dlh") => `(tactic| try simp only [*, DL.tAsgD, DL.asg, DL.tVarD, DL.lk, DL.sto, DL.stos, DL.tOpD, DL.tCD, DL.tCallD, DL.tConsD, DL.tNilD, DL.tRetD, DL.endsD, DL.startD, DL.tIfSD, DL.tTestD, DL.tNextD, DL.tDropD, DL.tAndD, DL.tOrD, DL.tNotD, DL.tAndV, DL.tOrV, DL.tNotV, DL.tIfD, DL.tNegD, DL.tTupD, DL.tLstD, DL.tSetD, DL.tMD, DL.tSlD, DL.tPartD, DL.tNoD, DL.tRevD, DL.tForD, DL.tLcD, DL.tIterD, DL.tRng1D, DL.tRng2D, DL.tYesD, DL.wipeD, DL.tDictD, DL.tDictOne, DL.tFldD, DL.tMethD, DL.tMakeD, DL.tSetF, DL.tThaw, DL.thaw, DL.tLRg, DL.tChainD, DL.tDispD, DL.tPairsD, DL.tEnumD, DL.tZipD, DL.tCallLD, DL.tSortSet, DL.tRng3D, DL.keyOf, DL.emE_rr, DL.tLess, DL.tLessS, DL.itOk, DL.rAdd_ii, DL.rAdd_ss, DL.rAdd_tt, DL.rAdd_rr, DL.rSub_ii, DL.rMod_ii, DL.rDiv_ii, DL.rPow_ii, DL.rMul_ii, DL.rMul_ri, DL.rLt_ii, DL.rLt_ss, DL.rLe_ii, DL.rGt_ii, DL.rGe_ii, DL.rEq_ii, DL.rEq_ss, DL.rEq_bb, DL.rNe_ii, DL.rNe_ss, DL.rNe_bb, DL.rEq_rr, DL.rNe_rr, DL.rEq_tt, DL.rNe_tt, DL.rIn_st, DL.rNotIn_st, DL.rIn_r, DL.rNotIn_r, DL.rIn_ss, DL.rInDO_sl, DL.rInDO_il, DL.rInDO_sd, DL.rInDO_id, DL.rIsN_n, DL.rIsN_t, DL.rIsN_i, DL.rIsN_s, DL.rIsN_r, DL.rNotN_n, DL.rNotN_t, DL.rNotN_i, DL.rNotN_s, DL.rNotN_r, DL.rIx_t, DL.rIx_r, DL.rIx_s, DL.rIxDO_l, DL.rIxDO_ds, DL.rIx0, DL.rIx1, DL.rIx2, DL.rIx3, DL.rSl_t, DL.rSl_s, DL.rSl_o, DL.rSl_r, DL.rSlDO, DL.rSet_r, DL.rSetDO_0, DL.rSetDO_s, DL.rLen_t, DL.rLen_o, DL.rLen_s, DL.rLen_r, DL.rLenDO, DL.rLenDO_d, DL.rList_t, DL.rList_o, DL.rList_r, DL.rListDO, DL.rTuple_t, DL.rTuple_r, DL.rInt_i, DL.rInt_b, DL.rMax, DL.rMin, DL.rSz0, DL.rSz1, DL.rSz2, DL.rSz3, DL.rSz4, DL.rSz5, DL.rSz6, DL.rSz7, DL.rSz8, Option.some.injEq, DL.DO.lst.injEq, exists_eq_left', exists_eq_left, DL.put_same, DL.put_put, true_and, and_true, List.map, List.replicate, List.length, List.cons_append, List.nil_append, Nat.reduceSub, Nat.reduceAdd, decide_eq_true_eq, if_true, if_false, Bool.false_eq_true, Bool.not_true, Bool.not_false])
local macro_rules | `(tactic| walk_at "go") => `(tactic| repeat (first | (refine DL.sq ?_; try walk_at "dl") | (refine DL.ifY rfl ?_; try walk_at "dl") | (refine DL.inY rfl (by decide) ?_; try walk_at "dl") | (refine DL.inN rfl (by decide) ?_; try walk_at "dl") | (refine DL.ifN (by decide) ?_; try walk_at "dl")))
abbrev s_l_block : Stmt := top 45
theorem sc_l_block : FnScope ["_law_state", "_law_level", "_law_known", "_law_names", "_law_many", "_law_k"] ["_law_state", "_law_level", "_law_known", "_law_names", "_law_many"] (defScope s_l_block) := ⟨rfl, rfl, rfl, by decide +kernel, rfl, by decide +kernel, by decide +kernel⟩
def LastLv (lv : Nat) (M : List Ln) : Prop := ∀ z, M.getLast? = some z → z.lv = lv
/-- the last line's level -/
def AtLv (lv : Nat) (L : List Ln) : Prop := L ≠ [] ∧ LastLv lv L
theorem AtLv.le {lv m : Nat} {L : List Ln} (h : AtLv lv L) (e : m ≤ lv) : LastLe L m := ⟨fun z => absurd z h.1, fun z hz => by have := h.2 z hz; omega⟩
/-- lines inside a box of this level -/
def Inn (lv : Nat) (M : List Ln) : Prop := ∀ m ∈ M, lv ≤ m.lv ∧ ¬ (m.lv = lv ∧ m.r.opens = true)
structure Aft (x : Fx) (S S' : Store) (L : List Ln) (lv : Nat) (M : List Ln) (X' : List Str) : Prop where
  go : Go x S S' (L ++ M) X'
  inn : Inn lv M
  gd : Gd (L ++ M)
  xl : X'.length ≤ 6 + (L ++ M).length
def bnd : Nat → Nat
  | 0 => 36
  | 1 => 16
  | 2 => 6
  | _ => 1
def spBx (m : Nat) : SpD := fun ds S Q => ∃ (x : Fx) (L : List Ln) (X : List Str) (a : Addr) (kn : List Nat) (lv : Nat) (nm : List Str), ds = [.ref x.q, .int (lv : Nat), .ref a, .tup (nm.map D.str)] ∧ St x S L X ∧ a ∉ x.as ∧ Kn S a kn L ∧ Gd L ∧ AtLv lv L ∧ X.length ≤ 6 + L.length ∧ L.length ≤ 13 ∧ lv ≤ 2 ∧ 3 < lv + m ∧
  nm.length ≤ 6 + lv ∧ kn.length ≤ 60 + 10 * lv ∧ (∀ s ∈ nm, nmS s) ∧ ∀ (M : List Ln) (X' : List Str) (S' : Store), Aft x S S' L lv M X' → M ≠ [] → LastLv lv M → M.length ≤ bnd lv → Q (.int (((L ++ M).length : Nat) : Int)) S'
def spBlk (m : Nat) : SpD := fun ds S Q => ∃ (x : Fx) (L : List Ln) (X : List Str) (a : Addr) (kn : List Nat) (lv : Nat) (nm : List Str) (many : Nat), ds = [.ref x.q, .int (lv : Nat), .ref a, .tup (nm.map D.str), .int (many : Nat)] ∧ St x S L X ∧ a ∉ x.as ∧ Kn S a kn L ∧ Gd L ∧ AtLv lv L ∧ X.length ≤ 6 + L.length ∧ L.length ≤ 60 ∧ lv ≤ 3 ∧ 3 < lv + m ∧
  nm.length ≤ 6 + lv ∧ kn.length ≤ 52 + 10 * lv ∧ (∀ s ∈ nm, nmS s) ∧ many ≤ 8 ∧ ∀ (b : Addr) (kn' : List Nat) (M : List Ln) (X' : List Str) (S' : Store), Aft x S S' L lv M X' → S' b = some (.lst (kn'.map inD)) → M.length ≤ many * bnd lv → (L ++ M).length ≤ max L.length (13 + bnd lv) + many →
    (1 ≤ many → M ≠ [] ∧ LastLv lv M ∧ kn'.getLast? = some (L ++ M).length) → Q (.ref b) S'
theorem Aft.nil {x : Fx} {S S' : Store} {L : List Ln} {X : List Str} {lv : Nat} (g : Go x S S' L X) (h : Gd L) (hx : X.length ≤ 6 + L.length) : Aft x S S' L lv [] X :=
  ⟨by rw [List.append_nil]; exact g, (fun m hm => by cases hm), by rw [List.append_nil]; exact h, by rw [List.append_nil]; exact hx⟩
theorem Aft.app {x : Fx} {S S1 S2 : Store} {L M N : List Ln} {X X' : List Str} {lv : Nat} (h : Aft x S S1 L lv M X) (g : Aft x S1 S2 (L ++ M) lv N X') : Aft x S S2 L lv (M ++ N) X' :=
  ⟨by rw [← List.append_assoc]; exact h.go.trans g.go, (fun m hm => by
    rcases List.mem_append.mp hm with z | z
    · exact h.inn m z
    · exact g.inn m z), by rw [← List.append_assoc]; exact g.gd, by rw [← List.append_assoc]; exact g.xl⟩
/-- a step's line -/
theorem Aft.one {x : Fx} {S S' : Store} {L : List Ln} {X : List Str} {lv : Nat} {n : Ln} (g : Go x S S' (L ++ [n]) X) (h : Gd L) (hx : X.length ≤ 6 + L.length) (e : n.lv = lv) (p : n.r.plain L.length) (at_ : AtLv lv L) : Aft x S S' L lv [n] X :=
  ⟨g, (fun m hm => by
    cases List.mem_singleton.mp hm
    exact ⟨by omega, fun z => by rw [p.2.1] at z; exact absurd z.2 (by decide)⟩), h.plain p (at_.le (by omega)), by rw [List.length_append]; omega⟩
theorem Aft.pre {x : Fx} {S S1 S' : Store} {L M : List Ln} {X X' : List Str} {lv : Nat} (g : Go x S S1 L X) (h : Aft x S1 S' L lv M X') : Aft x S S' L lv M X' := ⟨g.trans h.go, h.inn, h.gd, h.xl⟩
theorem LastLv.app {lv : Nat} {M N : List Ln} (h : LastLv lv N) (n : N ≠ []) : LastLv lv (M ++ N) := fun z hz => by
  rw [List.getLast?_append] at hz
  cases e : N.getLast? with
  | none => exact absurd (List.getLast?_eq_none_iff.mp e) n
  | some y =>
    rw [e] at hz
    cases hz
    exact h _ e
theorem AtLv.app {lv : Nat} {M N : List Ln} (h : LastLv lv N) (n : N ≠ []) : AtLv lv (M ++ N) := ⟨by simp [n], h.app n⟩
theorem LastLv.one {lv : Nat} {n : Ln} (h : n.lv = lv) : LastLv lv [n] := fun z hz => by
  simp at hz; subst hz; exact h
def BlkI (x : Fx) (S : Store) (L : List Ln) (lv : Nat) (nm : List Str) (many : Nat) (kn : List Nat) (i : Nat) (δ : StD) (S' : Store) : Prop :=
  ∃ (b : Addr) (kn' : List Nat) (M : List Ln) (X' : List Str) (o5 : Option D), δ = [some (.ref x.q), some (.int (lv : Nat)), some (.ref b), some (.tup (nm.map D.str)), some (.int (many : Nat)), o5] ∧ Aft x S S' L lv M X' ∧ b ∉ x.as ∧ Kn S' b kn' (L ++ M) ∧ kn'.length ≤ kn.length + i ∧
    M.length ≤ i * bnd lv ∧ (L ++ M).length ≤ max L.length (13 + bnd lv) + i ∧ (1 ≤ i → M ≠ [] ∧ LastLv lv M ∧ kn'.getLast? = some (L ++ M).length)
theorem bnd_pos (lv : Nat) : 1 ≤ bnd lv := by unfold bnd; split <;> omega
theorem bnd_le (lv : Nat) : bnd lv ≤ 36 := by unfold bnd; split <;> omega
section
variable {P : Program} {w : World} {K : PySem.W.Frag} {mg : Str → Option Value} {base : Heap}
theorem df_block {k m : Nat} (T : Bt mg) (A : At K mg "_law_block" "_law_block" s_l_block) (G_l_next : Df P w K mg base "_law_next" k spNext) (G_l_one_step : Df P w K mg base "_law_one_step" k spStep) (G_l_box : Df P w K mg base "_law_box" k (spBx m)) :
    Df P w K mg base "_law_block" (k + 1) (spBlk m) := by
  have nd := sc_l_block.nd
  refine df_mk A rfl sc_l_block (fun _ _ _ _ _ _ us hl => match us, hl with | [_, _, _, _, _], _ => rfl) (fun ds S Q h => ?_) (fun f cdv A outer s H E hr ds S Q h => ?_)
  · obtain ⟨x, L, X, a, kn, lv, nm, many, rfl, _⟩ := h
    rfl
  obtain ⟨x, L, X, a, kn, lv, nm, many, rfl, hs, ha, hkn0, hgd, hat, hX, hL, hlv, hm, hnl, hk0, hnm, hmany, h⟩ := h
  obtain ⟨hk, hne, hkl, hkn⟩ := hkn0
  have hu := hu_of hr
  have fit := hs.fit
  refine ⟨_, (dss_cons (ds_for PassesOwn.never rfl (di_range1 rfl T.range_ (da_cons (dv 4) da_nil)) (dg_name (i := 5) nd rfl (Or.inl rfl)) (dss_one (ds_if (dt_w (dw_and (dt_cmp od_lt (dv 1) de_int (nomark _)) (dw_and (dt_cmp od_lt (de_callB cd_len rfl T.len_ (by decide +kernel) (da_cons (de_ix hu (dv 0) de_str) da_nil)) de_int (nomark _)) (dw_and1 (dt_cmp (od_eq hr.units) (de_call G_l_next hr rfl (da_cons (de_ix hu (dv 0) de_str) (da_cons de_int da_nil))) de_int (nomark _)))))) (dss_one (ds_set (i := 2) nd rfl (Or.inl rfl) (de_op od_add (dv 2) (de_lst (da_cons (de_call G_l_box hr rfl (da_cons (dv 0) (da_cons (dv 1) (da_cons (dv 2) (da_cons (dv 3) da_nil))))) da_nil))))) (dss_one (ds_set (i := 2) nd rfl (Or.inl rfl) (de_op od_add (dv 2) (de_lst (da_cons (de_call G_l_one_step hr rfl (da_cons (dv 0) (da_cons (dv 1) (da_cons (dv 2) (da_cons (dv 3) da_nil))))) da_nil))))))))
    (dss_one (ds_ret (dv 2)))), ?_⟩
  refine sq ?_
  walk_at "dl"
  refine ⟨⟨by omega, by omega⟩, ?_⟩
  rw [Int.toNat_natCast]
  refine forB_rng (BlkI x S L lv nm many kn) ⟨a, kn, [], X, none, rfl, .nil (.refl hs) hgd hX, ha, ⟨hk, hne, hkl, by rw [List.append_nil]; exact hkn⟩, by omega, by simp, by simp; omega, fun z => by omega⟩ ?_ ?_
  · rintro i δ S1 hi ⟨b, kn', M, X', o5, rfl, af, hb, ⟨hk', hne', hkl', hkn'⟩, hkk, hM, hLM, hlast⟩
    have hat2 : AtLv lv (L ++ M) := by
      rcases Nat.eq_zero_or_pos i with z | z
      · subst z
        have : M = [] := List.length_eq_zero_iff.mp (by omega)
        rw [this, List.append_nil]; exact hat
      · exact .app (hlast z).2.1 (hlast z).1
    have hlen2 : (L ++ M).length ≤ 120 := by
      have : bnd lv ≤ 36 := by unfold bnd; split <;> omega
      omega
    have fin : ∀ (N : List Ln) (X2 : List Str) (S3 : Store), Aft x S1 S3 (L ++ M) lv N X2 → N ≠ [] → LastLv lv N → N.length ≤ bnd lv → ((L ++ M).length ≤ 13 ∨ N.length = 1) → ∀ e0 e1, S3 e0 = none → put S3 e0 (.lst [.int (((L ++ M ++ N).length : Nat) : Int)]) e1 = none →
        BlkI x S L lv nm many kn (i + 1) [some (.ref x.q), some (.int (lv : Nat)), some (.ref e1), some (.tup (nm.map D.str)), some (.int (many : Nat)), some (.int (0 + (i : Nat)))] (put (put S3 e0 (.lst [.int (((L ++ M ++ N).length : Nat) : Int)])) e1 (.lst (kn'.map inD ++ [.int (((L ++ M ++ N).length : Nat) : Int)]))) := by
      intro N X2 S3 af3 hN hlN hbN hor e0 e1 n0 n1
      have af4 := af.app af3
      have hN1 : 1 ≤ N.length := List.length_pos_iff.mpr hN
      have el : (L ++ (M ++ N)).length = (L ++ M).length + N.length := by simp [Nat.add_assoc]
      have b1 := bnd_pos lv
      refine ⟨e1, kn' ++ [(L ++ M ++ N).length], M ++ N, X2, _, rfl, ⟨(af4.go.sub (Sub.new n0)).sub (Sub.new n1), af4.inn, af4.gd, af4.xl⟩, ?_, ⟨?_, by simp, ?_, ?_⟩, ?_, ?_, ?_, fun _ => ⟨by simp [hN], hlN.app hN, ?_⟩⟩
      · exact (af4.go.sub (Sub.new n0)).2.fresh n1
      · rw [put_same, List.map_append]; rfl
      · simp; omega
      · intro z hz
        rw [el]
        rcases List.mem_append.mp hz with hz | hz
        · have := hkn' z hz; omega
        · cases List.mem_singleton.mp hz
          rw [List.length_append]
          omega
      · simp; omega
      · rw [List.length_append, Nat.add_mul]; omega
      · rw [el]
        rcases hor with z | z <;> omega
      · rw [List.getLast?_concat, List.append_assoc]
    simp only [DL.asg, DL.sto]
    refine if_cut (fun S2 => Go x S1 S2 (L ++ M) X' ∧ lv ≤ 2 ∧ (L ++ M).length ≤ 13) (fun S2 => Go x S1 S2 (L ++ M) X') (fun N N1 N2 => ?_) ?_ ?_
    · walk_at "dl"
      split
      · refine ixDk af.go.2.q_ sv2 ?_
        rw [rLen_r]
        refine lenL af.go.2.l_ ?_
        walk_at "dl"
        rw [List.length_map]
        split
        · refine ixDk af.go.2.q_ sv1 ?_
          refine ⟨x.p, x.c, _, rfl, af.go.2.d_, by decide, by decide, fun r S2 r0 r1 c2 => ?_⟩
          have g2 := af.go.2.deck c2
          walk_at "dl"
          by_cases e : r = 0
          · rw [decide_eq_true e]; exact N1 _ ⟨g2, by omega, by omega⟩
          · rw [decide_eq_false e]; exact N2 _ g2
        · exact N2 _ (.refl af.go.2)
      · exact N2 _ (.refl af.go.2)
    · rintro S2 ⟨g2, hlv2, h13⟩
      walk_at "dl"
      refine ⟨x, L ++ M, X', b, kn', lv, nm, rfl, g2.2, hb, ⟨g2.keep hb hk', hne', hkl', hkn'⟩, af.gd, hat2, af.xl, h13, hlv2, hm, hnl, by omega, hnm, fun N X2 S3 af3 hN hlN hbN => ?_⟩
      intro e0 n0
      have hb3 := af3.go.keep hb (g2.keep hb hk')
      refine ⟨_, _, (put_ne (ne_new hb3 n0)).trans hb3, rfl, szOk (by simp; omega), fun e1 n1 => ?_⟩
      exact fin N X2 S3 (Aft.pre g2 af3) hN hlN hbN (.inl h13) e0 e1 n0 n1
    · rintro S2 g2
      walk_at "dl"
      refine ⟨x, L ++ M, X', b, kn', lv, nm, rfl, g2.2, hb, ⟨g2.keep hb hk', hne', hkl', hkn'⟩, by omega, by omega, hnm, fun n S3 g3 hlvn hp => ?_⟩
      intro e0 n0
      have hb3 := g3.keep hb (g2.keep hb hk')
      refine ⟨_, _, (put_ne (ne_new hb3 n0)).trans hb3, rfl, szOk (by simp; omega), fun e1 n1 => ?_⟩
      have := fin [n] X' S3 (Aft.one (g2.trans g3) af.gd af.xl hlvn hp hat2) (by simp) (.one hlvn) (bnd_pos lv) (.inr rfl) e0 e1 n0
      rw [show (L ++ M ++ [n]).length = (L ++ M).length + 1 by simp [Nat.add_assoc]] at this
      exact this n1
  · rintro δ S1 ⟨b, kn', M, X', o5, rfl, af, hb, ⟨hk', hne', hkl', hkn'⟩, hkk, hM, hLM, hlast⟩
    walk_at "dl"
    exact ⟨S1, Sub.refl, h b kn' M X' S1 af hk' hM hLM hlast⟩
end
end K61

set_option Elab.async false
set_option maxRecDepth 100000
set_option linter.unusedVariables false
namespace K61
open PySem PySem.Spec PyProof.Rows L2 DL FO
local macro_rules | `(tactic| walk_at "dl") => `(tactic| try simp only [DL.tAsgD, DL.asg, DL.tVarD, DL.lk, DL.sto, DL.stos, DL.tOpD, DL.tCD, DL.tCallD, DL.tConsD, DL.tNilD, DL.tRetD, DL.endsD, DL.startD, DL.tIfSD, DL.tTestD, DL.tNextD, DL.tDropD, DL.tAndD, DL.tOrD, DL.tNotD, DL.tAndV, DL.tOrV, DL.tNotV, DL.tIfD, DL.tNegD, DL.tTupD, DL.tLstD, DL.tSetD, DL.tMD, DL.tSlD, DL.tPartD, DL.tNoD, DL.tRevD, DL.tForD, DL.tLcD, DL.tIterD, DL.tRng1D, DL.tRng2D, DL.tYesD, DL.wipeD, DL.tDictD, DL.tDictOne, DL.tFldD, DL.tMethD, DL.tMakeD, DL.tSetF, DL.tThaw, DL.thaw, DL.tLRg, DL.tChainD, DL.tDispD, DL.tPairsD, DL.tEnumD, DL.tZipD, DL.tCallLD, DL.tSortSet, DL.tRng3D, DL.keyOf, DL.emE_rr, DL.tLess, DL.tLessS, DL.itOk, DL.rAdd_ii, DL.rAdd_ss, DL.rAdd_tt, DL.rAdd_rr, DL.rSub_ii, DL.rMod_ii, DL.rDiv_ii, DL.rPow_ii, DL.rMul_ii, DL.rMul_ri, DL.rLt_ii, DL.rLt_ss, DL.rLe_ii, DL.rGt_ii, DL.rGe_ii, DL.rEq_ii, DL.rEq_ss, DL.rEq_bb, DL.rNe_ii, DL.rNe_ss, DL.rNe_bb, DL.rEq_rr, DL.rNe_rr, DL.rEq_tt, DL.rNe_tt, DL.rIn_st, DL.rNotIn_st, DL.rIn_r, DL.rNotIn_r, DL.rIn_ss, DL.rInDO_sl, DL.rInDO_il, DL.rInDO_sd, DL.rInDO_id, DL.rIsN_n, DL.rIsN_t, DL.rIsN_i, DL.rIsN_s, DL.rIsN_r, DL.rNotN_n, DL.rNotN_t, DL.rNotN_i, DL.rNotN_s, DL.rNotN_r, DL.rIx_t, DL.rIx_r, DL.rIx_s, DL.rIxDO_l, DL.rIxDO_ds, DL.rIx0, DL.rIx1, DL.rIx2, DL.rIx3, DL.rSl_t, DL.rSl_s, DL.rSl_o, DL.rSl_r, DL.rSlDO, DL.rSet_r, DL.rSetDO_0, DL.rSetDO_s, DL.rLen_t, DL.rLen_o, DL.rLen_s, DL.rLen_r, DL.rLenDO, DL.rLenDO_d, DL.rList_t, DL.rList_o, DL.rList_r, DL.rListDO, DL.rTuple_t, DL.rTuple_r, DL.rInt_i, DL.rInt_b, DL.rMax, DL.rMin, DL.rSz0, DL.rSz1, DL.rSz2, DL.rSz3, DL.rSz4, DL.rSz5, DL.rSz6, DL.rSz7, DL.rSz8, Option.some.injEq, DL.DO.lst.injEq, exists_eq_left', exists_eq_left, DL.put_same, DL.put_put, true_and, and_true, List.map, List.replicate, List.length, List.cons_append, List.nil_append, Nat.reduceSub, Nat.reduceAdd, decide_eq_true_eq, if_true, if_false, Bool.false_eq_true, Bool.not_true, Bool.not_false])
local macro_rules | `(tactic| walk_at "dlh") => `(tactic| try simp only [*, DL.tAsgD, DL.asg, DL.tVarD, DL.lk, DL.sto, DL.stos, DL.tOpD, DL.tCD, DL.tCallD, DL.tConsD, DL.tNilD, DL.tRetD, DL.endsD, DL.startD, DL.tIfSD, DL.tTestD, DL.tNextD, DL.tDropD, DL.tAndD, DL.tOrD, DL.tNotD, DL.tAndV, DL.tOrV, DL.tNotV, DL.tIfD, DL.tNegD, DL.tTupD, DL.tLstD, DL.tSetD, DL.tMD, DL.tSlD, DL.tPartD, DL.tNoD, DL.tRevD, DL.tForD, DL.tLcD, DL.tIterD, DL.tRng1D, DL.tRng2D, DL.tYesD, DL.wipeD, DL.tDictD, DL.tDictOne, DL.tFldD, DL.tMethD, DL.tMakeD, DL.tSetF, DL.tThaw, DL.thaw, DL.tLRg, DL.tChainD, DL.tDispD, DL.tPairsD, DL.tEnumD, DL.tZipD, DL.tCallLD, DL.tSortSet, DL.tRng3D, DL.keyOf, DL.emE_rr, DL.tLess, DL.tLessS, DL.itOk, DL.rAdd_ii, DL.rAdd_ss, DL.rAdd_tt, DL.rAdd_rr, DL.rSub_ii, DL.rMod_ii, DL.rDiv_ii, DL.rPow_ii, DL.rMul_ii, DL.rMul_ri, DL.rLt_ii, DL.rLt_ss, DL.rLe_ii, DL.rGt_ii, DL.rGe_ii, DL.rEq_ii, DL.rEq_ss, DL.rEq_bb, DL.rNe_ii, DL.rNe_ss, DL.rNe_bb, DL.rEq_rr, DL.rNe_rr, DL.rEq_tt, DL.rNe_tt, DL.rIn_st, DL.rNotIn_st, DL.rIn_r, DL.rNotIn_r, DL.rIn_ss, DL.rInDO_sl, DL.rInDO_il, DL.rInDO_sd, DL.rInDO_id, DL.rIsN_n, DL.rIsN_t, DL.rIsN_i, DL.rIsN_s, DL.rIsN_r, DL.rNotN_n, DL.rNotN_t, DL.rNotN_i, DL.rNotN_s, DL.rNotN_r, DL.rIx_t, DL.rIx_r, DL.rIx_s, DL.rIxDO_l, DL.rIxDO_ds, DL.rIx0, DL.rIx1, DL.rIx2, DL.rIx3, DL.rSl_t, DL.rSl_s, DL.rSl_o, DL.rSl_r, DL.rSlDO, DL.rSet_r, DL.rSetDO_0, DL.rSetDO_s, DL.rLen_t, DL.rLen_o, DL.rLen_s, DL.rLen_r, DL.rLenDO, DL.rLenDO_d, DL.rList_t, DL.rList_o, DL.rList_r, DL.rListDO, DL.rTuple_t, DL.rTuple_r, DL.rInt_i, DL.rInt_b, DL.rMax, DL.rMin, DL.rSz0, DL.rSz1, DL.rSz2, DL.rSz3, DL.rSz4, DL.rSz5, DL.rSz6, DL.rSz7, DL.rSz8, Option.some.injEq, DL.DO.lst.injEq, exists_eq_left', exists_eq_left, DL.put_same, DL.put_put, true_and, and_true, List.map, List.replicate, List.length, List.cons_append, List.nil_append, Nat.reduceSub, Nat.reduceAdd, decide_eq_true_eq, if_true, if_false, Bool.false_eq_true, Bool.not_true, Bool.not_false])
local macro_rules | `(tactic| walk_at "go") => `(tactic| repeat (first | (refine DL.sq ?_; try walk_at "dl") | (refine DL.ifY rfl ?_; try walk_at "dl") | (refine DL.inY rfl (by decide) ?_; try walk_at "dl") | (refine DL.inN rfl (by decide) ?_; try walk_at "dl") | (refine DL.ifN (by decide) ?_; try walk_at "dl")))
abbrev s_l_any_box : Stmt := top 43
theorem sc_l_any_box : FnScope ["_law_state", "_law_level", "_law_known", "_law_names", "_law_name", "_law_i", "_law_last", "_law_letter_here"] ["_law_state", "_law_level", "_law_known", "_law_names"] (defScope s_l_any_box) := ⟨rfl, rfl, rfl, by decide +kernel, rfl, by decide +kernel, by decide +kernel⟩
abbrev s_l_called_box : Stmt := top 44
theorem sc_l_called_box : FnScope ["_law_state", "_law_level", "_law_known", "_law_names", "_law_k", "_law_name", "_law_word", "_law_letter_here", "_law_form_here", "_law_i", "_law_last"] ["_law_state", "_law_level", "_law_known", "_law_names"] (defScope s_l_called_box) := ⟨rfl, rfl, rfl, by decide +kernel, rfl, by decide +kernel, by decide +kernel⟩
/-- inside a box that opened behind L -/
structure Bxd (x : Fx) (S S' : Store) (L : List Ln) (lv : Nat) (o : Ln) (M : List Ln) (X' : List Str) : Prop where
  go : Go x S S' (L ++ o :: M) X'
  op : o.r.opens = true
  olv : o.lv = lv + 1
  inn : Inn (lv + 1) M
  last : LastLv (lv + 1) (o :: M)
  gd : Gd (L ++ o :: M)
  xl : X'.length ≤ 6 + (L ++ o :: M).length
theorem app1 {L M : List Ln} {o n : Ln} : L ++ o :: (M ++ [n]) = L ++ o :: M ++ [n] := by simp
theorem Bxd.add {x : Fx} {S S' S2 : Store} {L M : List Ln} {lv : Nat} {o n : Ln} {X' : List Str} (h : Bxd x S S' L lv o M X') (g : Go x S' S2 (L ++ o :: M ++ [n]) X') (e : n.lv = lv + 1) (p : n.r.plain (L ++ o :: M).length) : Bxd x S S2 L lv o (M ++ [n]) X' :=
  ⟨by rw [app1]; exact h.go.trans g, h.op, h.olv, (fun m hm => by
    rcases List.mem_append.mp hm with z | z
    · exact h.inn m z
    · cases List.mem_singleton.mp z
      exact ⟨by omega, fun z => by rw [p.2.1] at z; exact absurd z.2 (by decide)⟩), LastLv.app (M := o :: M) (LastLv.one e) (by simp), by rw [app1]; exact h.gd.plain p ((AtLv.app h.last (by simp)).le (by omega)), by rw [app1, List.length_append]; have := h.xl; omega⟩
theorem Bxd.close {x : Fx} {S S' S2 : Store} {L M : List Ln} {lv : Nat} {o n : Ln} {X' : List Str} {w : Str} (h : Bxd x S S' L lv o M X') (g : Go x S' S2 (L ++ o :: M ++ [n]) X') (e : n.lv = lv) (hw : w ∈ WB) (er : n.r = .bx w (L.length + 1)) : Aft x S S2 L lv (o :: M ++ [n]) X' ∧ LastLv lv (o :: M ++ [n]) := by
  have el : L ++ (o :: M ++ [n]) = L ++ o :: M ++ [n] := by rw [List.append_assoc]
  refine ⟨⟨by rw [el]; exact h.go.trans g, fun m hm => ?_, ?_, ?_⟩, LastLv.app (LastLv.one e) (by simp)⟩
  · rcases List.mem_append.mp hm with z | z
    · rcases List.mem_cons.mp z with rfl | z
      · have := h.olv
        exact ⟨by omega, fun z => by omega⟩
      · have := h.inn m z
        exact ⟨by omega, fun z => by omega⟩
    · cases List.mem_singleton.mp z
      exact ⟨by omega, fun z => by rw [er] at z; exact absurd z.2 (by simp [Rs.opens])⟩
  · rw [el]
    refine h.gd.snoc ⟨n, last_get, by rw [er]; exact hw, fun j hj => ?_, fun i hi => ?_, (fun z => by rw [er] at z; simp [Rs.opens] at z), by rw [take_last, er]; exact (AtLv.app h.last (by simp)).le (by show n.lv ≤ lv + 1; omega)⟩
    · rw [er] at hj
      cases List.mem_singleton.mp hj
      simp
    · rw [er] at hi
      cases List.mem_singleton.mp hi
      refine ⟨box_ok h.op (fun m hm => ?_) (fun z hz => ?_) (by have := h.olv; omega), by rw [er]; rfl⟩
      · have h1 := h.inn m hm
        rw [← h.olv] at h1
        exact h1
      · rw [h.olv]; exact h.last z hz
  · rw [el, List.length_append]; have := h.xl; omega
theorem Bxd.line {x : Fx} {S S' : Store} {L M : List Ln} {lv : Nat} {o : Ln} {X' : List Str} (h : Bxd x S S' L lv o M X') : ∃ n, (L ++ o :: M)[(L ++ o :: M).length - 1]? = some n ∧ x.fo n.f ∧ n.f.ht ≤ 10 := by
  have hl : (L ++ o :: M).length - 1 < (L ++ o :: M).length := by simp
  exact ⟨_, List.getElem?_eq_getElem hl, h.go.2.ok _ (List.getElem_mem _)⟩
theorem Bxd.sub {x : Fx} {S S' S2 : Store} {L M : List Ln} {lv : Nat} {o : Ln} {X' : List Str} (h : Bxd x S S' L lv o M X') (b : DL.Sub S' S2) : Bxd x S S2 L lv o M X' := ⟨h.go.sub b, h.op, h.olv, h.inn, h.last, h.gd, h.xl⟩
theorem Bxd.deck {x : Fx} {S S' S2 : Store} {L M : List Ln} {lv : Nat} {o : Ln} {X' : List Str} (h : Bxd x S S' L lv o M X') (b : Ch x.p x.c S' S2) : Bxd x S S2 L lv o M X' := ⟨h.go.deck b, h.op, h.olv, h.inn, h.last, h.gd, h.xl⟩
theorem bnd_box {lv n : Nat} (h : lv ≤ 2) (hn : n ≤ 2 * bnd (lv + 1) + 4) : n ≤ bnd lv := by
  rcases lv with _ | _ | _ | lv
  · simp [bnd] at hn ⊢; omega
  · simp [bnd] at hn ⊢; omega
  · simp [bnd] at hn ⊢; omega
  · omega
theorem atI_lastN {kn : List Nat} {z : Nat} (h : kn.getLast? = some z) : atI (kn.map inD) (-1) = some (inD z) := by
  cases kn with
  | nil => simp at h
  | cons y ys =>
    unfold atI
    rw [ixN_last (by simp)]
    show (List.map inD (y :: ys))[_]? = _
    rw [List.getLast?_eq_getElem?] at h
    rw [List.getElem?_map, List.length_map, h]
    rfl
theorem callBlk {x : Fx} {S S1 : Store} {L : List Ln} {o : Ln} {X1 : List Str} {lv m : Nat} {e : Addr} {kn : List Nat} {nm : List Str} {r : Int} {Q : KD} (g : Go x S S1 (L ++ [o]) X1) (hgd : Gd (L ++ [o])) (op : o.r.opens = true) (olv : o.lv = lv + 1) (he : S1 e = some (.lst ((kn ++ [L.length + 1]).map inD))) (fe : e ∉ x.as)
    (hX : X1.length ≤ 6 + (L ++ [o]).length) (hL : L.length ≤ 13) (hlv : lv ≤ 2) (hm : 3 < lv + (m + 1)) (hnl : nm.length ≤ 6 + (lv + 1)) (hkn : ∀ k ∈ kn, 1 ≤ k ∧ k ≤ L.length) (hkl : kn.length ≤ 60 + 10 * lv) (hnm : ∀ s ∈ nm, nmS s) (r0 : 0 ≤ r) (r1 : r < 2)
    (q : ∀ (b : Addr) (M : List Ln) (X' : List Str) (S' : Store), Bxd x S S' L lv o M X' → M.length ≤ 2 * bnd (lv + 1) → Q (inD (L ++ o :: M).length) S') : spBlk m [.ref x.q, .int ((lv : Nat) + 1), .ref e, .tup (nm.map D.str), .int (1 + r)] S1 (fun d S' => oIx d (.int (-1)) S' Q) := by
  obtain ⟨rn, rfl⟩ : ∃ n : Nat, r = n := ⟨r.toNat, by omega⟩
  refine ⟨x, L ++ [o], X1, e, kn ++ [L.length + 1], lv + 1, nm, 1 + rn, rfl, g.2, fe, ⟨he, by simp, by simp; omega, fun z hz => ?_⟩, hgd, .app (LastLv.one olv) (by simp), hX, by simp; omega, by omega, by omega, by omega, by simp; omega, hnm, by omega, fun b kn' M X' S' af hb hM _ hlast => ?_⟩
  · rw [List.length_append, List.length_singleton]
    rcases List.mem_append.mp hz with z1 | z1
    · have := hkn z z1; omega
    · cases List.mem_singleton.mp z1; omega
  obtain ⟨hne, hll, hgl⟩ := hlast (by omega)
  have el : L ++ [o] ++ M = L ++ o :: M := by simp
  have := af.go
  have h1 := af.gd
  have h2 := af.xl
  rw [el] at this h1 h2 hgl
  rw [rIx_r]
  refine ixL hb (atI_lastN hgl) ?_
  exact q b M X' S' ⟨g.trans this, op, olv, af.inn, LastLv.app (M := [o]) hll hne, h1, h2⟩ (by
    have : (1 + rn) * bnd (lv + 1) ≤ 2 * bnd (lv + 1) := Nat.mul_le_mul_right _ (by omega)
    omega)
section
variable {P : Program} {w : World} {K : PySem.W.Frag} {mg : Str → Option Value} {base : Heap}
theorem df_any_box {k m : Nat} (T : Bt mg) (A : At K mg "_law_any_box" "_law_any_box" s_l_any_box) (G_l_next : Df P w K mg base "_law_next" k spNext) (G_l_at : Df P w K mg base "_law_at" k spAt) (G_l_add : Df P w K mg base "_law_add" k spAdd) (G_l_new : Df P w K mg base "_law_new" k spNew)
    (G_l_deep : Df P w K mg base "_law_deep" k (spDeep 13)) (G_l_letter : Df P w K mg base "_law_letter" k (spLetter 13)) (G_l_swap : Df P w K mg base "_law_swap" k (spSwap 13)) (G_l_block : Df P w K mg base "_law_block" k (spBlk m)) :
    Df P w K mg base "_law_any_box" (k + 1) (spBx (m + 1)) := by
  have nd := sc_l_any_box.nd
  refine df_mk A rfl sc_l_any_box (fun _ _ _ _ _ _ us hl => match us, hl with | [_, _, _, _], _ => rfl) (fun ds S Q h => ?_) (fun f cdv A outer s H E hr ds S Q h => ?_)
  · obtain ⟨x, L, X, a, kn, lv, nm, rfl, _⟩ := h
    rfl
  obtain ⟨x, L, X, a, kn, lv, nm, rfl, hs, ha, hkn0, hgd, hat, hX, hL, hlv, hm, hnl, hk0, hnm, h⟩ := h
  obtain ⟨hk, hne, hkl, hkn⟩ := hkn0
  have hu := hu_of hr
  have fit := hs.fit
  refine ⟨_, (dss_cons (ds_set (i := 4) nd rfl (Or.inl rfl) (de_call G_l_new hr rfl (da_cons (dv 0) da_nil)))
    (dss_cons (ds_set (i := 5) nd rfl (Or.inl rfl) (de_call G_l_add hr rfl (da_cons (dv 0) (da_cons (de_op od_add (dv 1) de_int) (da_cons (de_tup (da_cons de_str (da_cons (dv 4) (da_cons (dv 4) da_nil)))) (da_cons (de_tup (da_cons de_str (da_cons (dv 4) da_nil))) da_nil))))))
    (dss_cons (ds_set (i := 6) nd rfl (Or.inl rfl) (de_ix hu (de_call G_l_block hr rfl (da_cons (dv 0) (da_cons (de_op od_add (dv 1) de_int) (da_cons (de_op od_add (dv 2) (de_lst (da_cons (dv 5) da_nil))) (da_cons (de_op od_add (dv 3) (de_tup (da_cons (dv 4) da_nil))) (da_cons (de_op od_add de_int (de_call G_l_next hr rfl (da_cons (de_ix hu (dv 0) de_str) (da_cons de_int da_nil)))) da_nil)))))) (de_neg de_int)))
    (dss_cons (ds_set (i := 7) nd rfl (Or.inl rfl) (de_call G_l_letter hr rfl (da_cons (de_call G_l_at hr rfl (da_cons (dv 0) (da_cons (dv 6) da_nil))) da_nil)))
    (dss_cons (ds_if (dt_w (dw_or (dt_cmp (od_eq hr.units) (dv 7) de_str (nomark _)) (dw_or1 (dt_cmp od_gt (de_call G_l_deep hr rfl (da_cons (de_call G_l_at hr rfl (da_cons (dv 0) (da_cons (dv 6) da_nil))) da_nil)) de_int (nomark _))))) (dss_cons (ds_set (i := 6) nd rfl (Or.inl rfl) (de_call G_l_add hr rfl (da_cons (dv 0) (da_cons (de_op od_add (dv 1) de_int) (da_cons (de_tup (da_cons de_str (da_cons (dv 4) (da_cons (dv 4) da_nil)))) (da_cons (de_tup (da_cons de_str da_nil)) da_nil))))))
    (dss_one (ds_set (i := 7) nd rfl (Or.inl rfl) de_str))) dss_nil)
    (dss_one (ds_ret (de_call G_l_add hr rfl (da_cons (dv 0) (da_cons (dv 1) (da_cons (de_tup (da_cons de_str (da_cons (dv 7) (da_cons (de_call G_l_swap hr rfl (da_cons (de_call G_l_at hr rfl (da_cons (dv 0) (da_cons (dv 6) da_nil))) (da_cons (dv 4) (da_cons (dv 7) da_nil)))) da_nil)))) (da_cons (de_tup (da_cons de_str (da_cons (dv 5) da_nil))) da_nil)))))))))))), ?_⟩
  refine sq ?_
  walk_at "dl"
  refine ⟨x, L, X, rfl, hs, by omega, fun nn S1 hnn g1 => ?_⟩
  have tn : TT nn := .inl hnn
  refine sq ?_
  walk_at "dl"
  refine ⟨x, L, X ++ [nn], lv + 1, .same nn nn, .any nn, rfl, g1.2, by omega, ⟨tn, tn⟩, by simp [Fo.ht], fun S2 g2' => ?_⟩
  have g2 := g1.trans g2'
  have gd2 : Gd (L ++ [⟨lv + 1, .same nn nn, .any nn⟩]) := hgd.opener rfl trivial (by simp) (hat.le (by simp)) (fun j hj => by cases hj)
  refine sq ?_
  walk_at "dl"
  intro e0 n0
  generalize hS0 : put S2 e0 _ = S3
  have g3 := g2.gen hS0 n0
  have k0 := gen_at hS0
  have hk3 := g3.keep ha hk
  refine ⟨_, _, hk3, rfl, szOk (by simp; omega), fun e1 n1 => ?_⟩
  generalize hS1 : put S3 e1 _ = S4
  have g4 := g3.gen hS1 n1
  have k1 := gen_at hS1
  have f1 := g3.2.fresh n1
  refine ⟨szOk (by simp; omega), ?_⟩
  refine ixDk g4.2.q_ sv1 ?_
  refine ⟨x.p, x.c, _, rfl, g4.2.d_, by decide, by decide, fun r S5 r0 r1 c5 => ?_⟩
  have g5 := g4.deck c5
  have k1 := (g4.2.deck c5).keep f1 k1
  have enm : nm.map D.str ++ [D.str nn] = (nm ++ [nn]).map D.str := by rw [List.map_append]; rfl
  rw [enm]
  walk_at "dl"
  refine callBlk (kn := kn) g5 gd2 rfl rfl (by rw [k1, List.map_append]; rfl) f1 (by simp; omega) hL hlv hm (by simp; omega) hkn hk0 (fun s hs => by
    rcases List.mem_append.mp hs with z | z
    · exact hnm s z
    · cases List.mem_singleton.mp z; exact hnn) r0 r1 fun b M X' S6 bx hM => ?_
  obtain ⟨n, en, okn, htn⟩ := bx.line
  have hl1 : 1 ≤ (L ++ (⟨lv + 1, .same nn nn, .any nn⟩ : Ln) :: M).length := by simp; omega
  refine sq ?_
  walk_at "dl"
  refine ⟨x, _, X', _, n, rfl, bx.go.2, hl1, en, ?_⟩
  refine callLetter fit okn htn fun S7 b7 => ?_
  have bx7 := bx.sub b7
  have tx : TT "x" := .inr ⟨120, by omega, rfl⟩
  refine seq_cut (fun δ' S' => ∃ (M' : List Ln) (lt : Str) (n' : Ln), δ' = [some (.ref x.q), some (.int (lv : Nat)), some (.ref a), some (.tup (nm.map D.str)), some (.str nn), some (inD (L.length + 1)), some (inD (L ++ (⟨lv + 1, .same nn nn, .any nn⟩ : Ln) :: M').length), some (.str lt)] ∧ Bxd x S S' L lv ⟨lv + 1, .same nn nn, .any nn⟩ M' X' ∧ M'.length ≤ 2 * bnd (lv + 1) + 1 ∧ TT lt ∧
    (L ++ (⟨lv + 1, .same nn nn, .any nn⟩ : Ln) :: M')[(L ++ (⟨lv + 1, .same nn nn, .any nn⟩ : Ln) :: M').length - 1]? = some n' ∧ x.fo n'.f ∧ n'.f.ht ≤ 9) (fun N hN => ?_) ?_
  · walk_at "dl"
    have addB : ∀ S8 : Store, Bxd x S S8 L lv ⟨lv + 1, .same nn nn, .any nn⟩ M X' → 
        spAdd [.ref x.q, .int ((lv : Nat) + 1), .tup [.str "same", .str nn, .str nn], .tup [.str "itself"]] S8 fun d S9 => N [some (.ref x.q), some (.int (lv : Nat)), some (.ref a), some (.tup (nm.map D.str)), some (.str nn), some (inD (L.length + 1)), some d, some (.str "x")] S9 := by
      intro S8 bx8
      refine ⟨x, _, X', lv + 1, .same nn nn, .w0 "itself", rfl, bx8.go.2, ?_, ⟨tn, tn⟩, by simp [Fo.ht], fun S9 g9 => ?_⟩
      · have := bnd_le (lv + 1)
        simp; omega
      have := bx8.add g9 rfl ⟨by simp [Rs.ok, W0], by simp [Rs.opens]; decide, rfl, fun j hj => by cases hj⟩
      have el : ((L ++ (⟨lv + 1, .same nn nn, .any nn⟩ : Ln) :: M).length + 1) = (L ++ (⟨lv + 1, .same nn nn, .any nn⟩ : Ln) :: (M ++ [⟨lv + 1, .same nn nn, .w0 "itself"⟩])).length := by simp; omega
      rw [el]
      exact hN _ _ ⟨_, _, ⟨lv + 1, .same nn nn, .w0 "itself"⟩, rfl, this, by simp; omega, tx, by rw [app1]; simp, ⟨tn, tn⟩, by simp [Fo.ht]⟩
    split
    · refine sq ?_
      walk_at "dl"
      exact addB S7 bx7
    · rename_i hle
      refine ⟨x, _, X', _, n, rfl, bx7.go.2, hl1, en, ?_⟩
      refine callDeep fit okn htn fun m2 S8 b8 hm2 => ?_
      have bx8 := bx7.sub b8
      walk_at "dl"
      split
      · refine sq ?_
        walk_at "dl"
        exact addB S8 bx8
      · exact hN _ _ ⟨M, _, n, rfl, bx8, by omega, (letF_is n.f).resolve_left hle, en, okn, by omega⟩
  rintro δ' S8 ⟨M', lt, n', rfl, bx8, hM', tl, en', okn', htn'⟩
  have hl2 : 1 ≤ (L ++ (⟨lv + 1, .same nn nn, .any nn⟩ : Ln) :: M').length := by simp; omega
  walk_at "dl"
  refine ⟨x, _, X', _, n', rfl, bx8.go.2, hl2, en', ?_⟩
  refine callSwap fit okn' (by omega) tn tl fun S9 b9 => ?_
  have bx9 := bx8.sub b9
  walk_at "dl"
  refine ⟨x, _, X', lv, .qu .every lt (n'.f.sw nn lt), .bx "forany" (L.length + 1), rfl, bx9.go.2, ?_, ⟨tl, Fo.sw_ok tl okn'⟩, by simp only [Fo.ht, Fo.sw_ht]; omega, fun S10 g10 => ?_⟩
  · have := bnd_le (lv + 1)
    simp; omega
  obtain ⟨af, hll⟩ := bx9.close g10 rfl (w := "forany") (by simp [WB]) rfl
  have := h _ X' S10 af (by simp) hll (bnd_box hlv (by simp; omega))
  exact ⟨S10, Sub.refl, by simpa [Nat.add_assoc] using this⟩
end
end K61

set_option Elab.async false
set_option maxRecDepth 100000
set_option linter.unusedVariables false
namespace K61
open PySem PySem.Spec PyProof.Rows L2 DL FO
local macro_rules | `(tactic| walk_at "dl") => `(tactic| try simp only [DL.tAsgD, DL.asg, DL.tVarD, DL.lk, DL.sto, DL.stos, DL.tOpD, DL.tCD, DL.tCallD, DL.tConsD, DL.tNilD, DL.tRetD, DL.endsD, DL.startD, DL.tIfSD, DL.tTestD, DL.tNextD, DL.tDropD, DL.tAndD, DL.tOrD, DL.tNotD, DL.tAndV, DL.tOrV, DL.tNotV, DL.tIfD, DL.tNegD, DL.tTupD, DL.tLstD, DL.tSetD, DL.tMD, DL.tSlD, DL.tPartD, DL.tNoD, DL.tRevD, DL.tForD, DL.tLcD, DL.tIterD, DL.tRng1D, DL.tRng2D, DL.tYesD, DL.wipeD, DL.tDictD, DL.tDictOne, DL.tFldD, DL.tMethD, DL.tMakeD, DL.tSetF, DL.tThaw, DL.thaw, DL.tLRg, DL.tChainD, DL.tDispD, DL.tPairsD, DL.tEnumD, DL.tZipD, DL.tCallLD, DL.tSortSet, DL.tRng3D, DL.keyOf, DL.emE_rr, DL.tLess, DL.tLessS, DL.itOk, DL.rAdd_ii, DL.rAdd_ss, DL.rAdd_tt, DL.rAdd_rr, DL.rSub_ii, DL.rMod_ii, DL.rDiv_ii, DL.rPow_ii, DL.rMul_ii, DL.rMul_ri, DL.rLt_ii, DL.rLt_ss, DL.rLe_ii, DL.rGt_ii, DL.rGe_ii, DL.rEq_ii, DL.rEq_ss, DL.rEq_bb, DL.rNe_ii, DL.rNe_ss, DL.rNe_bb, DL.rEq_rr, DL.rNe_rr, DL.rEq_tt, DL.rNe_tt, DL.rIn_st, DL.rNotIn_st, DL.rIn_r, DL.rNotIn_r, DL.rIn_ss, DL.rInDO_sl, DL.rInDO_il, DL.rInDO_sd, DL.rInDO_id, DL.rIsN_n, DL.rIsN_t, DL.rIsN_i, DL.rIsN_s, DL.rIsN_r, DL.rNotN_n, DL.rNotN_t, DL.rNotN_i, DL.rNotN_s, DL.rNotN_r, DL.rIx_t, DL.rIx_r, DL.rIx_s, DL.rIxDO_l, DL.rIxDO_ds, DL.rIx0, DL.rIx1, DL.rIx2, DL.rIx3, DL.rSl_t, DL.rSl_s, DL.rSl_o, DL.rSl_r, DL.rSlDO, DL.rSet_r, DL.rSetDO_0, DL.rSetDO_s, DL.rLen_t, DL.rLen_o, DL.rLen_s, DL.rLen_r, DL.rLenDO, DL.rLenDO_d, DL.rList_t, DL.rList_o, DL.rList_r, DL.rListDO, DL.rTuple_t, DL.rTuple_r, DL.rInt_i, DL.rInt_b, DL.rMax, DL.rMin, DL.rSz0, DL.rSz1, DL.rSz2, DL.rSz3, DL.rSz4, DL.rSz5, DL.rSz6, DL.rSz7, DL.rSz8, Option.some.injEq, DL.DO.lst.injEq, exists_eq_left', exists_eq_left, DL.put_same, DL.put_put, true_and, and_true, List.map, List.replicate, List.length, List.cons_append, List.nil_append, Nat.reduceSub, Nat.reduceAdd, decide_eq_true_eq, if_true, if_false, Bool.false_eq_true, Bool.not_true, Bool.not_false])
local macro_rules | `(tactic| walk_at "dlh") => `(tactic| try simp only [*, DL.tAsgD, DL.asg, DL.tVarD, DL.lk, DL.sto, DL.stos, DL.tOpD, DL.tCD, DL.tCallD, DL.tConsD, DL.tNilD, DL.tRetD, DL.endsD, DL.startD, DL.tIfSD, DL.tTestD, DL.tNextD, DL.tDropD, DL.tAndD, DL.tOrD, DL.tNotD, DL.tAndV, DL.tOrV, DL.tNotV, DL.tIfD, DL.tNegD, DL.tTupD, DL.tLstD, DL.tSetD, DL.tMD, DL.tSlD, DL.tPartD, DL.tNoD, DL.tRevD, DL.tForD, DL.tLcD, DL.tIterD, DL.tRng1D, DL.tRng2D, DL.tYesD, DL.wipeD, DL.tDictD, DL.tDictOne, DL.tFldD, DL.tMethD, DL.tMakeD, DL.tSetF, DL.tThaw, DL.thaw, DL.tLRg, DL.tChainD, DL.tDispD, DL.tPairsD, DL.tEnumD, DL.tZipD, DL.tCallLD, DL.tSortSet, DL.tRng3D, DL.keyOf, DL.emE_rr, DL.tLess, DL.tLessS, DL.itOk, DL.rAdd_ii, DL.rAdd_ss, DL.rAdd_tt, DL.rAdd_rr, DL.rSub_ii, DL.rMod_ii, DL.rDiv_ii, DL.rPow_ii, DL.rMul_ii, DL.rMul_ri, DL.rLt_ii, DL.rLt_ss, DL.rLe_ii, DL.rGt_ii, DL.rGe_ii, DL.rEq_ii, DL.rEq_ss, DL.rEq_bb, DL.rNe_ii, DL.rNe_ss, DL.rNe_bb, DL.rEq_rr, DL.rNe_rr, DL.rEq_tt, DL.rNe_tt, DL.rIn_st, DL.rNotIn_st, DL.rIn_r, DL.rNotIn_r, DL.rIn_ss, DL.rInDO_sl, DL.rInDO_il, DL.rInDO_sd, DL.rInDO_id, DL.rIsN_n, DL.rIsN_t, DL.rIsN_i, DL.rIsN_s, DL.rIsN_r, DL.rNotN_n, DL.rNotN_t, DL.rNotN_i, DL.rNotN_s, DL.rNotN_r, DL.rIx_t, DL.rIx_r, DL.rIx_s, DL.rIxDO_l, DL.rIxDO_ds, DL.rIx0, DL.rIx1, DL.rIx2, DL.rIx3, DL.rSl_t, DL.rSl_s, DL.rSl_o, DL.rSl_r, DL.rSlDO, DL.rSet_r, DL.rSetDO_0, DL.rSetDO_s, DL.rLen_t, DL.rLen_o, DL.rLen_s, DL.rLen_r, DL.rLenDO, DL.rLenDO_d, DL.rList_t, DL.rList_o, DL.rList_r, DL.rListDO, DL.rTuple_t, DL.rTuple_r, DL.rInt_i, DL.rInt_b, DL.rMax, DL.rMin, DL.rSz0, DL.rSz1, DL.rSz2, DL.rSz3, DL.rSz4, DL.rSz5, DL.rSz6, DL.rSz7, DL.rSz8, Option.some.injEq, DL.DO.lst.injEq, exists_eq_left', exists_eq_left, DL.put_same, DL.put_put, true_and, and_true, List.map, List.replicate, List.length, List.cons_append, List.nil_append, Nat.reduceSub, Nat.reduceAdd, decide_eq_true_eq, if_true, if_false, Bool.false_eq_true, Bool.not_true, Bool.not_false])
local macro_rules | `(tactic| walk_at "go") => `(tactic| repeat (first | (refine DL.sq ?_; try walk_at "dl") | (refine DL.ifY rfl ?_; try walk_at "dl") | (refine DL.inY rfl (by decide) ?_; try walk_at "dl") | (refine DL.inN rfl (by decide) ?_; try walk_at "dl") | (refine DL.ifN (by decide) ?_; try walk_at "dl")))
section
variable {P : Program} {w : World} {K : PySem.W.Frag} {mg : Str → Option Value} {base : Heap}
theorem df_called_box {k m : Nat} (T : Bt mg) (A : At K mg "_law_called_box" "_law_called_box" s_l_called_box) (G_l_next : Df P w K mg base "_law_next" k spNext) (G_l_at : Df P w K mg base "_law_at" k spAt) (G_l_add : Df P w K mg base "_law_add" k spAdd) (G_l_new : Df P w K mg base "_law_new" k spNew)
    (G_l_deep : Df P w K mg base "_law_deep" k (spDeep 13)) (G_l_letter : Df P w K mg base "_law_letter" k (spLetter 13)) (G_l_swap : Df P w K mg base "_law_swap" k (spSwap 13)) (G_l_find : Df P w K mg base "_law_find" k spFind) (G_l_put : Df P w K mg base "_law_put" k (spPut 10)) (G_l_two_step : Df P w K mg base "_law_two_step" k spStep) (G_l_block : Df P w K mg base "_law_block" k (spBlk m)) :
    Df P w K mg base "_law_called_box" (k + 1) (spBx (m + 1)) := by
  have nd := sc_l_called_box.nd
  refine df_mk A rfl sc_l_called_box (fun _ _ _ _ _ _ us hl => match us, hl with | [_, _, _, _], _ => rfl) (fun ds S Q h => ?_) (fun f cdv A outer s H E hr ds S Q h => ?_)
  · obtain ⟨x, L, X, a, kn, lv, nm, rfl, _⟩ := h
    rfl
  obtain ⟨x, L, X, a, kn, lv, nm, rfl, hs, ha, hkn0, hgd, hat, hX, hL, hlv, hm, hnl, hk0, hnm, h⟩ := h
  obtain ⟨hk, hne, hkl, hkn⟩ := hkn0
  have hu := hu_of hr
  have fit := hs.fit
  refine ⟨_, (dss_cons (ds_set (i := 4) nd rfl (Or.inl rfl) (de_call G_l_find hr rfl (da_cons (dv 0) (da_cons (dv 2) (da_cons de_str da_nil)))))
    (dss_cons (ds_if (dt_cmp (od_eq hr.units) (dv 4) de_int (nomark _)) (dss_one (ds_ret (de_call G_l_two_step hr rfl (da_cons (dv 0) (da_cons (dv 1) (da_cons (dv 2) (da_cons (dv 3) da_nil))))))) dss_nil)
    (dss_cons (ds_set (i := 5) nd rfl (Or.inl rfl) (de_call G_l_new hr rfl (da_cons (dv 0) da_nil)))
    (dss_cons (ds_asg (de_call G_l_at hr rfl (da_cons (dv 0) (da_cons (dv 4) da_nil))) (dg_tup rfl (dgs_cons (dg_name (i := 6) nd rfl (Or.inl rfl)) (dgs_cons (dg_name (i := 7) nd rfl (Or.inl rfl)) (dgs_cons (dg_name (i := 8) nd rfl (Or.inl rfl)) dgs_nil)))))
    (dss_cons (ds_set (i := 9) nd rfl (Or.inl rfl) (de_call G_l_add hr rfl (da_cons (dv 0) (da_cons (de_op od_add (dv 1) de_int) (da_cons (de_call G_l_put hr rfl (da_cons (dv 8) (da_cons (dv 7) (da_cons (dv 5) da_nil)))) (da_cons (de_tup (da_cons de_str (da_cons (dv 5) (da_cons (dv 4) da_nil)))) da_nil))))))
    (dss_cons (ds_set (i := 10) nd rfl (Or.inl rfl) (de_ix hu (de_call G_l_block hr rfl (da_cons (dv 0) (da_cons (de_op od_add (dv 1) de_int) (da_cons (de_op od_add (dv 2) (de_lst (da_cons (dv 9) da_nil))) (da_cons (de_op od_add (dv 3) (de_tup (da_cons (dv 5) da_nil))) (da_cons (de_op od_add de_int (de_call G_l_next hr rfl (da_cons (de_ix hu (dv 0) de_str) (da_cons de_int da_nil)))) da_nil)))))) (de_neg de_int)))
    (dss_cons (ds_set (i := 7) nd rfl (Or.inl rfl) (de_call G_l_letter hr rfl (da_cons (de_call G_l_at hr rfl (da_cons (dv 0) (da_cons (dv 10) da_nil))) da_nil)))
    (dss_cons (ds_if (dt_w (dw_or (dt_cmp (od_eq hr.units) (dv 7) de_str (nomark _)) (dw_or1 (dt_cmp od_gt (de_call G_l_deep hr rfl (da_cons (de_call G_l_at hr rfl (da_cons (dv 0) (da_cons (dv 10) da_nil))) da_nil)) de_int (nomark _))))) (dss_cons (ds_set (i := 10) nd rfl (Or.inl rfl) (de_call G_l_add hr rfl (da_cons (dv 0) (da_cons (de_op od_add (dv 1) de_int) (da_cons (de_tup (da_cons de_str (da_cons (dv 5) (da_cons (dv 5) da_nil)))) (da_cons (de_tup (da_cons de_str da_nil)) da_nil))))))
    (dss_one (ds_set (i := 7) nd rfl (Or.inl rfl) de_str))) dss_nil)
    (dss_cons (ds_set (i := 8) nd rfl (Or.inl rfl) (de_tup (da_cons de_str (da_cons (dv 7) (da_cons (de_call G_l_swap hr rfl (da_cons (de_call G_l_at hr rfl (da_cons (dv 0) (da_cons (dv 10) da_nil))) (da_cons (dv 5) (da_cons (dv 7) da_nil)))) da_nil)))))
    (dss_cons (ds_expr (de_call G_l_add hr rfl (da_cons (dv 0) (da_cons (de_op od_add (dv 1) de_int) (da_cons (dv 8) (da_cons (de_tup (da_cons de_str (da_cons (dv 10) (da_cons (dv 5) da_nil)))) da_nil))))))
    (dss_one (ds_ret (de_call G_l_add hr rfl (da_cons (dv 0) (da_cons (dv 1) (da_cons (dv 8) (da_cons (de_tup (da_cons de_str (da_cons (dv 9) da_nil))) da_nil))))))))))))))))), ?_⟩
  refine sq ?_
  walk_at "dl"
  refine ⟨x, L, X, a, kn, _, rfl, hs, ha, ⟨hk, hne, hkl, hkn⟩, fun j S0 g0 hj => ?_⟩
  refine sq ?_
  walk_at "dl"
  refine ite2 (fun e1 => ?_) (fun e1 => ?_)
  · walk_at "dl"
    refine ⟨x, L, X, a, kn, lv, nm, rfl, g0.2, ha, ⟨g0.keep ha hk, hne, hkl, hkn⟩, by omega, by omega, hnm, fun n S1 g1 hlvn hp => ?_⟩
    have := h [n] X S1 (Aft.one (g0.trans g1) hgd hX hlvn hp hat) (by simp) (.one hlvn) (bnd_pos lv)
    exact ⟨S1, Sub.refl, by simpa using this⟩
  obtain ⟨mj, nj, enj, hdj⟩ : j ∈ kn ∧ ∃ n, L[j - 1]? = some n ∧ n.f.hd = "some" := by
    rcases hj with ⟨rfl, _⟩ | z
    · simp at e1
    · exact z
  have hj1 := hkn j mj
  obtain ⟨y, G, ef⟩ := hd_qu .some hdj
  have okj := hs.ok nj (List.mem_of_getElem? enj)
  rw [ef] at okj
  obtain ⟨⟨ty, okG⟩, htG⟩ := okj
  have htG' : G.ht + 1 ≤ 10 := htG
  refine sq ?_
  walk_at "dl"
  refine ⟨x, L, X, rfl, g0.2, by omega, fun nn S1 hnn g1' => ?_⟩
  have g1 := g0.trans g1'
  have tn : TT nn := .inl hnn
  refine sq ?_
  walk_at "dl"
  refine ⟨x, L, _, j, nj, rfl, g1.2, hj1.1, enj, ?_⟩
  rw [ef]
  refine ⟨rfl, ?_⟩
  refine sq ?_
  walk_at "dl"
  refine callPut fit okG (by omega) ty tn fun S1b b1 => ?_
  have g1b := g1.sub b1
  walk_at "dl"
  refine ⟨x, L, X ++ [nn], lv + 1, G.pt y nn, .called nn j, rfl, g1b.2, by omega, Fo.pt_ok tn okG, by rw [Fo.pt_ht]; omega, fun S2 g2' => ?_⟩
  have g2 := g1b.trans g2'
  have gd2 : Gd (L ++ [⟨lv + 1, G.pt y nn, .called nn j⟩]) := hgd.opener rfl trivial (by simp) (hat.le (by simp)) (fun z hz => by
    cases List.mem_singleton.mp hz
    exact hj1)
  refine sq ?_
  walk_at "dl"
  intro e0 n0
  generalize hS0 : put S2 e0 _ = S3
  have g3 := g2.gen hS0 n0
  have k0 := gen_at hS0
  have hk3 := g3.keep ha hk
  refine ⟨_, _, hk3, rfl, szOk (by simp; omega), fun e1 n1 => ?_⟩
  generalize hS1 : put S3 e1 _ = S4
  have g4 := g3.gen hS1 n1
  have k1 := gen_at hS1
  have f1 := g3.2.fresh n1
  refine ⟨szOk (by simp; omega), ?_⟩
  refine ixDk g4.2.q_ sv1 ?_
  refine ⟨x.p, x.c, _, rfl, g4.2.d_, by decide, by decide, fun r S5 r0 r1 c5 => ?_⟩
  have g5 := g4.deck c5
  have k1 := (g4.2.deck c5).keep f1 k1
  have enm : nm.map D.str ++ [D.str nn] = (nm ++ [nn]).map D.str := by rw [List.map_append]; rfl
  rw [enm]
  walk_at "dl"
  refine callBlk (kn := kn) g5 gd2 rfl rfl (by rw [k1, List.map_append]; rfl) f1 (by simp; omega) hL hlv hm (by simp; omega) hkn hk0 (fun s hs => by
    rcases List.mem_append.mp hs with z | z
    · exact hnm s z
    · cases List.mem_singleton.mp z; exact hnn) r0 r1 fun b M X' S6 bx hM => ?_
  obtain ⟨n, en, okn, htn⟩ := bx.line
  have hl1 : 1 ≤ (L ++ (⟨lv + 1, G.pt y nn, .called nn j⟩ : Ln) :: M).length := by simp; omega
  refine sq ?_
  walk_at "dl"
  refine ⟨x, _, X', _, n, rfl, bx.go.2, hl1, en, ?_⟩
  refine callLetter fit okn htn fun S7 b7 => ?_
  have bx7 := bx.sub b7
  have tx : TT "x" := .inr ⟨120, by omega, rfl⟩
  refine seq_cut (fun δ' S' => ∃ (M' : List Ln) (lt : Str) (n' : Ln), δ' = [some (.ref x.q), some (.int (lv : Nat)), some (.ref a), some (.tup (nm.map D.str)), some (inD j), some (.str nn), some (.str "some"), some (.str lt), some G.d, some (inD (L.length + 1)), some (inD (L ++ (⟨lv + 1, G.pt y nn, .called nn j⟩ : Ln) :: M').length)] ∧ Bxd x S S' L lv ⟨lv + 1, G.pt y nn, .called nn j⟩ M' X' ∧ M'.length ≤ 2 * bnd (lv + 1) + 1 ∧ TT lt ∧
    (L ++ (⟨lv + 1, G.pt y nn, .called nn j⟩ : Ln) :: M')[(L ++ (⟨lv + 1, G.pt y nn, .called nn j⟩ : Ln) :: M').length - 1]? = some n' ∧ x.fo n'.f ∧ n'.f.ht ≤ 9) (fun N hN => ?_) ?_
  · walk_at "dl"
    have addB : ∀ S8 : Store, Bxd x S S8 L lv ⟨lv + 1, G.pt y nn, .called nn j⟩ M X' → 
        spAdd [.ref x.q, .int ((lv : Nat) + 1), .tup [.str "same", .str nn, .str nn], .tup [.str "itself"]] S8 fun d S9 => N [some (.ref x.q), some (.int (lv : Nat)), some (.ref a), some (.tup (nm.map D.str)), some (inD j), some (.str nn), some (.str "some"), some (.str "x"), some G.d, some (inD (L.length + 1)), some d] S9 := by
      intro S8 bx8
      refine ⟨x, _, X', lv + 1, .same nn nn, .w0 "itself", rfl, bx8.go.2, ?_, ⟨tn, tn⟩, by simp [Fo.ht], fun S9 g9 => ?_⟩
      · have := bnd_le (lv + 1)
        simp; omega
      have := bx8.add g9 rfl ⟨by simp [Rs.ok, W0], by simp [Rs.opens]; decide, rfl, fun j hj => by cases hj⟩
      have el : ((L ++ (⟨lv + 1, G.pt y nn, .called nn j⟩ : Ln) :: M).length + 1) = (L ++ (⟨lv + 1, G.pt y nn, .called nn j⟩ : Ln) :: (M ++ [⟨lv + 1, .same nn nn, .w0 "itself"⟩])).length := by simp; omega
      rw [el]
      exact hN _ _ ⟨_, _, ⟨lv + 1, .same nn nn, .w0 "itself"⟩, rfl, this, by simp; omega, tx, by rw [app1]; simp, ⟨tn, tn⟩, by simp [Fo.ht]⟩
    split
    · refine sq ?_
      walk_at "dl"
      exact addB S7 bx7
    · rename_i hle
      refine ⟨x, _, X', _, n, rfl, bx7.go.2, hl1, en, ?_⟩
      refine callDeep fit okn htn fun m2 S8 b8 hm2 => ?_
      have bx8 := bx7.sub b8
      walk_at "dl"
      split
      · refine sq ?_
        walk_at "dl"
        exact addB S8 bx8
      · exact hN _ _ ⟨M, _, n, rfl, bx8, by omega, (letF_is n.f).resolve_left hle, en, okn, by omega⟩
  rintro δ' S8 ⟨M', lt, n', rfl, bx8, hM', tl, en', okn', htn'⟩
  have hl2 : 1 ≤ (L ++ (⟨lv + 1, G.pt y nn, .called nn j⟩ : Ln) :: M').length := by simp; omega
  refine sq ?_
  walk_at "dl"
  refine ⟨x, _, X', _, n', rfl, bx8.go.2, hl2, en', ?_⟩
  refine callSwap fit okn' (by omega) tn tl fun S9 b9 => ?_
  have bx9 := bx8.sub b9
  have okS : x.fo (.qu .some lt (n'.f.sw nn lt)) := ⟨tl, Fo.sw_ok tl okn'⟩
  have htS : (Fo.qu .some lt (n'.f.sw nn lt)).ht ≤ 10 := by simp only [Fo.ht, Fo.sw_ht]; omega
  have hlM : (L ++ (⟨lv + 1, G.pt y nn, .called nn j⟩ : Ln) :: M').length ≤ 190 := by
    have := bnd_le (lv + 1)
    simp; omega
  refine sq ?_
  walk_at "dl"
  refine ⟨x, _, X', lv + 1, .qu .some lt (n'.f.sw nn lt), .wn "such" _ nn, rfl, bx9.go.2, by omega, okS, htS, fun S10 g10 => ?_⟩
  have bx10 := bx9.add g10 rfl ⟨by simp [Rs.ok, WN], rfl, rfl, fun z hz => by
    cases List.mem_singleton.mp hz
    exact ⟨hl2, Nat.le_refl _⟩⟩
  walk_at "dl"
  refine ⟨x, _, X', lv, .qu .some lt (n'.f.sw nn lt), .bx "forsome" (L.length + 1), rfl, bx10.go.2, ?_, okS, htS, fun S11 g11 => ?_⟩
  · simp at hlM ⊢; omega
  obtain ⟨af, hll⟩ := bx10.close g11 rfl (w := "forsome") (by simp [WB]) rfl
  have := h _ X' S11 af (by simp) hll (bnd_box hlv (by simp; omega))
  exact ⟨S11, Sub.refl, by simpa [Nat.add_assoc] using this⟩
end
end K61

set_option Elab.async false
set_option maxRecDepth 100000
set_option linter.unusedVariables false
namespace K61
open PySem PySem.Spec PyProof.Rows L2 DL FO
local macro_rules | `(tactic| walk_at "dl") => `(tactic| try simp only [DL.tAsgD, DL.asg, DL.tVarD, DL.lk, DL.sto, DL.stos, DL.tOpD, DL.tCD, DL.tCallD, DL.tConsD, DL.tNilD, DL.tRetD, DL.endsD, DL.startD, DL.tIfSD, DL.tTestD, DL.tNextD, DL.tDropD, DL.tAndD, DL.tOrD, DL.tNotD, DL.tAndV, DL.tOrV, DL.tNotV, DL.tIfD, DL.tNegD, DL.tTupD, DL.tLstD, DL.tSetD, DL.tMD, DL.tSlD, DL.tPartD, DL.tNoD, DL.tRevD, DL.tForD, DL.tLcD, DL.tIterD, DL.tRng1D, DL.tRng2D, DL.tYesD, DL.wipeD, DL.tDictD, DL.tDictOne, DL.tFldD, DL.tMethD, DL.tMakeD, DL.tSetF, DL.tThaw, DL.thaw, DL.tLRg, DL.tChainD, DL.tDispD, DL.tPairsD, DL.tEnumD, DL.tZipD, DL.tCallLD, DL.tSortSet, DL.tRng3D, DL.keyOf, DL.emE_rr, DL.tLess, DL.tLessS, DL.itOk, DL.rAdd_ii, DL.rAdd_ss, DL.rAdd_tt, DL.rAdd_rr, DL.rSub_ii, DL.rMod_ii, DL.rDiv_ii, DL.rPow_ii, DL.rMul_ii, DL.rMul_ri, DL.rLt_ii, DL.rLt_ss, DL.rLe_ii, DL.rGt_ii, DL.rGe_ii, DL.rEq_ii, DL.rEq_ss, DL.rEq_bb, DL.rNe_ii, DL.rNe_ss, DL.rNe_bb, DL.rEq_rr, DL.rNe_rr, DL.rEq_tt, DL.rNe_tt, DL.rIn_st, DL.rNotIn_st, DL.rIn_r, DL.rNotIn_r, DL.rIn_ss, DL.rInDO_sl, DL.rInDO_il, DL.rInDO_sd, DL.rInDO_id, DL.rIsN_n, DL.rIsN_t, DL.rIsN_i, DL.rIsN_s, DL.rIsN_r, DL.rNotN_n, DL.rNotN_t, DL.rNotN_i, DL.rNotN_s, DL.rNotN_r, DL.rIx_t, DL.rIx_r, DL.rIx_s, DL.rIxDO_l, DL.rIxDO_ds, DL.rIx0, DL.rIx1, DL.rIx2, DL.rIx3, DL.rSl_t, DL.rSl_s, DL.rSl_o, DL.rSl_r, DL.rSlDO, DL.rSet_r, DL.rSetDO_0, DL.rSetDO_s, DL.rLen_t, DL.rLen_o, DL.rLen_s, DL.rLen_r, DL.rLenDO, DL.rLenDO_d, DL.rList_t, DL.rList_o, DL.rList_r, DL.rListDO, DL.rTuple_t, DL.rTuple_r, DL.rInt_i, DL.rInt_b, DL.rMax, DL.rMin, DL.rSz0, DL.rSz1, DL.rSz2, DL.rSz3, DL.rSz4, DL.rSz5, DL.rSz6, DL.rSz7, DL.rSz8, Option.some.injEq, DL.DO.lst.injEq, exists_eq_left', exists_eq_left, DL.put_same, DL.put_put, true_and, and_true, List.map, List.replicate, List.length, List.cons_append, List.nil_append, Nat.reduceSub, Nat.reduceAdd, decide_eq_true_eq, if_true, if_false, Bool.false_eq_true, Bool.not_true, Bool.not_false])
local macro_rules | `(tactic| walk_at "dlh") => `(tactic| try simp only [*, DL.tAsgD, DL.asg, DL.tVarD, DL.lk, DL.sto, DL.stos, DL.tOpD, DL.tCD, DL.tCallD, DL.tConsD, DL.tNilD, DL.tRetD, DL.endsD, DL.startD, DL.tIfSD, DL.tTestD, DL.tNextD, DL.tDropD, DL.tAndD, DL.tOrD, DL.tNotD, DL.tAndV, DL.tOrV, DL.tNotV, DL.tIfD, DL.tNegD, DL.tTupD, DL.tLstD, DL.tSetD, DL.tMD, DL.tSlD, DL.tPartD, DL.tNoD, DL.tRevD, DL.tForD, DL.tLcD, DL.tIterD, DL.tRng1D, DL.tRng2D, DL.tYesD, DL.wipeD, DL.tDictD, DL.tDictOne, DL.tFldD, DL.tMethD, DL.tMakeD, DL.tSetF, DL.tThaw, DL.thaw, DL.tLRg, DL.tChainD, DL.tDispD, DL.tPairsD, DL.tEnumD, DL.tZipD, DL.tCallLD, DL.tSortSet, DL.tRng3D, DL.keyOf, DL.emE_rr, DL.tLess, DL.tLessS, DL.itOk, DL.rAdd_ii, DL.rAdd_ss, DL.rAdd_tt, DL.rAdd_rr, DL.rSub_ii, DL.rMod_ii, DL.rDiv_ii, DL.rPow_ii, DL.rMul_ii, DL.rMul_ri, DL.rLt_ii, DL.rLt_ss, DL.rLe_ii, DL.rGt_ii, DL.rGe_ii, DL.rEq_ii, DL.rEq_ss, DL.rEq_bb, DL.rNe_ii, DL.rNe_ss, DL.rNe_bb, DL.rEq_rr, DL.rNe_rr, DL.rEq_tt, DL.rNe_tt, DL.rIn_st, DL.rNotIn_st, DL.rIn_r, DL.rNotIn_r, DL.rIn_ss, DL.rInDO_sl, DL.rInDO_il, DL.rInDO_sd, DL.rInDO_id, DL.rIsN_n, DL.rIsN_t, DL.rIsN_i, DL.rIsN_s, DL.rIsN_r, DL.rNotN_n, DL.rNotN_t, DL.rNotN_i, DL.rNotN_s, DL.rNotN_r, DL.rIx_t, DL.rIx_r, DL.rIx_s, DL.rIxDO_l, DL.rIxDO_ds, DL.rIx0, DL.rIx1, DL.rIx2, DL.rIx3, DL.rSl_t, DL.rSl_s, DL.rSl_o, DL.rSl_r, DL.rSlDO, DL.rSet_r, DL.rSetDO_0, DL.rSetDO_s, DL.rLen_t, DL.rLen_o, DL.rLen_s, DL.rLen_r, DL.rLenDO, DL.rLenDO_d, DL.rList_t, DL.rList_o, DL.rList_r, DL.rListDO, DL.rTuple_t, DL.rTuple_r, DL.rInt_i, DL.rInt_b, DL.rMax, DL.rMin, DL.rSz0, DL.rSz1, DL.rSz2, DL.rSz3, DL.rSz4, DL.rSz5, DL.rSz6, DL.rSz7, DL.rSz8, Option.some.injEq, DL.DO.lst.injEq, exists_eq_left', exists_eq_left, DL.put_same, DL.put_put, true_and, and_true, List.map, List.replicate, List.length, List.cons_append, List.nil_append, Nat.reduceSub, Nat.reduceAdd, decide_eq_true_eq, if_true, if_false, Bool.false_eq_true, Bool.not_true, Bool.not_false])
local macro_rules | `(tactic| walk_at "go") => `(tactic| repeat (first | (refine DL.sq ?_; try walk_at "dl") | (refine DL.ifY rfl ?_; try walk_at "dl") | (refine DL.inY rfl (by decide) ?_; try walk_at "dl") | (refine DL.inN rfl (by decide) ?_; try walk_at "dl") | (refine DL.ifN (by decide) ?_; try walk_at "dl")))
abbrev s_l_box : Stmt := top 42
theorem sc_l_box : FnScope ["_law_state", "_law_level", "_law_known", "_law_names", "_law_deck_here", "_law_way", "_law_form_here", "_law_i", "_law_last", "_law_k", "_law_word", "_law_one", "_law_other", "_law_n"] ["_law_state", "_law_level", "_law_known", "_law_names"] (defScope s_l_box) := ⟨rfl, rfl, rfl, by decide +kernel, rfl, by decide +kernel, by decide +kernel⟩
theorem bnd6 {lv : Nat} (h : lv ≤ 2) : 6 ≤ bnd lv := by
  rcases lv with _ | _ | _ | lv
  · decide
  · decide
  · decide
  · omega
theorem Bxd.start {x : Fx} {S S' : Store} {L : List Ln} {lv : Nat} {o : Ln} {X : List Str} (g : Go x S S' (L ++ [o]) X) (op : o.r.opens = true) (olv : o.lv = lv + 1) (gd : Gd (L ++ [o])) (xl : X.length ≤ 6 + L.length) : Bxd x S S' L lv o [] X :=
  ⟨g, op, olv, (fun m hm => by cases hm), LastLv.one olv, gd, by rw [List.length_append]; omega⟩
theorem get5 {L : List Ln} {a b c d e : Ln} (j : Nat) : (L ++ [a, b, c, d, e])[L.length + j]? = [a, b, c, d, e][j]? := by
  rw [List.getElem?_append_right (by omega), Nat.add_sub_cancel_left]
theorem gdCases {L : List Ln} {lv k : Nat} {o1 l1 o2 l2 n : Ln} (h : Gd (L ++ [o1, l1, o2, l2])) (a1 : o1.lv = lv + 1) (a2 : l1.lv = lv + 1) (a3 : o2.lv = lv + 1) (a4 : l2.lv = lv + 1) (a5 : n.lv = lv) (b1 : o1.r.opens = true) (b2 : l1.r.opens = false) (b3 : o2.r.opens = true) (b4 : l2.r.opens = false)
    (hk : 1 ≤ k ∧ k ≤ L.length) (hr : n.r = .cases k (L.length + 1) (L.length + 3)) : Gd (L ++ [o1, l1, o2, l2, n]) := by
  have e1 : L ++ [o1, l1, o2, l2, n] = (L ++ [o1, l1, o2, l2]) ++ [n] := by simp
  have el : (L ++ [o1, l1, o2, l2]).length + 1 = L.length + 5 := by simp
  rw [e1]
  refine h.snoc ⟨n, last_get, by rw [hr]; trivial, fun j hj => ?_, fun i hi => ?_, (fun z => by rw [hr] at z; simp [Rs.opens] at z), by
    rw [take_last, hr]
    have e0 : L ++ [o1, l1, o2, l2] = (L ++ [o1, l1, o2]) ++ [l2] := by simp
    rw [e0]
    exact (AtLv.app (lv := lv + 1) (.one a4) (by simp)).le (by show n.lv ≤ lv + 1; omega)⟩
  · rw [hr] at hj
    simp only [Rs.nums, List.mem_cons, List.not_mem_nil, or_false] at hj
    rw [el]
    rcases hj with rfl | rfl | rfl <;> omega
  · rw [hr] at hi
    simp only [Rs.bxs, List.mem_cons, List.not_mem_nil, or_false] at hi
    refine ⟨?_, by rw [hr]; rfl⟩
    rcases hi with rfl | rfl
    · rw [← e1, el]
      have g : ∀ j, (L ++ [o1, l1, o2, l2, n])[L.length + j + 1 - 1]? = [o1, l1, o2, l2, n][j]? := fun j => get5 j
      refine ⟨L.length + 2, o1, n, by omega, by omega, by omega, g 0, g 4, b1, by omega, fun m nm u v w => ?_, ⟨l1, g 1, by omega⟩, ⟨o2, g 2, .inr ⟨by omega, b3⟩⟩, fun m nm u v w => ?_⟩
      · have : m = L.length + 1 + 1 := by omega
        subst this
        rw [g 1] at w; cases w
        exact ⟨by omega, fun z => by rw [b2] at z; exact absurd z.2 (by decide)⟩
      · obtain ⟨j, rfl, hj⟩ : ∃ j, m = L.length + j + 1 ∧ j < 4 := ⟨m - L.length - 1, by omega, by omega⟩
        rw [g j] at w
        rcases j with _ | _ | _ | _ | j
        · cases w; omega
        · cases w; omega
        · cases w; omega
        · cases w; omega
        · omega
    · have e2 : (L ++ [o1, l1, o2, l2]) ++ [n] = (L ++ [o1, l1]) ++ o2 :: [l2] ++ [n] := by simp
      have e3 : L.length + 3 = (L ++ [o1, l1]).length + 1 := by simp
      have e4 : (L ++ [o1, l1, o2, l2]).length + 1 = ((L ++ [o1, l1]) ++ o2 :: [l2]).length + 1 := by simp
      rw [e2, e3, e4]
      refine box_ok b3 (fun m hm => ?_) (fun z hz => ?_) (by omega)
      · cases List.mem_singleton.mp hm
        exact ⟨by omega, fun z => by rw [b4] at z; exact absurd z.2 (by decide)⟩
      · simp at hz; subst hz; omega
section
variable {P : Program} {w : World} {K : PySem.W.Frag} {mg : Str → Option Value} {base : Heap}
theorem df_box {k m : Nat} (T : Bt mg) (A : At K mg "_law_box" "_law_box" s_l_box) (G_l_next : Df P w K mg base "_law_next" k spNext) (G_l_at : Df P w K mg base "_law_at" k spAt) (G_l_add : Df P w K mg base "_law_add" k spAdd) (G_l_find : Df P w K mg base "_law_find" k spFind)
    (G_l_any_form : Df P w K mg base "_law_any_form" k spAny) (G_l_deep : Df P w K mg base "_law_deep" k (spDeep 13)) (G_l_two_step : Df P w K mg base "_law_two_step" k spStep) (G_l_any_box : Df P w K mg base "_law_any_box" k (spBx (m + 1))) (G_l_called_box : Df P w K mg base "_law_called_box" k (spBx (m + 1)))
    (G_l_block : Df P w K mg base "_law_block" k (spBlk m)) : Df P w K mg base "_law_box" (k + 1) (spBx (m + 1)) := by
  have nd := sc_l_box.nd
  refine df_mk A rfl sc_l_box (fun _ _ _ _ _ _ us hl => match us, hl with | [_, _, _, _], _ => rfl) (fun ds S Q h => ?_) (fun f cdv A outer s H E hr ds S Q h => ?_)
  · obtain ⟨x, L, X, a, kn, lv, nm, rfl, _⟩ := h
    rfl
  obtain ⟨x, L, X, a, kn, lv, nm, rfl, hs, ha, hkn0, hgd, hat, hX, hL, hlv, hm, hnl, hk0, hnm, h⟩ := h
  obtain ⟨hk, hne, hkl, hkn⟩ := hkn0
  have hu := hu_of hr
  have fit := hs.fit
  have hkp : 0 < kn.length := List.length_pos_iff.mpr hne
  have b6 := bnd6 hlv
  have b36 := bnd_le (lv + 1)
  refine ⟨_, (dss_cons (ds_set (i := 4) nd rfl (Or.inl rfl) (de_ix hu (dv 0) de_str))
    (dss_cons (ds_set (i := 5) nd rfl (Or.inl rfl) (de_call G_l_next hr rfl (da_cons (dv 4) (da_cons de_int da_nil))))
    (dss_cons (ds_if (dt_cmp (od_eq hr.units) (dv 5) de_int (nomark _)) (dss_cons (ds_set (i := 6) nd rfl (Or.inl rfl) (de_call G_l_any_form hr rfl (da_cons (dv 0) (da_cons (dv 3) da_nil))))
    (dss_cons (ds_set (i := 7) nd rfl (Or.inl rfl) (de_call G_l_add hr rfl (da_cons (dv 0) (da_cons (de_op od_add (dv 1) de_int) (da_cons (dv 6) (da_cons (de_tup (da_cons de_str da_nil)) da_nil))))))
    (dss_cons (ds_set (i := 8) nd rfl (Or.inl rfl) (de_ix hu (de_call G_l_block hr rfl (da_cons (dv 0) (da_cons (de_op od_add (dv 1) de_int) (da_cons (de_op od_add (dv 2) (de_lst (da_cons (dv 7) da_nil))) (da_cons (dv 3) (da_cons (de_op od_add de_int (de_call G_l_next hr rfl (da_cons (dv 4) (da_cons de_int da_nil)))) da_nil)))))) (de_neg de_int)))
    (dss_cons (ds_if (dt_cmp od_gt (de_call G_l_deep hr rfl (da_cons (de_call G_l_at hr rfl (da_cons (dv 0) (da_cons (dv 8) da_nil))) da_nil)) de_int (nomark _)) (dss_one (ds_set (i := 8) nd rfl (Or.inl rfl) (de_call G_l_add hr rfl (da_cons (dv 0) (da_cons (de_op od_add (dv 1) de_int) (da_cons (dv 6) (da_cons (de_tup (da_cons de_str (da_cons (dv 7) da_nil))) da_nil))))))) dss_nil)
    (dss_one (ds_ret (de_call G_l_add hr rfl (da_cons (dv 0) (da_cons (dv 1) (da_cons (de_tup (da_cons de_str (da_cons (dv 6) (da_cons (de_call G_l_at hr rfl (da_cons (dv 0) (da_cons (dv 8) da_nil))) da_nil)))) (da_cons (de_tup (da_cons de_str (da_cons (dv 7) da_nil))) da_nil))))))))))) dss_nil)
    (dss_cons (ds_set (i := 9) nd rfl (Or.inl rfl) (de_ix hu (dv 2) (de_call G_l_next hr rfl (da_cons (dv 4) (da_cons (de_callB cd_len rfl T.len_ (by decide +kernel) (da_cons (dv 2) da_nil)) da_nil)))))
    (dss_cons (ds_if (dt_w (dw_and (dt_cmp (od_eq hr.units) (dv 5) de_int (nomark _)) (dw_and1 (dt_cmp od_lt (de_call G_l_deep hr rfl (da_cons (de_call G_l_at hr rfl (da_cons (dv 0) (da_cons (dv 9) da_nil))) da_nil)) de_int (nomark _))))) (dss_cons (ds_set (i := 6) nd rfl (Or.inl rfl) (de_tup (da_cons de_str (da_cons (de_call G_l_at hr rfl (da_cons (dv 0) (da_cons (dv 9) da_nil))) da_nil))))
    (dss_cons (ds_set (i := 7) nd rfl (Or.inl rfl) (de_call G_l_add hr rfl (da_cons (dv 0) (da_cons (de_op od_add (dv 1) de_int) (da_cons (dv 6) (da_cons (de_tup (da_cons de_str da_nil)) da_nil))))))
    (dss_cons (ds_expr (de_call G_l_add hr rfl (da_cons (dv 0) (da_cons (de_op od_add (dv 1) de_int) (da_cons (de_tup (da_cons de_str da_nil)) (da_cons (de_tup (da_cons de_str (da_cons (dv 9) (da_cons (dv 7) da_nil)))) da_nil))))))
    (dss_cons (ds_if (dt_cmp (od_eq hr.units) (de_call G_l_next hr rfl (da_cons (dv 4) (da_cons de_int da_nil))) de_int (nomark _)) (dss_one (ds_ret (de_call G_l_add hr rfl (da_cons (dv 0) (da_cons (dv 1) (da_cons (de_ix hu (dv 6) de_int) (da_cons (de_tup (da_cons de_str (da_cons (dv 7) da_nil))) da_nil))))))) dss_nil)
    (dss_one (ds_ret (de_call G_l_add hr rfl (da_cons (dv 0) (da_cons (dv 1) (da_cons (de_tup (da_cons de_str (da_cons (dv 6) da_nil))) (da_cons (de_tup (da_cons de_str (da_cons (dv 7) da_nil))) da_nil))))))))))) dss_nil)
    (dss_cons (ds_if (dt_cmp (od_eq hr.units) (dv 5) de_int (nomark _)) (dss_one (ds_ret (de_call G_l_any_box hr rfl (da_cons (dv 0) (da_cons (dv 1) (da_cons (dv 2) (da_cons (dv 3) da_nil))))))) dss_nil)
    (dss_cons (ds_if (dt_cmp (od_eq hr.units) (dv 5) de_int (nomark _)) (dss_one (ds_ret (de_call G_l_called_box hr rfl (da_cons (dv 0) (da_cons (dv 1) (da_cons (dv 2) (da_cons (dv 3) da_nil))))))) dss_nil)
    (dss_cons (ds_set (i := 9) nd rfl (Or.inl rfl) (de_call G_l_find hr rfl (da_cons (dv 0) (da_cons (dv 2) (da_cons de_str da_nil)))))
    (dss_cons (ds_if (dt_cmp (od_eq hr.units) (dv 9) de_int (nomark _)) (dss_one (ds_ret (de_call G_l_two_step hr rfl (da_cons (dv 0) (da_cons (dv 1) (da_cons (dv 2) (da_cons (dv 3) da_nil))))))) dss_nil)
    (dss_cons (ds_asg (de_call G_l_at hr rfl (da_cons (dv 0) (da_cons (dv 9) da_nil))) (dg_tup rfl (dgs_cons (dg_name (i := 10) nd rfl (Or.inl rfl)) (dgs_cons (dg_name (i := 11) nd rfl (Or.inl rfl)) (dgs_cons (dg_name (i := 12) nd rfl (Or.inl rfl)) dgs_nil)))))
    (dss_cons (ds_set (i := 6) nd rfl (Or.inl rfl) (de_tup (da_cons de_str (da_cons (dv 12) (da_cons (dv 11) da_nil)))))
    (dss_cons (ds_set (i := 7) nd rfl (Or.inl rfl) (de_call G_l_add hr rfl (da_cons (dv 0) (da_cons (de_op od_add (dv 1) de_int) (da_cons (dv 11) (da_cons (de_tup (da_cons de_str da_nil)) da_nil))))))
    (dss_cons (ds_expr (de_call G_l_add hr rfl (da_cons (dv 0) (da_cons (de_op od_add (dv 1) de_int) (da_cons (dv 6) (da_cons (de_tup (da_cons de_str (da_cons (dv 7) da_nil))) da_nil))))))
    (dss_cons (ds_set (i := 13) nd rfl (Or.inl rfl) (de_call G_l_add hr rfl (da_cons (dv 0) (da_cons (de_op od_add (dv 1) de_int) (da_cons (dv 12) (da_cons (de_tup (da_cons de_str da_nil)) da_nil))))))
    (dss_cons (ds_expr (de_call G_l_add hr rfl (da_cons (dv 0) (da_cons (de_op od_add (dv 1) de_int) (da_cons (dv 6) (da_cons (de_tup (da_cons de_str (da_cons (dv 13) da_nil))) da_nil))))))
    (dss_one (ds_ret (de_call G_l_add hr rfl (da_cons (dv 0) (da_cons (dv 1) (da_cons (dv 6) (da_cons (de_tup (da_cons de_str (da_cons (dv 9) (da_cons (dv 7) (da_cons (dv 13) da_nil))))) da_nil)))))))))))))))))))))), ?_⟩
  refine sq ?_
  walk_at "dl"
  refine ixDk hs.q_ sv1 ?_
  refine sq ?_
  walk_at "dl"
  refine ⟨x.p, x.c, _, rfl, hs.d_, by decide, by decide, fun way S1 w0 w1 c1 => ?_⟩
  have g1 := hs.deck c1
  have hk1 := g1.keep ha hk
  refine sq ?_
  walk_at "dl"
  refine ite2 (fun e1 => ?_) (fun e1 => ?_)
  · refine sq ?_
    walk_at "dl"
    refine ⟨x, L, X, nm, rfl, g1.2, by omega, hnm, fun F S2 g2' okF htF => ?_⟩
    have g2 := g1.trans g2'
    refine sq ?_
    walk_at "dl"
    refine ⟨x, L, X, lv + 1, F, .w0 "supposed", rfl, g2.2, by omega, okF, by omega, fun S3 g3' => ?_⟩
    have g3 := g2.trans g3'
    have gd3 : Gd (L ++ [⟨lv + 1, F, .w0 "supposed"⟩]) := hgd.opener (by simp [Rs.opens]) (by simp [Rs.ok, W0]) (by simp) (hat.le (by simp)) (fun j hj => by cases hj)
    refine sq ?_
    walk_at "dl"
    intro e0 n0
    generalize hS0 : put S3 e0 _ = S4
    have g4 := g3.gen hS0 n0
    have hk4 := g4.keep ha hk
    refine ⟨_, _, hk4, rfl, szOk (by simp; omega), fun e1' n1 => ?_⟩
    generalize hS1 : put S4 e1' _ = S5
    have g5 := g4.gen hS1 n1
    have k1 := gen_at hS1
    have f1 := g4.2.fresh n1
    refine ⟨x.p, x.c, _, rfl, g5.2.d_, by decide, by decide, fun r S6 r0 r1 c6 => ?_⟩
    have g6 := g5.deck c6
    have k1 := (g5.2.deck c6).keep f1 k1
    walk_at "dl"
    refine callBlk (kn := kn) g6 gd3 (by simp [Rs.opens]) rfl (by rw [k1, List.map_append]; rfl) f1 (by simp; omega) hL hlv hm (by omega) hkn hk0 hnm r0 r1 fun b M X' S7 bx hM => ?_
    obtain ⟨n, en, okn, htn⟩ := bx.line
    have hl1 : 1 ≤ (L ++ (⟨lv + 1, F, .w0 "supposed"⟩ : Ln) :: M).length := by simp; omega
    refine seq_cut (fun δ' S' => ∃ (M' : List Ln) (n' : Ln), δ' = [some (.ref x.q), some (.int (lv : Nat)), some (.ref a), some (.tup (nm.map D.str)), some (.ref x.p), some (.int way), some F.d, some (inD (L.length + 1)), some (inD (L ++ (⟨lv + 1, F, .w0 "supposed"⟩ : Ln) :: M').length), none, none, none, none, none] ∧ Bxd x S S' L lv ⟨lv + 1, F, .w0 "supposed"⟩ M' X' ∧ M'.length ≤ 2 * bnd (lv + 1) + 1 ∧
      (L ++ (⟨lv + 1, F, .w0 "supposed"⟩ : Ln) :: M')[(L ++ (⟨lv + 1, F, .w0 "supposed"⟩ : Ln) :: M').length - 1]? = some n' ∧ x.fo n'.f ∧ n'.f.ht ≤ 9) (fun N hN => ?_) ?_
    · walk_at "dl"
      refine ⟨x, _, X', _, n, rfl, bx.go.2, hl1, en, ?_⟩
      refine callDeep fit okn htn fun m2 S8 b8 hm2 => ?_
      have bx8 := bx.sub b8
      walk_at "dl"
      split
      · refine ⟨x, _, X', lv + 1, F, .w1 "again" (L.length + 1), rfl, bx8.go.2, by simp; omega, okF, by omega, fun S9 g9 => ?_⟩
        have := bx8.add g9 rfl ⟨by simp [Rs.ok, W1], rfl, rfl, fun j hj => by
          cases List.mem_singleton.mp hj
          simp⟩
        have el : ((L ++ (⟨lv + 1, F, .w0 "supposed"⟩ : Ln) :: M).length + 1) = (L ++ (⟨lv + 1, F, .w0 "supposed"⟩ : Ln) :: (M ++ [⟨lv + 1, F, .w1 "again" (L.length + 1)⟩])).length := by simp; omega
        rw [el]
        exact hN _ _ ⟨_, ⟨lv + 1, F, .w1 "again" (L.length + 1)⟩, rfl, this, by simp; omega, by rw [app1]; simp, okF, by show F.ht ≤ 9; omega⟩
      · exact hN _ _ ⟨M, n, rfl, bx8, by omega, en, okn, by omega⟩
    rintro δ' S8 ⟨M', n', rfl, bx8, hM', en', okn', htn'⟩
    have hl2 : 1 ≤ (L ++ (⟨lv + 1, F, .w0 "supposed"⟩ : Ln) :: M').length := by simp; omega
    walk_at "dl"
    refine ⟨x, _, X', _, n', rfl, bx8.go.2, hl2, en', ?_⟩
    refine ⟨x, _, X', lv, .bin .if F n'.f, .bx "soif" (L.length + 1), rfl, bx8.go.2, by simp; omega, ⟨okF, okn'⟩, by rw [ht_bin]; omega, fun S10 g10 => ?_⟩
    obtain ⟨af, hll⟩ := bx8.close g10 rfl (w := "soif") (by simp [WB]) rfl
    have := h _ X' S10 af (by simp) hll (bnd_box hlv (by simp; omega))
    exact ⟨S10, Sub.refl, by simpa [Nat.add_assoc] using this⟩
  refine sq ?_
  walk_at "dl"
  refine lenL hk1 ?_
  rw [List.length_map]
  refine ⟨x.p, x.c, _, rfl, g1.2.d_, by omega, by omega, fun r S2 r0 r1 c2 => ?_⟩
  have g2 := g1.deck c2
  have hk2 := g2.keep ha hk
  walk_at "dl"
  refine ixKn hk2 r0 r1 fun j mj => ?_
  have hj := hkn j mj
  have okj := hs.ok L[j - 1] (List.getElem_mem _)
  have enj : L[j - 1]? = some L[j - 1] := List.getElem?_eq_getElem (by omega)
  generalize L[j - 1] = nj at okj enj
  walk_at "dl"
  refine seq_if (fun S' => Go x S S' L X ∧ nj.f.ht ≤ 8) (fun S' => Go x S S' L X) (fun N N1 N2 => ?_) ?_ ?_
  · walk_at "dl"
    split
    · refine ⟨x, L, X, j, nj, rfl, g2.2, hj.1, enj, ?_⟩
      refine callDeep fit okj.1 okj.2 fun m2 S8 b8 hm2 => ?_
      walk_at "dl"
      by_cases e : m2 < 9
      · rw [decide_eq_true e]; exact N1 _ ⟨g2.sub b8, by omega⟩
      · rw [decide_eq_false e]; exact N2 _ (g2.sub b8)
    · exact N2 _ g2
  · rintro S3 ⟨g3, h8⟩
    walk_at "dl"
    refine sq ?_
    walk_at "dl"
    refine ⟨x, L, X, j, nj, rfl, g3.2, hj.1, enj, ?_⟩
    refine sq ?_
    walk_at "dl"
    refine ⟨x, L, X, lv + 1, .neg nj.f, .w0 "supposed", rfl, g3.2, by omega, okj.1, by simp only [Fo.ht]; omega, fun S4 g4' => ?_⟩
    have g4 := g3.trans g4'
    have gd4 : Gd (L ++ [⟨lv + 1, .neg nj.f, .w0 "supposed"⟩]) := hgd.opener (by simp [Rs.opens]) (by simp [Rs.ok, W0]) (by simp) (hat.le (by simp)) (fun j hj => by cases hj)
    have bx4 : Bxd x S S4 L lv _ [] X := .start g4 (by simp [Rs.opens]) rfl gd4 hX
    refine sq ?_
    walk_at "dl"
    refine ⟨x, _, X, lv + 1, .fls, .w2 "absurd" j (L.length + 1), rfl, bx4.go.2, by simp; omega, trivial, by simp [Fo.ht], fun S5 g5 => ?_⟩
    have bx5 := bx4.add g5 rfl ⟨by simp [Rs.ok, W2], rfl, rfl, fun z hz => by
      simp only [Rs.nums, List.mem_cons, List.not_mem_nil, or_false] at hz
      rcases hz with rfl | rfl
      · simp; omega
      · simp⟩
    refine sq ?_
    walk_at "dl"
    refine ⟨x.p, x.c, _, rfl, bx5.go.2.d_, by decide, by decide, fun r5 S6 r50 r51 c6 => ?_⟩
    have bx6 := bx5.deck c6
    walk_at "dl"
    refine ite2 (fun e2 => ?_) (fun e2 => ?_)
    · walk_at "dl"
      refine ⟨x, _, X, lv, nj.f, .bx "contrary" (L.length + 1), rfl, bx6.go.2, by simp; omega, okj.1, okj.2, fun S7 g7 => ?_⟩
      obtain ⟨af, hll⟩ := bx6.close g7 rfl (w := "contrary") (by simp [WB]) rfl
      have := h _ X S7 af (by simp) hll (by simp; omega)
      exact ⟨S7, Sub.refl, by simpa [Nat.add_assoc] using this⟩
    · walk_at "dl"
      refine ⟨x, _, X, lv, .neg (.neg nj.f), .bx "not" (L.length + 1), rfl, bx6.go.2, by simp; omega, okj.1, by simp only [Fo.ht]; omega, fun S7 g7 => ?_⟩
      obtain ⟨af, hll⟩ := bx6.close g7 rfl (w := "not") (by simp [WB]) rfl
      have := h _ X S7 af (by simp) hll (by simp; omega)
      exact ⟨S7, Sub.refl, by simpa [Nat.add_assoc] using this⟩
  rintro S3 g3
  walk_at "dl"
  refine sq ?_
  walk_at "dl"
  refine ite2 (fun e2 => ?_) (fun e2 => ?_)
  · walk_at "dl"
    refine ⟨x, L, X, a, kn, lv, nm, rfl, g3.2, ha, ⟨g3.keep ha hk, hne, hkl, hkn⟩, hgd, hat, hX, hL, hlv, hm, hnl, hk0, hnm, fun M X' S4 af hM hll hb => ?_⟩
    exact ⟨S4, Sub.refl, h M X' S4 (af.pre g3) hM hll hb⟩
  refine sq ?_
  walk_at "dl"
  refine ite2 (fun e3 => ?_) (fun e3 => ?_)
  · walk_at "dl"
    refine ⟨x, L, X, a, kn, lv, nm, rfl, g3.2, ha, ⟨g3.keep ha hk, hne, hkl, hkn⟩, hgd, hat, hX, hL, hlv, hm, hnl, hk0, hnm, fun M X' S4 af hM hll hb => ?_⟩
    exact ⟨S4, Sub.refl, h M X' S4 (af.pre g3) hM hll hb⟩
  refine sq ?_
  walk_at "dl"
  refine ⟨x, L, X, a, kn, _, rfl, g3.2, ha, ⟨g3.keep ha hk, hne, hkl, hkn⟩, fun i S4 g4' hi => ?_⟩
  have g4 := g3.trans g4'
  refine sq ?_
  walk_at "dl"
  refine ite2 (fun e4 => ?_) (fun e4 => ?_)
  · walk_at "dl"
    refine ⟨x, L, X, a, kn, lv, nm, rfl, g4.2, ha, ⟨g4.keep ha hk, hne, hkl, hkn⟩, by omega, by omega, hnm, fun n S5 g5 hlvn hp => ?_⟩
    have := h [n] X S5 (Aft.one (g4.trans g5) hgd hX hlvn hp hat) (by simp) (.one hlvn) (bnd_pos lv)
    exact ⟨S5, Sub.refl, by simpa using this⟩
  obtain ⟨mi, ni, eni, hdi⟩ : i ∈ kn ∧ ∃ n, L[i - 1]? = some n ∧ n.f.hd = "or" := by
    rcases hi with ⟨rfl, _⟩ | z
    · simp at e4
    · exact z
  have hi1 := hkn i mi
  obtain ⟨G1, G2, ef⟩ := hd_bin .or hdi
  have oki := hs.ok ni (List.mem_of_getElem? eni)
  rw [ef, ht_bin] at oki
  obtain ⟨⟨ok1, ok2⟩, htG⟩ := oki
  have okO : x.fo (.bin .or G2 G1) := ⟨ok2, ok1⟩
  have htO : (Fo.bin .or G2 G1).ht ≤ 10 := by rw [ht_bin]; omega
  refine sq ?_
  walk_at "dl"
  refine ⟨x, L, _, i, ni, rfl, g4.2, hi1.1, eni, ?_⟩
  rw [ef]
  refine ⟨rfl, ?_⟩
  refine sq ?_
  walk_at "dl"
  refine sq ?_
  walk_at "dl"
  refine ⟨x, L, X, lv + 1, G1, .w0 "supposed", rfl, g4.2, by omega, ok1, by omega, fun S5 g5' => ?_⟩
  have g5 := g4.trans g5'
  refine sq ?_
  walk_at "dl"
  refine ⟨x, _, X, lv + 1, .bin .or G2 G1, .w1 "orright" (L.length + 1), rfl, g5.2, by simp; omega, okO, htO, fun S6 g6' => ?_⟩
  have g6 := g5.trans g6'
  refine sq ?_
  walk_at "dl"
  refine ⟨x, _, X, lv + 1, G2, .w0 "supposed", rfl, g6.2, by simp; omega, ok2, by omega, fun S7 g7' => ?_⟩
  have g7 := g6.trans g7'
  refine sq ?_
  walk_at "dl"
  refine ⟨x, _, X, lv + 1, .bin .or G2 G1, .w1 "orleft" _, rfl, g7.2, by simp; omega, okO, htO, fun S8 g8' => ?_⟩
  have g8 := g7.trans g8'
  walk_at "dl"
  refine ⟨x, _, X, lv, .bin .or G2 G1, .cases i (L.length + 1) _, rfl, g8.2, by simp; omega, okO, htO, fun S9 g9' => ?_⟩
  have g9 := g8.trans g9'
  have gd5 : Gd (L ++ [⟨lv + 1, G1, .w0 "supposed"⟩]) := hgd.opener (by simp [Rs.opens]) (by simp [Rs.ok, W0]) (by simp) (hat.le (by simp)) (fun j hj => by cases hj)
  have gd6 := gd5.plain (n := ⟨lv + 1, .bin .or G2 G1, .w1 "orright" (L.length + 1)⟩) ⟨by simp [Rs.ok, W1], rfl, rfl, fun j hj => by
    cases List.mem_singleton.mp hj
    simp⟩ ((AtLv.app (lv := lv + 1) (.one rfl) (by simp)).le (by simp))
  have gd7 := gd6.opener (n := ⟨lv + 1, G2, .w0 "supposed"⟩) (by simp [Rs.opens]) (by simp [Rs.ok, W0]) (by simp) ((AtLv.app (lv := lv + 1) (.one rfl) (by simp)).le (by simp)) (fun j hj => by cases hj)
  have gd8 := gd7.plain (n := ⟨lv + 1, .bin .or G2 G1, .w1 "orleft" (L.length + 3)⟩) ⟨by simp [Rs.ok, W1], rfl, rfl, fun j hj => by
    cases List.mem_singleton.mp hj
    simp⟩ ((AtLv.app (lv := lv + 1) (.one rfl) (by simp)).le (by simp))
  have ea : ∀ a b c d e : Ln, L ++ [a] ++ [b] ++ [c] ++ [d] ++ [e] = L ++ [a, b, c, d, e] := by simp
  have eb : ∀ a b c d : Ln, L ++ [a] ++ [b] ++ [c] ++ [d] = L ++ [a, b, c, d] := by simp
  rw [eb] at gd8
  rw [ea] at g9
  have gd9 := gdCases gd8 (n := ⟨lv, .bin .or G2 G1, .cases i (L.length + 1) (L.length + 3)⟩) rfl rfl rfl rfl rfl (by simp [Rs.opens]) rfl (by simp [Rs.opens]) rfl hi1 rfl
  have e3 : ∀ a b : Ln, (L ++ [a] ++ [b]).length + 1 = L.length + 3 := by simp
  rw [e3] at g9
  have := h _ X S9 ⟨g9, fun m hm => ?_, gd9, by simp; omega⟩ (by simp) (fun z hz => by simp at hz; subst hz; rfl) (by simp; omega)
  · refine ⟨S9, Sub.refl, ?_⟩
    simpa [Nat.add_assoc] using this
  · simp only [List.mem_cons, List.not_mem_nil, or_false] at hm
    rcases hm with rfl | rfl | rfl | rfl | rfl
    · exact ⟨by simp, fun z => by simp at z⟩
    · exact ⟨by simp, fun z => by simp at z⟩
    · exact ⟨by simp, fun z => by simp at z⟩
    · exact ⟨by simp, fun z => by simp at z⟩
    · exact ⟨by simp, fun z => by simp [Rs.opens] at z⟩
end
end K61

set_option Elab.async false
set_option maxRecDepth 100000
set_option linter.unusedVariables false
namespace K61
open PySem PySem.Spec PyProof.Rows L2 DL FO
local macro_rules | `(tactic| walk_at "dl") => `(tactic| try simp only [DL.tAsgD, DL.asg, DL.tVarD, DL.lk, DL.sto, DL.stos, DL.tOpD, DL.tCD, DL.tCallD, DL.tConsD, DL.tNilD, DL.tRetD, DL.endsD, DL.startD, DL.tIfSD, DL.tTestD, DL.tNextD, DL.tDropD, DL.tAndD, DL.tOrD, DL.tNotD, DL.tAndV, DL.tOrV, DL.tNotV, DL.tIfD, DL.tNegD, DL.tTupD, DL.tLstD, DL.tSetD, DL.tMD, DL.tSlD, DL.tPartD, DL.tNoD, DL.tRevD, DL.tForD, DL.tLcD, DL.tIterD, DL.tRng1D, DL.tRng2D, DL.tYesD, DL.wipeD, DL.tDictD, DL.tDictOne, DL.tFldD, DL.tMethD, DL.tMakeD, DL.tSetF, DL.tThaw, DL.thaw, DL.tLRg, DL.tChainD, DL.tDispD, DL.tPairsD, DL.tEnumD, DL.tZipD, DL.tCallLD, DL.tSortSet, DL.tRng3D, DL.keyOf, DL.emE_rr, DL.tLess, DL.tLessS, DL.itOk, DL.rAdd_ii, DL.rAdd_ss, DL.rAdd_tt, DL.rAdd_rr, DL.rSub_ii, DL.rMod_ii, DL.rDiv_ii, DL.rPow_ii, DL.rMul_ii, DL.rMul_ri, DL.rLt_ii, DL.rLt_ss, DL.rLe_ii, DL.rGt_ii, DL.rGe_ii, DL.rEq_ii, DL.rEq_ss, DL.rEq_bb, DL.rNe_ii, DL.rNe_ss, DL.rNe_bb, DL.rEq_rr, DL.rNe_rr, DL.rEq_tt, DL.rNe_tt, DL.rIn_st, DL.rNotIn_st, DL.rIn_r, DL.rNotIn_r, DL.rIn_ss, DL.rInDO_sl, DL.rInDO_il, DL.rInDO_sd, DL.rInDO_id, DL.rIsN_n, DL.rIsN_t, DL.rIsN_i, DL.rIsN_s, DL.rIsN_r, DL.rNotN_n, DL.rNotN_t, DL.rNotN_i, DL.rNotN_s, DL.rNotN_r, DL.rIx_t, DL.rIx_r, DL.rIx_s, DL.rIxDO_l, DL.rIxDO_ds, DL.rIx0, DL.rIx1, DL.rIx2, DL.rIx3, DL.rSl_t, DL.rSl_s, DL.rSl_o, DL.rSl_r, DL.rSlDO, DL.rSet_r, DL.rSetDO_0, DL.rSetDO_s, DL.rLen_t, DL.rLen_o, DL.rLen_s, DL.rLen_r, DL.rLenDO, DL.rLenDO_d, DL.rList_t, DL.rList_o, DL.rList_r, DL.rListDO, DL.rTuple_t, DL.rTuple_r, DL.rInt_i, DL.rInt_b, DL.rMax, DL.rMin, DL.rSz0, DL.rSz1, DL.rSz2, DL.rSz3, DL.rSz4, DL.rSz5, DL.rSz6, DL.rSz7, DL.rSz8, Option.some.injEq, DL.DO.lst.injEq, exists_eq_left', exists_eq_left, DL.put_same, DL.put_put, true_and, and_true, List.map, List.replicate, List.length, List.cons_append, List.nil_append, Nat.reduceSub, Nat.reduceAdd, decide_eq_true_eq, if_true, if_false, Bool.false_eq_true, Bool.not_true, Bool.not_false])
local macro_rules | `(tactic| walk_at "dlh") => `(tactic| try simp only [*, DL.tAsgD, DL.asg, DL.tVarD, DL.lk, DL.sto, DL.stos, DL.tOpD, DL.tCD, DL.tCallD, DL.tConsD, DL.tNilD, DL.tRetD, DL.endsD, DL.startD, DL.tIfSD, DL.tTestD, DL.tNextD, DL.tDropD, DL.tAndD, DL.tOrD, DL.tNotD, DL.tAndV, DL.tOrV, DL.tNotV, DL.tIfD, DL.tNegD, DL.tTupD, DL.tLstD, DL.tSetD, DL.tMD, DL.tSlD, DL.tPartD, DL.tNoD, DL.tRevD, DL.tForD, DL.tLcD, DL.tIterD, DL.tRng1D, DL.tRng2D, DL.tYesD, DL.wipeD, DL.tDictD, DL.tDictOne, DL.tFldD, DL.tMethD, DL.tMakeD, DL.tSetF, DL.tThaw, DL.thaw, DL.tLRg, DL.tChainD, DL.tDispD, DL.tPairsD, DL.tEnumD, DL.tZipD, DL.tCallLD, DL.tSortSet, DL.tRng3D, DL.keyOf, DL.emE_rr, DL.tLess, DL.tLessS, DL.itOk, DL.rAdd_ii, DL.rAdd_ss, DL.rAdd_tt, DL.rAdd_rr, DL.rSub_ii, DL.rMod_ii, DL.rDiv_ii, DL.rPow_ii, DL.rMul_ii, DL.rMul_ri, DL.rLt_ii, DL.rLt_ss, DL.rLe_ii, DL.rGt_ii, DL.rGe_ii, DL.rEq_ii, DL.rEq_ss, DL.rEq_bb, DL.rNe_ii, DL.rNe_ss, DL.rNe_bb, DL.rEq_rr, DL.rNe_rr, DL.rEq_tt, DL.rNe_tt, DL.rIn_st, DL.rNotIn_st, DL.rIn_r, DL.rNotIn_r, DL.rIn_ss, DL.rInDO_sl, DL.rInDO_il, DL.rInDO_sd, DL.rInDO_id, DL.rIsN_n, DL.rIsN_t, DL.rIsN_i, DL.rIsN_s, DL.rIsN_r, DL.rNotN_n, DL.rNotN_t, DL.rNotN_i, DL.rNotN_s, DL.rNotN_r, DL.rIx_t, DL.rIx_r, DL.rIx_s, DL.rIxDO_l, DL.rIxDO_ds, DL.rIx0, DL.rIx1, DL.rIx2, DL.rIx3, DL.rSl_t, DL.rSl_s, DL.rSl_o, DL.rSl_r, DL.rSlDO, DL.rSet_r, DL.rSetDO_0, DL.rSetDO_s, DL.rLen_t, DL.rLen_o, DL.rLen_s, DL.rLen_r, DL.rLenDO, DL.rLenDO_d, DL.rList_t, DL.rList_o, DL.rList_r, DL.rListDO, DL.rTuple_t, DL.rTuple_r, DL.rInt_i, DL.rInt_b, DL.rMax, DL.rMin, DL.rSz0, DL.rSz1, DL.rSz2, DL.rSz3, DL.rSz4, DL.rSz5, DL.rSz6, DL.rSz7, DL.rSz8, Option.some.injEq, DL.DO.lst.injEq, exists_eq_left', exists_eq_left, DL.put_same, DL.put_put, true_and, and_true, List.map, List.replicate, List.length, List.cons_append, List.nil_append, Nat.reduceSub, Nat.reduceAdd, decide_eq_true_eq, if_true, if_false, Bool.false_eq_true, Bool.not_true, Bool.not_false])
local macro_rules | `(tactic| walk_at "go") => `(tactic| repeat (first | (refine DL.sq ?_; try walk_at "dl") | (refine DL.ifY rfl ?_; try walk_at "dl") | (refine DL.inY rfl (by decide) ?_; try walk_at "dl") | (refine DL.inN rfl (by decide) ?_; try walk_at "dl") | (refine DL.ifN (by decide) ?_; try walk_at "dl")))
abbrev s_l_grown : Stmt := top 46
theorem sc_l_grown : FnScope ["_law_deck_here", "_law_vocabulary_here", "_law_many", "_law_state", "_law_known", "_law_k", "_law_form_here"] ["_law_deck_here", "_law_vocabulary_here", "_law_many"] (defScope s_l_grown) := ⟨rfl, rfl, rfl, by decide +kernel, rfl, by decide +kernel, by decide +kernel⟩
def spGrown : SpD := fun ds S Q => ∃ (p c : Addr) (ns ks dos : List Str) (many : Nat), ds = [.ref p, .tup [.tup (ns.map D.str), .tup (ks.map D.str), .tup (dos.map D.str)], .int (many : Nat)] ∧ Dk p c S ∧ many ≤ 8 ∧ ns.length ≤ 6 ∧ 1 ≤ ks.length ∧ ks.length ≤ 6 ∧ dos.length ≤ 6 ∧ (∀ s ∈ ns, nmS s) ∧ (∀ s ∈ ks, kdS s) ∧ (∀ s ∈ dos, kdS s) ∧
  ∀ (L : List Ln) (S' : Store), Ch p c S S' → Gd L → 1 ≤ L.length → L.length ≤ 60 → (∀ n ∈ L, n.f.ok TT (· ∈ ks) (· ∈ dos) ∧ n.f.ht ≤ 10) → Q (.tup (L.map Ln.d)) S'
section
variable {P : Program} {w : World} {K : PySem.W.Frag} {mg : Str → Option Value} {base : Heap}
theorem df_grown {k n : Nat} (T : Bt mg) (A : At K mg "_law_grown" "_law_grown" s_l_grown) (G_l_next : Df P w K mg base "_law_next" k spNext) (G_l_add : Df P w K mg base "_law_add" k spAdd) (G_l_form : Df P w K mg base "_law_form" k (spForm (n + 4)))
    (G_l_block : Df P w K mg base "_law_block" k (spBlk 4)) : Df P w K mg base "_law_grown" (k + 1) spGrown := by
  have nd := sc_l_grown.nd
  refine df_mk A rfl sc_l_grown (fun _ _ _ _ _ _ us hl => match us, hl with | [_, _, _], _ => rfl) (fun ds S Q h => ?_) (fun f cdv A outer s H E hr ds S Q h => ?_)
  · obtain ⟨p, c, ns, ks, dos, many, rfl, _⟩ := h
    rfl
  obtain ⟨p, c, ns, ks, dos, many, rfl, hd, hmany, n6, k1, k6, d6, hns, hks, hdos, h⟩ := h
  have hu := hu_of hr
  refine ⟨_, (dss_cons (ds_set (i := 3) nd rfl (Or.inl rfl) (de_disp (dps_cons de_str (dv 0) (dps_cons de_str (de_lst da_nil) (dps_cons de_str (de_callTy (cd_list rfl) rfl T.list_ (by decide +kernel) (da_cons (de_ix hu (dv 1) de_int) da_nil)) (dps_cons de_str (de_op od_add (dv 1) (de_tup (da_cons (de_tup da_nil) (da_cons de_bl da_nil)))) dps_nil))))))
    (dss_cons (ds_set (i := 4) nd rfl (Or.inl rfl) (de_lst da_nil))
    (dss_cons (ds_for PassesOwn.never rfl (di_range1 rfl T.range_ (da_cons (de_op od_add de_int (de_call G_l_next hr rfl (da_cons (dv 0) (da_cons de_int da_nil)))) da_nil)) (dg_name (i := 5) nd rfl (Or.inl rfl)) (dss_cons (ds_set (i := 6) nd rfl (Or.inl rfl) (de_call G_l_form hr rfl (da_cons (dv 0) (da_cons (de_ix hu (dv 3) de_str) (da_cons (de_callTy (cd_list rfl) rfl T.list_ (by decide +kernel) (da_cons (de_ix hu (dv 1) de_int) da_nil)) (da_cons (de_op od_add de_int (de_call G_l_next hr rfl (da_cons (dv 0) (da_cons de_int da_nil)))) da_nil))))))
    (dss_one (ds_expr (de_m PySem.F.plainAttrs_list PySem.F.slot_list_append PySem.F.type_list_append md_append (dv 4) (da_cons (de_call G_l_add hr rfl (da_cons (dv 3) (da_cons de_int (da_cons (dv 6) (da_cons (de_tup (da_cons de_str da_nil)) da_nil))))) da_nil))))))
    (dss_cons (ds_expr (de_call G_l_block hr rfl (da_cons (dv 3) (da_cons de_int (da_cons (dv 4) (da_cons (de_ix hu (dv 1) de_int) (da_cons (dv 2) da_nil)))))))
    (dss_one (ds_ret (de_callTy cd_tuple rfl T.tuple_ (by decide +kernel) (da_cons (de_ix hu (dv 3) de_str) da_nil)))))))), ?_⟩
  refine sq ?_
  walk_at "dl"
  intro q nq
  generalize hSA : put S q _ = SA
  have cA := (Ch.refl hd).gen hSA nq
  have qA := gen_at hSA
  intro l nl
  generalize hSB : put SA l _ = SB
  have cB := cA.gen hSB nl
  have lB := gen_at hSB
  have qB := gen_kp hSB nl qA
  have nl' := cA.1.none' cA.2.live nl
  intro t nt
  generalize hSC : put SB t _ = SC
  have cC := cB.gen hSC nt
  have tC := gen_at hSC
  have lC := gen_kp hSC nt lB
  have qC := gen_kp hSC nt qB
  have nt' := cB.1.none' cB.2.live nt
  refine ⟨qC, _, rfl, by decide, ?_⟩
  have fit : Fx.fit ⟨q, p, c, l, t, ns, ks, dos⟩ := ⟨(hd.live.ne nq (by simp)).symm, (hd.live.ne nq (by simp)).symm, ne_new qA nl, ne_new qB nt, (hd.live.ne nl' (by simp)).symm, (hd.live.ne nl' (by simp)).symm, ne_new lB nt, (hd.live.ne nt' (by simp)).symm, (hd.live.ne nt' (by simp)).symm, k1, k6, d6, hks, hdos⟩
  generalize hSD : put SC q _ = SD
  have cD : Ch p c S SD := hSD ▸ cC.at hd nq
  have st : St ⟨q, p, c, l, t, ns, ks, dos⟩ SD [] ns := by
    refine ⟨fit, hSD ▸ put_same, cD.2, ?_, ?_, fun n hn => by cases hn⟩
    · rw [← hSD]; exact (put_ne fit.ql.symm).trans lC
    · rw [← hSD]; exact (put_ne fit.qt.symm).trans tC
  refine sq ?_
  walk_at "dl"
  intro ka nka
  generalize hSE : put SD ka _ = SE
  have gE := (Go.refl st).gen hSE nka
  have kE := gen_at hSE
  have fka := st.fresh nka
  refine sq ?_
  walk_at "dl"
  refine ⟨p, c, _, rfl, gE.2.d_, by decide, by decide, fun r S1 r0 r1 c1 => ?_⟩
  have g1 := gE.deck c1
  have k1' := (gE.2.deck c1).keep fka kE
  walk_at "dl"
  obtain ⟨rn, rfl⟩ : ∃ n : Nat, r = n := ⟨r.toNat, by omega⟩
  refine ⟨⟨by omega, by omega⟩, ?_⟩
  rw [show ((1 : Int) + (rn : Nat)).toNat = 1 + rn by omega]
  refine forB_rng (fun i δ S' => ∃ (L : List Ln) (kn : List Nat) (o5 o6 : Option D), δ = [some (.ref p), some (.tup [.tup (ns.map D.str), .tup (ks.map D.str), .tup (dos.map D.str)]), some (.int (many : Nat)), some (.ref q), some (.ref ka), o5, o6] ∧ Go ⟨q, p, c, l, t, ns, ks, dos⟩ SD S' L ns ∧ S' ka = some (.lst (kn.map inD)) ∧ Gd L ∧ LastLv 0 L ∧ L.length = i ∧ kn.length = i ∧ ∀ z ∈ kn, 1 ≤ z ∧ z ≤ L.length) ⟨[], [], none, none, rfl, g1, k1', (fun k h1 h2 => by simp at h2; omega), (fun z hz => by simp at hz), rfl, rfl, fun z hz => by cases hz⟩ ?_ ?_
  · rintro i δ S2 hi ⟨L, kn, o5, o6, rfl, g2, hk2, gd, hll, hLl, hkl, hkn⟩
    walk_at "dl"
    refine sq ?_
    walk_at "dl"
    refine ixDk g2.2.q_ sv4 ?_
    intro e0 n0
    generalize hS3 : put S2 e0 _ = S3
    have g3 := g2.gen hS3 n0
    have k3 := gen_at hS3
    have f3 := g2.2.fresh n0
    refine ⟨p, c, _, rfl, g3.2.d_, by decide, by decide, fun r2 S4 r20 r21 c4 => ?_⟩
    have g4 := g3.deck c4
    have k4 := (g3.2.deck c4).keep f3 k3
    obtain ⟨rm, rfl⟩ : ∃ n : Nat, r2 = n := ⟨r2.toNat, by omega⟩
    walk_at "dl"
    refine ⟨TT, p, c, e0, ns, ks, dos, ns, 1 + rm, rfl, g4.2.d_, fun z => f3 (by simp [Fx.as, z]), fun z => f3 (by simp [Fx.as, z]), k4, k1, k6, d6, fun s hs => (hdos s hs).sok, by omega, by omega, fun s hs => .inl (hns s hs), fun ch hch => .inr ⟨ch, hch, rfl⟩, fun F S5 c5 okF htF => ?_⟩
    have g5 := g4.deck c5
    have hk5 : S5 ka = some (.lst (kn.map inD)) := (g2.2.sub (hS3 ▸ Sub.new n0) |>.deck c4 |>.deck c5).keep fka hk2
    walk_at "dl"
    refine ⟨ty_list hk5, ?_⟩
    refine ⟨⟨q, p, c, l, t, ns, ks, dos⟩, L, ns, 0, F, .w0 "given", rfl, g5.2, by omega, okF, by omega, fun S6 g6' => ?_⟩
    have g6 := g5.trans g6'
    have hk6 := g6'.keep fka hk5
    refine append_of hk6 (szLt (by rw [List.length_map]; omega)) ?_
    refine ⟨L ++ [⟨0, F, .w0 "given"⟩], kn ++ [L.length + 1], _, _, rfl, ⟨g6.1.at nka, g6.2.put (fun z => by rw [z, st.q_] at nka; cases nka) fka⟩, by rw [put_same, List.map_append]; rfl, gd.plain ⟨by simp [Rs.ok, W0], by simp [Rs.opens]; decide, rfl, fun j hj => by cases hj⟩ ⟨fun _ => rfl, fun z _ => Nat.zero_le _⟩, .app (.one rfl) (by simp), by simp; omega, by simp; omega, fun z hz => ?_⟩
    rw [List.length_append, List.length_singleton]
    rcases List.mem_append.mp hz with w | w
    · have := hkn z w; omega
    · cases List.mem_singleton.mp w; omega
  · rintro δ S2 ⟨L, kn, o5, o6, rfl, g2, hk2, gd, hll, hLl, hkl, hkn⟩
    walk_at "dl"
    refine sq ?_
    walk_at "dl"
    refine ⟨⟨q, p, c, l, t, ns, ks, dos⟩, L, ns, ka, kn, 0, ns, many, rfl, g2.2, fka, ⟨hk2, fun z => by rw [z] at hkl; simp at hkl; omega, by omega, hkn⟩, gd, ⟨fun z => by rw [z] at hLl; simp at hLl; omega, hll⟩, by omega, by omega, by omega, by omega, by omega, by omega, hns, hmany, fun b kn' M X' S3 af _ _ hLM _ => ?_⟩
    walk_at "dl"
    refine ixDk af.go.2.q_ sv2 ?_
    refine ⟨_, af.go.2.l_, S3, Sub.refl, h (L ++ M) S3 ⟨fun b o nb eb => ?_, af.go.2.d_⟩ af.gd (by simp; omega) (by simp only [bnd] at hLM; omega) af.go.2.ok⟩
    have e1 := cD.1 b o nb eb
    have nas : b ∉ Fx.as ⟨q, p, c, l, t, ns, ks, dos⟩ := by
      simp only [Fx.as, List.mem_cons, List.not_mem_nil, or_false, not_or] at nb ⊢
      exact ⟨nb.1, nb.2, (fun z => by rw [z, nl'] at eb; cases eb), (fun z => by rw [z, nt'] at eb; cases eb)⟩
    exact (g2.trans af.go).keep nas e1
end
end K61

set_option Elab.async false
set_option maxRecDepth 100000
set_option linter.unusedVariables false
namespace K61
open PySem PySem.Spec PyProof.Rows L2 DL FO
local macro_rules | `(tactic| walk_at "dl") => `(tactic| try simp only [DL.tAsgD, DL.asg, DL.tVarD, DL.lk, DL.sto, DL.stos, DL.tOpD, DL.tCD, DL.tCallD, DL.tConsD, DL.tNilD, DL.tRetD, DL.endsD, DL.startD, DL.tIfSD, DL.tTestD, DL.tNextD, DL.tDropD, DL.tAndD, DL.tOrD, DL.tNotD, DL.tAndV, DL.tOrV, DL.tNotV, DL.tIfD, DL.tNegD, DL.tTupD, DL.tLstD, DL.tSetD, DL.tMD, DL.tSlD, DL.tPartD, DL.tNoD, DL.tRevD, DL.tForD, DL.tLcD, DL.tIterD, DL.tRng1D, DL.tRng2D, DL.tYesD, DL.wipeD, DL.tDictD, DL.tDictOne, DL.tFldD, DL.tMethD, DL.tMakeD, DL.tSetF, DL.tThaw, DL.thaw, DL.tLRg, DL.tChainD, DL.tDispD, DL.tPairsD, DL.tEnumD, DL.tZipD, DL.tCallLD, DL.tSortSet, DL.tRng3D, DL.keyOf, DL.emE_rr, DL.tLess, DL.tLessS, DL.itOk, DL.rAdd_ii, DL.rAdd_ss, DL.rAdd_tt, DL.rAdd_rr, DL.rSub_ii, DL.rMod_ii, DL.rDiv_ii, DL.rPow_ii, DL.rMul_ii, DL.rMul_ri, DL.rLt_ii, DL.rLt_ss, DL.rLe_ii, DL.rGt_ii, DL.rGe_ii, DL.rEq_ii, DL.rEq_ss, DL.rEq_bb, DL.rNe_ii, DL.rNe_ss, DL.rNe_bb, DL.rEq_rr, DL.rNe_rr, DL.rEq_tt, DL.rNe_tt, DL.rIn_st, DL.rNotIn_st, DL.rIn_r, DL.rNotIn_r, DL.rIn_ss, DL.rInDO_sl, DL.rInDO_il, DL.rInDO_sd, DL.rInDO_id, DL.rIsN_n, DL.rIsN_t, DL.rIsN_i, DL.rIsN_s, DL.rIsN_r, DL.rNotN_n, DL.rNotN_t, DL.rNotN_i, DL.rNotN_s, DL.rNotN_r, DL.rIx_t, DL.rIx_r, DL.rIx_s, DL.rIxDO_l, DL.rIxDO_ds, DL.rIx0, DL.rIx1, DL.rIx2, DL.rIx3, DL.rSl_t, DL.rSl_s, DL.rSl_o, DL.rSl_r, DL.rSlDO, DL.rSet_r, DL.rSetDO_0, DL.rSetDO_s, DL.rLen_t, DL.rLen_o, DL.rLen_s, DL.rLen_r, DL.rLenDO, DL.rLenDO_d, DL.rList_t, DL.rList_o, DL.rList_r, DL.rListDO, DL.rTuple_t, DL.rTuple_r, DL.rInt_i, DL.rInt_b, DL.rMax, DL.rMin, DL.rSz0, DL.rSz1, DL.rSz2, DL.rSz3, DL.rSz4, DL.rSz5, DL.rSz6, DL.rSz7, DL.rSz8, Option.some.injEq, DL.DO.lst.injEq, exists_eq_left', exists_eq_left, DL.put_same, DL.put_put, true_and, and_true, List.map, List.replicate, List.length, List.cons_append, List.nil_append, Nat.reduceSub, Nat.reduceAdd, decide_eq_true_eq, if_true, if_false, Bool.false_eq_true, Bool.not_true, Bool.not_false])
local macro_rules | `(tactic| walk_at "dlh") => `(tactic| try simp only [*, DL.tAsgD, DL.asg, DL.tVarD, DL.lk, DL.sto, DL.stos, DL.tOpD, DL.tCD, DL.tCallD, DL.tConsD, DL.tNilD, DL.tRetD, DL.endsD, DL.startD, DL.tIfSD, DL.tTestD, DL.tNextD, DL.tDropD, DL.tAndD, DL.tOrD, DL.tNotD, DL.tAndV, DL.tOrV, DL.tNotV, DL.tIfD, DL.tNegD, DL.tTupD, DL.tLstD, DL.tSetD, DL.tMD, DL.tSlD, DL.tPartD, DL.tNoD, DL.tRevD, DL.tForD, DL.tLcD, DL.tIterD, DL.tRng1D, DL.tRng2D, DL.tYesD, DL.wipeD, DL.tDictD, DL.tDictOne, DL.tFldD, DL.tMethD, DL.tMakeD, DL.tSetF, DL.tThaw, DL.thaw, DL.tLRg, DL.tChainD, DL.tDispD, DL.tPairsD, DL.tEnumD, DL.tZipD, DL.tCallLD, DL.tSortSet, DL.tRng3D, DL.keyOf, DL.emE_rr, DL.tLess, DL.tLessS, DL.itOk, DL.rAdd_ii, DL.rAdd_ss, DL.rAdd_tt, DL.rAdd_rr, DL.rSub_ii, DL.rMod_ii, DL.rDiv_ii, DL.rPow_ii, DL.rMul_ii, DL.rMul_ri, DL.rLt_ii, DL.rLt_ss, DL.rLe_ii, DL.rGt_ii, DL.rGe_ii, DL.rEq_ii, DL.rEq_ss, DL.rEq_bb, DL.rNe_ii, DL.rNe_ss, DL.rNe_bb, DL.rEq_rr, DL.rNe_rr, DL.rEq_tt, DL.rNe_tt, DL.rIn_st, DL.rNotIn_st, DL.rIn_r, DL.rNotIn_r, DL.rIn_ss, DL.rInDO_sl, DL.rInDO_il, DL.rInDO_sd, DL.rInDO_id, DL.rIsN_n, DL.rIsN_t, DL.rIsN_i, DL.rIsN_s, DL.rIsN_r, DL.rNotN_n, DL.rNotN_t, DL.rNotN_i, DL.rNotN_s, DL.rNotN_r, DL.rIx_t, DL.rIx_r, DL.rIx_s, DL.rIxDO_l, DL.rIxDO_ds, DL.rIx0, DL.rIx1, DL.rIx2, DL.rIx3, DL.rSl_t, DL.rSl_s, DL.rSl_o, DL.rSl_r, DL.rSlDO, DL.rSet_r, DL.rSetDO_0, DL.rSetDO_s, DL.rLen_t, DL.rLen_o, DL.rLen_s, DL.rLen_r, DL.rLenDO, DL.rLenDO_d, DL.rList_t, DL.rList_o, DL.rList_r, DL.rListDO, DL.rTuple_t, DL.rTuple_r, DL.rInt_i, DL.rInt_b, DL.rMax, DL.rMin, DL.rSz0, DL.rSz1, DL.rSz2, DL.rSz3, DL.rSz4, DL.rSz5, DL.rSz6, DL.rSz7, DL.rSz8, Option.some.injEq, DL.DO.lst.injEq, exists_eq_left', exists_eq_left, DL.put_same, DL.put_put, true_and, and_true, List.map, List.replicate, List.length, List.cons_append, List.nil_append, Nat.reduceSub, Nat.reduceAdd, decide_eq_true_eq, if_true, if_false, Bool.false_eq_true, Bool.not_true, Bool.not_false])
local macro_rules | `(tactic| walk_at "go") => `(tactic| repeat (first | (refine DL.sq ?_; try walk_at "dl") | (refine DL.ifY rfl ?_; try walk_at "dl") | (refine DL.inY rfl (by decide) ?_; try walk_at "dl") | (refine DL.inN rfl (by decide) ?_; try walk_at "dl") | (refine DL.ifN (by decide) ?_; try walk_at "dl")))
abbrev s_level_of : Stmt := top 2
theorem sc_level_of : FnScope ["lines", "k"] ["lines", "k"] (defScope s_level_of) := ⟨rfl, rfl, rfl, by decide +kernel, rfl, by decide +kernel, by decide +kernel⟩
abbrev s_is_opener : Stmt := top 3
theorem sc_is_opener : FnScope ["lines", "k"] ["lines", "k"] (defScope s_is_opener) := ⟨rfl, rfl, rfl, by decide +kernel, rfl, by decide +kernel, by decide +kernel⟩
abbrev s_ends_box : Stmt := top 4
theorem sc_ends_box : FnScope ["lines", "i", "k"] ["lines", "i", "k"] (defScope s_ends_box) := ⟨rfl, rfl, rfl, by decide +kernel, rfl, by decide +kernel, by decide +kernel⟩
abbrev s_box_of : Stmt := top 5
theorem sc_box_of : FnScope ["lines", "i", "last"] ["lines", "i"] (defScope s_box_of) := ⟨rfl, rfl, rfl, by decide +kernel, rfl, by decide +kernel, by decide +kernel⟩
abbrev s_openers_behind : Stmt := top 6
theorem sc_openers_behind : FnScope ["lines", "openers", "k", "found", "i"] ["lines", "openers", "k"] (defScope s_openers_behind) := ⟨rfl, rfl, rfl, by decide +kernel, rfl, by decide +kernel, by decide +kernel⟩
abbrev s_openers_at : Stmt := top 7
theorem sc_openers_at : FnScope ["lines", "k", "openers", "m"] ["lines", "k"] (defScope s_openers_at) := ⟨rfl, rfl, rfl, by decide +kernel, rfl, by decide +kernel, by decide +kernel⟩
abbrev s_told_by : Stmt := top 8
theorem sc_told_by : FnScope ["lines", "i", "k", "last", "there", "one"] ["lines", "i", "k"] (defScope s_told_by) := ⟨rfl, rfl, rfl, by decide +kernel, rfl, by decide +kernel, by decide +kernel⟩
abbrev s_many_numbers : Stmt := top 14
theorem sc_many_numbers : FnScope ["word"] ["word"] (defScope s_many_numbers) := ⟨rfl, rfl, rfl, by decide +kernel, rfl, by decide +kernel, by decide +kernel⟩
abbrev s_boxes_in : Stmt := top 18
theorem sc_boxes_in : FnScope ["reason"] ["reason"] (defScope s_boxes_in) := ⟨rfl, rfl, rfl, by decide +kernel, rfl, by decide +kernel, by decide +kernel⟩
abbrev linesD (L : List Ln) : D := .tup (L.map Ln.d)
def spLevel : SpD := fun ds S Q => ∃ (L : List Ln) (k : Nat) (n : Ln), ds = [linesD L, .int (k : Nat)] ∧ 1 ≤ k ∧ L[k - 1]? = some n ∧ Q (.int (n.lv : Nat)) S
def spOpener : SpD := fun ds S Q => ∃ (L : List Ln) (k : Nat) (n : Ln), ds = [linesD L, .int (k : Nat)] ∧ 1 ≤ k ∧ L[k - 1]? = some n ∧ n.r.ok ∧ Q (.bl n.r.opens) S
def spEnds : SpD := fun ds S Q => ∃ (L : List Ln) (i k : Nat) (ni nk : Ln), ds = [linesD L, .int (i : Nat), .int (k : Nat)] ∧ 1 ≤ i ∧ 1 ≤ k ∧ L[i - 1]? = some ni ∧ L[k - 1]? = some nk ∧ nk.r.ok ∧ Q (.bl (ends ni nk)) S
def Rs.wd : Rs → Str
  | .w0 w => w
  | .w1 w _ => w
  | .w2 w _ _ => w
  | .wn w _ _ => w
  | .any _ => "any"
  | .called _ _ => "called"
  | .sums _ _ => "sums"
  | .bx w _ => w
  | .cases _ _ _ => "cases"
theorem Rs.d_eq (r : Rs) : ∃ t, r.d = .tup (.str (Rs.wd r) :: t) := by cases r <;> exact ⟨_, rfl⟩
def OPN : List Str := ["supposed", "any", "called"]
theorem opens_is {r : Rs} (h : r.ok) : decide (Rs.wd r ∈ OPN) = r.opens := by
  have key : ∀ (W : List Str), (∀ w ∈ W, w ∉ OPN) → ∀ w ∈ W, decide (w ∈ OPN) = false := fun W hW w hw => decide_eq_false (hW w hw)
  cases r with
  | w0 w =>
    simp only [Rs.ok, W0, List.mem_cons, List.not_mem_nil, or_false] at h
    rcases h with rfl | rfl | rfl <;> decide +kernel
  | w1 w k => exact key W1 (by decide +kernel) w h
  | w2 w j k => exact key W2 (by decide +kernel) w h
  | wn w k x => exact key WN (by decide +kernel) w h
  | any x => show decide (("any" : Str) ∈ OPN) = true; decide +kernel
  | called x k => show decide (("called" : Str) ∈ OPN) = true; decide +kernel
  | sums ks ts => show decide (("sums" : Str) ∈ OPN) = false; decide +kernel
  | bx w i => exact key WB (by decide +kernel) w h
  | cases k i n => show decide (("cases" : Str) ∈ OPN) = false; decide +kernel
theorem line_at {L : List Ln} {k : Nat} {n : Ln} (h : 1 ≤ k) (e : L[k - 1]? = some n) : atI (L.map Ln.d) ((k : Int) - 1) = some n.d := by
  rw [show (k : Int) - 1 = ((k - 1 : Nat) : Int) by omega]
  exact atI_nat (by rw [List.getElem?_map, e]; rfl)
section
variable {P : Program} {w : World} {K : PySem.W.Frag} {mg : Str → Option Value} {base : Heap}
theorem df_level {k : Nat} (T : Bt mg) (A : At K mg "level_of" "level_of" s_level_of) : Df P w K mg base "level_of" (k + 1) spLevel := by
  have nd := sc_level_of.nd
  refine df_mk A rfl sc_level_of (fun _ _ _ _ _ _ us hl => match us, hl with | [_, _], _ => rfl) (fun ds S Q h => ?_) (fun f cdv A outer s H E hr ds S Q h => ?_)
  · obtain ⟨L, j, n, rfl, _⟩ := h
    rfl
  obtain ⟨L, j, n, rfl, h1, e, h⟩ := h
  have hu := hu_of hr
  refine ⟨_, (dss_one (ds_ret (de_ix hu (de_ix hu (dv 0) (de_op od_sub (dv 1) de_int)) de_int))), ?_⟩
  walk_at "dl"
  refine ⟨_, line_at h1 e, ?_⟩
  refine ⟨_, rfl, ?_⟩
  exact ⟨S, Sub.refl, h⟩
theorem df_opener {k : Nat} (T : Bt mg) (A : At K mg "is_opener" "is_opener" s_is_opener) (c_OPENERS : Cst K mg "OPENERS" (.tup (OPN.map D.str))) : Df P w K mg base "is_opener" (k + 1) spOpener := by
  have nd := sc_is_opener.nd
  refine df_mk A rfl sc_is_opener (fun _ _ _ _ _ _ us hl => match us, hl with | [_, _], _ => rfl) (fun ds S Q h => ?_) (fun f cdv A outer s H E hr ds S Q h => ?_)
  · obtain ⟨L, j, n, rfl, _⟩ := h
    rfl
  obtain ⟨L, j, n, rfl, h1, e, ok, h⟩ := h
  have hu := hu_of hr
  refine ⟨_, (dss_one (ds_ret (de_cmp (od_in hu) (de_ix hu (de_ix hu (de_ix hu (dv 0) (de_op od_sub (dv 1) de_int)) de_int) de_int) (de_cst rfl c_OPENERS) rfl))), ?_⟩
  walk_at "dl"
  refine ⟨_, line_at h1 e, ?_⟩
  refine ⟨_, rfl, ?_⟩
  obtain ⟨t, et⟩ := Rs.d_eq n.r
  rw [et]
  walk_at "dl"
  refine ⟨OPN, strsOf_of OPN, ?_⟩
  rw [opens_is ok]
  exact ⟨S, Sub.refl, h⟩
theorem df_ends {k : Nat} (T : Bt mg) (A : At K mg "ends_box" "ends_box" s_ends_box) (G_level_of : Df P w K mg base "level_of" k spLevel) (G_is_opener : Df P w K mg base "is_opener" k spOpener) : Df P w K mg base "ends_box" (k + 1) spEnds := by
  have nd := sc_ends_box.nd
  refine df_mk A rfl sc_ends_box (fun _ _ _ _ _ _ us hl => match us, hl with | [_, _, _], _ => rfl) (fun ds S Q h => ?_) (fun f cdv A outer s H E hr ds S Q h => ?_)
  · obtain ⟨L, i, j, ni, nj, rfl, _⟩ := h
    rfl
  obtain ⟨L, i, j, ni, nj, rfl, i1, j1, ei, ej, ok, h⟩ := h
  have hu := hu_of hr
  refine ⟨_, (dss_cons (ds_if (dt_cmp (od_eq hr.units) (de_call G_level_of hr rfl (da_cons (dv 0) (da_cons (dv 2) da_nil))) (de_call G_level_of hr rfl (da_cons (dv 0) (da_cons (dv 1) da_nil))) (nomark _)) (dss_one (ds_ret (de_call G_is_opener hr rfl (da_cons (dv 0) (da_cons (dv 2) da_nil))))) dss_nil)
    (dss_one (ds_ret (de_cmp od_lt (de_call G_level_of hr rfl (da_cons (dv 0) (da_cons (dv 2) da_nil))) (de_call G_level_of hr rfl (da_cons (dv 0) (da_cons (dv 1) da_nil))) (nomark _))))), ?_⟩
  refine sq ?_
  walk_at "dl"
  refine ⟨L, j, nj, rfl, j1, ej, ?_⟩
  refine ⟨L, i, ni, rfl, i1, ei, ?_⟩
  walk_at "dl"
  unfold ends at h
  by_cases c : nj.lv = ni.lv
  · rw [if_pos c] at h
    refine ifY (by simp [c]) ?_
    walk_at "dl"
    exact ⟨L, j, nj, rfl, j1, ej, ok, S, Sub.refl, h⟩
  · rw [if_neg c] at h
    refine ifN (by omega) ?_
    walk_at "dl"
    refine ⟨L, j, nj, rfl, j1, ej, ?_⟩
    refine ⟨L, i, ni, rfl, i1, ei, ?_⟩
    walk_at "dl"
    have e : decide ((nj.lv : Int) < (ni.lv : Nat)) = decide (nj.lv < ni.lv) := decide_eq_decide.mpr (by omega)
    rw [e]
    exact ⟨S, Sub.refl, h⟩
def spBoxOf : SpD := fun ds S Q => ∃ (L : List Ln) (i : Nat), ds = [linesD L, .int (i : Nat)] ∧ 1 ≤ i ∧ i ≤ L.length ∧ L.length ≤ 1000 ∧ Gd L ∧ Q (.tup [.int (i : Nat), .int ((bEnd L i : Nat) : Int)]) S
theorem callEnds {L : List Ln} (g : Gd L) {i m : Nat} {S : Store} {Q : KD} (i1 : 1 ≤ i) (il : i ≤ L.length) (m1 : 1 ≤ m) (ml : m ≤ L.length) (q : Q (.bl (ends (ln L i) (ln L m))) S) : spEnds [linesD L, .int (i : Nat), .int (m : Nat)] S Q :=
  ⟨L, i, m, _, _, rfl, i1, m1, at_ln i1 il, at_ln m1 ml, (g.at' m1 ml).1, q⟩
theorem df_boxof {k : Nat} (T : Bt mg) (A : At K mg "box_of" "box_of" s_box_of) (G_ends_box : Df P w K mg base "ends_box" k spEnds) : Df P w K mg base "box_of" (k + 1) spBoxOf := by
  have nd := sc_box_of.nd
  refine df_mk A rfl sc_box_of (fun _ _ _ _ _ _ us hl => match us, hl with | [_, _], _ => rfl) (fun ds S Q h => ?_) (fun f cdv A outer s H E hr ds S Q h => ?_)
  · obtain ⟨L, i, rfl, _⟩ := h
    rfl
  obtain ⟨L, i, rfl, i1, il, hL, g, h⟩ := h
  have hu := hu_of hr
  have hie : i ≤ bEnd L i := by unfold bEnd; omega
  have hel := bEnd_le il
  refine ⟨_, (dss_cons (ds_set (i := 2) nd rfl (Or.inl rfl) (dv 1))
    (dss_cons (ds_while PassesOwn.never (dt_w (dw_and (dt_cmp od_lt (dv 2) (de_callB cd_len rfl T.len_ (by decide +kernel) (da_cons (dv 0) da_nil)) (nomark _)) (dw_and1 (dt_not (dt_val (de_call G_ends_box hr rfl (da_cons (dv 0) (da_cons (dv 1) (da_cons (de_op od_add (dv 2) de_int) da_nil))))))))) (dss_one (ds_set (i := 2) nd rfl (Or.inl rfl) (de_op od_add (dv 2) de_int))))
    (dss_one (ds_ret (de_tup (da_cons (dv 1) (da_cons (dv 2) da_nil))))))), ?_⟩
  refine sq ?_
  walk_at "dl"
  refine sq ?_
  refine while_seq (fun j => [some (linesD L), some (.int (i : Nat)), some (.int ((i + j : Nat) : Int))]) (bEnd L i - i) (fun j => decide (i + j < bEnd L i)) (fun S' => S' = S) rfl (by simp; omega) rfl ?_ ?_ ?_
  · rintro j S2 hj rfl N hN
    have hN := hN _ rfl
    walk_at "dl"
    rw [List.length_map]
    by_cases c : i + j < L.length
    · refine ifY (by omega) ?_
      refine callEnds g (m := i + j + 1) i1 il (by omega) (by omega) ?_
      walk_at "dl"
      by_cases c2 : i + j < bEnd L i
      · rw [(bEnd_lt (L := L) (i := i) (m := i + j + 1) (by omega) (by omega)).2]
        rw [decide_eq_true c2] at hN
        exact hN
      · have e : i + j = bEnd L i := by omega
        rw [e, bEnd_end (by omega)]
        rw [decide_eq_false c2] at hN
        exact hN
    · refine ifN (by omega) ?_
      rw [decide_eq_false (by omega)] at hN
      exact hN
  · rintro j S2 N hj rfl hN
    walk_at "dl"
    exact hN _ rfl
  · rintro j S2 hj hb rfl
    have e : i + j = bEnd L i := by simp at hb; omega
    walk_at "dl"
    rw [e]
    exact ⟨_, Sub.refl, h⟩
def spBehind : SpD := fun ds S Q => ∃ (L : List Ln) (a : Addr) (os : List Nat) (k : Nat), ds = [linesD L, .ref a, .int (k : Nat)] ∧ S a = some (.lst (os.map inD)) ∧ 1 ≤ k ∧ k ≤ L.length ∧ L.length ≤ 1000 ∧ Gd L ∧ os.length ≤ 1000 ∧ (∀ i ∈ os, 1 ≤ i ∧ i ≤ L.length) ∧
  ∀ (b : Addr) (S' : Store), DL.Sub S S' → S b = none → S' b = some (.lst ((os.filter (fun i => !ends (ln L i) (ln L k)) ++ (if (ln L k).r.opens = true then [k] else [])).map inD)) → Q (.ref b) S'
theorem df_behind {k : Nat} (T : Bt mg) (A : At K mg "openers_behind" "openers_behind" s_openers_behind) (G_is_opener : Df P w K mg base "is_opener" k spOpener) (G_ends_box : Df P w K mg base "ends_box" k spEnds) : Df P w K mg base "openers_behind" (k + 1) spBehind := by
  have nd := sc_openers_behind.nd
  refine df_mk A rfl sc_openers_behind (fun _ _ _ _ _ _ us hl => match us, hl with | [_, _, _], _ => rfl) (fun ds S Q h => ?_) (fun f cdv A outer s H E hr ds S Q h => ?_)
  · obtain ⟨L, a, os, m, rfl, _⟩ := h
    rfl
  obtain ⟨L, a, os, m, rfl, ha, m1, ml, hL, g, hol, hos, h⟩ := h
  have hu := hu_of hr
  refine ⟨_, (dss_cons (ds_setLc (i := 3) (own := [("i", 4)]) (g := GD.one 4) rfl nd rfl rfl (sw_true rfl rfl rfl (by decide +kernel)) (di_any (dv 1)) (blkOk_by (own := [("i", 4)]) (N := ["lines", "openers", "k", "found", "i"]) (sc := defScope s_openers_behind) (by decide +kernel)) (fun _ _ _ _ _ => (dg_name (i := 4) nd rfl (Or.inl rfl))) (fun _ _ _ _ _ => (dts_one (dt_not (dt_val (de_call G_ends_box hr rfl (da_cons (dv 0) (da_cons (dv 4) (da_cons (dv 2) da_nil)))))))) (fun _ _ _ _ _ => (dv 4)))
    (dss_cons (ds_if (dt_val (de_call G_is_opener hr rfl (da_cons (dv 0) (da_cons (dv 2) da_nil)))) (dss_one (ds_expr (de_m PySem.F.plainAttrs_list PySem.F.slot_list_append PySem.F.type_list_append md_append (dv 3) (da_cons (dv 2) da_nil)))) dss_nil)
    (dss_one (ds_ret (dv 3))))), ?_⟩
  refine sq ?_
  walk_at "dl"
  refine ⟨⟨_, ha⟩, fun q nq => ?_⟩
  have hne := ne_new ha nq
  refine lcB_fltA os inD inD (fun i => !ends (ln L i) (ln L m)) (fun k acc => ?_) (by omega) (fun i acc N mi hN => ?_) (fun i S Y mi yy => ?_) ?_
  · exact listJ ((put_ne hne).trans ha)
  · have := hos i mi
    walk_at "dl"
    refine callEnds g this.1 this.2 m1 ml ?_
    walk_at "dl"
    exact hN
  · walk_at "dl"
    exact yy
  walk_at "dl"
  have sb : DL.Sub S (put S q (.lst ((os.filter fun i => !ends (ln L i) (ln L m)).map inD))) := Sub.new nq
  have hq : put S q (.lst ((os.filter fun i => !ends (ln L i) (ln L m)).map inD)) q = _ := put_same
  generalize put S q (.lst ((os.filter fun i => !ends (ln L i) (ln L m)).map inD)) = S1 at sb hq
  refine sq ?_
  walk_at "dl"
  refine ⟨L, m, _, rfl, m1, at_ln m1 ml, (g.at' m1 ml).1, ?_⟩
  cases o : (ln L m).r.opens with
  | true =>
    rw [o] at h
    walk_at "dl"
    refine ⟨ty_list hq, ?_⟩
    refine append_of hq (szLt (by rw [List.length_map]; have := List.length_filter_le (fun i => !ends (ln L i) (ln L m)) os; omega)) ?_
    refine ⟨_, Sub.refl, h q _ (sb.at nq) nq ?_⟩
    rw [put_same, List.map_append]
    rfl
  | false =>
    rw [o] at h
    walk_at "dl"
    refine ⟨_, Sub.refl, h q _ sb nq ?_⟩
    rw [hq]
    simp
def spAtOps : SpD := fun ds S Q => ∃ (L : List Ln) (k : Nat), ds = [linesD L, .int (k : Nat)] ∧ 1 ≤ k ∧ k ≤ L.length ∧ L.length ≤ 1000 ∧ Gd L ∧ ∀ S', DL.Sub S S' → Q (.tup ((stk L k).map inD)) S'
theorem stk_le {L : List Ln} : ∀ k, (stk L k).length ≤ k
  | 0 => by simp [stk]
  | k + 1 => by
    have := stk_le (L := L) k
    unfold stk
    split
    · rw [List.length_append, List.length_take, List.length_singleton]; omega
    · rw [List.length_take]; omega
theorem df_at_ops {k : Nat} (T : Bt mg) (A : At K mg "openers_at" "openers_at" s_openers_at) (G_openers_behind : Df P w K mg base "openers_behind" k spBehind) : Df P w K mg base "openers_at" (k + 1) spAtOps := by
  have nd := sc_openers_at.nd
  refine df_mk A rfl sc_openers_at (fun _ _ _ _ _ _ us hl => match us, hl with | [_, _], _ => rfl) (fun ds S Q h => ?_) (fun f cdv A outer s H E hr ds S Q h => ?_)
  · obtain ⟨L, m, rfl, _⟩ := h
    rfl
  obtain ⟨L, m, rfl, m1, ml, hL, g, h⟩ := h
  have hu := hu_of hr
  refine ⟨_, (dss_cons (ds_set (i := 2) nd rfl (Or.inl rfl) (de_lst da_nil))
    (dss_cons (ds_for PassesOwn.never rfl (di_range2 rfl T.range_ (da_cons de_int (da_cons (de_op od_add (dv 1) de_int) da_nil))) (dg_name (i := 3) nd rfl (Or.inl rfl)) (dss_one (ds_set (i := 2) nd rfl (Or.inl rfl) (de_call G_openers_behind hr rfl (da_cons (dv 0) (da_cons (dv 2) (da_cons (dv 3) da_nil)))))))
    (dss_one (ds_ret (de_callTy cd_tuple rfl T.tuple_ (by decide +kernel) (da_cons (dv 2) da_nil)))))), ?_⟩
  refine sq ?_
  walk_at "dl"
  intro q nq
  refine sq ?_
  walk_at "dl"
  refine ⟨⟨by omega, by omega, by omega, by omega⟩, ?_⟩
  rw [show ((m : Int) + 1 - 1).toNat = m by omega]
  refine forB_rng (fun i δ S' => ∃ (b : Addr) (o3 : Option D), δ = [some (linesD L), some (.int (m : Nat)), some (.ref b), o3] ∧ DL.Sub S S' ∧ S' b = some (.lst ((ops L i).map inD))) ⟨q, none, rfl, Sub.new nq, put_same⟩ ?_ ?_
  · rintro i δ S1 hi ⟨b, o3, rfl, s1, hb⟩
    have ok := stk_ok g i (by omega)
    walk_at "dl"
    refine ⟨L, b, ops L i, i + 1, by rw [show ((1 : Int) + (i : Nat)) = ((i + 1 : Nat) : Int) by omega], hb, by omega, by omega, hL, g, by rw [ok.same]; have := stk_le (L := L) i; omega, fun z hz => ?_, fun b2 S2 s2 _ hb2 => ?_⟩
    · rw [ok.same] at hz
      have := ok.rng z hz
      omega
    · exact ⟨b2, _, rfl, s1.trans s2, hb2⟩
  · rintro δ S1 ⟨b, o3, rfl, s1, hb⟩
    walk_at "dl"
    refine ⟨_, hb, ?_⟩
    rw [(stk_ok g m ml).same]
    exact ⟨S1, Sub.refl, h S1 s1⟩
theorem cutL_neg1 {α : Type} {xs : List α} : cutL xs none (some (-1)) = xs.take (xs.length - 1) := by
  unfold cutL
  show (xs.drop 0).take (((-1 : Int) + (xs.length : Int)).toNat - 0) = _
  rw [List.drop_zero]
  congr 1
  omega
theorem mapN (l : List Nat) : l.map inD = (l.map fun k : Nat => (k : Int)).map D.int := by rw [List.map_map]; rfl
theorem intsN (l : List Nat) : intsOf (l.map inD) = some (l.map fun k : Nat => (k : Int)) := by rw [mapN]; exact intsOf_of _
theorem memN {l : List Nat} {z : Nat} : (z : Int) ∈ (l.map fun k : Nat => (k : Int)) ↔ z ∈ l := by
  rw [List.mem_map]
  refine ⟨fun ⟨a, ha, e⟩ => ?_, fun h => ⟨z, h, rfl⟩⟩
  have : a = z := by omega
  exact this ▸ ha
theorem blsOf_of' {α : Type} (l : List α) : blsOf (l.map fun _ => D.bl true) = some (l.map fun _ => true) := by
  have := blsOf_of (l.map fun _ => true)
  rw [List.map_map] at this
  exact this
theorem all_true {α : Type} (l : List α) : (l.map fun _ => true).all id = true := by simp
def spTold : SpD := fun ds S Q => ∃ (L : List Ln) (i k : Nat), ds = [linesD L, .int (i : Nat), .int (k : Nat)] ∧ 1 ≤ k ∧ k ≤ L.length ∧ L.length ≤ 1000 ∧ Gd L ∧ BoxIs L i k ∧ ∀ S', DL.Sub S S' → Q (.int ((bEnd L i : Nat) : Int)) S'
theorem df_told {k : Nat} (T : Bt mg) (A : At K mg "told_by" "told_by" s_told_by) (G_is_opener : Df P w K mg base "is_opener" k spOpener) (G_level_of : Df P w K mg base "level_of" k spLevel) (G_box_of : Df P w K mg base "box_of" k spBoxOf) (G_openers_at : Df P w K mg base "openers_at" k spAtOps) : Df P w K mg base "told_by" (k + 1) spTold := by
  have nd := sc_told_by.nd
  refine df_mk A rfl sc_told_by (fun _ _ _ _ _ _ us hl => match us, hl with | [_, _, _], _ => rfl) (fun ds S Q h => ?_) (fun f cdv A outer s H E hr ds S Q h => ?_)
  · obtain ⟨L, i, m, rfl, _⟩ := h
    rfl
  obtain ⟨L, i, m, rfl, m1, ml, hL, g, b, h⟩ := h
  have hu := hu_of hr
  have i1 := b.i1
  have ie := b.ie
  have ek := b.ek
  have il : i ≤ L.length := by omega
  refine ⟨_, (dss_cons (ds_if (dt_w (dw_or (dt_not (dt_val (de_call G_is_opener hr rfl (da_cons (dv 0) (da_cons (dv 1) da_nil))))) (dw_or1 (dt_cmp (od_ne hr.units) (de_call G_level_of hr rfl (da_cons (dv 0) (da_cons (dv 1) da_nil))) (de_op od_add (de_call G_level_of hr rfl (da_cons (dv 0) (da_cons (dv 2) da_nil))) de_int) (nomark _))))) (dss_one (ds_ret de_non)) dss_nil)
    (dss_cons (ds_set (i := 3) nd rfl (Or.inl rfl) (de_ix hu (de_call G_box_of hr rfl (da_cons (dv 0) (da_cons (dv 1) da_nil))) de_int))
    (dss_cons (ds_if (dt_w (dw_or (dt_cmp od_le (dv 2) (dv 3) (nomark _)) (dw_or1 (dt_cmp (od_ne hr.units) (de_call G_level_of hr rfl (da_cons (dv 0) (da_cons (dv 3) da_nil))) (de_call G_level_of hr rfl (da_cons (dv 0) (da_cons (dv 1) da_nil))) (nomark _))))) (dss_one (ds_ret de_non)) dss_nil)
    (dss_cons (ds_set (i := 4) nd rfl (Or.inr rfl) (de_call G_openers_at hr rfl (da_cons (dv 0) (da_cons (dv 2) da_nil))))
    (dss_cons (ds_if (dt_not (dt_val (de_callB (cd_all rfl) rfl T.all_ (by decide +kernel) (da_cons (de_lc (own := [("one", 5)]) (g := GD.one 5) rfl nd (di_any (de_slice (de_call G_openers_at hr rfl (da_cons (dv 0) (da_cons (dv 1) da_nil))) do_none (do_some (de_neg de_int)))) (blkOk_by (own := [("one", 5)]) (N := ["lines", "i", "k", "last", "there", "one"]) (sc := defScope s_told_by) (by decide +kernel)) (fun _ _ _ _ _ => (dg_name (i := 5) nd rfl (Or.inl rfl))) (fun _ _ _ _ _ => dts_nil) (fun _ _ _ _ _ => (de_cmp (od_in hu) (dv 5) (dv 4) rfl))) da_nil)))) (dss_one (ds_ret de_non)) dss_nil)
    (dss_one (ds_ret (dv 3)))))))), ?_⟩
  refine seq_if (fun _ => False) (fun S' => S' = S) (fun N N1 N2 => ?_) (fun S' z => z.elim) ?_
  · walk_at "dl"
    refine ⟨L, i, _, rfl, i1, at_ln i1 il, (g.at' i1 il).1, ?_⟩
    rw [b.op]
    walk_at "dl"
    refine ⟨L, i, _, rfl, i1, at_ln i1 il, ?_⟩
    refine ⟨L, m, _, rfl, m1, at_ln m1 ml, ?_⟩
    walk_at "dl"
    have := b.lv
    rw [decide_eq_true (show ((ln L i).lv : Int) = ((ln L m).lv : Nat) + 1 by omega)]
    exact N2 _ rfl
  rintro S' rfl
  walk_at "dl"
  refine sq ?_
  walk_at "dl"
  refine ⟨L, i, rfl, i1, il, hL, g, ?_⟩
  walk_at "dl"
  refine seq_if (fun _ => False) (fun S2 => S2 = S') (fun N N1 N2 => ?_) (fun S' z => z.elim) ?_
  · walk_at "dl"
    refine ifN (by omega) ?_
    refine ⟨L, bEnd L i, _, rfl, by omega, at_ln (by omega) (by omega), ?_⟩
    refine ⟨L, i, _, rfl, i1, at_ln i1 il, ?_⟩
    walk_at "dl"
    rw [b.el]
    rw [decide_eq_true rfl]
    exact N2 _ rfl
  rintro S' rfl
  walk_at "dl"
  refine sq ?_
  walk_at "dl"
  refine ⟨L, m, rfl, m1, ml, hL, g, fun S1 s1 => ?_⟩
  walk_at "dl"
  refine seq_if (fun _ => False) (fun S2 => DL.Sub S' S2) (fun N N1 N2 => ?_) (fun S' z => z.elim) ?_
  · walk_at "dl"
    refine ⟨L, i, rfl, i1, il, hL, g, fun S2 s2 => ?_⟩
    walk_at "dl"
    intro q nq
    rw [cutL_map, cutL_neg1]
    refine lcB_fltA ((stk L i).take ((stk L i).length - 1)) inD (fun _ => D.bl true) (fun _ => true) (fun k acc => rfl) (by rw [List.length_take]; have := stk_le (L := L) i; omega) (fun z acc N mz hN => ?_) (fun z S Y mz yy => ?_) ?_
    · exact hN
    · walk_at "dl"
      refine ⟨_, intsN _, ?_⟩
      rw [decide_eq_true (memN.mpr (b.out z mz))]
      exact yy
    · walk_at "dl"
      refine ⟨_, _, seqAt_ref put_same, blsOf_of' _, ?_⟩
      walk_at "dl"
      rw [all_true]
      exact N2 _ ((s1.trans s2).trans (Sub.new nq))
  rintro S2 s2
  walk_at "dl"
  exact ⟨S2, Sub.refl, h S2 s2⟩
def W3 : List Str := ["again", "left", "right", "orleft", "orright", "nothing", "at", "such", "meaning", "asmany", "one", "someof", "none", "nomore", "cover", "turned", "soif", "not", "contrary", "forany", "forsome"]
def W4 : List Str := ["both", "then", "absurd", "put", "apart"]
def W5 : List Str := ["two", "cases"]
def many (w : Str) : Nat := if w ∈ W3 then 1 else if w ∈ W4 then 2 else if w ∈ W5 then 3 else 0
def spMany : SpD := fun ds S Q => ∃ w : Str, ds = [.str w] ∧ Q (.int ((many w : Nat) : Int)) S
theorem df_many {k : Nat} (T : Bt mg) (A : At K mg "many_numbers" "many_numbers" s_many_numbers) (c_ONE : Cst K mg "ONE" (.tup (W3.map D.str))) (c_TWO : Cst K mg "TWO" (.tup (W4.map D.str))) (c_THREE : Cst K mg "THREE" (.tup (W5.map D.str))) : Df P w K mg base "many_numbers" (k + 1) spMany := by
  have nd := sc_many_numbers.nd
  refine df_mk A rfl sc_many_numbers (fun _ _ _ _ _ _ us hl => match us, hl with | [_], _ => rfl) (fun ds S Q h => ?_) (fun f cdv A outer s H E hr ds S Q h => ?_)
  · obtain ⟨w, rfl, _⟩ := h
    rfl
  obtain ⟨w, rfl, h⟩ := h
  have hu := hu_of hr
  refine ⟨_, (dss_cons (ds_if (dt_cmp (od_in hu) (dv 0) (de_cst rfl c_ONE) rfl) (dss_one (ds_ret de_int)) dss_nil)
    (dss_cons (ds_if (dt_cmp (od_in hu) (dv 0) (de_cst rfl c_TWO) rfl) (dss_one (ds_ret de_int)) dss_nil)
    (dss_cons (ds_if (dt_cmp (od_in hu) (dv 0) (de_cst rfl c_THREE) rfl) (dss_one (ds_ret de_int)) dss_nil)
    (dss_one (ds_ret de_int))))), ?_⟩
  unfold many at h
  refine sq ?_
  walk_at "dl"
  refine ⟨W3, strsOf_of W3, ?_⟩
  by_cases a : w ∈ W3
  · rw [if_pos a] at h
    refine ifY (by simpa using a) ?_
    exact ⟨S, Sub.refl, h⟩
  rw [if_neg a] at h
  refine ifN (by simpa using a) ?_
  refine sq ?_
  walk_at "dl"
  refine ⟨W4, strsOf_of W4, ?_⟩
  by_cases a : w ∈ W4
  · rw [if_pos a] at h
    refine ifY (by simpa using a) ?_
    exact ⟨S, Sub.refl, h⟩
  rw [if_neg a] at h
  refine ifN (by simpa using a) ?_
  refine sq ?_
  walk_at "dl"
  refine ⟨W5, strsOf_of W5, ?_⟩
  by_cases a : w ∈ W5
  · rw [if_pos a] at h
    refine ifY (by simpa using a) ?_
    exact ⟨S, Sub.refl, h⟩
  rw [if_neg a] at h
  refine ifN (by simpa using a) ?_
  walk_at "dl"
  exact ⟨S, Sub.refl, h⟩
def spBoxes : SpD := fun ds S Q => ∃ r : Rs, ds = [r.d] ∧ r.ok ∧ Q (.tup (r.bxs.map inD)) S
theorem df_boxes {k : Nat} (T : Bt mg) (A : At K mg "boxes_in" "boxes_in" s_boxes_in) (c_BOXED : Cst K mg "BOXED" (.tup (WB.map D.str))) : Df P w K mg base "boxes_in" (k + 1) spBoxes := by
  have nd := sc_boxes_in.nd
  refine df_mk A rfl sc_boxes_in (fun _ _ _ _ _ _ us hl => match us, hl with | [_], _ => rfl) (fun ds S Q h => ?_) (fun f cdv A outer s H E hr ds S Q h => ?_)
  · obtain ⟨r, rfl, _⟩ := h
    rfl
  obtain ⟨r, rfl, ok, h⟩ := h
  have hu := hu_of hr
  refine ⟨_, (dss_cons (ds_if (dt_cmp (od_in hu) (de_ix hu (dv 0) de_int) (de_cst rfl c_BOXED) rfl) (dss_one (ds_ret (de_tup (da_cons (de_ix hu (dv 0) de_int) da_nil)))) dss_nil)
    (dss_cons (ds_if (dt_cmp (od_eq hr.units) (de_ix hu (dv 0) de_int) de_str (nomark _)) (dss_one (ds_ret (de_tup (da_cons (de_ix hu (dv 0) de_int) (da_cons (de_ix hu (dv 0) de_int) da_nil))))) dss_nil)
    (dss_one (ds_ret (de_tup da_nil))))), ?_⟩
  refine sq ?_
  obtain ⟨t, et⟩ := Rs.d_eq r
  have hb : (Rs.wd r ∈ WB ∧ ∃ w i, r = .bx w i) ∨ (Rs.wd r ∉ WB ∧ ((Rs.wd r = "cases" ∧ ∃ k i n, r = .cases k i n) ∨ (Rs.wd r ≠ "cases" ∧ r.bxs = []))) := by
    have key : ∀ (W : List Str), (∀ w ∈ W, w ∉ WB ∧ w ≠ "cases") → ∀ w ∈ W, w ∉ WB ∧ w ≠ "cases" := fun W hW => hW
    cases r with
    | w0 w => exact .inr ⟨(key W0 (by decide +kernel) w ok).1, .inr ⟨(key W0 (by decide +kernel) w ok).2, rfl⟩⟩
    | w1 w k => exact .inr ⟨(key W1 (by decide +kernel) w ok).1, .inr ⟨(key W1 (by decide +kernel) w ok).2, rfl⟩⟩
    | w2 w j k => exact .inr ⟨(key W2 (by decide +kernel) w ok).1, .inr ⟨(key W2 (by decide +kernel) w ok).2, rfl⟩⟩
    | wn w k x => exact .inr ⟨(key WN (by decide +kernel) w ok).1, .inr ⟨(key WN (by decide +kernel) w ok).2, rfl⟩⟩
    | any x => exact .inr ⟨(by show ("any" : Str) ∉ WB; decide +kernel), .inr ⟨(by show ("any" : Str) ≠ "cases"; decide +kernel), rfl⟩⟩
    | called x k => exact .inr ⟨(by show ("called" : Str) ∉ WB; decide +kernel), .inr ⟨(by show ("called" : Str) ≠ "cases"; decide +kernel), rfl⟩⟩
    | sums ks ts => exact .inr ⟨(by show ("sums" : Str) ∉ WB; decide +kernel), .inr ⟨(by show ("sums" : Str) ≠ "cases"; decide +kernel), rfl⟩⟩
    | bx w i => exact .inl ⟨ok, w, i, rfl⟩
    | cases k i n => exact .inr ⟨(by show ("cases" : Str) ∉ WB; decide +kernel), .inl ⟨rfl, k, i, n, rfl⟩⟩
  rcases hb with ⟨m, w, i, rfl⟩ | ⟨m, hb⟩
  · simp only [Rs.d]
    walk_at "dl"
    refine ⟨WB, strsOf_of WB, ?_⟩
    have m' : w ∈ WB := m
    refine ifY (by simpa using m') ?_
    exact ⟨S, Sub.refl, h⟩
  rcases hb with ⟨e, k, i, n, rfl⟩ | ⟨e, eb⟩
  · simp only [Rs.d]
    walk_at "dl"
    refine ⟨WB, strsOf_of WB, ?_⟩
    have m' : ("cases" : Str) ∉ WB := m
    refine ifN (by simpa using m') ?_
    refine sq ?_
    walk_at "dl"
    exact ⟨S, Sub.refl, h⟩
  · rw [et]
    walk_at "dl"
    refine ⟨WB, strsOf_of WB, ?_⟩
    refine ifN (by simpa using m) ?_
    refine sq ?_
    walk_at "dl"
    refine ifN (by simpa using e) ?_
    walk_at "dl"
    rw [eb] at h
    exact ⟨S, Sub.refl, h⟩
end
end K61

set_option Elab.async false
set_option maxRecDepth 100000
set_option linter.unusedVariables false
namespace K61
open PySem PySem.Spec PyProof.Rows L2 DL FO
local macro_rules | `(tactic| walk_at "dl") => `(tactic| try simp only [DL.tAsgD, DL.asg, DL.tVarD, DL.lk, DL.sto, DL.stos, DL.tOpD, DL.tCD, DL.tCallD, DL.tConsD, DL.tNilD, DL.tRetD, DL.endsD, DL.startD, DL.tIfSD, DL.tTestD, DL.tNextD, DL.tDropD, DL.tAndD, DL.tOrD, DL.tNotD, DL.tAndV, DL.tOrV, DL.tNotV, DL.tIfD, DL.tNegD, DL.tTupD, DL.tLstD, DL.tSetD, DL.tMD, DL.tSlD, DL.tPartD, DL.tNoD, DL.tRevD, DL.tForD, DL.tLcD, DL.tIterD, DL.tRng1D, DL.tRng2D, DL.tYesD, DL.wipeD, DL.tDictD, DL.tDictOne, DL.tFldD, DL.tMethD, DL.tMakeD, DL.tSetF, DL.tThaw, DL.thaw, DL.tLRg, DL.tChainD, DL.tDispD, DL.tPairsD, DL.tEnumD, DL.tZipD, DL.tCallLD, DL.tSortSet, DL.tRng3D, DL.keyOf, DL.emE_rr, DL.tLess, DL.tLessS, DL.itOk, DL.rAdd_ii, DL.rAdd_ss, DL.rAdd_tt, DL.rAdd_rr, DL.rSub_ii, DL.rMod_ii, DL.rDiv_ii, DL.rPow_ii, DL.rMul_ii, DL.rMul_ri, DL.rLt_ii, DL.rLt_ss, DL.rLe_ii, DL.rGt_ii, DL.rGe_ii, DL.rEq_ii, DL.rEq_ss, DL.rEq_bb, DL.rNe_ii, DL.rNe_ss, DL.rNe_bb, DL.rEq_rr, DL.rNe_rr, DL.rEq_tt, DL.rNe_tt, DL.rIn_st, DL.rNotIn_st, DL.rIn_r, DL.rNotIn_r, DL.rIn_ss, DL.rInDO_sl, DL.rInDO_il, DL.rInDO_sd, DL.rInDO_id, DL.rIsN_n, DL.rIsN_t, DL.rIsN_i, DL.rIsN_s, DL.rIsN_r, DL.rNotN_n, DL.rNotN_t, DL.rNotN_i, DL.rNotN_s, DL.rNotN_r, DL.rIx_t, DL.rIx_r, DL.rIx_s, DL.rIxDO_l, DL.rIxDO_ds, DL.rIx0, DL.rIx1, DL.rIx2, DL.rIx3, DL.rSl_t, DL.rSl_s, DL.rSl_o, DL.rSl_r, DL.rSlDO, DL.rSet_r, DL.rSetDO_0, DL.rSetDO_s, DL.rLen_t, DL.rLen_o, DL.rLen_s, DL.rLen_r, DL.rLenDO, DL.rLenDO_d, DL.rList_t, DL.rList_o, DL.rList_r, DL.rListDO, DL.rTuple_t, DL.rTuple_r, DL.rInt_i, DL.rInt_b, DL.rMax, DL.rMin, DL.rSz0, DL.rSz1, DL.rSz2, DL.rSz3, DL.rSz4, DL.rSz5, DL.rSz6, DL.rSz7, DL.rSz8, Option.some.injEq, DL.DO.lst.injEq, exists_eq_left', exists_eq_left, DL.put_same, DL.put_put, true_and, and_true, List.map, List.replicate, List.length, List.cons_append, List.nil_append, Nat.reduceSub, Nat.reduceAdd, decide_eq_true_eq, if_true, if_false, Bool.false_eq_true, Bool.not_true, Bool.not_false])
local macro_rules | `(tactic| walk_at "dlh") => `(tactic| try simp only [*, DL.tAsgD, DL.asg, DL.tVarD, DL.lk, DL.sto, DL.stos, DL.tOpD, DL.tCD, DL.tCallD, DL.tConsD, DL.tNilD, DL.tRetD, DL.endsD, DL.startD, DL.tIfSD, DL.tTestD, DL.tNextD, DL.tDropD, DL.tAndD, DL.tOrD, DL.tNotD, DL.tAndV, DL.tOrV, DL.tNotV, DL.tIfD, DL.tNegD, DL.tTupD, DL.tLstD, DL.tSetD, DL.tMD, DL.tSlD, DL.tPartD, DL.tNoD, DL.tRevD, DL.tForD, DL.tLcD, DL.tIterD, DL.tRng1D, DL.tRng2D, DL.tYesD, DL.wipeD, DL.tDictD, DL.tDictOne, DL.tFldD, DL.tMethD, DL.tMakeD, DL.tSetF, DL.tThaw, DL.thaw, DL.tLRg, DL.tChainD, DL.tDispD, DL.tPairsD, DL.tEnumD, DL.tZipD, DL.tCallLD, DL.tSortSet, DL.tRng3D, DL.keyOf, DL.emE_rr, DL.tLess, DL.tLessS, DL.itOk, DL.rAdd_ii, DL.rAdd_ss, DL.rAdd_tt, DL.rAdd_rr, DL.rSub_ii, DL.rMod_ii, DL.rDiv_ii, DL.rPow_ii, DL.rMul_ii, DL.rMul_ri, DL.rLt_ii, DL.rLt_ss, DL.rLe_ii, DL.rGt_ii, DL.rGe_ii, DL.rEq_ii, DL.rEq_ss, DL.rEq_bb, DL.rNe_ii, DL.rNe_ss, DL.rNe_bb, DL.rEq_rr, DL.rNe_rr, DL.rEq_tt, DL.rNe_tt, DL.rIn_st, DL.rNotIn_st, DL.rIn_r, DL.rNotIn_r, DL.rIn_ss, DL.rInDO_sl, DL.rInDO_il, DL.rInDO_sd, DL.rInDO_id, DL.rIsN_n, DL.rIsN_t, DL.rIsN_i, DL.rIsN_s, DL.rIsN_r, DL.rNotN_n, DL.rNotN_t, DL.rNotN_i, DL.rNotN_s, DL.rNotN_r, DL.rIx_t, DL.rIx_r, DL.rIx_s, DL.rIxDO_l, DL.rIxDO_ds, DL.rIx0, DL.rIx1, DL.rIx2, DL.rIx3, DL.rSl_t, DL.rSl_s, DL.rSl_o, DL.rSl_r, DL.rSlDO, DL.rSet_r, DL.rSetDO_0, DL.rSetDO_s, DL.rLen_t, DL.rLen_o, DL.rLen_s, DL.rLen_r, DL.rLenDO, DL.rLenDO_d, DL.rList_t, DL.rList_o, DL.rList_r, DL.rListDO, DL.rTuple_t, DL.rTuple_r, DL.rInt_i, DL.rInt_b, DL.rMax, DL.rMin, DL.rSz0, DL.rSz1, DL.rSz2, DL.rSz3, DL.rSz4, DL.rSz5, DL.rSz6, DL.rSz7, DL.rSz8, Option.some.injEq, DL.DO.lst.injEq, exists_eq_left', exists_eq_left, DL.put_same, DL.put_put, true_and, and_true, List.map, List.replicate, List.length, List.cons_append, List.nil_append, Nat.reduceSub, Nat.reduceAdd, decide_eq_true_eq, if_true, if_false, Bool.false_eq_true, Bool.not_true, Bool.not_false])
local macro_rules | `(tactic| walk_at "go") => `(tactic| repeat (first | (refine DL.sq ?_; try walk_at "dl") | (refine DL.ifY rfl ?_; try walk_at "dl") | (refine DL.inY rfl (by decide) ?_; try walk_at "dl") | (refine DL.inN rfl (by decide) ?_; try walk_at "dl") | (refine DL.ifN (by decide) ?_; try walk_at "dl")))
abbrev s_numbers_in : Stmt := top 15
theorem sc_numbers_in : FnScope ["reason", "word"] ["reason"] (defScope s_numbers_in) := ⟨rfl, rfl, rfl, by decide +kernel, rfl, by decide +kernel, by decide +kernel⟩
abbrev s_needs_of : Stmt := top 19
theorem sc_needs_of : FnScope ["lines", "k", "reason", "found", "i"] ["lines", "k"] (defScope s_needs_of) := ⟨rfl, rfl, rfl, by decide +kernel, rfl, by decide +kernel, by decide +kernel⟩
abbrev s_needed : Stmt := top 20
theorem sc_needed : FnScope ["argument", "lines", "known", "waiting", "number"] ["argument"] (defScope s_needed) := ⟨rfl, rfl, rfl, by decide +kernel, rfl, by decide +kernel, by decide +kernel⟩
def rowsT : List (Str × Option Int) := (W0 ++ W1 ++ W2 ++ WN ++ WB ++ (["any", "called", "cases"] : List Str)).map (fun w => (w, none)) ++ [(("sums" : Str), some 1)]
theorem rows_none {w : Str} (h : w ∈ W0 ++ W1 ++ W2 ++ WN ++ WB ++ (["any", "called", "cases"] : List Str)) : rowsT.lookup w = some none := by
  have : ∀ w ∈ W0 ++ W1 ++ W2 ++ WN ++ WB ++ (["any", "called", "cases"] : List Str), rowsT.lookup w = some none := by decide +kernel
  exact this w h
theorem rows_sums : rowsT.lookup ("sums" : Str) = some (some 1) := by decide +kernel
theorem cut1 {α : Type} {x : α} {t : List α} {m : Nat} : cutL (x :: t) (some (1 : Int)) (some (((1 + m : Nat)) : Int)) = t.take m := by
  unfold cutL
  rw [HT.sIx_nat, show (1 : Int) = ((1 : Nat) : Int) from rfl, HT.sIx_nat]
  have e : min 1 (x :: t).length = 1 := by rw [List.length_cons]; omega
  rw [e, List.length_cons, List.drop_succ_cons, List.drop_zero]
  by_cases h : m ≤ t.length
  · congr 1; omega
  · rw [List.take_of_length_le (by omega), List.take_of_length_le (by omega)]
theorem nums_cls {r : Rs} (ok : r.ok) : (∃ wd t, r.d = .tup (.str wd :: t) ∧ rowsT.lookup wd = some none ∧ wd ≠ "called" ∧ t.take (many wd) = r.nums.map inD) ∨ (∃ x k, r = .called x k) ∨ ∃ ks ts, r = .sums ks ts := by
  have key : ∀ (W : List Str) (m : Nat), (∀ w ∈ W, rowsT.lookup w = some none ∧ w ≠ "called" ∧ many w = m) → ∀ w ∈ W, rowsT.lookup w = some none ∧ w ≠ "called" ∧ many w = m := fun _ _ h => h
  cases r with
  | w0 w =>
    obtain ⟨a, b, c⟩ := key W0 0 (by decide +kernel) w ok
    exact .inl ⟨w, _, rfl, a, b, by rw [c]; rfl⟩
  | w1 w k =>
    obtain ⟨a, b, c⟩ := key W1 1 (by decide +kernel) w ok
    exact .inl ⟨w, _, rfl, a, b, by rw [c]; rfl⟩
  | w2 w j k =>
    obtain ⟨a, b, c⟩ := key W2 2 (by decide +kernel) w ok
    exact .inl ⟨w, _, rfl, a, b, by rw [c]; rfl⟩
  | wn w k x =>
    obtain ⟨a, b, c⟩ := key WN 1 (by decide +kernel) w ok
    exact .inl ⟨w, _, rfl, a, b, by rw [c]; rfl⟩
  | any x =>
    obtain ⟨a, b, c⟩ := key ["any"] 0 (by decide +kernel) "any" (by simp)
    exact .inl ⟨"any", _, rfl, a, b, by rw [c]; rfl⟩
  | called x k => exact .inr (.inl ⟨x, k, rfl⟩)
  | sums ks ts => exact .inr (.inr ⟨ks, ts, rfl⟩)
  | bx w i =>
    obtain ⟨a, b, c⟩ := key WB 1 (by decide +kernel) w ok
    exact .inl ⟨w, _, rfl, a, b, by rw [c]; rfl⟩
  | cases k i n =>
    obtain ⟨a, b, c⟩ := key ["cases"] 3 (by decide +kernel) "cases" (by simp)
    exact .inl ⟨"cases", _, rfl, a, b, by rw [c]; rfl⟩
def spNums : SpD := fun ds S Q => ∃ r : Rs, ds = [r.d] ∧ r.ok ∧ Q (.tup (r.nums.map inD)) S
section
variable {P : Program} {w : World} {K : PySem.W.Frag} {mg : Str → Option Value} {base : Heap}
theorem df_nums {k : Nat} {d : Addr} (T : Bt mg) (A : At K mg "numbers_in" "numbers_in" s_numbers_in) (c_ROWS : CDict K w mg "ROWS" d rowsT) (G_many_numbers : Df P w K mg base "many_numbers" k spMany) : Df P w K mg base "numbers_in" (k + 1) spNums := by
  have nd := sc_numbers_in.nd
  refine df_mk A rfl sc_numbers_in (fun _ _ _ _ _ _ us hl => match us, hl with | [_], _ => rfl) (fun ds S Q h => ?_) (fun f cdv A outer s H E hr ds S Q h => ?_)
  · obtain ⟨r, rfl, _⟩ := h
    rfl
  obtain ⟨r, rfl, ok, h⟩ := h
  have hu := hu_of hr
  refine ⟨_, (dss_cons (ds_set (i := 1) nd rfl (Or.inl rfl) (de_ix hu (dv 0) de_int))
    (dss_cons (ds_if (dt_cmp (od_inK c_ROWS) (dv 1) (de_cdict c_ROWS rfl) rfl) (dss_one (ds_ret (de_callTy cd_tuple rfl T.tuple_ (by decide +kernel) (da_cons (de_ix hu (dv 0) (de_ixK c_ROWS (de_cdict c_ROWS rfl) (dv 1))) da_nil)))) dss_nil)
    (dss_cons (ds_if (dt_cmp (od_eq hr.units) (dv 1) de_str (nomark _)) (dss_one (ds_ret (de_tup (da_cons (de_ix hu (dv 0) de_int) da_nil)))) dss_nil)
    (dss_one (ds_ret (de_callTy cd_tuple rfl T.tuple_ (by decide +kernel) (da_cons (de_slice (dv 0) (do_some de_int) (do_some (de_op od_add de_int (de_call G_many_numbers hr rfl (da_cons (dv 1) da_nil))))) da_nil))))))), ?_⟩
  refine sq ?_
  rcases nums_cls ok with ⟨wd, t, er, el, ec, et⟩ | ⟨x, j, rfl⟩ | ⟨ks, ts, rfl⟩
  · rw [er]
    walk_at "dl"
    refine sq ?_
    walk_at "dl"
    refine ⟨wd, none, rfl, rfl, el, ?_⟩
    walk_at "dl"
    refine ifN (by simp) ?_
    refine sq ?_
    walk_at "dl"
    refine ifN (by simpa using ec) ?_
    walk_at "dl"
    refine ⟨wd, rfl, ?_⟩
    walk_at "dl"
    rw [show ((1 : Int) + (many wd : Nat)) = ((1 + many wd : Nat) : Int) by omega, cut1, et]
    exact ⟨S, Sub.refl, h⟩
  · simp only [Rs.d]
    walk_at "dl"
    refine sq ?_
    walk_at "dl"
    refine ⟨"called", none, rfl, rfl, rows_none (by simp), ?_⟩
    walk_at "dl"
    refine ifN (by simp) ?_
    refine sq ?_
    walk_at "dl"
    exact ⟨S, Sub.refl, h⟩
  · simp only [Rs.d]
    walk_at "dl"
    refine sq ?_
    walk_at "dl"
    refine ⟨"sums", some 1, rfl, rfl, rows_sums, ?_⟩
    walk_at "dl"
    refine ⟨"sums", 1, rfl, rfl, rows_sums, ?_⟩
    walk_at "dl"
    exact ⟨S, Sub.refl, h⟩
def spNeeds : SpD := fun ds S Q => ∃ (L : List Ln) (k : Nat), ds = [linesD L, .int (k : Nat)] ∧ 1 ≤ k ∧ k ≤ L.length ∧ L.length ≤ 100 ∧ Gd L ∧ ∀ (b : Addr) (S' : Store), DL.Sub S S' → S b = none → S' b = some (.lst ((needs L k).map inD)) → Q (.ref b) S'
theorem nums_len {r : Rs} (ok : r.ok) : r.nums.length ≤ 6 := by
  cases r <;> simp [Rs.nums]
  exact ok
theorem bxs_len {r : Rs} : r.bxs.length ≤ 2 := by
  cases r <;> simp [Rs.bxs]
theorem df_needs {k : Nat} (T : Bt mg) (A : At K mg "needs_of" "needs_of" s_needs_of) (G_boxes_in : Df P w K mg base "boxes_in" k spBoxes) (G_told_by : Df P w K mg base "told_by" k spTold) (G_numbers_in : Df P w K mg base "numbers_in" k spNums) (G_openers_at : Df P w K mg base "openers_at" k spAtOps) : Df P w K mg base "needs_of" (k + 1) spNeeds := by
  have nd := sc_needs_of.nd
  refine df_mk A rfl sc_needs_of (fun _ _ _ _ _ _ us hl => match us, hl with | [_, _], _ => rfl) (fun ds S Q h => ?_) (fun f cdv A outer s H E hr ds S Q h => ?_)
  · obtain ⟨L, m, rfl, _⟩ := h
    rfl
  obtain ⟨L, m, rfl, m1, ml, hL, g, h⟩ := h
  have hu := hu_of hr
  obtain ⟨ok, _, hb, _, _⟩ := g.at' m1 ml
  have hn6 := nums_len ok
  have hsl := stk_le (L := L) m
  refine ⟨_, (dss_cons (ds_set (i := 2) nd rfl (Or.inl rfl) (de_ix hu (de_ix hu (dv 0) (de_op od_sub (dv 1) de_int)) de_int))
    (dss_cons (ds_set (i := 3) nd rfl (Or.inl rfl) (de_op od_add (de_callTy (cd_list rfl) rfl T.list_ (by decide +kernel) (da_cons (de_call G_numbers_in hr rfl (da_cons (dv 2) da_nil)) da_nil)) (de_callTy (cd_list rfl) rfl T.list_ (by decide +kernel) (da_cons (de_call G_openers_at hr rfl (da_cons (dv 0) (da_cons (dv 1) da_nil))) da_nil))))
    (dss_cons (ds_for PassesOwn.never rfl (di_any (de_call G_boxes_in hr rfl (da_cons (dv 2) da_nil))) (dg_name (i := 4) nd rfl (Or.inl rfl)) (dss_one (ds_expr (de_m PySem.F.plainAttrs_list PySem.F.slot_list_append PySem.F.type_list_append md_append (dv 3) (da_cons (de_call G_told_by hr rfl (da_cons (dv 0) (da_cons (dv 4) (da_cons (dv 1) da_nil)))) da_nil)))))
    (dss_one (ds_ret (dv 3)))))), ?_⟩
  refine sq ?_
  walk_at "dl"
  refine ⟨_, line_at m1 (at_ln m1 ml), ?_⟩
  refine ⟨_, rfl, ?_⟩
  refine sq ?_
  walk_at "dl"
  refine ⟨(ln L m).r, rfl, ok, ?_⟩
  walk_at "dl"
  intro e0 n0
  generalize hS0 : put S e0 _ = S0
  have s0 := (Sub.refl (S := S)).gen hS0 n0
  have k0 := gen_at hS0
  refine ⟨L, m, rfl, m1, ml, by omega, g, fun S1 s1 => ?_⟩
  have k0 := s1 _ _ k0
  walk_at "dl"
  intro e1 n1
  generalize hS1 : put S1 e1 _ = S2
  have s2 := (s0.trans s1).gen hS1 n1
  have k1 := gen_at hS1
  have k0 := gen_kp hS1 n1 k0
  refine ⟨_, _, k0, rfl, szOk (by simp; omega), fun q nq => ?_⟩
  generalize hS2 : put S2 q _ = S3
  have s3 := s2.gen hS2 nq
  have kq := gen_at hS2
  have nq' := s2.none' nq
  rw [← List.map_append] at kq
  refine sq ?_
  walk_at "dl"
  refine ⟨(ln L m).r, rfl, ok, ?_⟩
  refine ⟨trivial, ?_⟩
  refine forB_seq ((ln L m).r.bxs.map inD) (fun i δ S' => ∃ o4 : Option D, δ = [some (linesD L), some (.int (m : Nat)), some (ln L m).r.d, some (.ref q), o4] ∧ DL.Sub S S' ∧ S' q = some (.lst (((ln L m).r.nums ++ stk L m ++ ((ln L m).r.bxs.take i).map (bEnd L)).map inD))) ⟨none, rfl, s3, by rw [kq]; simp⟩ (fun i δ S' _ _ => rfl) ?_ ?_
  · rintro i d δ S4 hi ⟨o4, rfl, s4, hq4⟩
    rw [List.getElem?_map] at hi
    obtain ⟨z, hz, rfl⟩ := Option.map_eq_some_iff.mp hi
    have mz := List.mem_of_getElem? hz
    obtain ⟨b1, b2⟩ := hb z mz
    walk_at "dl"
    refine ⟨ty_list hq4, ?_⟩
    refine ⟨L, z, m, rfl, m1, ml, by omega, g, box_is g ml m1 b2 b1, fun S5 s5 => ?_⟩
    refine append_of (s5 _ _ hq4) (szLt (by
      have := bxs_len (r := (ln L m).r)
      simp
      omega)) ?_
    refine ⟨_, rfl, (s4.trans s5).at nq', ?_⟩
    obtain ⟨hlt, ez⟩ := List.getElem?_eq_some_iff.mp hz
    rw [put_same, ← List.take_append_getElem hlt, ez]
    simp [inD]
  · rintro δ S4 ⟨o4, rfl, s4, hq4⟩
    walk_at "dl"
    rw [List.length_map, List.take_length] at hq4
    exact ⟨S4, Sub.refl, h q S4 s4 nq' hq4⟩
end
def NI (kvs : List (Key × D)) (kk : List Nat) : Prop := kvs.map (·.1) = kk.map (fun k : Nat => (Sum.inl (k : Int) : Key)) ∧ kk.Nodup
theorem NI.key {kvs : List (Key × D)} {kk : List Nat} (h : NI kvs kk) (z : Nat) : (∃ kv, kv ∈ kvs ∧ kv.1 = (Sum.inl (z : Int) : Key)) ↔ z ∈ kk := by
  have key : ((Sum.inl (z : Int) : Key) ∈ kvs.map (·.1)) ↔ z ∈ kk := by
    rw [h.1, List.mem_map]
    refine ⟨fun ⟨a, ha, e⟩ => ?_, fun m => ⟨z, m, rfl⟩⟩
    have : (a : Int) = z := Sum.inl.inj e
    have : a = z := by omega
    exact this ▸ ha
  rw [← key, List.mem_map]
theorem NI.mem {kvs : List (Key × D)} {kk : List Nat} (h : NI kvs kk) (z : Nat) : (dval kvs (.inl (z : Int))).isSome = decide (z ∈ kk) := by
  unfold dval
  rw [Option.isSome_map, Bool.eq_iff_iff, List.find?_isSome, decide_eq_true_eq, ← h.key z]
  simp
theorem NI.put {kvs : List (Key × D)} {kk : List Nat} {z : Nat} {v : D} (h : NI kvs kk) (hz : z ∉ kk) : NI (dput kvs (.inl (z : Int)) v) (kk ++ [z]) := by
  have hn : (kvs.any fun kv => decide (kv.1 = (Sum.inl (z : Int) : Key))) = false := by
    cases e : kvs.any fun kv => decide (kv.1 = (Sum.inl (z : Int) : Key)) with
    | false => rfl
    | true =>
      obtain ⟨y, hy, ey⟩ := List.any_eq_true.mp e
      exact absurd ((h.key z).mp ⟨y, hy, by simpa using ey⟩) hz
  unfold dput
  rw [if_neg (by rw [hn]; decide)]
  refine ⟨by rw [List.map_append, List.map_append, h.1]; rfl, ?_⟩
  rw [List.nodup_append]
  refine ⟨h.2, by simp, fun u hu w hw e => ?_⟩
  cases List.mem_singleton.mp hw
  exact hz (e ▸ hu)
theorem NI.len {kvs : List (Key × D)} {kk : List Nat} (h : NI kvs kk) : kvs.length = kk.length := by
  have := congrArg List.length h.1
  simpa using this
theorem kk_le {L : List Ln} (g : Gd L) (h1 : 1 ≤ L.length) {kk : List Nat} (hn : kk.Nodup) (h : ∀ k ∈ kk, Nd L k) : kk.length ≤ L.length := by
  have := pigeon kk (List.range' 1 L.length) hn fun k hk => by
    have := (h k hk).rng g h1
    rw [List.mem_range'_1]; omega
  simpa using this
def spNeeded : SpD := fun ds S Q => ∃ (L : List Ln) (x y : D), ds = [.tup [x, y, linesD L]] ∧ Gd L ∧ 1 ≤ L.length ∧ L.length ≤ 60 ∧ ∀ (ys : List Int) (S' : Store), DL.Sub S S' → ys.Pairwise (· < ·) → (∀ k : Int, k ∈ ys ↔ ∃ n : Nat, k = n ∧ Nd L n) → Q (.tup (ys.map D.int)) S'
structure NdI (L : List Ln) (S S' : Store) (q wq : Addr) (kvs : List (Key × D)) (kk ws : List Nat) (k0 : Nat) : Prop where
  sb : DL.Sub S S'
  q_ : S' q = some (.dk kvs)
  w_ : S' wq = some (.lst (ws.map inD))
  ni : NI kvs kk
  sub : ∀ w ∈ ws, w ∈ kk
  nd : ∀ k ∈ kk, Nd L k
  cl : ∀ k ∈ kk, k ∉ ws → k ≠ k0 → ∀ j ∈ needs L k, j ∈ kk
  last : L.length ∈ kk
section
variable {P : Program} {w : World} {K : PySem.W.Frag} {mg : Str → Option Value} {base : Heap}
theorem df_needed {k : Nat} (T : Bt mg) (A : At K mg "needed" "needed" s_needed) (G_needs_of : Df P w K mg base "needs_of" k spNeeds) : Df P w K mg base "needed" (k + 1) spNeeded := by
  have nd := sc_needed.nd
  refine df_mk A rfl sc_needed (fun _ _ _ _ _ _ us hl => match us, hl with | [_], _ => rfl) (fun ds S Q h => ?_) (fun f cdv A outer s H E hr ds S Q h => ?_)
  · obtain ⟨L, x, y, rfl, _⟩ := h
    rfl
  obtain ⟨L, x, y, rfl, g, h1, h60, h⟩ := h
  have hu := hu_of hr
  refine ⟨_, (dss_cons (ds_set (i := 1) nd rfl (Or.inl rfl) (de_ix hu (dv 0) de_int))
    (dss_cons (ds_set (i := 2) nd rfl (Or.inl rfl) (de_dict1 (de_callB cd_len rfl T.len_ (by decide +kernel) (da_cons (dv 1) da_nil)) de_bl))
    (dss_cons (ds_set (i := 3) nd rfl (Or.inl rfl) (de_lst (da_cons (de_callB cd_len rfl T.len_ (by decide +kernel) (da_cons (dv 1) da_nil)) da_nil)))
    (dss_cons (ds_while PassesOwn.never (dt_cmp (od_neE hr.units) (dv 3) (de_lst da_nil) (nomark _)) (dss_one (ds_for PassesOwn.never rfl (di_any (de_call G_needs_of hr rfl (da_cons (dv 1) (da_cons (de_m0 PySem.F.plainAttrs_list PySem.F.slot_list_pop PySem.F.type_list_pop md_pop (dv 3)) da_nil)))) (dg_name (i := 4) nd rfl (Or.inl rfl)) (dss_one (ds_if (dt_cmp (od_notIn hu) (dv 4) (dv 2) rfl) (dss_cons (ds_setitem hu (dv 2) (dv 4) de_bl)
    (dss_one (ds_expr (de_m PySem.F.plainAttrs_list PySem.F.slot_list_append PySem.F.type_list_append md_append (dv 3) (da_cons (dv 4) da_nil))))) dss_nil)))))
    (dss_one (ds_ret (de_callTy cd_tuple rfl T.tuple_ (by decide +kernel) (da_cons (de_callB (cd_sortedD rfl) rfl T.sorted_ (by decide +kernel) (da_cons (dv 2) da_nil)) da_nil)))))))), ?_⟩
  refine sq ?_
  walk_at "dl"
  refine sq ?_
  walk_at "dl"
  intro q nq
  rw [List.length_map]
  generalize hS0 : put S q _ = S0
  have s0 := (Sub.refl (S := S)).gen hS0 nq
  have k0 := gen_at hS0
  refine sq ?_
  walk_at "dl"
  rw [List.length_map]
  intro wq nwq
  generalize hS1 : put S0 wq _ = S1
  have s1 := s0.gen hS1 nwq
  have k1 := gen_at hS1
  have kq := gen_kp hS1 nwq k0
  have nwq' := s0.none' nwq
  have qw : q ≠ wq := ne_new k0 nwq
  refine sq ?_
  refine ⟨fun m δ S' => ∃ (kvs : List (Key × D)) (kk ws : List Nat) (o4 : Option D), δ = [some (.tup [x, y, linesD L]), some (linesD L), some (.ref q), some (.ref wq), o4] ∧ NdI L S S' q wq kvs kk ws 0 ∧ m = 2 * (L.length - kk.length) + ws.length ∧ m ≤ 121, ⟨_, _, [L.length], [L.length], none, rfl, ⟨s1, kq, k1, ⟨rfl, by simp⟩, (fun w hw => hw), (fun k hk => by cases List.mem_singleton.mp hk; exact .last), (fun k hk hn => absurd hk hn), by simp⟩, rfl, by simp; omega⟩, ?_⟩
  rintro m δ S2 ⟨kvs, kk, ws, o4, rfl, i2, rfl, h121⟩
  walk_at "dl"
  intro e ne
  refine ⟨_, (put_ne (ne_new i2.w_ ne)).trans i2.w_, ?_⟩
  generalize hS3 : put S2 e _ = S3
  have i3 : NdI L S S3 q wq kvs kk ws 0 := ⟨i2.sb.gen hS3 ne, gen_kp hS3 ne i2.q_, gen_kp hS3 ne i2.w_, i2.ni, i2.sub, i2.nd, i2.cl, i2.last⟩
  rcases List.eq_nil_or_concat ws with rfl | ⟨ws', j, rfl⟩
  · refine ifN (by simp) ?_
    walk_at "dl"
    have hlen := kk_le g h1 i3.ni.2 i3.nd
    refine ⟨kvs, i3.q_, by rw [i3.ni.len]; omega, .inr ⟨kk.map fun k : Nat => (k : Int), by rw [i3.ni.1, List.map_map]; rfl, fun ys p perm srt np => ?_⟩⟩
    refine ⟨_, put_same, _, Sub.refl, h ys _ (i3.sb.trans (Sub.new np)) ?_ fun k => ?_⟩
    · have hnd : (kk.map fun k : Nat => (k : Int)).Nodup := by
        rw [List.nodup_iff_pairwise_ne, List.pairwise_map]
        exact (List.nodup_iff_pairwise_ne.mp i3.ni.2).imp fun hne e => hne (by omega)
      have hnd2 := List.nodup_iff_pairwise_ne.mp (perm.nodup_iff.mpr hnd)
      exact (srt.and hnd2).imp fun ⟨a, b⟩ => by omega
    · rw [perm.mem_iff, List.mem_map]
      have hiff := nd_iff (L := L) (C := (· ∈ kk)) i3.last i3.nd fun k hk => i3.cl k hk (by simp) (by have := (i3.nd k hk).rng g h1; omega)
      exact ⟨fun ⟨n, hn, e⟩ => ⟨n, e.symm, (hiff n).mp hn⟩, fun ⟨n, e, hn⟩ => ⟨n, (hiff n).mpr hn, e.symm⟩⟩
  · refine ifY (by simp) ?_
    refine ⟨_, fun _ _ z => z, ty_list i3.w_, ?_⟩
    have hw3 := i3.w_
    rw [List.concat_eq_append] at hw3 i3 h121
    rw [List.length_append, List.length_singleton] at h121
    rw [List.map_append] at hw3
    have jk : j ∈ kk := i3.sub j (by simp)
    have jr := (i3.nd j jk).rng g h1
    refine pop_of hw3 ?_
    generalize hS4 : put S3 wq _ = S4
    have i4 : NdI L S S4 q wq kvs kk ws' j := by
      refine ⟨hS4 ▸ i3.sb.at nwq', ?_, hS4 ▸ put_same, i3.ni, fun w hw => i3.sub w (by simp [hw]), i3.nd, fun k hk hn hkj => i3.cl k hk (by simp [hn, hkj]) (by have := (i3.nd k hk).rng g h1; omega), i3.last⟩
      rw [← hS4]; exact (put_ne qw).trans i3.q_
    refine ⟨L, j, rfl, jr.1, jr.2, by omega, g, fun b S5 s5 nb hb => ?_⟩
    have bq : q ≠ b := ne_new i4.q_ nb
    have bw : wq ≠ b := ne_new i4.w_ nb
    refine ⟨⟨_, hb⟩, ?_⟩
    refine forB_seq ((needs L j).map inD) (fun i δ S' => ∃ (kvs : List (Key × D)) (kk2 ws2 : List Nat) (o4 : Option D), δ = [some (.tup [x, y, linesD L]), some (linesD L), some (.ref q), some (.ref wq), o4] ∧ NdI L S S' q wq kvs kk2 ws2 j ∧ S' b = some (.lst ((needs L j).map inD)) ∧ j ∈ kk2 ∧ (∀ z ∈ (needs L j).take i, z ∈ kk2) ∧ 2 * (L.length - kk2.length) + ws2.length ≤ 2 * (L.length - kk.length) + ws'.length)
      ⟨kvs, kk, ws', o4, rfl, ⟨i4.sb.trans s5, s5 _ _ i4.q_, s5 _ _ i4.w_, i4.ni, i4.sub, i4.nd, i4.cl, i4.last⟩, hb, jk, (fun z hz => by simp at hz), Nat.le_refl _⟩ (fun i δ S' _ hp => by
        obtain ⟨_, _, _, _, _, _, hb', _⟩ := hp
        exact listJ hb') ?_ ?_
    · rintro i d δ S6 hi ⟨kvs, kk2, ws2, o4, rfl, i6, hb6, jk6, ht6, hm6⟩
      rw [List.getElem?_map] at hi
      obtain ⟨z, hz, rfl⟩ := Option.map_eq_some_iff.mp hi
      obtain ⟨hlt, ez⟩ := List.getElem?_eq_some_iff.mp hz
      have mz := List.mem_of_getElem? hz
      have etk : (needs L j).take (i + 1) = (needs L j).take i ++ [z] := by rw [← List.take_append_getElem hlt, ez]
      walk_at "dl"
      rw [i6.q_]
      refine ⟨.inl ((z : Nat) : Int), rfl, ?_⟩
      rw [i6.ni.mem z]
      by_cases hzk : z ∈ kk2
      · rw [decide_eq_true hzk]
        walk_at "dl"
        refine ⟨kvs, kk2, ws2, _, rfl, i6, hb6, jk6, fun z' hz' => ?_, hm6⟩
        rw [etk] at hz'
        rcases List.mem_append.mp hz' with w | w
        · exact ht6 z' w
        · cases List.mem_singleton.mp w; exact hzk
      · rw [decide_eq_false hzk]
        walk_at "dl"
        refine sq ?_
        walk_at "dl"
        rw [i6.q_]
        refine ⟨.inl ((z : Nat) : Int), rfl, szLt (by rw [i6.ni.len]; have := kk_le g h1 i6.ni.2 i6.nd; omega), ?_⟩
        generalize hS7 : put S6 q _ = S7
        have w7 : S7 wq = some (.lst (ws2.map inD)) := by rw [← hS7]; exact (put_ne qw.symm).trans i6.w_
        have q7 : S7 q = _ := gen_at hS7
        have b7 : S7 b = some (.lst ((needs L j).map inD)) := by rw [← hS7]; exact (put_ne bq.symm).trans hb6
        walk_at "dl"
        refine ⟨ty_list w7, ?_⟩
        have hnd : ∀ k ∈ kk2 ++ [z], Nd L k := fun k hk => by
          rcases List.mem_append.mp hk with w | w
          · exact i6.nd k w
          · cases List.mem_singleton.mp w; exact .step (i6.nd j jk6) mz
        have ni2 := i6.ni.put (v := D.bl true) hzk
        have hle := kk_le g h1 ni2.2 hnd
        rw [List.length_append, List.length_singleton] at hle
        refine append_of w7 (szLt (by
          rw [List.length_map]
          omega)) ?_
        refine ⟨_, kk2 ++ [z], ws2 ++ [z], _, rfl, ⟨?_, (put_ne qw).trans q7, by rw [put_same, List.map_append]; rfl, ni2, fun w hw => ?_, hnd, fun k hk hn hkj j' hj' => ?_, List.mem_append_left _ i6.last⟩, (put_ne bw.symm).trans b7, List.mem_append_left _ jk6, fun z' hz' => ?_, ?_⟩
        · rw [← hS7]; exact (i6.sb.at nq).at nwq'
        · rcases List.mem_append.mp hw with w1 | w1
          · exact List.mem_append_left _ (i6.sub w w1)
          · exact List.mem_append_right _ w1
        · rcases List.mem_append.mp hk with w | w
          · exact List.mem_append_left _ (i6.cl k w (fun z => hn (List.mem_append_left _ z)) hkj j' hj')
          · exact absurd (List.mem_append_right _ w) hn
        · rw [etk] at hz'
          rcases List.mem_append.mp hz' with w | w
          · exact List.mem_append_left _ (ht6 z' w)
          · exact List.mem_append_right _ w
        · rw [List.length_append, List.length_append]; simp; omega
    · rintro δ S6 ⟨kvs, kk2, ws2, o4, rfl, i6, hb6, jk6, ht6, hm6⟩
      rw [List.length_map, List.take_length] at ht6
      refine ⟨_, ?_, kvs, kk2, ws2, o4, rfl, ⟨i6.sb, i6.q_, i6.w_, i6.ni, i6.sub, i6.nd, fun k hk hn _ => ?_, i6.last⟩, rfl, by omega⟩
      · rw [List.concat_eq_append, List.length_append, List.length_singleton]; omega
      · by_cases e : k = j
        · subst e; exact ht6
        · exact i6.cl k hk hn e
end
end K61

set_option Elab.async false
set_option maxRecDepth 100000
set_option linter.unusedVariables false
namespace K61
open PySem PySem.Spec PyProof.Rows L2 DL FO
local macro_rules | `(tactic| walk_at "dl") => `(tactic| try simp only [DL.tAsgD, DL.asg, DL.tVarD, DL.lk, DL.sto, DL.stos, DL.tOpD, DL.tCD, DL.tCallD, DL.tConsD, DL.tNilD, DL.tRetD, DL.endsD, DL.startD, DL.tIfSD, DL.tTestD, DL.tNextD, DL.tDropD, DL.tAndD, DL.tOrD, DL.tNotD, DL.tAndV, DL.tOrV, DL.tNotV, DL.tIfD, DL.tNegD, DL.tTupD, DL.tLstD, DL.tSetD, DL.tMD, DL.tSlD, DL.tPartD, DL.tNoD, DL.tRevD, DL.tForD, DL.tLcD, DL.tIterD, DL.tRng1D, DL.tRng2D, DL.tYesD, DL.wipeD, DL.tDictD, DL.tDictOne, DL.tFldD, DL.tMethD, DL.tMakeD, DL.tSetF, DL.tThaw, DL.thaw, DL.tLRg, DL.tChainD, DL.tDispD, DL.tPairsD, DL.tEnumD, DL.tZipD, DL.tCallLD, DL.tSortSet, DL.tRng3D, DL.keyOf, DL.emE_rr, DL.tLess, DL.tLessS, DL.itOk, DL.rAdd_ii, DL.rAdd_ss, DL.rAdd_tt, DL.rAdd_rr, DL.rSub_ii, DL.rMod_ii, DL.rDiv_ii, DL.rPow_ii, DL.rMul_ii, DL.rMul_ri, DL.rLt_ii, DL.rLt_ss, DL.rLe_ii, DL.rGt_ii, DL.rGe_ii, DL.rEq_ii, DL.rEq_ss, DL.rEq_bb, DL.rNe_ii, DL.rNe_ss, DL.rNe_bb, DL.rEq_rr, DL.rNe_rr, DL.rEq_tt, DL.rNe_tt, DL.rIn_st, DL.rNotIn_st, DL.rIn_r, DL.rNotIn_r, DL.rIn_ss, DL.rInDO_sl, DL.rInDO_il, DL.rInDO_sd, DL.rInDO_id, DL.rIsN_n, DL.rIsN_t, DL.rIsN_i, DL.rIsN_s, DL.rIsN_r, DL.rNotN_n, DL.rNotN_t, DL.rNotN_i, DL.rNotN_s, DL.rNotN_r, DL.rIx_t, DL.rIx_r, DL.rIx_s, DL.rIxDO_l, DL.rIxDO_ds, DL.rIx0, DL.rIx1, DL.rIx2, DL.rIx3, DL.rSl_t, DL.rSl_s, DL.rSl_o, DL.rSl_r, DL.rSlDO, DL.rSet_r, DL.rSetDO_0, DL.rSetDO_s, DL.rLen_t, DL.rLen_o, DL.rLen_s, DL.rLen_r, DL.rLenDO, DL.rLenDO_d, DL.rList_t, DL.rList_o, DL.rList_r, DL.rListDO, DL.rTuple_t, DL.rTuple_r, DL.rInt_i, DL.rInt_b, DL.rMax, DL.rMin, DL.rSz0, DL.rSz1, DL.rSz2, DL.rSz3, DL.rSz4, DL.rSz5, DL.rSz6, DL.rSz7, DL.rSz8, Option.some.injEq, DL.DO.lst.injEq, exists_eq_left', exists_eq_left, DL.put_same, DL.put_put, true_and, and_true, List.map, List.replicate, List.length, List.cons_append, List.nil_append, Nat.reduceSub, Nat.reduceAdd, decide_eq_true_eq, if_true, if_false, Bool.false_eq_true, Bool.not_true, Bool.not_false])
local macro_rules | `(tactic| walk_at "dlh") => `(tactic| try simp only [*, DL.tAsgD, DL.asg, DL.tVarD, DL.lk, DL.sto, DL.stos, DL.tOpD, DL.tCD, DL.tCallD, DL.tConsD, DL.tNilD, DL.tRetD, DL.endsD, DL.startD, DL.tIfSD, DL.tTestD, DL.tNextD, DL.tDropD, DL.tAndD, DL.tOrD, DL.tNotD, DL.tAndV, DL.tOrV, DL.tNotV, DL.tIfD, DL.tNegD, DL.tTupD, DL.tLstD, DL.tSetD, DL.tMD, DL.tSlD, DL.tPartD, DL.tNoD, DL.tRevD, DL.tForD, DL.tLcD, DL.tIterD, DL.tRng1D, DL.tRng2D, DL.tYesD, DL.wipeD, DL.tDictD, DL.tDictOne, DL.tFldD, DL.tMethD, DL.tMakeD, DL.tSetF, DL.tThaw, DL.thaw, DL.tLRg, DL.tChainD, DL.tDispD, DL.tPairsD, DL.tEnumD, DL.tZipD, DL.tCallLD, DL.tSortSet, DL.tRng3D, DL.keyOf, DL.emE_rr, DL.tLess, DL.tLessS, DL.itOk, DL.rAdd_ii, DL.rAdd_ss, DL.rAdd_tt, DL.rAdd_rr, DL.rSub_ii, DL.rMod_ii, DL.rDiv_ii, DL.rPow_ii, DL.rMul_ii, DL.rMul_ri, DL.rLt_ii, DL.rLt_ss, DL.rLe_ii, DL.rGt_ii, DL.rGe_ii, DL.rEq_ii, DL.rEq_ss, DL.rEq_bb, DL.rNe_ii, DL.rNe_ss, DL.rNe_bb, DL.rEq_rr, DL.rNe_rr, DL.rEq_tt, DL.rNe_tt, DL.rIn_st, DL.rNotIn_st, DL.rIn_r, DL.rNotIn_r, DL.rIn_ss, DL.rInDO_sl, DL.rInDO_il, DL.rInDO_sd, DL.rInDO_id, DL.rIsN_n, DL.rIsN_t, DL.rIsN_i, DL.rIsN_s, DL.rIsN_r, DL.rNotN_n, DL.rNotN_t, DL.rNotN_i, DL.rNotN_s, DL.rNotN_r, DL.rIx_t, DL.rIx_r, DL.rIx_s, DL.rIxDO_l, DL.rIxDO_ds, DL.rIx0, DL.rIx1, DL.rIx2, DL.rIx3, DL.rSl_t, DL.rSl_s, DL.rSl_o, DL.rSl_r, DL.rSlDO, DL.rSet_r, DL.rSetDO_0, DL.rSetDO_s, DL.rLen_t, DL.rLen_o, DL.rLen_s, DL.rLen_r, DL.rLenDO, DL.rLenDO_d, DL.rList_t, DL.rList_o, DL.rList_r, DL.rListDO, DL.rTuple_t, DL.rTuple_r, DL.rInt_i, DL.rInt_b, DL.rMax, DL.rMin, DL.rSz0, DL.rSz1, DL.rSz2, DL.rSz3, DL.rSz4, DL.rSz5, DL.rSz6, DL.rSz7, DL.rSz8, Option.some.injEq, DL.DO.lst.injEq, exists_eq_left', exists_eq_left, DL.put_same, DL.put_put, true_and, and_true, List.map, List.replicate, List.length, List.cons_append, List.nil_append, Nat.reduceSub, Nat.reduceAdd, decide_eq_true_eq, if_true, if_false, Bool.false_eq_true, Bool.not_true, Bool.not_false])
local macro_rules | `(tactic| walk_at "go") => `(tactic| repeat (first | (refine DL.sq ?_; try walk_at "dl") | (refine DL.ifY rfl ?_; try walk_at "dl") | (refine DL.inY rfl (by decide) ?_; try walk_at "dl") | (refine DL.inN rfl (by decide) ?_; try walk_at "dl") | (refine DL.ifN (by decide) ?_; try walk_at "dl")))
abbrev s_l_boxes : Stmt := top 47
theorem sc_l_boxes : FnScope ["_law_lines", "_law_found", "_law_stack", "_law_at_here", "_law_line"] ["_law_lines"] (defScope s_l_boxes) := ⟨rfl, rfl, rfl, by decide +kernel, rfl, by decide +kernel, by decide +kernel⟩
abbrev s_l_last_in : Stmt := top 48
theorem sc_l_last_in : FnScope ["_law_boxes_here", "_law_i", "_law_last"] ["_law_boxes_here", "_law_i"] (defScope s_l_last_in) := ⟨rfl, rfl, rfl, by decide +kernel, rfl, by decide +kernel, by decide +kernel⟩
abbrev s_l_leans : Stmt := top 49
theorem sc_l_leans : FnScope ["_law_lines", "_law_boxes_here", "_law_k", "_law_reason", "_law_found", "_law_part"] ["_law_lines", "_law_boxes_here", "_law_k"] (defScope s_l_leans) := ⟨rfl, rfl, rfl, by decide +kernel, rfl, by decide +kernel, by decide +kernel⟩
abbrev s_l_due : Stmt := top 50
theorem sc_l_due : FnScope ["_law_lines", "_law_boxes_here", "_law_found", "_law_k", "_law_m"] ["_law_lines"] (defScope s_l_due) := ⟨rfl, rfl, rfl, by decide +kernel, rfl, by decide +kernel, by decide +kernel⟩
def bxD (L : List Ln) (i : Nat) : D := .tup ((stk L (i + 1)).map inD)
def Bxs (L : List Ln) (S : Store) (a : Addr) : Prop := S a = some (.lst ((List.range L.length).map (bxD L)))
def spBoxesL : SpD := fun ds S Q => ∃ L : List Ln, ds = [linesD L] ∧ L.length ≤ 100 ∧ Gd L ∧ ∀ (b : Addr) (S' : Store), DL.Sub S S' → S b = none → Bxs L S' b → Q (.ref b) S'
def enD (L : List Ln) (i : Nat) : D := .tup [.int (i : Nat), (ln L (i + 1)).d]
section
variable {P : Program} {w : World} {K : PySem.W.Frag} {mg : Str → Option Value} {base : Heap}
theorem df_lboxes {k : Nat} (T : Bt mg) (A : At K mg "_law_boxes" "_law_boxes" s_l_boxes) : Df P w K mg base "_law_boxes" (k + 1) spBoxesL := by
  have nd := sc_l_boxes.nd
  refine df_mk A rfl sc_l_boxes (fun _ _ _ _ _ _ us hl => match us, hl with | [_], _ => rfl) (fun ds S Q h => ?_) (fun f cdv A outer s H E hr ds S Q h => ?_)
  · obtain ⟨L, rfl, _⟩ := h
    rfl
  obtain ⟨L, rfl, hL, g, h⟩ := h
  have hu := hu_of hr
  refine ⟨_, (dss_cons (ds_set (i := 1) nd rfl (Or.inl rfl) (de_lst da_nil))
    (dss_cons (ds_set (i := 2) nd rfl (Or.inl rfl) (de_tup da_nil))
    (dss_cons (ds_for PassesOwn.never rfl (di_enum rfl T.enumerate_ (da_cons (dv 0) da_nil)) (dg_tup rfl (dgs_cons (dg_name (i := 3) nd rfl (Or.inl rfl)) (dgs_cons (dg_name (i := 4) nd rfl (Or.inl rfl)) dgs_nil))) (dss_cons (ds_set (i := 2) nd rfl (Or.inl rfl) (de_slice (dv 2) do_none (do_some (de_ix hu (dv 4) de_int))))
    (dss_cons (ds_if (dt_cmp (od_in hu) (de_ix hu (de_ix hu (dv 4) de_int) de_int) (de_tup (da_cons de_str (da_cons de_str (da_cons de_str da_nil)))) rfl) (dss_one (ds_set (i := 2) nd rfl (Or.inl rfl) (de_op od_add (de_slice (dv 2) do_none (do_some (de_op od_sub (de_ix hu (dv 4) de_int) de_int))) (de_tup (da_cons (de_op od_add (dv 3) de_int) da_nil))))) dss_nil)
    (dss_one (ds_expr (de_m PySem.F.plainAttrs_list PySem.F.slot_list_append PySem.F.type_list_append md_append (dv 1) (da_cons (dv 2) da_nil)))))))
    (dss_one (ds_ret (dv 1)))))), ?_⟩
  refine sq ?_
  walk_at "dl"
  intro q nq
  have sb : DL.Sub S (put S q (.lst [])) := Sub.new nq
  have hq : put S q (.lst []) q = some (.lst []) := put_same
  generalize put S q (.lst []) = S0 at sb hq
  refine sq ?_
  walk_at "dl"
  refine sq ?_
  walk_at "dl"
  refine ⟨_, L.map Ln.d, rfl, rfl, ?_⟩
  refine forB_seq ((List.range L.length).map (enD L)) (fun i δ S' => ∃ o3 o4 : Option D, δ = [some (linesD L), some (.ref q), some (.tup ((stk L i).map inD)), o3, o4] ∧ DL.Sub S S' ∧ S' q = some (.lst ((List.range i).map (bxD L)))) ⟨none, none, rfl, sb, hq⟩ (fun i δ S' hi _ => ?_) ?_ ?_
  · rw [List.length_map, List.length_range] at hi
    show (if i ≤ (L.map Ln.d).length then some _ else none) = _
    rw [if_pos (by rw [List.length_map]; exact hi), List.getElem?_map, List.getElem?_map]
    rcases Nat.lt_or_ge i L.length with c | c
    · rw [List.getElem?_range c]
      have := at_ln (L := L) (k := i + 1) (by omega) (by omega)
      rw [Nat.add_sub_cancel] at this
      rw [this]
      rfl
    · rw [List.getElem?_eq_none (by omega), List.getElem?_eq_none (by rw [List.length_range]; omega)]
      rfl
  · rintro i d δ S1 hi ⟨o3, o4, rfl, s1, hq1⟩
    rw [List.getElem?_map] at hi
    obtain ⟨z, hz, rfl⟩ := Option.map_eq_some_iff.mp hi
    have hzl : z = i ∧ i < L.length := by
      obtain ⟨h1, h2⟩ := List.getElem?_eq_some_iff.mp hz
      rw [List.getElem_range] at h2
      rw [List.length_range] at h1
      exact ⟨h2.symm, h1⟩
    obtain ⟨rfl, hil⟩ := hzl
    obtain ⟨ok, _, _, ho, _⟩ := g.at' (k := z + 1) (by omega) (by omega)
    refine ⟨rfl, ?_⟩
    walk_at "dl"
    refine sq ?_
    walk_at "dl"
    refine ⟨.int ((ln L (z + 1)).lv : Nat), rfl, ?_⟩
    walk_at "dl"
    rw [cutL_map, cutL_to]
    walk_at "dl"
    refine seq_cut (fun δ' S' => δ' = [some (linesD L), some (.ref q), some (.tup ((stk L (z + 1)).map inD)), some (.int (z : Nat)), some (ln L (z + 1)).d] ∧ S' = S1) (fun N hN => ?_) ?_
    · walk_at "dl"
      refine ⟨(ln L (z + 1)).r.d, rfl, ?_⟩
      obtain ⟨t, et⟩ := Rs.d_eq (ln L (z + 1)).r
      rw [et]
      walk_at "dl"
      refine ⟨OPN, rfl, ?_⟩
      have hop := opens_is ok
      cases o : (ln L (z + 1)).r.opens with
      | true =>
        rw [o] at hop
        have l1 := ho o
        refine ifY (of_decide_eq_true hop) ?_
        refine ⟨.int ((ln L (z + 1)).lv : Nat), rfl, ?_⟩
        walk_at "dl"
        rw [show ((ln L (z + 1)).lv : Int) - 1 = (((ln L (z + 1)).lv - 1 : Nat) : Int) by omega, cutL_map, cutL_to, List.take_take, Nat.min_eq_left (by omega)]
        refine ⟨szOk (by have := stk_le (L := L) z; simp; omega), ?_⟩
        refine hN _ _ ⟨?_, rfl⟩
        rw [stk_o (by omega) o, List.map_append]
        rfl
      | false =>
        rw [o] at hop
        refine ifN (of_decide_eq_false hop) ?_
        refine hN _ _ ⟨?_, rfl⟩
        rw [stk_n (k := z + 1) (by omega) o]
        rfl
    rintro δ' S2 ⟨rfl, rfl⟩
    walk_at "dl"
    refine ⟨ty_list hq1, ?_⟩
    refine append_of hq1 (szLt (by simp; omega)) ?_
    refine ⟨_, _, rfl, s1.at nq, ?_⟩
    rw [put_same, List.range_succ, List.map_append]
    rfl
  · rintro δ S1 ⟨o3, o4, rfl, s1, hq1⟩
    walk_at "dl"
    rw [List.length_map, List.length_range] at hq1
    exact ⟨S1, Sub.refl, h q S1 s1 nq hq1⟩
def spLast : SpD := fun ds S Q => ∃ (L : List Ln) (a : Addr) (i k : Nat), ds = [.ref a, .int (i : Nat)] ∧ Bxs L S a ∧ Gd L ∧ BoxIs L i k ∧ k ≤ L.length ∧ L.length ≤ 100 ∧ Q (.int ((bEnd L i : Nat) : Int)) S
theorem df_last {k : Nat} (T : Bt mg) (A : At K mg "_law_last_in" "_law_last_in" s_l_last_in) : Df P w K mg base "_law_last_in" (k + 1) spLast := by
  have nd := sc_l_last_in.nd
  refine df_mk A rfl sc_l_last_in (fun _ _ _ _ _ _ us hl => match us, hl with | [_, _], _ => rfl) (fun ds S Q h => ?_) (fun f cdv A outer s H E hr ds S Q h => ?_)
  · obtain ⟨L, a, i, k, rfl, _⟩ := h
    rfl
  obtain ⟨L, a, i, m, rfl, ha, g, b, ml, hL, h⟩ := h
  have hu := hu_of hr
  have i1 := b.i1
  have ie := b.ie
  have ek := b.ek
  refine ⟨_, (dss_cons (ds_set (i := 2) nd rfl (Or.inl rfl) (dv 1))
    (dss_cons (ds_while PassesOwn.never (dt_w (dw_and (dt_cmp od_lt (dv 2) (de_callB cd_len rfl T.len_ (by decide +kernel) (da_cons (dv 0) da_nil)) (nomark _)) (dw_and1 (dt_cmp (od_in hu) (dv 1) (de_ix hu (dv 0) (dv 2)) rfl)))) (dss_one (ds_set (i := 2) nd rfl (Or.inl rfl) (de_op od_add (dv 2) de_int))))
    (dss_one (ds_ret (dv 2))))), ?_⟩
  refine sq ?_
  walk_at "dl"
  refine sq ?_
  refine while_seq (fun j => [some (.ref a), some (.int (i : Nat)), some (.int ((i + j : Nat) : Int))]) (bEnd L i - i) (fun j => decide (i + j < bEnd L i)) (fun S' => S' = S) rfl (by simp; omega) rfl ?_ ?_ ?_
  · rintro j S2 hj rfl N hN
    have hN := hN _ rfl
    walk_at "dl"
    refine lenL ha ?_
    rw [List.length_map, List.length_range]
    walk_at "dl"
    refine ifY (by omega) ?_
    refine ixL (d := bxD L (i + j)) ha (atI_nat (by rw [List.getElem?_map, List.getElem?_range (by omega)]; rfl)) ?_
    refine ⟨_, intsN _, ?_⟩
    rw [show decide ((i : Int) ∈ (stk L (i + j + 1)).map fun k : Nat => (k : Int)) = decide (i + j < bEnd L i) from decide_eq_decide.mpr (memN.trans ?_)]
    · exact hN
    · refine ⟨fun hi => ?_, fun c => ?_⟩
      · rcases Nat.lt_or_ge (i + j) (bEnd L i) with c | c
        · exact c
        · exact absurd hi (stk_out g (by omega) (by omega) (by rw [show i + j = bEnd L i by omega]; exact b.end_))
      · exact List.mem_of_getElem? (stk_in g i1 b.op (j + 1) (by omega) fun m' a1 a2 => (bEnd_lt a1 (by omega)).2)
  · rintro j S2 N hj rfl hN
    walk_at "dl"
    exact hN _ rfl
  · rintro j S2 hj hb rfl
    have e : i + j = bEnd L i := by simp at hb; omega
    walk_at "dl"
    rw [e]
    exact ⟨_, Sub.refl, h⟩
end
def natD : D → List Nat
  | .int i => [i.toNat]
  | _ => []
def needsL (L : List Ln) (k : Nat) : List Nat := stk L k ++ (ln L k).r.nums ++ (ln L k).r.bxs.map (bEnd L)
theorem needsL_mem {L : List Ln} {k j : Nat} : j ∈ needsL L k ↔ j ∈ needs L k := by
  unfold needsL needs
  simp only [List.mem_append]
  constructor
  · rintro ((a | a) | a)
    · exact .inl (.inr a)
    · exact .inl (.inl a)
    · exact .inr a
  · rintro ((a | a) | a)
    · exact .inl (.inr a)
    · exact .inl (.inl a)
    · exact .inr a
theorem cls4 {r : Rs} (ok : r.ok) : (∃ ks ts, r = .sums ks ts) ∨ (∃ w i, r = .bx w i ∧ w ∈ WB ∧ w ≠ "sums" ∧ w ≠ "cases") ∨ (∃ k i n, r = .cases k i n) ∨ (Rs.wd r ≠ "sums" ∧ Rs.wd r ∉ WB ∧ Rs.wd r ≠ "cases" ∧ r.bxs = [] ∧ ∀ ks ts, r ≠ .sums ks ts) := by
  have key : ∀ (W : List Str), (∀ w ∈ W, w ≠ "sums" ∧ w ∉ WB ∧ w ≠ "cases") → ∀ w ∈ W, w ≠ "sums" ∧ w ∉ WB ∧ w ≠ "cases" := fun W hW => hW
  cases r with
  | w0 w =>
    obtain ⟨a, b, c⟩ := key W0 (by decide +kernel) w ok
    exact .inr (.inr (.inr ⟨a, b, c, rfl, fun _ _ e => by cases e⟩))
  | w1 w k =>
    obtain ⟨a, b, c⟩ := key W1 (by decide +kernel) w ok
    exact .inr (.inr (.inr ⟨a, b, c, rfl, fun _ _ e => by cases e⟩))
  | w2 w j k =>
    obtain ⟨a, b, c⟩ := key W2 (by decide +kernel) w ok
    exact .inr (.inr (.inr ⟨a, b, c, rfl, fun _ _ e => by cases e⟩))
  | wn w k x =>
    obtain ⟨a, b, c⟩ := key WN (by decide +kernel) w ok
    exact .inr (.inr (.inr ⟨a, b, c, rfl, fun _ _ e => by cases e⟩))
  | any x =>
    obtain ⟨a, b, c⟩ := key ["any"] (by decide +kernel) "any" (by simp)
    exact .inr (.inr (.inr ⟨a, b, c, rfl, fun _ _ e => by cases e⟩))
  | called x k =>
    obtain ⟨a, b, c⟩ := key ["called"] (by decide +kernel) "called" (by simp)
    exact .inr (.inr (.inr ⟨a, b, c, rfl, fun _ _ e => by cases e⟩))
  | sums ks ts => exact .inl ⟨ks, ts, rfl⟩
  | bx w i =>
    have : ∀ w ∈ WB, w ≠ "sums" ∧ w ≠ "cases" := by decide +kernel
    exact .inr (.inl ⟨w, i, rfl, ok, this w ok⟩)
  | cases k i n => exact .inr (.inr (.inl ⟨k, i, n, rfl⟩))
def spLeans : SpD := fun ds S Q => ∃ (L : List Ln) (a : Addr) (k : Nat), ds = [linesD L, .ref a, .int (k : Nat)] ∧ Bxs L S a ∧ Gd L ∧ 1 ≤ k ∧ k ≤ L.length ∧ L.length ≤ 100 ∧ ∀ (b : Addr) (S' : Store), DL.Sub S S' → S b = none → S' b = some (.lst ((needsL L k).map inD)) → Q (.ref b) S'
/-- the tail of a reason: numbers, texts, tuples -/
theorem tail_ok (r : Rs) : ∃ t, r.d = .tup (.str (Rs.wd r) :: t) ∧ t.length ≤ 3 ∧ (∀ d ∈ t, (∃ n : Nat, d = .int (n : Nat)) ∨ (∃ x, d = .str x) ∨ ∃ es, d = .tup es) ∧ (t.flatMap natD = r.nums ∨ (t.flatMap natD = [] ∧ ∃ ks ts, r = .sums ks ts)) := by
  cases r with
  | w0 w => exact ⟨_, rfl, by simp, (fun d hd => by cases hd), .inl rfl⟩
  | w1 w k => exact ⟨_, rfl, by simp, (fun d hd => by cases List.mem_singleton.mp hd; exact .inl ⟨k, rfl⟩), .inl rfl⟩
  | w2 w j k => exact ⟨_, rfl, by simp, (fun d hd => by
      simp only [List.mem_cons, List.not_mem_nil, or_false] at hd
      rcases hd with rfl | rfl
      · exact .inl ⟨j, rfl⟩
      · exact .inl ⟨k, rfl⟩), .inl rfl⟩
  | wn w k x => exact ⟨_, rfl, by simp, (fun d hd => by
      simp only [List.mem_cons, List.not_mem_nil, or_false] at hd
      rcases hd with rfl | rfl
      · exact .inl ⟨k, rfl⟩
      · exact .inr (.inl ⟨x, rfl⟩)), .inl rfl⟩
  | any x => exact ⟨_, rfl, by simp, (fun d hd => by cases List.mem_singleton.mp hd; exact .inr (.inl ⟨x, rfl⟩)), .inl rfl⟩
  | called x k => exact ⟨_, rfl, by simp, (fun d hd => by
      simp only [List.mem_cons, List.not_mem_nil, or_false] at hd
      rcases hd with rfl | rfl
      · exact .inr (.inl ⟨x, rfl⟩)
      · exact .inl ⟨k, rfl⟩), .inl rfl⟩
  | sums ks ts => exact ⟨_, rfl, by simp, (fun d hd => by
      simp only [List.mem_cons, List.not_mem_nil, or_false] at hd
      rcases hd with rfl | rfl
      · exact .inr (.inr ⟨_, rfl⟩)
      · exact .inr (.inr ⟨_, rfl⟩)), .inr ⟨rfl, ks, ts, rfl⟩⟩
  | bx w i => exact ⟨_, rfl, by simp, (fun d hd => by cases List.mem_singleton.mp hd; exact .inl ⟨i, rfl⟩), .inl rfl⟩
  | cases k i n => exact ⟨_, rfl, by simp, (fun d hd => by
      simp only [List.mem_cons, List.not_mem_nil, or_false] at hd
      rcases hd with rfl | rfl | rfl
      · exact .inl ⟨k, rfl⟩
      · exact .inl ⟨i, rfl⟩
      · exact .inl ⟨n, rfl⟩), .inl rfl⟩
section
variable {P : Program} {w : World} {K : PySem.W.Frag} {mg : Str → Option Value} {base : Heap}
theorem df_leans {k : Nat} (T : Bt mg) (A : At K mg "_law_leans" "_law_leans" s_l_leans) (G_l_last_in : Df P w K mg base "_law_last_in" k spLast) : Df P w K mg base "_law_leans" (k + 1) spLeans := by
  have nd := sc_l_leans.nd
  refine df_mk A rfl sc_l_leans (fun _ _ _ _ _ _ us hl => match us, hl with | [_, _, _], _ => rfl) (fun ds S Q h => ?_) (fun f cdv A outer s H E hr ds S Q h => ?_)
  · obtain ⟨L, a, m, rfl, _⟩ := h
    rfl
  obtain ⟨L, a, m, rfl, ha, g, m1, ml, hL, h⟩ := h
  have hu := hu_of hr
  obtain ⟨ok, _, hb, _, _⟩ := g.at' m1 ml
  have hn6 := nums_len ok
  have hsl := stk_le (L := L) m
  obtain ⟨t, et, ht3, hte, htn⟩ := tail_ok (ln L m).r
  refine ⟨_, (dss_cons (ds_set (i := 3) nd rfl (Or.inl rfl) (de_ix hu (de_ix hu (dv 0) (de_op od_sub (dv 2) de_int)) de_int))
    (dss_cons (ds_set (i := 4) nd rfl (Or.inl rfl) (de_callTy (cd_list rfl) rfl T.list_ (by decide +kernel) (da_cons (de_ix hu (dv 1) (de_op od_sub (dv 2) de_int)) da_nil)))
    (dss_cons (ds_for PassesOwn.never rfl (di_any (de_slice (dv 3) (do_some de_int) do_none)) (dg_name (i := 5) nd rfl (Or.inl rfl)) (dss_one (ds_if (dt_val (de_callB cd_isi rfl T.isinstance_ (by decide +kernel) (da_cons (dv 5) (da_cons (de_ty (n := "int") rfl T.int_ (by decide +kernel)) da_nil)))) (dss_one (ds_expr (de_m PySem.F.plainAttrs_list PySem.F.slot_list_append PySem.F.type_list_append md_append (dv 4) (da_cons (dv 5) da_nil)))) dss_nil)))
    (dss_cons (ds_if (dt_cmp (od_eq hr.units) (de_ix hu (dv 3) de_int) de_str (nomark _)) (dss_one (ds_expr (de_m PySem.F.plainAttrs_list PySem.F.slot_list_extend PySem.F.type_list_extend md_extend (dv 4) (da_cons (de_callTy (cd_list rfl) rfl T.list_ (by decide +kernel) (da_cons (de_ix hu (dv 3) de_int) da_nil)) da_nil)))) dss_nil)
    (dss_cons (ds_if (dt_cmp (od_in hu) (de_ix hu (dv 3) de_int) (de_tup (da_cons de_str (da_cons de_str (da_cons de_str (da_cons de_str (da_cons de_str da_nil)))))) rfl) (dss_one (ds_expr (de_m PySem.F.plainAttrs_list PySem.F.slot_list_append PySem.F.type_list_append md_append (dv 4) (da_cons (de_call G_l_last_in hr rfl (da_cons (dv 1) (da_cons (de_ix hu (dv 3) de_int) da_nil))) da_nil)))) dss_nil)
    (dss_cons (ds_if (dt_cmp (od_eq hr.units) (de_ix hu (dv 3) de_int) de_str (nomark _)) (dss_one (ds_expr (de_m PySem.F.plainAttrs_list PySem.F.slot_list_extend PySem.F.type_list_extend md_extend (dv 4) (da_cons (de_lst (da_cons (de_call G_l_last_in hr rfl (da_cons (dv 1) (da_cons (de_ix hu (dv 3) de_int) da_nil))) (da_cons (de_call G_l_last_in hr rfl (da_cons (dv 1) (da_cons (de_ix hu (dv 3) de_int) da_nil))) da_nil))) da_nil)))) dss_nil)
    (dss_one (ds_ret (dv 4))))))))), ?_⟩
  refine sq ?_
  walk_at "dl"
  refine ⟨_, line_at m1 (at_ln m1 ml), ?_⟩
  refine ⟨_, rfl, ?_⟩
  refine sq ?_
  walk_at "dl"
  refine ixL (d := bxD L (m - 1)) ha (by
    rw [show (m : Int) - 1 = ((m - 1 : Nat) : Int) by omega]
    exact atI_nat (by rw [List.getElem?_map, List.getElem?_range (by omega)]; rfl)) ?_
  unfold bxD
  rw [show m - 1 + 1 = m by omega]
  walk_at "dl"
  intro q nq
  have sb : DL.Sub S (put S q (.lst ((stk L m).map inD))) := Sub.new nq
  have hq : put S q (.lst ((stk L m).map inD)) q = some (.lst ((stk L m).map inD)) := put_same
  generalize put S q (.lst ((stk L m).map inD)) = S0 at sb hq
  refine seq_cut (fun δ' S' => ∃ o5 : Option D, δ' = [some (linesD L), some (.ref a), some (.int (m : Nat)), some (ln L m).r.d, some (.ref q), o5] ∧ DL.Sub S S' ∧ S' q = some (.lst ((stk L m ++ t.flatMap natD).map inD))) (fun N hN => ?_) ?_
  · walk_at "dl"
    rw [et]
    walk_at "dl"
    rw [show cutL (D.str (Rs.wd (ln L m).r) :: t) (some 1) none = t from cutL_from (j := 1)]
    refine forB_seq t (fun i δ S' => ∃ o5 : Option D, δ = [some (linesD L), some (.ref a), some (.int (m : Nat)), some (.tup (.str (Rs.wd (ln L m).r) :: t)), some (.ref q), o5] ∧ DL.Sub S S' ∧ S' q = some (.lst ((stk L m ++ (t.take i).flatMap natD).map inD))) ⟨none, rfl, sb, by rw [hq]; simp⟩ (fun i δ S' _ _ => rfl) ?_ ?_
    · rintro i d δ S1 hi ⟨o5, rfl, s1, hq1⟩
      have md := List.mem_of_getElem? hi
      obtain ⟨hlt, ed⟩ := List.getElem?_eq_some_iff.mp hi
      have etk : t.take (i + 1) = t.take i ++ [d] := by rw [← List.take_append_getElem hlt, ed]
      walk_at "dl"
      have hfl : ((t.take i).flatMap natD).length ≤ 3 := by
        have : ∀ l : List D, (l.flatMap natD).length ≤ l.length := by
          intro l
          induction l with
          | nil => simp
          | cons y ys ih =>
            rw [List.flatMap_cons, List.length_append, List.length_cons]
            have : (natD y).length ≤ 1 := by cases y <;> simp [natD]
            omega
        have := this (t.take i)
        rw [List.length_take] at this
        omega
      rcases hte d md with ⟨n, rfl⟩ | ⟨x, rfl⟩ | ⟨es, rfl⟩
      · refine ⟨_, _, rfl, kit_ii, ?_⟩
        walk_at "dl"
        refine ⟨ty_list hq1, ?_⟩
        refine append_of hq1 (szLt (by rw [List.length_map, List.length_append]; omega)) ?_
        refine ⟨_, rfl, s1.at nq, ?_⟩
        rw [put_same, etk, List.flatMap_append]
        simp [natD, inD]
      · refine ⟨_, _, rfl, kit_si, ?_⟩
        walk_at "dl"
        refine ⟨_, rfl, s1, ?_⟩
        rw [hq1, etk, List.flatMap_append]
        simp [natD]
      · refine ⟨_, _, rfl, kit_ti, ?_⟩
        walk_at "dl"
        refine ⟨_, rfl, s1, ?_⟩
        rw [hq1, etk, List.flatMap_append]
        simp [natD]
    · rintro δ S1 ⟨o5, rfl, s1, hq1⟩
      rw [List.take_length] at hq1
      exact hN _ _ ⟨o5, by rw [et], s1, hq1⟩
  rintro δ' S1 ⟨o5, rfl, s1, hq1⟩
  walk_at "dl"
  have done : ∀ (S' : Store), DL.Sub S S' → S' q = some (.lst ((needsL L m).map inD)) → ∃ S'', DL.Sub S'' S' ∧ Q (.ref q) S'' := fun S' s' e => ⟨S', Sub.refl, h q S' s' nq e⟩
  have hfl3 : (t.flatMap natD).length ≤ 6 := by
    rcases htn with e | ⟨e, _⟩
    · rw [e]; exact hn6
    · rw [e]; simp
  rcases cls4 ok with ⟨ks, ts, er⟩ | ⟨wb, i, er, hw, w1, w2⟩ | ⟨kc, i, n, er⟩ | ⟨w1, w2, w3, hbx, hns⟩
  · have e0 : t.flatMap natD = [] := by
      rcases htn with e | ⟨e, _⟩
      · rw [er] at et
        cases et
        rfl
      · exact e
    have okk : ks.length ≤ 6 := by rw [er] at ok; exact ok
    rw [e0, List.append_nil] at hq1
    rw [er]
    simp only [Rs.d]
    refine sq ?_
    walk_at "dl"
    refine ⟨ty_list hq1, ?_⟩
    intro e ne
    refine ⟨_, _, (put_ne (ne_new hq1 ne)).trans hq1, put_same, szOk (by simp; omega), ?_⟩
    generalize hS2 : put S1 e _ = S2
    have s2 := (s1.gen hS2 ne).at (o := .lst ((stk L m).map inD ++ ks.map inD)) nq
    have hq2 : put S2 q (.lst ((stk L m).map inD ++ ks.map inD)) q = _ := put_same
    walk_at "dl"
    refine sq ?_
    walk_at "dl"
    refine ⟨WB, rfl, ?_⟩
    refine ifN (by decide +kernel) ?_
    refine sq ?_
    walk_at "dl"
    refine done _ s2 ?_
    rw [put_same]
    unfold needsL
    rw [er]
    simp [Rs.nums, Rs.bxs]
  · have e0 : t.flatMap natD = [i] := by
      rw [er] at et
      cases et
      rfl
    have bi : BoxIs L i m := by
      obtain ⟨b1, b2⟩ := hb i (by rw [er]; simp [Rs.bxs])
      exact box_is g ml m1 b2 b1
    rw [e0] at hq1
    rw [er]
    simp only [Rs.d]
    refine sq ?_
    walk_at "dl"
    refine ifN (by simpa using w1) ?_
    refine sq ?_
    walk_at "dl"
    refine ⟨WB, rfl, ?_⟩
    refine ifY (by simpa using hw) ?_
    walk_at "dl"
    refine ⟨ty_list hq1, ?_⟩
    refine ⟨L, a, i, m, rfl, s1 _ _ ha, g, bi, ml, hL, ?_⟩
    refine append_of hq1 (szLt (by simp; omega)) ?_
    refine sq ?_
    walk_at "dl"
    refine ifN (by simpa using w2) ?_
    walk_at "dl"
    refine done _ (s1.at nq) ?_
    rw [put_same]
    unfold needsL
    rw [er]
    simp [Rs.nums, Rs.bxs, inD]
  · have e0 : t.flatMap natD = [kc, i, n] := by
      rw [er] at et
      cases et
      rfl
    have bi : BoxIs L i m := by
      obtain ⟨b1, b2⟩ := hb i (by rw [er]; simp [Rs.bxs])
      exact box_is g ml m1 b2 b1
    have bn : BoxIs L n m := by
      obtain ⟨b1, b2⟩ := hb n (by rw [er]; simp [Rs.bxs])
      exact box_is g ml m1 b2 b1
    rw [e0] at hq1
    rw [er]
    simp only [Rs.d]
    refine sq ?_
    walk_at "dl"
    refine ifN (by decide +kernel) ?_
    refine sq ?_
    walk_at "dl"
    refine ⟨WB, rfl, ?_⟩
    refine ifN (by decide +kernel) ?_
    refine sq ?_
    walk_at "dl"
    refine ⟨ty_list hq1, ?_⟩
    refine ⟨L, a, i, m, rfl, s1 _ _ ha, g, bi, ml, hL, ?_⟩
    refine ⟨L, a, n, m, rfl, s1 _ _ ha, g, bn, ml, hL, ?_⟩
    walk_at "dl"
    intro e ne
    refine ⟨_, _, (put_ne (ne_new hq1 ne)).trans hq1, put_same, szOk (by simp; omega), ?_⟩
    generalize hS2 : put S1 e _ = S2
    have s2 := s1.gen hS2 ne
    walk_at "dl"
    refine done _ (s2.at nq) ?_
    rw [put_same]
    unfold needsL
    rw [er]
    simp [Rs.nums, Rs.bxs, inD]
  · have e0 : t.flatMap natD = (ln L m).r.nums := by
      rcases htn with e | ⟨_, ks, ts, e⟩
      · exact e
      · exact absurd e (hns ks ts)
    rw [e0] at hq1
    rw [et]
    refine sq ?_
    walk_at "dl"
    refine ifN (by simpa using w1) ?_
    refine sq ?_
    walk_at "dl"
    refine ⟨WB, rfl, ?_⟩
    refine ifN (by simpa using w2) ?_
    refine sq ?_
    walk_at "dl"
    refine ifN (by simpa using w3) ?_
    walk_at "dl"
    refine done _ s1 ?_
    rw [hq1]
    unfold needsL
    rw [hbx]
    simp
def tri : Nat → Nat
  | 0 => 0
  | n + 1 => tri n + (n + 1)
theorem tri_le : ∀ n, n ≤ 60 → tri n ≤ 1830 := by decide +kernel
theorem needsL_len {L : List Ln} (g : Gd L) {k : Nat} (h1 : 1 ≤ k) (h : k ≤ L.length) : (needsL L k).length ≤ k + 8 := by
  have := nums_len (g.at' h1 h).1
  have := bxs_len (r := (ln L k).r)
  have := stk_le (L := L) k
  unfold needsL
  simp only [List.length_append, List.length_map]
  omega
def spDue : SpD := fun ds S Q => ∃ L : List Ln, ds = [linesD L] ∧ Gd L ∧ 1 ≤ L.length ∧ L.length ≤ 60 ∧ ∀ (ys : List Int) (S' : Store), DL.Sub S S' → ys.Pairwise (· < ·) → (∀ k : Int, k ∈ ys ↔ ∃ n : Nat, k = n ∧ Nd L n) → Q (.tup (ys.map D.int)) S'
theorem df_due {k : Nat} (T : Bt mg) (A : At K mg "_law_due" "_law_due" s_l_due) (G_l_leans : Df P w K mg base "_law_leans" k spLeans) (G_l_boxes : Df P w K mg base "_law_boxes" k spBoxesL) : Df P w K mg base "_law_due" (k + 1) spDue := by
  have nd := sc_l_due.nd
  refine df_mk A rfl sc_l_due (fun _ _ _ _ _ _ us hl => match us, hl with | [_], _ => rfl) (fun ds S Q h => ?_) (fun f cdv A outer s H E hr ds S Q h => ?_)
  · obtain ⟨L, rfl, _⟩ := h
    rfl
  obtain ⟨L, rfl, g, h1, h60, h⟩ := h
  have hu := hu_of hr
  refine ⟨_, (dss_cons (ds_set (i := 1) nd rfl (Or.inl rfl) (de_call G_l_boxes hr rfl (da_cons (dv 0) da_nil)))
    (dss_cons (ds_set (i := 2) nd rfl (Or.inr rfl) (de_lst (da_cons (de_callB cd_len rfl T.len_ (by decide +kernel) (da_cons (dv 0) da_nil)) da_nil)))
    (dss_cons (ds_for PassesOwn.never rfl (di_range3 rfl T.range_ (da_cons (de_callB cd_len rfl T.len_ (by decide +kernel) (da_cons (dv 0) da_nil)) (da_cons de_int (da_cons (de_neg de_int) da_nil)))) (dg_name (i := 3) nd rfl (Or.inl rfl)) (dss_one (ds_if (dt_cmp (od_in hu) (dv 3) (dv 2) rfl) (dss_one (ds_expr (de_m PySem.F.plainAttrs_list PySem.F.slot_list_extend PySem.F.type_list_extend md_extend (dv 2) (da_cons (de_lc (own := [("_law_m", 4)]) (g := GD.one 4) rfl nd (di_any (de_call G_l_leans hr rfl (da_cons (dv 0) (da_cons (dv 1) (da_cons (dv 3) da_nil))))) (blkOk_by (own := [("_law_m", 4)]) (N := ["_law_lines", "_law_boxes_here", "_law_found", "_law_k", "_law_m"]) (sc := defScope s_l_due) (by decide +kernel)) (fun _ _ _ _ _ => (dg_name (i := 4) nd rfl (Or.inl rfl))) (fun _ _ _ _ _ => (dts_one (dt_cmp (od_notIn hu) (dv 4) (dv 2) rfl))) (fun _ _ _ _ _ => (dv 4))) da_nil)))) dss_nil)))
    (dss_one (ds_ret (de_callTy cd_tuple rfl T.tuple_ (by decide +kernel) (da_cons (de_sortSet rfl rfl T.sorted_ rfl T.set_ (dv 2)) da_nil))))))), ?_⟩
  refine sq ?_
  walk_at "dl"
  refine ⟨L, rfl, by omega, g, fun a S1 s1 na ha => ?_⟩
  refine sq ?_
  walk_at "dl"
  rw [List.length_map]
  intro q nq
  generalize hS2 : put S1 q _ = S2
  have s2 := s1.gen hS2 nq
  have kq := gen_at hS2
  have ha2 : Bxs L S2 a := gen_kp hS2 nq ha
  have nq' := s1.none' nq
  have aq : a ≠ q := ne_new ha nq
  refine sq ?_
  walk_at "dl"
  rw [List.length_map]
  refine ⟨⟨by omega, by omega, by omega, by omega⟩, ?_⟩
  rw [show ((L.length : Int) - 0).toNat = L.length by omega]
  refine forB_rngD (fun i δ S' => ∃ (fs : List Nat) (o3 o4 : Option D), δ = [some (linesD L), some (.ref a), some (.ref q), o3, o4] ∧ DL.Sub S S' ∧ Bxs L S' a ∧ S' q = some (.lst (fs.map inD)) ∧ (∀ z ∈ fs, Nd L z) ∧ L.length ∈ fs ∧ (∀ z ∈ fs, L.length - i < z → ∀ j ∈ needs L z, j ∈ fs) ∧ fs.length + tri (L.length - i) ≤ 1 + tri L.length + 8 * i)
    ⟨[L.length], none, none, rfl, s2, ha2, kq, (fun z hz => by cases List.mem_singleton.mp hz; exact .last), by simp, (fun z hz hlt => by cases List.mem_singleton.mp hz; omega), by simp⟩ ?_ ?_
  · rintro i δ S3 hi ⟨fs, o3, o4, rfl, s3, ha3, hq3, hnd, hlast, hcl, hlen⟩
    have hk : (L.length : Int) - (i : Nat) = ((L.length - i : Nat) : Int) := by omega
    obtain ⟨m, hm⟩ : ∃ m, L.length - i = m + 1 := ⟨L.length - i - 1, by omega⟩
    have hm' : L.length - (i + 1) = m := by omega
    have htri : tri (m + 1) = tri m + (m + 1) := rfl
    have htot : tri L.length ≤ 1830 := tri_le _ h60
    walk_at "dl"
    rw [hq3, hk, hm]
    refine ⟨_, intsN _, ?_⟩
    rw [hm] at hcl hlen
    rw [show decide (((m + 1 : Nat) : Int) ∈ fs.map fun k : Nat => (k : Int)) = decide (m + 1 ∈ fs) from decide_eq_decide.mpr memN]
    by_cases hin : m + 1 ∈ fs
    · rw [decide_eq_true hin]
      walk_at "dl"
      refine ⟨ty_list hq3, ?_⟩
      refine ⟨L, a, m + 1, rfl, ha3, g, by omega, by omega, by omega, fun b S4 s4 nb hb => ?_⟩
      have hq4 := s4 _ _ hq3
      refine ⟨⟨_, hb⟩, fun e ne => ?_⟩
      have be := ne_new hb ne
      have qe := ne_new hq4 ne
      have hnl := needsL_len g (k := m + 1) (by omega) (by omega)
      refine lcB_fltA (needsL L (m + 1)) inD inD (fun z => !decide (z ∈ fs)) (fun k acc => ?_) (by omega) (fun z acc N mz hN => ?_) (fun z S Y mz yy => ?_) ?_
      · exact listJ ((put_ne be).trans hb)
      · walk_at "dl"
        rw [(put_ne qe).trans hq4]
        refine ⟨_, intsN _, ?_⟩
        rw [show decide ((z : Int) ∈ fs.map fun k : Nat => (k : Int)) = decide (z ∈ fs) from decide_eq_decide.mpr memN]
        exact hN
      · walk_at "dl"
        exact yy
      have hfl := List.length_filter_le (fun z => !decide (z ∈ fs)) (needsL L (m + 1))
      refine ⟨_, _, (put_ne qe).trans hq4, put_same, szOk (by simp only [List.length_map]; omega), ?_⟩
      refine ⟨fs ++ (needsL L (m + 1)).filter (fun z => !decide (z ∈ fs)), _, _, rfl, ((s3.trans s4).trans (Sub.new ne)).at nq', ?_, by rw [put_same, List.map_append], fun z hz => ?_, List.mem_append_left _ hlast, fun z hz hlt j hj => ?_, ?_⟩
      · exact (put_ne aq).trans ((put_ne (ne_new (s4 _ _ ha3) ne)).trans (s4 _ _ ha3))
      · rcases List.mem_append.mp hz with w | w
        · exact hnd z w
        · exact .step (hnd _ hin) (needsL_mem.mp (List.mem_filter.mp w).1)
      · have all : ∀ j ∈ needs L (m + 1), j ∈ fs ++ (needsL L (m + 1)).filter (fun z => !decide (z ∈ fs)) := fun j hj => by
          by_cases c : j ∈ fs
          · exact List.mem_append_left _ c
          · exact List.mem_append_right _ (List.mem_filter.mpr ⟨needsL_mem.mpr hj, by simp [c]⟩)
        rcases List.mem_append.mp hz with w | w
        · by_cases c : z = m + 1
          · subst c; exact all j hj
          · exact List.mem_append_left _ (hcl z w (by omega) j hj)
        · have w2 := List.mem_filter.mp w
          have := needs_le g (by omega) (by omega) (needsL_mem.mp w2.1)
          have : z = m + 1 := by omega
          subst this
          exact all j hj
      · rw [hm', List.length_append]; omega
    · rw [decide_eq_false hin]
      walk_at "dl"
      refine ⟨fs, _, _, rfl, s3, ha3, hq3, hnd, hlast, fun z hz hlt j hj => ?_, by rw [hm']; omega⟩
      have : z ≠ m + 1 := fun e => hin (e ▸ hz)
      exact hcl z hz (by omega) j hj
  · rintro δ S3 ⟨fs, o3, o4, rfl, s3, ha3, hq3, hnd, hlast, hcl, hlen⟩
    have htot : tri L.length ≤ 1830 := tri_le _ h60
    walk_at "dl"
    refine ⟨fs.map fun k : Nat => (k : Int), (List.range' 1 L.length).map fun k : Nat => (k : Int), by rw [seqAt_ref hq3, mapN], by rw [List.length_map]; omega, by simp; omega, fun k hk => ?_, fun ys p srt hmem np => ?_⟩
    · obtain ⟨z, hz, rfl⟩ := List.mem_map.mp hk
      have := (hnd z hz).rng g h1
      exact List.mem_map.mpr ⟨z, by rw [List.mem_range'_1]; omega, rfl⟩
    · refine ⟨_, Sub.refl, h ys _ (s3.trans (Sub.new np)) srt fun k => ?_⟩
      rw [hmem, List.mem_map]
      have hiff := nd_iff (L := L) (C := (· ∈ fs)) hlast hnd fun k hk => hcl k hk (by have := (hnd k hk).rng g h1; omega)
      exact ⟨fun ⟨n, hn, e⟩ => ⟨n, e.symm, (hiff n).mp hn⟩, fun ⟨n, e, hn⟩ => ⟨n, (hiff n).mpr hn, e.symm⟩⟩
end
end K61

set_option Elab.async false
set_option maxRecDepth 100000
set_option linter.unusedVariables false
namespace K61
open PySem PySem.Spec PyProof.Rows L2 DL FO
local macro_rules | `(tactic| walk_at "dl") => `(tactic| try simp only [DL.tAsgD, DL.asg, DL.tVarD, DL.lk, DL.sto, DL.stos, DL.tOpD, DL.tCD, DL.tCallD, DL.tConsD, DL.tNilD, DL.tRetD, DL.endsD, DL.startD, DL.tIfSD, DL.tTestD, DL.tNextD, DL.tDropD, DL.tAndD, DL.tOrD, DL.tNotD, DL.tAndV, DL.tOrV, DL.tNotV, DL.tIfD, DL.tNegD, DL.tTupD, DL.tLstD, DL.tSetD, DL.tMD, DL.tSlD, DL.tPartD, DL.tNoD, DL.tRevD, DL.tForD, DL.tLcD, DL.tIterD, DL.tRng1D, DL.tRng2D, DL.tYesD, DL.wipeD, DL.tDictD, DL.tDictOne, DL.tFldD, DL.tMethD, DL.tMakeD, DL.tSetF, DL.tThaw, DL.thaw, DL.tLRg, DL.tChainD, DL.tDispD, DL.tPairsD, DL.tEnumD, DL.tZipD, DL.tCallLD, DL.tSortSet, DL.tRng3D, DL.keyOf, DL.emE_rr, DL.tLess, DL.tLessS, DL.itOk, DL.rAdd_ii, DL.rAdd_ss, DL.rAdd_tt, DL.rAdd_rr, DL.rSub_ii, DL.rMod_ii, DL.rDiv_ii, DL.rPow_ii, DL.rMul_ii, DL.rMul_ri, DL.rLt_ii, DL.rLt_ss, DL.rLe_ii, DL.rGt_ii, DL.rGe_ii, DL.rEq_ii, DL.rEq_ss, DL.rEq_bb, DL.rNe_ii, DL.rNe_ss, DL.rNe_bb, DL.rEq_rr, DL.rNe_rr, DL.rEq_tt, DL.rNe_tt, DL.rIn_st, DL.rNotIn_st, DL.rIn_r, DL.rNotIn_r, DL.rIn_ss, DL.rInDO_sl, DL.rInDO_il, DL.rInDO_sd, DL.rInDO_id, DL.rIsN_n, DL.rIsN_t, DL.rIsN_i, DL.rIsN_s, DL.rIsN_r, DL.rNotN_n, DL.rNotN_t, DL.rNotN_i, DL.rNotN_s, DL.rNotN_r, DL.rIx_t, DL.rIx_r, DL.rIx_s, DL.rIxDO_l, DL.rIxDO_ds, DL.rIx0, DL.rIx1, DL.rIx2, DL.rIx3, DL.rSl_t, DL.rSl_s, DL.rSl_o, DL.rSl_r, DL.rSlDO, DL.rSet_r, DL.rSetDO_0, DL.rSetDO_s, DL.rLen_t, DL.rLen_o, DL.rLen_s, DL.rLen_r, DL.rLenDO, DL.rLenDO_d, DL.rList_t, DL.rList_o, DL.rList_r, DL.rListDO, DL.rTuple_t, DL.rTuple_r, DL.rInt_i, DL.rInt_b, DL.rMax, DL.rMin, DL.rSz0, DL.rSz1, DL.rSz2, DL.rSz3, DL.rSz4, DL.rSz5, DL.rSz6, DL.rSz7, DL.rSz8, Option.some.injEq, DL.DO.lst.injEq, exists_eq_left', exists_eq_left, DL.put_same, DL.put_put, true_and, and_true, List.map, List.replicate, List.length, List.cons_append, List.nil_append, Nat.reduceSub, Nat.reduceAdd, decide_eq_true_eq, if_true, if_false, Bool.false_eq_true, Bool.not_true, Bool.not_false])
local macro_rules | `(tactic| walk_at "dlh") => `(tactic| try simp only [*, DL.tAsgD, DL.asg, DL.tVarD, DL.lk, DL.sto, DL.stos, DL.tOpD, DL.tCD, DL.tCallD, DL.tConsD, DL.tNilD, DL.tRetD, DL.endsD, DL.startD, DL.tIfSD, DL.tTestD, DL.tNextD, DL.tDropD, DL.tAndD, DL.tOrD, DL.tNotD, DL.tAndV, DL.tOrV, DL.tNotV, DL.tIfD, DL.tNegD, DL.tTupD, DL.tLstD, DL.tSetD, DL.tMD, DL.tSlD, DL.tPartD, DL.tNoD, DL.tRevD, DL.tForD, DL.tLcD, DL.tIterD, DL.tRng1D, DL.tRng2D, DL.tYesD, DL.wipeD, DL.tDictD, DL.tDictOne, DL.tFldD, DL.tMethD, DL.tMakeD, DL.tSetF, DL.tThaw, DL.thaw, DL.tLRg, DL.tChainD, DL.tDispD, DL.tPairsD, DL.tEnumD, DL.tZipD, DL.tCallLD, DL.tSortSet, DL.tRng3D, DL.keyOf, DL.emE_rr, DL.tLess, DL.tLessS, DL.itOk, DL.rAdd_ii, DL.rAdd_ss, DL.rAdd_tt, DL.rAdd_rr, DL.rSub_ii, DL.rMod_ii, DL.rDiv_ii, DL.rPow_ii, DL.rMul_ii, DL.rMul_ri, DL.rLt_ii, DL.rLt_ss, DL.rLe_ii, DL.rGt_ii, DL.rGe_ii, DL.rEq_ii, DL.rEq_ss, DL.rEq_bb, DL.rNe_ii, DL.rNe_ss, DL.rNe_bb, DL.rEq_rr, DL.rNe_rr, DL.rEq_tt, DL.rNe_tt, DL.rIn_st, DL.rNotIn_st, DL.rIn_r, DL.rNotIn_r, DL.rIn_ss, DL.rInDO_sl, DL.rInDO_il, DL.rInDO_sd, DL.rInDO_id, DL.rIsN_n, DL.rIsN_t, DL.rIsN_i, DL.rIsN_s, DL.rIsN_r, DL.rNotN_n, DL.rNotN_t, DL.rNotN_i, DL.rNotN_s, DL.rNotN_r, DL.rIx_t, DL.rIx_r, DL.rIx_s, DL.rIxDO_l, DL.rIxDO_ds, DL.rIx0, DL.rIx1, DL.rIx2, DL.rIx3, DL.rSl_t, DL.rSl_s, DL.rSl_o, DL.rSl_r, DL.rSlDO, DL.rSet_r, DL.rSetDO_0, DL.rSetDO_s, DL.rLen_t, DL.rLen_o, DL.rLen_s, DL.rLen_r, DL.rLenDO, DL.rLenDO_d, DL.rList_t, DL.rList_o, DL.rList_r, DL.rListDO, DL.rTuple_t, DL.rTuple_r, DL.rInt_i, DL.rInt_b, DL.rMax, DL.rMin, DL.rSz0, DL.rSz1, DL.rSz2, DL.rSz3, DL.rSz4, DL.rSz5, DL.rSz6, DL.rSz7, DL.rSz8, Option.some.injEq, DL.DO.lst.injEq, exists_eq_left', exists_eq_left, DL.put_same, DL.put_put, true_and, and_true, List.map, List.replicate, List.length, List.cons_append, List.nil_append, Nat.reduceSub, Nat.reduceAdd, decide_eq_true_eq, if_true, if_false, Bool.false_eq_true, Bool.not_true, Bool.not_false])
local macro_rules | `(tactic| walk_at "go") => `(tactic| repeat (first | (refine DL.sq ?_; try walk_at "dl") | (refine DL.ifY rfl ?_; try walk_at "dl") | (refine DL.inY rfl (by decide) ?_; try walk_at "dl") | (refine DL.inN rfl (by decide) ?_; try walk_at "dl") | (refine DL.ifN (by decide) ?_; try walk_at "dl")))
abbrev s_law : Stmt := top 51
theorem sc_law : FnScope ["_law_script", "_law_deck_here", "_law_vocabulary_here", "_law_lines", "_law_great", "_law_argument", "_law_due_here"] ["_law_script"] (defScope s_law) := ⟨rfl, rfl, rfl, by decide +kernel, rfl, by decide +kernel, by decide +kernel⟩
theorem int_shown : ∀ i : Fin 61, (PyData.int (i.val : Int)).shown.length ≤ 3 := by decide +kernel
theorem piled_ints : ∀ ys : List Int, (∀ y ∈ ys, ∃ n : Nat, y = n ∧ n ≤ 60) → piled (PyData.shownAll (ys.map PyData.int)) ≤ 5 * ys.length
  | [], _ => by simp [PyData.shownAll, piled]
  | y :: ys, h => by
    have ih := piled_ints ys fun z hz => h z (List.mem_cons_of_mem _ hz)
    obtain ⟨n, rfl, hn⟩ := h y List.mem_cons_self
    have h1 := int_shown ⟨n, by omega⟩
    simp only [List.map_cons, PyData.shownAll, piled_cons, List.length_cons]
    have : (PyData.int (n : Int)).shown.length ≤ 3 := h1
    omega
theorem PDs.ints {S : Store} : ∀ ys : List Int, PDs S (ys.map D.int) (ys.map PyData.int)
  | [] => .nil
  | y :: ys => .cons (.int y) (PDs.ints ys)
theorem int_show : ∀ i : Fin 61, (PyData.int (i.val : Int)).showable = true := by decide +kernel
theorem ints_all : ∀ ys : List Int, (∀ y ∈ ys, ∃ n : Nat, y = n ∧ n ≤ 60) → PyData.showableAll (ys.map PyData.int) = true ∧ PyData.hasDictAll (ys.map PyData.int) = false ∧ PyData.depthAll (ys.map PyData.int) = 0 ∧ PyData.canLayAll0 (ys.map PyData.int) = true ∧ PyData.eqvAll (ys.map PyData.int) (ys.map PyData.int) = true
  | [], _ => by simp [PyData.showableAll, PyData.hasDictAll, PyData.depthAll, PyData.canLayAll0, PyData.eqvAll]
  | y :: ys, h => by
    obtain ⟨a, b, c, d, e⟩ := ints_all ys fun z hz => h z (List.mem_cons_of_mem _ hz)
    obtain ⟨n, ey, hn⟩ := h y List.mem_cons_self
    have h1 : (PyData.int y).showable = true := by rw [ey]; exact int_show ⟨n, by omega⟩
    refine ⟨by simp [PyData.showableAll, h1, a], by simp [PyData.hasDictAll, PyData.hasDict, b], by simp [PyData.depthAll, PyData.depth, c], by simp [PyData.canLayAll0, PyData.canLay0, d], by simp [PyData.eqvAll, PyData.eqv, e]⟩
theorem reprInts {ys : List Int} {S : Store} {Q : KD} (h : ∀ y ∈ ys, ∃ n : Nat, y = n ∧ n ≤ 60) (hl : ys.length ≤ 60) (q : Q (.str (PyData.tuple (ys.map PyData.int)).shown) S) : oRepr [.tup (ys.map D.int)] S Q := by
  obtain ⟨a, b, c, d, e⟩ := ints_all ys h
  refine ⟨.tuple (ys.map PyData.int), .tup (PDs.ints ys), ⟨_, rfl⟩, by simp [PyData.showable, a], by simp [PyData.hasDict, b], by simp [PyData.depth, c], ?_, q⟩
  have h1 := fmt_text (PyData.shownAll (ys.map PyData.int))
  have h2 := piled_ints ys h
  simp only [PyData.shown]
  exact szOk (by omega)
theorem eqInts {ys : List Int} {S : Store} {Q : KD} (h : ∀ y ∈ ys, ∃ n : Nat, y = n ∧ n ≤ 60) (q : Q (.bl true) S) : eqAny id (.tup (ys.map D.int)) (.tup (ys.map D.int)) S Q := by
  obtain ⟨a, b, c, d, e⟩ := ints_all ys h
  have hs : SeqAt.shaped (.tuple (ys.map PyData.int)) = true := shaped_of (n := 1) (by simp [PyData.canLay0, d]) (by simp [PyData.depth, c]) (by omega)
  refine ⟨_, _, .tup (PDs.ints ys), .tup (PDs.ints ys), hs, hs, ?_⟩
  have : PyData.eqv (.tuple (ys.map PyData.int)) (.tuple (ys.map PyData.int)) = true := by simp [PyData.eqv, e]
  rw [this]
  exact q
theorem atI_lastG {α : Type} {f : α → D} {l : List α} {y : α} (h : l.getLast? = some y) : atI (l.map f) (-1) = some (f y) := by
  cases l with
  | nil => simp at h
  | cons a as =>
    unfold atI
    rw [ixN_last (by simp)]
    show (List.map f (a :: as))[_]? = _
    rw [List.getLast?_eq_getElem?] at h
    rw [List.getElem?_map, List.length_map, h]
    rfl
def extL (L : List Ln) (lv : Nat) (F : Fo) : Nat → List Ln
  | 0 => L
  | j + 1 => extL L lv F j ++ [⟨lv, F, .w1 "again" (extL L lv F j).length⟩]
theorem extL_len {L : List Ln} {lv : Nat} {F : Fo} : ∀ j, (extL L lv F j).length = L.length + j
  | 0 => rfl
  | j + 1 => by
    show (extL L lv F j ++ [_]).length = _
    rw [List.length_append, extL_len j, List.length_singleton]; omega
theorem extL_gd {L : List Ln} {lv : Nat} {F : Fo} (g : Gd L) (h1 : 1 ≤ L.length) {z : Ln} (hz : L.getLast? = some z) (e : z.lv = lv) (ef : z.f = F) : ∀ j, Gd (extL L lv F j) ∧ ∃ z, (extL L lv F j).getLast? = some z ∧ z.lv = lv ∧ z.f = F
  | 0 => ⟨g, z, hz, e, ef⟩
  | j + 1 => by
    obtain ⟨ih, y, hy, ey, _⟩ := extL_gd g h1 hz e ef j
    have hl := extL_len (L := L) (lv := lv) (F := F) j
    refine ⟨ih.plain ⟨by simp [Rs.ok, W1], rfl, rfl, fun k hk => ?_⟩ ⟨fun c => ?_, fun w hw => ?_⟩, _, List.getLast?_concat, rfl, rfl⟩
    · cases List.mem_singleton.mp hk
      omega
    · rw [c] at hl; simp at hl; omega
    · rw [hy] at hw; cases hw; show lv ≤ _; omega
theorem nd_small {L : List Ln} (g : Gd L) (h1 : 1 ≤ L.length) (h60 : L.length ≤ 60) {ys : List Int} (hs : ys.Pairwise (· < ·)) (hm : ∀ k : Int, k ∈ ys ↔ ∃ n : Nat, k = n ∧ Nd L n) : (∀ y ∈ ys, ∃ n : Nat, y = n ∧ n ≤ 60) ∧ ys.length ≤ 60 := by
  refine ⟨fun y hy => ?_, ?_⟩
  · obtain ⟨n, e, hn⟩ := (hm y).mp hy
    have := hn.rng g h1
    exact ⟨n, e, by omega⟩
  · have hnd : ys.Nodup := List.nodup_iff_pairwise_ne.mpr (hs.imp fun h => by omega)
    have := pigeon ys ((List.range' 1 L.length).map fun k : Nat => (k : Int)) hnd fun y hy => by
      obtain ⟨n, e, hn⟩ := (hm y).mp hy
      have := hn.rng g h1
      exact List.mem_map.mpr ⟨n, by rw [List.mem_range'_1]; omega, e.symm⟩
    simp at this
    omega
def spLaw : SpD := fun ds S Q => ∃ ns : List Int, ds = [.rol (ns.map D.int)] ∧ ns.length ≤ 63 ∧ ∀ S', Q (.bl true) S'
structure Defs (P : Program) (w : World) (K : PySem.W.Frag) (mg : Str → Option Value) (base : Heap) : Prop where
  deck : Df P w K mg base "_law_deck" 140 spDeck
  next : Df P w K mg base "_law_next" 140 spNext
  voc : Df P w K mg base "_law_vocabulary" 140 spVoc
  grown : Df P w K mg base "_law_grown" 140 spGrown
  due : Df P w K mg base "_law_due" 140 spDue
  needed : Df P w K mg base "needed" 140 spNeeded
section
variable {P : Program} {w : World} {K : PySem.W.Frag} {mg : Str → Option Value} {base : Heap}
theorem df_box0 {k : Nat} (A : At K mg "_law_box" "_law_box" s_l_box) : Df P w K mg base "_law_box" (k + 1) (spBx 0) := by
  refine df_mk A rfl sc_l_box (fun _ _ _ _ _ _ us hl => match us, hl with | [_, _, _, _], _ => rfl) (fun ds S Q h => ?_) (fun f cdv A outer s H E hr ds S Q h => ?_)
  · obtain ⟨x, L, X, a, kn, lv, nm, rfl, _⟩ := h
    rfl
  · obtain ⟨x, L, X, a, kn, lv, nm, rfl, _, _, _, _, _, _, _, h1, h2, _⟩ := h
    omega
theorem fnG_law {f : Addr} {fd : FuncData} (T : Bt mg) (A : Fun K "law" "law" s_law f fd) (G : Defs P w K mg base) : FnG P w K mg base 141 f fd ["_law_script"] (liftSp K spLaw) := by
  have nd := sc_law.nd
  have G_l_deck := G.deck
  have G_l_next := G.next
  have G_l_vocabulary := G.voc
  have G_l_grown := G.grown
  have G_l_due := G.due
  have G_needed := G.needed
  refine fnG_body A rfl sc_law (fun ds S Q h => ?_) (fun cdv A outer s H E hG hr ds S Q h => ?_)
  · obtain ⟨ns, rfl, _⟩ := h
    rfl
  obtain ⟨ns, rfl, hl, h⟩ := h
  have hu := hu_of hr
  have hR := hR_of hr
  refine ⟨_, (dss_cons (ds_set (i := 1) nd rfl (Or.inl rfl) (de_call G_l_deck hr rfl (da_cons (dv 0) da_nil)))
    (dss_cons (ds_set (i := 2) nd rfl (Or.inl rfl) (de_call G_l_vocabulary hr rfl (da_cons (dv 1) (da_cons (de_tup (da_cons de_int (da_cons de_int (da_cons de_int da_nil)))) da_nil))))
    (dss_cons (ds_set (i := 3) nd rfl (Or.inl rfl) (de_call G_l_grown hr rfl (da_cons (dv 1) (da_cons (dv 2) (da_cons (de_call G_l_next hr rfl (da_cons (dv 1) (da_cons de_int da_nil))) da_nil)))))
    (dss_cons (ds_set (i := 4) nd rfl (Or.inl rfl) (de_cmp (od_eq hr.units) (de_call G_l_next hr rfl (da_cons (dv 1) (da_cons de_int da_nil))) de_int (nomark _)))
    (dss_cons (ds_while PassesOwn.never (dt_w (dw_and (dt_val (dv 4)) (dw_and1 (dt_cmp od_lt (de_callB cd_len rfl T.len_ (by decide +kernel) (da_cons (dv 3) da_nil)) de_int (nomark _))))) (dss_one (ds_set (i := 3) nd rfl (Or.inl rfl) (de_op od_add (dv 3) (de_tup (da_cons (de_op od_add (de_slice (de_ix hu (dv 3) (de_neg de_int)) do_none (do_some de_int)) (de_tup (da_cons (de_tup (da_cons de_str (da_cons (de_callB cd_len rfl T.len_ (by decide +kernel) (da_cons (dv 3) da_nil)) da_nil))) da_nil))) da_nil))))))
    (dss_cons (ds_set (i := 5) nd rfl (Or.inl rfl) (de_tup (da_cons (dv 2) (da_cons (de_tup da_nil) (da_cons (dv 3) da_nil)))))
    (dss_cons (ds_set (i := 6) nd rfl (Or.inl rfl) (de_call G_l_due hr rfl (da_cons (dv 3) da_nil)))
    (dss_one (ds_ret (de_and (de_cmp (od_eq hr.units) (de_callB (cd_repr hG hR) rfl T.repr_ (by decide +kernel) (da_cons (de_call G_needed hr rfl (da_cons (dv 5) da_nil)) da_nil)) (de_callB (cd_repr hG hR) rfl T.repr_ (by decide +kernel) (da_cons (dv 6) da_nil)) (nomark _)) (de_one (de_cmp (od_eq hr.units) (de_call G_needed hr rfl (da_cons (dv 5) da_nil)) (dv 6) (nomark _))))))))))))), ?_⟩
  refine sq ?_
  walk_at "dl"
  refine ⟨ns, rfl, hl, fun p c S1 d1 => ?_⟩
  refine sq ?_
  walk_at "dl"
  refine ⟨p, c, 6, 6, 3, rfl, d1, by decide, by decide, by decide, by decide, fun vs ks dos S2 c2 v6 k1 k6 d3 hvs hks hdos _ _ _ _ _ => ?_⟩
  refine sq ?_
  walk_at "dl"
  refine ⟨p, c, _, rfl, c2.2, by decide, by decide, fun r S3 r0 r1 c3 => ?_⟩
  obtain ⟨rn, rfl⟩ : ∃ n : Nat, r = n := ⟨r.toNat, by omega⟩
  refine ⟨p, c, vs, ks, dos, rn, rfl, c3.2, by omega, v6, k1, k6, by omega, hvs, hks, hdos, fun L S4 c4 gd l1 l60 _ => ?_⟩
  refine sq ?_
  walk_at "dl"
  refine ⟨p, c, _, rfl, c4.2, by decide, by decide, fun r5 S5 r50 r51 c5 => ?_⟩
  walk_at "dl"
  generalize decide (r5 = 5) = great
  have hne : L ≠ [] := fun z => by rw [z] at l1; simp at l1
  have hz := List.getLast?_eq_some_getLast hne
  generalize L.getLast hne = z at hz
  have ext := extL_gd gd l1 hz rfl rfl
  refine sq ?_
  refine while_seq (fun j => [some (.rol (ns.map D.int)), some (.ref p), some (.tup [.tup (vs.map D.str), .tup (ks.map D.str), .tup (dos.map D.str)]), some (linesD (extL L z.lv z.f j)), some (.bl great), none, none]) (if great = true then 60 - L.length else 0) (fun j => great && decide (L.length + j < 60)) (fun S' => S' = S5) rfl ?_ rfl ?_ ?_ ?_
  · cases great with
    | true => simp; omega
    | false => simp
  · rintro j S6 hj rfl N hN
    have hN := hN _ rfl
    walk_at "dl"
    cases great with
    | false => exact hN
    | true =>
      walk_at "dl"
      rw [List.length_map, extL_len]
      have e : decide (((L.length + j : Nat) : Int) < 60) = decide (L.length + j < 60) := decide_eq_decide.mpr (by omega)
      rw [e]
      simpa using hN
  · rintro j S6 N hj rfl hN
    obtain ⟨gj, y, hy, ey, ef⟩ := ext j
    walk_at "dl"
    refine ⟨y.d, atI_lastG hy, ?_⟩
    unfold Ln.d
    walk_at "dl"
    rw [List.length_map, ey, ef]
    have ec : cutL [D.int ((z.lv : Nat) : Int), z.f.d, y.r.d] none (some 2) = [D.int ((z.lv : Nat) : Int), z.f.d] := rfl
    rw [ec]
    have hlj := extL_len (L := L) (lv := z.lv) (F := z.f) j
    have hj60 : j ≤ 60 := by split at hj <;> omega
    refine ⟨szOk (by simp), szOk (by omega), ?_⟩
    have hN := hN _ rfl
    have e : linesD (extL L z.lv z.f (j + 1)) = .tup ((extL L z.lv z.f j).map Ln.d ++ [.tup ([D.int ((z.lv : Nat) : Int), z.f.d] ++ [D.tup [D.str "again", D.int (((extL L z.lv z.f j).length : Nat) : Int)]])]) := by
      show D.tup (List.map Ln.d (extL L z.lv z.f j ++ [_])) = _
      rw [List.map_append]
      rfl
    rw [e] at hN
    exact hN
  · rintro j S6 hj hb rfl
    obtain ⟨gj, _⟩ := ext j
    have hlj := extL_len (L := L) (lv := z.lv) (F := z.f) j
    have h60 : (extL L z.lv z.f j).length ≤ 60 := by
      rw [hlj]
      cases great with
      | true => simp at hj; omega
      | false => simp at hj; omega
    have h1 : 1 ≤ (extL L z.lv z.f j).length := by omega
    walk_at "dl"
    refine sq ?_
    walk_at "dl"
    refine sq ?_
    walk_at "dl"
    refine ⟨_, rfl, gj, h1, h60, fun ys S7 _ srt mem => ?_⟩
    obtain ⟨sm, sl⟩ := nd_small gj h1 h60 srt mem
    walk_at "dl"
    refine ⟨_, _, _, rfl, gj, h1, h60, fun ys2 S8 _ srt2 mem2 => ?_⟩
    have e2 : ys2 = ys := sorted_eq srt2 srt fun k => (mem2 k).trans (mem k).symm
    subst e2
    refine reprInts sm sl ?_
    refine reprInts sm sl ?_
    walk_at "dl"
    refine ⟨_, _, _, rfl, gj, h1, h60, fun ys3 S9 _ srt3 mem3 => ?_⟩
    have e3 : ys3 = ys2 := sorted_eq srt3 srt fun k => (mem3 k).trans (mem k).symm
    subst e3
    walk_at "dl"
    refine eqInts sm ?_
    exact ⟨_, Sub.refl, h _⟩
end
end K61

set_option Elab.async false
set_option maxRecDepth 100000
set_option linter.unusedVariables false
namespace K61
open PySem PySem.Spec PyProof.Rows L2 DL
/-- what stands at the top -/
structure Top (K : PySem.W.Frag) (mg : Str → Option Value) (w : World) (dROWS : Addr) : Prop where
  bt : Bt mg
  f_level_of : At K mg "level_of" "level_of" s_level_of
  f_is_opener : At K mg "is_opener" "is_opener" s_is_opener
  f_ends_box : At K mg "ends_box" "ends_box" s_ends_box
  f_box_of : At K mg "box_of" "box_of" s_box_of
  f_openers_behind : At K mg "openers_behind" "openers_behind" s_openers_behind
  f_openers_at : At K mg "openers_at" "openers_at" s_openers_at
  f_told_by : At K mg "told_by" "told_by" s_told_by
  f_many_numbers : At K mg "many_numbers" "many_numbers" s_many_numbers
  f_numbers_in : At K mg "numbers_in" "numbers_in" s_numbers_in
  f_boxes_in : At K mg "boxes_in" "boxes_in" s_boxes_in
  f_needs_of : At K mg "needs_of" "needs_of" s_needs_of
  f_needed : At K mg "needed" "needed" s_needed
  f_l_deck : At K mg "_law_deck" "_law_deck" s_l_deck
  f_l_next : At K mg "_law_next" "_law_next" s_l_next
  f_l_vocabulary : At K mg "_law_vocabulary" "_law_vocabulary" s_l_vocabulary
  f_l_total : At K mg "_law_total" "_law_total" s_l_total
  f_l_atom : At K mg "_law_atom" "_law_atom" s_l_atom
  f_l_form : At K mg "_law_form" "_law_form" s_l_form
  f_l_swap : At K mg "_law_swap" "_law_swap" s_l_swap
  f_l_put : At K mg "_law_put" "_law_put" s_l_put
  f_l_texts : At K mg "_law_texts" "_law_texts" s_l_texts
  f_l_deep : At K mg "_law_deep" "_law_deep" s_l_deep
  f_l_letter : At K mg "_law_letter" "_law_letter" s_l_letter
  f_l_new : At K mg "_law_new" "_law_new" s_l_new
  f_l_add : At K mg "_law_add" "_law_add" s_l_add
  f_l_at : At K mg "_law_at" "_law_at" s_l_at
  f_l_find : At K mg "_law_find" "_law_find" s_l_find
  f_l_any_form : At K mg "_law_any_form" "_law_any_form" s_l_any_form
  f_l_one_step : At K mg "_law_one_step" "_law_one_step" s_l_one_step
  f_l_summed : At K mg "_law_summed" "_law_summed" s_l_summed
  f_l_least_step : At K mg "_law_least_step" "_law_least_step" s_l_least_step
  f_l_two_step : At K mg "_law_two_step" "_law_two_step" s_l_two_step
  f_l_box : At K mg "_law_box" "_law_box" s_l_box
  f_l_any_box : At K mg "_law_any_box" "_law_any_box" s_l_any_box
  f_l_called_box : At K mg "_law_called_box" "_law_called_box" s_l_called_box
  f_l_block : At K mg "_law_block" "_law_block" s_l_block
  f_l_grown : At K mg "_law_grown" "_law_grown" s_l_grown
  f_l_boxes : At K mg "_law_boxes" "_law_boxes" s_l_boxes
  f_l_last_in : At K mg "_law_last_in" "_law_last_in" s_l_last_in
  f_l_leans : At K mg "_law_leans" "_law_leans" s_l_leans
  f_l_due : At K mg "_law_due" "_law_due" s_l_due
  c_OPENERS : Cst K mg "OPENERS" (.tup [.str "supposed", .str "any", .str "called"])
  c_ONE : Cst K mg "ONE" (.tup [.str "again", .str "left", .str "right", .str "orleft", .str "orright", .str "nothing", .str "at", .str "such", .str "meaning", .str "asmany", .str "one", .str "someof", .str "none", .str "nomore", .str "cover", .str "turned", .str "soif", .str "not", .str "contrary", .str "forany", .str "forsome"])
  c_TWO : Cst K mg "TWO" (.tup [.str "both", .str "then", .str "absurd", .str "put", .str "apart"])
  c_THREE : Cst K mg "THREE" (.tup [.str "two", .str "cases"])
  c_BOXED : Cst K mg "BOXED" (.tup [.str "soif", .str "not", .str "contrary", .str "forany", .str "forsome"])
  c_ROWS : CDict K w mg "ROWS" dROWS rowsT
theorem Top.defs {P : Program} {w : World} {K : PySem.W.Frag} {mg : Str → Option Value} {base : Heap} {dROWS : Addr} (t : Top K mg w dROWS) : Defs P w K mg base := by
  have next := df_next (P := P) (w := w) (base := base) (k := 0) t.bt t.f_l_next
  have deck := df_deck (P := P) (w := w) (base := base) (k := 0) t.bt t.f_l_deck
  have voc := df_voc t.bt t.f_l_vocabulary next
  have total := df_total t.bt t.f_l_total next
  have atom := df_atom t.bt t.f_l_atom (next.mono (show 1 ≤ 2 by decide)) total
  have form := df_form t.bt t.f_l_form (next.mono (show 1 ≤ 3 by decide)) atom
  have swap := df_swap (P := P) (w := w) (base := base) (k := 0) t.bt t.f_l_swap 13
  have put := df_put (P := P) (w := w) (base := base) (k := 0) t.bt t.f_l_put 10
  have texts := df_texts (P := P) (w := w) (base := base) (k := 0) t.bt t.f_l_texts 13
  have deep := df_deep (P := P) (w := w) (base := base) (k := 0) t.bt t.f_l_deep 13
  have letter := df_letter t.bt t.f_l_letter texts
  have new := df_new t.bt t.f_l_new next
  have add := df_add (P := P) (w := w) (base := base) (k := 0) t.bt t.f_l_add
  have at_ := df_at (P := P) (w := w) (base := base) (k := 0) t.bt t.f_l_at
  have find := df_find t.bt t.f_l_find next at_
  have any := df_any (n := 0) t.bt t.f_l_any_form (next.mono (show 1 ≤ 7 by decide)) (form 3)
  have two := df_two (k := 15) t.bt t.f_l_two_step (next.mono (by decide)) (at_.mono (by decide)) (add.mono (by decide)) (deep.mono (by decide)) (texts.mono (by decide)) letter (swap.mono (by decide)) (any.mono (by decide))
  have summed := df_summed (P := P) (w := w) (base := base) (k := 0) t.bt t.f_l_summed
  have least := df_least (k := 2) t.bt t.f_l_least_step (next.mono (by decide)) (at_.mono (by decide)) (add.mono (by decide)) find (summed.mono (by decide))
  have one := df_one (k := 16) t.bt t.f_l_one_step (next.mono (by decide)) (at_.mono (by decide)) (add.mono (by decide)) (find.mono (by decide)) (put.mono (by decide)) (swap.mono (by decide)) (least.mono (by decide)) two
  have box0 := df_box0 (P := P) (w := w) (base := base) (k := 17) t.f_l_box
  have blk0 := df_block (k := 18) t.bt t.f_l_block (next.mono (by decide)) (one.mono (by decide)) box0
  have step : ∀ {m n : Nat}, 19 ≤ n → Df P w K mg base "_law_block" n (spBlk m) → Df P w K mg base "_law_block" (n + 3) (spBlk (m + 1)) := fun {m n} hn b =>
    have ab := df_any_box (k := n) t.bt t.f_l_any_box (next.mono (by omega)) (at_.mono (by omega)) (add.mono (by omega)) (new.mono (by omega)) (deep.mono (by omega)) (letter.mono (by omega)) (swap.mono (by omega)) b
    have cb := df_called_box (k := n) t.bt t.f_l_called_box (next.mono (by omega)) (at_.mono (by omega)) (add.mono (by omega)) (new.mono (by omega)) (deep.mono (by omega)) (letter.mono (by omega)) (swap.mono (by omega)) (find.mono (by omega)) (put.mono (by omega)) (two.mono (by omega)) b
    have bx := df_box (k := n + 1) t.bt t.f_l_box (next.mono (by omega)) (at_.mono (by omega)) (add.mono (by omega)) (find.mono (by omega)) (any.mono (by omega)) (deep.mono (by omega)) (two.mono (by omega)) ab cb (b.mono (by omega))
    df_block (k := n + 2) t.bt t.f_l_block (next.mono (by omega)) (one.mono (by omega)) bx
  have blk4 := step (by decide) (step (by decide) (step (by decide) (step (by decide) blk0)))
  have grown := df_grown (n := 0) (k := 31) t.bt t.f_l_grown (next.mono (by decide)) (add.mono (by decide)) ((form 4).mono (by decide)) blk4
  have lvl := df_level (P := P) (w := w) (base := base) (k := 0) t.bt t.f_level_of
  have opn := df_opener (P := P) (w := w) (base := base) (k := 0) t.bt t.f_is_opener t.c_OPENERS
  have ends := df_ends t.bt t.f_ends_box lvl opn
  have boxof := df_boxof t.bt t.f_box_of ends
  have behind := df_behind (k := 2) t.bt t.f_openers_behind (opn.mono (by decide)) ends
  have atops := df_at_ops t.bt t.f_openers_at behind
  have told := df_told (k := 4) t.bt t.f_told_by (opn.mono (by decide)) (lvl.mono (by decide)) (boxof.mono (by decide)) atops
  have many := df_many (P := P) (w := w) (base := base) (k := 0) t.bt t.f_many_numbers t.c_ONE t.c_TWO t.c_THREE
  have nums := df_nums t.bt t.f_numbers_in t.c_ROWS many
  have boxes := df_boxes (P := P) (w := w) (base := base) (k := 0) t.bt t.f_boxes_in t.c_BOXED
  have needs := df_needs (k := 5) t.bt t.f_needs_of (boxes.mono (by decide)) told (nums.mono (by decide)) (atops.mono (by decide))
  have needed := df_needed t.bt t.f_needed needs
  have lboxes := df_lboxes (P := P) (w := w) (base := base) (k := 0) t.bt t.f_l_boxes
  have last := df_last (P := P) (w := w) (base := base) (k := 0) t.bt t.f_l_last_in
  have leans := df_leans t.bt t.f_l_leans last
  have due := df_due (k := 2) t.bt t.f_l_due leans (lboxes.mono (by decide))
  exact ⟨deck.mono (by decide), next.mono (by decide), voc.mono (by decide), grown.mono (by decide), due.mono (by decide), needed.mono (by decide)⟩
theorem cst_mk {K : PySem.W.Frag} {h : Heap} {mg : Str → Option Value} (X : K.In h) (G : h.Ns mainGlobals mg) {x : Str} {p : Addr} {dd : Option Addr} {its : Array Value} {n : Nat} {sl : Array (Option Value)} {ys : List Str}
    (a : PySem.W.nsIn K mainGlobals x = some (some (.ref p))) (l : K.lookup p = some ⟨.type "tuple", dd, .seq its n, sl⟩) (hz : its.size ≤ 100) (hv : Vals (ys.map V.str) its.toList) : Cst K mg x (.tup (ys.map D.str)) :=
  ⟨.ref p, .ref p, PySem.W.mg_of X G a, rfl, fun H => ⟨p, ys.map V.str, rfl, .inr ⟨_, its, n, l, rfl, rfl, szOk (by omega), hv⟩, RDs.of_map (f := D.str) (g := V.str) (fun _ => rfl) ys⟩⟩
def TblOk (K : PySem.W.Frag) (d : Addr) : List (Str × Option Int) → Prop
  | [] => True
  | (z, none) :: t => PySem.W.nsIn K d z = some none ∧ TblOk K d t
  | (z, some i) :: t => (∃ u, PySem.W.nsIn K d z = some (some (.int i u))) ∧ TblOk K d t
theorem TblOk.at {K : PySem.W.Frag} {d : Addr} : ∀ {tbl : List (Str × Option Int)}, TblOk K d tbl → ∀ z r, tbl.lookup z = some r → ∃ u, PySem.W.nsIn K d z = some u ∧ (r = none → u = none) ∧ ∀ i, r = some i → ∃ t, u = some (.int i t)
  | [], _, _, _, e => by cases e
  | (y, o) :: t, h, z, r, e => by
    rw [List.lookup_cons] at e
    cases c : z == y with
    | true =>
      rw [c] at e
      have ez : z = y := eq_of_beq c
      subst ez
      cases e
      cases o with
      | none => exact ⟨none, h.1, fun _ => rfl, fun i e => by cases e⟩
      | some i =>
        obtain ⟨u, hu⟩ := h.1
        exact ⟨_, hu, (fun e => by cases e), fun j e => by cases e; exact ⟨u, rfl⟩⟩
    | false =>
      rw [c] at e
      cases o with
      | none => exact h.2.at z r e
      | some i => exact h.2.at z r e
theorem cdict_mk {K : PySem.W.Frag} {w : World} {h : Heap} {mg : Str → Option Value} (X : K.In h) (G : h.Ns mainGlobals mg) {x : Str} {d : Addr} {ks : List Str} {tbl : List (Str × Option Int)}
    (a : PySem.W.nsIn K mainGlobals x = some (some (.ref d))) (e : He.dicW K d = some (He.keysIn w.params ks)) (t : TblOk K d tbl) : CDict K w mg x d tbl := by
  obtain ⟨es, n, kd⟩ := He.dicW_ok e
  exact ⟨PySem.W.mg_of X G a, es, n, kd, t.at⟩
/-! ### the call of the law -/
/-- what is seen at the start: the script, if it is not the module's own -/
def eyes (K : PySem.W.Frag) (a : Addr) (o : Obj) (ns : List Int) : Hp := fun b => if b = a ∧ K.lookup a = none then some (.frz o (.lst (ns.map V.int))) else none
theorem eyes_some {K : PySem.W.Frag} {a b : Addr} {o : Obj} {ns : List Int} {u : HO} (h : eyes K a o ns b = some u) : b = a ∧ K.lookup a = none ∧ u = .frz o (.lst (ns.map V.int)) := by
  unfold eyes at h
  split at h
  · rename_i c
    cases h
    exact ⟨c.1, c.2, rfl⟩
  · cases h
theorem called {P : Program} {w : World} {K : PySem.W.Frag} {mg mb : Str → Option Value} {fa a : Addr} {fd : FuncData} {s : Shared} {vs : List Value} {ns : List Int} (KX : K.In s.heap) (hG : s.heap.Ns mainGlobals mg) (hB : s.heap.Ns builtinsNs mb)
    (hbb : ∀ x : Str, x ≠ "__name__" → mb x = bootBuiltins x) (hN : s.heap.NoLimit) (hg : s.gens = #[]) (ha : s.heap.get? a = some { cls := .type "list", data := .seq vs.toArray }) (hi : IntsAre vs ns) (hl : ns.length ≤ 63)
    (F : ∀ base : Heap, FnG P w K mg base 141 fa fd ["_law_script"] (liftSp K spLaw)) (hb : ∀ (s : Shared) (u : Value), BindsTo s fd ⟨[u], []⟩ [("_law_script", u)]) :
    codeAny (model P w) callerA (.call (.ref fa) ⟨[.ref a], []⟩) (fun r s' => r = .ok (.ret (.bool true)) ∧ OldK s.heap s'.heap ∧ s'.os = s.os ∧ AllBare s'.gens) s := by
  have rel := vals_ints hi
  have hlen := hi.length
  let o : Obj := { cls := .type "list", data := .seq vs.toArray }
  let H := eyes K a o ns
  have none_of : ∀ {b : Addr} {ob : Obj} {es : Array DictEntry} {ep : Nat}, s.heap.get? b = some ob → ob.data = .dict es ep → H b = none := by
    intro b ob es ep e d
    cases q : H b with
    | none => rfl
    | some u =>
      obtain ⟨rfl, _, _⟩ := eyes_some q
      rw [ha] at e
      cases e
      exact (nomatch d)
  have ns_of : ∀ {b : Addr} {m : Str → Option Value}, s.heap.Ns b m → (hidT s.heap H).Ns b m := by
    rintro b m ⟨ob, es, ep, e, d, r⟩
    exact ⟨ob, es, ep, hidT_get e (none_of e d), d, r⟩
  have k_of : K.In (hidT s.heap H) := by
    intro b ob e
    refine hidT_get (KX b ob e) ?_
    cases q : H b with
    | none => rfl
    | some u =>
      obtain ⟨rfl, e2, _⟩ := eyes_some q
      rw [e2] at e
      cases e
  have sees : HOk P w H s.heap := by
    intro b u q
    obtain ⟨rfl, _, rfl⟩ := eyes_some q
    exact ⟨ha, by rw [List.length_map]; exact szOk (by omega), vs, _, rel, ha⟩
  have seq : SqR K H a (ns.map V.int) := by
    cases e : K.lookup a with
    | none => exact .inl ⟨o, if_pos ⟨rfl, e⟩⟩
    | some ob =>
      have e2 := KX a ob e
      rw [ha] at e2
      cases e2
      exact .inr ⟨_, vs.toArray, _, e, rfl, rfl, rfl, by rw [List.size_toArray, hlen]; exact szOk (by omega), by simpa using rel⟩
  have wish : liftSp K spLaw [.ref a] H (fun v _ => v = .bl true) fun _ _ _ => False :=
    ⟨[.rol (ns.map D.int)], fun _ => none, fun d _ => d = .bl true, ⟨.ref a, [], rfl, ⟨a, ns.map V.int, rfl, seq, RDs.of_map (f := D.int) (g := V.int) (fun _ => rfl) ns⟩, rfl⟩, (fun b ob e => nomatch e), ⟨ns, rfl, hl, fun _ => rfl⟩,
      fun d S' v H' q _ r _ => by subst q; exact r⟩
  have hM : Mod K mg (hidT s.heap H) := ⟨k_of, ns_of hG, ⟨mb, ns_of hB, hbb⟩, let ⟨mc, h1, h2⟩ := hN; ⟨mc, ns_of h1, h2⟩⟩
  have here : Env0 P w K mg (hidT s.heap H) callerA [] s H := ⟨rfl, hM, fun b ob e => of_hidT e, Nat.le_of_eq (hidT_size _ _), trivial, (fun b z => nomatch (show b ∈ ([] : List Addr) from z)), sees, .of_eq hg⟩
  have run := (F (hidT s.heap H)).run callerA [] s H ⟨[.ref a], []⟩ [.ref a] [.ref a] _ _ rfl ⟨rfl, by decide, by decide⟩ here (hb s (.ref a)) (.cons rfl .nil) wish
  refine codeAny_mono run ?_
  intro r s' z
  cases r with
  | error e => exact z.elim
  | ok fl =>
    cases fl with
    | next => exact z.elim
    | brk => exact z.elim
    | cont => exact z.elim
    | ret u =>
      obtain ⟨v, H', os, bare, un, ok2, rv, ev⟩ := z
      cases (show v = .bl true from ev)
      cases (show u = Value.bool true from rv)
      refine ⟨rfl, OldK.of_keep (fun b ob e => ?_), os, bare⟩
      cases q : H b with
      | none => exact un.keep b ob e q (fun z => nomatch (show b ∈ ([] : List Addr) from z)) (by simp)
      | some u =>
        obtain ⟨rfl, _, rfl⟩ := eyes_some q
        obtain ⟨e3, _⟩ := ok2 _ _ (un.frzs _ _ _ q)
        rw [ha] at e
        cases e
        exact e3
theorem all_mk {l : PySem.W.OpenLaw} {w : World} {K : PySem.W.Frag} {h : Heap} {mg : Str → Option Value} {fa f1 f2 f3 f4 f5 f6 f7 f8 f9 f10 f11 f12 f13 f14 f15 f16 f17 f18 f19 f20 f21 f22 f23 f24 f25 f26 f27 f28 f29 f30 f31 f32 f33 f34 f35 f36 f37 f38 f39 f40 f41 f42 : Addr} (X : K.In h) (G : h.Ns mainGlobals mg) (hfa : mg "law" = some (.ref fa))
    {od1 an1 od2 an2 od3 an3 od4 an4 od5 an5 od6 an6 od7 an7 od8 an8 od9 an9 od10 an10 od11 an11 od12 an12 od13 an13 od14 an14 od15 an15 od16 an16 od17 an17 od18 an18 od19 an19 od20 an20 od21 an21 od22 an22 od23 an23 od24 an24 od25 an25 od26 an26 od27 an27 od28 an28 od29 an29 od30 an30 od31 an31 od32 an32 od33 an33 od34 an34 od35 an35 od36 an36 od37 an37 od38 an38 od39 an39 od40 an40 od41 an41 od42 an42 : Option Addr} {sl1 sl2 sl3 sl4 sl5 sl6 sl7 sl8 sl9 sl10 sl11 sl12 sl13 sl14 sl15 sl16 sl17 sl18 sl19 sl20 sl21 sl22 sl23 sl24 sl25 sl26 sl27 sl28 sl29 sl30 sl31 sl32 sl33 sl34 sl35 sl36 sl37 sl38 sl39 sl40 sl41 sl42 : Array (Option Value)} {oc1 kV1 dc1 pm1 cd1 ct1 oc2 kV2 dc2 pm2 cd2 ct2 oc3 kV3 dc3 pm3 cd3 ct3 oc4 kV4 dc4 pm4 cd4 ct4 oc5 kV5 dc5 pm5 cd5 ct5 oc6 kV6 dc6 pm6 cd6 ct6 oc7 kV7 dc7 pm7 cd7 ct7 oc8 kV8 dc8 pm8 cd8 ct8 oc9 kV9 dc9 pm9 cd9 ct9 oc10 kV10 dc10 pm10 cd10 ct10 oc11 kV11 dc11 pm11 cd11 ct11 oc12 kV12 dc12 pm12 cd12 ct12 oc13 kV13 dc13 pm13 cd13 ct13 oc14 kV14 dc14 pm14 cd14 ct14 oc15 kV15 dc15 pm15 cd15 ct15 oc16 kV16 dc16 pm16 cd16 ct16 oc17 kV17 dc17 pm17 cd17 ct17 oc18 kV18 dc18 pm18 cd18 ct18 oc19 kV19 dc19 pm19 cd19 ct19 oc20 kV20 dc20 pm20 cd20 ct20 oc21 kV21 dc21 pm21 cd21 ct21 oc22 kV22 dc22 pm22 cd22 ct22 oc23 kV23 dc23 pm23 cd23 ct23 oc24 kV24 dc24 pm24 cd24 ct24 oc25 kV25 dc25 pm25 cd25 ct25 oc26 kV26 dc26 pm26 cd26 ct26 oc27 kV27 dc27 pm27 cd27 ct27 oc28 kV28 dc28 pm28 cd28 ct28 oc29 kV29 dc29 pm29 cd29 ct29 oc30 kV30 dc30 pm30 cd30 ct30 oc31 kV31 dc31 pm31 cd31 ct31 oc32 kV32 dc32 pm32 cd32 ct32 oc33 kV33 dc33 pm33 cd33 ct33 oc34 kV34 dc34 pm34 cd34 ct34 oc35 kV35 dc35 pm35 cd35 ct35 oc36 kV36 dc36 pm36 cd36 ct36 oc37 kV37 dc37 pm37 cd37 ct37 oc38 kV38 dc38 pm38 cd38 ct38 oc39 kV39 dc39 pm39 cd39 ct39 oc40 kV40 dc40 pm40 cd40 ct40 oc41 kV41 dc41 pm41 cd41 ct41 oc42 kV42 dc42 pm42 cd42 ct42 : Value}
    (a1 : PySem.W.nsIn K mainGlobals "level_of" = some (some (.ref f1))) (l1 : K.lookup f1 = some ⟨oc1, od1, .func (PySem.W.fnOf "level_of" "level_of" (defArgs s_level_of) (defBody s_level_of) (defScope s_level_of) .none kV1 dc1 pm1 an1 cd1 ct1), sl1⟩) (c1 : PySem.W.codeIn K cd1 "level_of" = true) (k1 : PySem.W.keepIn K (.ref f1) = true)
    (a2 : PySem.W.nsIn K mainGlobals "is_opener" = some (some (.ref f2))) (l2 : K.lookup f2 = some ⟨oc2, od2, .func (PySem.W.fnOf "is_opener" "is_opener" (defArgs s_is_opener) (defBody s_is_opener) (defScope s_is_opener) .none kV2 dc2 pm2 an2 cd2 ct2), sl2⟩) (c2 : PySem.W.codeIn K cd2 "is_opener" = true) (k2 : PySem.W.keepIn K (.ref f2) = true)
    (a3 : PySem.W.nsIn K mainGlobals "ends_box" = some (some (.ref f3))) (l3 : K.lookup f3 = some ⟨oc3, od3, .func (PySem.W.fnOf "ends_box" "ends_box" (defArgs s_ends_box) (defBody s_ends_box) (defScope s_ends_box) .none kV3 dc3 pm3 an3 cd3 ct3), sl3⟩) (c3 : PySem.W.codeIn K cd3 "ends_box" = true) (k3 : PySem.W.keepIn K (.ref f3) = true)
    (a4 : PySem.W.nsIn K mainGlobals "box_of" = some (some (.ref f4))) (l4 : K.lookup f4 = some ⟨oc4, od4, .func (PySem.W.fnOf "box_of" "box_of" (defArgs s_box_of) (defBody s_box_of) (defScope s_box_of) .none kV4 dc4 pm4 an4 cd4 ct4), sl4⟩) (c4 : PySem.W.codeIn K cd4 "box_of" = true) (k4 : PySem.W.keepIn K (.ref f4) = true)
    (a5 : PySem.W.nsIn K mainGlobals "openers_behind" = some (some (.ref f5))) (l5 : K.lookup f5 = some ⟨oc5, od5, .func (PySem.W.fnOf "openers_behind" "openers_behind" (defArgs s_openers_behind) (defBody s_openers_behind) (defScope s_openers_behind) .none kV5 dc5 pm5 an5 cd5 ct5), sl5⟩) (c5 : PySem.W.codeIn K cd5 "openers_behind" = true) (k5 : PySem.W.keepIn K (.ref f5) = true)
    (a6 : PySem.W.nsIn K mainGlobals "openers_at" = some (some (.ref f6))) (l6 : K.lookup f6 = some ⟨oc6, od6, .func (PySem.W.fnOf "openers_at" "openers_at" (defArgs s_openers_at) (defBody s_openers_at) (defScope s_openers_at) .none kV6 dc6 pm6 an6 cd6 ct6), sl6⟩) (c6 : PySem.W.codeIn K cd6 "openers_at" = true) (k6 : PySem.W.keepIn K (.ref f6) = true)
    (a7 : PySem.W.nsIn K mainGlobals "told_by" = some (some (.ref f7))) (l7 : K.lookup f7 = some ⟨oc7, od7, .func (PySem.W.fnOf "told_by" "told_by" (defArgs s_told_by) (defBody s_told_by) (defScope s_told_by) .none kV7 dc7 pm7 an7 cd7 ct7), sl7⟩) (c7 : PySem.W.codeIn K cd7 "told_by" = true) (k7 : PySem.W.keepIn K (.ref f7) = true)
    (a8 : PySem.W.nsIn K mainGlobals "many_numbers" = some (some (.ref f8))) (l8 : K.lookup f8 = some ⟨oc8, od8, .func (PySem.W.fnOf "many_numbers" "many_numbers" (defArgs s_many_numbers) (defBody s_many_numbers) (defScope s_many_numbers) .none kV8 dc8 pm8 an8 cd8 ct8), sl8⟩) (c8 : PySem.W.codeIn K cd8 "many_numbers" = true) (k8 : PySem.W.keepIn K (.ref f8) = true)
    (a9 : PySem.W.nsIn K mainGlobals "numbers_in" = some (some (.ref f9))) (l9 : K.lookup f9 = some ⟨oc9, od9, .func (PySem.W.fnOf "numbers_in" "numbers_in" (defArgs s_numbers_in) (defBody s_numbers_in) (defScope s_numbers_in) .none kV9 dc9 pm9 an9 cd9 ct9), sl9⟩) (c9 : PySem.W.codeIn K cd9 "numbers_in" = true) (k9 : PySem.W.keepIn K (.ref f9) = true)
    (a10 : PySem.W.nsIn K mainGlobals "boxes_in" = some (some (.ref f10))) (l10 : K.lookup f10 = some ⟨oc10, od10, .func (PySem.W.fnOf "boxes_in" "boxes_in" (defArgs s_boxes_in) (defBody s_boxes_in) (defScope s_boxes_in) .none kV10 dc10 pm10 an10 cd10 ct10), sl10⟩) (c10 : PySem.W.codeIn K cd10 "boxes_in" = true) (k10 : PySem.W.keepIn K (.ref f10) = true)
    (a11 : PySem.W.nsIn K mainGlobals "needs_of" = some (some (.ref f11))) (l11 : K.lookup f11 = some ⟨oc11, od11, .func (PySem.W.fnOf "needs_of" "needs_of" (defArgs s_needs_of) (defBody s_needs_of) (defScope s_needs_of) .none kV11 dc11 pm11 an11 cd11 ct11), sl11⟩) (c11 : PySem.W.codeIn K cd11 "needs_of" = true) (k11 : PySem.W.keepIn K (.ref f11) = true)
    (a12 : PySem.W.nsIn K mainGlobals "needed" = some (some (.ref f12))) (l12 : K.lookup f12 = some ⟨oc12, od12, .func (PySem.W.fnOf "needed" "needed" (defArgs s_needed) (defBody s_needed) (defScope s_needed) .none kV12 dc12 pm12 an12 cd12 ct12), sl12⟩) (c12 : PySem.W.codeIn K cd12 "needed" = true) (k12 : PySem.W.keepIn K (.ref f12) = true)
    (a13 : PySem.W.nsIn K mainGlobals "_law_deck" = some (some (.ref f13))) (l13 : K.lookup f13 = some ⟨oc13, od13, .func (PySem.W.fnOf "_law_deck" "_law_deck" (defArgs s_l_deck) (defBody s_l_deck) (defScope s_l_deck) .none kV13 dc13 pm13 an13 cd13 ct13), sl13⟩) (c13 : PySem.W.codeIn K cd13 "_law_deck" = true) (k13 : PySem.W.keepIn K (.ref f13) = true)
    (a14 : PySem.W.nsIn K mainGlobals "_law_next" = some (some (.ref f14))) (l14 : K.lookup f14 = some ⟨oc14, od14, .func (PySem.W.fnOf "_law_next" "_law_next" (defArgs s_l_next) (defBody s_l_next) (defScope s_l_next) .none kV14 dc14 pm14 an14 cd14 ct14), sl14⟩) (c14 : PySem.W.codeIn K cd14 "_law_next" = true) (k14 : PySem.W.keepIn K (.ref f14) = true)
    (a15 : PySem.W.nsIn K mainGlobals "_law_vocabulary" = some (some (.ref f15))) (l15 : K.lookup f15 = some ⟨oc15, od15, .func (PySem.W.fnOf "_law_vocabulary" "_law_vocabulary" (defArgs s_l_vocabulary) (defBody s_l_vocabulary) (defScope s_l_vocabulary) .none kV15 dc15 pm15 an15 cd15 ct15), sl15⟩) (c15 : PySem.W.codeIn K cd15 "_law_vocabulary" = true) (k15 : PySem.W.keepIn K (.ref f15) = true)
    (a16 : PySem.W.nsIn K mainGlobals "_law_total" = some (some (.ref f16))) (l16 : K.lookup f16 = some ⟨oc16, od16, .func (PySem.W.fnOf "_law_total" "_law_total" (defArgs s_l_total) (defBody s_l_total) (defScope s_l_total) .none kV16 dc16 pm16 an16 cd16 ct16), sl16⟩) (c16 : PySem.W.codeIn K cd16 "_law_total" = true) (k16 : PySem.W.keepIn K (.ref f16) = true)
    (a17 : PySem.W.nsIn K mainGlobals "_law_atom" = some (some (.ref f17))) (l17 : K.lookup f17 = some ⟨oc17, od17, .func (PySem.W.fnOf "_law_atom" "_law_atom" (defArgs s_l_atom) (defBody s_l_atom) (defScope s_l_atom) .none kV17 dc17 pm17 an17 cd17 ct17), sl17⟩) (c17 : PySem.W.codeIn K cd17 "_law_atom" = true) (k17 : PySem.W.keepIn K (.ref f17) = true)
    (a18 : PySem.W.nsIn K mainGlobals "_law_form" = some (some (.ref f18))) (l18 : K.lookup f18 = some ⟨oc18, od18, .func (PySem.W.fnOf "_law_form" "_law_form" (defArgs s_l_form) (defBody s_l_form) (defScope s_l_form) .none kV18 dc18 pm18 an18 cd18 ct18), sl18⟩) (c18 : PySem.W.codeIn K cd18 "_law_form" = true) (k18 : PySem.W.keepIn K (.ref f18) = true)
    (a19 : PySem.W.nsIn K mainGlobals "_law_swap" = some (some (.ref f19))) (l19 : K.lookup f19 = some ⟨oc19, od19, .func (PySem.W.fnOf "_law_swap" "_law_swap" (defArgs s_l_swap) (defBody s_l_swap) (defScope s_l_swap) .none kV19 dc19 pm19 an19 cd19 ct19), sl19⟩) (c19 : PySem.W.codeIn K cd19 "_law_swap" = true) (k19 : PySem.W.keepIn K (.ref f19) = true)
    (a20 : PySem.W.nsIn K mainGlobals "_law_put" = some (some (.ref f20))) (l20 : K.lookup f20 = some ⟨oc20, od20, .func (PySem.W.fnOf "_law_put" "_law_put" (defArgs s_l_put) (defBody s_l_put) (defScope s_l_put) .none kV20 dc20 pm20 an20 cd20 ct20), sl20⟩) (c20 : PySem.W.codeIn K cd20 "_law_put" = true) (k20 : PySem.W.keepIn K (.ref f20) = true)
    (a21 : PySem.W.nsIn K mainGlobals "_law_texts" = some (some (.ref f21))) (l21 : K.lookup f21 = some ⟨oc21, od21, .func (PySem.W.fnOf "_law_texts" "_law_texts" (defArgs s_l_texts) (defBody s_l_texts) (defScope s_l_texts) .none kV21 dc21 pm21 an21 cd21 ct21), sl21⟩) (c21 : PySem.W.codeIn K cd21 "_law_texts" = true) (k21 : PySem.W.keepIn K (.ref f21) = true)
    (a22 : PySem.W.nsIn K mainGlobals "_law_deep" = some (some (.ref f22))) (l22 : K.lookup f22 = some ⟨oc22, od22, .func (PySem.W.fnOf "_law_deep" "_law_deep" (defArgs s_l_deep) (defBody s_l_deep) (defScope s_l_deep) .none kV22 dc22 pm22 an22 cd22 ct22), sl22⟩) (c22 : PySem.W.codeIn K cd22 "_law_deep" = true) (k22 : PySem.W.keepIn K (.ref f22) = true)
    (a23 : PySem.W.nsIn K mainGlobals "_law_letter" = some (some (.ref f23))) (l23 : K.lookup f23 = some ⟨oc23, od23, .func (PySem.W.fnOf "_law_letter" "_law_letter" (defArgs s_l_letter) (defBody s_l_letter) (defScope s_l_letter) .none kV23 dc23 pm23 an23 cd23 ct23), sl23⟩) (c23 : PySem.W.codeIn K cd23 "_law_letter" = true) (k23 : PySem.W.keepIn K (.ref f23) = true)
    (a24 : PySem.W.nsIn K mainGlobals "_law_new" = some (some (.ref f24))) (l24 : K.lookup f24 = some ⟨oc24, od24, .func (PySem.W.fnOf "_law_new" "_law_new" (defArgs s_l_new) (defBody s_l_new) (defScope s_l_new) .none kV24 dc24 pm24 an24 cd24 ct24), sl24⟩) (c24 : PySem.W.codeIn K cd24 "_law_new" = true) (k24 : PySem.W.keepIn K (.ref f24) = true)
    (a25 : PySem.W.nsIn K mainGlobals "_law_add" = some (some (.ref f25))) (l25 : K.lookup f25 = some ⟨oc25, od25, .func (PySem.W.fnOf "_law_add" "_law_add" (defArgs s_l_add) (defBody s_l_add) (defScope s_l_add) .none kV25 dc25 pm25 an25 cd25 ct25), sl25⟩) (c25 : PySem.W.codeIn K cd25 "_law_add" = true) (k25 : PySem.W.keepIn K (.ref f25) = true)
    (a26 : PySem.W.nsIn K mainGlobals "_law_at" = some (some (.ref f26))) (l26 : K.lookup f26 = some ⟨oc26, od26, .func (PySem.W.fnOf "_law_at" "_law_at" (defArgs s_l_at) (defBody s_l_at) (defScope s_l_at) .none kV26 dc26 pm26 an26 cd26 ct26), sl26⟩) (c26 : PySem.W.codeIn K cd26 "_law_at" = true) (k26 : PySem.W.keepIn K (.ref f26) = true)
    (a27 : PySem.W.nsIn K mainGlobals "_law_find" = some (some (.ref f27))) (l27 : K.lookup f27 = some ⟨oc27, od27, .func (PySem.W.fnOf "_law_find" "_law_find" (defArgs s_l_find) (defBody s_l_find) (defScope s_l_find) .none kV27 dc27 pm27 an27 cd27 ct27), sl27⟩) (c27 : PySem.W.codeIn K cd27 "_law_find" = true) (k27 : PySem.W.keepIn K (.ref f27) = true)
    (a28 : PySem.W.nsIn K mainGlobals "_law_any_form" = some (some (.ref f28))) (l28 : K.lookup f28 = some ⟨oc28, od28, .func (PySem.W.fnOf "_law_any_form" "_law_any_form" (defArgs s_l_any_form) (defBody s_l_any_form) (defScope s_l_any_form) .none kV28 dc28 pm28 an28 cd28 ct28), sl28⟩) (c28 : PySem.W.codeIn K cd28 "_law_any_form" = true) (k28 : PySem.W.keepIn K (.ref f28) = true)
    (a29 : PySem.W.nsIn K mainGlobals "_law_one_step" = some (some (.ref f29))) (l29 : K.lookup f29 = some ⟨oc29, od29, .func (PySem.W.fnOf "_law_one_step" "_law_one_step" (defArgs s_l_one_step) (defBody s_l_one_step) (defScope s_l_one_step) .none kV29 dc29 pm29 an29 cd29 ct29), sl29⟩) (c29 : PySem.W.codeIn K cd29 "_law_one_step" = true) (k29 : PySem.W.keepIn K (.ref f29) = true)
    (a30 : PySem.W.nsIn K mainGlobals "_law_summed" = some (some (.ref f30))) (l30 : K.lookup f30 = some ⟨oc30, od30, .func (PySem.W.fnOf "_law_summed" "_law_summed" (defArgs s_l_summed) (defBody s_l_summed) (defScope s_l_summed) .none kV30 dc30 pm30 an30 cd30 ct30), sl30⟩) (c30 : PySem.W.codeIn K cd30 "_law_summed" = true) (k30 : PySem.W.keepIn K (.ref f30) = true)
    (a31 : PySem.W.nsIn K mainGlobals "_law_least_step" = some (some (.ref f31))) (l31 : K.lookup f31 = some ⟨oc31, od31, .func (PySem.W.fnOf "_law_least_step" "_law_least_step" (defArgs s_l_least_step) (defBody s_l_least_step) (defScope s_l_least_step) .none kV31 dc31 pm31 an31 cd31 ct31), sl31⟩) (c31 : PySem.W.codeIn K cd31 "_law_least_step" = true) (k31 : PySem.W.keepIn K (.ref f31) = true)
    (a32 : PySem.W.nsIn K mainGlobals "_law_two_step" = some (some (.ref f32))) (l32 : K.lookup f32 = some ⟨oc32, od32, .func (PySem.W.fnOf "_law_two_step" "_law_two_step" (defArgs s_l_two_step) (defBody s_l_two_step) (defScope s_l_two_step) .none kV32 dc32 pm32 an32 cd32 ct32), sl32⟩) (c32 : PySem.W.codeIn K cd32 "_law_two_step" = true) (k32 : PySem.W.keepIn K (.ref f32) = true)
    (a33 : PySem.W.nsIn K mainGlobals "_law_box" = some (some (.ref f33))) (l33 : K.lookup f33 = some ⟨oc33, od33, .func (PySem.W.fnOf "_law_box" "_law_box" (defArgs s_l_box) (defBody s_l_box) (defScope s_l_box) .none kV33 dc33 pm33 an33 cd33 ct33), sl33⟩) (c33 : PySem.W.codeIn K cd33 "_law_box" = true) (k33 : PySem.W.keepIn K (.ref f33) = true)
    (a34 : PySem.W.nsIn K mainGlobals "_law_any_box" = some (some (.ref f34))) (l34 : K.lookup f34 = some ⟨oc34, od34, .func (PySem.W.fnOf "_law_any_box" "_law_any_box" (defArgs s_l_any_box) (defBody s_l_any_box) (defScope s_l_any_box) .none kV34 dc34 pm34 an34 cd34 ct34), sl34⟩) (c34 : PySem.W.codeIn K cd34 "_law_any_box" = true) (k34 : PySem.W.keepIn K (.ref f34) = true)
    (a35 : PySem.W.nsIn K mainGlobals "_law_called_box" = some (some (.ref f35))) (l35 : K.lookup f35 = some ⟨oc35, od35, .func (PySem.W.fnOf "_law_called_box" "_law_called_box" (defArgs s_l_called_box) (defBody s_l_called_box) (defScope s_l_called_box) .none kV35 dc35 pm35 an35 cd35 ct35), sl35⟩) (c35 : PySem.W.codeIn K cd35 "_law_called_box" = true) (k35 : PySem.W.keepIn K (.ref f35) = true)
    (a36 : PySem.W.nsIn K mainGlobals "_law_block" = some (some (.ref f36))) (l36 : K.lookup f36 = some ⟨oc36, od36, .func (PySem.W.fnOf "_law_block" "_law_block" (defArgs s_l_block) (defBody s_l_block) (defScope s_l_block) .none kV36 dc36 pm36 an36 cd36 ct36), sl36⟩) (c36 : PySem.W.codeIn K cd36 "_law_block" = true) (k36 : PySem.W.keepIn K (.ref f36) = true)
    (a37 : PySem.W.nsIn K mainGlobals "_law_grown" = some (some (.ref f37))) (l37 : K.lookup f37 = some ⟨oc37, od37, .func (PySem.W.fnOf "_law_grown" "_law_grown" (defArgs s_l_grown) (defBody s_l_grown) (defScope s_l_grown) .none kV37 dc37 pm37 an37 cd37 ct37), sl37⟩) (c37 : PySem.W.codeIn K cd37 "_law_grown" = true) (k37 : PySem.W.keepIn K (.ref f37) = true)
    (a38 : PySem.W.nsIn K mainGlobals "_law_boxes" = some (some (.ref f38))) (l38 : K.lookup f38 = some ⟨oc38, od38, .func (PySem.W.fnOf "_law_boxes" "_law_boxes" (defArgs s_l_boxes) (defBody s_l_boxes) (defScope s_l_boxes) .none kV38 dc38 pm38 an38 cd38 ct38), sl38⟩) (c38 : PySem.W.codeIn K cd38 "_law_boxes" = true) (k38 : PySem.W.keepIn K (.ref f38) = true)
    (a39 : PySem.W.nsIn K mainGlobals "_law_last_in" = some (some (.ref f39))) (l39 : K.lookup f39 = some ⟨oc39, od39, .func (PySem.W.fnOf "_law_last_in" "_law_last_in" (defArgs s_l_last_in) (defBody s_l_last_in) (defScope s_l_last_in) .none kV39 dc39 pm39 an39 cd39 ct39), sl39⟩) (c39 : PySem.W.codeIn K cd39 "_law_last_in" = true) (k39 : PySem.W.keepIn K (.ref f39) = true)
    (a40 : PySem.W.nsIn K mainGlobals "_law_leans" = some (some (.ref f40))) (l40 : K.lookup f40 = some ⟨oc40, od40, .func (PySem.W.fnOf "_law_leans" "_law_leans" (defArgs s_l_leans) (defBody s_l_leans) (defScope s_l_leans) .none kV40 dc40 pm40 an40 cd40 ct40), sl40⟩) (c40 : PySem.W.codeIn K cd40 "_law_leans" = true) (k40 : PySem.W.keepIn K (.ref f40) = true)
    (a41 : PySem.W.nsIn K mainGlobals "_law_due" = some (some (.ref f41))) (l41 : K.lookup f41 = some ⟨oc41, od41, .func (PySem.W.fnOf "_law_due" "_law_due" (defArgs s_l_due) (defBody s_l_due) (defScope s_l_due) .none kV41 dc41 pm41 an41 cd41 ct41), sl41⟩) (c41 : PySem.W.codeIn K cd41 "_law_due" = true) (k41 : PySem.W.keepIn K (.ref f41) = true)
    (a42 : PySem.W.nsIn K mainGlobals "law" = some (some (.ref f42))) (l42 : K.lookup f42 = some ⟨oc42, od42, .func (PySem.W.fnOf "law" "law" (defArgs s_law) (defBody s_law) (defScope s_law) .none kV42 dc42 pm42 an42 cd42 ct42), sl42⟩) (c42 : PySem.W.codeIn K cd42 "law" = true) (k42 : PySem.W.keepIn K (.ref f42) = true)
    {p1 : Addr} {dd1 : Option Addr} {n1 : Nat} {sc1 : Array (Option Value)} {t1_0 t1_1 t1_2 : Nat}
    (ac1 : PySem.W.nsIn K mainGlobals "OPENERS" = some (some (.ref p1))) (lc1 : K.lookup p1 = some ⟨.type "tuple", dd1, .seq #[.str "supposed" t1_0, .str "any" t1_1, .str "called" t1_2] n1, sc1⟩)
    {p2 : Addr} {dd2 : Option Addr} {n2 : Nat} {sc2 : Array (Option Value)} {t2_0 t2_1 t2_2 t2_3 t2_4 t2_5 t2_6 t2_7 t2_8 t2_9 t2_10 t2_11 t2_12 t2_13 t2_14 t2_15 t2_16 t2_17 t2_18 t2_19 t2_20 : Nat}
    (ac2 : PySem.W.nsIn K mainGlobals "ONE" = some (some (.ref p2))) (lc2 : K.lookup p2 = some ⟨.type "tuple", dd2, .seq #[.str "again" t2_0, .str "left" t2_1, .str "right" t2_2, .str "orleft" t2_3, .str "orright" t2_4, .str "nothing" t2_5, .str "at" t2_6, .str "such" t2_7, .str "meaning" t2_8, .str "asmany" t2_9, .str "one" t2_10, .str "someof" t2_11, .str "none" t2_12, .str "nomore" t2_13, .str "cover" t2_14, .str "turned" t2_15, .str "soif" t2_16, .str "not" t2_17, .str "contrary" t2_18, .str "forany" t2_19, .str "forsome" t2_20] n2, sc2⟩)
    {p3 : Addr} {dd3 : Option Addr} {n3 : Nat} {sc3 : Array (Option Value)} {t3_0 t3_1 t3_2 t3_3 t3_4 : Nat}
    (ac3 : PySem.W.nsIn K mainGlobals "TWO" = some (some (.ref p3))) (lc3 : K.lookup p3 = some ⟨.type "tuple", dd3, .seq #[.str "both" t3_0, .str "then" t3_1, .str "absurd" t3_2, .str "put" t3_3, .str "apart" t3_4] n3, sc3⟩)
    {p4 : Addr} {dd4 : Option Addr} {n4 : Nat} {sc4 : Array (Option Value)} {t4_0 t4_1 : Nat}
    (ac4 : PySem.W.nsIn K mainGlobals "THREE" = some (some (.ref p4))) (lc4 : K.lookup p4 = some ⟨.type "tuple", dd4, .seq #[.str "two" t4_0, .str "cases" t4_1] n4, sc4⟩)
    {p5 : Addr} {dd5 : Option Addr} {n5 : Nat} {sc5 : Array (Option Value)} {t5_0 t5_1 t5_2 t5_3 t5_4 : Nat}
    (ac5 : PySem.W.nsIn K mainGlobals "BOXED" = some (some (.ref p5))) (lc5 : K.lookup p5 = some ⟨.type "tuple", dd5, .seq #[.str "soif" t5_0, .str "not" t5_1, .str "contrary" t5_2, .str "forany" t5_3, .str "forsome" t5_4] n5, sc5⟩)
    {dROWS : Addr} {uROWS_24 : Tok}
    (ad_ROWS : PySem.W.nsIn K mainGlobals "ROWS" = some (some (.ref dROWS))) (dd_ROWS : He.dicW K dROWS = some (He.keysIn w.params ["by", "sums", "earlier"]))
    (w_ROWS_0 : PySem.W.nsIn K dROWS "given" = some none)
    (w_ROWS_1 : PySem.W.nsIn K dROWS "supposed" = some none)
    (w_ROWS_2 : PySem.W.nsIn K dROWS "itself" = some none)
    (w_ROWS_3 : PySem.W.nsIn K dROWS "left" = some none)
    (w_ROWS_4 : PySem.W.nsIn K dROWS "right" = some none)
    (w_ROWS_5 : PySem.W.nsIn K dROWS "one" = some none)
    (w_ROWS_6 : PySem.W.nsIn K dROWS "turned" = some none)
    (w_ROWS_7 : PySem.W.nsIn K dROWS "again" = some none)
    (w_ROWS_8 : PySem.W.nsIn K dROWS "orleft" = some none)
    (w_ROWS_9 : PySem.W.nsIn K dROWS "orright" = some none)
    (w_ROWS_10 : PySem.W.nsIn K dROWS "then" = some none)
    (w_ROWS_11 : PySem.W.nsIn K dROWS "put" = some none)
    (w_ROWS_12 : PySem.W.nsIn K dROWS "both" = some none)
    (w_ROWS_13 : PySem.W.nsIn K dROWS "absurd" = some none)
    (w_ROWS_14 : PySem.W.nsIn K dROWS "at" = some none)
    (w_ROWS_15 : PySem.W.nsIn K dROWS "such" = some none)
    (w_ROWS_16 : PySem.W.nsIn K dROWS "soif" = some none)
    (w_ROWS_17 : PySem.W.nsIn K dROWS "not" = some none)
    (w_ROWS_18 : PySem.W.nsIn K dROWS "contrary" = some none)
    (w_ROWS_19 : PySem.W.nsIn K dROWS "forany" = some none)
    (w_ROWS_20 : PySem.W.nsIn K dROWS "forsome" = some none)
    (w_ROWS_21 : PySem.W.nsIn K dROWS "any" = some none)
    (w_ROWS_22 : PySem.W.nsIn K dROWS "called" = some none)
    (w_ROWS_23 : PySem.W.nsIn K dROWS "cases" = some none)
    (w_ROWS_24 : PySem.W.nsIn K dROWS "sums" = some (some (.int 1 uROWS_24)))
    (z_len : PySem.W.nsIn K mainGlobals "len" = some none)
    (z_sum : PySem.W.nsIn K mainGlobals "sum" = some none)
    (z_list : PySem.W.nsIn K mainGlobals "list" = some none)
    (z_tuple : PySem.W.nsIn K mainGlobals "tuple" = some none)
    (z_range : PySem.W.nsIn K mainGlobals "range" = some none)
    (z_sorted : PySem.W.nsIn K mainGlobals "sorted" = some none)
    (z_max : PySem.W.nsIn K mainGlobals "max" = some none)
    (z_int : PySem.W.nsIn K mainGlobals "int" = some none)
    (z_isinstance : PySem.W.nsIn K mainGlobals "isinstance" = some none)
    (z_repr : PySem.W.nsIn K mainGlobals "repr" = some none)
    (z_all : PySem.W.nsIn K mainGlobals "all" = some none)
    (z_set : PySem.W.nsIn K mainGlobals "set" = some none)
    (z_zip : PySem.W.nsIn K mainGlobals "zip" = some none)
    (z_enumerate : PySem.W.nsIn K mainGlobals "enumerate" = some none)
    : ∃ fd : FuncData, (∀ (s : Shared) (v : Value), BindsTo s fd ⟨[v], []⟩ [("_law_script", v)]) ∧ ∀ base : Heap, FnG l.prog w K mg base 141 fa fd ["_law_script"] (liftSp K spLaw) := by
  have e := hfa.symm.trans (PySem.W.mg_of X G a42)
  cases e
  have none : ∀ {x : Str}, PySem.W.nsIn K mainGlobals x = some none → mg x = none := fun z => PySem.W.mg_none_of X G z
  have t : Top K mg w dROWS := ⟨⟨none z_len, none z_sum, none z_list, none z_tuple, none z_range, none z_sorted, none z_max, none z_int, none z_isinstance, none z_repr, none z_all, none z_set, none z_zip, none z_enumerate⟩,
    ⟨_, _, fun_mk (st := s_level_of) l1 c1 k1, PySem.W.mg_of X G a1⟩,
    ⟨_, _, fun_mk (st := s_is_opener) l2 c2 k2, PySem.W.mg_of X G a2⟩,
    ⟨_, _, fun_mk (st := s_ends_box) l3 c3 k3, PySem.W.mg_of X G a3⟩,
    ⟨_, _, fun_mk (st := s_box_of) l4 c4 k4, PySem.W.mg_of X G a4⟩,
    ⟨_, _, fun_mk (st := s_openers_behind) l5 c5 k5, PySem.W.mg_of X G a5⟩,
    ⟨_, _, fun_mk (st := s_openers_at) l6 c6 k6, PySem.W.mg_of X G a6⟩,
    ⟨_, _, fun_mk (st := s_told_by) l7 c7 k7, PySem.W.mg_of X G a7⟩,
    ⟨_, _, fun_mk (st := s_many_numbers) l8 c8 k8, PySem.W.mg_of X G a8⟩,
    ⟨_, _, fun_mk (st := s_numbers_in) l9 c9 k9, PySem.W.mg_of X G a9⟩,
    ⟨_, _, fun_mk (st := s_boxes_in) l10 c10 k10, PySem.W.mg_of X G a10⟩,
    ⟨_, _, fun_mk (st := s_needs_of) l11 c11 k11, PySem.W.mg_of X G a11⟩,
    ⟨_, _, fun_mk (st := s_needed) l12 c12 k12, PySem.W.mg_of X G a12⟩,
    ⟨_, _, fun_mk (st := s_l_deck) l13 c13 k13, PySem.W.mg_of X G a13⟩,
    ⟨_, _, fun_mk (st := s_l_next) l14 c14 k14, PySem.W.mg_of X G a14⟩,
    ⟨_, _, fun_mk (st := s_l_vocabulary) l15 c15 k15, PySem.W.mg_of X G a15⟩,
    ⟨_, _, fun_mk (st := s_l_total) l16 c16 k16, PySem.W.mg_of X G a16⟩,
    ⟨_, _, fun_mk (st := s_l_atom) l17 c17 k17, PySem.W.mg_of X G a17⟩,
    ⟨_, _, fun_mk (st := s_l_form) l18 c18 k18, PySem.W.mg_of X G a18⟩,
    ⟨_, _, fun_mk (st := s_l_swap) l19 c19 k19, PySem.W.mg_of X G a19⟩,
    ⟨_, _, fun_mk (st := s_l_put) l20 c20 k20, PySem.W.mg_of X G a20⟩,
    ⟨_, _, fun_mk (st := s_l_texts) l21 c21 k21, PySem.W.mg_of X G a21⟩,
    ⟨_, _, fun_mk (st := s_l_deep) l22 c22 k22, PySem.W.mg_of X G a22⟩,
    ⟨_, _, fun_mk (st := s_l_letter) l23 c23 k23, PySem.W.mg_of X G a23⟩,
    ⟨_, _, fun_mk (st := s_l_new) l24 c24 k24, PySem.W.mg_of X G a24⟩,
    ⟨_, _, fun_mk (st := s_l_add) l25 c25 k25, PySem.W.mg_of X G a25⟩,
    ⟨_, _, fun_mk (st := s_l_at) l26 c26 k26, PySem.W.mg_of X G a26⟩,
    ⟨_, _, fun_mk (st := s_l_find) l27 c27 k27, PySem.W.mg_of X G a27⟩,
    ⟨_, _, fun_mk (st := s_l_any_form) l28 c28 k28, PySem.W.mg_of X G a28⟩,
    ⟨_, _, fun_mk (st := s_l_one_step) l29 c29 k29, PySem.W.mg_of X G a29⟩,
    ⟨_, _, fun_mk (st := s_l_summed) l30 c30 k30, PySem.W.mg_of X G a30⟩,
    ⟨_, _, fun_mk (st := s_l_least_step) l31 c31 k31, PySem.W.mg_of X G a31⟩,
    ⟨_, _, fun_mk (st := s_l_two_step) l32 c32 k32, PySem.W.mg_of X G a32⟩,
    ⟨_, _, fun_mk (st := s_l_box) l33 c33 k33, PySem.W.mg_of X G a33⟩,
    ⟨_, _, fun_mk (st := s_l_any_box) l34 c34 k34, PySem.W.mg_of X G a34⟩,
    ⟨_, _, fun_mk (st := s_l_called_box) l35 c35 k35, PySem.W.mg_of X G a35⟩,
    ⟨_, _, fun_mk (st := s_l_block) l36 c36 k36, PySem.W.mg_of X G a36⟩,
    ⟨_, _, fun_mk (st := s_l_grown) l37 c37 k37, PySem.W.mg_of X G a37⟩,
    ⟨_, _, fun_mk (st := s_l_boxes) l38 c38 k38, PySem.W.mg_of X G a38⟩,
    ⟨_, _, fun_mk (st := s_l_last_in) l39 c39 k39, PySem.W.mg_of X G a39⟩,
    ⟨_, _, fun_mk (st := s_l_leans) l40 c40 k40, PySem.W.mg_of X G a40⟩,
    ⟨_, _, fun_mk (st := s_l_due) l41 c41 k41, PySem.W.mg_of X G a41⟩,
    cst_mk (ys := ["supposed", "any", "called"]) X G ac1 lc1 (by simp) (.cons ⟨_, rfl⟩ (.cons ⟨_, rfl⟩ (.cons ⟨_, rfl⟩ (.nil)))),
    cst_mk (ys := ["again", "left", "right", "orleft", "orright", "nothing", "at", "such", "meaning", "asmany", "one", "someof", "none", "nomore", "cover", "turned", "soif", "not", "contrary", "forany", "forsome"]) X G ac2 lc2 (by simp) (.cons ⟨_, rfl⟩ (.cons ⟨_, rfl⟩ (.cons ⟨_, rfl⟩ (.cons ⟨_, rfl⟩ (.cons ⟨_, rfl⟩ (.cons ⟨_, rfl⟩ (.cons ⟨_, rfl⟩ (.cons ⟨_, rfl⟩ (.cons ⟨_, rfl⟩ (.cons ⟨_, rfl⟩ (.cons ⟨_, rfl⟩ (.cons ⟨_, rfl⟩ (.cons ⟨_, rfl⟩ (.cons ⟨_, rfl⟩ (.cons ⟨_, rfl⟩ (.cons ⟨_, rfl⟩ (.cons ⟨_, rfl⟩ (.cons ⟨_, rfl⟩ (.cons ⟨_, rfl⟩ (.cons ⟨_, rfl⟩ (.cons ⟨_, rfl⟩ (.nil)))))))))))))))))))))),
    cst_mk (ys := ["both", "then", "absurd", "put", "apart"]) X G ac3 lc3 (by simp) (.cons ⟨_, rfl⟩ (.cons ⟨_, rfl⟩ (.cons ⟨_, rfl⟩ (.cons ⟨_, rfl⟩ (.cons ⟨_, rfl⟩ (.nil)))))),
    cst_mk (ys := ["two", "cases"]) X G ac4 lc4 (by simp) (.cons ⟨_, rfl⟩ (.cons ⟨_, rfl⟩ (.nil))),
    cst_mk (ys := ["soif", "not", "contrary", "forany", "forsome"]) X G ac5 lc5 (by simp) (.cons ⟨_, rfl⟩ (.cons ⟨_, rfl⟩ (.cons ⟨_, rfl⟩ (.cons ⟨_, rfl⟩ (.cons ⟨_, rfl⟩ (.nil)))))),
    cdict_mk X G ad_ROWS dd_ROWS ⟨w_ROWS_0, w_ROWS_1, w_ROWS_2, w_ROWS_3, w_ROWS_4, w_ROWS_5, w_ROWS_6, w_ROWS_7, w_ROWS_8, w_ROWS_9, w_ROWS_10, w_ROWS_11, w_ROWS_12, w_ROWS_13, w_ROWS_14, w_ROWS_15, w_ROWS_16, w_ROWS_17, w_ROWS_18, w_ROWS_19, w_ROWS_20, w_ROWS_21, w_ROWS_22, w_ROWS_23, ⟨_, w_ROWS_24⟩, trivial⟩⟩
  refine ⟨_, fun s v => .of_eq rfl, fun base => fnG_law t.bt (fun_mk (st := s_law) l42 c42 k42) t.defs⟩
theorem walk {l : PySem.W.OpenLaw} {q : Program} {loose : List Str} {XP : (Str → Option Value) → Heap → Prop} {YP : World → Heap → Prop} {d : DefRec} {K : Params → PySem.W.Frag} (hn : l.most = some 63) (hdf : d.params.defaults = [])
    (hY : ∀ (w : World) (h : Heap), YP w h → (K w.params).In h)
    (F : ∀ (w : World) (mg : Str → Option Value) (fa : Addr) (h : Heap), (K w.params).In h → h.Ns mainGlobals mg → mg d.name = some (.ref fa) →
      ∃ fd : FuncData, (∀ (s : Shared) (u : Value), BindsTo s fd ⟨[u], []⟩ [("_law_script", u)]) ∧ ∀ base : Heap, FnG l.prog w (K w.params) mg base 141 fa fd ["_law_script"] (liftSp (K w.params) spLaw)) :
    PySem.W.WalkO q loose XP YP l.row.toRowW d [] (fun f vs => PySem.call f vs) :=
  Att.attach_call hn hdf fun w _ s _ _ _ _ _ _ _ _ _ _ G Y _ _ _ hm hobj hints hlen hg =>
    let KX := hY w _ Y
    let ⟨_, hb, hF⟩ := F w _ _ _ KX G.T.g hm
    called KX G.T.g G.T.b G.T.builtins G.T.nolimit hg hobj hints hlen hF hb
end K61
open PySem PySem.W PyProof.Rows
set_option maxRecDepth 100000 in
set_option maxHeartbeats 0 in
theorem PySem.Challenge.cw_linecourt_k61_needed_lines_holds : PySem.Challenge.rw_linecourt_k61_needed_lines.Holds := by
  w_on; o_law; k_head; (case hw => w_witness2)
  k_fill
  refine K61.walk (l := PySem.Challenge.rw_linecourt_k61_needed_lines) rfl rfl (fun w h Y => PySem.W.kIn_of Y) ?F
  case F =>
    intro w mg fa h KX G hmg
    refine' K61.all_mk KX G hmg ?a1 ?l1 ?c1 ?k1 ?a2 ?l2 ?c2 ?k2 ?a3 ?l3 ?c3 ?k3 ?a4 ?l4 ?c4 ?k4 ?a5 ?l5 ?c5 ?k5 ?a6 ?l6 ?c6 ?k6 ?a7 ?l7 ?c7 ?k7 ?a8 ?l8 ?c8 ?k8 ?a9 ?l9 ?c9 ?k9 ?a10 ?l10 ?c10 ?k10 ?a11 ?l11 ?c11 ?k11 ?a12 ?l12 ?c12 ?k12 ?a13 ?l13 ?c13 ?k13 ?a14 ?l14 ?c14 ?k14 ?a15 ?l15 ?c15 ?k15 ?a16 ?l16 ?c16 ?k16 ?a17 ?l17 ?c17 ?k17 ?a18 ?l18 ?c18 ?k18 ?a19 ?l19 ?c19 ?k19 ?a20 ?l20 ?c20 ?k20 ?a21 ?l21 ?c21 ?k21 ?a22 ?l22 ?c22 ?k22 ?a23 ?l23 ?c23 ?k23 ?a24 ?l24 ?c24 ?k24 ?a25 ?l25 ?c25 ?k25 ?a26 ?l26 ?c26 ?k26 ?a27 ?l27 ?c27 ?k27 ?a28 ?l28 ?c28 ?k28 ?a29 ?l29 ?c29 ?k29 ?a30 ?l30 ?c30 ?k30 ?a31 ?l31 ?c31 ?k31 ?a32 ?l32 ?c32 ?k32 ?a33 ?l33 ?c33 ?k33 ?a34 ?l34 ?c34 ?k34 ?a35 ?l35 ?c35 ?k35 ?a36 ?l36 ?c36 ?k36 ?a37 ?l37 ?c37 ?k37 ?a38 ?l38 ?c38 ?k38 ?a39 ?l39 ?c39 ?k39 ?a40 ?l40 ?c40 ?k40 ?a41 ?l41 ?c41 ?k41 ?a42 ?l42 ?c42 ?k42 ?ac1 ?lc1 ?ac2 ?lc2 ?ac3 ?lc3 ?ac4 ?lc4 ?ac5 ?lc5 ?ad_ROWS ?dd_ROWS ?w_ROWS_0 ?w_ROWS_1 ?w_ROWS_2 ?w_ROWS_3 ?w_ROWS_4 ?w_ROWS_5 ?w_ROWS_6 ?w_ROWS_7 ?w_ROWS_8 ?w_ROWS_9 ?w_ROWS_10 ?w_ROWS_11 ?w_ROWS_12 ?w_ROWS_13 ?w_ROWS_14 ?w_ROWS_15 ?w_ROWS_16 ?w_ROWS_17 ?w_ROWS_18 ?w_ROWS_19 ?w_ROWS_20 ?w_ROWS_21 ?w_ROWS_22 ?w_ROWS_23 ?w_ROWS_24 ?z_len ?z_sum ?z_list ?z_tuple ?z_range ?z_sorted ?z_max ?z_int ?z_isinstance ?z_repr ?z_all ?z_set ?z_zip ?z_enumerate
    (case a1 => first | k_is | rfl)
    (case l1 => first | k_is | rfl)
    (case c1 => first | k_is | rfl)
    (case k1 => first | k_is | rfl)
    (case a2 => first | k_is | rfl)
    (case l2 => first | k_is | rfl)
    (case c2 => first | k_is | rfl)
    (case k2 => first | k_is | rfl)
    (case a3 => first | k_is | rfl)
    (case l3 => first | k_is | rfl)
    (case c3 => first | k_is | rfl)
    (case k3 => first | k_is | rfl)
    (case a4 => first | k_is | rfl)
    (case l4 => first | k_is | rfl)
    (case c4 => first | k_is | rfl)
    (case k4 => first | k_is | rfl)
    (case a5 => first | k_is | rfl)
    (case l5 => first | k_is | rfl)
    (case c5 => first | k_is | rfl)
    (case k5 => first | k_is | rfl)
    (case a6 => first | k_is | rfl)
    (case l6 => first | k_is | rfl)
    (case c6 => first | k_is | rfl)
    (case k6 => first | k_is | rfl)
    (case a7 => first | k_is | rfl)
    (case l7 => first | k_is | rfl)
    (case c7 => first | k_is | rfl)
    (case k7 => first | k_is | rfl)
    (case a8 => first | k_is | rfl)
    (case l8 => first | k_is | rfl)
    (case c8 => first | k_is | rfl)
    (case k8 => first | k_is | rfl)
    (case a9 => first | k_is | rfl)
    (case l9 => first | k_is | rfl)
    (case c9 => first | k_is | rfl)
    (case k9 => first | k_is | rfl)
    (case a10 => first | k_is | rfl)
    (case l10 => first | k_is | rfl)
    (case c10 => first | k_is | rfl)
    (case k10 => first | k_is | rfl)
    (case a11 => first | k_is | rfl)
    (case l11 => first | k_is | rfl)
    (case c11 => first | k_is | rfl)
    (case k11 => first | k_is | rfl)
    (case a12 => first | k_is | rfl)
    (case l12 => first | k_is | rfl)
    (case c12 => first | k_is | rfl)
    (case k12 => first | k_is | rfl)
    (case a13 => first | k_is | rfl)
    (case l13 => first | k_is | rfl)
    (case c13 => first | k_is | rfl)
    (case k13 => first | k_is | rfl)
    (case a14 => first | k_is | rfl)
    (case l14 => first | k_is | rfl)
    (case c14 => first | k_is | rfl)
    (case k14 => first | k_is | rfl)
    (case a15 => first | k_is | rfl)
    (case l15 => first | k_is | rfl)
    (case c15 => first | k_is | rfl)
    (case k15 => first | k_is | rfl)
    (case a16 => first | k_is | rfl)
    (case l16 => first | k_is | rfl)
    (case c16 => first | k_is | rfl)
    (case k16 => first | k_is | rfl)
    (case a17 => first | k_is | rfl)
    (case l17 => first | k_is | rfl)
    (case c17 => first | k_is | rfl)
    (case k17 => first | k_is | rfl)
    (case a18 => first | k_is | rfl)
    (case l18 => first | k_is | rfl)
    (case c18 => first | k_is | rfl)
    (case k18 => first | k_is | rfl)
    (case a19 => first | k_is | rfl)
    (case l19 => first | k_is | rfl)
    (case c19 => first | k_is | rfl)
    (case k19 => first | k_is | rfl)
    (case a20 => first | k_is | rfl)
    (case l20 => first | k_is | rfl)
    (case c20 => first | k_is | rfl)
    (case k20 => first | k_is | rfl)
    (case a21 => first | k_is | rfl)
    (case l21 => first | k_is | rfl)
    (case c21 => first | k_is | rfl)
    (case k21 => first | k_is | rfl)
    (case a22 => first | k_is | rfl)
    (case l22 => first | k_is | rfl)
    (case c22 => first | k_is | rfl)
    (case k22 => first | k_is | rfl)
    (case a23 => first | k_is | rfl)
    (case l23 => first | k_is | rfl)
    (case c23 => first | k_is | rfl)
    (case k23 => first | k_is | rfl)
    (case a24 => first | k_is | rfl)
    (case l24 => first | k_is | rfl)
    (case c24 => first | k_is | rfl)
    (case k24 => first | k_is | rfl)
    (case a25 => first | k_is | rfl)
    (case l25 => first | k_is | rfl)
    (case c25 => first | k_is | rfl)
    (case k25 => first | k_is | rfl)
    (case a26 => first | k_is | rfl)
    (case l26 => first | k_is | rfl)
    (case c26 => first | k_is | rfl)
    (case k26 => first | k_is | rfl)
    (case a27 => first | k_is | rfl)
    (case l27 => first | k_is | rfl)
    (case c27 => first | k_is | rfl)
    (case k27 => first | k_is | rfl)
    (case a28 => first | k_is | rfl)
    (case l28 => first | k_is | rfl)
    (case c28 => first | k_is | rfl)
    (case k28 => first | k_is | rfl)
    (case a29 => first | k_is | rfl)
    (case l29 => first | k_is | rfl)
    (case c29 => first | k_is | rfl)
    (case k29 => first | k_is | rfl)
    (case a30 => first | k_is | rfl)
    (case l30 => first | k_is | rfl)
    (case c30 => first | k_is | rfl)
    (case k30 => first | k_is | rfl)
    (case a31 => first | k_is | rfl)
    (case l31 => first | k_is | rfl)
    (case c31 => first | k_is | rfl)
    (case k31 => first | k_is | rfl)
    (case a32 => first | k_is | rfl)
    (case l32 => first | k_is | rfl)
    (case c32 => first | k_is | rfl)
    (case k32 => first | k_is | rfl)
    (case a33 => first | k_is | rfl)
    (case l33 => first | k_is | rfl)
    (case c33 => first | k_is | rfl)
    (case k33 => first | k_is | rfl)
    (case a34 => first | k_is | rfl)
    (case l34 => first | k_is | rfl)
    (case c34 => first | k_is | rfl)
    (case k34 => first | k_is | rfl)
    (case a35 => first | k_is | rfl)
    (case l35 => first | k_is | rfl)
    (case c35 => first | k_is | rfl)
    (case k35 => first | k_is | rfl)
    (case a36 => first | k_is | rfl)
    (case l36 => first | k_is | rfl)
    (case c36 => first | k_is | rfl)
    (case k36 => first | k_is | rfl)
    (case a37 => first | k_is | rfl)
    (case l37 => first | k_is | rfl)
    (case c37 => first | k_is | rfl)
    (case k37 => first | k_is | rfl)
    (case a38 => first | k_is | rfl)
    (case l38 => first | k_is | rfl)
    (case c38 => first | k_is | rfl)
    (case k38 => first | k_is | rfl)
    (case a39 => first | k_is | rfl)
    (case l39 => first | k_is | rfl)
    (case c39 => first | k_is | rfl)
    (case k39 => first | k_is | rfl)
    (case a40 => first | k_is | rfl)
    (case l40 => first | k_is | rfl)
    (case c40 => first | k_is | rfl)
    (case k40 => first | k_is | rfl)
    (case a41 => first | k_is | rfl)
    (case l41 => first | k_is | rfl)
    (case c41 => first | k_is | rfl)
    (case k41 => first | k_is | rfl)
    (case a42 => first | k_is | rfl)
    (case l42 => first | k_is | rfl)
    (case c42 => first | k_is | rfl)
    (case k42 => first | k_is | rfl)
    (case ac1 => first | k_is | rfl)
    (case lc1 => first | k_is | rfl)
    (case ac2 => first | k_is | rfl)
    (case lc2 => first | k_is | rfl)
    (case ac3 => first | k_is | rfl)
    (case lc3 => first | k_is | rfl)
    (case ac4 => first | k_is | rfl)
    (case lc4 => first | k_is | rfl)
    (case ac5 => first | k_is | rfl)
    (case lc5 => first | k_is | rfl)
    (case ad_ROWS => first | k_is | rfl)
    (case dd_ROWS => first | k_is | rfl)
    (case w_ROWS_0 => first | k_is | rfl)
    (case w_ROWS_1 => first | k_is | rfl)
    (case w_ROWS_2 => first | k_is | rfl)
    (case w_ROWS_3 => first | k_is | rfl)
    (case w_ROWS_4 => first | k_is | rfl)
    (case w_ROWS_5 => first | k_is | rfl)
    (case w_ROWS_6 => first | k_is | rfl)
    (case w_ROWS_7 => first | k_is | rfl)
    (case w_ROWS_8 => first | k_is | rfl)
    (case w_ROWS_9 => first | k_is | rfl)
    (case w_ROWS_10 => first | k_is | rfl)
    (case w_ROWS_11 => first | k_is | rfl)
    (case w_ROWS_12 => first | k_is | rfl)
    (case w_ROWS_13 => first | k_is | rfl)
    (case w_ROWS_14 => first | k_is | rfl)
    (case w_ROWS_15 => first | k_is | rfl)
    (case w_ROWS_16 => first | k_is | rfl)
    (case w_ROWS_17 => first | k_is | rfl)
    (case w_ROWS_18 => first | k_is | rfl)
    (case w_ROWS_19 => first | k_is | rfl)
    (case w_ROWS_20 => first | k_is | rfl)
    (case w_ROWS_21 => first | k_is | rfl)
    (case w_ROWS_22 => first | k_is | rfl)
    (case w_ROWS_23 => first | k_is | rfl)
    (case w_ROWS_24 => first | k_is | rfl)
    (case z_len => first | k_is | rfl)
    (case z_sum => first | k_is | rfl)
    (case z_list => first | k_is | rfl)
    (case z_tuple => first | k_is | rfl)
    (case z_range => first | k_is | rfl)
    (case z_sorted => first | k_is | rfl)
    (case z_max => first | k_is | rfl)
    (case z_int => first | k_is | rfl)
    (case z_isinstance => first | k_is | rfl)
    (case z_repr => first | k_is | rfl)
    (case z_all => first | k_is | rfl)
    (case z_set => first | k_is | rfl)
    (case z_zip => first | k_is | rfl)
    (case z_enumerate => first | k_is | rfl)

