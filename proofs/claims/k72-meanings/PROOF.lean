import PyProof.Rows.All
import Wide.All
import OpenK.AllK
import Wide.FinOn
import HandS.ForMost
import HandS.TupAny
import HandS.Deep
import PySem.Challenge.RW_linecourt_k72_meanings_put_in_place
import HandS.IsInst
import HandS.TupMul
import HandS.Style
import HandS.Conv
import HandS.NoneIn
import HandS.Zip
import HandS.FStrTup
set_option Elab.async false
set_option maxRecDepth 100000
/-! DL: values as data (tuples by what they hold), a store of lists and dicts, and the hand layer's judgements over these. -/
namespace DL
open PySem PySem.Spec PyProof.Rows L2

/-- a value by what it is: a tuple by its items, a list or dict by its place -/
inductive D where
  | non | bl (b : Bool) | int (i : Int) | str (x : Str) | ref (a : Addr) | ty (n : String) | tup (ds : List D)
  /-- a list that nobody changes (the script) -/
  | rol (ds : List D)

/-- a list that nobody changes: frozen, or of the module -/
def SqR (K : PySem.W.Frag) (H : Hp) (a : Addr) (xs : List V) : Prop :=
  (∃ o, H a = some (.frz o (.lst xs))) ∨
    ∃ (o : Obj) (its : Array Value) (n : Nat), K.lookup a = some o ∧ o.cls = .type "list" ∧ o.dict = none ∧ o.data = .seq its n ∧ its.size ≤ sizeLine ∧ Vals xs its.toList
theorem SqR.sq {K : PySem.W.Frag} {H : Hp} {a : Addr} {xs : List V} (h : SqR K H a xs) : SqL K H a xs := by
  rcases h with ⟨o, h⟩ | h
  · exact .inl (.inr ⟨o, h⟩)
  · exact .inr h
mutual
def RD (K : PySem.W.Frag) (H : Hp) : D → V → Prop
  | .non, v => v = .non
  | .bl b, v => v = .bl b
  | .int i, v => v = .int i
  | .str x, v => v = .str x
  | .ref a, v => v = .ref a
  | .ty n, v => v = .ty n
  | .tup ds, v => ∃ p vs, v = .ref p ∧ SqT K H p vs ∧ RDs K H ds vs
  | .rol ds, v => ∃ p vs, v = .ref p ∧ SqR K H p vs ∧ RDs K H ds vs
def RDs (K : PySem.W.Frag) (H : Hp) : List D → List V → Prop
  | [], vs => vs = []
  | d :: ds, vs => ∃ v r, vs = v :: r ∧ RD K H d v ∧ RDs K H ds r
end

/-- tuples stay -/
def Ext (K : PySem.W.Frag) (H H' : Hp) : Prop := (∀ p vs, SqT K H p vs → SqT K H' p vs) ∧ ∀ p vs, SqR K H p vs → SqR K H' p vs
section
variable {K : PySem.W.Frag} {H H1 H2 : Hp}
theorem Ext.refl : Ext K H H := ⟨fun _ _ h => h, fun _ _ h => h⟩
theorem Ext.trans (a : Ext K H H1) (b : Ext K H1 H2) : Ext K H H2 := ⟨fun p vs h => b.1 p vs (a.1 p vs h), fun p vs h => b.2 p vs (a.2 p vs h)⟩
/-- what a tuple, or a frozen thing, is not -/
def soft : HO → Prop
  | .tup _ => False
  | .frz _ _ => False
  | _ => True
theorem Ext.upd {a : Addr} {o : HO} (h : ∀ u, H a = some u → soft u) : Ext K H (upd H a o) := by
 refine ⟨fun p vs hp => ?_, fun p vs hp => ?_⟩
 · rcases hp with (hp | ⟨ob, hp⟩) | hp
   · refine .inl (.inl ?_)
     rw [upd_ne ?_]
     · exact hp
     · rintro rfl
       exact h _ hp
   · refine .inl (.inr ⟨ob, ?_⟩)
     rw [upd_ne ?_]
     · exact hp
     · rintro rfl
       exact h _ hp
   · exact .inr hp
 · rcases hp with ⟨ob, hp⟩ | hp
   · refine .inl ⟨ob, ?_⟩
     rw [upd_ne ?_]
     · exact hp
     · rintro rfl
       exact h _ hp
   · exact .inr hp
theorem Ext.new {a : Addr} {o : HO} (h : H a = none) : Ext K H (L2.upd H a o) := Ext.upd fun u e => by rw [h] at e; cases e
theorem Ext.put {a : Addr} {o u : HO} (h : H a = some u) (s : soft u) : Ext K H (L2.upd H a o) := Ext.upd fun v e => by rw [h] at e; cases e; exact s
mutual
theorem RD.ext (e : Ext K H H1) : ∀ {d : D} {v : V}, RD K H d v → RD K H1 d v
  | .non, _, h => h
  | .bl _, _, h => h
  | .int _, _, h => h
  | .str _, _, h => h
  | .ref _, _, h => h
  | .ty _, _, h => h
  | .tup ds, v, h => by
    obtain ⟨p, vs, rfl, ht, hd⟩ := h
    exact ⟨p, vs, rfl, e.1 p vs ht, RDs.ext e hd⟩
  | .rol ds, v, h => by
    obtain ⟨p, vs, rfl, ht, hd⟩ := h
    exact ⟨p, vs, rfl, e.2 p vs ht, RDs.ext e hd⟩
theorem RDs.ext (e : Ext K H H1) : ∀ {ds : List D} {vs : List V}, RDs K H ds vs → RDs K H1 ds vs
  | [], _, h => h
  | d :: ds, _, h => by
    obtain ⟨v, r, rfl, h1, h2⟩ := h
    exact ⟨v, r, rfl, RD.ext e h1, RDs.ext e h2⟩
end
theorem RDs.length : ∀ {ds : List D} {vs : List V}, RDs K H ds vs → vs.length = ds.length
  | [], _, h => by cases (show _ = [] from h); rfl
  | d :: ds, _, h => by
    obtain ⟨v, r, rfl, _, h2⟩ := h
    rw [List.length_cons, List.length_cons, RDs.length h2]
theorem RDs.get : ∀ {ds : List D} {vs : List V} {i : Nat} {d : D}, RDs K H ds vs → ds[i]? = some d → ∃ v, vs[i]? = some v ∧ RD K H d v
  | [], _, _, _, _, e => by simp at e
  | d :: ds, _, 0, _, h, e => by
    obtain ⟨v, r, rfl, h1, h2⟩ := h
    simp at e
    subst e
    exact ⟨v, by simp, h1⟩
  | d :: ds, _, i + 1, _, h, e => by
    obtain ⟨v, r, rfl, h1, h2⟩ := h
    obtain ⟨w, e1, q⟩ := RDs.get (i := i) h2 (by simpa using e)
    exact ⟨w, by simpa using e1, q⟩
theorem RDs.getV : ∀ {ds : List D} {vs : List V} {i : Nat} {v : V}, RDs K H ds vs → vs[i]? = some v → ∃ d, ds[i]? = some d ∧ RD K H d v
  | [], _, _, _, h, e => by cases (show _ = [] from h); simp at e
  | d :: ds, _, 0, _, h, e => by
    obtain ⟨v, r, rfl, h1, h2⟩ := h
    simp at e
    subst e
    exact ⟨d, by simp, h1⟩
  | d :: ds, _, i + 1, _, h, e => by
    obtain ⟨v, r, rfl, h1, h2⟩ := h
    obtain ⟨w, e1, q⟩ := RDs.getV (i := i) h2 (by simpa using e)
    exact ⟨w, by simpa using e1, q⟩
theorem RDs.append : ∀ {ds es : List D} {vs ws : List V}, RDs K H ds vs → RDs K H es ws → RDs K H (ds ++ es) (vs ++ ws)
  | [], _, _, _, h, g => by cases (show _ = [] from h); exact g
  | d :: ds, _, _, _, h, g => by
    obtain ⟨v, r, rfl, h1, h2⟩ := h
    exact ⟨v, r ++ _, rfl, h1, RDs.append h2 g⟩
theorem RDs.take : ∀ (n : Nat) {ds : List D} {vs : List V}, RDs K H ds vs → RDs K H (ds.take n) (vs.take n)
  | 0, _, _, _ => rfl
  | n + 1, [], _, h => by cases (show _ = [] from h); exact rfl
  | n + 1, d :: ds, _, h => by
    obtain ⟨v, r, rfl, h1, h2⟩ := h
    exact ⟨v, r.take n, rfl, h1, RDs.take n h2⟩
theorem RDs.drop : ∀ (n : Nat) {ds : List D} {vs : List V}, RDs K H ds vs → RDs K H (ds.drop n) (vs.drop n)
  | 0, _, _, h => h
  | n + 1, [], _, h => by cases (show _ = [] from h); exact rfl
  | n + 1, d :: ds, _, h => by
    obtain ⟨v, r, rfl, h1, h2⟩ := h
    exact RDs.drop n h2
theorem RDs.set : ∀ (n : Nat) {ds : List D} {vs : List V} {d : D} {v : V}, RDs K H ds vs → RD K H d v → RDs K H (ds.set n d) (vs.set n v)
  | _, [], _, _, _, h, _ => by cases (show _ = [] from h); exact rfl
  | 0, d :: ds, _, _, _, h, q => by
    obtain ⟨v, r, rfl, h1, h2⟩ := h
    exact ⟨_, r, rfl, q, h2⟩
  | n + 1, d :: ds, _, _, _, h, q => by
    obtain ⟨v, r, rfl, h1, h2⟩ := h
    exact ⟨v, _, rfl, h1, RDs.set n h2 q⟩
theorem RDs.eraseIdx : ∀ (n : Nat) {ds : List D} {vs : List V}, RDs K H ds vs → RDs K H (ds.eraseIdx n) (vs.eraseIdx n)
  | _, [], _, h => by cases (show _ = [] from h); exact rfl
  | 0, d :: ds, _, h => by
    obtain ⟨v, r, rfl, h1, h2⟩ := h
    exact h2
  | n + 1, d :: ds, _, h => by
    obtain ⟨v, r, rfl, h1, h2⟩ := h
    exact ⟨v, _, rfl, h1, RDs.eraseIdx n h2⟩
theorem RDs.snoc {ds : List D} {vs : List V} {d : D} {v : V} (h : RDs K H ds vs) (q : RD K H d v) : RDs K H (ds ++ [d]) (vs ++ [v]) :=
  h.append ⟨v, [], rfl, q, rfl⟩
theorem RDs.reverse : ∀ {ds : List D} {vs : List V}, RDs K H ds vs → RDs K H ds.reverse vs.reverse
  | [], _, h => by cases (show _ = [] from h); exact rfl
  | d :: ds, _, h => by
    obtain ⟨v, r, rfl, h1, h2⟩ := h
    rw [List.reverse_cons, List.reverse_cons]
    exact RDs.snoc (RDs.reverse h2) h1
theorem RDs.dropLast : ∀ {ds : List D} {vs : List V}, RDs K H ds vs → RDs K H ds.dropLast vs.dropLast := fun {ds vs} h => by
  rw [List.dropLast_eq_take, List.dropLast_eq_take, h.length]
  exact h.take _
theorem RDs.nil_iff {ds : List D} {vs : List V} (h : RDs K H ds vs) : vs = [] ↔ ds = [] := by
  rw [← List.length_eq_zero_iff, ← List.length_eq_zero_iff, h.length]
/-- lists whose items are plain: known on both sides -/
theorem RDs.map {α : Type} (f : α → D) (g : α → V) (e : ∀ a v, RD K H (f a) v → v = g a) : ∀ {xs : List α} {vs : List V}, RDs K H (xs.map f) vs → vs = xs.map g
  | [], _, h => h
  | x :: xs, _, h => by
    obtain ⟨v, r, rfl, h1, h2⟩ := h
    rw [List.map_cons, e x v h1, RDs.map f g e h2]
theorem RDs.ints {xs : List Int} {vs : List V} (h : RDs K H (xs.map D.int) vs) : vs = xs.map V.int := RDs.map D.int V.int (fun _ _ q => q) h
theorem RDs.strs {xs : List Str} {vs : List V} (h : RDs K H (xs.map D.str) vs) : vs = xs.map V.str := RDs.map D.str V.str (fun _ _ q => q) h
theorem RDs.bls {xs : List Bool} {vs : List V} (h : RDs K H (xs.map D.bl) vs) : vs = xs.map V.bl := RDs.map D.bl V.bl (fun _ _ q => q) h
theorem RDs.of_map {α : Type} {f : α → D} {g : α → V} (e : ∀ a, RD K H (f a) (g a)) : ∀ (xs : List α), RDs K H (xs.map f) (xs.map g)
  | [] => rfl
  | x :: xs => ⟨g x, _, rfl, e x, RDs.of_map e xs⟩
end

/-! ### the store -/
inductive DO where
  /-- a list -/
  | lst (ds : List D)
  /-- a dict with ints and texts for keys -/
  | dk (kvs : List (Key × D))
  /-- an instance of the class at C -/
  | ins (C : Addr) (fs : List (Str × D))
abbrev Store := Addr → Option DO
def put (S : Store) (a : Addr) (o : DO) : Store := fun b => if b = a then some o else S b
theorem put_same {S : Store} {a : Addr} {o : DO} : put S a o a = some o := by unfold put; rw [if_pos rfl]
theorem put_ne {S : Store} {a b : Addr} {o : DO} (h : b ≠ a) : put S a o b = S b := by unfold put; rw [if_neg h]
theorem put_put {S : Store} {a : Addr} {o u : DO} : put (put S a o) a u = put S a u := by funext b; unfold put; split <;> rfl
/-- less is known -/
def Sub (S S' : Store) : Prop := ∀ a o, S a = some o → S' a = some o
theorem Sub.refl {S : Store} : Sub S S := fun _ _ h => h
theorem Sub.trans {S S1 S2 : Store} (a : Sub S S1) (b : Sub S1 S2) : Sub S S2 := fun p o h => b p o (a p o h)
theorem Sub.new {S : Store} {a : Addr} {o : DO} (h : S a = none) : Sub S (put S a o) := fun b u e => by
  rw [put_ne]
  · exact e
  · rintro rfl
    rw [h] at e; cases e

def RKV (K : PySem.W.Frag) (H : Hp) {κ : Type} : List (κ × D) → List (κ × V) → Prop
  | [], ws => ws = []
  | (k, d) :: r, ws => ∃ v t, ws = (k, v) :: t ∧ RD K H d v ∧ RKV K H r t
def RO (K : PySem.W.Frag) (H : Hp) (a : Addr) : DO → Prop
  | .lst ds => ∃ vs, H a = some (.lst vs) ∧ RDs K H ds vs
  | .dk kvs => ∃ ws, H a = some (.dK ws) ∧ RKV K H kvs ws
  | .ins C fs => ∃ dx ws, H a = some (.ins C dx ws) ∧ RKV K H fs ws
def RS (K : PySem.W.Frag) (H : Hp) (S : Store) : Prop := ∀ a o, S a = some o → RO K H a o
section
variable {K : PySem.W.Frag} {H H1 : Hp} {S S' : Store}
theorem RKV.ext (e : Ext K H H1) {κ : Type} : ∀ {kvs : List (κ × D)} {ws : List (κ × V)}, RKV K H kvs ws → RKV K H1 kvs ws
  | [], _, h => h
  | (k, d) :: r, _, h => by
    obtain ⟨v, t, rfl, h1, h2⟩ := h
    exact ⟨v, t, rfl, RD.ext e h1, RKV.ext e h2⟩
theorem RKV.length {κ : Type} : ∀ {kvs : List (κ × D)} {ws : List (κ × V)}, RKV K H kvs ws → ws.length = kvs.length
  | [], _, h => by cases (show _ = [] from h); rfl
  | (k, d) :: r, _, h => by
    obtain ⟨v, t, rfl, h1, h2⟩ := h
    rw [List.length_cons, List.length_cons, RKV.length h2]
theorem RKV.keys {κ : Type} : ∀ {kvs : List (κ × D)} {ws : List (κ × V)}, RKV K H kvs ws → ws.map (·.1) = kvs.map (·.1)
  | [], _, h => by cases (show _ = [] from h); rfl
  | (k, d) :: r, _, h => by
    obtain ⟨v, t, rfl, h1, h2⟩ := h
    rw [List.map_cons, List.map_cons, RKV.keys h2]
theorem RKV.vals {κ : Type} : ∀ {kvs : List (κ × D)} {ws : List (κ × V)}, RKV K H kvs ws → RDs K H (kvs.map (·.2)) (ws.map (·.2))
  | [], _, h => by cases (show _ = [] from h); exact rfl
  | (k, d) :: r, _, h => by
    obtain ⟨v, t, rfl, h1, h2⟩ := h
    exact ⟨v, _, rfl, h1, RKV.vals h2⟩
theorem RO.stable {a : Addr} {o : DO} (e : Ext K H H1) (k : ∀ u, H a = some u → H1 a = some u) (h : RO K H a o) : RO K H1 a o := by
  cases o with
  | lst ds => obtain ⟨vs, h1, h2⟩ := h; exact ⟨vs, k _ h1, h2.ext e⟩
  | dk kvs => obtain ⟨ws, h1, h2⟩ := h; exact ⟨ws, k _ h1, h2.ext e⟩
  | ins C fs => obtain ⟨dx, ws, h1, h2⟩ := h; exact ⟨dx, ws, k _ h1, h2.ext e⟩
theorem RS.sub (h : RS K H S') (q : Sub S S') : RS K H S := fun a o e => h a o (q a o e)
/-- heap grown at p by what the store doesn't hold -/
theorem RS.grow {p : Addr} {u : HO} (h : RS K H S) (n : H p = none) : RS K (upd H p u) S := fun a o e =>
  (h a o e).stable (Ext.new n) fun w hw => by rw [upd_ne (ne_of_none hw n)]; exact hw
theorem RS.new {p : Addr} {u : HO} {o : DO} (h : RS K H S) (n : H p = none) (q : RO K (upd H p u) p o) : RS K (upd H p u) (put S p o) := fun a v e => by
  by_cases z : a = p
  · subst z
    rw [put_same] at e
    cases e
    exact q
  · rw [put_ne z] at e
    exact h.grow n a v e
theorem RS.put {p : Addr} {u w : HO} {o : DO} (h : RS K H S) (n : H p = some w) (s : soft w) (q : RO K (upd H p u) p o) : RS K (upd H p u) (put S p o) := fun a v e => by
  by_cases z : a = p
  · subst z
    rw [put_same] at e
    cases e
    exact q
  · rw [put_ne z] at e
    exact (h a v e).stable (Ext.put n s) fun x hx => by rw [upd_ne z]; exact hx
theorem RS.lst {a : Addr} {ds : List D} (h : RS K H S) (e : S a = some (.lst ds)) : ∃ vs, H a = some (.lst vs) ∧ RDs K H ds vs := h a _ e
theorem RS.free {a : Addr} (h : RS K H S) (n : H a = none) : S a = none := by
  cases e : S a with
  | none => rfl
  | some o =>
    cases o with
    | lst ds => obtain ⟨vs, h1, _⟩ := h a _ e; rw [n] at h1; cases h1
    | dk ds => obtain ⟨vs, h1, _⟩ := h a _ e; rw [n] at h1; cases h1
    | ins C ds => obtain ⟨dx, vs, h1, _⟩ := h a _ e; rw [n] at h1; cases h1
end
end DL

set_option Elab.async false
set_option maxRecDepth 100000
/-! DLb: the judgements over data: expressions, tests, arguments, statements, targets. -/
namespace DL
open PySem PySem.Spec PyProof.Rows L2

/-! ### the slots -/
abbrev StD := List (Option D)
def lk : StD → Nat → Option D
  | [], _ => none
  | x :: _, 0 => x
  | _ :: r, n + 1 => lk r n
def sto : StD → Nat → Option D → StD
  | [], _, _ => []
  | _ :: r, 0, d => d :: r
  | x :: r, n + 1, d => x :: sto r n d
def RSt (K : PySem.W.Frag) (H : Hp) : StD → L2.St → Prop
  | [], σ => σ = []
  | o :: r, σ => ∃ v t, σ = v :: t ∧ (∀ d, o = some d → ∃ x, v = some x ∧ RD K H d x) ∧ RSt K H r t
section
variable {K : PySem.W.Frag} {H H1 : Hp}
theorem RSt.ext (e : Ext K H H1) : ∀ {δ : StD} {σ : L2.St}, RSt K H δ σ → RSt K H1 δ σ
  | [], _, h => h
  | o :: r, _, h => by
    obtain ⟨v, t, rfl, h1, h2⟩ := h
    exact ⟨v, t, rfl, fun d hd => let ⟨x, e1, q⟩ := h1 d hd; ⟨x, e1, q.ext e⟩, RSt.ext e h2⟩
theorem RSt.lk : ∀ {δ : StD} {σ : L2.St} {i : Nat} {d : D}, RSt K H δ σ → DL.lk δ i = some d → ∃ v, σ[i]? = some (some v) ∧ RD K H d v
  | [], _, _, _, _, e => by cases e
  | o :: r, _, 0, d, h, e => by
    obtain ⟨v, t, rfl, h1, h2⟩ := h
    obtain ⟨x, e1, q⟩ := h1 d e
    exact ⟨x, by simp [e1], q⟩
  | o :: r, _, i + 1, d, h, e => by
    obtain ⟨v, t, rfl, h1, h2⟩ := h
    obtain ⟨x, e1, q⟩ := RSt.lk (i := i) h2 e
    exact ⟨x, by simpa using e1, q⟩
theorem RSt.sto : ∀ {δ : StD} {σ : L2.St} {i : Nat} {d : D} {v : V}, RSt K H δ σ → RD K H d v → RSt K H (DL.sto δ i (some d)) (σ.set i (some v))
  | [], _, _, _, _, h, _ => by cases (show _ = [] from h); exact rfl
  | o :: r, _, 0, d, v, h, q => by
    obtain ⟨w, t, rfl, h1, h2⟩ := h
    exact ⟨some v, t, rfl, fun d' hd => by cases hd; exact ⟨v, rfl, q⟩, h2⟩
  | o :: r, _, i + 1, d, v, h, q => by
    obtain ⟨w, t, rfl, h1, h2⟩ := h
    exact ⟨w, _, rfl, h1, RSt.sto (i := i) h2 q⟩
theorem RSt.stn : ∀ {δ : StD} {σ : L2.St} {i : Nat}, RSt K H δ σ → RSt K H (DL.sto δ i none) (σ.set i none)
  | [], _, _, h => by cases (show _ = [] from h); exact rfl
  | o :: r, _, 0, h => by
    obtain ⟨w, t, rfl, h1, h2⟩ := h
    exact ⟨none, t, rfl, fun d' hd => (nomatch hd), h2⟩
  | o :: r, _, i + 1, h => by
    obtain ⟨w, t, rfl, h1, h2⟩ := h
    exact ⟨w, _, rfl, h1, RSt.stn (i := i) h2⟩
theorem RSt.nones : ∀ n : Nat, RSt K H (List.replicate n none) (List.replicate n none)
  | 0 => rfl
  | n + 1 => ⟨none, _, rfl, fun d e => (nomatch e), RSt.nones n⟩
theorem RSt.args : ∀ {ds : List D} {vs : List V} {n : Nat}, RDs K H ds vs → RSt K H (ds.map some ++ List.replicate n none) (vs.map some ++ List.replicate n none)
  | [], _, n, h => by cases (show _ = [] from h); exact RSt.nones n
  | d :: ds, _, n, h => by
    obtain ⟨v, r, rfl, h1, h2⟩ := h
    exact ⟨some v, _, rfl, fun d' e => by cases e; exact ⟨v, rfl, h1⟩, RSt.args h2⟩
end
def startD (N : List Str) (ds : List D) : StD := ds.map some ++ List.replicate (N.length - ds.length) none

/-! ### judgements -/
abbrev KD := D → Store → Prop
abbrev TED := StD → Store → KD → Prop
abbrev TTD := StD → Store → (Bool → Store → Prop) → Prop
abbrev TAD := StD → Store → (List D → Store → Prop) → Prop
structure EndsD where
  nx : StD → Store → Prop
  rt : KD
  bk : StD → Store → Prop := fun _ _ => False
  ct : StD → Store → Prop := fun _ _ => False
abbrev TSD := EndsD → StD → Store → Prop
def liftE (K : PySem.W.Frag) (t : TED) : TE := fun σ H Q => ∃ δ S Q0, RSt K H δ σ ∧ RS K H S ∧ t δ S Q0 ∧ ∀ d S' v H', Q0 d S' → Ext K H H' → RD K H' d v → RS K H' S' → Q v H'
def liftT (K : PySem.W.Frag) (t : TTD) : TT := fun σ H Q => ∃ δ S Q0, RSt K H δ σ ∧ RS K H S ∧ t δ S Q0 ∧ ∀ b S' H', Q0 b S' → Ext K H H' → RS K H' S' → Q b H'
def liftA (K : PySem.W.Frag) (t : TAD) : TA := fun σ H Q => ∃ δ S Q0, RSt K H δ σ ∧ RS K H S ∧ t δ S Q0 ∧ ∀ ds S' vs H', Q0 ds S' → Ext K H H' → RDs K H' ds vs → RS K H' S' → Q vs H'
def liftS (K : PySem.W.Frag) (t : TSD) : TS := fun E σ H => ∃ δ S G, RSt K H δ σ ∧ RS K H S ∧ t G δ S ∧
  (∀ δ' S' σ' H', G.nx δ' S' → Ext K H H' → RSt K H' δ' σ' → RS K H' S' → E.nx σ' H') ∧ (∀ d S' v H', G.rt d S' → Ext K H H' → RD K H' d v → RS K H' S' → E.rt v H') ∧
  (∀ δ' S' σ' H', G.bk δ' S' → Ext K H H' → RSt K H' δ' σ' → RS K H' S' → E.bk σ' H') ∧ (∀ δ' S' σ' H', G.ct δ' S' → Ext K H H' → RSt K H' δ' σ' → RS K H' S' → E.ct σ' H')
def DE (X : Cx) (e : Expr) (t : TED) : Prop := PE X e (liftE X.K t)
def DT (X : Cx) (e : Expr) (t : TTD) : Prop := PT X e (liftT X.K t)
def DW (X : Cx) (e : Expr) (t : TTD) : Prop := PW X e (liftT X.K t)
def DA (X : Cx) (es : List Expr) (t : TAD) : Prop := PA X es (liftA X.K t)
def DS (X : Cx) (st : Stmt) (t : TSD) : Prop := PS X st (liftS X.K t)
def DSs (X : Cx) (st : List Stmt) (t : TSD) : Prop := PSs X st (liftS X.K t)

section
variable {X : Cx}
theorem PEi {e : Expr} {t t' : TE} (h : PE X e t') (w : ∀ σ H Q, t σ H Q → t' σ H Q) : PE X e t := ⟨fun pins s σ H Q I q => h.run pins s σ H Q I (w _ _ _ q)⟩
theorem PTi {e : Expr} {t t' : TT} (h : PT X e t') (w : ∀ σ H Q, t σ H Q → t' σ H Q) : PT X e t := ⟨fun pins s σ H Q I q => h.run pins s σ H Q I (w _ _ _ q)⟩
theorem PWi {e : Expr} {t t' : TT} (h : PW X e t') (w : ∀ σ H Q, t σ H Q → t' σ H Q) : PW X e t := ⟨fun wh pins s σ H Q I q => h.run wh pins s σ H Q I (w _ _ _ q)⟩
theorem PAi {e : List Expr} {t t' : TA} (h : PA X e t') (w : ∀ σ H Q, t σ H Q → t' σ H Q) : PA X e t := ⟨fun pos pins s σ H Q I q => h.run pos pins s σ H Q I (w _ _ _ q)⟩
theorem PSi {e : Stmt} {t t' : TS} (h : PS X e t') (w : ∀ E σ H, t E σ H → t' E σ H) : PS X e t := ⟨fun pins s σ H E I q => h.run pins s σ H E I (w _ _ _ q)⟩
theorem PSsi {e : List Stmt} {t t' : TS} (h : PSs X e t') (w : ∀ E σ H, t E σ H → t' E σ H) : PSs X e t := ⟨fun pins s σ H E I q => h.run pins s σ H E I (w _ _ _ q)⟩
theorem OpRi {f : Value → Value → Sem Value} {r r' : R2} (h : OpR X f r') (w : ∀ x y H Q, r x y H Q → r' x y H Q) : OpR X f r := fun pins s σ H x y v u Q I rx ry q => h pins s σ H x y v u Q I rx ry (w _ _ _ _ q)
theorem CallRi {f : Value} {r r' : List V → Hp → VK → Prop} (h : CallR X f r') (w : ∀ xs H Q, r xs H Q → r' xs H Q) : CallR X f r := fun pins s σ H xs us Q I rs q => h pins s σ H xs us Q I rs (w _ _ _ q)
end

/-! ### values by two, by many -/
abbrev R2D := D → D → Store → KD → Prop
abbrev R1D := D → Store → KD → Prop
abbrev RAD := List D → Store → KD → Prop
def lift2 (K : PySem.W.Frag) (r : R2D) : R2 := fun x y H Q => ∃ dx dy S Q0, RD K H dx x ∧ RD K H dy y ∧ RS K H S ∧ r dx dy S Q0 ∧ ∀ d S' v H', Q0 d S' → Ext K H H' → RD K H' d v → RS K H' S' → Q v H'
def liftC (K : PySem.W.Frag) (r : RAD) : List V → Hp → VK → Prop := fun xs H Q => ∃ ds S Q0, RDs K H ds xs ∧ RS K H S ∧ r ds S Q0 ∧ ∀ d S' v H', Q0 d S' → Ext K H H' → RD K H' d v → RS K H' S' → Q v H'
def OpD (X : Cx) (f : Value → Value → Sem Value) (r : R2D) : Prop := OpR X f (lift2 X.K r)
def CallD (X : Cx) (f : Value) (r : RAD) : Prop := CallR X f (liftC X.K r)

/-! ### names, constants -/
def tVarD (i : Nat) : TED := fun δ S Q => match lk δ i with
  | some d => Q d S
  | none => False
def tCD (d : D) : TED := fun _ S Q => Q d S
section
variable {X : Cx} {pos : Pos}
theorem dv (i : Nat) {x : Str} (hN : X.N[i]? = some x := by rfl) (hv : Vis X.env.scope x := by first | exact Or.inl rfl | exact Or.inr (Or.inl rfl) | exact Or.inr (Or.inr rfl)) (hd : (x == ("__debug__" : Str)) = false := by decide)
    (hcd : (x == ("__classdict__" : Str)) = false := by decide) : DE X (.Name x pos) (tVarD i) := PEi (pe_var hN hv hd hcd) fun σ H Q h => by
  obtain ⟨δ, S, Q0, h1, h2, h3, h4⟩ := h
  unfold tVarD at h3
  split at h3
  · rename_i d e
    obtain ⟨v, e1, q⟩ := h1.lk e
    exact ⟨v, e1, h4 _ _ _ _ h3 .refl q h2⟩
  · cases h3
theorem de_c {e : Expr} {d : D} {v : V} (h : PE X e (tC v)) (r : ∀ H, RD X.K H d v) : DE X e (tCD d) := PEi h fun σ H Q q => by
  obtain ⟨δ, S, Q0, h1, h2, h3, h4⟩ := q
  exact h4 _ _ _ _ h3 .refl (r H) h2
theorem de_int {i j} : DE X (.Constant (.int i) j pos) (tCD (.int i)) := de_c pe_int fun _ => rfl
theorem de_bl {b j} : DE X (.Constant (.bool b) j pos) (tCD (.bl b)) := de_c pe_bl fun _ => rfl
theorem de_non {j} : DE X (.Constant .none j pos) (tCD .non) := de_c pe_non fun _ => rfl
theorem de_str {x j} : DE X (.Constant (.str x) j pos) (tCD (.str x)) := de_c pe_str fun _ => rfl
end

/-! ### operators -/
section
variable {X : Cx} {pos : Pos} {a b c e : Expr} {ta tb tc te : TED} {tt : TTD}
def tOpD (r : R2D) (ta tb : TED) : TED := fun δ S Q => ta δ S fun x S1 => tb δ S1 fun y S2 => r x y S2 Q
theorem op_lift {r : R2D} {σ : L2.St} {H : Hp} {Q : VK} (h : liftE X.K (tOpD r ta tb) σ H Q) : tOp (lift2 X.K r) (liftE X.K ta) (liftE X.K tb) σ H Q := by
  obtain ⟨δ, S, Q0, h1, h2, h3, h4⟩ := h
  refine ⟨δ, S, _, h1, h2, h3, fun x S1 v H1 q e1 r1 s1 => ⟨δ, S1, _, h1.ext e1, s1, q, fun y S2 w H2 q2 e2 r2 s2 => ⟨x, y, S2, Q0, r1.ext e2, r2, s2, q2, fun d S' z H' q3 e3 r3 s3 => h4 d S' z H' q3 (e1.trans (e2.trans e3)) r3 s3⟩⟩⟩
theorem de_op {op : Operator} {r : R2D} (ho : OpD X (binaryOp op) r) (ha : DE X a ta) (hb : DE X b tb) : DE X (.BinOp a op b pos) (tOpD r ta tb) := PEi (pe_op ho ha hb) fun _ _ _ h => op_lift h
theorem de_cmp {op : CmpOp} {r : R2D} (ho : OpD X (compareOp op) r) (ha : DE X a ta) (hb : DE X b tb) (hm : behindInMarks op b = false) : DE X (.Compare a [op] [b] pos) (tOpD r ta tb) := PEi (pe_cmpR ho ha hb hm) fun _ _ _ h => op_lift h
/-- the answer of an expression that tells a truth, as a test -/
def tTestD (t : TED) : TTD := fun δ S Q => t δ S fun x S1 => match x with
  | .bl k => Q k S1
  | _ => False
theorem test_lift {σ : L2.St} {H : Hp} {Q : Bool → Hp → Prop} (h : liftT X.K (tTestD te) σ H Q) : tB (liftE X.K te) σ H Q := by
  obtain ⟨δ, S, Q0, h1, h2, h3, h4⟩ := h
  refine ⟨δ, S, _, h1, h2, h3, fun x S1 v H1 q e1 r1 s1 => ?_⟩
  cases x with
  | bl k => exact ⟨k, r1, h4 _ _ _ q e1 s1⟩
  | _ => cases q
theorem dt_cmp {op : CmpOp} {r : R2D} (ho : OpD X (compareOp op) r) (ha : DE X a ta) (hb : DE X b tb) (hm : behindInMarks op b = false) : DT X (.Compare a [op] [b] pos) (tTestD (tOpD r ta tb)) := PTi (pt_cmpR ho ha hb hm) fun σ H Q h => by
  obtain ⟨k, S, Q0, h1, h2, h3, h4⟩ := test_lift h
  exact op_lift (X := X) ⟨k, S, Q0, h1, h2, h3, h4⟩
/-- a call, a name that tells a truth, as a test -/
theorem dt_val (h : DE X e te) (he : ∀ whole, isTrue e X.env whole = (do let v ← whole; standAt e.pos; holding [v] (truthy v)) := by intro _; rfl) : DT X e (tTestD te) := PTi (pt_val h he) fun _ _ _ q => test_lift q
def tAndD (t u : TTD) : TTD := fun δ S Q => t δ S fun c S1 => if c = true then u δ S1 Q else Q false S1
def tOrD (t u : TTD) : TTD := fun δ S Q => t δ S fun c S1 => if c = true then Q true S1 else u δ S1 Q
def tNotD (t : TTD) : TTD := fun δ S Q => t δ S fun c S1 => Q (!c) S1
variable {rest : List Expr} {tA tB : TTD}
theorem dw_and1 (ha : DT X a tA) : DW X (.BoolOp .And [a] pos) tA := pw_and1 ha
theorem dw_or1 (ha : DT X a tA) : DW X (.BoolOp .Or [a] pos) tA := pw_or1 ha
theorem dw_and (ha : DT X a tA) (hb : DW X (.BoolOp .And (b :: rest) pos) tB) : DW X (.BoolOp .And (a :: b :: rest) pos) (tAndD tA tB) := PWi (pw_and ha hb) fun σ H Q h => by
  obtain ⟨δ, S, Q0, h1, h2, h3, h4⟩ := h
  refine ⟨δ, S, _, h1, h2, h3, fun c S1 H1 q e1 s1 => ?_⟩
  cases c with
  | true => exact ⟨δ, S1, Q0, h1.ext e1, s1, q, fun b' S' H' q' e' s' => h4 b' S' H' q' (e1.trans e') s'⟩
  | false => exact h4 _ _ _ q e1 s1
theorem dw_or (ha : DT X a tA) (hb : DW X (.BoolOp .Or (b :: rest) pos) tB) : DW X (.BoolOp .Or (a :: b :: rest) pos) (tOrD tA tB) := PWi (pw_or ha hb) fun σ H Q h => by
  obtain ⟨δ, S, Q0, h1, h2, h3, h4⟩ := h
  refine ⟨δ, S, _, h1, h2, h3, fun c S1 H1 q e1 s1 => ?_⟩
  cases c with
  | true => exact h4 _ _ _ q e1 s1
  | false => exact ⟨δ, S1, Q0, h1.ext e1, s1, q, fun b' S' H' q' e' s' => h4 b' S' H' q' (e1.trans e') s'⟩
theorem dt_w (h : DW X e tt) : DT X e tt := PW.pt h
theorem dt_not (ha : DT X a tA) : DT X (.UnaryOp .Not a pos) (tNotD tA) := PTi (pt_not ha) fun σ H Q h => by
  obtain ⟨δ, S, Q0, h1, h2, h3, h4⟩ := h
  exact ⟨δ, S, _, h1, h2, h3, fun c S1 H1 q e1 s1 => h4 _ _ _ q e1 s1⟩
/-- and, or, not as values: of truths -/
def tAndV (ta tb : TED) : TED := fun δ S Q => ta δ S fun x S1 => match x with
  | .bl c => if c = true then tb δ S1 Q else Q (.bl false) S1
  | _ => False
def tOrV (ta tb : TED) : TED := fun δ S Q => ta δ S fun x S1 => match x with
  | .bl c => if c = true then Q (.bl true) S1 else tb δ S1 Q
  | _ => False
def tNotV (ta : TED) : TED := fun δ S Q => ta δ S fun x S1 => match x with
  | .bl c => Q (.bl (!c)) S1
  | _ => False
theorem de_one {op} (h : DE X a ta) : DE X (.BoolOp op [a] pos) ta := pe_one h
theorem de_and (ha : DE X a ta) (hb : DE X (.BoolOp .And (b :: rest) pos) tb) : DE X (.BoolOp .And (a :: b :: rest) pos) (tAndV ta tb) := PEi (pe_and ha hb) fun σ H Q h => by
  obtain ⟨δ, S, Q0, h1, h2, h3, h4⟩ := h
  refine ⟨δ, S, _, h1, h2, h3, fun x S1 v H1 q e1 r1 s1 => ?_⟩
  cases x with
  | bl k =>
    refine ⟨k, r1, ?_⟩
    cases k with
    | true => exact ⟨δ, S1, Q0, h1.ext e1, s1, q, fun b' S' w H' q' e' r' s' => h4 b' S' w H' q' (e1.trans e') r' s'⟩
    | false => exact h4 _ _ _ _ q e1 rfl s1
  | _ => cases q
theorem de_or (ha : DE X a ta) (hb : DE X (.BoolOp .Or (b :: rest) pos) tb) : DE X (.BoolOp .Or (a :: b :: rest) pos) (tOrV ta tb) := PEi (pe_or ha hb) fun σ H Q h => by
  obtain ⟨δ, S, Q0, h1, h2, h3, h4⟩ := h
  refine ⟨δ, S, _, h1, h2, h3, fun x S1 v H1 q e1 r1 s1 => ?_⟩
  cases x with
  | bl k =>
    refine ⟨k, r1, ?_⟩
    cases k with
    | false => exact ⟨δ, S1, Q0, h1.ext e1, s1, q, fun b' S' w H' q' e' r' s' => h4 b' S' w H' q' (e1.trans e') r' s'⟩
    | true => exact h4 _ _ _ _ q e1 rfl s1
  | _ => cases q
theorem de_not (ha : DE X a ta) : DE X (.UnaryOp .Not a pos) (tNotV ta) := PEi (pe_not ha) fun σ H Q h => by
  obtain ⟨δ, S, Q0, h1, h2, h3, h4⟩ := h
  refine ⟨δ, S, _, h1, h2, h3, fun x S1 v H1 q e1 r1 s1 => ?_⟩
  cases x with
  | bl k => exact ⟨k, r1, h4 _ _ _ _ q e1 rfl s1⟩
  | _ => cases q
def tIfD (t : TTD) (ta tb : TED) : TED := fun δ S Q => t δ S fun c S1 => if c = true then ta δ S1 Q else tb δ S1 Q
theorem de_if (hc : DT X c tt) (ha : DE X a ta) (hb : DE X b tb) : DE X (.IfExp c a b pos) (tIfD tt ta tb) := PEi (pe_ifExp hc ha hb) fun σ H Q h => by
  obtain ⟨δ, S, Q0, h1, h2, h3, h4⟩ := h
  refine ⟨δ, S, _, h1, h2, h3, fun k S1 H1 q e1 s1 => ?_⟩
  cases k with
  | true => exact ⟨δ, S1, Q0, h1.ext e1, s1, q, fun b' S' w H' q' e' r' s' => h4 b' S' w H' q' (e1.trans e') r' s'⟩
  | false => exact ⟨δ, S1, Q0, h1.ext e1, s1, q, fun b' S' w H' q' e' r' s' => h4 b' S' w H' q' (e1.trans e') r' s'⟩
/-- a negative number -/
def tNegD (ta : TED) : TED := fun δ S Q => ta δ S fun x S1 => match x with
  | .int i => Q (.int (-i)) S1
  | _ => False
theorem de_neg (ha : DE X a ta) : DE X (.UnaryOp .USub a pos) (tNegD ta) := PEi (pe_un un_neg ha) fun σ H Q h => by
  obtain ⟨δ, S, Q0, h1, h2, h3, h4⟩ := h
  refine ⟨δ, S, _, h1, h2, h3, fun x S1 v H1 q e1 r1 s1 => ?_⟩
  cases x with
  | int i => exact ⟨i, r1, h4 _ _ _ _ q e1 rfl s1⟩
  | _ => cases q
end

/-! ### arguments, tuples, lists -/
section
variable {X : Cx} {pos : Pos} {e : Expr} {es : List Expr} {te : TED} {t : TAD}
def tNilD : TAD := fun _ S Q => Q [] S
def tConsD (te : TED) (t : TAD) : TAD := fun δ S Q => te δ S fun x S1 => t δ S1 fun xs S2 => Q (x :: xs) S2
theorem da_nil : DA X [] tNilD := PAi pa_nil fun σ H Q h => by
  obtain ⟨δ, S, Q0, h1, h2, h3, h4⟩ := h
  exact h4 _ _ _ _ h3 .refl rfl h2
theorem da_cons (ha : DE X e te) (hr : DA X es t) (hs : starEach (e :: es) X.env = (false, eval e X.env) :: starEach es X.env := by rfl) : DA X (e :: es) (tConsD te t) := PAi (pa_cons ha hr hs) fun σ H Q h => by
  obtain ⟨δ, S, Q0, h1, h2, h3, h4⟩ := h
  refine ⟨δ, S, _, h1, h2, h3, fun x S1 v H1 q e1 r1 s1 => ⟨δ, S1, _, h1.ext e1, s1, q, fun xs S2 vs H2 q2 e2 r2 s2 => h4 _ _ _ _ q2 (e1.trans e2) ⟨v, vs, rfl, r1.ext e2, r2⟩ s2⟩⟩
def tTupD (t : TAD) : TED := fun δ S Q => t δ S fun xs S1 => xs.length ≤ sizeLine ∧ Q (.tup xs) S1
def tLstD (t : TAD) : TED := fun δ S Q => t δ S fun xs S1 => xs.length ≤ sizeLine ∧ ∀ p, S1 p = none → Q (.ref p) (put S1 p (.lst xs))
theorem RD.newTup {K : PySem.W.Frag} {H : Hp} {p : Addr} {ds : List D} {vs : List V} (n : H p = none) (h : RDs K H ds vs) : RD K (upd H p (.tup vs)) (.tup ds) (.ref p) := ⟨p, vs, rfl, SqT.of upd_same, h.ext (Ext.new n)⟩
theorem RS.newLst {K : PySem.W.Frag} {H : Hp} {S : Store} {p : Addr} {ds : List D} {vs : List V} (s : RS K H S) (n : H p = none) (h : RDs K H ds vs) : RS K (upd H p (.lst vs)) (DL.put S p (.lst ds)) := s.new n ⟨vs, upd_same, h.ext (Ext.new n)⟩
theorem de_tup {x1} (h : DA X es t) : DE X (.Tuple es x1 pos) (tTupD t) := PEi (pe_tup h) fun σ H Q q => by
  obtain ⟨δ, S, Q0, h1, h2, h3, h4⟩ := q
  refine ⟨δ, S, _, h1, h2, h3, fun xs S1 vs H1 q1 e1 r1 s1 => ⟨by rw [r1.length]; exact q1.1, fun p np => ?_⟩⟩
  exact h4 _ _ _ _ q1.2 (e1.trans (Ext.new np)) (.newTup np r1) (s1.grow np)
theorem de_lst (h : DA X es t) : DE X (.List es pos) (tLstD t) := PEi (pe_lst h) fun σ H Q q => by
  obtain ⟨δ, S, Q0, h1, h2, h3, h4⟩ := q
  refine ⟨δ, S, _, h1, h2, h3, fun xs S1 vs H1 q1 e1 r1 s1 => ⟨by rw [r1.length]; exact q1.1, fun p np => ?_⟩⟩
  exact h4 _ _ _ _ (q1.2 p (s1.free np)) (e1.trans (Ext.new np)) rfl (s1.newLst np r1)
end

/-! ### statements -/
section
variable {X : Cx} {pos : Pos} {st : Stmt} {rest : List Stmt} {t u : TSD} {e : Expr} {te : TED} {tt : TTD}
def tNextD : TSD := fun G δ S => G.nx δ S
def tSeqD (t u : TSD) : TSD := fun G δ S => t { G with nx := u G } δ S
def tRetD (te : TED) : TSD := fun G δ S => te δ S G.rt
def tDropD (te : TED) : TSD := fun G δ S => te δ S fun _ S1 => G.nx δ S1
def tIfSD (c : TTD) (t u : TSD) : TSD := fun G δ S => c δ S fun b S1 => if b = true then t G δ S1 else u G δ S1
def tBreakD : TSD := fun G δ S => G.bk δ S
def tContD : TSD := fun G δ S => G.ct δ S
theorem lift_shift {K : PySem.W.Frag} {G : EndsD} {E : Ends} {δ : StD} {S : Store} {σ : L2.St} {H H1 : Hp} {t : TSD} (e : Ext K H H1) (h1 : RSt K H1 δ σ) (h2 : RS K H1 S) (h : t G δ S)
    (n : ∀ δ' S' σ' H', G.nx δ' S' → Ext K H H' → RSt K H' δ' σ' → RS K H' S' → E.nx σ' H') (r : ∀ d S' v H', G.rt d S' → Ext K H H' → RD K H' d v → RS K H' S' → E.rt v H')
    (b : ∀ δ' S' σ' H', G.bk δ' S' → Ext K H H' → RSt K H' δ' σ' → RS K H' S' → E.bk σ' H') (c : ∀ δ' S' σ' H', G.ct δ' S' → Ext K H H' → RSt K H' δ' σ' → RS K H' S' → E.ct σ' H') : liftS K t E σ H1 :=
  ⟨δ, S, G, h1, h2, h, fun δ' S' σ' H' q x => n δ' S' σ' H' q (e.trans x), fun d S' v H' q x => r d S' v H' q (e.trans x), fun δ' S' σ' H' q x => b δ' S' σ' H' q (e.trans x), fun δ' S' σ' H' q x => c δ' S' σ' H' q (e.trans x)⟩
theorem dss_nil : DSs X [] tNextD := PSsi pss_nil fun E σ H h => by
  obtain ⟨δ, S, G, h1, h2, h3, n, r, b, c⟩ := h
  exact n _ _ _ _ h3 .refl h1 h2
theorem dss_cons (h1 : DS X st t) (h2 : DSs X rest u) : DSs X (st :: rest) (tSeqD t u) := PSsi (pss_cons h1 h2) fun E σ H h => by
  obtain ⟨δ, S, G, h1, h2, h3, n, r, b, c⟩ := h
  exact ⟨δ, S, _, h1, h2, h3, fun δ' S' σ' H' q x h1' h2' => lift_shift x h1' h2' q n r b c, r, b, c⟩
theorem dss_one (h1 : DS X st t) : DSs X [st] t := pss_one h1
theorem ds_pass : DS X (.Pass pos) tNextD := PSi ps_pass fun E σ H h => by
  obtain ⟨δ, S, G, h1, h2, h3, n, r, b, c⟩ := h
  exact n _ _ _ _ h3 .refl h1 h2
theorem ds_break : DS X (.Break pos) tBreakD := PSi ps_break fun E σ H h => by
  obtain ⟨δ, S, G, h1, h2, h3, n, r, b, c⟩ := h
  exact b _ _ _ _ h3 .refl h1 h2
theorem ds_cont : DS X (.Continue pos) tContD := PSi ps_continue fun E σ H h => by
  obtain ⟨δ, S, G, h1, h2, h3, n, r, b, c⟩ := h
  exact c _ _ _ _ h3 .refl h1 h2
theorem ds_expr (he : DE X e te) (hs : swapsWith e none pos.line X.env = pure false := by rfl) : DS X (.Expr e pos) (tDropD te) := PSi (ps_expr he hs) fun E σ H h => by
  obtain ⟨δ, S, G, h1, h2, h3, n, r, b, c⟩ := h
  exact ⟨δ, S, _, h1, h2, h3, fun d S1 v H1 q e1 r1 s1 => n _ _ _ _ q e1 (h1.ext e1) s1⟩
theorem ds_ret (he : DE X e te) : DS X (.Return (some e) pos) (tRetD te) := PSi (ps_ret he) fun E σ H h => by
  obtain ⟨δ, S, G, h1, h2, h3, n, r, b, c⟩ := h
  exact ⟨δ, S, _, h1, h2, h3, fun d S1 v H1 q e1 r1 s1 => r _ _ _ _ q e1 r1 s1⟩
def tRetND : TSD := fun G _ S => G.rt .non S
theorem ds_retN : DS X (.Return none pos) tRetND := PSi ps_retN fun E σ H h => by
  obtain ⟨δ, S, G, h1, h2, h3, n, r, b, c⟩ := h
  exact r _ _ _ _ h3 .refl rfl h2
theorem ds_if {c : Expr} {x y : List Stmt} (hc : DT X c tt) (ha : DSs X x t) (hb : DSs X y u) : DS X (.If c x y pos) (tIfSD tt t u) := PSi (ps_if hc ha hb) fun E σ H h => by
  obtain ⟨δ, S, G, h1, h2, h3, n, r, b, c⟩ := h
  refine ⟨δ, S, _, h1, h2, h3, fun k S1 H1 q e1 s1 => ?_⟩
  cases k with
  | true => exact lift_shift e1 (h1.ext e1) s1 q n r b c
  | false => exact lift_shift e1 (h1.ext e1) s1 q n r b c
def tNeverD : TSD := fun _ _ _ => False
theorem ds_never : DS X st tNeverD := PSi ps_never fun E σ H h => by
  obtain ⟨δ, S, G, h1, h2, h3, n, r, b, c⟩ := h
  exact h3
theorem dss_never : DSs X rest tNeverD := PSsi pss_never fun E σ H h => by
  obtain ⟨δ, S, G, h1, h2, h3, n, r, b, c⟩ := h
  exact h3
end

/-! ### targets: a name, several names -/
inductive GD where
  | one (i : Nat) | many (is : List Nat)
def gNames : List Nat → TGs
  | [] => gNil
  | i :: r => gCons (gName i) (gNames r)
def realG (K : PySem.W.Frag) : GD → TG
  | .one i => gName i
  | .many is => gTup K is.length (gNames is)
def stos : StD → List Nat → List D → StD
  | δ, i :: is, d :: ds => stos (sto δ i (some d)) is ds
  | δ, _, _ => δ
def asg : GD → D → StD → Store → (StD → Store → Prop) → Prop
  | .one i, d, δ, S, Q => Q (sto δ i (some d)) S
  | .many is, .tup ds, δ, S, Q => ds.length = is.length ∧ Q (stos δ is ds) S
  | _, _, _, _, _ => False
def DG (X : Cx) (tg : Expr) (g : GD) : Prop := PG X tg (realG X.K g)
def DGs (X : Cx) (ts : List Expr) (is : List Nat) : Prop := PGs X ts (gNames is)
section
variable {X : Cx} {pos : Pos} {tg e : Expr} {te : TED} {g : GD}
theorem dg_name {i : Nat} {x : Str} (hN : X.N.Nodup) (hi : X.N[i]? = some x) (hx : Loc X.env.scope x) (hf : X.fn x = true ∨ X.env.scope.names.lookup x = some .local := by first | exact .inl rfl | exact .inr rfl | assumption) : DG X (.Name x pos) (.one i) := pg_name hN hi hx hf
theorem dgs_nil : DGs X [] [] := pgs_nil
theorem dgs_cons {es : List Expr} {i : Nat} {is : List Nat} (h1 : DG X e (.one i)) (h2 : DGs X es is) (hs : (assignEach (e :: es) X.env).map (·.2) = assign e X.env :: (assignEach es X.env).map (·.2) := by rfl) : DGs X (e :: es) (i :: is) := pgs_cons h1 h2 hs
theorem dg_tup {es : List Expr} {k : Nat} {is : List Nat} (hc : X.calm = true) (h : DGs X es is) (hn : (assignEach es X.env).length = is.length := by rfl) (hst : (assignEach es X.env).findIdx? (·.1) = none := by rfl) : DG X (.Tuple es k pos) (.many is) := pg_tup hc h hn hst
/-- the real slots behind several stores -/
def sets : L2.St → List Nat → List V → L2.St
  | σ, i :: is, v :: vs => sets (σ.set i (some v)) is vs
  | σ, _, _ => σ
theorem gNames_at : ∀ {is : List Nat} {vs : List V} {σ : L2.St} {H : Hp} {Q : L2.St → Hp → Prop}, vs.length = is.length → Q (sets σ is vs) H → gNames is vs σ H Q
  | [], [], _, _, _, _, q => ⟨rfl, q⟩
  | i :: is, v :: vs, σ, H, Q, e, q => ⟨v, vs, rfl, gNames_at (by simpa using e) q⟩
theorem RSt.sets {K : PySem.W.Frag} {H : Hp} : ∀ {is : List Nat} {ds : List D} {vs : List V} {δ : StD} {σ : L2.St}, RSt K H δ σ → RDs K H ds vs → RSt K H (stos δ is ds) (DL.sets σ is vs)
  | [], _, _, _, _, h, _ => by unfold stos DL.sets; exact h
  | i :: is, [], _, _, _, h, q => by cases (show _ = [] from q); unfold stos DL.sets; exact h
  | i :: is, d :: ds, _, _, _, h, q => by
    obtain ⟨v, r, rfl, h1, h2⟩ := q
    exact RSt.sets (is := is) (h.sto h1) h2
/-- what a store does, over data -/
theorem asg_real {K : PySem.W.Frag} {g : GD} {d : D} {v : V} {δ : StD} {σ : L2.St} {S : Store} {H : Hp} {Q0 : StD → Store → Prop} {Q : L2.St → Hp → Prop} (h : asg g d δ S Q0) (rd : RD K H d v) (h1 : RSt K H δ σ) (h2 : RS K H S)
    (q : ∀ δ' σ', Q0 δ' S → RSt K H δ' σ' → Q σ' H) : realG K g v σ H Q := by
  cases g with
  | one i => exact q _ _ h (h1.sto rd)
  | many is =>
    cases d with
    | tup ds =>
      obtain ⟨hl, h⟩ := h
      obtain ⟨p, vs, rfl, ht, hd⟩ := rd
      exact ⟨p, vs, rfl, ht, by rw [hd.length]; exact hl, gNames_at (by rw [hd.length]; exact hl) (q _ _ h (h1.sets hd))⟩
    | _ => cases h
def tAsgD (te : TED) (g : GD) : TSD := fun G δ S => te δ S fun d S1 => asg g d δ S1 G.nx
theorem ds_asg (he : DE X e te) (hg : DG X tg g) (hs : swapsWithSole [tg] e pos.line X.env = pure false := by rfl) (hw : swappedStores [tg] e X.env = pure none := by rfl)
    (h1 : (assignEach [tg] X.env).map (·.2) = [assign tg X.env] := by rfl) : DS X (.Assign [tg] e pos) (tAsgD te g) := PSi (ps_asg he hg hs hw h1) fun E σ H h => by
  obtain ⟨δ, S, G, h1, h2, h3, n, r, b, c⟩ := h
  exact ⟨δ, S, _, h1, h2, h3, fun d S1 v H1 q e1 r1 s1 => asg_real q r1 (h1.ext e1) s1 fun δ' σ' q' h' => n _ _ _ _ q' e1 h' s1⟩
theorem ds_set {i : Nat} {x : Str} {pos' : Pos} (hN : X.N.Nodup) (hi : X.N[i]? = some x) (hx : Loc X.env.scope x) (he : DE X e te) (hs : swapsWith e (some (.Name x pos')) pos.line X.env = pure false := by rfl) (hf : X.fn x = true ∨ X.env.scope.names.lookup x = some .local := by first | exact .inl rfl | exact .inr rfl | assumption) :
    DS X (.Assign [.Name x pos'] e pos) (tAsgD te (.one i)) := PSi (ps_set hN hi hx he hs hf) fun E σ H h => by
  obtain ⟨δ, S, G, h1, h2, h3, n, r, b, c⟩ := h
  exact ⟨δ, S, _, h1, h2, h3, fun d S1 v H1 q e1 r1 s1 => asg_real (g := .one i) q r1 (h1.ext e1) s1 fun δ' σ' q' h' => n _ _ _ _ q' e1 h' s1⟩
end

/-! ### defs and calls -/
abbrev SpD := List D → Store → KD → Prop
def liftSp (K : PySem.W.Frag) (sp : SpD) : Sp := fun vs H Q _ => ∃ ds S Q0, RDs K H ds vs ∧ RS K H S ∧ sp ds S Q0 ∧ ∀ d S' v H', Q0 d S' → Ext K H H' → RD K H' d v → RS K H' S' → Q v H'
/-- the def of that name keeps its promise -/
def Df (P : Program) (w : World) (K : PySem.W.Frag) (mg : Str → Option Value) (base : Heap) (x : Str) (k : Nat) (sp : SpD) : Prop :=
  ∃ f fd ps, FnOk P w K mg base CX0 k f fd ps (liftSp K sp) ∧ mg x = some (.ref f) ∧ PySem.W.keepIn K (.ref f) = true ∧ Binds K fd ps []
/-- the def of that name stands as the text says -/
def At (K : PySem.W.Frag) (mg : Str → Option Value) (g x : Str) (st : Stmt) : Prop := ∃ f fd, Fun K x x st f fd ∧ mg g = some (.ref f)
/-- a module's constant -/
def Cst (K : PySem.W.Frag) (mg : Str → Option Value) (x : Str) (d : D) : Prop := ∃ v u, mg x = some u ∧ RelV v u ∧ ∀ H, RD K H d v
section
variable {P : Program} {w : World} {K : PySem.W.Frag} {mg : Str → Option Value} {base : Heap}
theorem Df.mono {x : Str} {j k : Nat} {sp : SpD} (h : Df P w K mg base x j sp) (l : j ≤ k) : Df P w K mg base x k sp := by
  obtain ⟨f, fd, ps, h1, h2⟩ := h
  exact ⟨f, fd, ps, h1.mono l, h2⟩
theorem Df.imp {x : Str} {k : Nat} {sp sp' : SpD} (h : Df P w K mg base x k sp) (l : ∀ ds S Q, sp' ds S Q → sp ds S Q) : Df P w K mg base x k sp' := by
  obtain ⟨f, fd, ps, h1, h2⟩ := h
  exact ⟨f, fd, ps, h1.imp fun vs H Q E ⟨ds, S, Q0, a, b, c, d⟩ => ⟨ds, S, Q0, a, b, l _ _ _ c, d⟩, h2⟩
/-- a def's end: what is made within may be forgotten -/
def endsD (Q : KD) : EndsD := { nx := fun _ S' => ∃ S'', Sub S'' S' ∧ Q .non S'', rt := fun d S' => ∃ S'', Sub S'' S' ∧ Q d S'' }
theorem df_mk {g x : Str} {st : Stmt} {N ps : List Str} {k : Nat} {sp : SpD} {sc : Scope} (A : At K mg g x st) (hsc : defScope st = sc) (SC : FnScope N ps sc)
    (hbi : ∀ (kV doc pm : Value) (an : Option Addr) (cdv ct : Value) (us : List Value), us.length = ps.length → bindArgs (PySem.W.fnOf x x (defArgs st) (defBody st) (defScope st) .none kV doc pm an cdv ct) ⟨us, []⟩ = pure (ps.zip us))
    (len : ∀ ds S Q, sp ds S Q → ds.length = ps.length)
    (hbody : ∀ (f : Addr) (cdv : Value) (A : Around) (outer : List Env) (s : Shared) (H : Hp) (E : XK), Room k (A.deeper (envOfC x sc s.heap.objs.size f cdv)) → ∀ ds S Q, sp ds S Q →
      ∃ t, DSs (cxOf CX0 P w K mg base N x sc f cdv A outer s H E).nox (defBody st) t ∧ t (endsD Q) (startD N ds) S) : Df P w K mg base g (k + 1) sp := by
  obtain ⟨f, fd, F, hm⟩ := A
  refine ⟨f, fd, ps, ?_, hm, F.kp, F.binds hbi⟩
  subst hsc
  refine F.ok SC (fun vs H Q E h => ?_) (fun cdv A outer s H vs Q E hr h => ?_)
  · obtain ⟨ds, S, Q0, h1, h2, h3, h4⟩ := h
    rw [h1.length, len _ _ _ h3]
  · obtain ⟨ds, S, Q0, h1, h2, h3, h4⟩ := h
    obtain ⟨t, ht, q⟩ := hbody f cdv A outer s H E hr ds S Q0 h3
    refine ⟨_, ht, startD N ds, S, _, ?_, h2, q, fun δ' S' σ' H' n e r' s' => ?_, fun d S' v H' n e r' s' => ?_, fun _ _ _ _ n => n.elim, fun _ _ _ _ n => n.elim⟩
    · unfold startD L2.start
      rw [← h1.length]
      exact RSt.args h1
    · obtain ⟨S'', hs, q⟩ := n
      exact h4 _ _ _ _ q e rfl (s'.sub hs)
    · obtain ⟨S'', hs, q⟩ := n
      exact h4 _ _ _ _ q e r' (s'.sub hs)
end
section
variable {X : Cx} {pos p : Pos} {e : Expr} {es : List Expr} {t : TAD} {x : Str} {k : Nat} {sp : SpD}
theorem de_cst {d : D} (hg : Gl X x) (h : Cst X.K X.mg x d) (hdb : (x == ("__debug__" : Str)) = false := by decide) : DE X (.Name x pos) (tCD d) := by
  obtain ⟨v, u, hm, r, hd⟩ := h
  exact de_c (pe_glob hg hm r hdb) hd
def tCallD (sp : SpD) (t : TAD) : TED := fun δ S Q => t δ S fun ds S1 => sp ds S1 Q
theorem call_lift {σ : L2.St} {H : Hp} {Q : VK} (h : liftE X.K (tCallD sp t) σ H Q) : tCall (liftSp X.K sp) [] E0 (liftA X.K t) σ H Q := by
  obtain ⟨δ, S, Q0, h1, h2, h3, h4⟩ := h
  refine ⟨δ, S, _, h1, h2, h3, fun ds S1 vs H1 q e1 r1 s1 => ?_⟩
  show liftSp X.K sp (vs ++ []) H1 Q E0
  rw [List.append_nil]
  exact ⟨ds, S1, Q0, r1, s1, q, fun d S' v H' q' e' r' s' => h4 _ _ _ _ q' (e1.trans e') r' s'⟩
theorem de_call (F : Df X.prog X.w X.K X.mg X.base x k sp) (hr : Room k X.A) (hg : Gl X x) (ha : DA X (e :: es) t) (hd : (x == ("__debug__" : Str)) = false := by decide) (he : starEach (e :: es) X.env = (false, eval e X.env) :: starEach es X.env := by rfl) (hpl : (backTo pos (starEach es X.env)).any (·.1) = false := by rfl) : DE X (.Call (.Name x p) (e :: es) [] pos) (tCallD sp t) := by
  obtain ⟨f, fd, ps, h1, h2, h3, h4⟩ := F
  exact PEi (pe_call h1 hr hg h2 h3 h4 .nil pass0 ha hd he hpl) fun _ _ _ h => call_lift h
theorem de_call0 (F : Df X.prog X.w X.K X.mg X.base x k sp) (hr : Room k X.A) (hg : Gl X x) (hd : (x == ("__debug__" : Str)) = false := by decide) : DE X (.Call (.Name x p) [] [] pos) (tCallD sp tNilD) := by
  obtain ⟨f, fd, ps, h1, h2, h3, h4⟩ := F
  refine PEi (pe_call0 h1 hr hg h2 h3 h4 .nil pass0 hd) fun σ H Q h => ?_
  obtain ⟨δ, S, Q0, g1, g2, g3, g4⟩ := h
  exact ⟨[], S, Q0, rfl, g2, g3, g4⟩
/-- a built-in by its name -/
theorem callB_lift {r : RAD} {σ : L2.St} {H : Hp} {Q : VK} (h : liftE X.K (tCallD r t) σ H Q) : tCB (liftC X.K r) (liftA X.K t) σ H Q := by
  obtain ⟨δ, S, Q0, h1, h2, h3, h4⟩ := h
  exact ⟨δ, S, _, h1, h2, h3, fun ds S1 vs H1 q e1 r1 s1 => ⟨ds, S1, Q0, r1, s1, q, fun d S' v H' q' e' r' s' => h4 _ _ _ _ q' (e1.trans e') r' s'⟩⟩
theorem de_callB {id : String} {r : RAD} (hc : CallD X (.builtin id) r) (hg : Gl X x) (hm : X.mg x = none) (hv : bootBuiltins x = some (.builtin id)) (ha : DA X (e :: es) t) (hn : x ≠ "__name__" := by decide) (hdb : (x == ("__debug__" : Str)) = false := by decide) (he : starEach (e :: es) X.env = (false, eval e X.env) :: starEach es X.env := by rfl) (hpl : (backTo pos (starEach es X.env)).any (·.1) = false := by rfl) :
    DE X (.Call (.Name x p) (e :: es) [] pos) (tCallD r t) := PEi (pe_callB hc hg hm hv ha hn hdb he hpl) fun _ _ _ h => callB_lift h
theorem de_callTy {T : String} {r : RAD} (hc : CallD X (.type T) r) (hg : Gl X x) (hm : X.mg x = none) (hv : bootBuiltins x = some (.type T)) (ha : DA X (e :: es) t) (hn : x ≠ "__name__" := by decide) (hdb : (x == ("__debug__" : Str)) = false := by decide) (he : starEach (e :: es) X.env = (false, eval e X.env) :: starEach es X.env := by rfl) (hpl : (backTo pos (starEach es X.env)).any (·.1) = false := by rfl) :
    DE X (.Call (.Name x p) (e :: es) [] pos) (tCallD r t) := PEi (pe_callTy hc hg hm hv ha hn hdb he hpl) fun _ _ _ h => callB_lift h
end
end DL

set_option Elab.async false
set_option maxRecDepth 100000
/-! DLc: operators, comparisons, subscripts, slices over data. -/
namespace DL
open PySem PySem.Spec PyProof.Rows L2

section
variable {X : Cx}
/-! ### + - * // % ** -/
def oAdd : R2D := fun x y S Q => match x, y with
  | .int i, .int j => Q (.int (i + j)) S
  | .str a, .str b => a.length + b.length ≤ sizeLine ∧ Q (.str (a ++ b)) S
  | .tup a, .tup b => a.length + b.length ≤ sizeLine ∧ Q (.tup (a ++ b)) S
  | .ref a, .ref b => ∃ xs ys, S a = some (.lst xs) ∧ S b = some (.lst ys) ∧ xs.length + ys.length ≤ sizeLine ∧ ∀ p, S p = none → Q (.ref p) (put S p (.lst (xs ++ ys)))
  | _, _ => False
theorem od_add : OpD X (binaryOp .Add) oAdd := by
  intro pins s σ H x y v u Q I rx ry h
  obtain ⟨dx, dy, S, Q0, hx, hy, hs, h, q⟩ := h
  cases dx with
  | int i =>
    cases dy with
    | int j =>
      cases (show x = .int i from hx)
      cases (show y = .int j from hy)
      exact op_add pins s σ H _ _ v u Q I rx ry ⟨i, j, rfl, rfl, q _ _ _ _ h .refl rfl hs⟩
    | _ => cases h
  | str a =>
    cases dy with
    | str b =>
      cases (show x = .str a from hx)
      cases (show y = .str b from hy)
      exact op_add_str pins s σ H _ _ v u Q I rx ry ⟨a, b, rfl, rfl, h.1, q _ _ _ _ h.2 .refl rfl hs⟩
    | _ => cases h
  | tup a =>
    cases dy with
    | tup b =>
      obtain ⟨p, vs, rfl, tp, hp⟩ := hx
      obtain ⟨r, ws, rfl, tr, hr⟩ := hy
      refine op_catA pins s σ H _ _ v u Q I rx ry ⟨p, r, vs, ws, rfl, rfl, tp, tr, by rw [hp.length, hr.length]; exact h.1, fun e => ?_, fun _ e => ?_, fun _ _ z nz => ?_⟩
      · have e1 := hp.nil_iff.mp e
        subst e1
        exact q _ _ _ _ h.2 .refl ⟨r, ws, rfl, tr, hr⟩ hs
      · have e1 := hr.nil_iff.mp e
        subst e1
        have h2 := h.2
        rw [List.append_nil] at h2
        exact q _ _ _ _ h2 .refl ⟨p, vs, rfl, tp, hp⟩ hs
      · exact q _ _ _ _ h.2 (Ext.new nz) (.newTup nz (hp.append hr)) (hs.grow nz)
    | _ => cases h
  | ref a =>
    cases dy with
    | ref b =>
      cases (show x = .ref a from hx)
      cases (show y = .ref b from hy)
      obtain ⟨xs, ys, ea, eb, hl, h⟩ := h
      obtain ⟨vs, ha, ra⟩ := hs.lst ea
      obtain ⟨ws, hb, rb⟩ := hs.lst eb
      exact op_cat pins s σ H _ _ v u Q I rx ry ⟨a, b, vs, ws, rfl, rfl, ha, hb, by rw [ra.length, rb.length]; exact hl, fun p np => q _ _ _ _ (h p (hs.free np)) (Ext.new np) rfl (hs.newLst np (ra.append rb))⟩
    | _ => cases h
  | _ => cases dy <;> cases h
/-- two ints, under C -/
def oII (C : Int → Int → Prop) (g : Int → Int → D) : R2D := fun x y S Q => match x, y with
  | .int i, .int j => C i j ∧ Q (g i j) S
  | _, _ => False
theorem od_ii {f : Value → Value → Sem Value} {C : Int → Int → Prop} {g : Int → Int → V} {g' : Int → Int → D} (o : OpR X f (rI C g)) (e : ∀ i j H, RD X.K H (g' i j) (g i j)) : OpD X f (oII C g') := by
  intro pins s σ H x y v u Q I rx ry h
  obtain ⟨dx, dy, S, Q0, hx, hy, hs, h, q⟩ := h
  cases dx with
  | int i =>
    cases dy with
    | int j =>
      cases (show x = .int i from hx)
      cases (show y = .int j from hy)
      exact o pins s σ H _ _ v u Q I rx ry ⟨i, j, rfl, rfl, h.1, q _ _ _ _ h.2 .refl (e i j H) hs⟩
    | _ => cases h
  | _ => cases h
theorem rI_of {f : Value → Value → Sem Value} {g : Int → Int → V} (o : OpR X f (rI0 g)) : OpR X f (rI (fun _ _ => True) g) := OpRi o fun _ _ _ _ ⟨i, j, a, b, _, q⟩ => ⟨i, j, a, b, q⟩
def oSub : R2D := oII (fun _ _ => True) fun i j => .int (i - j)
theorem od_sub : OpD X (binaryOp .Sub) oSub := od_ii (rI_of op_sub) fun _ _ _ => rfl
def oMod : R2D := oII (fun _ j => 0 < j) fun i j => .int (i % j)
theorem od_mod : OpD X (binaryOp .Mod) oMod := od_ii op_mod fun _ _ _ => rfl
def oDiv : R2D := oII (fun _ j => 0 < j ∧ j < 1073741824) fun i j => .int (i / j)
theorem od_div : OpD X (binaryOp .FloorDiv) oDiv := od_ii op_fdiv fun _ _ _ => rfl
def oPow : R2D := oII CPow fun i j => .int (i ^ j.toNat)
theorem od_pow : OpD X (binaryOp .Pow) oPow := od_ii op_pow fun _ _ _ => rfl
def oShl : R2D := oII CPow fun i j => .int (i * 2 ^ j.toNat)
theorem od_shl : OpD X (binaryOp .LShift) oShl := od_ii op_shl fun _ _ _ => rfl
def oMul : R2D := fun x y S Q => match x, y with
  | .int i, .int j => ((-(2 ^ 64) < i ∧ i < 2 ^ 64) ∨ (-(2 ^ 64) < j ∧ j < 2 ^ 64)) ∧ Q (.int (i * j)) S
  | .ref a, .int k => ∃ xs, S a = some (.lst xs) ∧ -(2 ^ 63) ≤ k ∧ k < 2 ^ 63 ∧ xs.length * k.toNat ≤ sizeLine ∧ ∀ p, S p = none → Q (.ref p) (put S p (.lst (List.replicate k.toNat xs).flatten))
  | _, _ => False
theorem RDs.rep {K : PySem.W.Frag} {H : Hp} {ds : List D} {vs : List V} (h : RDs K H ds vs) : ∀ n : Nat, RDs K H (List.replicate n ds).flatten (List.replicate n vs).flatten
  | 0 => rfl
  | n + 1 => by
    rw [List.replicate_succ, List.replicate_succ, List.flatten_cons, List.flatten_cons]
    exact h.append (RDs.rep h n)
theorem od_mul : OpD X (binaryOp .Mult) oMul := by
  intro pins s σ H x y v u Q I rx ry h
  obtain ⟨dx, dy, S, Q0, hx, hy, hs, h, q⟩ := h
  cases dx with
  | int i =>
    cases dy with
    | int j =>
      cases (show x = .int i from hx)
      cases (show y = .int j from hy)
      exact op_mul pins s σ H _ _ v u Q I rx ry ⟨i, j, rfl, rfl, h.1, q _ _ _ _ h.2 .refl rfl hs⟩
    | _ => cases h
  | ref a =>
    cases dy with
    | int k =>
      cases (show x = .ref a from hx)
      cases (show y = .int k from hy)
      obtain ⟨xs, ea, k1, k2, k3, h⟩ := h
      obtain ⟨vs, ha, ra⟩ := hs.lst ea
      exact op_rep pins s σ H _ _ v u Q I rx ry ⟨a, k, vs, rfl, rfl, ha, k1, k2, by rw [ra.length]; exact k3, fun p np => q _ _ _ _ (h p (hs.free np)) (Ext.new np) rfl (hs.newLst np (ra.rep _))⟩
    | _ => cases h
  | _ => cases dy <;> cases h

/-! ### order -/
def oLt : R2D := fun x y S Q => match x, y with
  | .int i, .int j => Q (.bl (decide (i < j))) S
  | .str a, .str b => Q (.bl (decide (a.cps.toList < b.cps.toList))) S
  | _, _ => False
theorem od_lt : OpD X (compareOp .Lt) oLt := by
  intro pins s σ H x y v u Q I rx ry h
  obtain ⟨dx, dy, S, Q0, hx, hy, hs, h, q⟩ := h
  cases dx with
  | int i =>
    cases dy with
    | int j =>
      cases (show x = .int i from hx)
      cases (show y = .int j from hy)
      exact op_lt pins s σ H _ _ v u Q I rx ry ⟨i, j, rfl, rfl, q _ _ _ _ h .refl rfl hs⟩
    | _ => cases h
  | str i =>
    cases dy with
    | str j =>
      cases (show x = .str i from hx)
      cases (show y = .str j from hy)
      exact op_lt_str pins s σ H _ _ v u Q I rx ry ⟨i, j, rfl, rfl, q _ _ _ _ h .refl rfl hs⟩
    | _ => cases h
  | _ => cases dy <;> cases h
def oCmpI (g : Int → Int → Bool) : R2D := fun x y S Q => match x, y with
  | .int i, .int j => Q (.bl (g i j)) S
  | _, _ => False
theorem od_cmpI {f : Value → Value → Sem Value} {g : Int → Int → Bool} (o : OpR X f (rI0 fun i j => .bl (g i j))) : OpD X f (oCmpI g) := by
  intro pins s σ H x y v u Q I rx ry h
  obtain ⟨dx, dy, S, Q0, hx, hy, hs, h, q⟩ := h
  cases dx with
  | int i =>
    cases dy with
    | int j =>
      cases (show x = .int i from hx)
      cases (show y = .int j from hy)
      exact o pins s σ H _ _ v u Q I rx ry ⟨i, j, rfl, rfl, q _ _ _ _ h .refl rfl hs⟩
    | _ => cases h
  | _ => cases h
def oLe : R2D := oCmpI fun i j => decide (i ≤ j)
def oGt : R2D := oCmpI fun i j => decide (j < i)
def oGe : R2D := oCmpI fun i j => decide (j ≤ i)
theorem od_le : OpD X (compareOp .LtE) oLe := od_cmpI op_le
theorem od_gt : OpD X (compareOp .Gt) oGt := od_cmpI op_gt
theorem od_ge : OpD X (compareOp .GtE) oGe := od_cmpI op_ge

/-! ### data of any depth, ==, in -/
mutual
inductive PD (S : Store) : D → PyData → Prop
  | non : PD S .non .none
  | bl (b : Bool) : PD S (.bl b) (.bool b)
  | int (i : Int) : PD S (.int i) (.int i)
  | str (x : Str) : PD S (.str x) (.str x)
  | tup {ds : List D} {ps : List PyData} : PDs S ds ps → PD S (.tup ds) (.tuple ps)
  | rol {ds : List D} {ps : List PyData} : PDs S ds ps → PD S (.rol ds) (.list ps)
  | lst {a : Addr} {ds : List D} {ps : List PyData} : S a = some (.lst ds) → PDs S ds ps → PD S (.ref a) (.list ps)
inductive PDs (S : Store) : List D → List PyData → Prop
  | nil : PDs S [] []
  | cons {d : D} {ds : List D} {p : PyData} {ps : List PyData} : PD S d p → PDs S ds ps → PDs S (d :: ds) (p :: ps)
end
mutual
theorem PD.dp {K : PySem.W.Frag} {H : Hp} {S : Store} (s : RS K H S) : ∀ (p : PyData) (d : D) (v : V), PD S d p → RD K H d v → Dp K H v p
  | .none, _, _, h, r => by cases h; cases (show _ = V.non from r); exact .non
  | .bool b, _, _, h, r => by cases h; cases (show _ = V.bl b from r); exact .bl b
  | .int i, _, _, h, r => by cases h; cases (show _ = V.int i from r); exact .int i
  | .str x, _, _, h, r => by cases h; cases (show _ = V.str x from r); exact .str x
  | .tuple ps, _, _, h, r => by
    cases h with
    | tup h =>
      obtain ⟨p, vs, rfl, ht, hd⟩ := r
      exact .tup ht (PDs.dp s ps _ _ h hd)
  | .list ps, _, _, h, r => by
    cases h with
    | rol h =>
      obtain ⟨p, vs, rfl, ht, hd⟩ := r
      exact .lst ht.sq (PDs.dp s ps _ _ h hd)
    | lst e h =>
      cases (show _ = V.ref _ from r)
      obtain ⟨vs, h1, h2⟩ := s.lst e
      exact .lst (SqL.of h1) (PDs.dp s ps _ _ h h2)
  | .dict _, _, _, h, _ => by cases h
theorem PDs.dp {K : PySem.W.Frag} {H : Hp} {S : Store} (s : RS K H S) : ∀ (ps : List PyData) (ds : List D) (vs : List V), PDs S ds ps → RDs K H ds vs → DpAll K H vs ps
  | [], _, _, h, r => by cases h; cases (show _ = [] from r); exact .nil
  | p :: ps, _, _, h, r => by
    cases h with
    | cons h1 h2 =>
      obtain ⟨v, t, rfl, r1, r2⟩ := r
      exact .cons (PD.dp s p _ _ h1 r1) (PDs.dp s ps _ _ h2 r2)
end
/-- == of anything whose data is known -/
def eqAny (f : Bool → Bool) : R2D := fun x y S Q => ∃ p q, PD S x p ∧ PD S y q ∧ SeqAt.shaped p = true ∧ SeqAt.shaped q = true ∧ Q (.bl (f (PyData.eqv p q))) S
def oEqG (f : Bool → Bool) : R2D := fun x y S Q => match x, y with
  | .int i, .int j => Q (.bl (f (decide (i = j)))) S
  | .str i, .str j => Q (.bl (f (decide (i = j)))) S
  | .bl i, .bl j => Q (.bl (f (decide (i = j)))) S
  | x, y => eqAny f x y S Q
def oEq : R2D := oEqG id
def oNe : R2D := oEqG not
theorem dec_int_eq {i j : Int} : decide (V.int i = V.int j) = decide (i = j) := by rw [Bool.eq_iff_iff]; simp
theorem dec_str_eq {i j : Str} : decide (V.str i = V.str j) = decide (i = j) := by rw [Bool.eq_iff_iff]; simp
theorem dec_bl_eq {i j : Bool} : decide (V.bl i = V.bl j) = decide (i = j) := by rw [Bool.eq_iff_iff]; simp
theorem od_eqAny (hu : X.A.units + 64 < cLine) : OpD X (compareOp .Eq) (eqAny id) := by
  intro pins s σ H x y v u Q I rx ry h
  obtain ⟨dx, dy, S, Q0, hx, hy, hs, ⟨p, r, hp, hr, sp, sr, h⟩, q⟩ := h
  exact op_eqD hu pins s σ H _ _ v u Q I rx ry ⟨p, r, PD.dp hs _ _ _ hp hx, PD.dp hs _ _ _ hr hy, sp, sr, q _ _ _ _ h .refl rfl hs⟩
theorem od_neAny (hu : X.A.units + 64 < cLine) : OpD X (compareOp .NotEq) (eqAny not) := by
  intro pins s σ H x y v u Q I rx ry h
  obtain ⟨dx, dy, S, Q0, hx, hy, hs, ⟨p, r, hp, hr, sp, sr, h⟩, q⟩ := h
  exact op_neD hu pins s σ H _ _ v u Q I rx ry ⟨p, r, PD.dp hs _ _ _ hp hx, PD.dp hs _ _ _ hr hy, sp, sr, q _ _ _ _ h .refl rfl hs⟩
theorem oEqG_cases {f : Bool → Bool} {x y : D} {S : Store} {Q : KD} (h : oEqG f x y S Q) :
    (∃ i j, x = .int i ∧ y = .int j ∧ Q (.bl (f (decide (i = j)))) S) ∨ (∃ i j, x = .str i ∧ y = .str j ∧ Q (.bl (f (decide (i = j)))) S) ∨ (∃ i j, x = .bl i ∧ y = .bl j ∧ Q (.bl (f (decide (i = j)))) S) ∨ eqAny f x y S Q := by
  unfold oEqG at h
  split at h
  · exact .inl ⟨_, _, rfl, rfl, h⟩
  · exact .inr (.inl ⟨_, _, rfl, rfl, h⟩)
  · exact .inr (.inr (.inl ⟨_, _, rfl, rfl, h⟩))
  · exact .inr (.inr (.inr h))
theorem od_eq (hu : X.A.units + 64 < cLine) : OpD X (compareOp .Eq) oEq := by
  intro pins s σ H x y v u Q I rx ry h
  obtain ⟨dx, dy, S, Q0, hx, hy, hs, h, q⟩ := h
  rcases oEqG_cases h with ⟨i, j, rfl, rfl, h⟩ | ⟨i, j, rfl, rfl, h⟩ | ⟨i, j, rfl, rfl, h⟩ | h
  · cases (show x = .int i from hx)
    cases (show y = .int j from hy)
    exact op_eq pins s σ H _ _ v u Q I rx ry ⟨rfl, by rw [dec_int_eq]; exact q _ _ _ _ h .refl rfl hs⟩
  · cases (show x = .str i from hx)
    cases (show y = .str j from hy)
    exact op_eq pins s σ H _ _ v u Q I rx ry ⟨rfl, by rw [dec_str_eq]; exact q _ _ _ _ h .refl rfl hs⟩
  · cases (show x = .bl i from hx)
    cases (show y = .bl j from hy)
    exact op_eq pins s σ H _ _ v u Q I rx ry ⟨rfl, by rw [dec_bl_eq]; exact q _ _ _ _ h .refl rfl hs⟩
  · exact od_eqAny hu pins s σ H x y v u Q I rx ry ⟨dx, dy, S, Q0, hx, hy, hs, h, q⟩
theorem od_ne (hu : X.A.units + 64 < cLine) : OpD X (compareOp .NotEq) oNe := by
  intro pins s σ H x y v u Q I rx ry h
  obtain ⟨dx, dy, S, Q0, hx, hy, hs, h, q⟩ := h
  rcases oEqG_cases h with ⟨i, j, rfl, rfl, h⟩ | ⟨i, j, rfl, rfl, h⟩ | ⟨i, j, rfl, rfl, h⟩ | h
  · cases (show x = .int i from hx)
    cases (show y = .int j from hy)
    exact op_ne pins s σ H _ _ v u Q I rx ry ⟨rfl, by rw [dec_int_eq]; exact q _ _ _ _ h .refl rfl hs⟩
  · cases (show x = .str i from hx)
    cases (show y = .str j from hy)
    exact op_ne pins s σ H _ _ v u Q I rx ry ⟨rfl, by rw [dec_str_eq]; exact q _ _ _ _ h .refl rfl hs⟩
  · cases (show x = .bl i from hx)
    cases (show y = .bl j from hy)
    exact op_ne pins s σ H _ _ v u Q I rx ry ⟨rfl, by rw [dec_bl_eq]; exact q _ _ _ _ h .refl rfl hs⟩
  · exact od_neAny hu pins s σ H x y v u Q I rx ry ⟨dx, dy, S, Q0, hx, hy, hs, h, q⟩

/-! ### in, not in: texts (or ints) in lists and tuples, keys in dicts, one text in another -/
theorem inV_strs (x : Str) (xs : List Str) : inV (.str x) (xs.map V.str) = decide (x ∈ xs) := by
  unfold inV
  rw [Bool.eq_iff_iff, List.any_map, List.any_eq_true]
  simp only [Function.comp, eqV, decide_eq_true_eq]
  constructor
  · rintro ⟨y, hy, e⟩
    have e' : y = x := by simpa using e
    exact e' ▸ hy
  · intro h
    exact ⟨x, h, by simp⟩
theorem inV_ints (x : Int) (xs : List Int) : inV (.int x) (xs.map V.int) = decide (x ∈ xs) := by
  unfold inV
  rw [Bool.eq_iff_iff, List.any_map, List.any_eq_true]
  simp only [Function.comp, eqV, decide_eq_true_eq]
  constructor
  · rintro ⟨y, hy, e⟩
    have e' : y = x := by simpa using e
    exact e' ▸ hy
  · intro h
    exact ⟨x, h, by simp⟩
theorem flat_ints (ys : List Int) : (ys.map V.int).all flatV = true := by
  rw [List.all_eq_true]
  intro y hy
  obtain ⟨z, _, rfl⟩ := List.mem_map.mp hy
  rfl
theorem flat_texts (ys : List Str) : (ys.map V.str).all flatV = true := by
  rw [List.all_eq_true]
  intro y hy
  obtain ⟨z, _, rfl⟩ := List.mem_map.mp hy
  rfl
/-- dicts: the value at a key -/
def dval (kvs : List (Key × D)) (k : Key) : Option D := (kvs.find? fun kv => decide (kv.1 = k)).map (·.2)
def dput (kvs : List (Key × D)) (k : Key) (v : D) : List (Key × D) := if (kvs.any fun kv => decide (kv.1 = k)) = true then kvs.map (fun kv => if kv.1 = k then (kv.1, v) else kv) else kvs ++ [(k, v)]
def ddrop (kvs : List (Key × D)) (k : Key) : List (Key × D) := kvs.filter fun kv => decide (kv.1 ≠ k)
theorem RKV.val {K : PySem.W.Frag} {H : Hp} : ∀ {kvs : List (Key × D)} {ws : List (Key × V)} (k : Key), RKV K H kvs ws → (∃ d v, dval kvs k = some d ∧ valV ws k = some v ∧ RD K H d v) ∨ (dval kvs k = none ∧ valV ws k = none)
  | [], _, k, h => by cases (show _ = [] from h); exact .inr ⟨rfl, rfl⟩
  | (j, d) :: r, _, k, h => by
    obtain ⟨v, t, rfl, h1, h2⟩ := h
    by_cases e : j = k
    · refine .inl ⟨d, v, ?_, valV_pos e, h1⟩
      unfold dval
      rw [List.find?_cons_of_pos (by simp [e])]
      rfl
    · rw [valV_neg e]
      have q : dval ((j, d) :: r) k = dval r k := by
        unfold dval
        rw [List.find?_cons_of_neg (by simp [e])]
      rw [q]
      exact RKV.val k h2
theorem RKV.any {K : PySem.W.Frag} {H : Hp} {kvs : List (Key × D)} {ws : List (Key × V)} (k : Key) (h : RKV K H kvs ws) : (kvs.any fun kv => decide (kv.1 = k)) = ws.any fun kv => decide (kv.1 = k) := by
  have e := h.keys
  have e1 : (kvs.any fun kv => decide (kv.1 = k)) = (kvs.map (·.1)).any fun j => decide (j = k) := by rw [List.any_map]; rfl
  have e2 : (ws.any fun kv => decide (kv.1 = k)) = (ws.map (·.1)).any fun j => decide (j = k) := by rw [List.any_map]; rfl
  rw [e1, e2, e]
theorem RKV.repl {K : PySem.W.Frag} {H : Hp} {d : D} {v : V} (q : RD K H d v) (k : Key) : ∀ {kvs : List (Key × D)} {ws : List (Key × V)}, RKV K H kvs ws → RKV K H (kvs.map fun kv => if kv.1 = k then (kv.1, d) else kv) (ws.map fun kv => if kv.1 = k then (kv.1, v) else kv)
  | [], _, h => by cases (show _ = [] from h); exact rfl
  | (j, e) :: r, _, h => by
    obtain ⟨w, t, rfl, h1, h2⟩ := h
    have ih := RKV.repl q k h2
    rw [List.map_cons, List.map_cons]
    by_cases z : j = k
    · rw [if_pos z, if_pos z]
      exact ⟨v, _, rfl, q, ih⟩
    · rw [if_neg z, if_neg z]
      exact ⟨w, _, rfl, h1, ih⟩
theorem RKV.append {K : PySem.W.Frag} {H : Hp} {κ : Type} : ∀ {as bs : List (κ × D)} {vs ws : List (κ × V)}, RKV K H as vs → RKV K H bs ws → RKV K H (as ++ bs) (vs ++ ws)
  | [], _, _, _, h, g => by cases (show _ = [] from h); exact g
  | (j, e) :: r, _, _, _, h, g => by
    obtain ⟨w, t, rfl, h1, h2⟩ := h
    exact ⟨w, _, rfl, h1, RKV.append h2 g⟩
theorem RKV.put {K : PySem.W.Frag} {H : Hp} {d : D} {v : V} {kvs : List (Key × D)} {ws : List (Key × V)} (h : RKV K H kvs ws) (k : Key) (q : RD K H d v) : RKV K H (dput kvs k d) (putK ws k v) := by
  unfold dput putK
  rw [h.any k]
  split
  · exact RKV.repl q k h
  · exact h.append ⟨v, [], rfl, q, rfl⟩
theorem RKV.drop {K : PySem.W.Frag} {H : Hp} (k : Key) : ∀ {kvs : List (Key × D)} {ws : List (Key × V)}, RKV K H kvs ws → RKV K H (ddrop kvs k) (dropK ws k)
  | [], _, h => by cases (show _ = [] from h); exact rfl
  | (j, e) :: r, _, h => by
    obtain ⟨w, t, rfl, h1, h2⟩ := h
    have ih := RKV.drop k h2
    unfold ddrop dropK at ih ⊢
    by_cases z : j = k
    · rw [List.filter_cons_of_neg (by simp [z]), List.filter_cons_of_neg (by simp [z])]
      exact ih
    · rw [List.filter_cons_of_pos (by simp [z]), List.filter_cons_of_pos (by simp [z])]
      exact ⟨w, _, rfl, h1, ih⟩
/-- a key as a value -/
def kD : Key → D
  | .inl i => .int i
  | .inr x => .str x
theorem kD_kV {K : PySem.W.Frag} {H : Hp} {k : Key} {v : V} (h : RD K H (kD k) v) : v = kV k := by
  cases k with
  | inl i => exact h
  | inr x => exact h
/-- what a value is as a key -/
def keyOf : D → Option Key
  | .int i => some (.inl i)
  | .str x => some (.inr x)
  | _ => none
theorem keyOf_kD {d : D} {k : Key} (h : keyOf d = some k) : d = kD k := by
  cases d with
  | int i => cases h; rfl
  | str x => cases h; rfl
  | _ => cases h
/-- the texts of data -/
def strsOf : List D → Option (List Str)
  | [] => some []
  | .str x :: r => (strsOf r).map (x :: ·)
  | _ :: _ => none
theorem strsOf_map : ∀ {ds : List D} {xs : List Str}, strsOf ds = some xs → ds = xs.map D.str
  | [], _, h => by cases h; rfl
  | .str x :: r, _, h => by
    obtain ⟨ys, e, rfl⟩ := Option.map_eq_some_iff.mp h
    rw [strsOf_map e]
    rfl
theorem strsOf_of : ∀ xs : List Str, strsOf (xs.map D.str) = some xs
  | [] => rfl
  | x :: xs => by
    rw [List.map_cons]
    show (strsOf (xs.map D.str)).map (x :: ·) = _
    rw [strsOf_of xs]
    rfl
def intsOf : List D → Option (List Int)
  | [] => some []
  | .int x :: r => (intsOf r).map (x :: ·)
  | _ :: _ => none
theorem intsOf_map : ∀ {ds : List D} {xs : List Int}, intsOf ds = some xs → ds = xs.map D.int
  | [], _, h => by cases h; rfl
  | .int x :: r, _, h => by
    obtain ⟨ys, e, rfl⟩ := Option.map_eq_some_iff.mp h
    rw [intsOf_map e]
    rfl
theorem intsOf_of : ∀ xs : List Int, intsOf (xs.map D.int) = some xs
  | [] => rfl
  | x :: xs => by
    rw [List.map_cons]
    show (intsOf (xs.map D.int)).map (x :: ·) = _
    rw [intsOf_of xs]
    rfl
end
end DL

set_option Elab.async false
set_option maxRecDepth 100000
/-! DLd: in, subscripts, slices, stores by place, dicts, built-ins and methods over data. -/
namespace DL
open PySem PySem.Spec PyProof.Rows L2

section
variable {X : Cx}
/-! ### in, not in -/
def inFlat (f : Bool → Bool) (x : D) (ds : List D) (S : Store) (Q : KD) : Prop := match x with
  | .str a => ∃ xs, strsOf ds = some xs ∧ Q (.bl (f (decide (a ∈ xs)))) S
  | .int i => ∃ xs, intsOf ds = some xs ∧ Q (.bl (f (decide (i ∈ xs)))) S
  | _ => False
def inDO (f : Bool → Bool) (x : D) (o : Option DO) (S : Store) (Q : KD) : Prop := match o with
  | some (.lst ds) => inFlat f x ds S Q
  | some (.dk kvs) => ∃ k, keyOf x = some k ∧ Q (.bl (f (dval kvs k).isSome)) S
  | _ => False
def oInG (f : Bool → Bool) : R2D := fun x y S Q => match y with
  | .tup ds => inFlat f x ds S Q
  | .rol ds => inFlat f x ds S Q
  | .str t => (match x with
    | .str z => Q (.bl (f (!(Builtin.Str.occurrences t z 0 t.length 1).isEmpty))) S
    | _ => False)
  | .ref a => inDO f x (S a) S Q
  | _ => False
def oIn : R2D := oInG id
def oNotIn : R2D := oInG not
/-- what a membership rule of the hand layer must serve -/
theorem od_inG {f : Bool → Bool} {op : CmpOp} (neg : Bool) (hf : ∀ b, f b = if neg then !b else b) (seq : OpR X (compareOp op) (rIn X.K neg)) (txt : OpR X (compareOp op) (fun x y H Q => ∃ i j, x = .str i ∧ y = .str j ∧ Q (.bl (f (!(Builtin.Str.occurrences j i 0 j.length 1).isEmpty))) H))
    (dic : ∀ {pins : List (Addr × Obj)} {s : Shared} {σ : L2.St} {H : Hp} {a : Addr} {y : V} {u : Value} {o : Option V} {Q : Value → Shared → Prop}, Inv X pins σ H s → DGet H a y o → RelV y u → (∀ s', Inv X pins σ H s' → Q (.bool (f o.isSome)) s') → wpAny (model X.prog X.w) X.A (compareOp op u (.ref a)) Q X.xe s) :
    OpD X (compareOp op) (oInG f) := by
  intro pins s σ H x y v u Q I rx ry h
  obtain ⟨dx, dy, S, Q0, hx, hy, hs, h, q⟩ := h
  have flat : ∀ (p : Addr) (ds : List D) (vs : List V), y = .ref p → (SqL X.K H p vs ∨ SqT X.K H p vs) → RDs X.K H ds vs → inFlat f dx ds S Q0 → wpAny (model X.prog X.w) X.A (compareOp op v u) (EP X pins σ Q) X.xe s := by
    intro p ds vs ey hp hd hf'
    cases dx with
    | str a =>
      obtain ⟨xs, e1, h1⟩ := hf'
      cases strsOf_map e1
      cases hd.strs
      cases (show x = .str a from hx)
      refine seq pins s σ H _ _ v u Q I rx ry ⟨p, _, ey, hp, rfl, flat_texts xs, ?_⟩
      have z : (if neg = true then !inV (V.str a) (xs.map V.str) else inV (V.str a) (xs.map V.str)) = f (decide (a ∈ xs)) := by rw [inV_strs, hf]
      rw [z]
      exact q _ _ _ _ h1 .refl rfl hs
    | int a =>
      obtain ⟨xs, e1, h1⟩ := hf'
      cases intsOf_map e1
      cases hd.ints
      cases (show x = .int a from hx)
      refine seq pins s σ H _ _ v u Q I rx ry ⟨p, _, ey, hp, rfl, flat_ints xs, ?_⟩
      have z : (if neg = true then !inV (V.int a) (xs.map V.int) else inV (V.int a) (xs.map V.int)) = f (decide (a ∈ xs)) := by rw [inV_ints, hf]
      rw [z]
      exact q _ _ _ _ h1 .refl rfl hs
    | _ => cases hf'
  cases dy with
  | tup ds =>
    obtain ⟨p, vs, e, ht, hd⟩ := hy
    exact flat p ds vs e (.inr ht) hd h
  | rol ds =>
    obtain ⟨p, vs, e, ht, hd⟩ := hy
    exact flat p ds vs e (.inl ht.sq) hd h
  | str t =>
    cases dx with
    | str z =>
      cases (show x = .str z from hx)
      cases (show y = .str t from hy)
      exact txt pins s σ H _ _ v u Q I rx ry ⟨z, t, rfl, rfl, q _ _ _ _ h .refl rfl hs⟩
    | _ => cases h
  | ref a =>
    cases (show y = .ref a from hy)
    have hr : inDO f dx (S a) S Q0 := h
    clear h
    unfold inDO at hr
    split at hr
    · rename_i ds e
      obtain ⟨vs, h1, h2⟩ := hs.lst e
      exact flat a ds vs rfl (.inl (SqL.of h1)) h2 hr
    · rename_i kvs e
      obtain ⟨k, ek, hq⟩ := hr
      have ed := keyOf_kD ek
      subst ed
      have ev := kD_kV hx
      subst ev
      obtain ⟨ws, h1, h2⟩ := hs a _ e
      cases (show u = Value.ref a from ry)
      refine dic I (DGet.k (k := k) h1) rx fun s' I' => ⟨.bl _, H, I', rfl, ?_⟩
      have z : (valV ws k).isSome = (dval kvs k).isSome := by
        rcases h2.val k with ⟨d, w', e1, e2, _⟩ | ⟨e1, e2⟩
        · rw [e1, e2]; rfl
        · rw [e1, e2]; rfl
      rw [z]
      exact q _ _ _ _ hq .refl rfl hs
    · cases hr
  | _ => cases h
theorem od_in (hu : X.A.units + 1 < cLine) : OpD X (compareOp .In) oIn := od_inG false (fun b => by simp) op_in_seq op_in_str fun I g r k => d_in hu I g r k
theorem od_notIn (hu : X.A.units + 1 < cLine) : OpD X (compareOp .NotIn) oNotIn := od_inG true (fun b => by simp) op_notIn_seq op_notIn_str fun I g r k => d_notIn hu I g r k

/-! ### is None -/
def oIsN : R2D := fun x y S Q => match y with
  | .non => (match x with
    | .non => Q (.bl true) S
    | _ => Q (.bl false) S)
  | _ => False
def oNotN : R2D := fun x y S Q => match y with
  | .non => (match x with
    | .non => Q (.bl false) S
    | _ => Q (.bl true) S)
  | _ => False
theorem RD.non_iff {K : PySem.W.Frag} {H : Hp} {d : D} {v : V} (h : RD K H d v) : decide (v = .non) = (match d with | .non => true | _ => false) := by
  cases d with
  | non => cases (show v = .non from h); rfl
  | bl b => cases (show v = .bl b from h); rfl
  | int b => cases (show v = .int b from h); rfl
  | str b => cases (show v = .str b from h); rfl
  | ref b => cases (show v = .ref b from h); rfl
  | ty b => cases (show v = .ty b from h); rfl
  | tup b => obtain ⟨p, vs, rfl, _⟩ := h; rfl
  | rol b => obtain ⟨p, vs, rfl, _⟩ := h; rfl
theorem od_isN : OpD X (compareOp .Is) oIsN := by
  intro pins s σ H x y v u Q I rx ry h
  obtain ⟨dx, dy, S, Q0, hx, hy, hs, h, q⟩ := h
  cases dy with
  | non =>
    cases (show y = .non from hy)
    refine op_isN pins s σ H _ _ v u Q I rx ry ⟨rfl, ?_⟩
    rw [hx.non_iff]
    cases dx <;> exact q _ _ _ _ h .refl rfl hs
  | _ => cases h
theorem od_notN : OpD X (compareOp .IsNot) oNotN := by
  intro pins s σ H x y v u Q I rx ry h
  obtain ⟨dx, dy, S, Q0, hx, hy, hs, h, q⟩ := h
  cases dy with
  | non =>
    cases (show y = .non from hy)
    refine op_notN pins s σ H _ _ v u Q I rx ry ⟨rfl, ?_⟩
    rw [hx.non_iff]
    cases dx <;> exact q _ _ _ _ h .refl rfl hs
  | _ => cases h

/-! ### subscripts -/
def ixSeq (ds : List D) (y : D) (S : Store) (Q : KD) : Prop := match y with
  | .int i => ∃ d, atI ds i = some d ∧ Q d S
  | _ => False
def ixStr (z : Str) (y : D) (S : Store) (Q : KD) : Prop := match y with
  | .int i => ∃ c, z.length ≤ sizeLine ∧ atI z.cps.toList i = some c ∧ Q (.str ⟨#[c]⟩) S
  | _ => False
def ixDO (o : Option DO) (y : D) (S : Store) (Q : KD) : Prop := match o with
  | some (.lst ds) => ixSeq ds y S Q
  | some (.dk kvs) => ∃ k d, keyOf y = some k ∧ dval kvs k = some d ∧ Q d S
  | _ => False
def oIx : R2D := fun x y S Q => match x with
  | .tup ds => ixSeq ds y S Q
  | .rol ds => ixSeq ds y S Q
  | .str z => ixStr z y S Q
  | .ref a => ixDO (S a) y S Q
  | _ => False
def IxD (X : Cx) (r : R2D) : Prop := IxR X (lift2 X.K r)
theorem RDs.atI {K : PySem.W.Frag} {H : Hp} {ds : List D} {vs : List V} (h : RDs K H ds vs) {i : Int} {d : D} (e : L2.atI ds i = some d) : ∃ v, L2.atI vs i = some v ∧ RD K H d v := by
  unfold L2.atI at e ⊢
  rw [h.length]
  obtain ⟨j, e1, e2⟩ := Option.bind_eq_some_iff.mp e
  obtain ⟨v, e3, r⟩ := h.get e2
  exact ⟨v, by rw [e1]; exact e3, r⟩
theorem ix_dict (hu : X.A.units + 1 < cLine) : IxR X (fun x y H Q => ∃ a v, x = .ref a ∧ DGet H a y (some v) ∧ Q v H) := by
  intro value slice pins s σ H x y v u Q I rx ry h hs
  obtain ⟨a, z, rfl, g, q⟩ := h
  cases (show v = Value.ref a from rx)
  exact tail_any (dict_typeIs I g) PySem.F.slot_dict_getitem.lookup (d_getItem hu I g ry fun w' s3 I3 rw' => ⟨z, H, I3, rw', q⟩) hs
theorem ixd (hu : X.A.units + 1 < cLine) : IxD X oIx := by
  intro value slice pins s σ H x y v u Q I rx ry h hsl
  obtain ⟨dx, dy, S, Q0, hx, hy, hs, h, q⟩ := h
  have seq : ∀ (p : Addr) (ds : List D) (vs : List V), x = .ref p → (SqL X.K H p vs ∨ SqT X.K H p vs) → RDs X.K H ds vs → ixSeq ds dy S Q0 → wpAny (model X.prog X.w) X.A (subscriptTail value slice v u) (EP X pins σ Q) X.xe s := by
    intro p ds vs ex hp hd h
    cases dy with
    | int i =>
      obtain ⟨d, e, h⟩ := h
      cases (show y = .int i from hy)
      obtain ⟨w', e', r⟩ := hd.atI e
      refine ix_seq value slice pins s σ H x _ v u Q I rx ry ?_ hsl
      rcases hp with hp | hp
      · exact .inl ⟨p, vs, i, w', ex, rfl, hp, e', q _ _ _ _ h .refl r hs⟩
      · exact .inr (.inl ⟨p, vs, i, w', ex, rfl, hp, e', q _ _ _ _ h .refl r hs⟩)
    | _ => cases h
  cases dx with
  | tup ds =>
    obtain ⟨p, vs, e, ht, hd⟩ := hx
    exact seq p ds vs e (.inr ht) hd h
  | rol ds =>
    obtain ⟨p, vs, e, ht, hd⟩ := hx
    exact seq p ds vs e (.inl ht.sq) hd h
  | str z =>
    cases dy with
    | int i =>
      obtain ⟨c, h1, h2, h⟩ := h
      cases (show x = .str z from hx)
      cases (show y = .int i from hy)
      exact ix_seq value slice pins s σ H _ _ v u Q I rx ry (.inr (.inr ⟨z, i, c, rfl, rfl, h1, h2, q _ _ _ _ h .refl rfl hs⟩)) hsl
    | _ => cases h
  | ref a =>
    cases (show x = .ref a from hx)
    have hr : ixDO (S a) dy S Q0 := h
    clear h
    unfold ixDO at hr
    split at hr
    · rename_i ds e
      obtain ⟨vs, h1, h2⟩ := hs.lst e
      exact seq a ds vs rfl (.inl (SqL.of h1)) h2 hr
    · rename_i kvs e
      obtain ⟨k, d, ek, ed, hq⟩ := hr
      have eD := keyOf_kD ek
      subst eD
      have eV := kD_kV hy
      subst eV
      obtain ⟨ws, h1, h2⟩ := hs a _ e
      rcases h2.val k with ⟨d', w', e1, e2, r⟩ | ⟨e1, _⟩
      · rw [ed] at e1
        cases e1
        refine ix_dict hu value slice pins s σ H _ _ v u Q I rx ry ⟨a, w', rfl, ?_, q _ _ _ _ hq .refl r hs⟩ hsl
        rw [← e2]
        exact DGet.k h1
      · rw [ed] at e1
        cases e1
    · cases hr
  | _ => cases h
variable {a b e lo hi : Expr} {ta tb te : TED} {pos p2 : Pos}
theorem de_ix (hu : X.A.units + 1 < cLine) (ha : DE X a ta) (hb : DE X b tb) (hs : PlainIx b := by exact fun _ _ => rfl) : DE X (.Subscript a b pos) (tOpD oIx ta tb) := PEi (pe_ix (ixd hu) ha hb hs) fun _ _ _ h => op_lift h

/-! ### slices -/
abbrev TOD := StD → Store → (Option Int → Store → Prop) → Prop
def liftO (K : PySem.W.Frag) (t : TOD) : TO := fun σ H Q => ∃ δ S Q0, RSt K H δ σ ∧ RS K H S ∧ t δ S Q0 ∧ ∀ o S' H', Q0 o S' → Ext K H H' → RS K H' S' → Q o H'
def DOp (X : Cx) (e : Option Expr) (t : TOD) : Prop := PO X e (liftO X.K t)
theorem POi {e : Option Expr} {t t' : TO} (h : PO X e t') (w : ∀ σ H Q, t σ H Q → t' σ H Q) : PO X e t := ⟨fun pins s σ H Q I q => h.run pins s σ H Q I (w _ _ _ q)⟩
def tNoD : TOD := fun _ S Q => Q none S
def tPartD (te : TED) : TOD := fun δ S Q => te δ S fun x S1 => match x with
  | .int i => Q (some i) S1
  | _ => False
theorem do_none : DOp X none tNoD := POi po_none fun σ H Q h => by
  obtain ⟨δ, S, Q0, h1, h2, h3, h4⟩ := h
  exact h4 _ _ _ h3 .refl h2
theorem do_some (h : DE X e te) : DOp X (some e) (tPartD te) := POi (po_some h) fun σ H Q h => by
  obtain ⟨δ, S, Q0, h1, h2, h3, h4⟩ := h
  refine ⟨δ, S, _, h1, h2, h3, fun x S1 v H1 q e1 r1 s1 => ?_⟩
  cases x with
  | int i => exact ⟨i, r1, h4 _ _ _ q e1 s1⟩
  | _ => cases q
def cutL {α : Type} (xs : List α) (lo hi : Option Int) : List α := (xs.drop (HT.sIx xs.length 0 lo)).take (HT.sIx xs.length xs.length hi - HT.sIx xs.length 0 lo)
theorem RDs.cut {K : PySem.W.Frag} {H : Hp} {ds : List D} {vs : List V} (h : RDs K H ds vs) (lo hi : Option Int) : RDs K H (cutL ds lo hi) (cutV vs lo hi) := by
  unfold cutL cutV
  rw [h.length]
  exact (h.drop _).take _
def slDO (o : Option DO) (lo hi : Option Int) (S : Store) (Q : KD) : Prop := match o with
  | some (.lst ds) => ∀ p, S p = none → Q (.ref p) (put S p (.lst (cutL ds lo hi)))
  | _ => False
def oSl (x : D) (lo hi : Option Int) (S : Store) (Q : KD) : Prop := match x with
  | .tup ds => Q (.tup (cutL ds lo hi)) S
  | .str z => z.length ≤ sizeLine ∧ Q (.str (cutS z lo hi)) S
  | .rol ds => ∀ p, S p = none → Q (.ref p) (put S p (.lst (cutL ds lo hi)))
  | .ref a => slDO (S a) lo hi S Q
  | _ => False
theorem cut_whole {xs : List V} {lo hi : Option Int} (h : HT.sIx xs.length 0 lo = 0 ∧ HT.sIx xs.length xs.length hi = xs.length) : cutV xs lo hi = xs := by
  unfold cutV
  rw [h.1, h.2]
  simp
def slr (K : PySem.W.Frag) : V → Option Int → Option Int → Hp → VK → Prop := fun x lo hi H Q => ∃ d S Q0, RD K H d x ∧ RS K H S ∧ oSl d lo hi S Q0 ∧ ∀ d' S' v H', Q0 d' S' → Ext K H H' → RD K H' d' v → RS K H' S' → Q v H'
theorem sl_any : SlR X (slr X.K) := by
  intro pins s σ H x v vl vu lo hi sl Q I rx hsl pl pu h
  obtain ⟨d, S, Q0, hx, hs, h, q⟩ := h
  cases d with
  | tup ds =>
    obtain ⟨p, vs, rfl, ht, hd⟩ := hx
    refine sl_tupA pins s σ H _ v vl vu lo hi sl Q I rx hsl pl pu ⟨p, vs, rfl, ht, fun w => ?_, fun w r nr => ?_⟩
    · have c := hd.cut lo hi
      rw [cut_whole w] at c
      exact q _ _ _ _ h .refl ⟨p, vs, rfl, ht, c⟩ hs
    · exact q _ _ _ _ h (Ext.new nr) (.newTup nr (hd.cut lo hi)) (hs.grow nr)
  | str z =>
    cases (show x = .str z from hx)
    exact sl_str pins s σ H _ v vl vu lo hi sl Q I rx hsl pl pu ⟨z, rfl, h.1, q _ _ _ _ h.2 .refl rfl hs⟩
  | rol ds =>
    obtain ⟨p, vs, rfl, ht, hd⟩ := hx
    exact sl_list pins s σ H _ v vl vu lo hi sl Q I rx hsl pl pu ⟨p, vs, rfl, ht.sq, fun r nr => q _ _ _ _ (h r (hs.free nr)) (Ext.new nr) rfl (hs.newLst nr (hd.cut lo hi))⟩
  | ref a =>
    cases (show x = .ref a from hx)
    have h : slDO (S a) lo hi S Q0 := h
    unfold slDO at h
    split at h
    · rename_i ds e
      obtain ⟨vs, h1, hd⟩ := hs.lst e
      exact sl_list pins s σ H _ v vl vu lo hi sl Q I rx hsl pl pu ⟨a, vs, rfl, SqL.of h1, fun r nr => q _ _ _ _ (h r (hs.free nr)) (Ext.new nr) rfl (hs.newLst nr (hd.cut lo hi))⟩
    · cases h
  | _ => cases h
def tSlD (te : TED) (tl th : TOD) : TED := fun δ S Q => te δ S fun x S1 => tl δ S1 fun l S2 => th δ S2 fun u S3 => oSl x l u S3 Q
theorem de_slice {lo hi : Option Expr} {tl th : TOD} (he : DE X e te) (hl : DOp X lo tl) (hh : DOp X hi th) : DE X (.Subscript e (.Slice lo hi none p2) pos) (tSlD te tl th) := PEi (pe_slice sl_any he hl hh) fun σ H Q h => by
  obtain ⟨δ, S, Q0, h1, h2, h3, h4⟩ := h
  refine ⟨δ, S, _, h1, h2, h3, fun x S1 v H1 q e1 r1 s1 => ⟨δ, S1, _, h1.ext e1, s1, q, fun l S2 H2 q2 e2 s2 => ⟨δ, S2, _, h1.ext (e1.trans e2), s2, q2, fun u S3 H3 q3 e3 s3 => ?_⟩⟩⟩
  exact ⟨x, S3, Q0, r1.ext (e2.trans e3), s3, q3, fun d' S' v' H' q' e' r' s' => h4 _ _ _ _ q' (e1.trans (e2.trans (e3.trans e'))) r' s'⟩
def revDO (o : Option DO) (S : Store) (Q : KD) : Prop := match o with
  | some (.lst ds) => ∀ p, S p = none → Q (.ref p) (put S p (.lst ds.reverse))
  | _ => False
def tRevD (te : TED) : TED := fun δ S Q => te δ S fun x S1 => match x with
  | .rol ds => ∀ p, S1 p = none → Q (.ref p) (put S1 p (.lst ds.reverse))
  | .ref a => revDO (S1 a) S1 Q
  | _ => False
theorem de_rev {k : Nat} {q1 q2 q3 : Pos} (he : DE X e te) : DE X (.Subscript e (.Slice none none (some (.UnaryOp .USub (.Constant (.int 1) k q1) q2)) q3) pos) (tRevD te) := PEi (pe_revL he) fun σ H Q h => by
  obtain ⟨δ, S, Q0, h1, h2, h3, h4⟩ := h
  refine ⟨δ, S, _, h1, h2, h3, fun x S1 v H1 q e1 r1 s1 => ?_⟩
  cases x with
  | rol ds =>
    obtain ⟨p, vs, rfl, ht, hd⟩ := r1
    exact ⟨p, vs, rfl, ht.sq, fun r nr => h4 _ _ _ _ (q r (s1.free nr)) (e1.trans (Ext.new nr)) rfl (s1.newLst nr hd.reverse)⟩
  | ref a =>
    cases (show v = .ref a from r1)
    have q : revDO (S1 a) S1 Q0 := q
    unfold revDO at q
    split at q
    · rename_i ds e
      obtain ⟨vs, h1, hd⟩ := s1.lst e
      exact ⟨a, vs, rfl, SqL.of h1, fun r nr => h4 _ _ _ _ (q r (s1.free nr)) (e1.trans (Ext.new nr)) rfl (s1.newLst nr hd.reverse)⟩
    · cases q
  | _ => cases q

/-! ### o[i] = v -/
def setSeq (a : Addr) (ds : List D) (i v : D) (S : Store) (Q : Store → Prop) : Prop := match i with
  | .int k => ∃ j, ixN ds.length k = some j ∧ Q (put S a (.lst (ds.set j v)))
  | _ => False
def setDO (o : Option DO) (a : Addr) (i v : D) (S : Store) (Q : Store → Prop) : Prop := match o with
  | some (.lst ds) => setSeq a ds i v S Q
  | some (.dk kvs) => ∃ k, keyOf i = some k ∧ kvs.length < sizeLine ∧ Q (put S a (.dk (dput kvs k v)))
  | _ => False
def oSet (o i v : D) (S : Store) (Q : Store → Prop) : Prop := match o with
  | .ref a => setDO (S a) a i v S Q
  | _ => False
def tSetD (to ti te : TED) : TSD := fun G δ S => te δ S fun d S1 => to δ S1 fun o S2 => ti δ S2 fun i S3 => oSet o i d S3 fun S4 => G.nx δ S4
def setr (K : PySem.W.Frag) : V → V → V → Hp → (Hp → Prop) → Prop := fun o i v H Q => ∃ d0 d1 d2 S Q0, RD K H d0 o ∧ RD K H d1 i ∧ RD K H d2 v ∧ RS K H S ∧ oSet d0 d1 d2 S Q0 ∧ ∀ S' H', Q0 S' → Ext K H H' → RS K H' S' → Q H'
theorem set_any (hu : X.A.units + 1 < cLine) : PSet X (setr X.K) := by
  intro pins s σ H o i v ov iv u Q I ro ri rv h
  obtain ⟨d0, d1, d2, S, Q0, h0, h1, h2, hs, h, q⟩ := h
  cases d0 with
  | ref a =>
    cases (show o = .ref a from h0)
    have hr : setDO (S a) a d1 d2 S Q0 := h
    clear h
    unfold setDO at hr
    split at hr
    · rename_i ds e
      obtain ⟨vs, g1, g2⟩ := hs.lst e
      cases d1 with
      | int k =>
        obtain ⟨j, ej, hq⟩ := hr
        cases (show i = .int k from h1)
        refine set_list pins s σ H _ _ v ov iv u Q I ro ri rv ⟨a, vs, k, j, rfl, rfl, g1, by rw [g2.length]; exact ej, ?_⟩
        exact q _ _ hq (Ext.put g1 trivial) (hs.put g1 trivial ⟨_, upd_same, (g2.set j h2).ext (Ext.put g1 trivial)⟩)
      | _ => cases hr
    · rename_i kvs e
      obtain ⟨k, ek, hl, hq⟩ := hr
      have eD := keyOf_kD ek
      subst eD
      have eV := kD_kV h1
      subst eV
      obtain ⟨ws, g1, g2⟩ := hs a _ e
      cases (show ov = Value.ref a from ro)
      refine d_setItem hu I (DPut.k g1 (by rw [g2.length]; exact hl)) ri rv fun s' I' => ⟨_, I', ?_⟩
      refine q _ _ hq (Ext.put g1 trivial) (hs.put g1 trivial ?_)
      exact ⟨_, upd_same, (g2.put k h2).ext (Ext.put g1 trivial)⟩
    · cases hr
  | _ => cases h
theorem ds_setitem {o i : Expr} {to ti : TED} {p1 : Pos} (hu : X.A.units + 1 < cLine) (ho : DE X o to) (hi : DE X i ti) (he : DE X e te)
    (ha : ∀ v, assign (.Subscript o i p1) X.env v = (do
      let ov ← holding [v] (eval o X.env)
      let iv ← holding [v, ov] (eval i X.env)
      standAt p1
      holding [v, ov, iv] (setItem ov iv v)
      release [v, ov, iv] []) := by intro _; rfl)
    (hs : swapsWithSole [.Subscript o i p1] e pos.line X.env = pure false := by rfl) (hw : swappedStores [.Subscript o i p1] e X.env = pure none := by rfl)
    (h1 : (assignEach [.Subscript o i p1] X.env).map (·.2) = [assign (.Subscript o i p1) X.env] := by rfl) : DS X (.Assign [.Subscript o i p1] e pos) (tSetD to ti te) :=
  PSi (ps_asg he (pg_sub ho hi (set_any hu) ha) hs hw h1) fun E σ H h => by
  obtain ⟨δ, S, G, h1, h2, h3, n, r, b, c⟩ := h
  refine ⟨δ, S, _, h1, h2, h3, fun d S1 v H1 q e1 r1 s1 => ⟨δ, S1, _, h1.ext e1, s1, q, fun o' S2 ov H2 q2 e2 r2 s2 => ⟨δ, S2, _, h1.ext (e1.trans e2), s2, q2, fun i' S3 iv H3 q3 e3 r3 s3 => ?_⟩⟩⟩
  exact ⟨o', i', d, S3, _, r2.ext e3, r3, r1.ext (e2.trans e3), s3, q3, fun S4 H4 q4 e4 s4 => n _ _ _ _ q4 (e1.trans (e2.trans (e3.trans e4))) (h1.ext (e1.trans (e2.trans (e3.trans e4)))) s4⟩

/-! ### dicts: displays, get, pop, dict(d) -/
def tDictD : TED := fun _ S Q => ∀ p, S p = none → Q (.ref p) (put S p (.dk []))
theorem de_dict : DE X (.Dict [] [] pos) tDictD := PEi pe_dnewK fun σ H Q h => by
  obtain ⟨δ, S, Q0, h1, h2, h3, h4⟩ := h
  intro p np
  exact h4 _ _ _ _ (h3 p (h2.free np)) (Ext.new np) rfl (h2.new np ⟨[], upd_same, rfl⟩)
/-- one pair -/
def tDict1 (tk tv : TED) : TED := fun δ S Q => tk δ S fun x S1 => tv δ S1 fun y S2 => ∃ k, keyOf x = some k ∧ ∀ p, S2 p = none → Q (.ref p) (put S2 p (.dk [(k, y)]))
end
end DL

set_option Elab.async false
set_option maxRecDepth 100000
/-! DLe: built-ins and methods over data. -/
namespace DL
open PySem PySem.Spec PyProof.Rows L2

section
variable {X : Cx}
/-- less may be known of the store behind an expression -/
def tLess (t : TED) : TED := fun δ S Q => t δ S fun d S' => ∃ S'', Sub S'' S' ∧ Q d S''
theorem de_less {e : Expr} {t : TED} (h : DE X e t) : DE X e (tLess t) := PEi h fun σ H Q q => by
  obtain ⟨δ, S, Q0, h1, h2, h3, h4⟩ := q
  exact ⟨δ, S, _, h1, h2, h3, fun d S' v H' ⟨S'', hs, q⟩ e r s => h4 _ _ _ _ q e r (s.sub hs)⟩
def tLessT (t : TTD) : TTD := fun δ S Q => t δ S fun d S' => ∃ S'', Sub S'' S' ∧ Q d S''
theorem dt_less {e : Expr} {t : TTD} (h : DT X e t) : DT X e (tLessT t) := PTi h fun σ H Q q => by
  obtain ⟨δ, S, Q0, h1, h2, h3, h4⟩ := q
  exact ⟨δ, S, _, h1, h2, h3, fun d S' H' ⟨S'', hs, q⟩ e s => h4 _ _ _ q e (s.sub hs)⟩
/-- .. behind a statement -/
def tLessS (t : TSD) : TSD := fun G δ S => t { G with nx := fun δ' S' => ∃ S'', Sub S'' S' ∧ G.nx δ' S'' } δ S
theorem ds_less {st : Stmt} {t : TSD} (h : DS X st t) : DS X st (tLessS t) := PSi h fun E σ H q => by
  obtain ⟨δ, S, G, h1, h2, h3, n, r, b, c⟩ := q
  exact ⟨δ, S, _, h1, h2, h3, fun δ' S' σ' H' ⟨S'', hs, q⟩ e r' s' => n _ _ _ _ q e r' (s'.sub hs), r, b, c⟩
/-- a built-in type as a value -/
theorem de_ty {x : Str} {n : String} {pos : Pos} (hg : Gl X x) (hm : X.mg x = none) (hv : bootBuiltins x = some (.type n)) (hn : x ≠ "__name__" := by decide) (hd : (x == ("__debug__" : Str)) = false := by decide) : DE X (.Name x pos) (tCD (.ty n)) :=
  de_c (v := .ty n) (pe_bltn hg hm hv (show RelV (.ty n) (.type n) from rfl) hn hd) fun _ => rfl
/-- a module's constant of texts -/
theorem de_const {x : Str} {d : D} {v : V} {u : Value} {pos : Pos} (hg : Gl X x) (hm : X.mg x = some u) (r : RelV v u) (hd : ∀ H, RD X.K H d v) (hdb : (x == ("__debug__" : Str)) = false := by decide) : DE X (.Name x pos) (tCD d) := de_c (pe_glob hg hm r hdb) hd

/-! ### len -/
def oLenDO (o : Option DO) (S : Store) (Q : KD) : Prop := match o with
  | some (.lst ds) => Q (.int (ds.length : Nat)) S
  | some (.dk kvs) => Q (.int (kvs.length : Nat)) S
  | _ => False
def oLen : RAD := fun xs S Q => match xs with
  | [.tup ds] => Q (.int (ds.length : Nat)) S
  | [.rol ds] => Q (.int (ds.length : Nat)) S
  | [.str z] => z.length ≤ sizeLine ∧ Q (.int (z.length : Nat)) S
  | [.ref a] => oLenDO (S a) S Q
  | _ => False
theorem RDs.one {K : PySem.W.Frag} {H : Hp} {d : D} {vs : List V} (h : RDs K H [d] vs) : ∃ v, vs = [v] ∧ RD K H d v := by
  obtain ⟨v, r, rfl, h1, h2⟩ := h
  cases (show r = [] from h2)
  exact ⟨v, rfl, h1⟩
theorem RDs.two {K : PySem.W.Frag} {H : Hp} {d e : D} {vs : List V} (h : RDs K H [d, e] vs) : ∃ v w, vs = [v, w] ∧ RD K H d v ∧ RD K H e w := by
  obtain ⟨v, r, rfl, h1, h2⟩ := h
  obtain ⟨w, rfl, h3⟩ := RDs.one h2
  exact ⟨v, w, rfl, h1, h3⟩
theorem RDs.three {K : PySem.W.Frag} {H : Hp} {d e f : D} {vs : List V} (h : RDs K H [d, e, f] vs) : ∃ v w x, vs = [v, w, x] ∧ RD K H d v ∧ RD K H e w ∧ RD K H f x := by
  obtain ⟨v, r, rfl, h1, h2⟩ := h
  obtain ⟨w, x, rfl, h3, h4⟩ := RDs.two h2
  exact ⟨v, w, x, rfl, h1, h3, h4⟩
theorem cd_len : CallD X (.builtin "len") oLen := by
  intro pins s σ H xs us Q I rs h
  obtain ⟨ds, S, Q0, hx, hs, h, q⟩ := h
  unfold oLen at h
  split at h
  · obtain ⟨v, rfl, p, vs, rfl, ht, hd⟩ := hx.one
    exact call_len_seq pins s σ H _ us Q I rs ⟨p, vs, rfl, .inr ht, by rw [hd.length]; exact q _ _ _ _ h .refl rfl hs⟩
  · obtain ⟨v, rfl, p, vs, rfl, ht, hd⟩ := hx.one
    exact call_len_seq pins s σ H _ us Q I rs ⟨p, vs, rfl, .inl ht.sq, by rw [hd.length]; exact q _ _ _ _ h .refl rfl hs⟩
  · obtain ⟨v, rfl, e⟩ := hx.one
    cases (show v = .str _ from e)
    exact call_len_str pins s σ H _ us Q I rs ⟨_, rfl, h.1, q _ _ _ _ h.2 .refl rfl hs⟩
  · rename_i a
    obtain ⟨v, rfl, e⟩ := hx.one
    cases (show v = .ref a from e)
    unfold oLenDO at h
    split at h
    · rename_i ds e
      obtain ⟨vs, h1, hd⟩ := hs.lst e
      exact call_len_seq pins s σ H _ us Q I rs ⟨a, vs, rfl, .inl (SqL.of h1), by rw [hd.length]; exact q _ _ _ _ h .refl rfl hs⟩
    · rename_i kvs e
      obtain ⟨ws, h1, hd⟩ := hs a _ e
      exact call_lenD pins s σ H _ us Q I rs ⟨a, ws, rfl, h1, by rw [hd.length]; exact q _ _ _ _ h .refl rfl hs⟩
    · cases h
  · cases h

/-! ### list(..), tuple(..) -/
def oListDO (o : Option DO) (S : Store) (Q : KD) : Prop := match o with
  | some (.lst ds) => ∀ p, S p = none → Q (.ref p) (put S p (.lst ds))
  | some (.dk kvs) => ∀ p, S p = none → Q (.ref p) (put S p (.lst (kvs.map fun kv => kD kv.1)))
  | _ => False
def oList : RAD := fun xs S Q => match xs with
  | [.tup ds] => ∀ p, S p = none → Q (.ref p) (put S p (.lst ds))
  | [.rol ds] => ∀ p, S p = none → Q (.ref p) (put S p (.lst ds))
  | [.ref a] => oListDO (S a) S Q
  | _ => False
theorem RKV.kDs {K : PySem.W.Frag} {H : Hp} : ∀ {kvs : List (Key × D)} {ws : List (Key × V)}, RKV K H kvs ws → RDs K H (kvs.map fun kv => kD kv.1) (ws.map fun kv => kV kv.1)
  | [], _, h => by cases (show _ = [] from h); exact rfl
  | (k, d) :: r, _, h => by
    obtain ⟨v, t, rfl, h1, h2⟩ := h
    refine ⟨kV k, _, rfl, ?_, RKV.kDs h2⟩
    cases k with
    | inl i => exact rfl
    | inr x => exact rfl
theorem cd_list (hc : X.calm = true) : CallD X (.type "list") oList := by
  intro pins s σ H xs us Q I rs h
  obtain ⟨ds, S, Q0, hx, hs, h, q⟩ := h
  unfold oList at h
  split at h
  · obtain ⟨v, rfl, p, vs, rfl, ht, hd⟩ := hx.one
    exact call_list_of pins s σ H _ us Q I rs ⟨p, vs, rfl, .inr ht, fun l nl => q _ _ _ _ (h l (hs.free nl)) (Ext.new nl) rfl (hs.newLst nl hd)⟩
  · obtain ⟨v, rfl, p, vs, rfl, ht, hd⟩ := hx.one
    exact call_list_of pins s σ H _ us Q I rs ⟨p, vs, rfl, .inl ht.sq, fun l nl => q _ _ _ _ (h l (hs.free nl)) (Ext.new nl) rfl (hs.newLst nl hd)⟩
  · rename_i a
    obtain ⟨v, rfl, e⟩ := hx.one
    cases (show v = .ref a from e)
    unfold oListDO at h
    split at h
    · rename_i ds e
      obtain ⟨vs, h1, hd⟩ := hs.lst e
      exact call_list_of pins s σ H _ us Q I rs ⟨a, vs, rfl, .inl (SqL.of h1), fun l nl => q _ _ _ _ (h l (hs.free nl)) (Ext.new nl) rfl (hs.newLst nl hd)⟩
    · rename_i kvs e
      obtain ⟨ws, h1, hd⟩ := hs a _ e
      exact call_list_dK hc pins s σ H _ us Q I rs ⟨a, ws, rfl, h1, fun l nl => q _ _ _ _ (h l (hs.free nl)) (Ext.new nl) rfl (hs.newLst nl hd.kDs)⟩
    · cases h
  · cases h
def oTuple : RAD := fun xs S Q => match xs with
  | [.tup ds] => Q (.tup ds) S
  | [.ref a] => ∃ ds, S a = some (.lst ds) ∧ Q (.tup ds) S
  | _ => False
theorem cd_tuple : CallD X (.type "tuple") oTuple := by
  intro pins s σ H xs us Q I rs h
  obtain ⟨ds, S, Q0, hx, hs, h, q⟩ := h
  unfold oTuple at h
  split at h
  · obtain ⟨v, rfl, p, vs, rfl, ht, hd⟩ := hx.one
    exact call_tuple_of pins s σ H _ us Q I rs ⟨p, vs, rfl, .inr ⟨ht, q _ _ _ _ h .refl ⟨p, vs, rfl, ht, hd⟩ hs⟩⟩
  · rename_i a
    obtain ⟨v, rfl, e⟩ := hx.one
    cases (show v = .ref a from e)
    obtain ⟨ds, e, h⟩ := h
    obtain ⟨vs, h1, hd⟩ := hs.lst e
    exact call_tuple_of pins s σ H _ us Q I rs ⟨a, vs, rfl, .inl ⟨SqL.of h1, fun l nl => q _ _ _ _ h (Ext.new nl) (.newTup nl hd) (hs.grow nl)⟩⟩
  · cases h

/-! ### sum, max, min, all, any, sorted -/
def seqDO : Option DO → Option (List D)
  | some (.lst ds) => some ds
  | _ => none
def seqAt (S : Store) : D → Option (List D)
  | .rol ds => some ds
  | .ref a => seqDO (S a)
  | _ => none
theorem seqAt_ref {S : Store} {a : Addr} {ds : List D} (h : S a = some (.lst ds)) : seqAt S (.ref a) = some ds := by
  show seqDO (S a) = some ds
  rw [h]
  rfl
theorem seqAt_sq {K : PySem.W.Frag} {H : Hp} {S : Store} {d : D} {ds : List D} {v : V} (h : seqAt S d = some ds) (r : RD K H d v) (s : RS K H S) : ∃ a vs, v = .ref a ∧ SqL K H a vs ∧ RDs K H ds vs := by
  cases d with
  | rol es =>
    cases h
    obtain ⟨p, vs, rfl, ht, hd⟩ := r
    exact ⟨p, vs, rfl, ht.sq, hd⟩
  | ref a =>
    cases (show v = .ref a from r)
    have h : seqDO (S a) = some ds := h
    unfold seqDO at h
    split at h
    · rename_i es e
      cases h
      obtain ⟨vs, h1, hd⟩ := s.lst e
      exact ⟨a, vs, rfl, SqL.of h1, hd⟩
    · cases h
  | _ => cases h
def oSum : RAD := fun xs S Q => match xs with
  | [x] => ∃ ds ns, seqAt S x = some ds ∧ intsOf ds = some ns ∧ Q (.int ns.sum) S
  | _ => False
theorem cd_sum (hc : X.calm = true) : CallD X (.builtin "sum") oSum := by
  intro pins s σ H xs us Q I rs h
  obtain ⟨ds, S, Q0, hx, hs, h, q⟩ := h
  unfold oSum at h
  split at h
  · obtain ⟨v, rfl, e⟩ := hx.one
    obtain ⟨ds, ns, e1, e2, h⟩ := h
    obtain ⟨a, vs, rfl, hq, hd⟩ := seqAt_sq e1 e hs
    cases intsOf_map e2
    cases hd.ints
    exact cr_sum hc pins s σ H _ us Q I rs ⟨a, ns, rfl, hq, q _ _ _ _ h .refl rfl hs⟩
  · cases h
def oMax2 : RAD := fun xs S Q => match xs with
  | [.int i, .int j] => Q (.int (if j > i then j else i)) S
  | _ => False
theorem cd_max2 (hc : X.calm = true) : CallD X (.builtin "max") oMax2 := by
  intro pins s σ H xs us Q I rs h
  obtain ⟨ds, S, Q0, hx, hs, h, q⟩ := h
  unfold oMax2 at h
  split at h
  · obtain ⟨v, w, rfl, e1, e2⟩ := hx.two
    cases (show v = .int _ from e1)
    cases (show w = .int _ from e2)
    exact call_max2 hc pins s σ H _ us Q I rs ⟨_, _, rfl, q _ _ _ _ h .refl rfl hs⟩
  · cases h
def oMin2 : RAD := fun xs S Q => match xs with
  | [.int i, .int j] => Q (.int (if j < i then j else i)) S
  | _ => False
theorem cd_min2 (hc : X.calm = true) : CallD X (.builtin "min") oMin2 := by
  intro pins s σ H xs us Q I rs h
  obtain ⟨ds, S, Q0, hx, hs, h, q⟩ := h
  unfold oMin2 at h
  split at h
  · obtain ⟨v, w, rfl, e1, e2⟩ := hx.two
    cases (show v = .int _ from e1)
    cases (show w = .int _ from e2)
    exact call_min2 hc pins s σ H _ us Q I rs ⟨_, _, rfl, q _ _ _ _ h .refl rfl hs⟩
  · cases h
def oInt : RAD := fun xs S Q => match xs with
  | [.int i] => Q (.int i) S
  | [.bl k] => Q (.int (if k = true then 1 else 0)) S
  | _ => False
theorem cd_int : CallD X (.type "int") oInt := by
  intro pins s σ H xs us Q I rs h
  obtain ⟨ds, S, Q0, hx, hs, h, q⟩ := h
  unfold oInt at h
  split at h
  · obtain ⟨v, rfl, e⟩ := hx.one
    cases (show v = .int _ from e)
    exact call_int1 pins s σ H _ us Q I rs (.inl ⟨_, rfl, q _ _ _ _ h .refl rfl hs⟩)
  · obtain ⟨v, rfl, e⟩ := hx.one
    cases (show v = .bl _ from e)
    exact call_int1 pins s σ H _ us Q I rs (.inr ⟨_, rfl, q _ _ _ _ h .refl rfl hs⟩)
  · cases h
def oStr : RAD := fun xs S Q => match xs with
  | [.int i] => i.natAbs.log2 < 1920 ∧ Q (.str (toString i)) S
  | _ => False
theorem cd_str : CallD X (.type "str") oStr := by
  intro pins s σ H xs us Q I rs h
  obtain ⟨ds, S, Q0, hx, hs, h, q⟩ := h
  unfold oStr at h
  split at h
  · obtain ⟨v, rfl, e⟩ := hx.one
    cases (show v = .int _ from e)
    exact call_str_int pins s σ H _ us Q I rs ⟨_, rfl, h.1, q _ _ _ _ h.2 .refl rfl hs⟩
  · cases h
def blsOf : List D → Option (List Bool)
  | [] => some []
  | .bl x :: r => (blsOf r).map (x :: ·)
  | _ :: _ => none
theorem blsOf_map : ∀ {ds : List D} {xs : List Bool}, blsOf ds = some xs → ds = xs.map D.bl
  | [], _, h => by cases h; rfl
  | .bl x :: r, _, h => by
    obtain ⟨ys, e, rfl⟩ := Option.map_eq_some_iff.mp h
    rw [blsOf_map e]
    rfl
theorem blsOf_of : ∀ xs : List Bool, blsOf (xs.map D.bl) = some xs
  | [] => rfl
  | x :: xs => by
    rw [List.map_cons]
    show (blsOf (xs.map D.bl)).map (x :: ·) = _
    rw [blsOf_of xs]
    rfl
def oAll : RAD := fun xs S Q => match xs with
  | [x] => ∃ ds bs, seqAt S x = some ds ∧ blsOf ds = some bs ∧ Q (.bl (bs.all id)) S
  | _ => False
def oAny : RAD := fun xs S Q => match xs with
  | [x] => ∃ ds bs, seqAt S x = some ds ∧ blsOf ds = some bs ∧ Q (.bl (bs.any id)) S
  | _ => False
theorem cd_all (hc : X.calm = true) : CallD X (.builtin "all") oAll := by
  intro pins s σ H xs us Q I rs h
  obtain ⟨ds, S, Q0, hx, hs, h, q⟩ := h
  unfold oAll at h
  split at h
  · obtain ⟨v, rfl, e⟩ := hx.one
    obtain ⟨ds, ns, e1, e2, h⟩ := h
    obtain ⟨a, vs, rfl, hq, hd⟩ := seqAt_sq e1 e hs
    cases blsOf_map e2
    cases hd.bls
    exact cr_all hc pins s σ H _ us Q I rs ⟨a, ns, rfl, hq, q _ _ _ _ h .refl rfl hs⟩
  · cases h
theorem cd_any (hc : X.calm = true) : CallD X (.builtin "any") oAny := by
  intro pins s σ H xs us Q I rs h
  obtain ⟨ds, S, Q0, hx, hs, h, q⟩ := h
  unfold oAny at h
  split at h
  · obtain ⟨v, rfl, e⟩ := hx.one
    obtain ⟨ds, ns, e1, e2, h⟩ := h
    obtain ⟨a, vs, rfl, hq, hd⟩ := seqAt_sq e1 e hs
    cases blsOf_map e2
    cases hd.bls
    exact cr_any hc pins s σ H _ us Q I rs ⟨a, ns, rfl, hq, q _ _ _ _ h .refl rfl hs⟩
  · cases h
/-- sorted of texts, or of ints -/
def oSorted : RAD := fun xs S Q => match xs with
  | [x] => ∃ ds, seqAt S x = some ds ∧ ds.length < 64 ∧
      ((∃ ts, strsOf ds = some ts ∧ ∀ (ys : List Str) (p : Addr), ys.Perm ts → sortedS ys = true → S p = none → Q (.ref p) (put S p (.lst (ys.map D.str)))) ∨
       (∃ ts, intsOf ds = some ts ∧ ∀ (ys : List Int) (p : Addr), ys.Perm ts → ys.Pairwise (· ≤ ·) → S p = none → Q (.ref p) (put S p (.lst (ys.map D.int)))))
  | _ => False
theorem cd_sorted : CallD X (.builtin "sorted") oSorted := by
  intro pins s σ H xs us Q I rs h
  obtain ⟨ds, S, Q0, hx, hs, h, q⟩ := h
  unfold oSorted at h
  split at h
  · obtain ⟨v, rfl, e⟩ := hx.one
    obtain ⟨ds, e1, hl, h⟩ := h
    obtain ⟨a, vs, rfl, hq, hd⟩ := seqAt_sq e1 e hs
    rcases h with ⟨ts, e2, h⟩ | ⟨ts, e2, h⟩
    · cases strsOf_map e2
      cases hd.strs
      exact cr_sortedS pins s σ H _ us Q I rs ⟨a, ts, rfl, hq, by rw [List.length_map] at hl; exact hl, fun ys p h1 h2 np => q _ _ _ _ (h ys p h1 h2 (hs.free np)) (Ext.new np) rfl (hs.newLst np (RDs.of_map (f := D.str) (g := V.str) (fun _ => rfl) ys))⟩
    · cases intsOf_map e2
      cases hd.ints
      exact cr_sorted pins s σ H _ us Q I rs ⟨a, ts, rfl, hq, by rw [List.length_map] at hl; exact hl, fun ys p h1 h2 np => q _ _ _ _ (h ys p h1 h2 (hs.free np)) (Ext.new np) rfl (hs.newLst np (RDs.of_map (f := D.int) (g := V.int) (fun _ => rfl) ys))⟩
  · cases h

/-! ### isinstance of built-in classes -/
def tyNmDO : Option DO → Option String
  | some (.lst _) => some "list"
  | some (.dk _) => some "dict"
  | _ => none
def tyNm (S : Store) : D → Option String
  | .non => some "NoneType"
  | .bl _ => some "bool"
  | .int _ => some "int"
  | .str _ => some "str"
  | .tup _ => some "tuple"
  | .rol _ => some "list"
  | .ref a => tyNmDO (S a)
  | .ty _ => none
theorem tyNm_ok {K : PySem.W.Frag} {H : Hp} {S : Store} {d : D} {v : V} {t : String} (h : tyNm S d = some t) (r : RD K H d v) (s : RS K H S) : TyX K H v (.type t) := by
  cases d with
  | non => cases h; cases (show v = .non from r); exact .base .non
  | bl b => cases h; cases (show v = .bl b from r); exact .base (.bl b)
  | int b => cases h; cases (show v = .int b from r); exact .base (.int b)
  | str b => cases h; cases (show v = .str b from r); exact .base (.str b)
  | tup ds =>
    cases h
    obtain ⟨p, vs, rfl, ht, _⟩ := r
    rcases ht with (ht | ⟨o, ht⟩) | ⟨o, its, n, hk, hc, _⟩
    · exact .base (.tup ht)
    · exact .fTuple ht
    · exact .kTuple hk hc
  | rol ds =>
    cases h
    obtain ⟨p, vs, rfl, ht, _⟩ := r
    rcases ht with ⟨o, ht⟩ | ⟨o, its, n, hk, hc, _⟩
    · exact .base (.frz ht)
    · exact .kList hk hc
  | ref a =>
    cases (show v = .ref a from r)
    have h : tyNmDO (S a) = some t := h
    unfold tyNmDO at h
    split at h
    · rename_i ds e
      cases h
      obtain ⟨vs, h1, _⟩ := s.lst e
      exact .base (.lst h1)
    · rename_i ds e
      cases h
      obtain ⟨vs, h1, _⟩ := s a _ e
      exact .base (.dK h1)
    · cases h
  | ty n => cases h
def oIsi : RAD := fun xs S Q => match xs with
  | [x, .ty T] => ∃ t b, tyNm S x = some t ∧ kitB t T = some b ∧ Q (.bl b) S
  | _ => False
theorem cd_isi : CallD X (.builtin "isinstance") oIsi := by
  intro pins s σ H xs us Q I rs h
  obtain ⟨ds, S, Q0, hx, hs, h, q⟩ := h
  unfold oIsi at h
  split at h
  · obtain ⟨v, w, rfl, e1, e2⟩ := hx.two
    cases (show w = .ty _ from e2)
    obtain ⟨t, b, e3, e4, h⟩ := h
    exact call_isi pins s σ H _ us Q I rs ⟨v, _, _, _, b, rfl, .ty _, tyNm_ok e3 e1 hs, kit_ty e4, q _ _ _ _ h .refl rfl hs⟩
  · cases h
theorem kit_tt : kitB "tuple" "tuple" = some true := by decide +kernel
theorem kit_st : kitB "str" "tuple" = some false := by decide +kernel
theorem kit_it : kitB "int" "tuple" = some false := by decide +kernel
theorem kit_bt : kitB "bool" "tuple" = some false := by decide +kernel
theorem kit_ss : kitB "str" "str" = some true := by decide +kernel
theorem kit_ts : kitB "tuple" "str" = some false := by decide +kernel
theorem kit_is : kitB "int" "str" = some false := by decide +kernel
theorem kit_ii : kitB "int" "int" = some true := by decide +kernel
theorem kit_si : kitB "str" "int" = some false := by decide +kernel
theorem kit_ti : kitB "tuple" "int" = some false := by decide +kernel
theorem kit_bi : kitB "bool" "int" = some true := by decide +kernel
theorem kit_ib : kitB "int" "bool" = some false := by decide +kernel
theorem kit_sb : kitB "str" "bool" = some false := by decide +kernel
theorem kit_tb : kitB "tuple" "bool" = some false := by decide +kernel
theorem kit_bb : kitB "bool" "bool" = some true := by decide +kernel

/-- dict(d): a copy -/
def oDictCopy : RAD := fun xs S Q => match xs with
  | [.ref a] => ∃ kvs, S a = some (.dk kvs) ∧ ∀ p, S p = none → Q (.ref p) (put S p (.dk kvs))
  | _ => False
theorem cd_dict : CallD X (.type "dict") oDictCopy := by
  intro pins s σ H xs us Q I rs h
  obtain ⟨ds, S, Q0, hx, hs, h, q⟩ := h
  unfold oDictCopy at h
  split at h
  · rename_i a
    obtain ⟨v, rfl, e⟩ := hx.one
    cases (show v = .ref a from e)
    obtain ⟨kvs, e, h⟩ := h
    obtain ⟨ws, h1, hd⟩ := hs a _ e
    cases rs with
    | cons r1 r2 =>
      cases r2
      cases (show _ = Value.ref a from r1)
      refine d_copyOf I (.inl h1) fun p s' np I' => ⟨.ref p, _, I', rfl, ?_⟩
      exact q _ _ _ _ (h p (hs.free np)) (Ext.new np) rfl (hs.new np ⟨ws, upd_same, RKV.ext (Ext.new np) hd⟩)
  · cases h

/-! ### methods -/
abbrev RMD := D → List D → Store → KD → Prop
def liftM (K : PySem.W.Frag) (r : RMD) : V → List V → Hp → VK → Prop := fun x xs H Q => ∃ d ds S Q0, RD K H d x ∧ RDs K H ds xs ∧ RS K H S ∧ r d ds S Q0 ∧ ∀ d' S' v H', Q0 d' S' → Ext K H H' → RD K H' d' v → RS K H' S' → Q v H'
def MtD (X : Cx) (id : String) (r : RMD) : Prop := MtR X id (liftM X.K r)
def tyD (T : String) (x : D) (S : Store) : Prop := match x with
  | .str _ => T = "str"
  | .ref a => (T = "list" ∧ ∃ ds, S a = some (.lst ds)) ∨ (T = "dict" ∧ ∃ kvs, S a = some (.dk kvs))
  | .rol _ => T = "list"
  | _ => False
theorem tyD_ok {K : PySem.W.Frag} {H : Hp} {S : Store} {T : String} {d : D} {v : V} (h : tyD T d S) (r : RD K H d v) (s : RS K H S) : tyV K T v H := by
  cases d with
  | str z => cases (show v = .str z from r); exact h
  | ref a =>
    cases (show v = .ref a from r)
    rcases h with ⟨e, ds, h⟩ | ⟨e, kvs, h⟩
    · obtain ⟨vs, h1, _⟩ := s.lst h
      exact .inl ⟨e, vs, SqL.of h1⟩
    · obtain ⟨vs, h1, _⟩ := s a _ h
      exact .inr (.inr (.inl ⟨e, .inl ⟨vs, h1⟩⟩))
  | rol ds =>
    obtain ⟨p, vs, rfl, ht, _⟩ := r
    exact .inl ⟨h, vs, ht.sq⟩
  | _ => cases h
def tMD (T : String) (r : RMD) (to : TED) (t : TAD) : TED := fun δ S Q => to δ S fun x S1 => tyD T x S1 ∧ t δ S1 fun xs S2 => r x xs S2 Q
variable {o e : Expr} {es : List Expr} {to : TED} {t : TAD} {name : Str} {apos cpos : Pos} {T id : String} {r : RMD}
theorem de_m0 (pa : PlainAttrs T) (slot : Slot T name id) (hty : typeOf (.builtin id) = pure (.type "method_descriptor")) (hm : MtD X id r) (ho : DE X o to)
    (hbase : attributeBase o name X.env (eval o X.env) = eval o X.env := by rfl) (hline : (apos.endLine == cpos.line) = true := by rfl) : DE X (.Call (.Attribute o name apos) [] [] cpos) (tMD T r to tNilD) :=
  PEi (pe_bm0 pa slot hty hm ho hbase hline) fun σ H Q h => by
  obtain ⟨δ, S, Q0, h1, h2, h3, h4⟩ := h
  refine ⟨δ, S, _, h1, h2, h3, fun x S1 v H1 q e1 r1 s1 => ⟨tyD_ok q.1 r1 s1, x, [], S1, Q0, r1, rfl, s1, q.2, fun d' S' v' H' q' e' r' s' => h4 _ _ _ _ q' (e1.trans e') r' s'⟩⟩
theorem de_m (pa : PlainAttrs T) (slot : Slot T name id) (hty : typeOf (.builtin id) = pure (.type "method_descriptor")) (hm : MtD X id r) (ho : DE X o to) (ha : DA X (e :: es) t)
    (hbase : attributeBase o name X.env (eval o X.env) = eval o X.env := by rfl)
    (hfew : ((backTo cpos (starEach (e :: es) X.env)).all (fun x => !x.1) && (backToKw cpos (keywordEach [] X.env)).all (fun x => x.1.isSome)
      && decide ((e :: es).length + ([] : List Keyword).length + (if ([] : List Keyword).isEmpty then 0 else 1) < 30)) = true := by rfl)
    (hline : (apos.endLine == cpos.line) = true := by rfl) (hs : starEach (e :: es) X.env = (false, eval e X.env) :: starEach es X.env := by rfl) (hplain : (backTo cpos (starEach es X.env)).any (·.1) = false := by rfl) :
    DE X (.Call (.Attribute o name apos) (e :: es) [] cpos) (tMD T r to t) :=
  PEi (pe_bm pa slot hty hm ho ha hbase hfew hline hs hplain) fun σ H Q h => by
  obtain ⟨δ, S, Q0, h1, h2, h3, h4⟩ := h
  refine ⟨δ, S, _, h1, h2, h3, fun x S1 v H1 q e1 r1 s1 => ⟨tyD_ok q.1 r1 s1, δ, S1, _, h1.ext e1, s1, q.2, fun ds S2 vs H2 q2 e2 r2 s2 => ?_⟩⟩
  exact ⟨x, ds, S2, Q0, r1.ext e2, r2, s2, q2, fun d' S' v' H' q' e' r' s' => h4 _ _ _ _ q' (e1.trans (e2.trans e')) r' s'⟩
def mAppend : RMD := fun x xs S Q => match x, xs with
  | .ref a, [y] => ∃ ds, S a = some (.lst ds) ∧ ds.length < sizeLine ∧ Q .non (put S a (.lst (ds ++ [y])))
  | _, _ => False
theorem md_append : MtD X "list.append" mAppend := by
  intro pins s σ H x xs v us Q I rx rs h
  obtain ⟨d, ds, S, Q0, hx, hxs, hs, h, q⟩ := h
  unfold mAppend at h
  split at h
  · rename_i a y
    cases (show x = .ref a from hx)
    obtain ⟨w, rfl, ry⟩ := hxs.one
    obtain ⟨ds, e, hl, h⟩ := h
    obtain ⟨vs, h1, hd⟩ := hs.lst e
    refine mt_append pins s σ H _ _ v us Q I rx rs ⟨a, vs, w, rfl, rfl, h1, by rw [hd.length]; exact hl, ?_⟩
    exact q _ _ _ _ h (Ext.put h1 trivial) rfl (hs.put h1 trivial ⟨_, upd_same, (hd.snoc ry).ext (Ext.put h1 trivial)⟩)
  · cases h
def mPop : RMD := fun x xs S Q => match x, xs with
  | .ref a, [] => ∃ ds y, S a = some (.lst ds) ∧ ds[ds.length - 1]? = some y ∧ Q y (put S a (.lst ds.dropLast))
  | _, _ => False
theorem md_pop : MtD X "list.pop" mPop := by
  intro pins s σ H x xs v us Q I rx rs h
  obtain ⟨d, ds, S, Q0, hx, hxs, hs, h, q⟩ := h
  unfold mPop at h
  split at h
  · rename_i a
    cases (show x = .ref a from hx)
    cases (show xs = [] from hxs)
    obtain ⟨ds, y, e, ey, h⟩ := h
    obtain ⟨vs, h1, hd⟩ := hs.lst e
    obtain ⟨w, ew, rw'⟩ := hd.get ey
    refine mt_pop pins s σ H _ _ v us Q I rx rs ⟨a, vs, w, rfl, rfl, h1, by rw [hd.length]; exact ew, ?_⟩
    exact q _ _ _ _ h (Ext.put h1 trivial) (rw'.ext (Ext.put h1 trivial)) (hs.put h1 trivial ⟨_, upd_same, hd.dropLast.ext (Ext.put h1 trivial)⟩)
  · cases h
def mSplit : RMD := fun x xs S Q => match x, xs with
  | .str a, [.str b] => (b.length == 0) = false ∧ a.length + 2 ≤ sizeLine ∧ ∀ p, S p = none → Q (.ref p) (put S p (.lst ((Txt.split a b).map D.str)))
  | _, _ => False
theorem md_split : MtD X "str.split" mSplit := by
  intro pins s σ H x xs v us Q I rx rs h
  obtain ⟨d, ds, S, Q0, hx, hxs, hs, h, q⟩ := h
  unfold mSplit at h
  split at h
  · rename_i a b
    cases (show x = .str a from hx)
    obtain ⟨w, rfl, ry⟩ := hxs.one
    cases (show w = .str b from ry)
    refine mt_split pins s σ H _ _ v us Q I rx rs ⟨a, b, rfl, rfl, h.1, h.2.1, fun p np => ?_⟩
    exact q _ _ _ _ (h.2.2 p (hs.free np)) (Ext.new np) rfl (hs.newLst np (RDs.of_map (f := D.str) (g := V.str) (fun _ => rfl) _))
  · cases h
/-- d.get(k, x), d.get(k) -/
def mGet : RMD := fun x xs S Q => match x, xs with
  | .ref a, [y, z] => ∃ kvs k, S a = some (.dk kvs) ∧ keyOf y = some k ∧ Q ((dval kvs k).getD z) S
  | .ref a, [y] => ∃ kvs k, S a = some (.dk kvs) ∧ keyOf y = some k ∧ Q ((dval kvs k).getD .non) S
  | _, _ => False
theorem RKV.getD {K : PySem.W.Frag} {H : Hp} {kvs : List (Key × D)} {ws : List (Key × V)} (h : RKV K H kvs ws) (k : Key) {d : D} {v : V} (r : RD K H d v) : RD K H ((dval kvs k).getD d) ((valV ws k).getD v) := by
  rcases h.val k with ⟨d', v', e1, e2, r'⟩ | ⟨e1, e2⟩
  · rw [e1, e2]; exact r'
  · rw [e1, e2]; exact r
theorem md_get (hu : X.A.units + 1 < cLine) : MtD X "dict.get" mGet := by
  intro pins s σ H x xs v us Q I rx rs h
  obtain ⟨d, ds, S, Q0, hx, hxs, hs, h, q⟩ := h
  unfold mGet at h
  split at h
  · rename_i a y z
    cases (show x = .ref a from hx)
    obtain ⟨w1, w2, rfl, r1, r2⟩ := hxs.two
    obtain ⟨kvs, k, e, ek, hq⟩ := h
    have ed := keyOf_kD ek
    subst ed
    have ev := kD_kV r1
    subst ev
    obtain ⟨ws, h1, hd⟩ := hs a _ e
    cases (show v = Value.ref a from rx)
    cases rs with
    | cons p1 p2 =>
      cases p2 with
      | cons p2 p3 =>
        cases p3
        refine d_get2 hu I (DGet.k h1) p1 p2 fun w' s' I' r' => ⟨_, H, I', r', ?_⟩
        exact q _ _ _ _ hq .refl (hd.getD k r2) hs
  · rename_i a y
    cases (show x = .ref a from hx)
    obtain ⟨w1, rfl, r1⟩ := hxs.one
    obtain ⟨kvs, k, e, ek, hq⟩ := h
    have ed := keyOf_kD ek
    subst ed
    have ev := kD_kV r1
    subst ev
    obtain ⟨ws, h1, hd⟩ := hs a _ e
    cases (show v = Value.ref a from rx)
    cases rs with
    | cons p1 p2 =>
      cases p2
      refine d_get1 hu I (DGet.k h1) p1 fun w' s' I' r' => ⟨_, H, I', r', ?_⟩
      exact q _ _ _ _ hq .refl (hd.getD k rfl) hs
  · cases h
/-- d.pop(k, x) -/
def mDPop : RMD := fun x xs S Q => match x, xs with
  | .ref a, [y, z] => ∃ kvs k, S a = some (.dk kvs) ∧ keyOf y = some k ∧ Q ((dval kvs k).getD z) (put S a (.dk (ddrop kvs k)))
  | _, _ => False
theorem dropK_none {kvs : List (Key × V)} {k : Key} (h : valV kvs k = none) : dropK kvs k = kvs := by
  unfold dropK
  rw [List.filter_eq_self]
  intro a ha
  simp only [ne_eq, decide_not, Bool.not_eq_true', decide_eq_false_iff_not]
  intro e
  have z := valV_any k kvs
  rw [h] at z
  have z2 : (kvs.any fun kv => decide (kv.1 = k)) = true := List.any_eq_true.mpr ⟨a, ha, by simp [e]⟩
  rw [z2] at z
  cases z
theorem md_dpop : MtD X "dict.pop" mDPop := by
  intro pins s σ H x xs v us Q I rx rs h
  obtain ⟨d, ds, S, Q0, hx, hxs, hs, h, q⟩ := h
  unfold mDPop at h
  split at h
  · rename_i a y z
    cases (show x = .ref a from hx)
    obtain ⟨w1, w2, rfl, r1, r2⟩ := hxs.two
    obtain ⟨kvs, k, e, ek, hq⟩ := h
    have ed := keyOf_kD ek
    subst ed
    have ev := kD_kV r1
    subst ev
    obtain ⟨ws, h1, hd⟩ := hs a _ e
    have go := hd.drop k
    cases (show v = Value.ref a from rx)
    cases rs with
    | cons p1 p2 =>
      cases p2 with
      | cons p2 p3 =>
        cases p3
        rcases hd.val k with ⟨d', v', e1, e2, r'⟩ | ⟨e1, e2⟩
        · refine d_pop I h1 p1 e2 (.inr ⟨_, rfl⟩) fun w' s' I' r'' => ⟨v', _, I', r'', ?_⟩
          rw [e1] at hq
          exact q _ _ _ _ hq (Ext.put h1 trivial) (r'.ext (Ext.put h1 trivial)) (hs.put h1 trivial ⟨_, upd_same, RKV.ext (Ext.put h1 trivial) go⟩)
        · refine d_popD I h1 p1 e2 fun s' I' => ⟨w2, H, I', p2, ?_⟩
          rw [e1] at hq
          rw [dropK_none e2] at go
          refine q _ _ _ _ hq .refl r2 fun b o eb => ?_
          by_cases z : b = a
          · subst z
            rw [put_same] at eb
            cases eb
            exact ⟨ws, h1, go⟩
          · rw [put_ne z] at eb
            exact hs b o eb
  · cases h
end
end DL

set_option Elab.async false
set_option maxRecDepth 100000
/-! DLf: loops and comprehensions over data. -/
namespace DL
open PySem PySem.Spec PyProof.Rows L2

/-- what a loop walks: at turn i, in a store: not known, at its end, or the item -/
abbrev ItD := Nat → Store → Option (Option D)
/-- it is what the hand layer walks, from a heap on -/
def RI (K : PySem.W.Frag) (H1 : Hp) (J : ItD) (I : It) : Prop := ∀ i S H, Ext K H1 H → RS K H S →
  (J i S = some none → I.stop i H) ∧ ∀ d, J i S = some (some d) → I.go i H ∧ ∀ x H', I.yld i H x H' → Ext K H H' ∧ RD K H' d x ∧ RS K H' S
abbrev TID := StD → Store → (ItD → Store → Prop) → Prop
def liftI (K : PySem.W.Frag) (t : TID) : TI := fun σ H R => ∃ δ S R0, RSt K H δ σ ∧ RS K H S ∧ t δ S R0 ∧ ∀ J S' I H', R0 J S' → Ext K H H' → RI K H' J I → RS K H' S' → R I H'
def DI (X : Cx) (tg e : Expr) (t : TID) : Prop := PI X tg e (liftI X.K t)
def lstJ (o : Option DO) (i : Nat) : Option (Option D) := match o with
  | some (.lst ds) => some ds[i]?
  | _ => none
def itJ : D → ItD
  | .tup ds => fun i _ => some ds[i]?
  | .rol ds => fun i _ => some ds[i]?
  | .str z => fun i _ => some (z.cps[i]?.map fun c => .str ⟨#[c]⟩)
  | .ref a => fun i S => lstJ (S a) i
  | _ => fun _ _ => none
def rngJ (lo : Int) (n : Nat) : ItD := fun i _ => some (if i < n then some (.int (lo + (i : Nat))) else none)
def itOk : D → Store → Prop
  | .tup _, _ => True
  | .rol _, _ => True
  | .str _, _ => True
  | .ref a, S => ∃ ds, S a = some (.lst ds)
  | _, _ => False
section
variable {K : PySem.W.Frag} {H1 : Hp}
theorem ri_tup {p : Addr} {ds : List D} {vs : List V} (ht : SqT K H1 p vs) (hd : RDs K H1 ds vs) (inj : ∀ H xs, Ext K H1 H → SqT K H p xs → xs[0]? = xs[0]?) : RI K H1 (itJ (.tup ds)) (Itt K p) := fun i S H e s => by
  have ht' := e.1 _ _ ht
  have hd' := hd.ext e
  refine ⟨fun q => ⟨vs, ht', ?_⟩, fun d q => ?_⟩
  · have q' : ds[i]? = none := Option.some.inj q
    rw [hd.length]
    exact List.getElem?_eq_none_iff.mp q'
  · have q' : ds[i]? = some d := Option.some.inj q
    obtain ⟨v, ev, rv⟩ := hd'.get q'
    refine ⟨⟨vs, v, ht', ev⟩, fun x H' y => ?_⟩
    obtain ⟨rfl, y⟩ := y
    have := y vs ht'
    rw [ev] at this
    cases this
    exact ⟨.refl, rv, s⟩
theorem ri_rol {p : Addr} {ds : List D} {vs : List V} (ht : SqR K H1 p vs) (hd : RDs K H1 ds vs) : RI K H1 (itJ (.rol ds)) (Itl K p) := fun i S H e s => by
  have ht' := (e.2 _ _ ht).sq
  have hd' := hd.ext e
  refine ⟨fun q => ⟨vs, ht', ?_⟩, fun d q => ?_⟩
  · have q' : ds[i]? = none := Option.some.inj q
    rw [hd.length]
    exact List.getElem?_eq_none_iff.mp q'
  · have q' : ds[i]? = some d := Option.some.inj q
    obtain ⟨v, ev, rv⟩ := hd'.get q'
    refine ⟨⟨vs, v, ht', ev⟩, fun x H' y => ?_⟩
    obtain ⟨rfl, y⟩ := y
    have := y vs ht'
    rw [ev] at this
    cases this
    exact ⟨.refl, rv, s⟩
theorem lstJ_some {o : Option DO} {i : Nat} {r : Option D} (h : lstJ o i = some r) : ∃ ds, o = some (.lst ds) ∧ ds[i]? = r := by
  unfold lstJ at h
  split at h
  · exact ⟨_, rfl, Option.some.inj h⟩
  · cases h
theorem ri_lst {a : Addr} : RI K H1 (itJ (.ref a)) (Itl K a) := fun i S H e s => by
  refine ⟨fun q => ?_, fun d q => ?_⟩
  · obtain ⟨ds, ea, q'⟩ := lstJ_some q
    obtain ⟨vs, h1, hd⟩ := s.lst ea
    refine ⟨vs, SqL.of h1, ?_⟩
    rw [hd.length]
    exact List.getElem?_eq_none_iff.mp q'
  · obtain ⟨ds, ea, q'⟩ := lstJ_some q
    obtain ⟨vs, h1, hd⟩ := s.lst ea
    obtain ⟨v, ev, rv⟩ := hd.get q'
    refine ⟨⟨vs, v, SqL.of h1, ev⟩, fun x H' y => ?_⟩
    obtain ⟨rfl, y⟩ := y
    have := y vs (SqL.of h1)
    rw [ev] at this
    cases this
    exact ⟨.refl, rv, s⟩
theorem ri_str {z : Str} : RI K H1 (itJ (.str z)) (Its z) := fun i S H e s => by
  refine ⟨fun q => ?_, fun d q => ?_⟩
  · have q' : (z.cps[i]?.map fun c => D.str ⟨#[c]⟩) = none := Option.some.inj q
    have q2 := Option.map_eq_none_iff.mp q'
    exact Array.getElem?_eq_none_iff.mp q2
  · have q' : (z.cps[i]?.map fun c => D.str ⟨#[c]⟩) = some d := Option.some.inj q
    obtain ⟨c, ec, rfl⟩ := Option.map_eq_some_iff.mp q'
    refine ⟨(Array.getElem?_eq_some_iff.mp ec).1, fun x H' y => ?_⟩
    obtain ⟨rfl, c', ec', rfl⟩ := y
    rw [ec] at ec'
    cases ec'
    exact ⟨.refl, rfl, s⟩
theorem ri_rng {lo : Int} {n : Nat} : RI K H1 (rngJ lo n) (Itr lo n) := fun i S H e s => by
  refine ⟨fun q => ?_, fun d q => ?_⟩
  · have q' : (if i < n then some (D.int (lo + (i : Nat))) else none) = none := Option.some.inj q
    split at q'
    · cases q'
    · rename_i h
      exact Nat.le_of_not_lt h
  · have q' : (if i < n then some (D.int (lo + (i : Nat))) else none) = some d := Option.some.inj q
    split at q'
    · rename_i h
      cases q'
      refine ⟨h, fun x H' y => ?_⟩
      obtain ⟨rfl, rfl⟩ := y
      exact ⟨.refl, rfl, s⟩
    · cases q'
end
section
variable {X : Cx} {tg e : Expr} {te : TED} {ta : TAD}
def tIterD (te : TED) : TID := fun δ S R => te δ S fun x S1 => itOk x S1 ∧ R (itJ x) S1
/-- a walk over a value: list, tuple, text -/
theorem di_any (he : DE X e te) : DI X tg e (tIterD te) := by
  refine ⟨fun pins s σ H R I h => ?_⟩
  obtain ⟨δ, S, R0, h1, h2, h3, h4⟩ := h
  have key : liftE X.K te σ H (fun v H1 => ∃ d S1, RD X.K H1 d v ∧ RS X.K H1 S1 ∧ Ext X.K H H1 ∧ itOk d S1 ∧ R0 (itJ d) S1) := ⟨δ, S, _, h1, h2, h3, fun d S1 v H1 q e1 r1 s1 => ⟨d, S1, r1, s1, e1, q.1, q.2⟩⟩
  refine thn (he.run pins s σ H _ I key) fun v s1 ⟨x, H1, I1, rx, d, S1, rd, rs, e1, ok, q⟩ => ?_
  cases d with
  | tup ds =>
    obtain ⟨p, vs, rfl, ht, hd⟩ := rd
    cases (show v = Value.ref p from rx)
    obtain ⟨its, rv, pt, hz⟩ := I1.tuple ht
    exact wpAny_pyIter_tuple (show s1.heap.IsTuple p its.toArray from pt) (pi_one (tk := s1.toks) I1 _ (turn_tuple p _) ⟨_, Heap.get?_push_size _ rfl, rfl, rfl⟩ (h4 _ _ _ _ q e1 (ri_tup ht hd fun _ _ _ _ => rfl) rs))
  | rol ds =>
    obtain ⟨p, vs, rfl, ht, hd⟩ := rd
    cases (show v = Value.ref p from rx)
    obtain ⟨its, rv, pt, hz⟩ := I1.list ht.sq
    exact wpAny_pyIter_list pt.isList (pi_one (tk := s1.toks) I1 _ (turn_list p _) ⟨_, Heap.get?_push_size _ rfl, rfl, rfl⟩ (h4 _ _ _ _ q e1 (ri_rol ht hd) rs))
  | ref a =>
    cases (show x = .ref a from rd)
    cases (show v = Value.ref a from rx)
    obtain ⟨ds, ea⟩ := ok
    obtain ⟨vs, hv, hd⟩ := rs.lst ea
    obtain ⟨its, rv, pt, hz⟩ := I1.list (SqL.of hv)
    exact wpAny_pyIter_list pt.isList (pi_one (tk := s1.toks) I1 _ (turn_list a _) ⟨_, Heap.get?_push_size _ rfl, rfl, rfl⟩ (h4 _ _ _ _ q e1 ri_lst rs))
  | str z =>
    cases (show x = .str z from rd)
    obtain ⟨t, rfl⟩ := rx
    have go := h4 _ _ _ _ q e1 (ri_str (z := z)) rs
    cases ha : z.cps.all (· < 128)
    · exact wpAny_pyIter_wide ha (pi_one (tk := s1.toks) I1 _ (turn_str _ z t "str_iterator" (.inr rfl)) ⟨_, Heap.get?_push_size _ rfl, rfl, rfl⟩ go)
    · exact wpAny_pyIter_ascii ha (pi_one (tk := s1.toks) I1 _ (turn_str _ z t "str_ascii_iterator" (.inl rfl)) ⟨_, Heap.get?_push_size _ rfl, rfl, rfl⟩ go)
  | _ => cases ok
theorem PIi {t t' : TI} (h : PI X tg e t') (w : ∀ σ H Q, t σ H Q → t' σ H Q) : PI X tg e t := ⟨fun pins s σ H Q I q => h.run pins s σ H Q I (w _ _ _ q)⟩
def tRng1D (ta : TAD) : TID := fun δ S R => ta δ S fun xs S1 => match xs with
  | [.int j] => (-(2 ^ 62) ≤ j ∧ j < 2 ^ 62) ∧ R (rngJ 0 j.toNat) S1
  | _ => False
def tRng2D (ta : TAD) : TID := fun δ S R => ta δ S fun xs S1 => match xs with
  | [.int i, .int j] => (-(2 ^ 62) ≤ i ∧ i < 2 ^ 62 ∧ -(2 ^ 62) ≤ j ∧ j < 2 ^ 62) ∧ R (rngJ i (j - i).toNat) S1
  | _ => False
theorem di_range1 {a : Expr} {p pos : Pos} (hg : Gl X "range") (hm : X.mg "range" = none) (ha : DA X [a] ta) (hs : starEach [a] X.env = [(false, eval a X.env)] := by rfl) : DI X tg (.Call (.Name "range" p) [a] [] pos) (tRng1D ta) := PIi (pi_range1 hg hm ha hs) fun σ H R h => by
  obtain ⟨δ, S, R0, h1, h2, h3, h4⟩ := h
  refine ⟨δ, S, _, h1, h2, h3, fun xs S1 vs H1 q e1 r1 s1 => ?_⟩
  split at q
  · obtain ⟨v, rfl, ev⟩ := r1.one
    exact ⟨_, by rw [show v = .int _ from ev], q.1.1, q.1.2, h4 _ _ _ _ q.2 e1 ri_rng s1⟩
  · cases q
theorem di_range2 {a b : Expr} {p pos : Pos} (hg : Gl X "range") (hm : X.mg "range" = none) (ha : DA X [a, b] ta) (hs : starEach [a, b] X.env = [(false, eval a X.env), (false, eval b X.env)] := by rfl) (hs2 : starEach [b] X.env = [(false, eval b X.env)] := by rfl) : DI X tg (.Call (.Name "range" p) [a, b] [] pos) (tRng2D ta) := PIi (pi_range2 hg hm ha hs hs2) fun σ H R h => by
  obtain ⟨δ, S, R0, h1, h2, h3, h4⟩ := h
  refine ⟨δ, S, _, h1, h2, h3, fun xs S1 vs H1 q e1 r1 s1 => ?_⟩
  split at q
  · obtain ⟨v, w, rfl, ev, ew⟩ := r1.two
    exact ⟨_, _, by rw [show v = .int _ from ev, show w = .int _ from ew], q.1, h4 _ _ _ _ q.2 e1 ri_rng s1⟩
  · cases q
end

/-! ### for, while -/
/-- n: a bound of the turns; W: what holds ahead of turn i -/
def forB (J : ItD) (g : GD) (tb : TSD) (G : EndsD) (δ : StD) (S1 : Store) : Prop := ∃ (n : Nat) (W : Nat → StD → Store → Prop), W 0 δ S1 ∧ ∀ i δ S, W i δ S →
  (J i S = some none ∧ G.nx δ S) ∨ ∃ d, J i S = some (some d) ∧ i < n ∧ asg g d δ S fun δ2 S2 => tb { G with nx := W (i + 1), ct := W (i + 1), bk := G.nx } δ2 S2
def tForD (wi : TID) (g : GD) (tb : TSD) : TSD := fun G δ S => wi δ S fun J S1 => forB J g tb G δ S1
def tWhileD (c : TTD) (tb : TSD) : TSD := fun G δ S => ∃ W : Nat → StD → Store → Prop, (∃ m, W m δ S) ∧ ∀ m δ S, W m δ S →
  c δ S fun b S1 => if b = true then ∃ N : StD → Store → Prop, (∀ δ' S', N δ' S' → ∃ m', m' < m ∧ W m' δ' S') ∧ tb { G with nx := N, ct := N, bk := G.nx } δ S1 else G.nx δ S1
section
variable {X : Cx} {tg iter c : Expr} {body : List Stmt} {wi : TID} {g : GD} {tb : TSD} {pos : Pos} {tc : TTD}
theorem ds_for (hp : PassesOwn (model X.prog X.w) X.A X.env X.xe) (hc : X.calm = true) (hi : DI X tg iter wi) (hg : DG X tg g) (hb : DSs X body tb) (hs : ∀ x, foldedSetIterable iter X.env x = pure x := by intro _; rfl) : DS X (.For tg iter body [] pos) (tForD wi g tb) :=
  PSi (ps_for hp hc hi hg hb hs) fun E σ H h => by
  obtain ⟨δ, S, G, h1, h2, h3, n, r, b, ct⟩ := h
  refine ⟨δ, S, _, h1, h2, h3, fun J S1 It H1 q e1 ri s1 => ?_⟩
  obtain ⟨N, W, w0, turn⟩ := q
  refine ⟨fun i m σ' H' => m = N - i ∧ ∃ δ' S', Ext X.K H1 H' ∧ RSt X.K H' δ' σ' ∧ RS X.K H' S' ∧ W i δ' S', ⟨N, rfl, δ, S1, .refl, h1.ext e1, s1, w0⟩, ?_⟩
  rintro i m σ' H' ⟨rfl, δ', S', e2, r2, s2, w2⟩
  obtain ⟨stop, go⟩ := ri i S' H' e2 s2
  rcases turn i δ' S' w2 with ⟨ej, q⟩ | ⟨d, ej, hi', q⟩
  · exact .inl ⟨stop ej, n _ _ _ _ q (e1.trans e2) r2 s2⟩
  · obtain ⟨hgo, hy⟩ := go d ej
    refine .inr ⟨hgo, fun σ3 H3 => ∃ δ3 S3, Ext X.K H1 H3 ∧ RSt X.K H3 δ3 σ3 ∧ RS X.K H3 S3 ∧ W (i + 1) δ3 S3, fun σ3 H3 ⟨δ3, S3, a1, a2, a3, a4⟩ => ⟨N - (i + 1), by omega, rfl, δ3, S3, a1, a2, a3, a4⟩, fun x H3 y => ?_⟩
    obtain ⟨e3, rd, s3⟩ := hy x H3 y
    refine asg_real q rd (r2.ext e3) s3 fun δ4 σ4 q4 r4 => ?_
    exact lift_shift (e2.trans e3) r4 s3 q4 (fun δ5 S5 σ5 H5 w5 e5 r5 s5 => ⟨δ5, S5, e5, r5, s5, w5⟩) (fun d5 S5 v5 H5 w5 e5 => r d5 S5 v5 H5 w5 (e1.trans e5)) (fun δ5 S5 σ5 H5 w5 e5 => n δ5 S5 σ5 H5 w5 (e1.trans e5)) fun δ5 S5 σ5 H5 w5 e5 r5 s5 => ⟨δ5, S5, e5, r5, s5, w5⟩
theorem ds_while (hp : PassesOwn (model X.prog X.w) X.A X.env X.xe) (hc : DT X c tc) (hb : DSs X body tb) : DS X (.While c body [] pos) (tWhileD tc tb) := PSi (ps_while hp hc hb) fun E σ H h => by
  obtain ⟨δ, S, G, h1, h2, h3, n, r, b, ct⟩ := h
  obtain ⟨W, ⟨m0, w0⟩, turn⟩ := h3
  refine ⟨fun m σ' H' => ∃ δ' S', Ext X.K H H' ∧ RSt X.K H' δ' σ' ∧ RS X.K H' S' ∧ W m δ' S', ⟨m0, δ, S, .refl, h1, h2, w0⟩, ?_⟩
  rintro m σ' H' ⟨δ', S', e2, r2, s2, w2⟩
  refine ⟨δ', S', _, r2, s2, turn m δ' S' w2, fun k S3 H3 q e3 s3 => ?_⟩
  cases k with
  | false => exact n _ _ _ _ q (e2.trans e3) (r2.ext e3) s3
  | true =>
    obtain ⟨N, hN, q⟩ := q
    rw [if_pos rfl]
    refine ⟨fun σ4 H4 => ∃ δ4 S4, Ext X.K H H4 ∧ RSt X.K H4 δ4 σ4 ∧ RS X.K H4 S4 ∧ N δ4 S4, fun σ4 H4 ⟨δ4, S4, a1, a2, a3, a4⟩ => ?_, ?_⟩
    · obtain ⟨m', hm, w4⟩ := hN δ4 S4 a4
      exact ⟨m', hm, δ4, S4, a1, a2, a3, w4⟩
    · exact lift_shift (e2.trans e3) (r2.ext e3) s3 q (fun δ5 S5 σ5 H5 w5 e5 r5 s5 => ⟨δ5, S5, e5, r5, s5, w5⟩) r n fun δ5 S5 σ5 H5 w5 e5 r5 s5 => ⟨δ5, S5, e5, r5, s5, w5⟩
end

/-! ### comprehensions -/
def wipeD (δ : StD) : List Nat → StD
  | [] => δ
  | v :: vs => sto (wipeD δ vs) v none
theorem RSt.wipe {K : PySem.W.Frag} {H : Hp} {δ : StD} {σ : L2.St} (h : RSt K H δ σ) : ∀ vs : List Nat, RSt K H (wipeD δ vs) (L2.wipe σ vs)
  | [] => h
  | v :: vs => RSt.stn (RSt.wipe h vs)
/-- the places that a target stores -/
def GD.places : GD → List Nat
  | .one i => [i]
  | .many is => is
theorem wipe_set {σ : L2.St} {i : Nat} {x : Option V} : ∀ {vs : List Nat}, i ∈ vs → L2.wipe (σ.set i x) vs = L2.wipe σ vs
  | v :: vs, h => by
    show (L2.wipe (σ.set i x) vs).set v none = (L2.wipe σ vs).set v none
    by_cases hi : i ∈ vs
    · rw [wipe_set hi]
    · have e : i = v := by
        rcases List.mem_cons.mp h with e | e
        · exact e
        · exact absurd e hi
      subst e
      have comm : ∀ (ws : List Nat), i ∉ ws → L2.wipe (σ.set i x) ws = (L2.wipe σ ws).set i x := by
        intro ws
        induction ws with
        | nil => intro _; rfl
        | cons w ws ih =>
          intro hw
          show (L2.wipe (σ.set i x) ws).set w none = ((L2.wipe σ ws).set w none).set i x
          rw [ih (fun z => hw (List.mem_cons_of_mem _ z)), List.set_comm _ _ (fun z => hw (by subst z; exact List.mem_cons_self))]
      rw [comm vs hi, List.set_set]
theorem wipe_idem {σ : L2.St} : ∀ {ws vs : List Nat}, (∀ w ∈ ws, w ∈ vs) → L2.wipe (L2.wipe σ ws) vs = L2.wipe σ vs
  | [], _, _ => rfl
  | w :: ws, vs, h => by
    show L2.wipe ((L2.wipe σ ws).set w none) vs = L2.wipe σ vs
    rw [wipe_set (h w List.mem_cons_self), wipe_idem fun x hx => h x (List.mem_cons_of_mem _ hx)]
theorem wipe_sets {vs : List Nat} : ∀ {is : List Nat} {xs : List V} {σ : L2.St}, (∀ i ∈ is, i ∈ vs) → L2.wipe (DL.sets σ is xs) vs = L2.wipe σ vs
  | [], _, _, _ => by unfold DL.sets; rfl
  | i :: is, [], _, _ => by unfold DL.sets; rfl
  | i :: is, x :: xs, σ, h => by
    show L2.wipe (DL.sets (σ.set i (some x)) is xs) vs = _
    rw [wipe_sets fun j hj => h j (List.mem_cons_of_mem _ hj), wipe_set (h i List.mem_cons_self)]
/-- .. with what the store did to the slots -/
theorem asg_wipe {K : PySem.W.Frag} {g : GD} {d : D} {v : V} {δ : StD} {σ : L2.St} {S : Store} {H : Hp} {vs : List Nat} {Q0 : StD → Store → Prop} {Q : L2.St → Hp → Prop} (hp : ∀ i ∈ g.places, i ∈ vs) (h : asg g d δ S Q0) (rd : RD K H d v) (h1 : RSt K H δ σ) (h2 : RS K H S)
    (q : ∀ δ' σ', Q0 δ' S → RSt K H δ' σ' → L2.wipe σ' vs = L2.wipe σ vs → Q σ' H) : realG K g v σ H Q := by
  cases g with
  | one i => exact q _ _ h (h1.sto rd) (wipe_set (hp i List.mem_cons_self))
  | many is =>
    cases d with
    | tup ds =>
      obtain ⟨hl, h⟩ := h
      obtain ⟨p, ws, rfl, ht, hd⟩ := rd
      exact ⟨p, ws, rfl, ht, by rw [hd.length]; exact hl, gNames_at (by rw [hd.length]; exact hl) (q _ _ h (h1.sets hd) (wipe_sets hp))⟩
    | _ => cases h
/-- [elt for tg in iter if ..]: the new list stands at p; W: what holds ahead of turn i, the store with the list within -/
def lcB (J : ItD) (g : GD) (tt : TTD) (te : TED) (vs : List Nat) (δ : StD) (Q : KD) (p : Addr) (S1 : Store) : Prop := ∃ (n : Nat) (W : Nat → Store → Prop), W 0 (put S1 p (.lst [])) ∧ ∀ i S, W i S →
  (J i S = some none ∧ Q (.ref p) S) ∨ ∃ d, J i S = some (some d) ∧ i < n ∧ asg g d (wipeD δ vs) S fun δ2 S2 => tt δ2 S2 fun b S3 =>
    if b = true then te δ2 S3 fun y S4 => ∃ acc, S4 p = some (.lst acc) ∧ acc.length < sizeLine ∧ W (i + 1) (put S4 p (.lst (acc ++ [y]))) else W (i + 1) S3
def tLcD (wi : TID) (g : GD) (tt : TTD) (te : TED) (vs : List Nat) : TED := fun δ S Q => wi δ S fun J S1 => ∀ p, S1 p = none → lcB J g tt te vs δ Q p S1
def tYesD : TTD := fun _ S Q => Q true S
def DTs (X : Cx) (ifs : List Expr) (t : TTD) : Prop := PTs X ifs (liftT X.K t)
section
variable {X : Cx} {elt tg iter : Expr} {ifs : List Expr} {scope : Scope} {own : List (Str × Nat)} {pos : Pos} {wi : TID} {g : GD} {tt : TTD} {te : TED}
theorem PTsi {t t' : TT} (h : PTs X ifs t') (w : ∀ σ H Q, t σ H Q → t' σ H Q) : PTs X ifs t := ⟨fun pins s σ H Q I q => h.run pins s σ H Q I (w _ _ _ q)⟩
theorem dts_nil : DTs X [] tYesD := PTsi pts_nil fun σ H Q h => by
  obtain ⟨δ, S, Q0, h1, h2, h3, h4⟩ := h
  exact h4 _ _ _ h3 .refl h2
theorem dts_one {c : Expr} (h : DT X c tt) : DTs X [c] tt := pts_one h
theorem lc_lift {σ : L2.St} {H : Hp} {Q : VK} {vs : List Nat} (hp : ∀ i ∈ g.places, i ∈ vs) (h : liftE X.K (tLcD wi g tt te vs) σ H Q) : tLc (liftI X.K wi) (realG X.K g) (liftT X.K tt) (liftE X.K te) vs σ H Q := by
  obtain ⟨δ, S, Q0, h1, h2, h3, h4⟩ := h
  refine ⟨δ, S, _, h1, h2, h3, fun J S1 It H1 q e1 ri s1 => fun D nD => ?_⟩
  obtain ⟨N, W, w0, turn⟩ := q D (s1.free nD)
  refine ⟨fun i m H' => m = N - i ∧ ∃ S', Ext X.K H1 H' ∧ RS X.K H' S' ∧ W i S', ⟨N, rfl, _, Ext.new nD, s1.newLst (ds := []) (vs := []) nD rfl, w0⟩, ?_⟩
  rintro i m H' ⟨rfl, S', e2, s2, w2⟩
  obtain ⟨stop, go⟩ := ri i S' H' e2 s2
  rcases turn i S' w2 with ⟨ej, q⟩ | ⟨d, ej, hi', q⟩
  · exact .inl ⟨stop ej, h4 _ _ _ _ q (e1.trans e2) rfl s2⟩
  · obtain ⟨hgo, hy⟩ := go d ej
    refine .inr ⟨hgo, fun H3 => ∃ S3, Ext X.K H1 H3 ∧ RS X.K H3 S3 ∧ W (i + 1) S3, fun H3 ⟨S3, a1, a2, a3⟩ => ⟨N - (i + 1), by omega, rfl, S3, a1, a2, a3⟩, fun x H3 y => ?_⟩
    obtain ⟨e3, rd, s3⟩ := hy x H3 y
    have e13 := e2.trans e3
    refine asg_wipe (vs := vs) hp q rd ((h1.ext (e1.trans e13)).wipe vs) s3 fun δ4 σ4 q4 r4 w4 => ⟨?_, ?_⟩
    · rw [w4]
      exact wipe_idem fun w hw => hw
    · refine ⟨δ4, _, _, r4, s3, q4, fun k S5 H5 q5 e5 s5 => ?_⟩
      cases k with
      | false => exact ⟨S5, e13.trans e5, s5, q5⟩
      | true =>
        rw [if_pos rfl]
        refine ⟨δ4, S5, _, r4.ext e5, s5, q5, fun y' S6 v6 H6 q6 e6 r6 s6 => ?_⟩
        obtain ⟨acc, ea, hl, w6⟩ := q6
        obtain ⟨ws, hw, ra⟩ := s6.lst ea
        refine ⟨ws, hw, by rw [ra.length]; exact hl, _, (e13.trans (e5.trans e6)).trans (Ext.put hw trivial), ?_, w6⟩
        exact s6.put hw trivial ⟨_, upd_same, (ra.snoc r6).ext (Ext.put hw trivial)⟩
theorem de_lc (hc : X.calm = true) (hN : X.N.Nodup) (hi : DI X tg iter wi) (ok : BlkOk X.N X.env.scope scope own)
    (hg : ∀ (s : Shared) (H : Hp) (C : Addr) (cl : List (Str × Addr)) (fp : List Addr), DG (X.blk s H scope (compEnvC scope cl C X.env) fp) tg g) (ht : ∀ (s : Shared) (H : Hp) (C : Addr) (cl : List (Str × Addr)) (fp : List Addr), DTs (X.blk s H scope (compEnvC scope cl C X.env) fp) ifs tt)
    (he : ∀ (s : Shared) (H : Hp) (C : Addr) (cl : List (Str × Addr)) (fp : List Addr), DE (X.blk s H scope (compEnvC scope cl C X.env) fp) elt te) (hp : ∀ i ∈ g.places, i ∈ own.map (·.2) := by decide) (hs : ∀ x, foldedSetIterable iter X.env x = pure x := by intro _; rfl) :
    DE X (.ListComp elt [⟨tg, iter, ifs, 0⟩] scope pos) (tLcD wi g tt te (own.map (·.2))) := PEi (pe_lc (g := realG X.K g) (tt := liftT X.K tt) (te := liftE X.K te) hc hN hi ok hg ht he hs) fun σ H Q h => lc_lift hp h
theorem ds_setLc {i : Nat} {y : Str} {py spos : Pos} (hc : X.calm = true) (hN : X.N.Nodup) (hy : X.N[i]? = some y) (hyl : X.env.scope.names.lookup y = some .local)
    (hsw : swapsWith (.ListComp elt [⟨tg, iter, ifs, 0⟩] scope pos) (some (.Name y py)) spos.line X.env = pure true) (hi : DI X tg iter wi) (ok : BlkOk X.N X.env.scope scope own)
    (hg : ∀ (s : Shared) (H : Hp) (C : Addr) (cl : List (Str × Addr)) (fp : List Addr), DG (X.blk s H scope (compEnvC scope cl C X.env) fp) tg g) (ht : ∀ (s : Shared) (H : Hp) (C : Addr) (cl : List (Str × Addr)) (fp : List Addr), DTs (X.blk s H scope (compEnvC scope cl C X.env) fp) ifs tt)
    (he : ∀ (s : Shared) (H : Hp) (C : Addr) (cl : List (Str × Addr)) (fp : List Addr), DE (X.blk s H scope (compEnvC scope cl C X.env) fp) elt te) (hp : ∀ i ∈ g.places, i ∈ own.map (·.2) := by decide) (hs : ∀ x, foldedSetIterable iter X.env x = pure x := by intro _; rfl) :
    DS X (.Assign [.Name y py] (.ListComp elt [⟨tg, iter, ifs, 0⟩] scope pos) spos) (tAsgD (tLcD wi g tt te (own.map (·.2))) (.one i)) := PSi (ps_setLc (g := realG X.K g) (tt := liftT X.K tt) (te := liftE X.K te) hc hN hy hyl hsw hi ok hg ht he hs) fun E σ H h => by
  obtain ⟨δ, S, G, h1, h2, h3, n, r, b, c⟩ := h
  refine lc_lift (X := X) (Q := fun x H1 => gName i x σ H1 E.nx) hp ⟨δ, S, _, h1, h2, h3, fun d S1 v H1 q e1 r1 s1 => ?_⟩
  exact asg_real (K := X.K) (g := .one i) q r1 (h1.ext e1) s1 fun δ' σ' q' h' => n _ _ _ _ q' e1 h' s1
end
end DL

set_option Elab.async false
set_option maxRecDepth 100000
/-! DLg: how loops and comprehensions are used. -/
namespace DL
open PySem PySem.Spec PyProof.Rows L2

section
variable {J : ItD} {g : GD} {tb : TSD} {G : EndsD} {δ : StD} {S1 : Store}
/-- items that stand while the loop runs -/
theorem forB_seq (ds : List D) (Pv : Nat → StD → Store → Prop) (h0 : Pv 0 δ S1) (hJ : ∀ i δ S, i ≤ ds.length → Pv i δ S → J i S = some ds[i]?)
    (turn : ∀ i d δ S, ds[i]? = some d → Pv i δ S → asg g d δ S fun δ2 S2 => tb { G with nx := Pv (i + 1), ct := Pv (i + 1), bk := G.nx } δ2 S2) (done : ∀ δ S, Pv ds.length δ S → G.nx δ S) : forB J g tb G δ S1 := by
  refine ⟨ds.length, fun i δ S => i ≤ ds.length ∧ Pv i δ S, ⟨Nat.zero_le _, h0⟩, ?_⟩
  rintro i δ S ⟨hi, p⟩
  have ej := hJ i δ S hi p
  by_cases hlt : i < ds.length
  · refine .inr ⟨ds[i], by rw [ej, List.getElem?_eq_getElem hlt], hlt, ?_⟩
    have q := turn i ds[i] δ S (List.getElem?_eq_getElem hlt) p
    have e : (fun i δ S => i ≤ ds.length ∧ Pv i δ S) (i + 1) = Pv (i + 1) := by
      funext δ S
      exact propext ⟨fun h => h.2, fun h => ⟨hlt, h⟩⟩
    rw [e]
    exact q
  · have e : i = ds.length := Nat.le_antisymm hi (Nat.le_of_not_lt hlt)
    subst e
    exact .inl ⟨by rw [ej, List.getElem?_eq_none (Nat.le_refl _)], done δ S p⟩
theorem forB_rng {lo : Int} {n : Nat} (Pv : Nat → StD → Store → Prop) (h0 : Pv 0 δ S1)
    (turn : ∀ i δ S, i < n → Pv i δ S → asg g (.int (lo + (i : Nat))) δ S fun δ2 S2 => tb { G with nx := Pv (i + 1), ct := Pv (i + 1), bk := G.nx } δ2 S2) (done : ∀ δ S, Pv n δ S → G.nx δ S) : forB (rngJ lo n) g tb G δ S1 := by
  refine ⟨n, fun i δ S => i ≤ n ∧ Pv i δ S, ⟨Nat.zero_le _, h0⟩, ?_⟩
  rintro i δ S ⟨hi, p⟩
  by_cases hlt : i < n
  · refine .inr ⟨.int (lo + (i : Nat)), by unfold rngJ; rw [if_pos hlt], hlt, ?_⟩
    have q := turn i δ S hlt p
    have e : (fun i δ S => i ≤ n ∧ Pv i δ S) (i + 1) = Pv (i + 1) := by
      funext δ S
      exact propext ⟨fun h => h.2, fun h => ⟨hlt, h⟩⟩
    rw [e]
    exact q
  · have e : i = n := Nat.le_antisymm hi (Nat.le_of_not_lt hlt)
    subst e
    exact .inl ⟨by unfold rngJ; rw [if_neg (Nat.lt_irrefl _)], done δ S p⟩
end
section
variable {J : ItD} {g : GD} {tt : TTD} {te : TED} {vs : List Nat} {δ : StD} {Q : KD} {p : Addr} {S1 : Store}
/-- each item gives none or one, and nothing else is changed -/
theorem lcB_pure (ds : List D) (f : D → List D) (hJ : ∀ i acc, J i (put S1 p (.lst acc)) = some ds[i]?) (hz : ds.length ≤ sizeLine) (h1 : ∀ d ∈ ds, (f d).length ≤ 1)
    (turn : ∀ d acc, d ∈ ds → acc.length < sizeLine → asg g d (wipeD δ vs) (put S1 p (.lst acc)) fun δ2 S2 => tt δ2 S2 fun b S3 =>
      if b = true then te δ2 S3 fun y S4 => ∃ acc', S4 p = some (.lst acc') ∧ acc'.length < sizeLine ∧ put S4 p (.lst (acc' ++ [y])) = put S1 p (.lst (acc ++ f d)) else S3 = put S1 p (.lst (acc ++ f d)))
    (done : Q (.ref p) (put S1 p (.lst (ds.flatMap f)))) : lcB J g tt te vs δ Q p S1 := by
  have hl : ∀ es : List D, (∀ d ∈ es, (f d).length ≤ 1) → (es.flatMap f).length ≤ es.length := by
    intro es
    induction es with
    | nil => intro _; exact Nat.le_refl _
    | cons e es ih =>
      intro h
      rw [List.flatMap_cons, List.length_append, List.length_cons]
      have a := h e List.mem_cons_self
      have b := ih fun d hd => h d (List.mem_cons_of_mem _ hd)
      omega
  refine ⟨ds.length, fun i S => i ≤ ds.length ∧ S = put S1 p (.lst ((ds.take i).flatMap f)), ⟨Nat.zero_le _, rfl⟩, ?_⟩
  rintro i S ⟨hi, rfl⟩
  have ej := hJ i ((ds.take i).flatMap f)
  by_cases hlt : i < ds.length
  · refine .inr ⟨ds[i], by rw [ej, List.getElem?_eq_getElem hlt], hlt, ?_⟩
    have l1 := hl (ds.take i) fun d hd => h1 d (List.mem_of_mem_take hd)
    rw [List.length_take] at l1
    have q := turn ds[i] ((ds.take i).flatMap f) (List.getElem_mem hlt) (by omega)
    have e : (ds.take (i + 1)).flatMap f = (ds.take i).flatMap f ++ f ds[i] := by
      rw [← List.take_append_getElem hlt, List.flatMap_append, List.flatMap_cons, List.flatMap_nil, List.append_nil]
    have e2 : ∀ S, (i + 1 ≤ ds.length ∧ S = put S1 p (.lst ((ds.take (i + 1)).flatMap f))) = (S = put S1 p (.lst ((ds.take i).flatMap f ++ f ds[i]))) := fun S => by
      rw [e]
      exact propext ⟨fun h => h.2, fun h => ⟨hlt, h⟩⟩
    simp only [e2]
    exact q
  · have e : i = ds.length := Nat.le_antisymm hi (Nat.le_of_not_lt hlt)
    subst e
    refine .inl ⟨by rw [ej, List.getElem?_eq_none (Nat.le_refl _)], ?_⟩
    rw [List.take_length]
    exact done
/-- an item that gives one, the store as it was -/
theorem lc_one {acc l : List D} {y : D} (hl : acc.length < sizeLine) (e : l = [y]) : ∃ acc', put S1 p (.lst acc) p = some (.lst acc') ∧ acc'.length < sizeLine ∧ put (put S1 p (.lst acc)) p (.lst (acc' ++ [y])) = put S1 p (.lst (acc ++ l)) :=
  ⟨acc, put_same, hl, by rw [put_put, e]⟩
theorem lc_none {acc l : List D} (e : l = []) : put S1 p (.lst acc) = put S1 p (.lst (acc ++ l)) := by rw [e, List.append_nil]
end
theorem drop1 {Q : KD} {d : D} {S S' : Store} (h : Sub S S') (q : Q d S) : ∃ S'', Sub S'' S' ∧ Q d S'' := ⟨S, h, q⟩
end DL

set_option Elab.async false
set_option maxRecDepth 100000
/-! DLh: readings, step by step: rows for simp. -/
namespace DL
open PySem PySem.Spec PyProof.Rows L2

theorem sq {t u : TSD} {G : EndsD} {δ : StD} {S : Store} (h : t { G with nx := u G } δ S) : tSeqD t u G δ S := h
section
variable {i j : Int} {a b : Addr} {x y z : Str} {d e f g h : D} {ds es : List D} {S : Store} {Q : KD} {kvs : List (Key × D)} {k : Key} {c v : Bool}
theorem rAdd_ii : oAdd (.int i) (.int j) S Q = Q (.int (i + j)) S := rfl
theorem rAdd_ss : oAdd (.str x) (.str y) S Q = (x.length + y.length ≤ sizeLine ∧ Q (.str (x ++ y)) S) := rfl
theorem rAdd_tt : oAdd (.tup ds) (.tup es) S Q = (ds.length + es.length ≤ sizeLine ∧ Q (.tup (ds ++ es)) S) := rfl
theorem rAdd_rr : oAdd (.ref a) (.ref b) S Q = ∃ xs ys, S a = some (.lst xs) ∧ S b = some (.lst ys) ∧ xs.length + ys.length ≤ sizeLine ∧ ∀ p, S p = none → Q (.ref p) (put S p (.lst (xs ++ ys))) := rfl
theorem rII {C : Int → Int → Prop} {q : Int → Int → D} : oII C q (.int i) (.int j) S Q = (C i j ∧ Q (q i j) S) := rfl
theorem rSub_ii : oSub (.int i) (.int j) S Q = Q (.int (i - j)) S := by
  show (True ∧ _) = _
  rw [true_and]
theorem rMod_ii : oMod (.int i) (.int j) S Q = (0 < j ∧ Q (.int (i % j)) S) := rfl
theorem rDiv_ii : oDiv (.int i) (.int j) S Q = ((0 < j ∧ j < 1073741824) ∧ Q (.int (i / j)) S) := rfl
theorem rPow_ii : oPow (.int i) (.int j) S Q = (CPow i j ∧ Q (.int (i ^ j.toNat)) S) := rfl
theorem rMul_ii : oMul (.int i) (.int j) S Q = (((-(2 ^ 64) < i ∧ i < 2 ^ 64) ∨ (-(2 ^ 64) < j ∧ j < 2 ^ 64)) ∧ Q (.int (i * j)) S) := rfl
theorem rMul_ri : oMul (.ref a) (.int i) S Q = ∃ xs, S a = some (.lst xs) ∧ -(2 ^ 63) ≤ i ∧ i < 2 ^ 63 ∧ xs.length * i.toNat ≤ sizeLine ∧ ∀ p, S p = none → Q (.ref p) (put S p (.lst (List.replicate i.toNat xs).flatten)) := rfl
theorem rLt_ii : oLt (.int i) (.int j) S Q = Q (.bl (decide (i < j))) S := rfl
theorem rLt_ss : oLt (.str x) (.str y) S Q = Q (.bl (decide (x.cps.toList < y.cps.toList))) S := rfl
theorem rLe_ii : oLe (.int i) (.int j) S Q = Q (.bl (decide (i ≤ j))) S := rfl
theorem rGt_ii : oGt (.int i) (.int j) S Q = Q (.bl (decide (j < i))) S := rfl
theorem rGe_ii : oGe (.int i) (.int j) S Q = Q (.bl (decide (j ≤ i))) S := rfl
theorem rEq_ii : oEq (.int i) (.int j) S Q = Q (.bl (decide (i = j))) S := rfl
theorem rEq_ss : oEq (.str x) (.str y) S Q = Q (.bl (decide (x = y))) S := rfl
theorem rEq_bb : oEq (.bl c) (.bl v) S Q = Q (.bl (decide (c = v))) S := rfl
theorem rNe_ii : oNe (.int i) (.int j) S Q = Q (.bl (!decide (i = j))) S := rfl
theorem rNe_ss : oNe (.str x) (.str y) S Q = Q (.bl (!decide (x = y))) S := rfl
theorem rNe_bb : oNe (.bl c) (.bl v) S Q = Q (.bl (!decide (c = v))) S := rfl
theorem rEq_rr : oEq (.ref a) (.ref b) S Q = eqAny id (.ref a) (.ref b) S Q := rfl
theorem rNe_rr : oNe (.ref a) (.ref b) S Q = eqAny not (.ref a) (.ref b) S Q := rfl
theorem rEq_tt : oEq (.tup ds) (.tup es) S Q = eqAny id (.tup ds) (.tup es) S Q := rfl
theorem rNe_tt : oNe (.tup ds) (.tup es) S Q = eqAny not (.tup ds) (.tup es) S Q := rfl
theorem rIn_st : oIn (.str x) (.tup ds) S Q = ∃ xs, strsOf ds = some xs ∧ Q (.bl (decide (x ∈ xs))) S := rfl
theorem rNotIn_st : oNotIn (.str x) (.tup ds) S Q = ∃ xs, strsOf ds = some xs ∧ Q (.bl (!decide (x ∈ xs))) S := rfl
theorem rIn_r : oIn d (.ref a) S Q = inDO id d (S a) S Q := rfl
theorem rNotIn_r : oNotIn d (.ref a) S Q = inDO not d (S a) S Q := rfl
theorem rIn_ss : oIn (.str x) (.str y) S Q = Q (.bl (!(Builtin.Str.occurrences y x 0 y.length 1).isEmpty)) S := rfl
variable {F : Bool → Bool}
theorem rInDO_sl : inDO F (.str x) (some (.lst ds)) S Q = ∃ xs, strsOf ds = some xs ∧ Q (.bl (F (decide (x ∈ xs)))) S := rfl
theorem rInDO_il : inDO F (.int i) (some (.lst ds)) S Q = ∃ xs, intsOf ds = some xs ∧ Q (.bl (F (decide (i ∈ xs)))) S := rfl
theorem rInDO_sd : inDO F (.str x) (some (.dk kvs)) S Q = Q (.bl (F (dval kvs (.inr x)).isSome)) S := by
  show (∃ k, keyOf (.str x) = some k ∧ _) = _
  exact propext ⟨fun ⟨k, e, q⟩ => by cases e; exact q, fun q => ⟨_, rfl, q⟩⟩
theorem rInDO_id : inDO F (.int i) (some (.dk kvs)) S Q = Q (.bl (F (dval kvs (.inl i)).isSome)) S := by
  show (∃ k, keyOf (.int i) = some k ∧ _) = _
  exact propext ⟨fun ⟨k, e, q⟩ => by cases e; exact q, fun q => ⟨_, rfl, q⟩⟩
theorem rIsN_n : oIsN .non .non S Q = Q (.bl true) S := rfl
theorem rIsN_t : oIsN (.tup ds) .non S Q = Q (.bl false) S := rfl
theorem rIsN_i : oIsN (.int i) .non S Q = Q (.bl false) S := rfl
theorem rIsN_s : oIsN (.str x) .non S Q = Q (.bl false) S := rfl
theorem rIsN_r : oIsN (.ref a) .non S Q = Q (.bl false) S := rfl
theorem rNotN_n : oNotN .non .non S Q = Q (.bl false) S := rfl
theorem rNotN_t : oNotN (.tup ds) .non S Q = Q (.bl true) S := rfl
theorem rNotN_i : oNotN (.int i) .non S Q = Q (.bl true) S := rfl
theorem rNotN_s : oNotN (.str x) .non S Q = Q (.bl true) S := rfl
theorem rNotN_r : oNotN (.ref a) .non S Q = Q (.bl true) S := rfl
theorem ixSeq_at {i : Int} (h : atI ds i = some d) : ixSeq ds (.int i) S Q = Q d S := propext ⟨fun ⟨e, h2, q⟩ => by rw [h] at h2; cases h2; exact q, fun q => ⟨d, h, q⟩⟩
theorem at0 {r : List D} : atI (d :: r) 0 = some d := atI_nat (j := 0) rfl
theorem at1 {r : List D} : atI (d :: e :: r) 1 = some e := atI_nat (j := 1) rfl
theorem at2 {r : List D} : atI (d :: e :: f :: r) 2 = some f := atI_nat (j := 2) rfl
theorem at3 {r : List D} : atI (d :: e :: f :: g :: r) 3 = some g := atI_nat (j := 3) rfl
variable {r : List D}
theorem rIx_t : oIx (.tup ds) (.int i) S Q = ixSeq ds (.int i) S Q := rfl
theorem rIx_r : oIx (.ref a) d S Q = ixDO (S a) d S Q := rfl
theorem rIx_s : oIx (.str x) (.int i) S Q = ∃ c, x.length ≤ sizeLine ∧ atI x.cps.toList i = some c ∧ Q (.str ⟨#[c]⟩) S := rfl
theorem rIxDO_l : ixDO (some (.lst ds)) (.int i) S Q = ixSeq ds (.int i) S Q := rfl
theorem rIxDO_ds : ixDO (some (.dk kvs)) (.str x) S Q = ∃ d, dval kvs (.inr x) = some d ∧ Q d S := propext ⟨fun ⟨k, d, e, h, q⟩ => by cases e; exact ⟨d, h, q⟩, fun ⟨d, h, q⟩ => ⟨_, d, rfl, h, q⟩⟩
theorem rIx0 : ixSeq (d :: r) (.int 0) S Q = Q d S := ixSeq_at at0
theorem rIx1 : ixSeq (d :: e :: r) (.int 1) S Q = Q e S := ixSeq_at at1
theorem rIx2 : ixSeq (d :: e :: f :: r) (.int 2) S Q = Q f S := ixSeq_at at2
theorem rIx3 : ixSeq (d :: e :: f :: g :: r) (.int 3) S Q = Q g S := ixSeq_at at3
variable {lo hi : Option Int} {S1 : Store} {Q1 : Store → Prop}
theorem rSl_t : oSl (.tup ds) lo hi S Q = Q (.tup (cutL ds lo hi)) S := rfl
theorem rSl_s : oSl (.str x) lo hi S Q = (x.length ≤ sizeLine ∧ Q (.str (cutS x lo hi)) S) := rfl
theorem rSl_o : oSl (.rol ds) lo hi S Q = ∀ p, S p = none → Q (.ref p) (put S p (.lst (cutL ds lo hi))) := rfl
theorem rSl_r : oSl (.ref a) lo hi S Q = slDO (S a) lo hi S Q := rfl
theorem rSlDO : slDO (some (.lst ds)) lo hi S Q = ∀ p, S p = none → Q (.ref p) (put S p (.lst (cutL ds lo hi))) := rfl
theorem rSet_r : oSet (.ref a) d e S Q1 = setDO (S a) a d e S Q1 := rfl
theorem rSetDO_l : setDO (some (.lst ds)) a (.int i) d S Q1 = ∃ j, ixN ds.length i = some j ∧ Q1 (put S a (.lst (ds.set j d))) := rfl
theorem rSetDO_s : setDO (some (.dk kvs)) a (.str x) d S Q1 = (kvs.length < sizeLine ∧ Q1 (put S a (.dk (dput kvs (.inr x) d)))) := propext ⟨fun ⟨k, e, h, q⟩ => by cases e; exact ⟨h, q⟩, fun ⟨h, q⟩ => ⟨_, rfl, h, q⟩⟩
theorem rSetDO_0 {r : List D} : setDO (some (.lst (e :: r))) a (.int 0) d S Q1 = Q1 (put S a (.lst (d :: r))) := propext ⟨fun ⟨j, h, q⟩ => by
    have h' : some (0 : Int).toNat = some j := by
      have z : ixN (e :: r).length 0 = some (0 : Int).toNat := by
        unfold ixN
        rw [if_pos (by decide), if_pos (by rw [List.length_cons]; omega)]
      rw [← z]
      exact h
    cases h'
    exact q, fun q => ⟨0, by unfold ixN; rw [if_pos (by decide), if_pos (by rw [List.length_cons]; omega)]; rfl, q⟩⟩
theorem rLen_t : oLen [.tup ds] S Q = Q (.int (ds.length : Nat)) S := rfl
theorem rLen_o : oLen [.rol ds] S Q = Q (.int (ds.length : Nat)) S := rfl
theorem rLen_s : oLen [.str x] S Q = (x.length ≤ sizeLine ∧ Q (.int (x.length : Nat)) S) := rfl
theorem rLen_r : oLen [.ref a] S Q = oLenDO (S a) S Q := rfl
theorem rLenDO : oLenDO (some (.lst ds)) S Q = Q (.int (ds.length : Nat)) S := rfl
theorem rLenDO_d : oLenDO (some (.dk kvs)) S Q = Q (.int (kvs.length : Nat)) S := rfl
theorem rList_t : oList [.tup ds] S Q = ∀ p, S p = none → Q (.ref p) (put S p (.lst ds)) := rfl
theorem rList_o : oList [.rol ds] S Q = ∀ p, S p = none → Q (.ref p) (put S p (.lst ds)) := rfl
theorem rList_r : oList [.ref a] S Q = oListDO (S a) S Q := rfl
theorem rListDO : oListDO (some (.lst ds)) S Q = ∀ p, S p = none → Q (.ref p) (put S p (.lst ds)) := rfl
theorem rTuple_t : oTuple [.tup ds] S Q = Q (.tup ds) S := rfl
theorem rTuple_r : oTuple [.ref a] S Q = ∃ ds, S a = some (.lst ds) ∧ Q (.tup ds) S := rfl
theorem rInt_i : oInt [.int i] S Q = Q (.int i) S := rfl
theorem rInt_b : oInt [.bl c] S Q = Q (.int (if c = true then 1 else 0)) S := rfl
theorem rMax : oMax2 [.int i, .int j] S Q = Q (.int (if j > i then j else i)) S := rfl
theorem rMin : oMin2 [.int i, .int j] S Q = Q (.int (if j < i then j else i)) S := rfl
theorem rAppend : mAppend (.ref a) [d] S Q = ∃ ds, S a = some (.lst ds) ∧ ds.length < sizeLine ∧ Q .non (put S a (.lst (ds ++ [d]))) := rfl
theorem rPop : mPop (.ref a) [] S Q = ∃ ds y, S a = some (.lst ds) ∧ ds[ds.length - 1]? = some y ∧ Q y (put S a (.lst ds.dropLast)) := rfl
theorem rTy_r {T : String} : tyD T (.ref a) S = ((T = "list" ∧ ∃ ds, S a = some (.lst ds)) ∨ (T = "dict" ∧ ∃ kvs, S a = some (.dk kvs))) := rfl
theorem ty_list (h : S a = some (.lst ds)) : tyD "list" (.ref a) S := .inl ⟨rfl, ds, h⟩
theorem ty_dict (h : S a = some (.dk kvs)) : tyD "dict" (.ref a) S := .inr ⟨rfl, kvs, h⟩
theorem pop_of {xs : List D} (h : S a = some (.lst (xs ++ [d]))) (q : Q d (put S a (.lst xs))) : mPop (.ref a) [] S Q :=
  ⟨xs ++ [d], d, h, by simp, by rw [List.dropLast_concat]; exact q⟩
theorem append_of {xs : List D} (h : S a = some (.lst xs)) (l : xs.length < sizeLine) (q : Q .non (put S a (.lst (xs ++ [d])))) : mAppend (.ref a) [d] S Q := ⟨xs, h, l, q⟩
theorem ty_str : tyD "str" (.str x) S := rfl
end
end DL

set_option Elab.async false
set_option maxRecDepth 100000
/-! DLi: {k: v}; == and != against the empty list; repr where no guard stands. -/
namespace DL
open PySem PySem.Spec PyProof.Rows L2

section
variable {X : Cx} {pos : Pos} {e f : Expr} {tk tv : TED}
def tDictOne (tk tv : TED) : TED := fun δ S Q => ∀ p, S p = none → tk δ (put S p (.dk [])) fun x S1 => tv δ S1 fun y S2 => S2 p = some (.dk []) ∧ ∃ k, keyOf x = some k ∧ Q (.ref p) (put S2 p (.dk [(k, y)]))
theorem de_dict1 (hk : DE X e tk) (hv : DE X f tv) : DE X (.Dict [some e] [f] pos) (tDictOne tk tv) := PEi (pe_disp (pps_cons hk hv pps_nil) rfl rfl (by simp) (by simp)) fun σ H Q h => by
  obtain ⟨δ, S, Q0, h1, h2, h3, h4⟩ := h
  intro p np
  have ex : Ext X.K H (upd H p (.dK [])) := Ext.new np
  have s0 : RS X.K (upd H p (.dK [])) (put S p (.dk [])) := h2.new np ⟨[], upd_same, rfl⟩
  refine ⟨δ, _, _, h1.ext ex, s0, h3 p (h2.free np), fun x S1 v H1 q e1 r1 s1 => ?_⟩
  refine ⟨δ, S1, _, h1.ext (ex.trans e1), s1, q, fun y S2 w H2 q2 e2 r2 s2 => ?_⟩
  obtain ⟨eS, k, ek, q2⟩ := q2
  obtain ⟨ws, hw, rw'⟩ := s2 p _ eS
  cases (show ws = [] from rw')
  refine ⟨hw, [(k, w)], ?_, by simp, ?_⟩
  · have := keyOf_kD ek
    subst this
    rw [kD_kV r1]
    rfl
  · have ex2 : Ext X.K H2 (upd H2 p (.dK [(k, w)])) := Ext.put hw trivial
    refine h4 _ _ _ _ q2 (ex.trans (e1.trans (e2.trans ex2))) rfl (s2.put hw trivial ⟨_, upd_same, w, [], rfl, r2.ext ex2, rfl⟩)
/-- xs == [] : nothing but the length is looked at -/
def emE (f : Bool → Bool) : R2D := fun x y S Q => match x, y with
  | .ref a, .ref b => ∃ xs, S a = some (.lst xs) ∧ S b = some (.lst []) ∧ Q (.bl (f xs.isEmpty)) S
  | _, _ => False
theorem emE_cases {f : Bool → Bool} {x y : D} {S : Store} {Q : KD} (h : emE f x y S Q) : ∃ a b xs, x = .ref a ∧ y = .ref b ∧ S a = some (.lst xs) ∧ S b = some (.lst []) ∧ Q (.bl (f xs.isEmpty)) S := by
  unfold emE at h
  split at h
  · obtain ⟨xs, h1, h2, h3⟩ := h
    exact ⟨_, _, xs, rfl, rfl, h1, h2, h3⟩
  · cases h
theorem emE_rr {f : Bool → Bool} {a b : Addr} {S : Store} {Q : KD} : emE f (.ref a) (.ref b) S Q = ∃ xs, S a = some (.lst xs) ∧ S b = some (.lst []) ∧ Q (.bl (f xs.isEmpty)) S := rfl
theorem list_at {pins : List (Addr × Obj)} {s : Shared} {σ : L2.St} {H : Hp} {S : Store} {a : Addr} {xs : List D} (I : Inv X pins σ H s) (hs : RS X.K H S) (e : S a = some (.lst xs)) : ∃ its : List Value, s.heap.IsList a its.toArray ∧ its.length = xs.length := by
  obtain ⟨vs, hv, rv⟩ := hs.lst e
  obtain ⟨us, ru, ⟨o, n, ho, hc, _, hd⟩, _⟩ := I.list (SqL.of hv)
  exact ⟨us, ⟨o, ho, hc, n, hd⟩, by rw [← ru.length, rv.length]⟩
theorem od_eqE (hu : X.A.units + 64 < cLine) : OpD X (compareOp .Eq) (emE id) := by
  intro pins s σ H x y v u Q I rx ry h
  obtain ⟨dx, dy, S, Q0, hx, hy, hs, h, q⟩ := h
  obtain ⟨a, b, xs, rfl, rfl, ea, eb, h⟩ := emE_cases h
  cases xs with
  | nil => exact op_eqD hu pins s σ H _ _ v u Q I rx ry ⟨.list [], .list [], PD.dp hs _ _ _ (.lst ea .nil) hx, PD.dp hs _ _ _ (.lst eb .nil) hy, by decide, by decide, q _ _ _ _ h .refl rfl hs⟩
  | cons z zs =>
    cases (show x = .ref a from hx)
    cases (show y = .ref b from hy)
    obtain ⟨us, hl, el⟩ := list_at I hs ea
    obtain ⟨ws, hl2, el2⟩ := list_at I hs eb
    cases rx
    cases ry
    refine SeqAt.eq_list_lengthsAt hl hl2 ?_ (by omega) ⟨.bl false, H, I, rfl, q _ _ _ _ h .refl rfl hs⟩
    simp [el, el2]
theorem od_neE (hu : X.A.units + 64 < cLine) : OpD X (compareOp .NotEq) (emE not) := by
  intro pins s σ H x y v u Q I rx ry h
  obtain ⟨dx, dy, S, Q0, hx, hy, hs, h, q⟩ := h
  obtain ⟨a, b, xs, rfl, rfl, ea, eb, h⟩ := emE_cases h
  cases xs with
  | nil => exact op_neD hu pins s σ H _ _ v u Q I rx ry ⟨.list [], .list [], PD.dp hs _ _ _ (.lst ea .nil) hx, PD.dp hs _ _ _ (.lst eb .nil) hy, by decide, by decide, q _ _ _ _ h .refl rfl hs⟩
  | cons z zs =>
    cases (show x = .ref a from hx)
    cases (show y = .ref b from hy)
    obtain ⟨us, hl, el⟩ := list_at I hs ea
    obtain ⟨ws, hl2, el2⟩ := list_at I hs eb
    cases rx
    cases ry
    refine SeqAt.RcNeAt.lists_lengths hl hl2 ?_ (by omega) _ _ _ _ ⟨.bl true, H, I, rfl, q _ _ _ _ h .refl rfl hs⟩
    simp [el, el2]
/-- repr of data, where no guard stands -/
def oRepr : RAD := fun xs S Q => match xs with
  | [x] => ∃ p, PD S x p ∧ (∃ ps, p = .tuple ps) ∧ p.showable = true ∧ p.hasDict = false ∧ p.depth ≤ 64 ∧ p.shown.length ≤ sizeLine ∧ Q (.str p.shown) S
  | _ => False
theorem cd_repr (hg : X.A.guards = some []) (hu : X.A.units + 100 < cLine) : CallD X (.builtin "repr") oRepr := by
  intro pins s σ H xs us Q I rs h
  obtain ⟨ds, S, Q0, hx, hs, h, q⟩ := h
  unfold oRepr at h
  split at h
  · obtain ⟨v, rfl, e⟩ := hx.one
    obtain ⟨p, hp, ⟨ps, rfl⟩, h1, h2, h3, h4, h⟩ := h
    have dp := PD.dp hs _ _ _ hp e
    cases rs with
    | cons r1 r2 =>
      cases r2
      obtain ⟨as, rd⟩ := Dp.reads I _ _ _ dp r1
      cases rd with
      | tuple a1 a2 a3 a4 =>
        refine PySem.repr_of_reads' (.tuple a1 a2 a3 a4) h1 (fun z => by rw [h2] at z; cases z) hg (by omega) (fun _ _ e => e) (fun h' u tk hk => ?_) h4
        exact ⟨.str _, H, I.kept hk, ⟨_, rfl⟩, q _ _ _ _ h .refl rfl hs⟩
  · cases h
end
end DL

set_option Elab.async false
set_option maxRecDepth 100000
set_option linter.unusedVariables false
/-! DLj: small steps of a reading: tests that are known, sizes, comprehensions item by item. -/
namespace DL
open PySem PySem.Spec PyProof.Rows L2
section
variable {A B C : Prop} {ds : List D} {xs : List Str} {x : Str}
theorem inY (e : strsOf ds = some xs) (m : x ∈ xs) (h : A) : ∃ xs, strsOf ds = some xs ∧ if x ∈ xs then A else B := ⟨xs, e, by rw [if_pos m]; exact h⟩
theorem inN (e : strsOf ds = some xs) (m : x ∉ xs) (h : B) : ∃ xs, strsOf ds = some xs ∧ if x ∈ xs then A else B := ⟨xs, e, by rw [if_neg m]; exact h⟩
theorem ifY {_ : Decidable C} (c : C) (h : A) : if C then A else B := by rw [if_pos c]; exact h
theorem ifN {_ : Decidable C} (c : ¬ C) (h : B) : if C then A else B := by rw [if_neg c]; exact h
theorem szOk {n : Nat} (h : n ≤ 100000) : n ≤ sizeLine := Nat.le_trans h (by decide)
theorem szLt {n : Nat} (h : n ≤ 100000) : n < sizeLine := Nat.lt_of_le_of_lt h (by decide)
theorem rSz0 : (0 ≤ sizeLine) = True := eq_true (by decide)
theorem rSz1 : (1 ≤ sizeLine) = True := eq_true (by decide)
theorem rSz2 : (2 ≤ sizeLine) = True := eq_true (by decide)
theorem rSz3 : (3 ≤ sizeLine) = True := eq_true (by decide)
theorem rSz4 : (4 ≤ sizeLine) = True := eq_true (by decide)
theorem rSz5 : (5 ≤ sizeLine) = True := eq_true (by decide)
theorem rSz6 : (6 ≤ sizeLine) = True := eq_true (by decide)
theorem rSz7 : (7 ≤ sizeLine) = True := eq_true (by decide)
theorem rSz8 : (8 ≤ sizeLine) = True := eq_true (by decide)
end
section
variable {J : ItD} {g : GD} {tt : TTD} {te : TED} {vs : List Nat} {δ : StD} {Q : KD} {p : Addr} {S1 : Store}
/-- each item gives its own one, and nothing else is changed -/
theorem lcB_zip (ds rs : List D) (hl : ds.length = rs.length) (hJ : ∀ i acc, J i (put S1 p (.lst acc)) = some ds[i]?) (hz : ds.length ≤ sizeLine)
    (turn : ∀ (i : Nat) (d r : D) (acc : List D) (Y : KD) (N : Store → Prop), ds[i]? = some d → rs[i]? = some r → Y r (put S1 p (.lst acc)) → asg g d (wipeD δ vs) (put S1 p (.lst acc)) fun δ2 S2 => tt δ2 S2 fun b S3 =>
      if b = true then te δ2 S3 Y else N S3)
    (done : Q (.ref p) (put S1 p (.lst rs))) : lcB J g tt te vs δ Q p S1 := by
  refine ⟨ds.length, fun i S => i ≤ ds.length ∧ S = put S1 p (.lst (rs.take i)), ⟨Nat.zero_le _, rfl⟩, ?_⟩
  rintro i S ⟨hi, rfl⟩
  have ej := hJ i (rs.take i)
  by_cases hlt : i < ds.length
  · have hlt2 : i < rs.length := hl ▸ hlt
    refine .inr ⟨ds[i], by rw [ej, List.getElem?_eq_getElem hlt], hlt, ?_⟩
    exact turn i ds[i] rs[i] (rs.take i) _ _ (List.getElem?_eq_getElem hlt) (List.getElem?_eq_getElem hlt2) ⟨_, put_same, by rw [List.length_take]; omega, hlt, by rw [put_put, List.take_append_getElem hlt2]⟩
  · have e : i = ds.length := Nat.le_antisymm hi (Nat.le_of_not_lt hlt)
    subst e
    refine .inl ⟨by rw [ej, List.getElem?_eq_none (Nat.le_refl _)], ?_⟩
    rw [hl, List.take_length]
    exact done
end
end DL

set_option Elab.async false
set_option maxRecDepth 100000
set_option linter.unusedVariables false
/-! DLk: defs that are promised only where no guard stands (for what comes to repr). -/
namespace DL
open PySem PySem.Spec PyProof.Rows L2
/-- a promise kept where no guard stands -/
structure FnG (P : Program) (w : World) (K : PySem.W.Frag) (mg : Str → Option Value) (base : Heap) (k : Nat) (f : Addr) (fd : FuncData) (ps : List Str) (sp : Sp) : Prop where
  len : ∀ vs H Q E, sp vs H Q E → vs.length = ps.length
  run : ∀ (A : Around) (outer : List Env) (s : Shared) (H : Hp) (args : Args) (us : List Value) (vs : List V) (Q : VK) (E : XK), A.guards = some [] → Room k A → Env0 P w K mg base A outer s H → BindsTo s fd args (ps.zip us) → Vals vs us → sp vs H Q E →
    codeAny (model P w) A (.call (.ref f) args) (CR CX0 outer P w H s Q E) s
section
variable {P : Program} {w : World} {K : PySem.W.Frag} {mg : Str → Option Value} {base : Heap}
theorem fnG_mk {k : Nat} {f : Addr} {fd : FuncData} {x qual : Str} {st : Stmt} {N ps : List Str} {sp : Sp} (F : Fun K x qual st f fd) (S : FnScope N ps (defScope st)) (len : ∀ vs H Q E, sp vs H Q E → vs.length = ps.length)
    (body : ∀ (cdv : Value) (A : Around) (outer : List Env) (s : Shared) (H : Hp) (vs : List V) (Q : VK) (E : XK), A.guards = some [] → Room k (A.deeper (envOfC qual (defScope st) s.heap.objs.size f cdv)) → sp vs H Q E →
      ∃ t, PSs (cxOf CX0 P w K mg base N qual (defScope st) f cdv A outer s H E).nox (defBody st) t ∧ t { nx := fun _ H' => Q .non H', rt := Q } (start N vs) H) : FnG P w K mg base (k + 1) f fd ps sp := by
  obtain ⟨oc, od, kV, doc, pm, an, cdv, ct, osl, rfl, lk, code⟩ := F.ex
  constructor
  · exact len
  intro A outer s H args us vs Q E guards room at0 binds rel wish
  have there := at0.mod.kin.keeps fun b o e => (at0.bs b o e).1
  have free := at0.mod.nolimit.keeps fun b o e => (at0.bs b o e).1
  obtain ⟨t, walk, q⟩ := body cdv A outer s H vs Q E guards (room.deeper _) wish
  have places : ∀ y ∈ ps.zip us, (defScope st).names.lookup y.1 = some .local ∨ ((defScope st).names.lookup y.1 = some .cell ∧ ((cellsFrom (s.heap.objs.size + 1) (defScope st).names []).lookup y.1).isSome = true) := by
    rintro ⟨n, v⟩ hy
    exact (S.par n (List.of_mem_zip hy).1).imp id fun c => ⟨c, PySem.W.cellsFrom_some _ _ _ (.inl c)⟩
  apply codeAny_call_function room.depth (there _ _ lk) rfl S.co S.gen rfl (PySem.W.codeRec_of there code)
  apply binds
  apply wpAny_newFunctionEnv_cells S.kind places
  rintro env rfl s1 made
  have I := inv_start (CX := CX0) (P := P) (w := w) (E := E) S room.hd at0 (len _ _ _ _ wish) rel made
  refine ⟨free.keeps made.toInCall.keep, codeAny_func (wpAny_mono (walk.nox.run [] s1 _ H _ I q) ?_ fun _ _ z => z)⟩
  intro fl s' z
  cases fl with
  | ret u => obtain ⟨v, _, H', J, rv, g⟩ := z; exact ⟨v, H', J.os, J.bare, J.base, J.hok, rv, g⟩
  | next => obtain ⟨_, H', J, g⟩ := z; exact ⟨.non, H', J.os, J.bare, J.base, J.hok, rfl, g⟩
  | brk => obtain ⟨_, _, _, z⟩ := z; exact z.elim
  | cont => obtain ⟨_, _, _, z⟩ := z; exact z.elim
/-- the def of that name keeps its promise where no guard stands -/
def DfG (P : Program) (w : World) (K : PySem.W.Frag) (mg : Str → Option Value) (base : Heap) (x : Str) (k : Nat) (sp : SpD) : Prop :=
  ∃ f fd ps, FnG P w K mg base k f fd ps (liftSp K sp) ∧ mg x = some (.ref f) ∧ PySem.W.keepIn K (.ref f) = true ∧ Binds K fd ps []
theorem fnG_body {f : Addr} {fd : FuncData} {x : Str} {st : Stmt} {N ps : List Str} {k : Nat} {sp : SpD} {sc : Scope} (F : Fun K x x st f fd) (hsc : defScope st = sc) (SC : FnScope N ps sc)
    (len : ∀ ds S Q, sp ds S Q → ds.length = ps.length)
    (hbody : ∀ (cdv : Value) (A : Around) (outer : List Env) (s : Shared) (H : Hp) (E : XK), A.guards = some [] → Room k (A.deeper (envOfC x sc s.heap.objs.size f cdv)) → ∀ ds S Q, sp ds S Q →
      ∃ t, DSs (cxOf CX0 P w K mg base N x sc f cdv A outer s H E).nox (defBody st) t ∧ t (endsD Q) (startD N ds) S) : FnG P w K mg base (k + 1) f fd ps (liftSp K sp) := by
  subst hsc
  refine fnG_mk F SC (fun vs H Q E h => ?_) (fun cdv A outer s H vs Q E hg hr h => ?_)
  · obtain ⟨ds, S, Q0, h1, h2, h3, h4⟩ := h
    rw [h1.length, len _ _ _ h3]
  · obtain ⟨ds, S, Q0, h1, h2, h3, h4⟩ := h
    obtain ⟨t, ht, q⟩ := hbody cdv A outer s H E hg hr ds S Q0 h3
    refine ⟨_, ht, startD N ds, S, _, ?_, h2, q, fun δ' S' σ' H' n e r' s' => ?_, fun d S' v H' n e r' s' => ?_, fun _ _ _ _ n => n.elim, fun _ _ _ _ n => n.elim⟩
    · unfold startD L2.start
      rw [← h1.length]
      exact RSt.args h1
    · obtain ⟨S'', hs, q⟩ := n
      exact h4 _ _ _ _ q e rfl (s'.sub hs)
    · obtain ⟨S'', hs, q⟩ := n
      exact h4 _ _ _ _ q e r' (s'.sub hs)
theorem dfG_mk {g x : Str} {st : Stmt} {N ps : List Str} {k : Nat} {sp : SpD} {sc : Scope} (A : At K mg g x st) (hsc : defScope st = sc) (SC : FnScope N ps sc)
    (hbi : ∀ (kV doc pm : Value) (an : Option Addr) (cdv ct : Value) (us : List Value), us.length = ps.length → bindArgs (PySem.W.fnOf x x (defArgs st) (defBody st) (defScope st) .none kV doc pm an cdv ct) ⟨us, []⟩ = pure (ps.zip us))
    (len : ∀ ds S Q, sp ds S Q → ds.length = ps.length)
    (hbody : ∀ (f : Addr) (cdv : Value) (A : Around) (outer : List Env) (s : Shared) (H : Hp) (E : XK), A.guards = some [] → Room k (A.deeper (envOfC x sc s.heap.objs.size f cdv)) → ∀ ds S Q, sp ds S Q →
      ∃ t, DSs (cxOf CX0 P w K mg base N x sc f cdv A outer s H E).nox (defBody st) t ∧ t (endsD Q) (startD N ds) S) : DfG P w K mg base g (k + 1) sp := by
  obtain ⟨f, fd, F, hm⟩ := A
  exact ⟨f, fd, ps, fnG_body F hsc SC len (hbody f), hm, F.kp, F.binds hbi⟩
end
section
variable {X : Cx} {pos p : Pos} {e : Expr} {es : List Expr} {t : TAD} {x : Str} {k : Nat} {sp : SpD}
theorem de_callG (F : DfG X.prog X.w X.K X.mg X.base x k sp) (hg0 : X.A.guards = some []) (hr : Room k X.A) (hg : Gl X x) (ha : DA X (e :: es) t) (hd : (x == ("__debug__" : Str)) = false := by decide) (he : starEach (e :: es) X.env = (false, eval e X.env) :: starEach es X.env := by rfl) (hpl : (backTo pos (starEach es X.env)).any (·.1) = false := by rfl) : DE X (.Call (.Name x p) (e :: es) [] pos) (tCallD sp t) := by
  obtain ⟨f, fd, ps, h1, h2, h3, h4⟩ := F
  refine PEi (t' := tCall (liftSp X.K sp) [] E0 (liftA X.K t)) ⟨fun pins s σ H Q I h => wpAny_Call_Name_kw (ld_glob I hg h2 ?_ hd)⟩ fun _ _ _ h => call_lift h
  refine PySem.W.callWith_K (h₀ := X.base) I.ok.mod.kin h3 (thn (ha.run pos pins s σ H _ I h) fun us s1 ⟨vs, H1, I1, rel, q⟩ => ⟨I1.kIn, ?_⟩) he hpl
  have q' : liftSp X.K sp vs H1 Q E0 := by
    have q1 : liftSp X.K sp (vs ++ []) H1 Q E0 := q
    rw [List.append_nil] at q1
    exact q1
  have bound := h4 s1 us I1.kIn (by rw [List.append_nil, ← rel.length]; exact h1.len _ _ _ _ q')
  rw [List.append_nil] at bound
  refine wpAny_call (codeAny_mono (h1.run X.A X.stack s1 H1 ⟨us, []⟩ us vs Q E0 hg0 hr I1.env0 bound rel q') ?_)
  intro r s' z
  cases r with
  | error e => exact z.elim
  | ok fl =>
    cases fl with
    | ret u => exact I1.after z
    | next => exact z.elim
    | brk => exact z.elim
    | cont => exact z.elim
end
end DL

set_option Elab.async false
set_option maxRecDepth 100000
set_option linter.unusedVariables false
/-! P72: the plain side of k72: forms, putting in place, unfolding, and the law about them. -/
namespace K72
open PySem PySem.Spec PyProof.Rows L2 DL

inductive J3 | and | or | if
inductive Q2 | every | some
def J3.s : J3 → Str
  | .and => "and" | .or => "or" | .if => "if"
def Q2.s : Q2 → Str
  | .every => "every" | .some => "some"
inductive Fm
  | is (t k : Str)
  | does (d a b : Str)
  | same (a b : Str)
  | neg (f : Fm)
  | bin (w : J3) (f g : Fm)
  | qu (w : Q2) (x : Str) (f : Fm)
def Fm.d : Fm → D
  | .is t k => .tup [.str "is", .str t, .str k]
  | .does d a b => .tup [.str "does", .str d, .str a, .str b]
  | .same a b => .tup [.str "same", .str a, .str b]
  | .neg f => .tup [.str "not", f.d]
  | .bin w f g => .tup [.str w.s, f.d, g.d]
  | .qu w x f => .tup [.str w.s, .str x, f.d]
def Fm.ht : Fm → Nat
  | .neg f => f.ht + 1
  | .bin _ f g => max f.ht g.ht + 1
  | .qu _ _ f => f.ht + 1
  | _ => 1
def Fm.sz : Fm → Nat
  | .neg f => f.sz + 1
  | .bin _ f g => f.sz + g.sz + 1
  | .qu _ _ f => f.sz + 1
  | _ => 1
/-- terms (and bound letters) T, kinds K, doings W -/
def Fm.ok (T K W : Str → Prop) : Fm → Prop
  | .is t k => T t ∧ K k
  | .does d a b => W d ∧ T a ∧ T b
  | .same a b => T a ∧ T b
  | .neg f => f.ok T K W
  | .bin _ f g => f.ok T K W ∧ g.ok T K W
  | .qu _ x f => T x ∧ f.ok T K W
theorem Fm.ok.imp {T K W T' K' W' : Str → Prop} (t : ∀ s, T s → T' s) (k : ∀ s, K s → K' s) (w : ∀ s, W s → W' s) : ∀ {F : Fm}, F.ok T K W → F.ok T' K' W'
  | .is _ _, h => ⟨t _ h.1, k _ h.2⟩
  | .does _ _ _, h => ⟨w _ h.1, t _ h.2.1, t _ h.2.2⟩
  | .same _ _, h => ⟨t _ h.1, t _ h.2⟩
  | .neg f, h => Fm.ok.imp (F := f) t k w h
  | .bin _ f g, h => ⟨Fm.ok.imp (F := f) t k w h.1, Fm.ok.imp (F := g) t k w h.2⟩
  | .qu _ _ f, h => ⟨t _ h.1, Fm.ok.imp (F := f) t k w h.2⟩
theorem Fm.ht_pos : ∀ F : Fm, 1 ≤ F.ht
  | .is _ _ => Nat.le_refl _
  | .does _ _ _ => Nat.le_refl _
  | .same _ _ => Nat.le_refl _
  | .neg f => Nat.succ_le_succ (Nat.zero_le _)
  | .bin _ f g => Nat.succ_le_succ (Nat.zero_le _)
  | .qu _ _ f => Nat.succ_le_succ (Nat.zero_le _)
theorem Fm.sz_pos : ∀ F : Fm, 1 ≤ F.sz
  | .is _ _ => Nat.le_refl _
  | .does _ _ _ => Nat.le_refl _
  | .same _ _ => Nat.le_refl _
  | .neg f => Nat.succ_le_succ (Nat.zero_le _)
  | .bin _ f g => Nat.succ_le_succ (Nat.zero_le _)
  | .qu _ _ f => Nat.succ_le_succ (Nat.zero_le _)
def sb (x t s : Str) : Str := if s = x then t else s
def sub (x t : Str) : Fm → Fm
  | .is a k => .is (sb x t a) k
  | .does d a b => .does d (sb x t a) (sb x t b)
  | .same a b => .same (sb x t a) (sb x t b)
  | .neg f => .neg (sub x t f)
  | .bin w f g => .bin w (sub x t f) (sub x t g)
  | .qu w y f => if y = x then .qu w y f else .qu w y (sub x t f)
abbrev Kn := Str → Option (Str × Fm)
def unf (f : Kn) : Fm → Fm
  | .is a k => match f k with
    | some (x, g) => sub x a g
    | none => .is a k
  | .does d a b => .does d a b
  | .same a b => .same a b
  | .neg g => .neg (unf f g)
  | .bin w g h => .bin w (unf f g) (unf f h)
  | .qu w y g => .qu w y (unf f g)
theorem sub_ht (x t : Str) : ∀ F : Fm, (sub x t F).ht = F.ht
  | .is _ _ => rfl
  | .does _ _ _ => rfl
  | .same _ _ => rfl
  | .neg f => by show (sub x t f).ht + 1 = _; rw [sub_ht x t f]; rfl
  | .bin _ f g => by show max (sub x t f).ht (sub x t g).ht + 1 = _; rw [sub_ht x t f, sub_ht x t g]; rfl
  | .qu w y f => by
    unfold sub
    split
    · rfl
    · show (sub x t f).ht + 1 = _; rw [sub_ht x t f]; rfl
theorem sub_sz (x t : Str) : ∀ F : Fm, (sub x t F).sz = F.sz
  | .is _ _ => rfl
  | .does _ _ _ => rfl
  | .same _ _ => rfl
  | .neg f => by show (sub x t f).sz + 1 = _; rw [sub_sz x t f]; rfl
  | .bin _ f g => by show (sub x t f).sz + (sub x t g).sz + 1 = _; rw [sub_sz x t f, sub_sz x t g]; rfl
  | .qu w y f => by
    unfold sub
    split
    · rfl
    · show (sub x t f).sz + 1 = _; rw [sub_sz x t f]; rfl
theorem sub_ok {T K W : Str → Prop} {x t : Str} (ht : T t) : ∀ {F : Fm}, F.ok T K W → (sub x t F).ok T K W
  | .is a k, h => ⟨by unfold sb; split; exact ht; exact h.1, h.2⟩
  | .does _ a b, h => ⟨h.1, by unfold sb; split; exact ht; exact h.2.1, by unfold sb; split; exact ht; exact h.2.2⟩
  | .same a b, h => ⟨by unfold sb; split; exact ht; exact h.1, by unfold sb; split; exact ht; exact h.2⟩
  | .neg f, h => sub_ok (F := f) ht h
  | .bin _ f g, h => ⟨sub_ok (F := f) ht h.1, sub_ok (F := g) ht h.2⟩
  | .qu w y f, h => by
    unfold sub
    split
    · exact h
    · exact ⟨h.1, sub_ok (F := f) ht h.2⟩
/-- x does not stand in it -/
abbrev Noc (x : Str) (g : Fm) : Prop := g.ok (fun s => s ≠ x) (fun _ => True) fun _ => True
theorem sb_ne {x t s : Str} (h : s ≠ x) : sb x t s = s := if_neg h
theorem sub_noc {x t : Str} : ∀ {g : Fm}, Noc x g → sub x t g = g
  | .is a k, h => by show Fm.is _ _ = _; rw [sb_ne h.1]
  | .does _ a b, h => by show Fm.does _ _ _ = _; rw [sb_ne h.2.1, sb_ne h.2.2]
  | .same a b, h => by show Fm.same _ _ = _; rw [sb_ne h.1, sb_ne h.2]
  | .neg f, h => by show Fm.neg _ = _; rw [sub_noc (g := f) h]
  | .bin _ f g, h => by show Fm.bin _ _ _ = _; rw [sub_noc (g := f) h.1, sub_noc (g := g) h.2]
  | .qu w y f, h => by
    unfold sub
    rw [if_neg h.1, sub_noc (g := f) h.2]
theorem sb_sb {x t y a b : Str} (h : b ≠ x) : sb x t (sb y a b) = sb y (sb x t a) b := by
  unfold sb
  by_cases e : b = y
  · rw [if_pos e, if_pos e]
  · rw [if_neg e, if_neg e, if_neg h]
theorem sub_sub {x t y a : Str} : ∀ {g : Fm}, Noc x g → sub x t (sub y a g) = sub y (sb x t a) g
  | .is b k, h => by show Fm.is _ _ = Fm.is _ _; rw [sb_sb h.1]
  | .does _ b c, h => by show Fm.does _ _ _ = Fm.does _ _ _; rw [sb_sb h.2.1, sb_sb h.2.2]
  | .same b c, h => by show Fm.same _ _ = Fm.same _ _; rw [sb_sb h.1, sb_sb h.2]
  | .neg f, h => by show Fm.neg _ = Fm.neg _; rw [sub_sub (g := f) h]
  | .bin _ f g, h => by show Fm.bin _ _ _ = Fm.bin _ _ _; rw [sub_sub (g := f) h.1, sub_sub (g := g) h.2]
  | .qu w z f, h => by
    by_cases e : z = y
    · have e1 : sub y a (.qu w z f) = .qu w z f := if_pos e
      have e2 : sub y (sb x t a) (.qu w z f) = .qu w z f := if_pos e
      rw [e1, e2, sub_noc h]
    · have e1 : sub y a (.qu w z f) = .qu w z (sub y a f) := if_neg e
      have e2 : sub y (sb x t a) (.qu w z f) = .qu w z (sub y (sb x t a) f) := if_neg e
      have e3 : sub x t (.qu w z (sub y a f)) = .qu w z (sub x t (sub y a f)) := if_neg h.1
      rw [e1, e2, e3, sub_sub (g := f) h.2]
/-- no letter of what is known is x -/
def KnNoc (f : Kn) (x : Str) : Prop := ∀ k y g, f k = some (y, g) → Noc x g
theorem unf_is_some {f : Kn} {a k x : Str} {g : Fm} (h : f k = some (x, g)) : unf f (.is a k) = sub x a g := by
  unfold unf
  rw [h]
theorem unf_is_none {f : Kn} {a k : Str} (h : f k = none) : unf f (.is a k) = .is a k := by
  unfold unf
  rw [h]
theorem sub_qu_eq {x t : Str} {w : Q2} {F : Fm} : sub x t (.qu w x F) = .qu w x F := if_pos rfl
theorem sub_qu_ne {x t y : Str} {w : Q2} {F : Fm} (h : y ≠ x) : sub x t (.qu w y F) = .qu w y (sub x t F) := if_neg h
theorem unf_sub {f : Kn} {x t : Str} (h : KnNoc f x) : ∀ F : Fm, unf f (sub x t F) = sub x t (unf f F)
  | .is a k => by
    cases e : f k with
    | none => rw [unf_is_none e, show sub x t (.is a k) = .is (sb x t a) k from rfl, unf_is_none e]
    | some p =>
      obtain ⟨y, g⟩ := p
      rw [unf_is_some e, show sub x t (.is a k) = .is (sb x t a) k from rfl, unf_is_some e, sub_sub (h _ _ _ e)]
  | .does _ _ _ => rfl
  | .same _ _ => rfl
  | .neg F => by show Fm.neg _ = Fm.neg _; rw [unf_sub h F]
  | .bin _ F G => by show Fm.bin _ _ _ = Fm.bin _ _ _; rw [unf_sub h F, unf_sub h G]
  | .qu w y F => by
    by_cases e : y = x
    · subst e
      rw [sub_qu_eq, show unf f (.qu w y F) = .qu w y (unf f F) from rfl, sub_qu_eq]
    · rw [sub_qu_ne e, show unf f (.qu w y F) = .qu w y (unf f F) from rfl, sub_qu_ne e, ← unf_sub h F]
      rfl
/-- what is unfolded has none of the known kinds -/
theorem unf_ok {f : Kn} {T K K0 W : Str → Prop} (hk : ∀ k, K k → (f k = none ∧ K0 k) ∨ ∃ y g, f k = some (y, g) ∧ g.ok T K0 W) : ∀ {F : Fm}, F.ok T K W → (unf f F).ok T K0 W
  | .is a k, h => by
    rcases hk k h.2 with ⟨e, q⟩ | ⟨y, g, e, q⟩
    · rw [unf_is_none e]; exact ⟨h.1, q⟩
    · rw [unf_is_some e]; exact sub_ok h.1 q
  | .does _ _ _, h => h
  | .same _ _, h => h
  | .neg F, h => unf_ok (F := F) hk h
  | .bin _ F G, h => ⟨unf_ok (F := F) hk h.1, unf_ok (F := G) hk h.2⟩
  | .qu _ _ F, h => ⟨h.1, unf_ok (F := F) hk h.2⟩
theorem unf_id {f : Kn} {T K W : Str → Prop} (hk : ∀ k, K k → f k = none) : ∀ {F : Fm}, F.ok T K W → unf f F = F
  | .is a k, h => unf_is_none (hk k h.2)
  | .does _ _ _, h => rfl
  | .same _ _, h => rfl
  | .neg F, h => by show Fm.neg _ = _; rw [unf_id (F := F) hk h]
  | .bin _ F G, h => by show Fm.bin _ _ _ = _; rw [unf_id (F := F) hk h.1, unf_id (F := G) hk h.2]
  | .qu _ _ F, h => by show Fm.qu _ _ _ = _; rw [unf_id (F := F) hk h.2]
theorem unf_congr {f g : Kn} {T K W : Str → Prop} (hk : ∀ k, K k → f k = g k) : ∀ {F : Fm}, F.ok T K W → unf f F = unf g F
  | .is a k, h => by unfold unf; rw [hk k h.2]
  | .does _ _ _, h => rfl
  | .same _ _, h => rfl
  | .neg F, h => by show Fm.neg _ = Fm.neg _; rw [unf_congr (F := F) hk h]
  | .bin _ F G, h => by show Fm.bin _ _ _ = Fm.bin _ _ _; rw [unf_congr (F := F) hk h.1, unf_congr (F := G) hk h.2]
  | .qu _ _ F, h => by show Fm.qu _ _ _ = Fm.qu _ _ _; rw [unf_congr (F := F) hk h.2]
/-- measures behind the unfolding -/
theorem unf_ht {f : Kn} {b : Nat} (hb : ∀ k y g, f k = some (y, g) → g.ht ≤ b) : ∀ F : Fm, (unf f F).ht ≤ F.ht + b
  | .is a k => by
    cases e : f k with
    | none => rw [unf_is_none e]; exact Nat.le_add_right _ _
    | some p => obtain ⟨y, g⟩ := p; rw [unf_is_some e, sub_ht]; exact Nat.le_trans (hb _ _ _ e) (Nat.le_add_left _ _)
  | .does _ _ _ => Nat.le_add_right _ _
  | .same _ _ => Nat.le_add_right _ _
  | .neg F => by have := unf_ht hb F; show (unf f F).ht + 1 ≤ F.ht + 1 + b; omega
  | .bin _ F G => by have := unf_ht hb F; have := unf_ht hb G; show max (unf f F).ht (unf f G).ht + 1 ≤ max F.ht G.ht + 1 + b; omega
  | .qu _ _ F => by have := unf_ht hb F; show (unf f F).ht + 1 ≤ F.ht + 1 + b; omega
theorem unf_sz {f : Kn} {b : Nat} (h1 : 1 ≤ b) (hb : ∀ k y g, f k = some (y, g) → g.sz ≤ b) : ∀ F : Fm, (unf f F).sz ≤ F.sz * b
  | .is a k => by
    cases e : f k with
    | none => rw [unf_is_none e]; show 1 ≤ 1 * b; omega
    | some p => obtain ⟨y, g⟩ := p; rw [unf_is_some e, sub_sz]; have := hb _ _ _ e; show g.sz ≤ 1 * b; omega
  | .does _ _ _ => by show 1 ≤ 1 * b; omega
  | .same _ _ => by show 1 ≤ 1 * b; omega
  | .neg F => by have := unf_sz h1 hb F; show (unf f F).sz + 1 ≤ (F.sz + 1) * b; rw [Nat.add_mul]; omega
  | .bin _ F G => by have := unf_sz h1 hb F; have := unf_sz h1 hb G; show (unf f F).sz + (unf f G).sz + 1 ≤ (F.sz + G.sz + 1) * b; rw [Nat.add_mul, Nat.add_mul]; omega
  | .qu _ _ F => by have := unf_sz h1 hb F; show (unf f F).sz + 1 ≤ (F.sz + 1) * b; rw [Nat.add_mul]; omega

/-! ### meanings -/
structure Mn where
  k : Str
  x : Str
  g : Fm
def Mn.d (m : Mn) : D := .tup [.str m.k, .str m.x, m.g.d]
def kstep (f : Kn) (m : Mn) : Kn := fun k => if k = m.k then some (m.x, unf f m.g) else f k
def knOf (M : List Mn) : Kn := M.foldl kstep fun _ => none
theorem knOf_nil : knOf [] = fun _ => none := rfl
theorem knOf_snoc {M : List Mn} {m : Mn} : knOf (M ++ [m]) = kstep (knOf M) m := by unfold knOf; rw [List.foldl_append]; rfl
theorem kstep_at {f : Kn} {m : Mn} : kstep f m m.k = some (m.x, unf f m.g) := if_pos rfl
theorem kstep_ne {f : Kn} {m : Mn} {k : Str} (h : k ≠ m.k) : kstep f m k = f k := if_neg h
def keys (M : List Mn) (k : Str) : Prop := ∃ m ∈ M, m.k = k
theorem knOf_none {M : List Mn} {k : Str} (h : ¬ keys M k) : knOf M k = none := by
  have gen : ∀ (M : List Mn) (f : Kn), (∀ m ∈ M, m.k ≠ k) → M.foldl kstep f k = f k := by
    intro M
    induction M with
    | nil => intro f _; rfl
    | cons m M ih =>
      intro f hm
      rw [List.foldl_cons, ih _ fun m' h' => hm m' (List.mem_cons_of_mem _ h'), kstep_ne fun e => hm m List.mem_cons_self e.symm]
  exact gen M _ fun m hm e => h ⟨m, hm, e⟩
/-- the letters and terms of a meaning: names, and letters with a mark below n -/
abbrev chLt (c : Nat) : Prop := 117 ≤ c ∧ c ≤ 122
abbrev chLow (c : Nat) : Prop := 97 ≤ c ∧ c ≤ 122
def nmS (s : Str) : Prop := ∃ c r, s.cps.toList = c :: r ∧ (65 ≤ c ∧ c ≤ 90) ∧ (∀ x ∈ r, chLow x) ∧ r.length ≤ 7
def ltS (s : Str) : Prop := ∃ c, chLt c ∧ s.cps.toList = [c]
def mkS (j : Nat) (s : Str) : Prop := ∃ c, chLt c ∧ s.cps.toList = [c, 48 + j]
def Tm (n : Nat) (s : Str) : Prop := nmS s ∨ ∃ j, j < n ∧ mkS j s
def Um (s : Str) : Prop := nmS s ∨ ltS s
def Wd (s : Str) : Prop := (∀ c ∈ s.cps.toList, chLow c) ∧ 1 ≤ s.cps.toList.length ∧ s.cps.toList.length ≤ 8
theorem mkS_notTm {n j : Nat} {x : Str} (h : mkS j x) (hn : n ≤ j) : ¬ Tm n x := by
  obtain ⟨c, hc, e⟩ := h
  rintro (⟨c', r, e', h1, _, _⟩ | ⟨i, hi, c', _, e'⟩)
  · rw [e] at e'; cases e'; unfold chLt at hc; omega
  · rw [e] at e'
    have := (List.cons.inj (List.cons.inj e').2).1
    omega
theorem ltS_notTm {n : Nat} {x : Str} (h : ltS x) : ¬ Tm n x := by
  obtain ⟨c, hc, e⟩ := h
  rintro (⟨c', r, e', h1, _, _⟩ | ⟨i, hi, c', _, e'⟩)
  · rw [e] at e'; cases e'; unfold chLt at hc; omega
  · rw [e] at e'; cases e'
theorem mkS_notWd {j : Nat} {x : Str} (h : mkS j x) (hj : j < 10) : ¬ Wd x := by
  obtain ⟨c, hc, e⟩ := h
  rintro ⟨h1, _, _⟩
  have := h1 (48 + j) (by rw [e]; simp)
  unfold chLow at this
  omega
theorem Tm.mono {n m : Nat} {s : Str} (h : Tm n s) (l : n ≤ m) : Tm m s := h.imp id fun ⟨j, a, b⟩ => ⟨j, by omega, b⟩
theorem rev_ind {α : Type} {P : List α → Prop} (h0 : P []) (h1 : ∀ N n, P N → P (N ++ [n])) (N : List α) : P N := by
  have gen : ∀ (n : Nat) (N : List α), N.length = n → P N := by
    intro n
    induction n with
    | zero => intro N e; cases List.length_eq_zero_iff.mp e; exact h0
    | succ n ih =>
      intro N e
      have hne : N ≠ [] := fun z => by rw [z] at e; cases e
      rw [← List.dropLast_concat_getLast hne]
      exact h1 _ _ (ih _ (by rw [List.length_dropLast]; omega))
  exact gen _ N rfl
/-- meanings as they are drawn: B the kinds that stand -/
inductive MOk (B W : Str → Prop) : List Mn → Prop
  | nil : MOk B W []
  | snoc {M : List Mn} {m : Mn} : MOk B W M → ¬ keys M m.k → ¬ B m.k → mkS M.length m.x → m.g.ok (Tm (M.length + 1)) (fun k => B k ∨ keys M k) W → MOk B W (M ++ [m])
theorem keys_snoc {M : List Mn} {m : Mn} {k : Str} : keys (M ++ [m]) k ↔ keys M k ∨ m.k = k := by
  unfold keys
  constructor
  · rintro ⟨a, h, e⟩
    rcases List.mem_append.mp h with h | h
    · exact .inl ⟨a, h, e⟩
    · cases List.mem_singleton.mp h; exact .inr e
  · rintro (⟨a, h, e⟩ | e)
    · exact ⟨a, List.mem_append_left _ h, e⟩
    · exact ⟨m, List.mem_append_right _ List.mem_cons_self, e⟩
section
variable {B W : Str → Prop}
theorem MOk.base {M : List Mn} (h : MOk B W M) {k : Str} (hk : B k) : ¬ keys M k := by
  induction h with
  | nil => rintro ⟨m, hm, _⟩; cases hm
  | snoc h1 h2 h3 _ _ ih =>
    intro z
    rcases keys_snoc.mp z with z | z
    · exact ih z
    · subst z; exact h3 hk
theorem MOk.none {M : List Mn} (h : MOk B W M) : ∀ k, B k → knOf M k = none := fun k hk => knOf_none (h.base hk)
theorem MOk.known {M : List Mn} (h : MOk B W M) : ∀ k, keys M k → ∃ x g, knOf M k = some (x, g) ∧ g.ok (Tm M.length) B W := by
  induction h with
  | nil => rintro k ⟨m, hm, _⟩; cases hm
  | @snoc M m h1 h2 h3 h4 h5 ih =>
    intro k hk
    rw [knOf_snoc, List.length_append]
    by_cases e : k = m.k
    · subst e
      refine ⟨m.x, _, kstep_at, unf_ok (K := fun k => B k ∨ keys M k) (fun k hk => ?_) h5⟩
      rcases hk with hk | hk
      · exact .inl ⟨h1.none k hk, hk⟩
      · obtain ⟨x, g, e, q⟩ := ih k hk
        exact .inr ⟨x, g, e, q.imp (fun s hs => hs.mono (by omega)) (fun _ z => z) fun _ z => z⟩
    · rcases keys_snoc.mp hk with hk | hk
      · obtain ⟨x, g, e', q⟩ := ih k hk
        exact ⟨x, g, (kstep_ne e).trans e', q.imp (fun s hs => hs.mono (by simp)) (fun _ z => z) fun _ z => z⟩
      · exact absurd hk.symm e
theorem MOk.dom {M : List Mn} (h : MOk B W M) {k x : Str} {g : Fm} (e : knOf M k = some (x, g)) : keys M k ∧ g.ok (Tm M.length) B W := by
  by_cases hk : keys M k
  · obtain ⟨y, g', e', q⟩ := h.known k hk
    rw [e] at e'; cases e'
    exact ⟨hk, q⟩
  · rw [knOf_none hk] at e; cases e
/-- kinds of a form over the meanings, unfolded -/
theorem MOk.unf {M : List Mn} (h : MOk B W M) {T : Str → Prop} (hT : ∀ s, Tm M.length s → T s) {F : Fm} (hF : F.ok T (fun k => B k ∨ keys M k) W) : (unf (knOf M) F).ok T B W :=
  unf_ok (fun k hk => by
    rcases hk with hk | hk
    · exact .inl ⟨h.none k hk, hk⟩
    · obtain ⟨x, g, e, q⟩ := h.known k hk
      exact .inr ⟨x, g, e, q.imp hT (fun _ z => z) fun _ z => z⟩) hF
theorem MOk.noc {M : List Mn} (h : MOk B W M) {x : Str} (hx : ¬ Tm M.length x) : KnNoc (knOf M) x := fun k y g e => by
  refine (h.dom e).2.imp (fun s hs z => ?_) (fun _ _ => trivial) fun _ _ => trivial
  subst z
  exact hx hs
theorem MOk.prefix {M N : List Mn} (h : MOk B W (M ++ N)) : MOk B W M := by
  induction N using rev_ind with
  | h0 => rwa [List.append_nil] at h
  | h1 N n ih =>
    rw [← List.append_assoc] at h
    generalize eL : M ++ N ++ [n] = L at h
    cases h with
    | nil => simp at eL
    | snoc h1 =>
      have := List.append_inj' eL rfl
      rw [← this.1] at h1
      exact ih h1
/-- a later meaning changes nothing of an earlier one -/
theorem knOf_app {M N : List Mn} (h : MOk B W (M ++ N)) : ∀ k, keys M k ∨ B k → knOf (M ++ N) k = knOf M k := by
  intro k hk
  induction N using rev_ind with
  | h0 => rw [List.append_nil]
  | h1 N n ih =>
    rw [← List.append_assoc] at h ⊢
    have h' : MOk B W (M ++ N) := h.prefix
    rw [knOf_snoc, ← ih h']
    refine kstep_ne ?_
    rintro rfl
    generalize eL : M ++ N ++ [n] = L at h
    cases h with
    | nil => simp at eL
    | snoc h1 h2 h3 =>
      have := List.append_inj' eL rfl
      obtain ⟨e1, e2⟩ := this
      cases e2
      rw [← e1] at h2
      rcases hk with ⟨m, hm, e⟩ | hk
      · exact h2 ⟨m, List.mem_append_left _ hm, e⟩
      · exact h3 hk
theorem MOk.at {M N : List Mn} {m : Mn} (h : MOk B W (M ++ m :: N)) : mkS M.length m.x ∧ ¬ keys M m.k ∧ m.g.ok (Tm (M.length + 1)) (fun k => B k ∨ keys M k) W ∧ knOf (M ++ m :: N) m.k = some (m.x, K72.unf (knOf (M ++ m :: N)) m.g) := by
  have e0 : M ++ m :: N = (M ++ [m]) ++ N := by simp
  rw [e0] at h ⊢
  have h' : MOk B W (M ++ [m]) := h.prefix
  have key : keys (M ++ [m]) m.k := ⟨m, by simp, rfl⟩
  have e1 := knOf_app h m.k (.inl key)
  have app := knOf_app h
  have app1 : ∀ k, keys M k ∨ B k → knOf (M ++ [m]) k = knOf M k := knOf_app h'
  generalize eL : M ++ [m] = L at h'
  cases h' with
  | nil => simp at eL
  | @snoc M' m' h1 h2 h3 h4 h5 =>
    obtain ⟨e2, e3⟩ := List.append_inj' eL rfl
    cases e3
    subst e2
    refine ⟨h4, h2, h5, ?_⟩
    rw [e1, knOf_snoc, kstep_at]
    congr 2
    refine unf_congr (fun k hk => ?_) h5
    have hk' := hk.symm
    rw [app k (hk'.imp (fun z => keys_snoc.mpr (.inl z)) id), app1 k hk']
end
/-- the meaning of a kind, looked for from the left -/
theorem keys_split {M : List Mn} {k : Str} (h : keys M k) : ∃ M1 m M2, M = M1 ++ m :: M2 ∧ m.k = k ∧ ¬ keys M1 k := by
  induction M with
  | nil => obtain ⟨m, hm, _⟩ := h; cases hm
  | cons a M ih =>
    by_cases e : a.k = k
    · exact ⟨[], a, M, rfl, e, fun ⟨m, hm, _⟩ => by cases hm⟩
    · obtain ⟨m, hm, e2⟩ := h
      rcases List.mem_cons.mp hm with rfl | hm
      · exact absurd e2 e
      · obtain ⟨M1, m', M2, e3, e4, e5⟩ := ih ⟨m, hm, e2⟩
        refine ⟨a :: M1, m', M2, by rw [e3]; rfl, e4, ?_⟩
        rintro ⟨z, hz, ez⟩
        rcases List.mem_cons.mp hz with rfl | hz
        · exact e ez
        · exact e5 ⟨z, hz, ez⟩
end K72

set_option Elab.async false
set_option maxRecDepth 100000
namespace K72
open PySem PySem.Spec PyProof.Rows L2 DL
def top (i : Nat) : Stmt := PySem.Challenge.pw_linecourt_k72_meanings_put_in_place.main.body.getD i (.Pass ⟨0, 0, 0, 0⟩)
structure Bt (mg : Str → Option Value) : Prop where
  len_ : mg "len" = none
  sum_ : mg "sum" = none
  list_ : mg "list" = none
  tuple_ : mg "tuple" = none
  range_ : mg "range" = none
  sorted_ : mg "sorted" = none
  max_ : mg "max" = none
  min_ : mg "min" = none
  int_ : mg "int" = none
  dict_ : mg "dict" = none
  isinstance_ : mg "isinstance" = none
  repr_ : mg "repr" = none
local macro_rules | `(tactic| walk_at "dl") => `(tactic| try simp only [DL.tAsgD, DL.asg, DL.tVarD, DL.lk, DL.sto, DL.stos, DL.tOpD, DL.tCD, DL.tCallD, DL.tConsD, DL.tNilD, DL.tRetD, DL.endsD, DL.startD, DL.tIfSD, DL.tTestD, DL.tNextD, DL.tDropD, DL.tAndD, DL.tOrD, DL.tNotD, DL.tAndV, DL.tOrV, DL.tNotV, DL.tIfD, DL.tNegD, DL.tTupD, DL.tLstD, DL.tSetD, DL.tMD, DL.tSlD, DL.tPartD, DL.tNoD, DL.tRevD, DL.tForD, DL.tLcD, DL.tIterD, DL.tRng1D, DL.tRng2D, DL.tYesD, DL.wipeD, DL.tDictD, DL.tDictOne, DL.keyOf, DL.emE_rr, DL.tLess, DL.tLessS, DL.itOk, DL.rAdd_ii, DL.rAdd_ss, DL.rAdd_tt, DL.rAdd_rr, DL.rSub_ii, DL.rMod_ii, DL.rDiv_ii, DL.rPow_ii, DL.rMul_ii, DL.rMul_ri, DL.rLt_ii, DL.rLt_ss, DL.rLe_ii, DL.rGt_ii, DL.rGe_ii, DL.rEq_ii, DL.rEq_ss, DL.rEq_bb, DL.rNe_ii, DL.rNe_ss, DL.rNe_bb, DL.rEq_rr, DL.rNe_rr, DL.rEq_tt, DL.rNe_tt, DL.rIn_st, DL.rNotIn_st, DL.rIn_r, DL.rNotIn_r, DL.rIn_ss, DL.rInDO_sl, DL.rInDO_il, DL.rInDO_sd, DL.rInDO_id, DL.rIsN_n, DL.rIsN_t, DL.rIsN_i, DL.rIsN_s, DL.rIsN_r, DL.rNotN_n, DL.rNotN_t, DL.rNotN_i, DL.rNotN_s, DL.rNotN_r, DL.rIx_t, DL.rIx_r, DL.rIx_s, DL.rIxDO_l, DL.rIxDO_ds, DL.rIx0, DL.rIx1, DL.rIx2, DL.rIx3, DL.rSl_t, DL.rSl_s, DL.rSl_o, DL.rSl_r, DL.rSlDO, DL.rSet_r, DL.rSetDO_0, DL.rSetDO_s, DL.rLen_t, DL.rLen_o, DL.rLen_s, DL.rLen_r, DL.rLenDO, DL.rLenDO_d, DL.rList_t, DL.rList_o, DL.rList_r, DL.rListDO, DL.rTuple_t, DL.rTuple_r, DL.rInt_i, DL.rInt_b, DL.rMax, DL.rMin, DL.rSz0, DL.rSz1, DL.rSz2, DL.rSz3, DL.rSz4, DL.rSz5, DL.rSz6, DL.rSz7, DL.rSz8, Option.some.injEq, DL.DO.lst.injEq, exists_eq_left', exists_eq_left, DL.put_same, DL.put_put, true_and, and_true, List.map, List.replicate, List.length, List.cons_append, List.nil_append, Nat.reduceSub, Nat.reduceAdd, decide_eq_true_eq, if_true, if_false, Bool.false_eq_true, Bool.not_true, Bool.not_false])
local macro_rules | `(tactic| walk_at "dlh") => `(tactic| try simp only [*, DL.tAsgD, DL.asg, DL.tVarD, DL.lk, DL.sto, DL.stos, DL.tOpD, DL.tCD, DL.tCallD, DL.tConsD, DL.tNilD, DL.tRetD, DL.endsD, DL.startD, DL.tIfSD, DL.tTestD, DL.tNextD, DL.tDropD, DL.tAndD, DL.tOrD, DL.tNotD, DL.tAndV, DL.tOrV, DL.tNotV, DL.tIfD, DL.tNegD, DL.tTupD, DL.tLstD, DL.tSetD, DL.tMD, DL.tSlD, DL.tPartD, DL.tNoD, DL.tRevD, DL.tForD, DL.tLcD, DL.tIterD, DL.tRng1D, DL.tRng2D, DL.tYesD, DL.wipeD, DL.tDictD, DL.tDictOne, DL.keyOf, DL.emE_rr, DL.tLess, DL.tLessS, DL.itOk, DL.rAdd_ii, DL.rAdd_ss, DL.rAdd_tt, DL.rAdd_rr, DL.rSub_ii, DL.rMod_ii, DL.rDiv_ii, DL.rPow_ii, DL.rMul_ii, DL.rMul_ri, DL.rLt_ii, DL.rLt_ss, DL.rLe_ii, DL.rGt_ii, DL.rGe_ii, DL.rEq_ii, DL.rEq_ss, DL.rEq_bb, DL.rNe_ii, DL.rNe_ss, DL.rNe_bb, DL.rEq_rr, DL.rNe_rr, DL.rEq_tt, DL.rNe_tt, DL.rIn_st, DL.rNotIn_st, DL.rIn_r, DL.rNotIn_r, DL.rIn_ss, DL.rInDO_sl, DL.rInDO_il, DL.rInDO_sd, DL.rInDO_id, DL.rIsN_n, DL.rIsN_t, DL.rIsN_i, DL.rIsN_s, DL.rIsN_r, DL.rNotN_n, DL.rNotN_t, DL.rNotN_i, DL.rNotN_s, DL.rNotN_r, DL.rIx_t, DL.rIx_r, DL.rIx_s, DL.rIxDO_l, DL.rIxDO_ds, DL.rIx0, DL.rIx1, DL.rIx2, DL.rIx3, DL.rSl_t, DL.rSl_s, DL.rSl_o, DL.rSl_r, DL.rSlDO, DL.rSet_r, DL.rSetDO_0, DL.rSetDO_s, DL.rLen_t, DL.rLen_o, DL.rLen_s, DL.rLen_r, DL.rLenDO, DL.rLenDO_d, DL.rList_t, DL.rList_o, DL.rList_r, DL.rListDO, DL.rTuple_t, DL.rTuple_r, DL.rInt_i, DL.rInt_b, DL.rMax, DL.rMin, DL.rSz0, DL.rSz1, DL.rSz2, DL.rSz3, DL.rSz4, DL.rSz5, DL.rSz6, DL.rSz7, DL.rSz8, Option.some.injEq, DL.DO.lst.injEq, exists_eq_left', exists_eq_left, DL.put_same, DL.put_put, true_and, and_true, List.map, List.replicate, List.length, List.cons_append, List.nil_append, Nat.reduceSub, Nat.reduceAdd, decide_eq_true_eq, if_true, if_false, Bool.false_eq_true, Bool.not_true, Bool.not_false])
local macro_rules | `(tactic| walk_at "go") => `(tactic| repeat (first | (refine DL.sq ?_; try walk_at "dl") | (refine DL.ifY rfl ?_; try walk_at "dl") | (refine DL.inY rfl (by decide) ?_; try walk_at "dl") | (refine DL.inN rfl (by decide) ?_; try walk_at "dl") | (refine DL.ifN (by decide) ?_; try walk_at "dl")))
abbrev s_l_mixed : Stmt := top 14
theorem sc_l_mixed : FnScope ["_law_cell", "_law_k", "_law_number"] ["_law_cell", "_law_k"] (defScope s_l_mixed) := ⟨rfl, rfl, rfl, by decide +kernel, rfl, by decide +kernel, by decide +kernel⟩
def spMixed : SpD := fun ds S Q => ∃ c k : Int, ds = [.int c, .int k] ∧ ∀ r : Int, 0 ≤ r → Q (.int r) S
abbrev s_l_draw : Stmt := top 16
theorem sc_l_draw : FnScope ["_law_deck_here", "_law_most", "_law_cell"] ["_law_deck_here", "_law_most"] (defScope s_l_draw) := ⟨rfl, rfl, rfl, by decide +kernel, rfl, by decide +kernel, by decide +kernel⟩
abbrev dkO (ns : List Int) : DO := .lst (ns.map D.int)
abbrev okd (ns : List Int) : Prop := 2 ≤ ns.length ∧ ns.length ≤ 100
def spDraw : SpD := fun ds S Q => ∃ (a : Addr) (ns : List Int) (m : Int), ds = [.ref a, .int m] ∧ S a = some (dkO ns) ∧ okd ns ∧ 0 < m ∧ m < 1073741824 ∧
  ∀ (r : Int) (ns' : List Int), 0 ≤ r → r < m → okd ns' → Q (.int r) (put S a (dkO ns'))
theorem small100 {n : Nat} (h : n ≤ 100) : n < sizeLine := Nat.lt_of_le_of_lt h (by decide)
section
variable {P : Program} {w : World} {K : PySem.W.Frag} {mg : Str → Option Value} {base : Heap}
theorem df_mixed {k : Nat} (A : At K mg "_law_mixed" "_law_mixed" s_l_mixed) : Df P w K mg base "_law_mixed" (k + 1) spMixed := by
  have nd := sc_l_mixed.nd
  refine df_mk A rfl sc_l_mixed (fun _ _ _ _ _ _ us hl => match us, hl with | [_, _], _ => rfl) (fun ds S Q h => ?_) (fun f cdv A outer s H E hr ds S Q h => ?_)
  · obtain ⟨c, k, rfl, _⟩ := h
    rfl
  obtain ⟨c, k, rfl, h⟩ := h
  refine ⟨_, (dss_cons (ds_set (i := 2) nd rfl (Or.inl rfl) (de_op od_mod (de_op od_add (de_op od_add (de_op od_mul (de_op od_mod (dv 0) de_int) de_int) (de_op od_mul (dv 1) de_int)) de_int) de_int))
    (dss_cons (ds_set (i := 2) nd rfl (Or.inl rfl) (de_op od_mod (de_op od_add (de_op od_add (de_op od_mul (dv 2) (dv 2)) (de_op od_mul de_int (dv 2))) (dv 1)) de_int))
    (dss_one (ds_ret (de_op od_mod (de_op od_mul (de_op od_add (de_op od_mul (de_op od_mod (dv 2) de_int) de_int) (de_op od_div (dv 2) de_int)) de_int) de_int))))), ?_⟩
  refine sq ?_
  walk_at "dl"
  refine ⟨by decide, .inr (by decide), .inr (by decide), by decide, sq ?_⟩
  walk_at "dl"
  generalize e1 : (c % 2147483647 * 48271 + k * 69621 + 7919) % 2147483629 = n1
  have h1 : 0 ≤ n1 ∧ n1 < 2147483629 := by omega
  generalize e2 : (n1 * n1 + 16807 * n1 + k) % 2147483587 = n2
  refine ⟨.inl (by omega), .inl (by decide), by decide, by decide, .inr (by decide), by decide, .inr (by decide), by decide, S, Sub.refl, h _ (by omega)⟩
theorem df_draw {k : Nat} (T : Bt mg) (A : At K mg "_law_draw" "_law_draw" s_l_draw) (G_l_mixed : Df P w K mg base "_law_mixed" k spMixed) : Df P w K mg base "_law_draw" (k + 1) spDraw := by
  have nd := sc_l_draw.nd
  refine df_mk A rfl sc_l_draw (fun _ _ _ _ _ _ us hl => match us, hl with | [_, _], _ => rfl) (fun ds S Q h => ?_) (fun f cdv A outer s H E hr ds S Q h => ?_)
  · obtain ⟨a, ns, m, rfl, _⟩ := h
    rfl
  obtain ⟨a, ns, m, rfl, ha, ⟨l1, l2⟩, m0, m1, h⟩ := h
  have hu := hu_of hr
  refine ⟨_, (dss_cons (ds_setitem hu (dv 0) de_int (de_op od_add (de_ix hu (dv 0) de_int) de_int))
    (dss_cons (ds_if (dt_cmp od_lt (de_callB cd_len rfl T.len_ (by decide +kernel) (da_cons (dv 0) da_nil)) de_int (nomark _)) (dss_one (ds_ret (de_op od_mod (de_call G_l_mixed hr rfl (da_cons (de_ix hu (dv 0) de_int) (da_cons (de_ix hu (dv 0) de_int) da_nil))) (dv 1)))) dss_nil)
    (dss_cons (ds_set (i := 2) nd rfl (Or.inl rfl) (de_m0 PySem.F.plainAttrs_list PySem.F.slot_list_pop PySem.F.type_list_pop md_pop (dv 0)))
    (dss_cons (ds_if (dt_cmp od_lt (dv 2) (de_op od_pow de_int de_int) (nomark _)) (dss_one (ds_ret (de_op od_mod (de_call G_l_mixed hr rfl (da_cons (dv 2) (da_cons (de_ix hu (dv 0) de_int) da_nil))) (dv 1)))) dss_nil)
    (dss_cons (ds_expr (de_m PySem.F.plainAttrs_list PySem.F.slot_list_append PySem.F.type_list_append md_append (dv 0) (da_cons (de_op od_div (dv 2) (dv 1)) da_nil)))
    (dss_one (ds_ret (de_op od_mod (dv 2) (dv 1))))))))), ?_⟩
  rcases ns with _ | ⟨n0, _ | ⟨n1, nr⟩⟩
  · simp at l1
  · simp at l1
  replace ha : S a = some (.lst (.int n0 :: .int n1 :: nr.map D.int)) := ha
  refine sq ?_
  walk_at "dlh"
  refine sq ?_
  walk_at "dl"
  refine ite2 (fun c => ?_) (fun c => ?_)
  · refine ⟨_, _, rfl, fun r r0 => ?_⟩
    walk_at "dl"
    refine ⟨m0, _, Sub.refl, ?_⟩
    exact h (r % m) ((n0 + 1) :: n1 :: nr) (Int.emod_nonneg _ (by omega)) (Int.emod_lt_of_pos _ m0) ⟨l1, l2⟩
  · refine sq ?_
    walk_at "dl"
    have e : nr ≠ [] := by
      rintro rfl
      simp at c
    obtain ⟨mr, z, rfl⟩ : ∃ mr z, nr = mr ++ [z] := ⟨nr.dropLast, nr.getLast e, (List.dropLast_concat_getLast e).symm⟩
    rw [List.map_append]
    have lm : mr.length + 3 ≤ 100 := by simpa using l2
    refine ⟨ty_list put_same, pop_of (xs := .int (n0 + 1) :: .int n1 :: mr.map D.int) put_same ?_⟩
    refine sq ?_
    walk_at "dl"
    refine ⟨⟨by decide, by decide, by decide⟩, ite2 (fun c2 => ?_) (fun c2 => ?_)⟩
    · refine ⟨_, _, rfl, fun r r0 => ?_⟩
      walk_at "dl"
      refine ⟨m0, _, Sub.refl, ?_⟩
      exact h (r % m) ((n0 + 1) :: n1 :: mr) (Int.emod_nonneg _ (by omega)) (Int.emod_lt_of_pos _ m0) ⟨by simp, by simp; omega⟩
    · refine sq ?_
      walk_at "dl"
      refine ⟨ty_list put_same, ⟨m0, m1⟩, append_of put_same (by simp; exact small100 (by omega)) ?_⟩
      walk_at "dl"
      refine ⟨m0, _, Sub.refl, ?_⟩
      have q := h (z % m) ((n0 + 1) :: n1 :: (mr ++ [z / m])) (Int.emod_nonneg _ (by omega)) (Int.emod_lt_of_pos _ m0) ⟨by simp, by simp; omega⟩
      simpa [dkO] using q
end
end K72

set_option Elab.async false
set_option maxRecDepth 100000
set_option linter.unusedVariables false
namespace K72
open PySem PySem.Spec PyProof.Rows L2 DL
local macro_rules | `(tactic| walk_at "dl") => `(tactic| try simp only [DL.tAsgD, DL.asg, DL.tVarD, DL.lk, DL.sto, DL.stos, DL.tOpD, DL.tCD, DL.tCallD, DL.tConsD, DL.tNilD, DL.tRetD, DL.endsD, DL.startD, DL.tIfSD, DL.tTestD, DL.tNextD, DL.tDropD, DL.tAndD, DL.tOrD, DL.tNotD, DL.tAndV, DL.tOrV, DL.tNotV, DL.tIfD, DL.tNegD, DL.tTupD, DL.tLstD, DL.tSetD, DL.tMD, DL.tSlD, DL.tPartD, DL.tNoD, DL.tRevD, DL.tForD, DL.tLcD, DL.tIterD, DL.tRng1D, DL.tRng2D, DL.tYesD, DL.wipeD, DL.tDictD, DL.tDictOne, DL.keyOf, DL.emE_rr, DL.tLess, DL.tLessS, DL.itOk, DL.rAdd_ii, DL.rAdd_ss, DL.rAdd_tt, DL.rAdd_rr, DL.rSub_ii, DL.rMod_ii, DL.rDiv_ii, DL.rPow_ii, DL.rMul_ii, DL.rMul_ri, DL.rLt_ii, DL.rLt_ss, DL.rLe_ii, DL.rGt_ii, DL.rGe_ii, DL.rEq_ii, DL.rEq_ss, DL.rEq_bb, DL.rNe_ii, DL.rNe_ss, DL.rNe_bb, DL.rEq_rr, DL.rNe_rr, DL.rEq_tt, DL.rNe_tt, DL.rIn_st, DL.rNotIn_st, DL.rIn_r, DL.rNotIn_r, DL.rIn_ss, DL.rInDO_sl, DL.rInDO_il, DL.rInDO_sd, DL.rInDO_id, DL.rIsN_n, DL.rIsN_t, DL.rIsN_i, DL.rIsN_s, DL.rIsN_r, DL.rNotN_n, DL.rNotN_t, DL.rNotN_i, DL.rNotN_s, DL.rNotN_r, DL.rIx_t, DL.rIx_r, DL.rIx_s, DL.rIxDO_l, DL.rIxDO_ds, DL.rIx0, DL.rIx1, DL.rIx2, DL.rIx3, DL.rSl_t, DL.rSl_s, DL.rSl_o, DL.rSl_r, DL.rSlDO, DL.rSet_r, DL.rSetDO_0, DL.rSetDO_s, DL.rLen_t, DL.rLen_o, DL.rLen_s, DL.rLen_r, DL.rLenDO, DL.rLenDO_d, DL.rList_t, DL.rList_o, DL.rList_r, DL.rListDO, DL.rTuple_t, DL.rTuple_r, DL.rInt_i, DL.rInt_b, DL.rMax, DL.rMin, DL.rSz0, DL.rSz1, DL.rSz2, DL.rSz3, DL.rSz4, DL.rSz5, DL.rSz6, DL.rSz7, DL.rSz8, Option.some.injEq, DL.DO.lst.injEq, exists_eq_left', exists_eq_left, DL.put_same, DL.put_put, true_and, and_true, List.map, List.replicate, List.length, List.cons_append, List.nil_append, Nat.reduceSub, Nat.reduceAdd, decide_eq_true_eq, if_true, if_false, Bool.false_eq_true, Bool.not_true, Bool.not_false])
local macro_rules | `(tactic| walk_at "dlh") => `(tactic| try simp only [*, DL.tAsgD, DL.asg, DL.tVarD, DL.lk, DL.sto, DL.stos, DL.tOpD, DL.tCD, DL.tCallD, DL.tConsD, DL.tNilD, DL.tRetD, DL.endsD, DL.startD, DL.tIfSD, DL.tTestD, DL.tNextD, DL.tDropD, DL.tAndD, DL.tOrD, DL.tNotD, DL.tAndV, DL.tOrV, DL.tNotV, DL.tIfD, DL.tNegD, DL.tTupD, DL.tLstD, DL.tSetD, DL.tMD, DL.tSlD, DL.tPartD, DL.tNoD, DL.tRevD, DL.tForD, DL.tLcD, DL.tIterD, DL.tRng1D, DL.tRng2D, DL.tYesD, DL.wipeD, DL.tDictD, DL.tDictOne, DL.keyOf, DL.emE_rr, DL.tLess, DL.tLessS, DL.itOk, DL.rAdd_ii, DL.rAdd_ss, DL.rAdd_tt, DL.rAdd_rr, DL.rSub_ii, DL.rMod_ii, DL.rDiv_ii, DL.rPow_ii, DL.rMul_ii, DL.rMul_ri, DL.rLt_ii, DL.rLt_ss, DL.rLe_ii, DL.rGt_ii, DL.rGe_ii, DL.rEq_ii, DL.rEq_ss, DL.rEq_bb, DL.rNe_ii, DL.rNe_ss, DL.rNe_bb, DL.rEq_rr, DL.rNe_rr, DL.rEq_tt, DL.rNe_tt, DL.rIn_st, DL.rNotIn_st, DL.rIn_r, DL.rNotIn_r, DL.rIn_ss, DL.rInDO_sl, DL.rInDO_il, DL.rInDO_sd, DL.rInDO_id, DL.rIsN_n, DL.rIsN_t, DL.rIsN_i, DL.rIsN_s, DL.rIsN_r, DL.rNotN_n, DL.rNotN_t, DL.rNotN_i, DL.rNotN_s, DL.rNotN_r, DL.rIx_t, DL.rIx_r, DL.rIx_s, DL.rIxDO_l, DL.rIxDO_ds, DL.rIx0, DL.rIx1, DL.rIx2, DL.rIx3, DL.rSl_t, DL.rSl_s, DL.rSl_o, DL.rSl_r, DL.rSlDO, DL.rSet_r, DL.rSetDO_0, DL.rSetDO_s, DL.rLen_t, DL.rLen_o, DL.rLen_s, DL.rLen_r, DL.rLenDO, DL.rLenDO_d, DL.rList_t, DL.rList_o, DL.rList_r, DL.rListDO, DL.rTuple_t, DL.rTuple_r, DL.rInt_i, DL.rInt_b, DL.rMax, DL.rMin, DL.rSz0, DL.rSz1, DL.rSz2, DL.rSz3, DL.rSz4, DL.rSz5, DL.rSz6, DL.rSz7, DL.rSz8, Option.some.injEq, DL.DO.lst.injEq, exists_eq_left', exists_eq_left, DL.put_same, DL.put_put, true_and, and_true, List.map, List.replicate, List.length, List.cons_append, List.nil_append, Nat.reduceSub, Nat.reduceAdd, decide_eq_true_eq, if_true, if_false, Bool.false_eq_true, Bool.not_true, Bool.not_false])
local macro_rules | `(tactic| walk_at "go") => `(tactic| repeat (first | (refine DL.sq ?_; try walk_at "dl") | (refine DL.ifY rfl ?_; try walk_at "dl") | (refine DL.inY rfl (by decide) ?_; try walk_at "dl") | (refine DL.inN rfl (by decide) ?_; try walk_at "dl") | (refine DL.ifN (by decide) ?_; try walk_at "dl")))
abbrev s_put_term_meanings : Stmt := top 3
theorem sc_put_term_meanings : FnScope ["form", "x", "term", "word", "part"] ["form", "x", "term"] (defScope s_put_term_meanings) := ⟨rfl, rfl, rfl, by decide +kernel, rfl, by decide +kernel, by decide +kernel⟩
def spPut (n : Nat) : SpD := fun ds S Q => ∃ (F : Fm) (x t : Str), ds = [F.d, .str x, .str t] ∧ F.ht ≤ n ∧ F.ok (fun _ => True) (fun _ => True) (fun d => d ≠ x) ∧ x ≠ "does" ∧ x ≠ "same" ∧ Q (sub x t F).d S
abbrev cJoined : D := .tup [.str "not", .str "and", .str "or", .str "if"]
abbrev cBound : D := .tup [.str "every", .str "some"]
section
variable {P : Program} {w : World} {K : PySem.W.Frag} {mg : Str → Option Value} {base : Heap}
theorem df_putM (T : Bt mg) (A : At K mg "put_term_meanings" "put_term" s_put_term_meanings) (c_JOINED : Cst K mg "JOINED" cJoined) (c_BOUND : Cst K mg "BOUND" cBound) (n : Nat) : Df P w K mg base "put_term_meanings" (n + 1) (spPut n) := by
  have nd := sc_put_term_meanings.nd
  induction n with
  | zero =>
    refine df_mk A rfl sc_put_term_meanings (fun _ _ _ _ _ _ us hl => match us, hl with | [_, _, _], _ => rfl) (fun ds S Q h => ?_) (fun f cdv A outer s H E hr ds S Q h => ?_)
    · obtain ⟨F, x, t, rfl, _⟩ := h
      rfl
    · obtain ⟨F, x, t, rfl, h, _⟩ := h
      have := F.ht_pos
      omega
  | succ n G_put_term_meanings =>
  refine df_mk A rfl sc_put_term_meanings (fun _ _ _ _ _ _ us hl => match us, hl with | [_, _, _], _ => rfl) (fun ds S Q h => ?_) (fun f cdv A outer s H E hr ds S Q h => ?_)
  · obtain ⟨F, x, t, rfl, _⟩ := h
    rfl
  obtain ⟨F, x, t, rfl, hn, hok, x1, x2, h⟩ := h
  have hu := hu_of hr
  refine ⟨_, (dss_cons (ds_set (i := 3) nd rfl (Or.inl rfl) (de_ix hu (dv 0) de_int))
    (dss_cons (ds_if (dt_cmp (od_in hu) (dv 3) (de_cst rfl c_JOINED) rfl) (dss_one (ds_ret (de_op od_add (de_tup (da_cons (dv 3) da_nil)) (de_callTy cd_tuple rfl T.tuple_ (by decide +kernel) (da_cons (de_lc (own := [("part", 4)]) (g := GD.one 4) rfl nd (di_any (de_slice (dv 0) (do_some de_int) do_none)) (blkOk_by (own := [("part", 4)]) (N := ["form", "x", "term", "word", "part"]) (sc := defScope s_put_term_meanings) (by decide +kernel)) (fun _ _ _ _ _ => (dg_name (i := 4) nd rfl (Or.inl rfl))) (fun _ _ _ _ _ => dts_nil) (fun _ _ _ _ _ => (de_call G_put_term_meanings hr rfl (da_cons (dv 4) (da_cons (dv 1) (da_cons (dv 2) da_nil)))))) da_nil))))) dss_nil)
    (dss_cons (ds_if (dt_cmp (od_in hu) (dv 3) (de_cst rfl c_BOUND) rfl) (dss_cons (ds_if (dt_cmp (od_eq hr.units) (de_ix hu (dv 0) de_int) (dv 1) (nomark _)) (dss_one (ds_ret (dv 0))) dss_nil)
    (dss_one (ds_ret (de_tup (da_cons (dv 3) (da_cons (de_ix hu (dv 0) de_int) (da_cons (de_call G_put_term_meanings hr rfl (da_cons (de_ix hu (dv 0) de_int) (da_cons (dv 1) (da_cons (dv 2) da_nil)))) da_nil))))))) dss_nil)
    (dss_cons (ds_if (dt_cmp (od_eq hr.units) (dv 3) de_str (nomark _)) (dss_one (ds_ret (de_tup (da_cons de_str (da_cons (de_if (dt_cmp (od_eq hr.units) (de_ix hu (dv 0) de_int) (dv 1) (nomark _)) (dv 2) (de_ix hu (dv 0) de_int)) (da_cons (de_ix hu (dv 0) de_int) da_nil)))))) dss_nil)
    (dss_cons (ds_if (dt_w (dw_or (dt_cmp (od_eq hr.units) (dv 3) de_str (nomark _)) (dw_or1 (dt_cmp (od_eq hr.units) (dv 3) de_str (nomark _))))) (dss_one (ds_ret (de_callTy cd_tuple rfl T.tuple_ (by decide +kernel) (da_cons (de_lc (own := [("part", 4)]) (g := GD.one 4) rfl nd (di_any (dv 0)) (blkOk_by (own := [("part", 4)]) (N := ["form", "x", "term", "word", "part"]) (sc := defScope s_put_term_meanings) (by decide +kernel)) (fun _ _ _ _ _ => (dg_name (i := 4) nd rfl (Or.inl rfl))) (fun _ _ _ _ _ => dts_nil) (fun _ _ _ _ _ => (de_if (dt_cmp (od_eq hr.units) (dv 4) (dv 1) (nomark _)) (dv 2) (dv 4)))) da_nil)))) dss_nil)
    (dss_one (ds_ret (dv 0)))))))), ?_⟩
  cases F with
  | is a k =>
    simp only [Fm.d]
    walk_at "go"
    unfold sub sb at h
    refine ite2 (fun c => ?_) (fun c => ?_)
    · walk_at "dl"
      rw [if_pos c] at h
      exact ⟨_, Sub.refl, h⟩
    · walk_at "dl"
      rw [if_neg c] at h
      exact ⟨_, Sub.refl, h⟩
  | does d a b =>
    simp only [Fm.d]
    walk_at "go"
    intro p np
    have hd : d ≠ x := hok.1
    refine lcB_zip [.str "does", .str d, .str a, .str b] [.str "does", .str d, .str (sb x t a), .str (sb x t b)] rfl (fun i acc => rfl) (szOk (by simp)) (fun i z r acc Y N e1 e2 y => ?_) ?_
    · walk_at "dl"
      rcases i with _ | _ | _ | _ | i
      · cases e1; cases e2
        walk_at "dl"
        refine ifN (fun z => x1 z.symm) ?_
        exact y
      · cases e1; cases e2
        walk_at "dl"
        refine ifN hd ?_
        exact y
      · cases e1; cases e2
        walk_at "dl"
        unfold sb at y
        refine ite2 (fun c => ?_) (fun c => ?_)
        · rw [if_pos c] at y; exact y
        · rw [if_neg c] at y; exact y
      · cases e1; cases e2
        walk_at "dl"
        unfold sb at y
        refine ite2 (fun c => ?_) (fun c => ?_)
        · rw [if_pos c] at y; exact y
        · rw [if_neg c] at y; exact y
      · simp at e1
    · walk_at "dl"
      exact ⟨S, Sub.new np, h⟩
  | same a b =>
    simp only [Fm.d]
    walk_at "go"
    intro p np
    refine lcB_zip [.str "same", .str a, .str b] [.str "same", .str (sb x t a), .str (sb x t b)] rfl (fun i acc => rfl) (szOk (by simp)) (fun i z r acc Y N e1 e2 y => ?_) ?_
    · walk_at "dl"
      rcases i with _ | _ | _ | i
      · cases e1; cases e2
        walk_at "dl"
        refine ifN (fun z => x2 z.symm) ?_
        exact y
      · cases e1; cases e2
        walk_at "dl"
        unfold sb at y
        refine ite2 (fun c => ?_) (fun c => ?_)
        · rw [if_pos c] at y; exact y
        · rw [if_neg c] at y; exact y
      · cases e1; cases e2
        walk_at "dl"
        unfold sb at y
        refine ite2 (fun c => ?_) (fun c => ?_)
        · rw [if_pos c] at y; exact y
        · rw [if_neg c] at y; exact y
      · simp at e1
    · walk_at "dl"
      exact ⟨S, Sub.new np, h⟩
  | neg F =>
    simp only [Fm.d]
    walk_at "go"
    intro p np
    refine lcB_zip [F.d] [(sub x t F).d] rfl (fun i acc => rfl) (szOk (by simp)) (fun i z r acc Y N e1 e2 y => ?_) ?_
    · rcases i with _ | i
      · cases e1; cases e2
        walk_at "dl"
        exact ⟨F, x, t, rfl, by simpa [Fm.ht] using hn, hok, x1, x2, y⟩
      · simp at e2
    · walk_at "dl"
      exact ⟨S, Sub.new np, h⟩
  | bin w F G =>
    have hn' : F.ht ≤ n ∧ G.ht ≤ n := by simp only [Fm.ht] at hn; omega
    have ew : w.s ∈ [("not" : Str), "and", "or", "if"] := by cases w <;> decide
    simp only [Fm.d]
    walk_at "go"
    refine inY rfl ew ?_
    walk_at "dl"
    intro p np
    refine lcB_zip [F.d, G.d] [(sub x t F).d, (sub x t G).d] rfl (fun i acc => rfl) (szOk (by simp)) (fun i z r acc Y N e1 e2 y => ?_) ?_
    · rcases i with _ | _ | i
      · cases e1; cases e2
        walk_at "dl"
        exact ⟨F, x, t, rfl, hn'.1, hok.1, x1, x2, y⟩
      · cases e1; cases e2
        walk_at "dl"
        exact ⟨G, x, t, rfl, hn'.2, hok.2, x1, x2, y⟩
      · simp at e2
    · walk_at "dl"
      exact ⟨S, Sub.new np, h⟩
  | qu w y F =>
    have hn' : F.ht ≤ n := by simp only [Fm.ht] at hn; omega
    have ew : w.s ∉ [("not" : Str), "and", "or", "if"] := by cases w <;> decide
    have ew2 : w.s ∈ [("every" : Str), "some"] := by cases w <;> decide
    simp only [Fm.d]
    walk_at "go"
    refine inN rfl ew (sq ?_)
    walk_at "dl"
    refine inY rfl ew2 (sq ?_)
    walk_at "dl"
    unfold sub at h
    refine ite2 (fun c => ?_) (fun c => ?_)
    · rw [if_pos c] at h
      exact ⟨_, Sub.refl, h⟩
    · rw [if_neg c] at h
      walk_at "dl"
      exact ⟨F, x, t, rfl, hn', hok.2, x1, x2, by walk_at "dl"; exact ⟨_, Sub.refl, h⟩⟩
end
end K72

set_option Elab.async false
set_option maxRecDepth 100000
set_option linter.unusedVariables false
namespace DL
open PySem PySem.Spec PyProof.Rows L2
theorem dval_nil {k : Key} : dval [] k = none := rfl
theorem dval_cons {p : Key × D} {r : List (Key × D)} {k : Key} : dval (p :: r) k = if p.1 = k then some p.2 else dval r k := by
  unfold dval
  rw [List.find?_cons]
  by_cases h : p.1 = k
  · rw [if_pos h, decide_eq_true h]; rfl
  · rw [if_neg h, decide_eq_false h]
theorem dval_upd {k k' : Key} {v : D} : ∀ (kvs : List (Key × D)), dval (kvs.map fun kv => if kv.1 = k then (kv.1, v) else kv) k' = if k' = k then (if (kvs.any fun kv => decide (kv.1 = k)) = true then some v else none) else dval kvs k'
  | [] => by
    show none = _
    split
    · rfl
    · rfl
  | p :: r => by
    rw [List.map_cons, dval_cons, dval_upd r, dval_cons, List.any_cons]
    by_cases h : p.1 = k
    · rw [if_pos h]
      by_cases h2 : k' = k
      · subst h2; simp [h]
      · have h3 : ¬ p.1 = k' := fun z => h2 (z.symm.trans h)
        simp [h2, h3]
    · rw [if_neg h]
      by_cases h2 : k' = k
      · subst h2; rw [decide_eq_false h, Bool.false_or]; simp; exact fun z => absurd z h
      · simp [h2]
theorem dval_snoc {k k' : Key} {v : D} : ∀ (kvs : List (Key × D)), (kvs.any fun kv => decide (kv.1 = k)) = false → dval (kvs ++ [(k, v)]) k' = if k' = k then some v else dval kvs k'
  | [], _ => by
    show dval [(k, v)] k' = _
    rw [dval_cons]
    by_cases h : k = k'
    · subst h; simp
    · have h2 : ¬ k' = k := fun z => h z.symm
      simp [h, h2]
  | p :: r, h => by
    rw [List.any_cons, Bool.or_eq_false_iff] at h
    rw [List.cons_append, dval_cons, dval_snoc r h.2, dval_cons]
    have h1 : ¬ p.1 = k := of_decide_eq_false h.1
    by_cases h2 : k' = k
    · subst h2; simp [h1]
    · simp [h2]
theorem dval_dput {kvs : List (Key × D)} {k k' : Key} {v : D} : dval (dput kvs k v) k' = if k' = k then some v else dval kvs k' := by
  unfold dput
  cases h : kvs.any fun kv => decide (kv.1 = k) with
  | true => rw [if_pos rfl, dval_upd, h]; rfl
  | false => rw [if_neg (by simp), dval_snoc kvs h]
theorem length_dput {kvs : List (Key × D)} {k : Key} {v : D} : (dput kvs k v).length ≤ kvs.length + 1 := by
  unfold dput
  split
  · rw [List.length_map]; omega
  · rw [List.length_append]; exact Nat.le_refl _
end DL
namespace K72
open PySem PySem.Spec PyProof.Rows L2 DL
local macro_rules | `(tactic| walk_at "dl") => `(tactic| try simp only [DL.tAsgD, DL.asg, DL.tVarD, DL.lk, DL.sto, DL.stos, DL.tOpD, DL.tCD, DL.tCallD, DL.tConsD, DL.tNilD, DL.tRetD, DL.endsD, DL.startD, DL.tIfSD, DL.tTestD, DL.tNextD, DL.tDropD, DL.tAndD, DL.tOrD, DL.tNotD, DL.tAndV, DL.tOrV, DL.tNotV, DL.tIfD, DL.tNegD, DL.tTupD, DL.tLstD, DL.tSetD, DL.tMD, DL.tSlD, DL.tPartD, DL.tNoD, DL.tRevD, DL.tForD, DL.tLcD, DL.tIterD, DL.tRng1D, DL.tRng2D, DL.tYesD, DL.wipeD, DL.tDictD, DL.tDictOne, DL.keyOf, DL.emE_rr, DL.tLess, DL.tLessS, DL.itOk, DL.rAdd_ii, DL.rAdd_ss, DL.rAdd_tt, DL.rAdd_rr, DL.rSub_ii, DL.rMod_ii, DL.rDiv_ii, DL.rPow_ii, DL.rMul_ii, DL.rMul_ri, DL.rLt_ii, DL.rLt_ss, DL.rLe_ii, DL.rGt_ii, DL.rGe_ii, DL.rEq_ii, DL.rEq_ss, DL.rEq_bb, DL.rNe_ii, DL.rNe_ss, DL.rNe_bb, DL.rEq_rr, DL.rNe_rr, DL.rEq_tt, DL.rNe_tt, DL.rIn_st, DL.rNotIn_st, DL.rIn_r, DL.rNotIn_r, DL.rIn_ss, DL.rInDO_sl, DL.rInDO_il, DL.rInDO_sd, DL.rInDO_id, DL.rIsN_n, DL.rIsN_t, DL.rIsN_i, DL.rIsN_s, DL.rIsN_r, DL.rNotN_n, DL.rNotN_t, DL.rNotN_i, DL.rNotN_s, DL.rNotN_r, DL.rIx_t, DL.rIx_r, DL.rIx_s, DL.rIxDO_l, DL.rIxDO_ds, DL.rIx0, DL.rIx1, DL.rIx2, DL.rIx3, DL.rSl_t, DL.rSl_s, DL.rSl_o, DL.rSl_r, DL.rSlDO, DL.rSet_r, DL.rSetDO_0, DL.rSetDO_s, DL.rLen_t, DL.rLen_o, DL.rLen_s, DL.rLen_r, DL.rLenDO, DL.rLenDO_d, DL.rList_t, DL.rList_o, DL.rList_r, DL.rListDO, DL.rTuple_t, DL.rTuple_r, DL.rInt_i, DL.rInt_b, DL.rMax, DL.rMin, DL.rSz0, DL.rSz1, DL.rSz2, DL.rSz3, DL.rSz4, DL.rSz5, DL.rSz6, DL.rSz7, DL.rSz8, Option.some.injEq, DL.DO.lst.injEq, exists_eq_left', exists_eq_left, DL.put_same, DL.put_put, true_and, and_true, List.map, List.replicate, List.length, List.cons_append, List.nil_append, Nat.reduceSub, Nat.reduceAdd, decide_eq_true_eq, if_true, if_false, Bool.false_eq_true, Bool.not_true, Bool.not_false])
local macro_rules | `(tactic| walk_at "dlh") => `(tactic| try simp only [*, DL.tAsgD, DL.asg, DL.tVarD, DL.lk, DL.sto, DL.stos, DL.tOpD, DL.tCD, DL.tCallD, DL.tConsD, DL.tNilD, DL.tRetD, DL.endsD, DL.startD, DL.tIfSD, DL.tTestD, DL.tNextD, DL.tDropD, DL.tAndD, DL.tOrD, DL.tNotD, DL.tAndV, DL.tOrV, DL.tNotV, DL.tIfD, DL.tNegD, DL.tTupD, DL.tLstD, DL.tSetD, DL.tMD, DL.tSlD, DL.tPartD, DL.tNoD, DL.tRevD, DL.tForD, DL.tLcD, DL.tIterD, DL.tRng1D, DL.tRng2D, DL.tYesD, DL.wipeD, DL.tDictD, DL.tDictOne, DL.keyOf, DL.emE_rr, DL.tLess, DL.tLessS, DL.itOk, DL.rAdd_ii, DL.rAdd_ss, DL.rAdd_tt, DL.rAdd_rr, DL.rSub_ii, DL.rMod_ii, DL.rDiv_ii, DL.rPow_ii, DL.rMul_ii, DL.rMul_ri, DL.rLt_ii, DL.rLt_ss, DL.rLe_ii, DL.rGt_ii, DL.rGe_ii, DL.rEq_ii, DL.rEq_ss, DL.rEq_bb, DL.rNe_ii, DL.rNe_ss, DL.rNe_bb, DL.rEq_rr, DL.rNe_rr, DL.rEq_tt, DL.rNe_tt, DL.rIn_st, DL.rNotIn_st, DL.rIn_r, DL.rNotIn_r, DL.rIn_ss, DL.rInDO_sl, DL.rInDO_il, DL.rInDO_sd, DL.rInDO_id, DL.rIsN_n, DL.rIsN_t, DL.rIsN_i, DL.rIsN_s, DL.rIsN_r, DL.rNotN_n, DL.rNotN_t, DL.rNotN_i, DL.rNotN_s, DL.rNotN_r, DL.rIx_t, DL.rIx_r, DL.rIx_s, DL.rIxDO_l, DL.rIxDO_ds, DL.rIx0, DL.rIx1, DL.rIx2, DL.rIx3, DL.rSl_t, DL.rSl_s, DL.rSl_o, DL.rSl_r, DL.rSlDO, DL.rSet_r, DL.rSetDO_0, DL.rSetDO_s, DL.rLen_t, DL.rLen_o, DL.rLen_s, DL.rLen_r, DL.rLenDO, DL.rLenDO_d, DL.rList_t, DL.rList_o, DL.rList_r, DL.rListDO, DL.rTuple_t, DL.rTuple_r, DL.rInt_i, DL.rInt_b, DL.rMax, DL.rMin, DL.rSz0, DL.rSz1, DL.rSz2, DL.rSz3, DL.rSz4, DL.rSz5, DL.rSz6, DL.rSz7, DL.rSz8, Option.some.injEq, DL.DO.lst.injEq, exists_eq_left', exists_eq_left, DL.put_same, DL.put_put, true_and, and_true, List.map, List.replicate, List.length, List.cons_append, List.nil_append, Nat.reduceSub, Nat.reduceAdd, decide_eq_true_eq, if_true, if_false, Bool.false_eq_true, Bool.not_true, Bool.not_false])
local macro_rules | `(tactic| walk_at "go") => `(tactic| repeat (first | (refine DL.sq ?_; try walk_at "dl") | (refine DL.ifY rfl ?_; try walk_at "dl") | (refine DL.inY rfl (by decide) ?_; try walk_at "dl") | (refine DL.inN rfl (by decide) ?_; try walk_at "dl") | (refine DL.ifN (by decide) ?_; try walk_at "dl")))
abbrev s_unfolded_by : Stmt := top 5
theorem sc_unfolded_by : FnScope ["known", "form", "word", "x", "there", "part"] ["known", "form"] (defScope s_unfolded_by) := ⟨rfl, rfl, rfl, by decide +kernel, rfl, by decide +kernel, by decide +kernel⟩
abbrev s_unfolded : Stmt := top 6
theorem sc_unfolded : FnScope ["meanings", "form", "known", "kind", "x", "there"] ["meanings", "form"] (defScope s_unfolded) := ⟨rfl, rfl, rfl, by decide +kernel, rfl, by decide +kernel, by decide +kernel⟩
abbrev s_put_term_forms : Stmt := top 10
theorem sc_put_term_forms : FnScope ["term", "x", "name"] ["term", "x", "name"] (defScope s_put_term_forms) := ⟨rfl, rfl, rfl, by decide +kernel, rfl, by decide +kernel, by decide +kernel⟩
abbrev s_put_for : Stmt := top 12
theorem sc_put_for : FnScope ["form", "x", "name", "word"] ["form", "x", "name"] (defScope s_put_for) := ⟨rfl, rfl, rfl, by decide +kernel, rfl, by decide +kernel, by decide +kernel⟩
def KnOk (kvs : List (Key × D)) (f : Kn) : Prop := ∀ k, dval kvs (.inr k) = (f k).map fun p => D.tup [.str p.1, p.2.d]
def KnG (f : Kn) : Prop := ∀ k x g, f k = some (x, g) → g.ht ≤ 60 ∧ x ≠ "does" ∧ x ≠ "same" ∧ g.ok (fun _ => True) (fun _ => True) (fun d => d ≠ x)
theorem KnOk.nil : KnOk [] fun _ => none := fun k => rfl
theorem KnOk.step {kvs : List (Key × D)} {f : Kn} {m : Mn} (h : KnOk kvs f) : KnOk (dput kvs (.inr m.k) (.tup [.str m.x, (unf f m.g).d])) (kstep f m) := by
  intro k
  rw [dval_dput]
  unfold kstep
  by_cases e : k = m.k
  · subst e; simp
  · have e2 : ¬ (Sum.inr k : Key) = .inr m.k := fun z => e (Sum.inr.inj z)
    rw [if_neg e2, if_neg e]
    exact h k
def spUnf (n : Nat) : SpD := fun ds S Q => ∃ (a : Addr) (kvs : List (Key × D)) (f : Kn) (F : Fm), ds = [.ref a, F.d] ∧ S a = some (.dk kvs) ∧ KnOk kvs f ∧ KnG f ∧ F.ht ≤ n ∧ Q (unf f F).d S
def spUnfolded : SpD := fun ds S Q => ∃ (M : List Mn) (F : Fm), ds = [.tup (M.map Mn.d), F.d] ∧ (∀ M1 M2, M = M1 ++ M2 → KnG (knOf M1)) ∧ (∀ m ∈ M, m.g.ht ≤ 60) ∧ F.ht ≤ 60 ∧ M.length ≤ 100 ∧ Q (unf (knOf M) F).d S
def spPutT : SpD := fun ds S Q => ∃ s x t : Str, ds = [.str s, .str x, .str t] ∧ Q (.str (sb x t s)) S
def spPutF (n : Nat) : SpD := fun ds S Q => ∃ (F : Fm) (x t : Str), ds = [F.d, .str x, .str t] ∧ F.ht ≤ n ∧ Q (sub x t F).d S
abbrev cTwo : D := .tup [.str "and", .str "or", .str "if"]
section
variable {P : Program} {w : World} {K : PySem.W.Frag} {mg : Str → Option Value} {base : Heap}
theorem df_unfBy (T : Bt mg) (A : At K mg "unfolded_by" "unfolded_by" s_unfolded_by) (c_JOINED : Cst K mg "JOINED" cJoined) (c_BOUND : Cst K mg "BOUND" cBound) (Gp : Df P w K mg base "put_term_meanings" 61 (spPut 60)) (n : Nat) :
    Df P w K mg base "unfolded_by" (n + 62) (spUnf n) := by
  have nd := sc_unfolded_by.nd
  induction n with
  | zero =>
    refine df_mk A rfl sc_unfolded_by (fun _ _ _ _ _ _ us hl => match us, hl with | [_, _], _ => rfl) (fun ds S Q h => ?_) (fun f cdv A outer s H E hr ds S Q h => ?_)
    · obtain ⟨a, kvs, g, F, rfl, _⟩ := h
      rfl
    · obtain ⟨a, kvs, g, F, rfl, _, _, _, h, _⟩ := h
      have := F.ht_pos
      omega
  | succ n G_unfolded_by =>
  have G_put_term_meanings := Gp.mono (show 61 ≤ n + 62 by omega)
  refine df_mk A rfl sc_unfolded_by (fun _ _ _ _ _ _ us hl => match us, hl with | [_, _], _ => rfl) (fun ds S Q h => ?_) (fun f cdv A outer s H E hr ds S Q h => ?_)
  · obtain ⟨a, kvs, g, F, rfl, _⟩ := h
    rfl
  obtain ⟨a, kvs, g, F, rfl, ha, ho, hg, hn, h⟩ := h
  have hu := hu_of hr
  refine ⟨_, (dss_cons (ds_set (i := 2) nd rfl (Or.inl rfl) (de_ix hu (dv 1) de_int))
    (dss_cons (ds_if (dt_cmp (od_in hu) (dv 2) (de_cst rfl c_JOINED) rfl) (dss_one (ds_ret (de_op od_add (de_tup (da_cons (dv 2) da_nil)) (de_callTy cd_tuple rfl T.tuple_ (by decide +kernel) (da_cons (de_lc (own := [("part", 5)]) (g := GD.one 5) rfl nd (di_any (de_slice (dv 1) (do_some de_int) do_none)) (blkOk_by (own := [("part", 5)]) (N := ["known", "form", "word", "x", "there", "part"]) (sc := defScope s_unfolded_by) (by decide +kernel)) (fun _ _ _ _ _ => (dg_name (i := 5) nd rfl (Or.inl rfl))) (fun _ _ _ _ _ => dts_nil) (fun _ _ _ _ _ => (de_call G_unfolded_by hr rfl (da_cons (dv 0) (da_cons (dv 5) da_nil))))) da_nil))))) dss_nil)
    (dss_cons (ds_if (dt_cmp (od_in hu) (dv 2) (de_cst rfl c_BOUND) rfl) (dss_one (ds_ret (de_tup (da_cons (dv 2) (da_cons (de_ix hu (dv 1) de_int) (da_cons (de_call G_unfolded_by hr rfl (da_cons (dv 0) (da_cons (de_ix hu (dv 1) de_int) da_nil))) da_nil)))))) dss_nil)
    (dss_cons (ds_if (dt_w (dw_and (dt_cmp (od_eq hr.units) (dv 2) de_str (nomark _)) (dw_and1 (dt_cmp (od_in hu) (de_ix hu (dv 1) de_int) (dv 0) rfl)))) (dss_cons (ds_asg (de_ix hu (dv 0) (de_ix hu (dv 1) de_int)) (dg_tup rfl (dgs_cons (dg_name (i := 3) nd rfl (Or.inl rfl)) (dgs_cons (dg_name (i := 4) nd rfl (Or.inl rfl)) dgs_nil))))
    (dss_one (ds_ret (de_call G_put_term_meanings hr rfl (da_cons (dv 4) (da_cons (dv 3) (da_cons (de_ix hu (dv 1) de_int) da_nil))))))) dss_nil)
    (dss_one (ds_ret (dv 1))))))), ?_⟩
  cases F with
  | is t k =>
    simp only [Fm.d]
    walk_at "go"
    rw [ha]
    walk_at "dl"
    cases e : g k with
    | none =>
      have e2 := ho k
      rw [e] at e2
      rw [unf_is_none e] at h
      exact ifN (by rw [e2]; simp) ⟨_, Sub.refl, h⟩
    | some p =>
      have e2 := ho k
      rw [e] at e2
      refine ifY (by rw [e2]; rfl) ?_
      walk_at "go"
      rw [ha]
      walk_at "dl"
      refine ⟨_, e2, ?_⟩
      walk_at "dl"
      obtain ⟨g1, g2, g3, g4⟩ := hg k p.1 p.2 e
      rw [unf_is_some (x := p.1) (g := p.2) e] at h
      exact ⟨p.2, p.1, t, rfl, g1, g4, g2, g3, ⟨_, Sub.refl, h⟩⟩
  | neg F =>
    simp only [Fm.d]
    walk_at "go"
    intro p np
    have pa : a ≠ p := fun z => by rw [z, np] at ha; cases ha
    refine lcB_zip [F.d] [(unf g F).d] rfl (fun i acc => rfl) (szOk (by simp)) (fun i z r acc Y N e1 e2 y => ?_) ?_
    · rcases i with _ | i
      · cases e1; cases e2
        walk_at "dl"
        exact ⟨a, kvs, g, F, rfl, by rw [put_ne pa]; exact ha, ho, hg, by simpa [Fm.ht] using hn, y⟩
      · simp at e2
    · walk_at "dl"
      exact ⟨S, Sub.new np, h⟩
  | bin w F G =>
    have hn' : F.ht ≤ n ∧ G.ht ≤ n := by simp only [Fm.ht] at hn; omega
    have ew : w.s ∈ [("not" : Str), "and", "or", "if"] := by cases w <;> decide
    simp only [Fm.d]
    walk_at "go"
    refine inY rfl ew ?_
    walk_at "dl"
    intro p np
    have pa : a ≠ p := fun z => by rw [z, np] at ha; cases ha
    refine lcB_zip [F.d, G.d] [(unf g F).d, (unf g G).d] rfl (fun i acc => rfl) (szOk (by simp)) (fun i z r acc Y N e1 e2 y => ?_) ?_
    · rcases i with _ | _ | i
      · cases e1; cases e2
        walk_at "dl"
        exact ⟨a, kvs, g, F, rfl, by rw [put_ne pa]; exact ha, ho, hg, hn'.1, y⟩
      · cases e1; cases e2
        walk_at "dl"
        exact ⟨a, kvs, g, G, rfl, by rw [put_ne pa]; exact ha, ho, hg, hn'.2, y⟩
      · simp at e2
    · walk_at "dl"
      exact ⟨S, Sub.new np, h⟩
  | qu w y F =>
    have hn' : F.ht ≤ n := by simp only [Fm.ht] at hn; omega
    have ew : w.s ∉ [("not" : Str), "and", "or", "if"] := by cases w <;> decide
    have ew2 : w.s ∈ [("every" : Str), "some"] := by cases w <;> decide
    simp only [Fm.d]
    walk_at "go"
    refine inN rfl ew (sq ?_)
    walk_at "dl"
    refine inY rfl ew2 ?_
    walk_at "dl"
    exact ⟨a, kvs, g, F, rfl, ha, ho, hg, hn', by walk_at "dl"; exact ⟨_, Sub.refl, h⟩⟩
  | _ =>
    simp only [Fm.d]
    walk_at "go"
    exact ⟨_, Sub.refl, h⟩
theorem df_unfolded (T : Bt mg) (A : At K mg "unfolded" "unfolded" s_unfolded) (G_unfolded_by : Df P w K mg base "unfolded_by" 122 (spUnf 60)) : Df P w K mg base "unfolded" 123 spUnfolded := by
  have nd := sc_unfolded.nd
  refine df_mk A rfl sc_unfolded (fun _ _ _ _ _ _ us hl => match us, hl with | [_, _], _ => rfl) (fun ds S Q h => ?_) (fun f cdv A outer s H E hr ds S Q h => ?_)
  · obtain ⟨M, F, rfl, _⟩ := h
    rfl
  obtain ⟨M, F, rfl, hg, hm, hn, hl, h⟩ := h
  have hu := hu_of hr
  refine ⟨_, (dss_cons (ds_set (i := 2) nd rfl (Or.inl rfl) de_dict)
    (dss_cons (ds_for PassesOwn.never rfl (di_any (dv 0)) (dg_tup rfl (dgs_cons (dg_name (i := 3) nd rfl (Or.inl rfl)) (dgs_cons (dg_name (i := 4) nd rfl (Or.inl rfl)) (dgs_cons (dg_name (i := 5) nd rfl (Or.inl rfl)) dgs_nil)))) (dss_one (ds_setitem hu (dv 2) (dv 3) (de_tup (da_cons (dv 4) (da_cons (de_call G_unfolded_by hr rfl (da_cons (dv 2) (da_cons (dv 5) da_nil))) da_nil))))))
    (dss_one (ds_ret (de_call G_unfolded_by hr rfl (da_cons (dv 2) (da_cons (dv 1) da_nil))))))), ?_⟩
  walk_at "go"
  intro p np
  refine sq ?_
  walk_at "dl"
  refine forB_seq (M.map Mn.d) (fun i δ S' => ∃ kvs o3 o4 o5, δ = [some (.tup (M.map Mn.d)), some F.d, some (.ref p), o3, o4, o5] ∧ S' = put S p (.dk kvs) ∧ kvs.length ≤ i ∧ KnOk kvs (knOf (M.take i))) ?_ ?_ ?_ ?_
  · exact ⟨[], none, none, none, rfl, rfl, Nat.le_refl _, KnOk.nil⟩
  · intro i δ S' _ _
    rfl
  · rintro i d δ S' hd ⟨kvs, o3, o4, o5, rfl, rfl, hk, ho⟩
    rw [List.getElem?_map] at hd
    cases e : M[i]? with
    | none => rw [e] at hd; cases hd
    | some m =>
      rw [e] at hd
      cases hd
      have hi : i < M.length := by
        rcases Nat.lt_or_ge i M.length with z | z
        · exact z
        · rw [List.getElem?_eq_none z] at e; cases e
      have em : M.take (i + 1) = M.take i ++ [m] := by
        rw [List.getElem?_eq_getElem hi] at e
        cases e
        exact (List.take_append_getElem hi).symm
      simp only [Mn.d]
      walk_at "dl"
      refine ⟨p, kvs, knOf (M.take i), m.g, rfl, put_same, ho, hg _ _ (List.take_append_drop i M).symm, hm m (List.mem_of_getElem? e), ?_⟩
      walk_at "dl"
      refine ⟨szLt (by omega), ?_⟩
      refine ⟨_, _, _, _, rfl, rfl, Nat.le_trans length_dput (by omega), ?_⟩
      rw [em, knOf_snoc]
      exact ho.step
  · rintro δ S' ⟨kvs, o3, o4, o5, rfl, rfl, hk, ho⟩
    rw [List.length_map, List.take_length] at ho
    walk_at "dl"
    exact ⟨p, kvs, knOf M, F, rfl, put_same, ho, hg M [] (List.append_nil _).symm, hn, S, Sub.new np, h⟩
theorem df_putT {k : Nat} (T : Bt mg) (A : At K mg "put_term_forms" "put_term" s_put_term_forms) : Df P w K mg base "put_term_forms" (k + 1) spPutT := by
  have nd := sc_put_term_forms.nd
  refine df_mk A rfl sc_put_term_forms (fun _ _ _ _ _ _ us hl => match us, hl with | [_, _, _], _ => rfl) (fun ds S Q h => ?_) (fun f cdv A outer s H E hr ds S Q h => ?_)
  · obtain ⟨s, x, t, rfl, _⟩ := h
    rfl
  obtain ⟨s, x, t, rfl, h⟩ := h
  have hu := hu_of hr
  refine ⟨_, (dss_cons (ds_if (dt_cmp (od_eq hr.units) (dv 0) (dv 1) (nomark _)) (dss_one (ds_ret (dv 2))) dss_nil)
    (dss_one (ds_ret (dv 0)))), ?_⟩
  walk_at "go"
  unfold sb at h
  refine ite2 (fun c => ?_) (fun c => ?_)
  · rw [if_pos c] at h
    exact ⟨_, Sub.refl, h⟩
  · rw [if_neg c] at h
    exact ⟨_, Sub.refl, h⟩
theorem df_putF (T : Bt mg) (A : At K mg "put_for" "put_for" s_put_for) (c_TWO_FORMS : Cst K mg "TWO_FORMS" cTwo) (c_BINDERS : Cst K mg "BINDERS" cBound) (Gt : Df P w K mg base "put_term_forms" 1 spPutT) (n : Nat) :
    Df P w K mg base "put_for" (n + 2) (spPutF n) := by
  have nd := sc_put_for.nd
  induction n with
  | zero =>
    refine df_mk A rfl sc_put_for (fun _ _ _ _ _ _ us hl => match us, hl with | [_, _, _], _ => rfl) (fun ds S Q h => ?_) (fun f cdv A outer s H E hr ds S Q h => ?_)
    · obtain ⟨F, x, t, rfl, _⟩ := h
      rfl
    · obtain ⟨F, x, t, rfl, h, _⟩ := h
      have := F.ht_pos
      omega
  | succ n G_put_for =>
  have G_put_term_forms := Gt.mono (show 1 ≤ n + 2 by omega)
  refine df_mk A rfl sc_put_for (fun _ _ _ _ _ _ us hl => match us, hl with | [_, _, _], _ => rfl) (fun ds S Q h => ?_) (fun f cdv A outer s H E hr ds S Q h => ?_)
  · obtain ⟨F, x, t, rfl, _⟩ := h
    rfl
  obtain ⟨F, x, t, rfl, hn, h⟩ := h
  have hu := hu_of hr
  refine ⟨_, (dss_cons (ds_set (i := 3) nd rfl (Or.inl rfl) (de_ix hu (dv 0) de_int))
    (dss_cons (ds_if (dt_cmp (od_eq hr.units) (dv 3) de_str (nomark _)) (dss_one (ds_ret (de_tup (da_cons (dv 3) (da_cons (de_call G_put_term_forms hr rfl (da_cons (de_ix hu (dv 0) de_int) (da_cons (dv 1) (da_cons (dv 2) da_nil)))) (da_cons (de_ix hu (dv 0) de_int) da_nil)))))) dss_nil)
    (dss_cons (ds_if (dt_cmp (od_eq hr.units) (dv 3) de_str (nomark _)) (dss_one (ds_ret (de_tup (da_cons (dv 3) (da_cons (de_ix hu (dv 0) de_int) (da_cons (de_call G_put_term_forms hr rfl (da_cons (de_ix hu (dv 0) de_int) (da_cons (dv 1) (da_cons (dv 2) da_nil)))) (da_cons (de_call G_put_term_forms hr rfl (da_cons (de_ix hu (dv 0) de_int) (da_cons (dv 1) (da_cons (dv 2) da_nil)))) da_nil))))))) dss_nil)
    (dss_cons (ds_if (dt_cmp (od_eq hr.units) (dv 3) de_str (nomark _)) (dss_one (ds_ret (de_tup (da_cons (dv 3) (da_cons (de_call G_put_term_forms hr rfl (da_cons (de_ix hu (dv 0) de_int) (da_cons (dv 1) (da_cons (dv 2) da_nil)))) (da_cons (de_call G_put_term_forms hr rfl (da_cons (de_ix hu (dv 0) de_int) (da_cons (dv 1) (da_cons (dv 2) da_nil)))) da_nil)))))) dss_nil)
    (dss_cons (ds_if (dt_cmp (od_eq hr.units) (dv 3) de_str (nomark _)) (dss_one (ds_ret (de_tup (da_cons (dv 3) (da_cons (de_call G_put_for hr rfl (da_cons (de_ix hu (dv 0) de_int) (da_cons (dv 1) (da_cons (dv 2) da_nil)))) da_nil))))) dss_nil)
    (dss_cons (ds_if (dt_cmp (od_in hu) (dv 3) (de_cst rfl c_TWO_FORMS) rfl) (dss_one (ds_ret (de_tup (da_cons (dv 3) (da_cons (de_call G_put_for hr rfl (da_cons (de_ix hu (dv 0) de_int) (da_cons (dv 1) (da_cons (dv 2) da_nil)))) (da_cons (de_call G_put_for hr rfl (da_cons (de_ix hu (dv 0) de_int) (da_cons (dv 1) (da_cons (dv 2) da_nil)))) da_nil)))))) dss_nil)
    (dss_cons (ds_if (dt_w (dw_and (dt_cmp (od_in hu) (dv 3) (de_cst rfl c_BINDERS) rfl) (dw_and1 (dt_cmp (od_ne hr.units) (de_ix hu (dv 0) de_int) (dv 1) (nomark _))))) (dss_one (ds_ret (de_tup (da_cons (dv 3) (da_cons (de_ix hu (dv 0) de_int) (da_cons (de_call G_put_for hr rfl (da_cons (de_ix hu (dv 0) de_int) (da_cons (dv 1) (da_cons (dv 2) da_nil)))) da_nil)))))) dss_nil)
    (dss_one (ds_ret (dv 0)))))))))), ?_⟩
  cases F with
  | is a k =>
    simp only [Fm.d]
    walk_at "go"
    exact ⟨a, x, t, rfl, by walk_at "dl"; exact ⟨_, Sub.refl, h⟩⟩
  | does d a b =>
    simp only [Fm.d]
    walk_at "go"
    refine ⟨a, x, t, rfl, ?_⟩
    walk_at "dl"
    refine ⟨b, x, t, rfl, ?_⟩
    walk_at "dl"
    exact ⟨_, Sub.refl, h⟩
  | same a b =>
    simp only [Fm.d]
    walk_at "go"
    refine ⟨a, x, t, rfl, ?_⟩
    walk_at "dl"
    refine ⟨b, x, t, rfl, ?_⟩
    walk_at "dl"
    exact ⟨_, Sub.refl, h⟩
  | neg F =>
    simp only [Fm.d]
    walk_at "go"
    refine ⟨F, x, t, rfl, by simpa [Fm.ht] using hn, ?_⟩
    walk_at "dl"
    exact ⟨_, Sub.refl, h⟩
  | bin w F G =>
    have hn' : F.ht ≤ n ∧ G.ht ≤ n := by simp only [Fm.ht] at hn; omega
    simp only [Fm.d]
    have ew : w.s ∈ [("and" : Str), "or", "if"] := by cases w <;> decide
    have e1 : w.s ≠ "is" := by cases w <;> decide
    have e2 : w.s ≠ "does" := by cases w <;> decide
    have e3 : w.s ≠ "same" := by cases w <;> decide
    have e4 : w.s ≠ "not" := by cases w <;> decide
    walk_at "go"
    refine ifN e1 (sq ?_)
    walk_at "dl"
    refine ifN e2 (sq ?_)
    walk_at "dl"
    refine ifN e3 (sq ?_)
    walk_at "dl"
    refine ifN e4 (sq ?_)
    walk_at "dl"
    refine inY rfl ew ?_
    walk_at "dl"
    refine ⟨F, x, t, rfl, hn'.1, ?_⟩
    walk_at "dl"
    refine ⟨G, x, t, rfl, hn'.2, ?_⟩
    walk_at "dl"
    exact ⟨_, Sub.refl, h⟩
  | qu w y F =>
    have hn' : F.ht ≤ n := by simp only [Fm.ht] at hn; omega
    simp only [Fm.d]
    have ew : w.s ∉ [("and" : Str), "or", "if"] := by cases w <;> decide
    have ew2 : w.s ∈ [("every" : Str), "some"] := by cases w <;> decide
    have e1 : w.s ≠ "is" := by cases w <;> decide
    have e2 : w.s ≠ "does" := by cases w <;> decide
    have e3 : w.s ≠ "same" := by cases w <;> decide
    have e4 : w.s ≠ "not" := by cases w <;> decide
    walk_at "go"
    refine ifN e1 (sq ?_)
    walk_at "dl"
    refine ifN e2 (sq ?_)
    walk_at "dl"
    refine ifN e3 (sq ?_)
    walk_at "dl"
    refine ifN e4 (sq ?_)
    walk_at "dl"
    refine inN rfl ew (sq ?_)
    walk_at "dl"
    refine inY rfl ew2 ?_
    walk_at "dl"
    unfold sub at h
    by_cases c : y = x
    · rw [if_pos c] at h
      refine ifN (by simp [c]) ?_
      exact ⟨_, Sub.refl, h⟩
    · rw [if_neg c] at h
      refine ifY (by simp [c]) ?_
      walk_at "dl"
      refine ⟨F, x, t, rfl, hn', ?_⟩
      walk_at "dl"
      exact ⟨_, Sub.refl, h⟩
end
end K72

set_option Elab.async false
set_option maxRecDepth 100000
set_option linter.unusedVariables false
namespace K72
open PySem PySem.Spec PyProof.Rows L2 DL
local macro_rules | `(tactic| walk_at "dl") => `(tactic| try simp only [DL.tAsgD, DL.asg, DL.tVarD, DL.lk, DL.sto, DL.stos, DL.tOpD, DL.tCD, DL.tCallD, DL.tConsD, DL.tNilD, DL.tRetD, DL.endsD, DL.startD, DL.tIfSD, DL.tTestD, DL.tNextD, DL.tDropD, DL.tAndD, DL.tOrD, DL.tNotD, DL.tAndV, DL.tOrV, DL.tNotV, DL.tIfD, DL.tNegD, DL.tTupD, DL.tLstD, DL.tSetD, DL.tMD, DL.tSlD, DL.tPartD, DL.tNoD, DL.tRevD, DL.tForD, DL.tLcD, DL.tIterD, DL.tRng1D, DL.tRng2D, DL.tYesD, DL.wipeD, DL.tDictD, DL.tDictOne, DL.keyOf, DL.emE_rr, DL.tLess, DL.tLessS, DL.itOk, DL.rAdd_ii, DL.rAdd_ss, DL.rAdd_tt, DL.rAdd_rr, DL.rSub_ii, DL.rMod_ii, DL.rDiv_ii, DL.rPow_ii, DL.rMul_ii, DL.rMul_ri, DL.rLt_ii, DL.rLt_ss, DL.rLe_ii, DL.rGt_ii, DL.rGe_ii, DL.rEq_ii, DL.rEq_ss, DL.rEq_bb, DL.rNe_ii, DL.rNe_ss, DL.rNe_bb, DL.rEq_rr, DL.rNe_rr, DL.rEq_tt, DL.rNe_tt, DL.rIn_st, DL.rNotIn_st, DL.rIn_r, DL.rNotIn_r, DL.rIn_ss, DL.rInDO_sl, DL.rInDO_il, DL.rInDO_sd, DL.rInDO_id, DL.rIsN_n, DL.rIsN_t, DL.rIsN_i, DL.rIsN_s, DL.rIsN_r, DL.rNotN_n, DL.rNotN_t, DL.rNotN_i, DL.rNotN_s, DL.rNotN_r, DL.rIx_t, DL.rIx_r, DL.rIx_s, DL.rIxDO_l, DL.rIxDO_ds, DL.rIx0, DL.rIx1, DL.rIx2, DL.rIx3, DL.rSl_t, DL.rSl_s, DL.rSl_o, DL.rSl_r, DL.rSlDO, DL.rSet_r, DL.rSetDO_0, DL.rSetDO_s, DL.rLen_t, DL.rLen_o, DL.rLen_s, DL.rLen_r, DL.rLenDO, DL.rLenDO_d, DL.rList_t, DL.rList_o, DL.rList_r, DL.rListDO, DL.rTuple_t, DL.rTuple_r, DL.rInt_i, DL.rInt_b, DL.rMax, DL.rMin, DL.rSz0, DL.rSz1, DL.rSz2, DL.rSz3, DL.rSz4, DL.rSz5, DL.rSz6, DL.rSz7, DL.rSz8, Option.some.injEq, DL.DO.lst.injEq, exists_eq_left', exists_eq_left, DL.put_same, DL.put_put, true_and, and_true, List.map, List.replicate, List.length, List.cons_append, List.nil_append, Nat.reduceSub, Nat.reduceAdd, decide_eq_true_eq, if_true, if_false, Bool.false_eq_true, Bool.not_true, Bool.not_false])
local macro_rules | `(tactic| walk_at "dlh") => `(tactic| try simp only [*, DL.tAsgD, DL.asg, DL.tVarD, DL.lk, DL.sto, DL.stos, DL.tOpD, DL.tCD, DL.tCallD, DL.tConsD, DL.tNilD, DL.tRetD, DL.endsD, DL.startD, DL.tIfSD, DL.tTestD, DL.tNextD, DL.tDropD, DL.tAndD, DL.tOrD, DL.tNotD, DL.tAndV, DL.tOrV, DL.tNotV, DL.tIfD, DL.tNegD, DL.tTupD, DL.tLstD, DL.tSetD, DL.tMD, DL.tSlD, DL.tPartD, DL.tNoD, DL.tRevD, DL.tForD, DL.tLcD, DL.tIterD, DL.tRng1D, DL.tRng2D, DL.tYesD, DL.wipeD, DL.tDictD, DL.tDictOne, DL.keyOf, DL.emE_rr, DL.tLess, DL.tLessS, DL.itOk, DL.rAdd_ii, DL.rAdd_ss, DL.rAdd_tt, DL.rAdd_rr, DL.rSub_ii, DL.rMod_ii, DL.rDiv_ii, DL.rPow_ii, DL.rMul_ii, DL.rMul_ri, DL.rLt_ii, DL.rLt_ss, DL.rLe_ii, DL.rGt_ii, DL.rGe_ii, DL.rEq_ii, DL.rEq_ss, DL.rEq_bb, DL.rNe_ii, DL.rNe_ss, DL.rNe_bb, DL.rEq_rr, DL.rNe_rr, DL.rEq_tt, DL.rNe_tt, DL.rIn_st, DL.rNotIn_st, DL.rIn_r, DL.rNotIn_r, DL.rIn_ss, DL.rInDO_sl, DL.rInDO_il, DL.rInDO_sd, DL.rInDO_id, DL.rIsN_n, DL.rIsN_t, DL.rIsN_i, DL.rIsN_s, DL.rIsN_r, DL.rNotN_n, DL.rNotN_t, DL.rNotN_i, DL.rNotN_s, DL.rNotN_r, DL.rIx_t, DL.rIx_r, DL.rIx_s, DL.rIxDO_l, DL.rIxDO_ds, DL.rIx0, DL.rIx1, DL.rIx2, DL.rIx3, DL.rSl_t, DL.rSl_s, DL.rSl_o, DL.rSl_r, DL.rSlDO, DL.rSet_r, DL.rSetDO_0, DL.rSetDO_s, DL.rLen_t, DL.rLen_o, DL.rLen_s, DL.rLen_r, DL.rLenDO, DL.rLenDO_d, DL.rList_t, DL.rList_o, DL.rList_r, DL.rListDO, DL.rTuple_t, DL.rTuple_r, DL.rInt_i, DL.rInt_b, DL.rMax, DL.rMin, DL.rSz0, DL.rSz1, DL.rSz2, DL.rSz3, DL.rSz4, DL.rSz5, DL.rSz6, DL.rSz7, DL.rSz8, Option.some.injEq, DL.DO.lst.injEq, exists_eq_left', exists_eq_left, DL.put_same, DL.put_put, true_and, and_true, List.map, List.replicate, List.length, List.cons_append, List.nil_append, Nat.reduceSub, Nat.reduceAdd, decide_eq_true_eq, if_true, if_false, Bool.false_eq_true, Bool.not_true, Bool.not_false])
local macro_rules | `(tactic| walk_at "go") => `(tactic| repeat (first | (refine DL.sq ?_; try walk_at "dl") | (refine DL.ifY rfl ?_; try walk_at "dl") | (refine DL.inY rfl (by decide) ?_; try walk_at "dl") | (refine DL.inN rfl (by decide) ?_; try walk_at "dl") | (refine DL.ifN (by decide) ?_; try walk_at "dl")))
abbrev s_l_due : Stmt := top 27
theorem sc_l_due : FnScope ["_law_meanings_here", "_law_form_here", "_law_put", "_law_word_here", "_law_inner", "_law_term", "_law_kind", "_law_x", "_law_there", "_law_part"] ["_law_meanings_here", "_law_form_here", "_law_put"] (defScope s_l_due) := ⟨rfl, rfl, rfl, by decide +kernel, rfl, by decide +kernel, by decide +kernel⟩
def hs (M : List Mn) : Nat := (M.map fun m => m.g.ht).sum
def okv : Option (Str × Str) → List (Key × D)
  | none => []
  | some (x, t) => [(.inr x, .str t)]
def subO : Option (Str × Str) → Fm → Fm
  | none, F => F
  | some (x, t), F => sub x t F
def sbO : Option (Str × Str) → Str → Str
  | none, s => s
  | some (x, t), s => sb x t s
theorem okv_get {o : Option (Str × Str)} {s : Str} : (dval (okv o) (.inr s)).getD (.str s) = .str (sbO o s) := by
  cases o with
  | none => rfl
  | some p =>
    obtain ⟨x, t⟩ := p
    show (dval [(.inr x, D.str t)] (.inr s)).getD (.str s) = .str (sb x t s)
    rw [dval_cons]
    unfold sb
    by_cases e : x = s
    · subst e; simp
    · have e2 : ¬ s = x := fun z => e z.symm
      have e3 : ¬ (Sum.inr x : Key) = .inr s := fun z => e (Sum.inr.inj z)
      rw [if_neg e2, if_neg e3, dval_nil]; rfl
def popO (o : Option (Str × Str)) (y : Str) : Option (Str × Str) := match o with
  | none => none
  | some (x, t) => if x = y then none else some (x, t)
theorem okv_pop {o : Option (Str × Str)} {y : Str} : ddrop (okv o) (.inr y) = okv (popO o y) := by
  cases o with
  | none => rfl
  | some p =>
    obtain ⟨x, t⟩ := p
    unfold popO ddrop okv
    by_cases e : x = y
    · subst e; simp
    · have e3 : ¬ (Sum.inr x : Key) = .inr y := fun z => e (Sum.inr.inj z)
      simp [e]
theorem subO_qu {o : Option (Str × Str)} {w : Q2} {y : Str} {F : Fm} : subO o (.qu w y F) = .qu w y (subO (popO o y) F) := by
  cases o with
  | none => rfl
  | some p =>
    obtain ⟨x, t⟩ := p
    unfold popO
    by_cases e : x = y
    · subst e
      show sub x t (.qu w x F) = _
      rw [sub_qu_eq]
      simp only [if_true]
      rfl
    · show sub x t (.qu w y F) = _
      rw [sub_qu_ne fun z => e z.symm]
      simp only [if_neg e]
      rfl
section
def NocO (M : List Mn) (M1 : List Mn) (o : Option (Str × Str)) : Prop := ∀ x t, o = some (x, t) → ∀ k y g, keys M1 k → knOf M k = some (y, g) → Noc x g
theorem NocO.pop {M M1 : List Mn} {o : Option (Str × Str)} {y : Str} (h : NocO M M1 o) : NocO M M1 (popO o y) := by
  intro x t e
  cases o with
  | none => cases e
  | some p =>
    obtain ⟨x', t'⟩ := p
    unfold popO at e
    simp only at e
    split at e
    · cases e
    · exact h x t e
def spDue (n : Nat) : SpD := fun ds S Q => ∃ (B W : Str → Prop) (a : Addr) (M1 M2 : List Mn) (F : Fm) (o : Option (Str × Str)), ds = [.tup ((M1 ++ M2).map Mn.d), F.d, .ref a] ∧ S a = some (.dk (okv o)) ∧ MOk B W (M1 ++ M2) ∧
  F.ok (fun _ => True) (fun k => B k ∨ keys M1 k) (fun _ => True) ∧ F.ht + hs M1 ≤ n ∧ NocO (M1 ++ M2) M1 o ∧ Q (subO o (unf (knOf (M1 ++ M2)) F)).d S
variable {P : Program} {w : World} {K : PySem.W.Frag} {mg : Str → Option Value} {base : Heap}
theorem df_due (T : Bt mg) (A : At K mg "_law_due" "_law_due" s_l_due) (n : Nat) : Df P w K mg base "_law_due" (n + 1) (spDue n) := by
  have nd := sc_l_due.nd
  induction n with
  | zero =>
    refine df_mk A rfl sc_l_due (fun _ _ _ _ _ _ us hl => match us, hl with | [_, _, _], _ => rfl) (fun ds S Q h => ?_) (fun f cdv A outer s H E hr ds S Q h => ?_)
    · obtain ⟨B, W, a, M1, M2, F, o, rfl, _⟩ := h
      rfl
    · obtain ⟨B, W, a, M1, M2, F, o, rfl, _, _, _, h, _⟩ := h
      have := F.ht_pos
      omega
  | succ n G_l_due =>
  refine df_mk A rfl sc_l_due (fun _ _ _ _ _ _ us hl => match us, hl with | [_, _, _], _ => rfl) (fun ds S Q h => ?_) (fun f cdv A outer s H E hr ds S Q h => ?_)
  · obtain ⟨B, W, a, M1, M2, F, o, rfl, _⟩ := h
    rfl
  obtain ⟨B, W, a, M1, M2, F, o, rfl, ha, hM, hF, hn, hno, h⟩ := h
  have hu := hu_of hr
  refine ⟨_, (dss_cons (ds_set (i := 3) nd rfl (Or.inl rfl) (de_ix hu (dv 1) de_int))
    (dss_cons (ds_if (dt_w (dw_or (dt_cmp (od_eq hr.units) (dv 3) de_str (nomark _)) (dw_or1 (dt_cmp (od_eq hr.units) (dv 3) de_str (nomark _))))) (dss_cons (ds_set (i := 4) nd rfl (Or.inl rfl) (de_callTy cd_dict rfl T.dict_ (by decide +kernel) (da_cons (dv 2) da_nil)))
    (dss_cons (ds_expr (de_m PySem.F.plainAttrs_dict PySem.F.slot_dict_pop PySem.F.type_dict_pop md_dpop (dv 4) (da_cons (de_ix hu (dv 1) de_int) (da_cons de_non da_nil))))
    (dss_one (ds_ret (de_tup (da_cons (dv 3) (da_cons (de_ix hu (dv 1) de_int) (da_cons (de_call G_l_due hr rfl (da_cons (dv 0) (da_cons (de_ix hu (dv 1) de_int) (da_cons (dv 4) da_nil)))) da_nil)))))))) dss_nil)
    (dss_cons (ds_if (dt_cmp (od_eq hr.units) (dv 3) de_str (nomark _)) (dss_one (ds_ret (de_op od_add (de_slice (dv 1) do_none (do_some de_int)) (de_callTy cd_tuple rfl T.tuple_ (by decide +kernel) (da_cons (de_lc (own := [("_law_term", 5)]) (g := GD.one 5) rfl nd (di_any (de_slice (dv 1) (do_some de_int) do_none)) (blkOk_by (own := [("_law_term", 5)]) (N := ["_law_meanings_here", "_law_form_here", "_law_put", "_law_word_here", "_law_inner", "_law_term", "_law_kind", "_law_x", "_law_there", "_law_part"]) (sc := defScope s_l_due) (by decide +kernel)) (fun _ _ _ _ _ => (dg_name (i := 5) nd rfl (Or.inl rfl))) (fun _ _ _ _ _ => dts_nil) (fun _ _ _ _ _ => (de_m PySem.F.plainAttrs_dict PySem.F.slot_dict_get PySem.F.type_dict_get (md_get hu) (dv 2) (da_cons (dv 5) (da_cons (dv 5) da_nil))))) da_nil))))) dss_nil)
    (dss_cons (ds_if (dt_cmp (od_eq hr.units) (dv 3) de_str (nomark _)) (dss_one (ds_ret (de_op od_add (de_tup (da_cons de_str da_nil)) (de_callTy cd_tuple rfl T.tuple_ (by decide +kernel) (da_cons (de_lc (own := [("_law_term", 5)]) (g := GD.one 5) rfl nd (di_any (de_slice (dv 1) (do_some de_int) do_none)) (blkOk_by (own := [("_law_term", 5)]) (N := ["_law_meanings_here", "_law_form_here", "_law_put", "_law_word_here", "_law_inner", "_law_term", "_law_kind", "_law_x", "_law_there", "_law_part"]) (sc := defScope s_l_due) (by decide +kernel)) (fun _ _ _ _ _ => (dg_name (i := 5) nd rfl (Or.inl rfl))) (fun _ _ _ _ _ => dts_nil) (fun _ _ _ _ _ => (de_m PySem.F.plainAttrs_dict PySem.F.slot_dict_get PySem.F.type_dict_get (md_get hu) (dv 2) (da_cons (dv 5) (da_cons (dv 5) da_nil))))) da_nil))))) dss_nil)
    (dss_cons (ds_if (dt_cmp (od_eq hr.units) (dv 3) de_str (nomark _)) (dss_cons (ds_set (i := 5) nd rfl (Or.inl rfl) (de_m PySem.F.plainAttrs_dict PySem.F.slot_dict_get PySem.F.type_dict_get (md_get hu) (dv 2) (da_cons (de_ix hu (dv 1) de_int) (da_cons (de_ix hu (dv 1) de_int) da_nil))))
    (dss_cons (ds_for PassesOwn.never rfl (di_any (dv 0)) (dg_tup rfl (dgs_cons (dg_name (i := 6) nd rfl (Or.inl rfl)) (dgs_cons (dg_name (i := 7) nd rfl (Or.inl rfl)) (dgs_cons (dg_name (i := 8) nd rfl (Or.inl rfl)) dgs_nil)))) (dss_one (ds_if (dt_cmp (od_eq hr.units) (dv 6) (de_ix hu (dv 1) de_int) (nomark _)) (dss_one (ds_ret (de_call G_l_due hr rfl (da_cons (dv 0) (da_cons (dv 8) (da_cons (de_dict1 (dv 7) (dv 5)) da_nil)))))) dss_nil)))
    (dss_one (ds_ret (de_tup (da_cons de_str (da_cons (dv 5) (da_cons (de_ix hu (dv 1) de_int) da_nil)))))))) dss_nil)
    (dss_one (ds_ret (de_op od_add (de_tup (da_cons (dv 3) da_nil)) (de_callTy cd_tuple rfl T.tuple_ (by decide +kernel) (da_cons (de_lc (own := [("_law_part", 9)]) (g := GD.one 9) rfl nd (di_any (de_slice (dv 1) (do_some de_int) do_none)) (blkOk_by (own := [("_law_part", 9)]) (N := ["_law_meanings_here", "_law_form_here", "_law_put", "_law_word_here", "_law_inner", "_law_term", "_law_kind", "_law_x", "_law_there", "_law_part"]) (sc := defScope s_l_due) (by decide +kernel)) (fun _ _ _ _ _ => (dg_name (i := 9) nd rfl (Or.inl rfl))) (fun _ _ _ _ _ => dts_nil) (fun _ _ _ _ _ => (de_call G_l_due hr rfl (da_cons (dv 0) (da_cons (dv 9) (da_cons (dv 2) da_nil)))))) da_nil)))))))))), ?_⟩
  cases F with
  | is t k =>
    simp only [Fm.d]
    walk_at "go"
    refine ⟨ty_dict ha, _, _, ha, rfl, ?_⟩
    rw [okv_get]
    walk_at "go"
    by_cases hk : keys M1 k
    · obtain ⟨N1, m, N2, rfl, rfl, hno1⟩ := keys_split hk
      have eM : (N1 ++ m :: N2) ++ M2 = N1 ++ m :: (N2 ++ M2) := by simp
      have hM' := hM
      rw [eM] at hM'
      obtain ⟨mx, _, mg', mk⟩ := hM'.at
      refine forB_seq (((N1 ++ m :: N2) ++ M2).map Mn.d) (fun i δ S' => i ≤ N1.length ∧ S' = S ∧ ∃ o6 o7 o8, δ = [some (.tup (((N1 ++ m :: N2) ++ M2).map Mn.d)), some (.tup [.str "is", .str t, .str m.k]), some (.ref a), some (.str "is"), none, some (.str (sbO o t)), o6, o7, o8, none]) ?_ ?_ ?_ ?_
      · exact ⟨Nat.zero_le _, rfl, none, none, none, rfl⟩
      · intro i δ S' _ _
        rfl
      · rintro i d δ S' hd ⟨hi, rfl, o6, o7, o8, rfl⟩
        rw [List.getElem?_map] at hd
        by_cases hi2 : i < N1.length
        · have e1 : ((N1 ++ m :: N2) ++ M2)[i]? = some N1[i] := by rw [List.append_assoc, List.getElem?_append_left hi2, List.getElem?_eq_getElem hi2]
          rw [e1] at hd
          cases hd
          simp only [Mn.d]
          walk_at "dl"
          refine ifN (fun z => hno1 ⟨_, List.getElem_mem hi2, z⟩) ?_
          exact ⟨hi2, _, _, _, rfl⟩
        · have e0 : i = N1.length := Nat.le_antisymm hi (Nat.le_of_not_lt hi2)
          subst e0
          have e1 : ((N1 ++ m :: N2) ++ M2)[N1.length]? = some m := by rw [eM, List.getElem?_append_right (Nat.le_refl _), Nat.sub_self]; rfl
          rw [e1] at hd
          cases hd
          simp only [Mn.d]
          walk_at "dl"
          intro p np
          have hs1 : m.g.ht + hs N1 ≤ n := by
            have e2 : hs (N1 ++ m :: N2) = hs N1 + (m.g.ht + hs N2) := by unfold hs; simp
            simp only [Fm.ht] at hn
            omega
          refine ⟨B, W, p, N1, m :: (N2 ++ M2), m.g, some (m.x, sbO o t), by rw [eM], put_same, hM', mg'.imp (fun _ _ => trivial) (fun _ z => z) (fun _ _ => trivial), hs1, ?_, ?_⟩
          · rintro x t' e k' y g' hk' eg
            cases e
            have hN1 : MOk B W N1 := hM'.prefix
            rw [knOf_app (N := m :: (N2 ++ M2)) hM' k' (.inl hk')] at eg
            exact (hN1.noc (mkS_notTm mx (Nat.le_refl _))) _ _ _ eg
          · refine ⟨S', Sub.new np, ?_⟩
            rw [← eM] at mk
            rw [unf_is_some mk] at h
            rw [← eM]
            cases o with
            | none => exact h
            | some xt =>
              obtain ⟨x, t'⟩ := xt
              have e3 : subO (some (x, t')) (sub m.x t (unf (knOf ((N1 ++ m :: N2) ++ M2)) m.g)) = sub m.x (sb x t' t) (unf (knOf ((N1 ++ m :: N2) ++ M2)) m.g) := sub_sub (hno x t' rfl m.k _ _ ⟨m, by simp, rfl⟩ mk)
              rw [e3] at h
              exact h
      · rintro δ S' ⟨hi, _⟩
        simp at hi
        omega
    · have hB : B k := hF.2.resolve_right hk
      have hkM := hM.base hB
      refine forB_seq ((M1 ++ M2).map Mn.d) (fun i δ S' => S' = S ∧ ∃ o6 o7 o8, δ = [some (.tup ((M1 ++ M2).map Mn.d)), some (.tup [.str "is", .str t, .str k]), some (.ref a), some (.str "is"), none, some (.str (sbO o t)), o6, o7, o8, none]) ?_ ?_ ?_ ?_
      · exact ⟨rfl, none, none, none, rfl⟩
      · intro i δ S' _ _
        rfl
      · rintro i d δ S' hd ⟨rfl, o6, o7, o8, rfl⟩
        rw [List.getElem?_map] at hd
        cases e1 : (M1 ++ M2)[i]? with
        | none => rw [e1] at hd; cases hd
        | some m =>
          rw [e1] at hd
          cases hd
          simp only [Mn.d]
          walk_at "dl"
          refine ifN (fun z => hkM ⟨m, List.mem_of_getElem? e1, z⟩) ?_
          exact ⟨_, _, _, rfl⟩
      · rintro δ S' ⟨rfl, o6, o7, o8, rfl⟩
        walk_at "dl"
        rw [unf_is_none (knOf_none hkM)] at h
        refine ⟨S', Sub.refl, ?_⟩
        cases o with
        | none => exact h
        | some xt => exact h
  | qu w y F =>
    have hn' : F.ht + hs M1 ≤ n := by simp only [Fm.ht] at hn; omega
    have h' : Q (.tup [.str w.s, .str y, (subO (popO o y) (unf (knOf (M1 ++ M2)) F)).d]) S := by
      have e : subO o (unf (knOf (M1 ++ M2)) (.qu w y F)) = .qu w y (subO (popO o y) (unf (knOf (M1 ++ M2)) F)) := subO_qu
      rw [e] at h
      exact h
    cases w with
    | every =>
      simp only [Fm.d, Q2.s]
      walk_at "go"
      refine ⟨_, ha, fun p np => ?_⟩
      walk_at "go"
      refine ⟨ty_dict put_same, _, _, put_same, rfl, ?_⟩
      walk_at "dl"
      refine ⟨B, W, p, M1, M2, F, popO o y, rfl, by rw [put_same, okv_pop], hM, hF.2, hn', hno.pop, ?_⟩
      walk_at "dl"
      exact ⟨S, Sub.new np, h'⟩
    | some =>
      simp only [Fm.d, Q2.s]
      walk_at "go"
      refine ⟨_, ha, fun p np => ?_⟩
      walk_at "go"
      refine ⟨ty_dict put_same, _, _, put_same, rfl, ?_⟩
      walk_at "dl"
      refine ⟨B, W, p, M1, M2, F, popO o y, rfl, by rw [put_same, okv_pop], hM, hF.2, hn', hno.pop, ?_⟩
      walk_at "dl"
      exact ⟨S, Sub.new np, h'⟩
  | does d s1 s2 =>
    have h' : Q (.tup [.str "does", .str d, .str (sbO o s1), .str (sbO o s2)]) S := by
      cases o with
      | none => exact h
      | some xt => exact h
    simp only [Fm.d]
    walk_at "go"
    intro p np
    have pa : a ≠ p := fun z => by rw [z, np] at ha; cases ha
    refine lcB_zip [.str s1, .str s2] [.str (sbO o s1), .str (sbO o s2)] rfl (fun i acc => rfl) (szOk (by simp)) (fun i z r acc Y N e1 e2 yy => ?_) ?_
    · have ha' : put S p (.lst acc) a = some (.dk (okv o)) := by rw [put_ne pa]; exact ha
      rcases i with _ | _ | i
      · cases e1; cases e2
        walk_at "dl"
        exact ⟨ty_dict ha', _, _, ha', rfl, by rw [okv_get]; exact yy⟩
      · cases e1; cases e2
        walk_at "dl"
        exact ⟨ty_dict ha', _, _, ha', rfl, by rw [okv_get]; exact yy⟩
      · simp at e1
    · walk_at "dl"
      exact ⟨szOk (by simp [cutL, HT.sIx]), S, Sub.new np, h'⟩
  | same s1 s2 =>
    have h' : Q (.tup [.str "same", .str (sbO o s1), .str (sbO o s2)]) S := by
      cases o with
      | none => exact h
      | some xt => exact h
    simp only [Fm.d]
    walk_at "go"
    intro p np
    have pa : a ≠ p := fun z => by rw [z, np] at ha; cases ha
    refine lcB_zip [.str s1, .str s2] [.str (sbO o s1), .str (sbO o s2)] rfl (fun i acc => rfl) (szOk (by simp)) (fun i z r acc Y N e1 e2 yy => ?_) ?_
    · have ha' : put S p (.lst acc) a = some (.dk (okv o)) := by rw [put_ne pa]; exact ha
      rcases i with _ | _ | i
      · cases e1; cases e2
        walk_at "dl"
        exact ⟨ty_dict ha', _, _, ha', rfl, by rw [okv_get]; exact yy⟩
      · cases e1; cases e2
        walk_at "dl"
        exact ⟨ty_dict ha', _, _, ha', rfl, by rw [okv_get]; exact yy⟩
      · simp at e1
    · walk_at "dl"
      exact ⟨S, Sub.new np, h'⟩
  | neg F =>
    have hn' : F.ht + hs M1 ≤ n := by simp only [Fm.ht] at hn; omega
    have h' : Q (.tup [.str "not", (subO o (unf (knOf (M1 ++ M2)) F)).d]) S := by
      cases o with
      | none => exact h
      | some xt => exact h
    simp only [Fm.d]
    walk_at "go"
    intro p np
    have pa : a ≠ p := fun z => by rw [z, np] at ha; cases ha
    refine lcB_zip [F.d] [(subO o (unf (knOf (M1 ++ M2)) F)).d] rfl (fun i acc => rfl) (szOk (by simp)) (fun i z r acc Y N e1 e2 yy => ?_) ?_
    · have ha' : put S p (.lst acc) a = some (.dk (okv o)) := by rw [put_ne pa]; exact ha
      rcases i with _ | i
      · cases e1; cases e2
        walk_at "dl"
        exact ⟨B, W, a, M1, M2, F, o, rfl, ha', hM, hF, hn', hno, yy⟩
      · simp at e1
    · walk_at "dl"
      exact ⟨S, Sub.new np, h'⟩
  | bin w F G =>
    have hn' : F.ht + hs M1 ≤ n ∧ G.ht + hs M1 ≤ n := by simp only [Fm.ht] at hn; omega
    have h' : Q (.tup [.str w.s, (subO o (unf (knOf (M1 ++ M2)) F)).d, (subO o (unf (knOf (M1 ++ M2)) G)).d]) S := by
      cases o with
      | none => exact h
      | some xt => exact h
    have n1 : w.s ≠ "every" := by cases w <;> decide
    have n2 : w.s ≠ "some" := by cases w <;> decide
    have n3 : w.s ≠ "does" := by cases w <;> decide
    have n4 : w.s ≠ "same" := by cases w <;> decide
    have n5 : w.s ≠ "is" := by cases w <;> decide
    simp only [Fm.d]
    walk_at "go"
    refine ifN n1 (ifN n2 (sq ?_))
    walk_at "dl"
    refine ifN n3 (sq ?_)
    walk_at "dl"
    refine ifN n4 (sq ?_)
    walk_at "dl"
    refine ifN n5 ?_
    walk_at "dl"
    intro p np
    have pa : a ≠ p := fun z => by rw [z, np] at ha; cases ha
    refine lcB_zip [F.d, G.d] [(subO o (unf (knOf (M1 ++ M2)) F)).d, (subO o (unf (knOf (M1 ++ M2)) G)).d] rfl (fun i acc => rfl) (szOk (by simp)) (fun i z r acc Y N e1 e2 yy => ?_) ?_
    · have ha' : put S p (.lst acc) a = some (.dk (okv o)) := by rw [put_ne pa]; exact ha
      rcases i with _ | _ | i
      · cases e1; cases e2
        walk_at "dl"
        exact ⟨B, W, a, M1, M2, F, o, rfl, ha', hM, hF.1, hn'.1, hno, yy⟩
      · cases e1; cases e2
        walk_at "dl"
        exact ⟨B, W, a, M1, M2, G, o, rfl, ha', hM, hF.2, hn'.2, hno, yy⟩
      · simp at e1
    · walk_at "dl"
      exact ⟨S, Sub.new np, h'⟩
end
end K72

set_option Elab.async false
set_option maxRecDepth 100000
set_option linter.unusedVariables false
namespace DL
open PySem PySem.Spec PyProof.Rows L2
theorem atI_mem {α : Type} (l : List α) {r : Int} (h0 : 0 ≤ r) (h1 : r < l.length) : ∃ x, x ∈ l ∧ atI l r = some x := by
  obtain ⟨j, rfl⟩ : ∃ j : Nat, r = j := ⟨r.toNat, (Int.toNat_of_nonneg h0).symm⟩
  have hj : j < l.length := by omega
  exact ⟨l[j], List.getElem_mem hj, atI_nat (List.getElem?_eq_getElem hj)⟩
theorem ixSeq_mem {ds : List D} {r : Int} {S : Store} {Q : KD} (h0 : 0 ≤ r) (h1 : r < ds.length) (h : ∀ d ∈ ds, Q d S) : ixSeq ds (.int r) S Q := by
  obtain ⟨x, hx, e⟩ := atI_mem ds h0 h1
  exact ⟨x, e, h x hx⟩
theorem ixStrs_mem {xs : List Str} {r : Int} {S : Store} {Q : KD} (h0 : 0 ≤ r) (h1 : r < xs.length) (h : ∀ x ∈ xs, Q (.str x) S) : ixSeq (xs.map D.str) (.int r) S Q := by
  refine ixSeq_mem h0 (by rw [List.length_map]; exact h1) fun d hd => ?_
  obtain ⟨x, hx, rfl⟩ := List.mem_map.mp hd
  exact h x hx
theorem ixS {s : Str} (p : Nat → Prop) {r : Int} {R : Nat → Prop} (hp : ∀ c ∈ s.cps.toList, p c) (hl : s.length ≤ 1000) (h0 : 0 ≤ r) (h1 : r < s.length) (h : ∀ c, p c → R c) :
    ∃ c, s.length ≤ sizeLine ∧ atI s.cps.toList r = some c ∧ R c := by
  obtain ⟨c, hc, e⟩ := atI_mem s.cps.toList h0 (by simpa [Str.length] using h1)
  exact ⟨c, szOk (by omega), e, h c (hp c hc)⟩
theorem app_toList {x y : Str} : (x ++ y).cps.toList = x.cps.toList ++ y.cps.toList := by
  show (x.cps ++ y.cps).toList = _
  rw [Array.toList_append]
theorem len_toList {x : Str} : x.length = x.cps.toList.length := by simp [Str.length]
theorem cutS_toList {x : Str} {lo hi : Option Int} : (cutS x lo hi).cps.toList = cutL x.cps.toList lo hi := by
  unfold cutS cutL
  simp [Str.length]
theorem cutL_map {α β : Type} {f : α → β} {xs : List α} {lo hi : Option Int} : cutL (xs.map f) lo hi = (cutL xs lo hi).map f := by
  unfold cutL
  rw [List.length_map, ← List.map_drop, ← List.map_take]
theorem cutL_le {α : Type} {xs : List α} {lo hi : Option Int} : (cutL xs lo hi).length ≤ xs.length := by
  unfold cutL
  rw [List.length_take, List.length_drop]
  omega
theorem cutL_mem {α : Type} {xs : List α} {lo hi : Option Int} {x : α} (h : x ∈ cutL xs lo hi) : x ∈ xs := List.mem_of_mem_drop (List.mem_of_mem_take h)
/-- [one for one in texts if ..] -/
theorem lcB_flt {J : ItD} {tt : TTD} {te : TED} {i : Nat} {δ : StD} {Q : KD} {q : Addr} {S1 : Store} (c : List Str) (b : Str → Bool) (hJ : ∀ k acc, J k (put S1 q (.lst acc)) = some (c.map D.str)[k]?) (hz : c.length ≤ 1000)
    (test : ∀ (x : Str) (acc : List D) (N : Bool → Store → Prop), N (b x) (put S1 q (.lst acc)) → tt (sto (sto δ i none) i (some (.str x))) (put S1 q (.lst acc)) N)
    (val : ∀ (x : Str) (S : Store) (Y : KD), Y (.str x) S → te (sto (sto δ i none) i (some (.str x))) S Y)
    (done : Q (.ref q) (put S1 q (.lst ((c.filter b).map D.str)))) : lcB J (.one i) tt te [i] δ Q q S1 := by
  have fm : ∀ l : List Str, (l.map D.str).flatMap (fun d => match d with | .str x => if b x = true then [.str x] else [] | _ => []) = (l.filter b).map D.str := by
    intro l
    induction l with
    | nil => rfl
    | cons x l ih =>
      rw [List.map_cons, List.flatMap_cons, ih, List.filter_cons]
      show (if b x = true then [D.str x] else []) ++ _ = _
      cases b x <;> simp
  refine lcB_pure (c.map D.str) (fun d => match d with | .str x => if b x = true then [.str x] else [] | _ => []) hJ (by rw [List.length_map]; exact szOk (by omega)) (fun d hd => ?_) (fun d acc hd hl => ?_) (by rw [fm]; exact done)
  · obtain ⟨x, _, rfl⟩ := List.mem_map.mp hd
    show (if b x = true then [D.str x] else []).length ≤ 1
    split <;> simp
  · obtain ⟨x, _, rfl⟩ := List.mem_map.mp hd
    refine test x acc _ ?_
    cases e : b x with
    | true =>
      simp only [if_true]
      exact val x _ _ ⟨acc, put_same, hl, by rw [put_put]; simp [e]⟩
    | false =>
      simp [e]
end DL
namespace K72
open PySem PySem.Spec PyProof.Rows L2 DL
local macro_rules | `(tactic| walk_at "dl") => `(tactic| try simp only [DL.tAsgD, DL.asg, DL.tVarD, DL.lk, DL.sto, DL.stos, DL.tOpD, DL.tCD, DL.tCallD, DL.tConsD, DL.tNilD, DL.tRetD, DL.endsD, DL.startD, DL.tIfSD, DL.tTestD, DL.tNextD, DL.tDropD, DL.tAndD, DL.tOrD, DL.tNotD, DL.tAndV, DL.tOrV, DL.tNotV, DL.tIfD, DL.tNegD, DL.tTupD, DL.tLstD, DL.tSetD, DL.tMD, DL.tSlD, DL.tPartD, DL.tNoD, DL.tRevD, DL.tForD, DL.tLcD, DL.tIterD, DL.tRng1D, DL.tRng2D, DL.tYesD, DL.wipeD, DL.tDictD, DL.tDictOne, DL.keyOf, DL.emE_rr, DL.tLess, DL.tLessS, DL.itOk, DL.rAdd_ii, DL.rAdd_ss, DL.rAdd_tt, DL.rAdd_rr, DL.rSub_ii, DL.rMod_ii, DL.rDiv_ii, DL.rPow_ii, DL.rMul_ii, DL.rMul_ri, DL.rLt_ii, DL.rLt_ss, DL.rLe_ii, DL.rGt_ii, DL.rGe_ii, DL.rEq_ii, DL.rEq_ss, DL.rEq_bb, DL.rNe_ii, DL.rNe_ss, DL.rNe_bb, DL.rEq_rr, DL.rNe_rr, DL.rEq_tt, DL.rNe_tt, DL.rIn_st, DL.rNotIn_st, DL.rIn_r, DL.rNotIn_r, DL.rIn_ss, DL.rInDO_sl, DL.rInDO_il, DL.rInDO_sd, DL.rInDO_id, DL.rIsN_n, DL.rIsN_t, DL.rIsN_i, DL.rIsN_s, DL.rIsN_r, DL.rNotN_n, DL.rNotN_t, DL.rNotN_i, DL.rNotN_s, DL.rNotN_r, DL.rIx_t, DL.rIx_r, DL.rIx_s, DL.rIxDO_l, DL.rIxDO_ds, DL.rIx0, DL.rIx1, DL.rIx2, DL.rIx3, DL.rSl_t, DL.rSl_s, DL.rSl_o, DL.rSl_r, DL.rSlDO, DL.rSet_r, DL.rSetDO_0, DL.rSetDO_s, DL.rLen_t, DL.rLen_o, DL.rLen_s, DL.rLen_r, DL.rLenDO, DL.rLenDO_d, DL.rList_t, DL.rList_o, DL.rList_r, DL.rListDO, DL.rTuple_t, DL.rTuple_r, DL.rInt_i, DL.rInt_b, DL.rMax, DL.rMin, DL.rSz0, DL.rSz1, DL.rSz2, DL.rSz3, DL.rSz4, DL.rSz5, DL.rSz6, DL.rSz7, DL.rSz8, Option.some.injEq, DL.DO.lst.injEq, exists_eq_left', exists_eq_left, DL.put_same, DL.put_put, true_and, and_true, List.map, List.replicate, List.length, List.cons_append, List.nil_append, Nat.reduceSub, Nat.reduceAdd, decide_eq_true_eq, if_true, if_false, Bool.false_eq_true, Bool.not_true, Bool.not_false])
local macro_rules | `(tactic| walk_at "dlh") => `(tactic| try simp only [*, DL.tAsgD, DL.asg, DL.tVarD, DL.lk, DL.sto, DL.stos, DL.tOpD, DL.tCD, DL.tCallD, DL.tConsD, DL.tNilD, DL.tRetD, DL.endsD, DL.startD, DL.tIfSD, DL.tTestD, DL.tNextD, DL.tDropD, DL.tAndD, DL.tOrD, DL.tNotD, DL.tAndV, DL.tOrV, DL.tNotV, DL.tIfD, DL.tNegD, DL.tTupD, DL.tLstD, DL.tSetD, DL.tMD, DL.tSlD, DL.tPartD, DL.tNoD, DL.tRevD, DL.tForD, DL.tLcD, DL.tIterD, DL.tRng1D, DL.tRng2D, DL.tYesD, DL.wipeD, DL.tDictD, DL.tDictOne, DL.keyOf, DL.emE_rr, DL.tLess, DL.tLessS, DL.itOk, DL.rAdd_ii, DL.rAdd_ss, DL.rAdd_tt, DL.rAdd_rr, DL.rSub_ii, DL.rMod_ii, DL.rDiv_ii, DL.rPow_ii, DL.rMul_ii, DL.rMul_ri, DL.rLt_ii, DL.rLt_ss, DL.rLe_ii, DL.rGt_ii, DL.rGe_ii, DL.rEq_ii, DL.rEq_ss, DL.rEq_bb, DL.rNe_ii, DL.rNe_ss, DL.rNe_bb, DL.rEq_rr, DL.rNe_rr, DL.rEq_tt, DL.rNe_tt, DL.rIn_st, DL.rNotIn_st, DL.rIn_r, DL.rNotIn_r, DL.rIn_ss, DL.rInDO_sl, DL.rInDO_il, DL.rInDO_sd, DL.rInDO_id, DL.rIsN_n, DL.rIsN_t, DL.rIsN_i, DL.rIsN_s, DL.rIsN_r, DL.rNotN_n, DL.rNotN_t, DL.rNotN_i, DL.rNotN_s, DL.rNotN_r, DL.rIx_t, DL.rIx_r, DL.rIx_s, DL.rIxDO_l, DL.rIxDO_ds, DL.rIx0, DL.rIx1, DL.rIx2, DL.rIx3, DL.rSl_t, DL.rSl_s, DL.rSl_o, DL.rSl_r, DL.rSlDO, DL.rSet_r, DL.rSetDO_0, DL.rSetDO_s, DL.rLen_t, DL.rLen_o, DL.rLen_s, DL.rLen_r, DL.rLenDO, DL.rLenDO_d, DL.rList_t, DL.rList_o, DL.rList_r, DL.rListDO, DL.rTuple_t, DL.rTuple_r, DL.rInt_i, DL.rInt_b, DL.rMax, DL.rMin, DL.rSz0, DL.rSz1, DL.rSz2, DL.rSz3, DL.rSz4, DL.rSz5, DL.rSz6, DL.rSz7, DL.rSz8, Option.some.injEq, DL.DO.lst.injEq, exists_eq_left', exists_eq_left, DL.put_same, DL.put_put, true_and, and_true, List.map, List.replicate, List.length, List.cons_append, List.nil_append, Nat.reduceSub, Nat.reduceAdd, decide_eq_true_eq, if_true, if_false, Bool.false_eq_true, Bool.not_true, Bool.not_false])
local macro_rules | `(tactic| walk_at "go") => `(tactic| repeat (first | (refine DL.sq ?_; try walk_at "dl") | (refine DL.ifY rfl ?_; try walk_at "dl") | (refine DL.inY rfl (by decide) ?_; try walk_at "dl") | (refine DL.inN rfl (by decide) ?_; try walk_at "dl") | (refine DL.ifN (by decide) ?_; try walk_at "dl")))
abbrev s_l_deck : Stmt := top 15
theorem sc_l_deck : FnScope ["_law_script", "_law_cells"] ["_law_script"] (defScope s_l_deck) := ⟨rfl, rfl, rfl, by decide +kernel, rfl, by decide +kernel, by decide +kernel⟩
abbrev s_l_word : Stmt := top 17
theorem sc_l_word : FnScope ["_law_deck_here", "_law_least", "_law_most", "_law_letters", "_law_word_here", "_law_k"] ["_law_deck_here", "_law_least", "_law_most"] (defScope s_l_word) := ⟨rfl, rfl, rfl, by decide +kernel, rfl, by decide +kernel, by decide +kernel⟩
abbrev s_l_names : Stmt := top 19
theorem sc_l_names : FnScope ["_law_deck_here", "_law_many", "_law_names_here", "_law_k", "_law_name", "_law_one"] ["_law_deck_here", "_law_many"] (defScope s_l_names) := ⟨rfl, rfl, rfl, by decide +kernel, rfl, by decide +kernel, by decide +kernel⟩
def Dk (a : Addr) (S : Store) : Prop := ∃ ns, okd ns ∧ S a = some (dkO ns)
/-- only the deck is changed, and new things are made -/
def Ch (a : Addr) (S S' : Store) : Prop := (∀ b o, b ≠ a → S b = some o → S' b = some o) ∧ Dk a S'
theorem Ch.refl {a : Addr} {S : Store} (h : Dk a S) : Ch a S S := ⟨fun _ _ _ e => e, h⟩
theorem Ch.trans {a : Addr} {S S1 S2 : Store} (h : Ch a S S1) (g : Ch a S1 S2) : Ch a S S2 := ⟨fun b o n e => g.1 b o n (h.1 b o n e), g.2⟩
theorem Ch.draw {a : Addr} {S : Store} {ns : List Int} (h : okd ns) : Ch a S (put S a (dkO ns)) := ⟨fun b o n e => by rw [put_ne n]; exact e, ns, h, put_same⟩
theorem Dk.ne {a p : Addr} {S : Store} (h : Dk a S) (n : S p = none) : p ≠ a := by
  rintro rfl
  obtain ⟨ns, _, e⟩ := h
  rw [n] at e; cases e
theorem Ch.none' {a p : Addr} {S S' : Store} (h : Ch a S S') (d : Dk a S) (n : S' p = none) : S p = none := by
  have pa := h.2.ne n
  cases e : S p with
  | none => rfl
  | some o =>
    have := h.1 p o pa e
    rw [n] at this; cases this
/-- what was not there is made or changed -/
theorem Ch.at {a p : Addr} {S S' : Store} {o : DO} (h : Ch a S S') (d : Dk a S) (n : S p = none) : Ch a S (put S' p o) := by
  have pa := d.ne n
  refine ⟨fun b u nb e => ?_, ?_⟩
  · rw [put_ne]
    · exact h.1 b u nb e
    · rintro rfl
      rw [n] at e; cases e
  · obtain ⟨ns, h1, h2⟩ := h.2
    exact ⟨ns, h1, by rw [put_ne pa.symm]; exact h2⟩
theorem Ch.new {a p : Addr} {S S' : Store} {o : DO} (h : Ch a S S') (d : Dk a S) (n : S' p = none) : Ch a S (put S' p o) := h.at d (h.none' d n)
theorem Dk.strs {a p : Addr} {S : Store} {xs : List Str} (h : Dk a S) (e : S p = some (.lst (xs.map D.str))) : p ≠ a := by
  rintro rfl
  obtain ⟨ns, ⟨h1, h2⟩, e'⟩ := h
  rw [e] at e'
  have e2 : xs.map D.str = ns.map D.int := by injection e' with e'; injection e'
  cases xs with
  | nil =>
    have := congrArg List.length e2
    simp at this
    omega
  | cons x xs =>
    cases ns with
    | nil => cases e2
    | cons n ns => cases e2
theorem Ch.get {a p : Addr} {S S' : Store} {xs : List Str} (h : Ch a S S') (d : Dk a S) (e : S p = some (.lst (xs.map D.str))) : S' p = some (.lst (xs.map D.str)) := h.1 p _ (d.strs e) e
def spDrawC : SpD := fun ds S Q => ∃ (a : Addr) (m : Int), ds = [.ref a, .int m] ∧ Dk a S ∧ 0 < m ∧ m < 1073741824 ∧ ∀ (r : Int) (S' : Store), 0 ≤ r → r < m → Ch a S S' → Q (.int r) S'
def spDeck : SpD := fun ds S Q => ∃ ns : List Int, ds = [.rol (ns.map D.int)] ∧ ns.length ≤ 63 ∧ ∀ p S', Dk p S' → Q (.ref p) S'
def spWord : SpD := fun ds S Q => ∃ (a : Addr) (lo hi : Nat), ds = [.ref a, .int (lo : Nat), .int (hi : Nat)] ∧ Dk a S ∧ lo ≤ hi ∧ hi ≤ 10 ∧
  ∀ (x : Str) (S' : Store), (∀ c ∈ x.cps.toList, chLow c) → lo ≤ x.cps.toList.length → x.cps.toList.length ≤ hi → Ch a S S' → Q (.str x) S'
def spNames : SpD := fun ds S Q => ∃ (a : Addr) (m : Nat), ds = [.ref a, .int (m : Nat)] ∧ Dk a S ∧ m ≤ 6 ∧
  ∀ (xs : List Str) (p : Addr) (S' : Store), Ch a S S' → S' p = some (.lst (xs.map D.str)) → xs.length = m → (∀ x ∈ xs, nmS x) → Q (.ref p) S'
theorem pigeon {α : Type} [DecidableEq α] : ∀ (c xs : List α), c.Nodup → (∀ x ∈ c, x ∈ xs) → c.length ≤ xs.length
  | [], _, _, _ => Nat.zero_le _
  | a :: c, xs, hn, h => by
    have ha := h a List.mem_cons_self
    have := pigeon c (xs.erase a) (List.nodup_cons.mp hn).2 fun x hx => by
      have : x ≠ a := fun e => (List.nodup_cons.mp hn).1 (e ▸ hx)
      exact (List.mem_erase_of_ne this).mpr (h x (List.mem_cons_of_mem _ hx))
    rw [List.length_erase_of_mem ha] at this
    have : 0 < xs.length := List.length_pos_of_mem ha
    rw [List.length_cons]; omega
theorem free_one {α : Type} [DecidableEq α] {c xs : List α} (hn : c.Nodup) (h : xs.length < c.length) : ∃ x r, c.filter (fun x => decide (x ∉ xs)) = x :: r ∧ x ∈ c ∧ x ∉ xs := by
  cases e : c.filter (fun x => decide (x ∉ xs)) with
  | nil =>
    have : ∀ x ∈ c, x ∈ xs := fun x hx => by
      have := List.filter_eq_nil_iff.mp e x hx
      simpa using this
    have := pigeon c xs hn this
    omega
  | cons x r =>
    have hx : x ∈ c.filter (fun x => decide (x ∉ xs)) := by rw [e]; exact List.mem_cons_self
    have := List.mem_filter.mp hx
    exact ⟨x, r, rfl, this.1, by simpa using this.2⟩
def NmI (S : Store) (a : Addr) (m : Nat) (p : Addr) (i : Nat) : StD → Store → Prop := fun δ S' => ∃ (xs : List Str) (o3 o4 : Option D), δ = [some (.ref a), some (.int (m : Nat)), some (.ref p), o3, o4, none] ∧ Ch a S S' ∧ S' p = some (.lst (xs.map D.str)) ∧ xs.length = i ∧ ∀ x ∈ xs, nmS x
section
variable {P : Program} {w : World} {K : PySem.W.Frag} {mg : Str → Option Value} {base : Heap}
theorem df_drawC {k : Nat} (G : Df P w K mg base "_law_draw" k spDraw) : Df P w K mg base "_law_draw" k spDrawC := G.imp fun ds S Q ⟨a, m, e, ⟨ns, h1, h2⟩, m0, m1, h⟩ =>
  ⟨a, ns, m, e, h2, h1, m0, m1, fun r ns' r0 r1 h' => h r _ r0 r1 (.draw h')⟩
theorem df_deck {k : Nat} (T : Bt mg) (A : At K mg "_law_deck" "_law_deck" s_l_deck) : Df P w K mg base "_law_deck" (k + 1) spDeck := by
  have nd := sc_l_deck.nd
  refine df_mk A rfl sc_l_deck (fun _ _ _ _ _ _ us hl => match us, hl with | [_], _ => rfl) (fun ds S Q h => ?_) (fun f cdv A outer s H E hr ds S Q h => ?_)
  · obtain ⟨ns, rfl, _⟩ := h
    rfl
  obtain ⟨ns, rfl, hl, h⟩ := h
  have hu := hu_of hr
  refine ⟨_, (dss_cons (ds_set (i := 1) nd rfl (Or.inl rfl) (de_callTy (cd_list rfl) rfl T.list_ (by decide +kernel) (da_cons (de_slice (dv 0) do_none (do_some de_int)) da_nil)))
    (dss_one (ds_ret (de_op od_add (de_lst (da_cons de_int (da_cons (de_op od_mod (de_callB (cd_sum rfl) rfl T.sum_ (by decide +kernel) (da_cons (dv 1) da_nil)) de_int) da_nil))) (de_rev (dv 1)))))), ?_⟩
  walk_at "go"
  intro p np q nq
  rw [cutL_map]
  have hz : (cutL ns none (some 63)).length ≤ 63 := Nat.le_trans cutL_le hl
  generalize cutL ns none (some 63) = cs at hz
  refine ⟨cs.map D.int, cs, seqAt_ref put_same, intsOf_of cs, ?_⟩
  walk_at "dl"
  refine ⟨by decide, fun r nr => ?_⟩
  have hqr : q ≠ r := fun z => by rw [z, put_same] at nr; cases nr
  rw [put_ne hqr, put_same]
  show ∀ t, _ → _
  intro t nt
  have htr : r ≠ t := fun z => by rw [z, put_same] at nt; cases nt
  refine ⟨_, _, by rw [put_ne htr, put_same], put_same, szOk (by simp; omega), fun u nu => ?_⟩
  refine ⟨_, Sub.refl, h u _ ⟨0 :: cs.sum % 2147483647 :: cs.reverse, ⟨by simp, by simp; omega⟩, ?_⟩⟩
  rw [put_same]
  simp [dkO]
theorem df_word {k : Nat} (T : Bt mg) (A : At K mg "_law_word" "_law_word" s_l_word) (G_l_draw : Df P w K mg base "_law_draw" k spDrawC) : Df P w K mg base "_law_word" (k + 1) spWord := by
  have nd := sc_l_word.nd
  refine df_mk A rfl sc_l_word (fun _ _ _ _ _ _ us hl => match us, hl with | [_, _, _], _ => rfl) (fun ds S Q h => ?_) (fun f cdv A outer s H E hr ds S Q h => ?_)
  · obtain ⟨a, lo, hi, rfl, _⟩ := h
    rfl
  obtain ⟨a, lo, hi, rfl, hd, h1, h2, h⟩ := h
  have hu := hu_of hr
  refine ⟨_, (dss_cons (ds_set (i := 3) nd rfl (Or.inl rfl) de_str)
    (dss_cons (ds_set (i := 4) nd rfl (Or.inl rfl) de_str)
    (dss_cons (ds_for PassesOwn.never rfl (di_range1 rfl T.range_ (da_cons (de_op od_add (dv 1) (de_call G_l_draw hr rfl (da_cons (dv 0) (da_cons (de_op od_add (de_op od_sub (dv 2) (dv 1)) de_int) da_nil)))) da_nil)) (dg_name (i := 5) nd rfl (Or.inl rfl)) (dss_one (ds_set (i := 4) nd rfl (Or.inl rfl) (de_op od_add (dv 4) (de_ix hu (dv 3) (de_call G_l_draw hr rfl (da_cons (dv 0) (da_cons de_int da_nil))))))))
    (dss_one (ds_ret (dv 4)))))), ?_⟩
  walk_at "go"
  refine ⟨a, _, rfl, hd, by omega, by omega, fun r S1 r0 r1 c1 => ?_⟩
  walk_at "dl"
  refine ⟨by omega, ?_⟩
  obtain ⟨n, en⟩ : ∃ n : Nat, (lo : Int) + r = n := ⟨((lo : Int) + r).toNat, by omega⟩
  rw [en, Int.toNat_natCast]
  refine forB_rng (fun i δ S' => ∃ (x : Str) (o5 : Option D), δ = [some (.ref a), some (.int lo), some (.int hi), some (.str "abcdefghijklmnopqrstuvwxyz"), some (.str x), o5] ∧ Ch a S S' ∧ (∀ c ∈ x.cps.toList, chLow c) ∧ x.cps.toList.length = i) ?_ ?_ ?_
  · exact ⟨"", none, rfl, c1, by decide +kernel, by decide +kernel⟩
  · rintro i δ S' hi ⟨x, o5, rfl, c2, hx, hl⟩
    walk_at "dl"
    refine ⟨a, _, rfl, c2.2, by decide, by decide, fun r S2 r0 r1 c3 => ?_⟩
    walk_at "dl"
    refine ixS (s := "abcdefghijklmnopqrstuvwxyz") chLow (by decide +kernel) (by decide +kernel) r0 (by rw [show ("abcdefghijklmnopqrstuvwxyz" : Str).length = 26 from by decide +kernel]; exact r1) fun c hc => ?_
    walk_at "dl"
    refine ⟨szOk (by rw [len_toList, hl]; simp [Str.length]; omega), ?_⟩
    refine ⟨_, _, rfl, c2.trans c3, fun z hz => ?_, ?_⟩
    · rw [app_toList] at hz
      rcases List.mem_append.mp hz with hz | hz
      · exact hx z hz
      · cases List.mem_singleton.mp hz; exact hc
    · rw [app_toList, List.length_append, hl]; rfl
  · rintro δ S' ⟨x, o5, rfl, c2, hx, hl⟩
    walk_at "dl"
    exact ⟨S', Sub.refl, h x S' hx (by omega) (by omega) c2⟩
theorem df_names {k : Nat} (T : Bt mg) (A : At K mg "_law_names" "_law_names" s_l_names) (G_l_draw : Df P w K mg base "_law_draw" k spDrawC) (G_l_word : Df P w K mg base "_law_word" k spWord) : Df P w K mg base "_law_names" (k + 1) spNames := by
  have nd := sc_l_names.nd
  refine df_mk A rfl sc_l_names (fun _ _ _ _ _ _ us hl => match us, hl with | [_, _], _ => rfl) (fun ds S Q h => ?_) (fun f cdv A outer s H E hr ds S Q h => ?_)
  · obtain ⟨a, m, rfl, _⟩ := h
    rfl
  obtain ⟨a, m, rfl, hd, h1, h⟩ := h
  have hu := hu_of hr
  refine ⟨_, (dss_cons (ds_set (i := 2) nd rfl (Or.inr rfl) (de_lst da_nil))
    (dss_cons (ds_for PassesOwn.never rfl (di_range1 rfl T.range_ (da_cons (dv 1) da_nil)) (dg_name (i := 3) nd rfl (Or.inl rfl)) (dss_cons (ds_set (i := 4) nd rfl (Or.inl rfl) (de_op od_add (de_ix hu de_str (de_call G_l_draw hr rfl (da_cons (dv 0) (da_cons de_int da_nil)))) (de_call G_l_word hr rfl (da_cons (dv 0) (da_cons de_int (da_cons de_int da_nil))))))
    (dss_cons (ds_if (dt_cmp (od_in hu) (dv 4) (dv 2) rfl) (dss_one (ds_set (i := 4) nd rfl (Or.inl rfl) (de_ix hu (de_lc (own := [("_law_one", 5)]) (g := GD.one 5) rfl nd (di_any (de_lst (da_cons de_str (da_cons de_str (da_cons de_str (da_cons de_str (da_cons de_str (da_cons de_str (da_cons de_str da_nil))))))))) (blkOk_by (own := [("_law_one", 5)]) (N := ["_law_deck_here", "_law_many", "_law_names_here", "_law_k", "_law_name", "_law_one"]) (sc := defScope s_l_names) (by decide +kernel)) (fun _ _ _ _ _ => (dg_name (i := 5) nd rfl (Or.inl rfl))) (fun _ _ _ _ _ => (dts_one (dt_cmp (od_notIn hu) (dv 5) (dv 2) rfl))) (fun _ _ _ _ _ => (dv 5))) de_int))) dss_nil)
    (dss_one (ds_expr (de_m PySem.F.plainAttrs_list PySem.F.slot_list_append PySem.F.type_list_append md_append (dv 2) (da_cons (dv 4) da_nil)))))))
    (dss_one (ds_ret (dv 2))))), ?_⟩
  walk_at "go"
  intro p np
  have pa := hd.ne np
  refine sq ?_
  walk_at "dl"
  refine ⟨by omega, ?_⟩
  rw [Int.toNat_natCast]
  refine forB_rng (NmI S a m p) ?_ ?_ ?_
  · exact ⟨[], none, none, rfl, (Ch.refl hd).at hd np, put_same, rfl, fun x hx => by cases hx⟩
  · rintro i δ S' hi ⟨xs, o3, o4, rfl, c2, hp, hl, hx⟩
    have last : ∀ (x : Str) (S3 : Store), Ch a S' S3 → nmS x → ∀ (o3 : Option D) rt bk ct, (tDropD (tMD "list" mAppend (tVarD 2) (tConsD (tVarD 4) tNilD))) { nx := NmI S a m p (i + 1), rt := rt, bk := bk, ct := ct } [some (.ref a), some (.int m), some (.ref p), o3, some (.str x), none] S3 := by
      intro x S3 c3 hn o3 rt bk ct
      have hp3 : S3 p = some (.lst (xs.map D.str)) := c3.get c2.2 hp
      walk_at "dl"
      refine ⟨ty_list hp3, append_of hp3 (szLt (by rw [List.length_map]; omega)) ?_⟩
      refine ⟨xs ++ [x], _, _, rfl, (c2.trans c3).at hd np, by rw [put_same]; simp, by simp [hl], fun z hz => ?_⟩
      rcases List.mem_append.mp hz with hz | hz
      · exact hx z hz
      · cases List.mem_singleton.mp hz; exact hn
    walk_at "go"
    refine ⟨a, _, rfl, c2.2, by decide, by decide, fun r S2 r0 r1 c3 => ?_⟩
    walk_at "dl"
    refine ixS (s := "ABCDEFGHIJKLMNOPQRSTUVWXYZ") (fun c => 65 ≤ c ∧ c ≤ 90) (by decide +kernel) (by decide +kernel) r0 (by rw [show ("ABCDEFGHIJKLMNOPQRSTUVWXYZ" : Str).length = 26 from by decide +kernel]; exact r1) fun ch hch => ?_
    walk_at "dl"
    refine ⟨a, 0, 7, rfl, c3.2, by decide, by decide, fun x S3 hx1 l0 l7 c4 => ?_⟩
    walk_at "dl"
    refine ⟨szOk (by have e1 : (⟨#[ch]⟩ : Str).length = 1 := rfl; rw [e1, len_toList]; omega), ?_⟩
    have c34 := c3.trans c4
    have hp3 : S3 p = some (.lst (xs.map D.str)) := c34.get c2.2 hp
    walk_at "go"
    rw [hp3]
    walk_at "dl"
    refine ⟨xs, strsOf_of xs, ite2 (fun c => ?_) (fun c => ?_)⟩
    · walk_at "dl"
      intro q nq
      refine ⟨⟨_, rfl⟩, fun r nr => ?_⟩
      have cq := c34.new (o := .lst [.str "Qa", .str "Qb", .str "Qc", .str "Qd", .str "Qe", .str "Qf", .str "Qg"]) c2.2 nq
      have hqr : q ≠ r := fun z => by rw [z, put_same] at nr; cases nr
      refine lcB_flt ["Qa", "Qb", "Qc", "Qd", "Qe", "Qf", "Qg"] (fun x => decide (x ∉ xs)) (fun k acc => ?_) (by decide) (fun x acc N hN => ?_) (fun x S Y y => ?_) ?_
      · show lstJ (put (put S3 q _) r (.lst acc) q) k = _
        rw [put_ne hqr, put_same]
        rfl
      · walk_at "dl"
        have hpr : put (put S3 q (DO.lst [.str "Qa", .str "Qb", .str "Qc", .str "Qd", .str "Qe", .str "Qf", .str "Qg"])) r (.lst acc) p = some (.lst (xs.map D.str)) := by
          have c5 := cq.new c2.2 nr (o := .lst acc)
          exact c5.get c2.2 hp
        rw [hpr]
        walk_at "dl"
        refine ⟨xs, strsOf_of xs, ?_⟩
        rw [show (!decide (x ∈ xs)) = decide (x ∉ xs) from by simp]
        exact hN
      · walk_at "dl"
        exact y
      · obtain ⟨x, rr, e, hxm, hxn⟩ := free_one (c := [("Qa" : Str), "Qb", "Qc", "Qd", "Qe", "Qf", "Qg"]) (xs := xs) (by decide +kernel) (by simp; omega)
        rw [e]
        walk_at "dl"
        refine last x _ (cq.new c2.2 nr) ?_ _ (fun _ _ => False) (fun _ _ => False) fun _ _ => False
        have all : ∀ x ∈ [("Qa" : Str), "Qb", "Qc", "Qd", "Qe", "Qf", "Qg"], ∃ c, chLow c ∧ x.cps.toList = [81, c] := by
          intro x hx
          simp only [List.mem_cons, List.not_mem_nil, or_false] at hx
          rcases hx with rfl | rfl | rfl | rfl | rfl | rfl | rfl
          · exact ⟨97, by decide, by decide +kernel⟩
          · exact ⟨98, by decide, by decide +kernel⟩
          · exact ⟨99, by decide, by decide +kernel⟩
          · exact ⟨100, by decide, by decide +kernel⟩
          · exact ⟨101, by decide, by decide +kernel⟩
          · exact ⟨102, by decide, by decide +kernel⟩
          · exact ⟨103, by decide, by decide +kernel⟩
        obtain ⟨c, hc, e⟩ := all x hxm
        exact ⟨81, [c], e, by decide, fun z hz => by cases List.mem_singleton.mp hz; exact hc, by simp⟩
    · walk_at "dl"
      refine last _ S3 c34 ⟨ch, x.cps.toList, ?_, hch, hx1, l7⟩ _ (fun _ _ => False) (fun _ _ => False) fun _ _ => False
      rw [app_toList]
      rfl
  · rintro δ S' ⟨xs, o3, o4, rfl, c2, hp, hl, hx⟩
    walk_at "dl"
    exact ⟨S', Sub.refl, h xs p S' c2 hp hl hx⟩
end
end K72

set_option Elab.async false
set_option maxRecDepth 100000
set_option linter.unusedVariables false
namespace DL
open PySem PySem.Spec PyProof.Rows L2
theorem seq_cut {A u : TSD} {G : EndsD} {δ : StD} {S : Store} (P : StD → Store → Prop) (h1 : ∀ N : StD → Store → Prop, (∀ δ' S', P δ' S' → N δ' S') → A { G with nx := N } δ S) (h2 : ∀ δ' S', P δ' S' → u G δ' S') : tSeqD A u G δ S := h1 _ h2
theorem orIf {A B : Prop} {_ : Decidable A} {_ : Decidable B} {X Y : Prop} (h1 : X) (h2 : ¬ A → ¬ B → Y) : if A then X else if B then X else Y := by
  by_cases a : A
  · rw [if_pos a]; exact h1
  · rw [if_neg a]
    by_cases b : B
    · rw [if_pos b]; exact h1
    · rw [if_neg b]; exact h2 a b
end DL
namespace K72
open PySem PySem.Spec PyProof.Rows L2 DL
local macro_rules | `(tactic| walk_at "dl") => `(tactic| try simp only [DL.tAsgD, DL.asg, DL.tVarD, DL.lk, DL.sto, DL.stos, DL.tOpD, DL.tCD, DL.tCallD, DL.tConsD, DL.tNilD, DL.tRetD, DL.endsD, DL.startD, DL.tIfSD, DL.tTestD, DL.tNextD, DL.tDropD, DL.tAndD, DL.tOrD, DL.tNotD, DL.tAndV, DL.tOrV, DL.tNotV, DL.tIfD, DL.tNegD, DL.tTupD, DL.tLstD, DL.tSetD, DL.tMD, DL.tSlD, DL.tPartD, DL.tNoD, DL.tRevD, DL.tForD, DL.tLcD, DL.tIterD, DL.tRng1D, DL.tRng2D, DL.tYesD, DL.wipeD, DL.tDictD, DL.tDictOne, DL.keyOf, DL.emE_rr, DL.tLess, DL.tLessS, DL.itOk, DL.rAdd_ii, DL.rAdd_ss, DL.rAdd_tt, DL.rAdd_rr, DL.rSub_ii, DL.rMod_ii, DL.rDiv_ii, DL.rPow_ii, DL.rMul_ii, DL.rMul_ri, DL.rLt_ii, DL.rLt_ss, DL.rLe_ii, DL.rGt_ii, DL.rGe_ii, DL.rEq_ii, DL.rEq_ss, DL.rEq_bb, DL.rNe_ii, DL.rNe_ss, DL.rNe_bb, DL.rEq_rr, DL.rNe_rr, DL.rEq_tt, DL.rNe_tt, DL.rIn_st, DL.rNotIn_st, DL.rIn_r, DL.rNotIn_r, DL.rIn_ss, DL.rInDO_sl, DL.rInDO_il, DL.rInDO_sd, DL.rInDO_id, DL.rIsN_n, DL.rIsN_t, DL.rIsN_i, DL.rIsN_s, DL.rIsN_r, DL.rNotN_n, DL.rNotN_t, DL.rNotN_i, DL.rNotN_s, DL.rNotN_r, DL.rIx_t, DL.rIx_r, DL.rIx_s, DL.rIxDO_l, DL.rIxDO_ds, DL.rIx0, DL.rIx1, DL.rIx2, DL.rIx3, DL.rSl_t, DL.rSl_s, DL.rSl_o, DL.rSl_r, DL.rSlDO, DL.rSet_r, DL.rSetDO_0, DL.rSetDO_s, DL.rLen_t, DL.rLen_o, DL.rLen_s, DL.rLen_r, DL.rLenDO, DL.rLenDO_d, DL.rList_t, DL.rList_o, DL.rList_r, DL.rListDO, DL.rTuple_t, DL.rTuple_r, DL.rInt_i, DL.rInt_b, DL.rMax, DL.rMin, DL.rSz0, DL.rSz1, DL.rSz2, DL.rSz3, DL.rSz4, DL.rSz5, DL.rSz6, DL.rSz7, DL.rSz8, Option.some.injEq, DL.DO.lst.injEq, exists_eq_left', exists_eq_left, DL.put_same, DL.put_put, true_and, and_true, List.map, List.replicate, List.length, List.cons_append, List.nil_append, Nat.reduceSub, Nat.reduceAdd, decide_eq_true_eq, if_true, if_false, Bool.false_eq_true, Bool.not_true, Bool.not_false])
local macro_rules | `(tactic| walk_at "dlh") => `(tactic| try simp only [*, DL.tAsgD, DL.asg, DL.tVarD, DL.lk, DL.sto, DL.stos, DL.tOpD, DL.tCD, DL.tCallD, DL.tConsD, DL.tNilD, DL.tRetD, DL.endsD, DL.startD, DL.tIfSD, DL.tTestD, DL.tNextD, DL.tDropD, DL.tAndD, DL.tOrD, DL.tNotD, DL.tAndV, DL.tOrV, DL.tNotV, DL.tIfD, DL.tNegD, DL.tTupD, DL.tLstD, DL.tSetD, DL.tMD, DL.tSlD, DL.tPartD, DL.tNoD, DL.tRevD, DL.tForD, DL.tLcD, DL.tIterD, DL.tRng1D, DL.tRng2D, DL.tYesD, DL.wipeD, DL.tDictD, DL.tDictOne, DL.keyOf, DL.emE_rr, DL.tLess, DL.tLessS, DL.itOk, DL.rAdd_ii, DL.rAdd_ss, DL.rAdd_tt, DL.rAdd_rr, DL.rSub_ii, DL.rMod_ii, DL.rDiv_ii, DL.rPow_ii, DL.rMul_ii, DL.rMul_ri, DL.rLt_ii, DL.rLt_ss, DL.rLe_ii, DL.rGt_ii, DL.rGe_ii, DL.rEq_ii, DL.rEq_ss, DL.rEq_bb, DL.rNe_ii, DL.rNe_ss, DL.rNe_bb, DL.rEq_rr, DL.rNe_rr, DL.rEq_tt, DL.rNe_tt, DL.rIn_st, DL.rNotIn_st, DL.rIn_r, DL.rNotIn_r, DL.rIn_ss, DL.rInDO_sl, DL.rInDO_il, DL.rInDO_sd, DL.rInDO_id, DL.rIsN_n, DL.rIsN_t, DL.rIsN_i, DL.rIsN_s, DL.rIsN_r, DL.rNotN_n, DL.rNotN_t, DL.rNotN_i, DL.rNotN_s, DL.rNotN_r, DL.rIx_t, DL.rIx_r, DL.rIx_s, DL.rIxDO_l, DL.rIxDO_ds, DL.rIx0, DL.rIx1, DL.rIx2, DL.rIx3, DL.rSl_t, DL.rSl_s, DL.rSl_o, DL.rSl_r, DL.rSlDO, DL.rSet_r, DL.rSetDO_0, DL.rSetDO_s, DL.rLen_t, DL.rLen_o, DL.rLen_s, DL.rLen_r, DL.rLenDO, DL.rLenDO_d, DL.rList_t, DL.rList_o, DL.rList_r, DL.rListDO, DL.rTuple_t, DL.rTuple_r, DL.rInt_i, DL.rInt_b, DL.rMax, DL.rMin, DL.rSz0, DL.rSz1, DL.rSz2, DL.rSz3, DL.rSz4, DL.rSz5, DL.rSz6, DL.rSz7, DL.rSz8, Option.some.injEq, DL.DO.lst.injEq, exists_eq_left', exists_eq_left, DL.put_same, DL.put_put, true_and, and_true, List.map, List.replicate, List.length, List.cons_append, List.nil_append, Nat.reduceSub, Nat.reduceAdd, decide_eq_true_eq, if_true, if_false, Bool.false_eq_true, Bool.not_true, Bool.not_false])
local macro_rules | `(tactic| walk_at "go") => `(tactic| repeat (first | (refine DL.sq ?_; try walk_at "dl") | (refine DL.ifY rfl ?_; try walk_at "dl") | (refine DL.inY rfl (by decide) ?_; try walk_at "dl") | (refine DL.inN rfl (by decide) ?_; try walk_at "dl") | (refine DL.ifN (by decide) ?_; try walk_at "dl")))
abbrev s_l_kinds : Stmt := top 18
theorem sc_l_kinds : FnScope ["_law_deck_here", "_law_many", "_law_taken", "_law_kinds_here", "_law_k", "_law_word_here", "_law_way", "_law_at", "_law_sign", "_law_one"] ["_law_deck_here", "_law_many"] (defScope s_l_kinds) := ⟨rfl, rfl, rfl, by decide +kernel, rfl, by decide +kernel, by decide +kernel⟩
def spKinds : SpD := fun ds S Q => ∃ (a : Addr) (m : Nat), ds = [.ref a, .int (m : Nat)] ∧ Dk a S ∧ m ≤ 14 ∧
  ∀ (xs : List Str) (p : Addr) (S' : Store), Ch a S S' → S p = none → S' p = some (.lst (xs.map D.str)) → xs.length = m → xs.Nodup → (∀ x ∈ xs, Wd x) → Q (.ref p) S'
def KdI (S : Store) (a : Addr) (m : Nat) (q p : Addr) (tk : List Str) (i : Nat) : StD → Store → Prop := fun δ S' => ∃ (xs : List Str) (o4 o5 o6 o7 : Option D), δ = [some (.ref a), some (.int (m : Nat)), some (.ref q), some (.ref p), o4, o5, o6, o7, none, none] ∧
  Ch a S S' ∧ S' q = some (.lst (tk.map D.str)) ∧ S' p = some (.lst (xs.map D.str)) ∧ xs.length = i ∧ xs.Nodup ∧ ∀ x ∈ xs, Wd x
abbrev abcT : Str := "abcdefghijklmnopqrst"
theorem abcT_all : ∀ c ∈ abcT.cps.toList, chLow c := by decide +kernel
def qL : List Str := abcT.cps.toList.map fun c => ("q" : Str) ++ ⟨#[c]⟩
theorem qL_nd : qL.Nodup := by decide +kernel
theorem qL_len : qL.length = 20 := by decide +kernel
theorem qL_wd : ∀ x ∈ qL, Wd x := by
  intro x hx
  obtain ⟨c, hc, rfl⟩ := List.mem_map.mp hx
  have h1 := abcT_all c hc
  have e : (("q" : Str) ++ ⟨#[c]⟩ : Str).cps.toList = [113, c] := by rw [app_toList]; rfl
  refine ⟨fun z hz => ?_, ?_, ?_⟩
  · rw [e] at hz
    simp at hz
    rcases hz with rfl | rfl
    · decide
    · exact h1
  · rw [e]; simp
  · rw [e]; simp
section
variable {P : Program} {w : World} {K : PySem.W.Frag} {mg : Str → Option Value} {base : Heap}
theorem df_kinds {k : Nat} (T : Bt mg) (A : At K mg "_law_kinds" "_law_kinds" s_l_kinds) (G_l_draw : Df P w K mg base "_law_draw" k spDrawC) (G_l_word : Df P w K mg base "_law_word" k spWord) : Df P w K mg base "_law_kinds" (k + 1) spKinds := by
  have nd := sc_l_kinds.nd
  refine df_mk A rfl sc_l_kinds (fun _ _ _ _ _ _ us hl => match us, hl with | [_, _], _ => rfl) (fun ds S Q h => ?_) (fun f cdv A outer s H E hr ds S Q h => ?_)
  · obtain ⟨a, m, rfl, _⟩ := h
    rfl
  obtain ⟨a, m, rfl, hd, h1, h⟩ := h
  have hu := hu_of hr
  refine ⟨_, (dss_cons (ds_set (i := 2) nd rfl (Or.inl rfl) de_str)
    (dss_cons (ds_set (i := 2) nd rfl (Or.inl rfl) (de_m PySem.F.plainAttrs_str PySem.F.slot_str_split PySem.F.type_str_split md_split (de_op od_add (dv 2) de_str) (da_cons de_str da_nil)))
    (dss_cons (ds_set (i := 3) nd rfl (Or.inr rfl) (de_lst da_nil))
    (dss_cons (ds_for PassesOwn.never rfl (di_range1 rfl T.range_ (da_cons (dv 1) da_nil)) (dg_name (i := 4) nd rfl (Or.inl rfl)) (dss_cons (ds_set (i := 5) nd rfl (Or.inl rfl) (de_call G_l_word hr rfl (da_cons (dv 0) (da_cons de_int (da_cons de_int da_nil)))))
    (dss_cons (ds_set (i := 6) nd rfl (Or.inl rfl) (de_call G_l_draw hr rfl (da_cons (dv 0) (da_cons de_int da_nil))))
    (dss_cons (ds_if (dt_w (dw_and (dt_cmp (od_eq hr.units) (dv 6) de_int (nomark _)) (dw_and1 (dt_cmp (od_neE hr.units) (dv 3) (de_lst da_nil) (nomark _))))) (dss_one (ds_set (i := 5) nd rfl (Or.inl rfl) (de_slice (de_op od_add (de_ix hu (dv 3) de_int) (dv 5)) do_none (do_some de_int)))) dss_nil)
    (dss_cons (ds_if (dt_w (dw_and (dt_cmp (od_eq hr.units) (dv 6) de_int (nomark _)) (dw_and1 (dt_cmp (od_neE hr.units) (dv 3) (de_lst da_nil) (nomark _))))) (dss_cons (ds_set (i := 7) nd rfl (Or.inl rfl) (de_call G_l_draw hr rfl (da_cons (dv 0) (da_cons (de_callB cd_len rfl T.len_ (by decide +kernel) (da_cons (de_ix hu (dv 3) de_int) da_nil)) da_nil))))
    (dss_one (ds_set (i := 5) nd rfl (Or.inl rfl) (de_op od_add (de_op od_add (de_slice (de_ix hu (dv 3) de_int) do_none (do_some (dv 7))) (de_ix hu (dv 5) de_int)) (de_slice (de_ix hu (dv 3) de_int) (do_some (de_op od_add (dv 7) de_int)) do_none))))) dss_nil)
    (dss_cons (ds_if (dt_w (dw_or (dt_cmp (od_in hu) (dv 5) (dv 2) rfl) (dw_or1 (dt_cmp (od_in hu) (dv 5) (dv 3) rfl)))) (dss_one (ds_set (i := 5) nd rfl (Or.inl rfl) (de_ix hu (de_lc (own := [("_law_one", 9)]) (g := GD.one 9) rfl nd (di_any (de_lc (own := [("_law_sign", 8)]) (g := GD.one 8) rfl nd (di_any de_str) (blkOk_by (own := [("_law_sign", 8)]) (N := ["_law_deck_here", "_law_many", "_law_taken", "_law_kinds_here", "_law_k", "_law_word_here", "_law_way", "_law_at", "_law_sign", "_law_one"]) (sc := defScope s_l_kinds) (by decide +kernel)) (fun _ _ _ _ _ => (dg_name (i := 8) nd rfl (Or.inl rfl))) (fun _ _ _ _ _ => dts_nil) (fun _ _ _ _ _ => (de_op od_add de_str (dv 8))))) (blkOk_by (own := [("_law_one", 9)]) (N := ["_law_deck_here", "_law_many", "_law_taken", "_law_kinds_here", "_law_k", "_law_word_here", "_law_way", "_law_at", "_law_sign", "_law_one"]) (sc := defScope s_l_kinds) (by decide +kernel)) (fun _ _ _ _ _ => (dg_name (i := 9) nd rfl (Or.inl rfl))) (fun _ _ _ _ _ => (dts_one (dt_cmp (od_notIn hu) (dv 9) (dv 3) rfl))) (fun _ _ _ _ _ => (dv 9))) de_int))) dss_nil)
    (dss_one (ds_expr (de_m PySem.F.plainAttrs_list PySem.F.slot_list_append PySem.F.type_list_append md_append (dv 3) (da_cons (dv 5) da_nil))))))))))
    (dss_one (ds_ret (dv 3))))))), ?_⟩
  walk_at "go"
  refine ⟨by decide +kernel, ty_str, ?_⟩
  refine ⟨by decide +kernel, by decide +kernel, fun q nq => ?_⟩
  walk_at "go"
  intro p np
  have pa : q ≠ p := fun z => by rw [z, put_same] at np; cases np
  have np' : S p = none := by rw [put_ne pa.symm] at np; exact np
  generalize Txt.split (("absurd all an and any are as at be by false if is least many more no not only or same some than" : Str) ++ (" the then there every either unless" : Str)) (" " : Str) = tk at np
  refine sq ?_
  walk_at "dl"
  refine ⟨by omega, ?_⟩
  rw [Int.toNat_natCast]
  refine forB_rng (KdI S a m q p tk) ?_ ?_ ?_
  · exact ⟨[], none, none, none, none, rfl, ((Ch.refl hd).at hd nq).at hd np', by rw [put_ne pa, put_same], put_same, rfl, List.nodup_nil, fun x hx => by cases hx⟩
  · rintro i δ S' hi ⟨xs, o4, o5, o6, o7, rfl, c2, hq, hp, hl, hn, hx⟩
    walk_at "go"
    refine ⟨a, 2, 8, rfl, c2.2, by decide, by decide, fun x S3 hx1 l2 l8 c3 => ?_⟩
    walk_at "go"
    refine ⟨a, _, rfl, c3.2, by decide, by decide, fun r S4 r0 r1 c4 => ?_⟩
    walk_at "dl"
    have c34 := c3.trans c4
    have hx2 : Wd x := ⟨hx1, by omega, l8⟩
    obtain ⟨ch, xr, ex⟩ : ∃ ch xr, x.cps.toList = ch :: xr := by
      cases e : x.cps.toList with
      | nil => rw [e] at l2; simp at l2
      | cons c r => exact ⟨c, r, rfl⟩
    have tail2 : ∀ y : Str, y.cps.toList ≠ [] → ∃ c r, y.cps.toList = c :: r := fun y hy => by
      cases e : y.cps.toList with
      | nil => exact absurd e hy
      | cons c r => exact ⟨c, r, rfl⟩
    -- the first way
    refine seq_cut (fun δ' S5 => ∃ (y : Str) (o7 : Option D), δ' = [some (.ref a), some (.int m), some (.ref q), some (.ref p), some (.int (0 + ↑i)), some (.str y), some (.int r), o7, none, none] ∧ Ch a S' S5 ∧ Wd y) (fun N hN => ?_) ?_
    · walk_at "dl"
      refine ite2 (fun e1 => ?_) (fun e1 => ?_)
      · walk_at "dl"
        intro e ne
        have c5 := c34.new (o := .lst []) c2.2 ne
        refine ⟨xs.map D.str, c5.get c2.2 hp, ?_⟩
        cases xs with
        | nil =>
          refine ifN (by simp) ?_
          exact hN _ _ ⟨x, _, rfl, c5, hx2⟩
        | cons z zs =>
          refine ifY (by simp) ?_
          walk_at "dl"
          have hp5 := c5.get c2.2 hp
          rw [hp5]
          walk_at "dl"
          have hz := hx z List.mem_cons_self
          refine ⟨szOk (by rw [len_toList, len_toList]; have := hz.2.2; omega), szOk (by rw [len_toList, app_toList, List.length_append]; have := hz.2.2; omega), ?_⟩
          refine hN _ _ ⟨_, _, rfl, c5, fun w hw => ?_, ?_, ?_⟩
          · rw [cutS_toList, app_toList] at hw
            rcases List.mem_append.mp (cutL_mem hw) with hw | hw
            · exact hz.1 w hw
            · exact hx1 w hw
          · rw [cutS_toList, app_toList]
            have := hz.2.1
            have e8 : 1 ≤ (z.cps.toList ++ x.cps.toList).length := by rw [List.length_append]; omega
            unfold cutL
            rw [show (8 : Int) = ((8 : Nat) : Int) from rfl, HT.sIx_nat, HT.sIx_none, List.length_take, List.length_drop]
            omega
          · rw [cutS_toList, app_toList]
            unfold cutL
            rw [show (8 : Int) = ((8 : Nat) : Int) from rfl, HT.sIx_nat, HT.sIx_none, List.length_take, List.length_drop]
            omega
      · walk_at "dl"
        exact hN _ _ ⟨x, _, rfl, c34, hx2⟩
    rintro δ' S5 ⟨y, o7', rfl, c5, hy⟩
    -- the second way
    refine seq_cut (fun δ' S6 => ∃ (y : Str) (o7 : Option D), δ' = [some (.ref a), some (.int m), some (.ref q), some (.ref p), some (.int (0 + ↑i)), some (.str y), some (.int r), o7, none, none] ∧ Ch a S' S6 ∧ Wd y) (fun N hN => ?_) ?_
    · walk_at "dl"
      refine ite2 (fun e1 => ?_) (fun e1 => ?_)
      · walk_at "dl"
        intro e ne
        have c6 := c5.new (o := .lst []) c2.2 ne
        refine ⟨xs.map D.str, c6.get c2.2 hp, ?_⟩
        cases xs with
        | nil =>
          refine ifN (by simp) ?_
          exact hN _ _ ⟨y, _, rfl, c6, hy⟩
        | cons z zs =>
          refine ifY (by simp) ?_
          have hz := hx z List.mem_cons_self
          walk_at "go"
          have hp6 := c6.get c2.2 hp
          rw [hp6]
          walk_at "dl"
          refine ⟨szOk (by rw [len_toList]; have := hz.2.2; omega), ?_⟩
          refine ⟨a, _, rfl, c6.2, by rw [len_toList]; have := hz.2.1; omega, by rw [len_toList]; have := hz.2.2; omega, fun at_ S7 a0 a1 c7 => ?_⟩
          walk_at "dl"
          have hp7 := c7.get c6.2 hp6
          rw [hp7]
          walk_at "dl"
          refine ⟨szOk (by rw [len_toList]; have := hz.2.2; omega), ?_⟩
          refine ixS (s := y) chLow hy.1 (by rw [len_toList]; have := hy.2.2; omega) (by omega) (by rw [len_toList]; have := hy.2.1; omega) fun ch' hch => ?_
          walk_at "dl"
          rw [len_toList] at a1
          have e1 : (⟨#[ch']⟩ : Str).length = 1 := rfl
          have e2 : (cutS z none (some at_)).cps.toList.length ≤ 8 := by rw [cutS_toList]; exact Nat.le_trans cutL_le hz.2.2
          have e3 : (cutS z (some (at_ + 1)) none).cps.toList.length ≤ 8 := by rw [cutS_toList]; exact Nat.le_trans cutL_le hz.2.2
          refine ⟨szOk (by rw [e1, len_toList]; omega), ?_⟩
          rw [hp7]
          walk_at "dl"
          refine ⟨szOk (by rw [len_toList]; have := hz.2.2; omega), szOk (by rw [len_toList, len_toList, app_toList, List.length_append]; have : (⟨#[ch']⟩ : Str).cps.toList.length = 1 := rfl; omega), ?_⟩
          have eL : ((cutS z none (some at_) ++ ⟨#[ch']⟩) ++ cutS z (some (at_ + 1)) none : Str).cps.toList.length = z.cps.toList.length := by
            rw [app_toList, app_toList, cutS_toList, cutS_toList, List.length_append, List.length_append]
            have : (⟨#[ch']⟩ : Str).cps.toList.length = 1 := rfl
            rw [this]
            obtain ⟨j, rfl⟩ : ∃ j : Nat, at_ = j := ⟨at_.toNat, by omega⟩
            unfold cutL
            rw [show ((j : Int) + 1) = ((j + 1 : Nat) : Int) from by omega, HT.sIx_nat, HT.sIx_nat, HT.sIx_none, HT.sIx_none, List.length_take, List.length_take, List.length_drop, List.length_drop]
            omega
          refine hN _ _ ⟨_, _, rfl, c6.trans c7, fun w hw => ?_, ?_, ?_⟩
          · rw [app_toList, app_toList, cutS_toList, cutS_toList] at hw
            rcases List.mem_append.mp hw with hw | hw
            · rcases List.mem_append.mp hw with hw | hw
              · exact hz.1 w (cutL_mem hw)
              · cases List.mem_singleton.mp hw; exact hch
            · exact hz.1 w (cutL_mem hw)
          · rw [eL]; exact hz.2.1
          · rw [eL]; exact hz.2.2
      · walk_at "dl"
        exact hN _ _ ⟨y, _, rfl, c5, hy⟩
    rintro δ' S6 ⟨y', o7', rfl, c6, hy'⟩
    have hp6 := c6.get c2.2 hp
    have hq6 := c6.get c2.2 hq
    -- none twice
    refine seq_cut (fun δ' S6 => ∃ (y : Str) (o7 : Option D), δ' = [some (.ref a), some (.int m), some (.ref q), some (.ref p), some (.int (0 + ↑i)), some (.str y), some (.int r), o7, none, none] ∧ Ch a S' S6 ∧ Wd y ∧ y ∉ xs) (fun N hN => ?_) ?_
    · walk_at "dl"
      rw [hq6]
      simp only [rInDO_sl, strsOf_of, Option.some.injEq, exists_eq_left', id]
      rw [hp6]
      simp only [rInDO_sl, strsOf_of, Option.some.injEq, exists_eq_left', id]
      refine orIf ?_ (fun n1 n2 => ?_)
      · intro r1 nr1
        refine lcB_zip (abcT.cps.toList.map fun c => D.str ⟨#[c]⟩) (qL.map D.str) (by simp [qL]) (fun k acc => ?_) (by rw [List.length_map]; exact szOk (by decide +kernel)) (fun k d r acc Y N' e1 e2 y => ?_) ?_
        · show some ((abcT.cps[k]?).map _) = some ((abcT.cps.toList.map _)[k]?)
          rw [List.getElem?_map]
          simp
        · rw [List.getElem?_map] at e1 e2
          unfold qL at e2
          rw [List.getElem?_map] at e2
          cases e : abcT.cps.toList[k]? with
          | none => rw [e] at e1; cases e1
          | some c =>
            rw [e] at e1 e2
            cases e1
            cases e2
            walk_at "dl"
            exact ⟨szOk (by rw [show ("q" : Str).length = 1 from by decide +kernel, show (⟨#[c]⟩ : Str).length = 1 from rfl]; decide), y⟩
        · have c7 := c6.new (o := .lst (qL.map D.str)) c2.2 nr1
          walk_at "dl"
          refine ⟨⟨_, rfl⟩, fun r2 nr2 => ?_⟩
          have hne : r1 ≠ r2 := fun z => by rw [z, put_same] at nr2; cases nr2
          refine lcB_flt qL (fun x => decide (x ∉ xs)) (fun k acc => ?_) (by rw [qL_len]; decide) (fun x acc N' hN' => ?_) (fun x S Y y => ?_) ?_
          · show lstJ (put (put S6 r1 _) r2 (.lst acc) r1) k = _
            rw [put_ne hne, put_same]
            rfl
          · walk_at "dl"
            have c8 := c7.new c2.2 nr2 (o := .lst acc)
            rw [c8.get c2.2 hp]
            walk_at "dl"
            refine ⟨xs, strsOf_of xs, ?_⟩
            rw [show (!decide (x ∈ xs)) = decide (x ∉ xs) from by simp]
            exact hN'
          · walk_at "dl"
            exact y
          · obtain ⟨x, rr, e, hxm, hxn⟩ := free_one (c := qL) (xs := xs) qL_nd (by rw [qL_len]; omega)
            rw [e]
            walk_at "dl"
            exact hN _ _ ⟨x, _, rfl, c7.new c2.2 nr2, qL_wd x hxm, hxn⟩
      · walk_at "dl"
        exact hN _ _ ⟨y', _, rfl, c6, hy', by simpa using n2⟩
    rintro δ' S7 ⟨z, o7'', rfl, c7, hz, hzn⟩
    walk_at "dl"
    have hp7 := c7.get c2.2 hp
    refine ⟨ty_list hp7, append_of hp7 (szLt (by rw [List.length_map]; omega)) ?_⟩
    refine ⟨xs ++ [z], _, _, _, _, rfl, (c2.trans c7).at hd np', by rw [put_ne pa]; exact c7.get c2.2 hq, by rw [put_same]; simp, by simp [hl], ?_, fun w hw => ?_⟩
    · rw [List.nodup_append]
      exact ⟨hn, by simp, fun u hu v hv e => by cases List.mem_singleton.mp hv; exact hzn (e ▸ hu)⟩
    · rcases List.mem_append.mp hw with hw | hw
      · exact hx w hw
      · cases List.mem_singleton.mp hw; exact hz
  · rintro δ S' ⟨xs, o4, o5, o6, o7, rfl, c2, hq, hp, hl, hn, hx⟩
    walk_at "dl"
    exact ⟨S', Sub.refl, h xs p S' c2 np' hp hl hn hx⟩
end
end K72

set_option Elab.async false
set_option maxRecDepth 100000
set_option linter.unusedVariables false
namespace DL
open PySem PySem.Spec PyProof.Rows L2
theorem seq_if {c : TTD} {t u rest : TSD} {G : EndsD} {δ : StD} {S : Store} (Pt Pf : Store → Prop) (hc : ∀ N : Bool → Store → Prop, (∀ S', Pt S' → N true S') → (∀ S', Pf S' → N false S') → c δ S N)
    (ht : ∀ S', Pt S' → t { G with nx := rest G } δ S') (hf : ∀ S', Pf S' → u { G with nx := rest G } δ S') : tSeqD (tIfSD c t u) rest G δ S :=
  hc _ (fun S' p => by show if true = true then _ else _; rw [if_pos rfl]; exact ht S' p) fun S' p => by show if false = true then _ else _; rw [if_neg (by simp)]; exact hf S' p
end DL
namespace K72
open PySem PySem.Spec PyProof.Rows L2 DL
local macro_rules | `(tactic| walk_at "dl") => `(tactic| try simp only [DL.tAsgD, DL.asg, DL.tVarD, DL.lk, DL.sto, DL.stos, DL.tOpD, DL.tCD, DL.tCallD, DL.tConsD, DL.tNilD, DL.tRetD, DL.endsD, DL.startD, DL.tIfSD, DL.tTestD, DL.tNextD, DL.tDropD, DL.tAndD, DL.tOrD, DL.tNotD, DL.tAndV, DL.tOrV, DL.tNotV, DL.tIfD, DL.tNegD, DL.tTupD, DL.tLstD, DL.tSetD, DL.tMD, DL.tSlD, DL.tPartD, DL.tNoD, DL.tRevD, DL.tForD, DL.tLcD, DL.tIterD, DL.tRng1D, DL.tRng2D, DL.tYesD, DL.wipeD, DL.tDictD, DL.tDictOne, DL.keyOf, DL.emE_rr, DL.tLess, DL.tLessS, DL.itOk, DL.rAdd_ii, DL.rAdd_ss, DL.rAdd_tt, DL.rAdd_rr, DL.rSub_ii, DL.rMod_ii, DL.rDiv_ii, DL.rPow_ii, DL.rMul_ii, DL.rMul_ri, DL.rLt_ii, DL.rLt_ss, DL.rLe_ii, DL.rGt_ii, DL.rGe_ii, DL.rEq_ii, DL.rEq_ss, DL.rEq_bb, DL.rNe_ii, DL.rNe_ss, DL.rNe_bb, DL.rEq_rr, DL.rNe_rr, DL.rEq_tt, DL.rNe_tt, DL.rIn_st, DL.rNotIn_st, DL.rIn_r, DL.rNotIn_r, DL.rIn_ss, DL.rInDO_sl, DL.rInDO_il, DL.rInDO_sd, DL.rInDO_id, DL.rIsN_n, DL.rIsN_t, DL.rIsN_i, DL.rIsN_s, DL.rIsN_r, DL.rNotN_n, DL.rNotN_t, DL.rNotN_i, DL.rNotN_s, DL.rNotN_r, DL.rIx_t, DL.rIx_r, DL.rIx_s, DL.rIxDO_l, DL.rIxDO_ds, DL.rIx0, DL.rIx1, DL.rIx2, DL.rIx3, DL.rSl_t, DL.rSl_s, DL.rSl_o, DL.rSl_r, DL.rSlDO, DL.rSet_r, DL.rSetDO_0, DL.rSetDO_s, DL.rLen_t, DL.rLen_o, DL.rLen_s, DL.rLen_r, DL.rLenDO, DL.rLenDO_d, DL.rList_t, DL.rList_o, DL.rList_r, DL.rListDO, DL.rTuple_t, DL.rTuple_r, DL.rInt_i, DL.rInt_b, DL.rMax, DL.rMin, DL.rSz0, DL.rSz1, DL.rSz2, DL.rSz3, DL.rSz4, DL.rSz5, DL.rSz6, DL.rSz7, DL.rSz8, Option.some.injEq, DL.DO.lst.injEq, exists_eq_left', exists_eq_left, DL.put_same, DL.put_put, true_and, and_true, List.map, List.replicate, List.length, List.cons_append, List.nil_append, Nat.reduceSub, Nat.reduceAdd, decide_eq_true_eq, if_true, if_false, Bool.false_eq_true, Bool.not_true, Bool.not_false])
local macro_rules | `(tactic| walk_at "dlh") => `(tactic| try simp only [*, DL.tAsgD, DL.asg, DL.tVarD, DL.lk, DL.sto, DL.stos, DL.tOpD, DL.tCD, DL.tCallD, DL.tConsD, DL.tNilD, DL.tRetD, DL.endsD, DL.startD, DL.tIfSD, DL.tTestD, DL.tNextD, DL.tDropD, DL.tAndD, DL.tOrD, DL.tNotD, DL.tAndV, DL.tOrV, DL.tNotV, DL.tIfD, DL.tNegD, DL.tTupD, DL.tLstD, DL.tSetD, DL.tMD, DL.tSlD, DL.tPartD, DL.tNoD, DL.tRevD, DL.tForD, DL.tLcD, DL.tIterD, DL.tRng1D, DL.tRng2D, DL.tYesD, DL.wipeD, DL.tDictD, DL.tDictOne, DL.keyOf, DL.emE_rr, DL.tLess, DL.tLessS, DL.itOk, DL.rAdd_ii, DL.rAdd_ss, DL.rAdd_tt, DL.rAdd_rr, DL.rSub_ii, DL.rMod_ii, DL.rDiv_ii, DL.rPow_ii, DL.rMul_ii, DL.rMul_ri, DL.rLt_ii, DL.rLt_ss, DL.rLe_ii, DL.rGt_ii, DL.rGe_ii, DL.rEq_ii, DL.rEq_ss, DL.rEq_bb, DL.rNe_ii, DL.rNe_ss, DL.rNe_bb, DL.rEq_rr, DL.rNe_rr, DL.rEq_tt, DL.rNe_tt, DL.rIn_st, DL.rNotIn_st, DL.rIn_r, DL.rNotIn_r, DL.rIn_ss, DL.rInDO_sl, DL.rInDO_il, DL.rInDO_sd, DL.rInDO_id, DL.rIsN_n, DL.rIsN_t, DL.rIsN_i, DL.rIsN_s, DL.rIsN_r, DL.rNotN_n, DL.rNotN_t, DL.rNotN_i, DL.rNotN_s, DL.rNotN_r, DL.rIx_t, DL.rIx_r, DL.rIx_s, DL.rIxDO_l, DL.rIxDO_ds, DL.rIx0, DL.rIx1, DL.rIx2, DL.rIx3, DL.rSl_t, DL.rSl_s, DL.rSl_o, DL.rSl_r, DL.rSlDO, DL.rSet_r, DL.rSetDO_0, DL.rSetDO_s, DL.rLen_t, DL.rLen_o, DL.rLen_s, DL.rLen_r, DL.rLenDO, DL.rLenDO_d, DL.rList_t, DL.rList_o, DL.rList_r, DL.rListDO, DL.rTuple_t, DL.rTuple_r, DL.rInt_i, DL.rInt_b, DL.rMax, DL.rMin, DL.rSz0, DL.rSz1, DL.rSz2, DL.rSz3, DL.rSz4, DL.rSz5, DL.rSz6, DL.rSz7, DL.rSz8, Option.some.injEq, DL.DO.lst.injEq, exists_eq_left', exists_eq_left, DL.put_same, DL.put_put, true_and, and_true, List.map, List.replicate, List.length, List.cons_append, List.nil_append, Nat.reduceSub, Nat.reduceAdd, decide_eq_true_eq, if_true, if_false, Bool.false_eq_true, Bool.not_true, Bool.not_false])
local macro_rules | `(tactic| walk_at "go") => `(tactic| repeat (first | (refine DL.sq ?_; try walk_at "dl") | (refine DL.ifY rfl ?_; try walk_at "dl") | (refine DL.inY rfl (by decide) ?_; try walk_at "dl") | (refine DL.inN rfl (by decide) ?_; try walk_at "dl") | (refine DL.ifN (by decide) ?_; try walk_at "dl")))
abbrev s_l_leaf : Stmt := top 21
theorem sc_l_leaf : FnScope ["_law_deck_here", "_law_words", "_law_terms", "_law_names_here", "_law_kinds_here", "_law_doings", "_law_way", "_law_one", "_law_other"] ["_law_deck_here", "_law_words", "_law_terms"] (defScope s_l_leaf) := ⟨rfl, rfl, rfl, by decide +kernel, rfl, by decide +kernel, by decide +kernel⟩
abbrev s_l_form : Stmt := top 22
theorem sc_l_form : FnScope ["_law_deck_here", "_law_words", "_law_letters", "_law_deep", "_law_mark", "_law_way", "_law_terms", "_law_x", "_law_inner", "_law_one"] ["_law_deck_here", "_law_words", "_law_letters", "_law_deep", "_law_mark"] (defScope s_l_form) := ⟨rfl, rfl, rfl, by decide +kernel, rfl, by decide +kernel, by decide +kernel⟩
abbrev s_l_deeper : Stmt := top 23
theorem sc_l_deeper : FnScope ["_law_deck_here", "_law_words", "_law_letters", "_law_deep", "_law_mark", "_law_way", "_law_x", "_law_inner", "_law_turned", "_law_pair", "_law_one"] ["_law_deck_here", "_law_words", "_law_letters", "_law_deep", "_law_mark"] (defScope s_l_deeper) := ⟨rfl, rfl, rfl, by decide +kernel, rfl, by decide +kernel, by decide +kernel⟩
abbrev s_l_shape : Stmt := top 24
theorem sc_l_shape : FnScope ["_law_deck_here", "_law_words", "_law_letters", "_law_far"] ["_law_deck_here", "_law_words", "_law_letters", "_law_far"] (defScope s_l_shape) := ⟨rfl, rfl, rfl, by decide +kernel, rfl, by decide +kernel, by decide +kernel⟩
structure Wrds (S : Store) (pn pk pd : Addr) (ns ks dos : List Str) : Prop where
  n : S pn = some (.lst (ns.map D.str))
  k : S pk = some (.lst (ks.map D.str))
  d : S pd = some (.lst (dos.map D.str))
  ln : ns.length ≤ 50
  lk : ks.length ≤ 50
  ld : dos.length ≤ 50
theorem Wrds.ch {S S' : Store} {a pn pk pd : Addr} {ns ks dos : List Str} (w : Wrds S pn pk pd ns ks dos) (d : Dk a S) (c : Ch a S S') : Wrds S' pn pk pd ns ks dos := ⟨c.get d w.n, c.get d w.k, c.get d w.d, w.ln, w.lk, w.ld⟩
abbrev wrds (pn pk pd : Addr) : D := .tup [.ref pn, .ref pk, .ref pd]
def spLeaf : SpD := fun ds S Q => ∃ (a pn pk pd pt : Addr) (ns ks dos ts : List Str), ds = [.ref a, wrds pn pk pd, .ref pt] ∧ Dk a S ∧ Wrds S pn pk pd ns ks dos ∧ S pt = some (.lst (ts.map D.str)) ∧ ts ≠ [] ∧ ts.length ≤ 200 ∧
  ∀ (F : Fm) (S' : Store), Ch a S S' → F.ok (· ∈ ts) (· ∈ ks) (· ∈ dos) → F.ht = 1 → F.sz = 1 → Q F.d S'
def emp (xs : List Str) : Nat := if xs.isEmpty = true then 1 else 0
def spForm (n : Nat) : SpD := fun ds S Q => ∃ (TT : Str → Prop) (a pn pk pd pl : Addr) (ns ks dos ls : List Str) (deep : Nat) (mark : Str), ds = [.ref a, wrds pn pk pd, .ref pl, .int (deep : Nat), .str mark] ∧ Dk a S ∧ Wrds S pn pk pd ns ks dos ∧ S pl = some (.lst (ls.map D.str)) ∧
  ls.length + deep + emp (ns ++ ls) ≤ 60 ∧ deep + emp (ns ++ ls) < n ∧ (∀ x ∈ ns, TT x) ∧ (∀ x ∈ ls, TT x) ∧ (∀ c, chLt c → TT ((⟨#[c]⟩ : Str) ++ mark)) ∧ mark.length ≤ 5 ∧
  ∀ (F : Fm) (S' : Store), Ch a S S' → F.ok TT (· ∈ ks) (· ∈ dos) → F.ht ≤ deep + 1 + emp (ns ++ ls) → F.sz + 1 ≤ 2 ^ (deep + 1) + emp (ns ++ ls) → Q F.d S'
theorem emp_snoc {ns ls : List Str} {x : Str} : emp (ns ++ (ls ++ [x])) = 0 := by unfold emp; simp
theorem emp_0 {xs : List Str} (h : xs.isEmpty = false) : emp xs = 0 := by unfold emp; simp [h]
theorem emp_1 {xs : List Str} (h : xs.isEmpty = true) : emp xs = 1 := by unfold emp; simp [h]
theorem emp_le {xs : List Str} : emp xs ≤ 1 := by unfold emp; split <;> omega
section
variable {P : Program} {w : World} {K : PySem.W.Frag} {mg : Str → Option Value} {base : Heap}
theorem df_leaf {k : Nat} (T : Bt mg) (A : At K mg "_law_leaf" "_law_leaf" s_l_leaf) (G_l_draw : Df P w K mg base "_law_draw" k spDrawC) : Df P w K mg base "_law_leaf" (k + 1) spLeaf := by
  have nd := sc_l_leaf.nd
  refine df_mk A rfl sc_l_leaf (fun _ _ _ _ _ _ us hl => match us, hl with | [_, _, _], _ => rfl) (fun ds S Q h => ?_) (fun f cdv A outer s H E hr ds S Q h => ?_)
  · obtain ⟨a, pn, pk, pd, pt, ns, ks, dos, ts, rfl, _⟩ := h
    rfl
  obtain ⟨a, pn, pk, pd, pt, ns, ks, dos, ts, rfl, hd, hw, ht, hne, hl, h⟩ := h
  have hu := hu_of hr
  have hts : 0 < ts.length := List.length_pos_iff.mpr hne
  refine ⟨_, (dss_cons (ds_asg (dv 1) (dg_tup rfl (dgs_cons (dg_name (i := 3) nd rfl (Or.inl rfl)) (dgs_cons (dg_name (i := 4) nd rfl (Or.inl rfl)) (dgs_cons (dg_name (i := 5) nd rfl (Or.inl rfl)) dgs_nil)))))
    (dss_cons (ds_set (i := 6) nd rfl (Or.inl rfl) (de_call G_l_draw hr rfl (da_cons (dv 0) (da_cons de_int da_nil))))
    (dss_cons (ds_set (i := 7) nd rfl (Or.inl rfl) (de_ix hu (dv 2) (de_op od_sub (de_op od_sub (de_callB cd_len rfl T.len_ (by decide +kernel) (da_cons (dv 2) da_nil)) de_int) (de_op od_div (de_call G_l_draw hr rfl (da_cons (dv 0) (da_cons (de_callB cd_len rfl T.len_ (by decide +kernel) (da_cons (dv 2) da_nil)) da_nil))) de_int))))
    (dss_cons (ds_set (i := 8) nd rfl (Or.inl rfl) (de_ix hu (dv 2) (de_call G_l_draw hr rfl (da_cons (dv 0) (da_cons (de_callB cd_len rfl T.len_ (by decide +kernel) (da_cons (dv 2) da_nil)) da_nil)))))
    (dss_cons (ds_if (dt_w (dw_and (dt_cmp (od_neE hr.units) (dv 5) (de_lst da_nil) (nomark _)) (dw_and1 (dt_cmp (od_eq hr.units) (dv 6) de_int (nomark _))))) (dss_one (ds_ret (de_tup (da_cons de_str (da_cons (de_ix hu (dv 5) (de_call G_l_draw hr rfl (da_cons (dv 0) (da_cons (de_callB cd_len rfl T.len_ (by decide +kernel) (da_cons (dv 5) da_nil)) da_nil)))) (da_cons (dv 7) (da_cons (dv 8) da_nil))))))) dss_nil)
    (dss_cons (ds_if (dt_w (dw_and (dt_cmp (od_neE hr.units) (dv 4) (de_lst da_nil) (nomark _)) (dw_and1 (dt_cmp (od_ne hr.units) (dv 6) de_int (nomark _))))) (dss_one (ds_ret (de_tup (da_cons de_str (da_cons (dv 7) (da_cons (de_ix hu (dv 4) (de_op od_sub (de_op od_sub (de_callB cd_len rfl T.len_ (by decide +kernel) (da_cons (dv 4) da_nil)) de_int) (de_op od_div (de_call G_l_draw hr rfl (da_cons (dv 0) (da_cons (de_callB cd_len rfl T.len_ (by decide +kernel) (da_cons (dv 4) da_nil)) da_nil))) (de_op od_add de_int (de_op od_mod (dv 6) de_int))))) da_nil)))))) dss_nil)
    (dss_one (ds_ret (de_tup (da_cons de_str (da_cons (dv 7) (da_cons (dv 8) da_nil)))))))))))), ?_⟩
  walk_at "go"
  refine ⟨a, _, rfl, hd, by decide, by decide, fun r S1 r0 r1 c1 => ?_⟩
  walk_at "go"
  have ht1 := c1.get hd ht
  rw [ht1]
  walk_at "dl"
  rw [ht1]
  walk_at "dl"
  rw [List.length_map]
  refine ⟨a, _, rfl, c1.2, by omega, by omega, fun r2 S2 q0 q1 c2' => ?_⟩
  have c2 := c1.trans c2'
  have ht2 := c2.get hd ht
  walk_at "dl"
  refine ⟨⟨by decide, by decide⟩, ?_⟩
  rw [ht2]
  walk_at "dl"
  refine ixStrs_mem (by omega) (by omega) fun t1 m1 => ?_
  walk_at "go"
  rw [ht2]
  walk_at "dl"
  rw [List.length_map]
  refine ⟨a, _, rfl, c2.2, by omega, by omega, fun r3 S3 p0 p1 c3' => ?_⟩
  have c3 := c2.trans c3'
  have ht3 := c3.get hd ht
  have w3 := hw.ch hd c3
  walk_at "dl"
  rw [ht3]
  walk_at "dl"
  refine ixStrs_mem (by omega) (by omega) fun t2 m2 => ?_
  refine seq_cut (fun δ' S4 => δ' = [some (.ref a), some (wrds pn pk pd), some (.ref pt), some (.ref pn), some (.ref pk), some (.ref pd), some (.int r), some (.str t1), some (.str t2)] ∧ Ch a S S4) (fun N hN => ?_) ?_
  · walk_at "dl"
    intro e ne
    have c4 := c3.new (o := .lst []) hd ne
    have w4 := hw.ch hd c4
    refine ⟨dos.map D.str, w4.d, ?_⟩
    cases dos with
    | nil =>
      refine ifN (by simp) ?_
      exact hN _ _ ⟨rfl, c4⟩
    | cons z zs =>
      refine ifY (by simp) (ite2 (fun e1 => ?_) (fun e1 => ?_))
      · walk_at "dl"
        have := w4.ld
        rw [w4.d]
        walk_at "dl"
        refine ⟨a, _, rfl, c4.2, by simp <;> omega, by simp at this ⊢; omega, fun r4 S5 g0 g1 c5' => ?_⟩
        have c5 := c4.trans c5'
        have w5 := hw.ch hd c5
        walk_at "dl"
        rw [w5.d]
        walk_at "dl"
        refine ixStrs_mem (xs := z :: zs) g0 (by simp at g1 ⊢; omega) fun dd md => ?_
        walk_at "dl"
        exact ⟨S5, Sub.refl, h (.does dd t1 t2) S5 c5 ⟨md, m1, m2⟩ rfl rfl⟩
      · exact hN _ _ ⟨rfl, c4⟩
  rintro δ' S4 ⟨rfl, c4⟩
  refine seq_cut (fun δ' S4 => δ' = [some (.ref a), some (wrds pn pk pd), some (.ref pt), some (.ref pn), some (.ref pk), some (.ref pd), some (.int r), some (.str t1), some (.str t2)] ∧ Ch a S S4) (fun N hN => ?_) ?_
  · walk_at "dl"
    intro e ne
    have c5 := c4.new (o := .lst []) hd ne
    have w5 := hw.ch hd c5
    refine ⟨ks.map D.str, w5.k, ?_⟩
    cases ks with
    | nil =>
      refine ifN (by simp) ?_
      exact hN _ _ ⟨rfl, c5⟩
    | cons z zs =>
      refine ifY (by simp) (ite2 (fun e1 => ?_) (fun e1 => ?_))
      · walk_at "dl"
        have := w5.lk
        rw [w5.k]
        walk_at "dl"
        rw [w5.k]
        walk_at "dl"
        refine ⟨a, _, rfl, c5.2, by simp <;> omega, by simp at this ⊢; omega, fun r4 S5 g0 g1 c6' => ?_⟩
        have c6 := c5.trans c6'
        have w6 := hw.ch hd c6
        walk_at "dl"
        refine ⟨by decide, ⟨by omega, by omega⟩, ?_⟩
        rw [w6.k]
        walk_at "dl"
        have e2 : 0 ≤ r4 / (1 + r % 2) := Int.ediv_nonneg g0 (by omega)
        have e3 : r4 / (1 + r % 2) ≤ r4 := Int.ediv_le_self _ g0
        refine ixStrs_mem (xs := z :: zs) (by simp at g1 ⊢; omega) (by simp at g1 ⊢; omega) fun kk mk => ?_
        walk_at "dl"
        exact ⟨S5, Sub.refl, h (.is t1 kk) S5 c6 ⟨m1, mk⟩ rfl rfl⟩
      · exact hN _ _ ⟨rfl, c5⟩
  rintro δ' S5 ⟨rfl, c5⟩
  walk_at "dl"
  exact ⟨S5, Sub.refl, h (.same t1 t2) S5 c5 ⟨m1, m2⟩ rfl rfl⟩
theorem df_form {k : Nat} (T : Bt mg) (A : At K mg "_law_form" "_law_form" s_l_form) (Gd : Df P w K mg base "_law_draw" k spDrawC) (Gl : Df P w K mg base "_law_leaf" k spLeaf) (n : Nat) : Df P w K mg base "_law_form" (k + n + 1) (spForm n) := by
  have nd := sc_l_form.nd
  induction n with
  | zero =>
    refine df_mk A rfl sc_l_form (fun _ _ _ _ _ _ us hl => match us, hl with | [_, _, _, _, _], _ => rfl) (fun ds S Q h => ?_) (fun f cdv A outer s H E hr ds S Q h => ?_)
    · obtain ⟨TT, a, pn, pk, pd, pl, ns, ks, dos, ls, deep, mark, rfl, _⟩ := h
      rfl
    · obtain ⟨TT, a, pn, pk, pd, pl, ns, ks, dos, ls, deep, mark, rfl, _, _, _, _, h, _⟩ := h
      omega
  | succ n G_l_form =>
  have G_l_draw := Gd.mono (show k ≤ k + n + 1 by omega)
  have G_l_leaf := Gl.mono (show k ≤ k + n + 1 by omega)
  refine df_mk A rfl sc_l_form (fun _ _ _ _ _ _ us hl => match us, hl with | [_, _, _, _, _], _ => rfl) (fun ds S Q h => ?_) (fun f cdv A outer s H E hr ds S Q h => ?_)
  · obtain ⟨TT, a, pn, pk, pd, pl, ns, ks, dos, ls, deep, mark, rfl, _⟩ := h
    rfl
  obtain ⟨TT, a, pn, pk, pd, pl, ns, ks, dos, ls, deep, mark, rfl, hd, hw, hl, hz, hn, hTn, hTl, hTm, hm, h⟩ := h
  have hu := hu_of hr
  refine ⟨_, (dss_cons (ds_set (i := 5) nd rfl (Or.inl rfl) (de_call G_l_draw hr rfl (da_cons (dv 0) (da_cons de_int da_nil))))
    (dss_cons (ds_set (i := 6) nd rfl (Or.inl rfl) (de_op od_add (de_ix hu (dv 1) de_int) (dv 2)))
    (dss_cons (ds_if (dt_w (dw_or (dt_w (dw_and (dt_cmp od_gt (dv 3) de_int (nomark _)) (dw_and1 (dt_cmp od_gt (dv 5) de_int (nomark _))))) (dw_or1 (dt_cmp (od_eqE hr.units) (dv 6) (de_lst da_nil) (nomark _))))) (dss_cons (ds_set (i := 7) nd rfl (Or.inr rfl) (de_op od_add (de_ix hu de_str (de_call G_l_draw hr rfl (da_cons (dv 0) (da_cons de_int da_nil)))) (dv 4)))
    (dss_cons (ds_set (i := 8) nd rfl (Or.inl rfl) (de_op od_add (de_lc (own := [("_law_one", 9)]) (g := GD.one 9) rfl nd (di_any (dv 2)) (blkOk_by (own := [("_law_one", 9)]) (N := ["_law_deck_here", "_law_words", "_law_letters", "_law_deep", "_law_mark", "_law_way", "_law_terms", "_law_x", "_law_inner", "_law_one"]) (sc := defScope s_l_form) (by decide +kernel)) (fun _ _ _ _ _ => (dg_name (i := 9) nd rfl (Or.inl rfl))) (fun _ _ _ _ _ => (dts_one (dt_cmp (od_ne hr.units) (dv 9) (dv 7) (nomark _)))) (fun _ _ _ _ _ => (dv 9))) (de_lst (da_cons (dv 7) da_nil))))
    (dss_one (ds_ret (de_tup (da_cons (de_ix hu (de_lst (da_cons de_str (da_cons de_str da_nil))) (de_op od_mod (dv 5) de_int)) (da_cons (dv 7) (da_cons (de_call G_l_form hr rfl (da_cons (dv 0) (da_cons (dv 1) (da_cons (dv 8) (da_cons (de_callB (cd_max2 rfl) rfl T.max_ (by decide +kernel) (da_cons de_int (da_cons (de_op od_sub (dv 3) de_int) da_nil))) (da_cons (dv 4) da_nil)))))) da_nil)))))))) dss_nil)
    (dss_cons (ds_if (dt_w (dw_or (dt_cmp (od_eq hr.units) (dv 3) de_int (nomark _)) (dw_or1 (dt_cmp od_lt (dv 5) de_int (nomark _))))) (dss_one (ds_ret (de_call G_l_leaf hr rfl (da_cons (dv 0) (da_cons (dv 1) (da_cons (dv 6) da_nil)))))) dss_nil)
    (dss_cons (ds_set (i := 9) nd rfl (Or.inl rfl) (de_call G_l_form hr rfl (da_cons (dv 0) (da_cons (dv 1) (da_cons (dv 2) (da_cons (de_op od_sub (dv 3) de_int) (da_cons (dv 4) da_nil)))))))
    (dss_cons (ds_if (dt_cmp (od_eq hr.units) (dv 5) de_int (nomark _)) (dss_one (ds_ret (de_tup (da_cons de_str (da_cons (dv 9) da_nil))))) dss_nil)
    (dss_one (ds_ret (de_tup (da_cons (de_ix hu (de_lst (da_cons de_str (da_cons de_str (da_cons de_str da_nil)))) (de_op od_mod (dv 5) de_int)) (da_cons (dv 9) (da_cons (de_call G_l_form hr rfl (da_cons (dv 0) (da_cons (dv 1) (da_cons (dv 2) (da_cons (de_op od_sub (dv 3) de_int) (da_cons (dv 4) da_nil)))))) da_nil)))))))))))), ?_⟩
  walk_at "go"
  refine ⟨a, _, rfl, hd, by decide, by decide, fun r S1 r0 r1 c1 => ?_⟩
  walk_at "go"
  have w1 := hw.ch hd c1
  refine ⟨_, _, w1.n, c1.get hd hl, szOk (by rw [List.length_map, List.length_map]; have := hw.ln; omega), fun pt npt => ?_⟩
  have c2 := c1.new (o := .lst (ns.map D.str ++ ls.map D.str)) hd npt
  rw [← List.map_append] at c2 ⊢
  have ht2 : put S1 pt (.lst ((ns ++ ls).map D.str)) pt = some (.lst ((ns ++ ls).map D.str)) := put_same
  generalize put S1 pt (.lst ((ns ++ ls).map D.str)) = S2 at c2 ht2
  have q2 : 1 ≤ 2 ^ deep := Nat.one_le_two_pow
  have q3 : 2 ^ (deep + 1) = 2 * 2 ^ deep := by rw [Nat.pow_succ]; omega
  refine seq_if (fun S3 => Ch a S S3 ∧ (0 < deep ∨ emp (ns ++ ls) = 1)) (fun S3 => Ch a S S3 ∧ S3 pt = some (.lst ((ns ++ ls).map D.str)) ∧ emp (ns ++ ls) = 0) (fun N N1 N2 => ?_) ?_ ?_
  · walk_at "dl"
    have last : ∀ e, S2 e = none → ∃ xs, put S2 e (DO.lst []) pt = some (.lst xs) ∧ N (id xs.isEmpty) (put S2 e (.lst [])) := by
      intro e ne
      have c3 := c2.new (o := .lst []) hd ne
      have ee : pt ≠ e := fun z => by rw [z, ne] at ht2; cases ht2
      refine ⟨_, (put_ne ee).trans ht2, ?_⟩
      cases e3 : (ns ++ ls).isEmpty with
      | true =>
        have e4 : ((ns ++ ls).map D.str).isEmpty = true := by simpa using e3
        rw [e4]
        exact N1 _ ⟨c3, .inr (emp_1 e3)⟩
      | false =>
        have e4 : ((ns ++ ls).map D.str).isEmpty = false := by simpa using e3
        rw [e4]
        exact N2 _ ⟨c3, (put_ne ee).trans ht2, emp_0 e3⟩
    refine ite2 (fun e1 => ite2 (fun e2 => ?_) (fun e2 => ?_)) (fun e1 => ?_)
    · exact N1 _ ⟨c2, .inl (by omega)⟩
    · exact last
    · exact last
  · rintro S3 ⟨c3, hor⟩
    walk_at "go"
    refine ⟨a, _, rfl, c3.2, by decide, by decide, fun r2 S4 g0 g1 c4' => ?_⟩
    have c4 := c3.trans c4'
    walk_at "dl"
    refine ixS (s := "uvwxyz") chLt (by decide +kernel) (by decide +kernel) g0 (by rw [show ("uvwxyz" : Str).length = 6 from by decide +kernel]; exact g1) fun ch hch => ?_
    walk_at "dl"
    refine ⟨szOk (by rw [show (⟨#[ch]⟩ : Str).length = 1 from rfl]; omega), ?_⟩
    have hx := hTm ch hch
    generalize (⟨#[ch]⟩ : Str) ++ mark = x at hx
    walk_at "go"
    have hl4 := c4.get hd hl
    refine ⟨⟨_, hl4⟩, fun q nq => ?_⟩
    have hne : pl ≠ q := fun z => by rw [z, nq] at hl4; cases hl4
    refine lcB_flt ls (fun y => !decide (y = x)) (fun k acc => ?_) (by omega) (fun y acc N hN => ?_) (fun y S Y yy => ?_) ?_
    · show lstJ (put S4 q (.lst acc) pl) k = _
      rw [put_ne hne, hl4]
      rfl
    · walk_at "dl"
      exact hN
    · walk_at "dl"
      exact yy
    · have c5 := c4.new (o := .lst ((ls.filter fun y => !decide (y = x)).map D.str)) hd nq
      walk_at "dl"
      intro q2 nq2
      have c6 := c5.new (o := .lst [.str x]) hd nq2
      have hne2 : q ≠ q2 := fun z => by rw [z, put_same] at nq2; cases nq2
      refine ⟨_, _, (put_ne hne2).trans put_same, rfl, szOk (by have := List.length_filter_le (fun y => !decide (y = x)) ls; simp; omega), fun pi npi => ?_⟩
      have c7 := c6.new (o := .lst ((ls.filter fun y => !decide (y = x)).map D.str ++ [.str x])) hd npi
      walk_at "go"
      intro q3 nq3
      have c8 := c7.new (o := .lst [.str "every", .str "some"]) hd nq3
      have hne3 : pi ≠ q3 := fun z => by rw [z, put_same] at nq3; cases nq3
      refine ⟨by decide, ?_⟩
      refine ixStrs_mem (xs := ["every", "some"]) (by omega) (by simp; omega) fun ww hww => ?_
      walk_at "dl"
      have ed : (if (deep : Int) - 1 > 0 then (deep : Int) - 1 else 0) = ((deep - 1 : Nat) : Int) := by split <;> omega
      rw [ed]
      have elen : (ls.filter fun y => !decide (y = x)).length ≤ ls.length := List.length_filter_le _ _
      refine ⟨TT, a, pn, pk, pd, pi, ns, ks, dos, (ls.filter fun y => !decide (y = x)) ++ [x], deep - 1, mark, rfl, c8.2, hw.ch hd c8, ?_, ?_, ?_, hTn, ?_, hTm, hm, fun F S9 c9 ok9 ht9 sz9 => ?_⟩
      · rw [put_ne hne3, put_same, List.map_append]
        rfl
      · rw [emp_snoc, List.length_append, List.length_singleton]
        rcases hor with e | e
        · omega
        · omega
      · rw [emp_snoc]
        rcases hor with e | e <;> omega
      · intro y hy
        rcases List.mem_append.mp hy with hy | hy
        · exact hTl y ((List.mem_filter.mp hy).1)
        · cases List.mem_singleton.mp hy; exact hx
      · walk_at "dl"
        rw [emp_snoc] at ht9 sz9
        have c10 := c8.trans c9
        have fin : ∀ w2 : Q2, ∃ S'', DL.Sub S'' S9 ∧ Q (.tup [.str w2.s, .str x, F.d]) S'' := fun w2 => by
          refine ⟨S9, Sub.refl, h (.qu w2 x F) S9 c10 ⟨hx, ok9⟩ ?_ ?_⟩
          · simp only [Fm.ht]
            rcases hor with e | e <;> omega
          · simp only [Fm.sz]
            rcases Nat.eq_zero_or_pos deep with e0 | e0
            · subst e0
              rcases hor with e | e
              · omega
              · simp at sz9 ⊢
                omega
            · have e5 : deep - 1 + 1 = deep := by omega
              rw [e5] at sz9
              omega
        simp only [List.mem_cons, List.not_mem_nil, or_false] at hww
        rcases hww with rfl | rfl
        · exact fin .every
        · exact fin .some
  rintro S3 ⟨c3, ht3, he⟩
  have hne : ns ++ ls ≠ [] := fun z => by rw [z] at he; simp [emp] at he
  rw [he] at h hn hz
  walk_at "dl"
  refine seq_if (fun S4 => S4 = S3) (fun S4 => S4 = S3 ∧ 0 < deep) (fun N N1 N2 => ?_) ?_ ?_
  · walk_at "dl"
    refine ite2 (fun e1 => ?_) (fun e1 => ?_)
    · exact N1 _ rfl
    · by_cases e2 : r < 3
      · rw [decide_eq_true e2]; exact N1 _ rfl
      · rw [decide_eq_false e2]; exact N2 _ ⟨rfl, by simp at e1; omega⟩
  · rintro S4 rfl
    walk_at "dl"
    refine ⟨a, pn, pk, pd, pt, ns, ks, dos, ns ++ ls, rfl, c3.2, hw.ch hd c3, ht3, hne, by rw [List.length_append]; have := hw.ln; omega, fun F S5 c5 ok5 ht5 sz5 => ?_⟩
    refine ⟨S5, Sub.refl, h F S5 (c3.trans c5) (ok5.imp (fun s hs => ?_) (fun _ z => z) fun _ z => z) (by omega) (by omega)⟩
    rcases List.mem_append.mp hs with hs | hs
    · exact hTn s hs
    · exact hTl s hs
  rintro S4 ⟨rfl, hdp⟩
  have ed : (deep : Int) - 1 = ((deep - 1 : Nat) : Int) := by omega
  have e5 : deep - 1 + 1 = deep := by omega
  walk_at "go"
  rw [ed]
  refine ⟨TT, a, pn, pk, pd, pl, ns, ks, dos, ls, deep - 1, mark, rfl, c3.2, hw.ch hd c3, c3.get hd hl, by rw [he]; omega, by rw [he]; omega, hTn, hTl, hTm, hm, fun F S5 c5 ok5 ht5 sz5 => ?_⟩
  rw [he, e5] at ht5 sz5
  walk_at "go"
  refine ite2 (fun e1 => ?_) (fun e1 => ?_)
  · walk_at "dl"
    refine ⟨S5, Sub.refl, h (.neg F) S5 (c3.trans c5) ok5 (by simp only [Fm.ht]; omega) (by simp only [Fm.sz]; omega)⟩
  walk_at "dl"
  have c5' := c3.trans c5
  intro q3 nq3
  have c6 := c5'.new (o := .lst [.str "and", .str "or", .str "if"]) hd nq3
  refine ⟨by decide, ?_⟩
  refine ixStrs_mem (xs := ["and", "or", "if"]) (by omega) (by simp; omega) fun ww hww => ?_
  walk_at "dl"
  rw [ed]
  refine ⟨TT, a, pn, pk, pd, pl, ns, ks, dos, ls, deep - 1, mark, rfl, c6.2, hw.ch hd c6, c6.get hd hl, by rw [he]; omega, by rw [he]; omega, hTn, hTl, hTm, hm, fun F2 S7 c7 ok7 ht7 sz7 => ?_⟩
  rw [he, e5] at ht7 sz7
  walk_at "dl"
  have c8 := c6.trans c7
  have fin : ∀ w2 : J3, ∃ S'', DL.Sub S'' S7 ∧ Q (.tup [.str w2.s, F.d, F2.d]) S'' := fun w2 =>
    ⟨S7, Sub.refl, h (.bin w2 F F2) S7 c8 ⟨ok5, ok7⟩ (by simp only [Fm.ht]; omega) (by simp only [Fm.sz]; omega)⟩
  simp only [List.mem_cons, List.not_mem_nil, or_false] at hww
  rcases hww with rfl | rfl | rfl
  · exact fin .and
  · exact fin .or
  · exact fin .if
end
end K72

set_option Elab.async false
set_option maxRecDepth 100000
set_option linter.unusedVariables false
namespace K72
open PySem PySem.Spec PyProof.Rows L2 DL
local macro_rules | `(tactic| walk_at "dl") => `(tactic| try simp only [DL.tAsgD, DL.asg, DL.tVarD, DL.lk, DL.sto, DL.stos, DL.tOpD, DL.tCD, DL.tCallD, DL.tConsD, DL.tNilD, DL.tRetD, DL.endsD, DL.startD, DL.tIfSD, DL.tTestD, DL.tNextD, DL.tDropD, DL.tAndD, DL.tOrD, DL.tNotD, DL.tAndV, DL.tOrV, DL.tNotV, DL.tIfD, DL.tNegD, DL.tTupD, DL.tLstD, DL.tSetD, DL.tMD, DL.tSlD, DL.tPartD, DL.tNoD, DL.tRevD, DL.tForD, DL.tLcD, DL.tIterD, DL.tRng1D, DL.tRng2D, DL.tYesD, DL.wipeD, DL.tDictD, DL.tDictOne, DL.keyOf, DL.emE_rr, DL.tLess, DL.tLessS, DL.itOk, DL.rAdd_ii, DL.rAdd_ss, DL.rAdd_tt, DL.rAdd_rr, DL.rSub_ii, DL.rMod_ii, DL.rDiv_ii, DL.rPow_ii, DL.rMul_ii, DL.rMul_ri, DL.rLt_ii, DL.rLt_ss, DL.rLe_ii, DL.rGt_ii, DL.rGe_ii, DL.rEq_ii, DL.rEq_ss, DL.rEq_bb, DL.rNe_ii, DL.rNe_ss, DL.rNe_bb, DL.rEq_rr, DL.rNe_rr, DL.rEq_tt, DL.rNe_tt, DL.rIn_st, DL.rNotIn_st, DL.rIn_r, DL.rNotIn_r, DL.rIn_ss, DL.rInDO_sl, DL.rInDO_il, DL.rInDO_sd, DL.rInDO_id, DL.rIsN_n, DL.rIsN_t, DL.rIsN_i, DL.rIsN_s, DL.rIsN_r, DL.rNotN_n, DL.rNotN_t, DL.rNotN_i, DL.rNotN_s, DL.rNotN_r, DL.rIx_t, DL.rIx_r, DL.rIx_s, DL.rIxDO_l, DL.rIxDO_ds, DL.rIx0, DL.rIx1, DL.rIx2, DL.rIx3, DL.rSl_t, DL.rSl_s, DL.rSl_o, DL.rSl_r, DL.rSlDO, DL.rSet_r, DL.rSetDO_0, DL.rSetDO_s, DL.rLen_t, DL.rLen_o, DL.rLen_s, DL.rLen_r, DL.rLenDO, DL.rLenDO_d, DL.rList_t, DL.rList_o, DL.rList_r, DL.rListDO, DL.rTuple_t, DL.rTuple_r, DL.rInt_i, DL.rInt_b, DL.rMax, DL.rMin, DL.rSz0, DL.rSz1, DL.rSz2, DL.rSz3, DL.rSz4, DL.rSz5, DL.rSz6, DL.rSz7, DL.rSz8, Option.some.injEq, DL.DO.lst.injEq, exists_eq_left', exists_eq_left, DL.put_same, DL.put_put, true_and, and_true, List.map, List.replicate, List.length, List.cons_append, List.nil_append, Nat.reduceSub, Nat.reduceAdd, decide_eq_true_eq, if_true, if_false, Bool.false_eq_true, Bool.not_true, Bool.not_false])
local macro_rules | `(tactic| walk_at "dlh") => `(tactic| try simp only [*, DL.tAsgD, DL.asg, DL.tVarD, DL.lk, DL.sto, DL.stos, DL.tOpD, DL.tCD, DL.tCallD, DL.tConsD, DL.tNilD, DL.tRetD, DL.endsD, DL.startD, DL.tIfSD, DL.tTestD, DL.tNextD, DL.tDropD, DL.tAndD, DL.tOrD, DL.tNotD, DL.tAndV, DL.tOrV, DL.tNotV, DL.tIfD, DL.tNegD, DL.tTupD, DL.tLstD, DL.tSetD, DL.tMD, DL.tSlD, DL.tPartD, DL.tNoD, DL.tRevD, DL.tForD, DL.tLcD, DL.tIterD, DL.tRng1D, DL.tRng2D, DL.tYesD, DL.wipeD, DL.tDictD, DL.tDictOne, DL.keyOf, DL.emE_rr, DL.tLess, DL.tLessS, DL.itOk, DL.rAdd_ii, DL.rAdd_ss, DL.rAdd_tt, DL.rAdd_rr, DL.rSub_ii, DL.rMod_ii, DL.rDiv_ii, DL.rPow_ii, DL.rMul_ii, DL.rMul_ri, DL.rLt_ii, DL.rLt_ss, DL.rLe_ii, DL.rGt_ii, DL.rGe_ii, DL.rEq_ii, DL.rEq_ss, DL.rEq_bb, DL.rNe_ii, DL.rNe_ss, DL.rNe_bb, DL.rEq_rr, DL.rNe_rr, DL.rEq_tt, DL.rNe_tt, DL.rIn_st, DL.rNotIn_st, DL.rIn_r, DL.rNotIn_r, DL.rIn_ss, DL.rInDO_sl, DL.rInDO_il, DL.rInDO_sd, DL.rInDO_id, DL.rIsN_n, DL.rIsN_t, DL.rIsN_i, DL.rIsN_s, DL.rIsN_r, DL.rNotN_n, DL.rNotN_t, DL.rNotN_i, DL.rNotN_s, DL.rNotN_r, DL.rIx_t, DL.rIx_r, DL.rIx_s, DL.rIxDO_l, DL.rIxDO_ds, DL.rIx0, DL.rIx1, DL.rIx2, DL.rIx3, DL.rSl_t, DL.rSl_s, DL.rSl_o, DL.rSl_r, DL.rSlDO, DL.rSet_r, DL.rSetDO_0, DL.rSetDO_s, DL.rLen_t, DL.rLen_o, DL.rLen_s, DL.rLen_r, DL.rLenDO, DL.rLenDO_d, DL.rList_t, DL.rList_o, DL.rList_r, DL.rListDO, DL.rTuple_t, DL.rTuple_r, DL.rInt_i, DL.rInt_b, DL.rMax, DL.rMin, DL.rSz0, DL.rSz1, DL.rSz2, DL.rSz3, DL.rSz4, DL.rSz5, DL.rSz6, DL.rSz7, DL.rSz8, Option.some.injEq, DL.DO.lst.injEq, exists_eq_left', exists_eq_left, DL.put_same, DL.put_put, true_and, and_true, List.map, List.replicate, List.length, List.cons_append, List.nil_append, Nat.reduceSub, Nat.reduceAdd, decide_eq_true_eq, if_true, if_false, Bool.false_eq_true, Bool.not_true, Bool.not_false])
local macro_rules | `(tactic| walk_at "go") => `(tactic| repeat (first | (refine DL.sq ?_; try walk_at "dl") | (refine DL.ifY rfl ?_; try walk_at "dl") | (refine DL.inY rfl (by decide) ?_; try walk_at "dl") | (refine DL.inN rfl (by decide) ?_; try walk_at "dl") | (refine DL.ifN (by decide) ?_; try walk_at "dl")))
def spDeeper (n : Nat) : SpD := fun ds S Q => ∃ (TT : Str → Prop) (a pn pk pd pl : Addr) (ns ks dos ls : List Str) (deep : Nat) (mark : Str), ds = [.ref a, wrds pn pk pd, .ref pl, .int (deep : Nat), .str mark] ∧ Dk a S ∧ Wrds S pn pk pd ns ks dos ∧ S pl = some (.lst (ls.map D.str)) ∧
  ls.length + deep ≤ 50 ∧ deep < n ∧ 2 + emp (ns ++ ls) ≤ deep ∧ (∀ x ∈ ns, TT x) ∧ (∀ x ∈ ls, TT x) ∧ (∀ c, chLt c → TT ((⟨#[c]⟩ : Str) ++ mark)) ∧ mark.length ≤ 5 ∧
  ∀ (F : Fm) (S' : Store), Ch a S S' → F.ok TT (· ∈ ks) (· ∈ dos) → F.ht ≤ deep → F.sz ≤ 2 * deep → Q F.d S'
def spShape : SpD := fun ds S Q => ∃ (TT : Str → Prop) (a pn pk pd pl : Addr) (ns ks dos ls : List Str) (far : Bool), ds = [.ref a, wrds pn pk pd, .ref pl, .bl far] ∧ Dk a S ∧ Wrds S pn pk pd ns ks dos ∧ S pl = some (.lst (ls.map D.str)) ∧
  ls.length ≤ 5 ∧ (∀ x ∈ ns, TT x) ∧ (∀ x ∈ ls, TT x) ∧ (∀ c, chLt c → TT ((⟨#[c]⟩ : Str) ++ "")) ∧
  ∀ (F : Fm) (S' : Store), Ch a S S' → F.ok TT (· ∈ ks) (· ∈ dos) → F.ht ≤ 12 → F.sz ≤ 20 → Q F.d S'
section
variable {P : Program} {w : World} {K : PySem.W.Frag} {mg : Str → Option Value} {base : Heap}
theorem df_deeper {k : Nat} (T : Bt mg) (A : At K mg "_law_deeper" "_law_deeper" s_l_deeper) (Gd : Df P w K mg base "_law_draw" k spDrawC) (Gl : Df P w K mg base "_law_leaf" k spLeaf) (Gf : Df P w K mg base "_law_form" k (spForm 4)) (n : Nat) :
    Df P w K mg base "_law_deeper" (k + n + 1) (spDeeper n) := by
  have nd := sc_l_deeper.nd
  induction n with
  | zero =>
    refine df_mk A rfl sc_l_deeper (fun _ _ _ _ _ _ us hl => match us, hl with | [_, _, _, _, _], _ => rfl) (fun ds S Q h => ?_) (fun f cdv A outer s H E hr ds S Q h => ?_)
    · obtain ⟨TT, a, pn, pk, pd, pl, ns, ks, dos, ls, deep, mark, rfl, _⟩ := h
      rfl
    · obtain ⟨TT, a, pn, pk, pd, pl, ns, ks, dos, ls, deep, mark, rfl, _, _, _, _, h, _⟩ := h
      omega
  | succ n G_l_deeper =>
  have G_l_draw := Gd.mono (show k ≤ k + n + 1 by omega)
  have G_l_leaf := Gl.mono (show k ≤ k + n + 1 by omega)
  have G_l_form := Gf.mono (show k ≤ k + n + 1 by omega)
  refine df_mk A rfl sc_l_deeper (fun _ _ _ _ _ _ us hl => match us, hl with | [_, _, _, _, _], _ => rfl) (fun ds S Q h => ?_) (fun f cdv A outer s H E hr ds S Q h => ?_)
  · obtain ⟨TT, a, pn, pk, pd, pl, ns, ks, dos, ls, deep, mark, rfl, _⟩ := h
    rfl
  obtain ⟨TT, a, pn, pk, pd, pl, ns, ks, dos, ls, deep, mark, rfl, hd, hw, hl, hz, hn, he, hTn, hTl, hTm, hm, h⟩ := h
  have hu := hu_of hr
  refine ⟨_, (dss_cons (ds_if (dt_cmp od_lt (dv 3) de_int (nomark _)) (dss_one (ds_ret (de_call G_l_form hr rfl (da_cons (dv 0) (da_cons (dv 1) (da_cons (dv 2) (da_cons de_int (da_cons (dv 4) da_nil)))))))) dss_nil)
    (dss_cons (ds_set (i := 5) nd rfl (Or.inl rfl) (de_call G_l_draw hr rfl (da_cons (dv 0) (da_cons de_int da_nil))))
    (dss_cons (ds_if (dt_w (dw_or (dt_cmp od_lt (dv 5) de_int (nomark _)) (dw_or1 (dt_cmp (od_eqE hr.units) (de_op od_add (de_ix hu (dv 1) de_int) (dv 2)) (de_lst da_nil) (nomark _))))) (dss_cons (ds_set (i := 6) nd rfl (Or.inr rfl) (de_op od_add (de_ix hu de_str (de_call G_l_draw hr rfl (da_cons (dv 0) (da_cons de_int da_nil)))) (dv 4)))
    (dss_cons (ds_set (i := 7) nd rfl (Or.inl rfl) (de_op od_add (de_lc (own := [("_law_one", 10)]) (g := GD.one 10) rfl nd (di_any (dv 2)) (blkOk_by (own := [("_law_one", 10)]) (N := ["_law_deck_here", "_law_words", "_law_letters", "_law_deep", "_law_mark", "_law_way", "_law_x", "_law_inner", "_law_turned", "_law_pair", "_law_one"]) (sc := defScope s_l_deeper) (by decide +kernel)) (fun _ _ _ _ _ => (dg_name (i := 10) nd rfl (Or.inl rfl))) (fun _ _ _ _ _ => (dts_one (dt_cmp (od_ne hr.units) (dv 10) (dv 6) (nomark _)))) (fun _ _ _ _ _ => (dv 10))) (de_lst (da_cons (dv 6) da_nil))))
    (dss_one (ds_ret (de_tup (da_cons (de_ix hu (de_lst (da_cons de_str (da_cons de_str da_nil))) (de_op od_mod (dv 5) de_int)) (da_cons (dv 6) (da_cons (de_call G_l_deeper hr rfl (da_cons (dv 0) (da_cons (dv 1) (da_cons (dv 7) (da_cons (de_op od_sub (dv 3) de_int) (da_cons (dv 4) da_nil)))))) da_nil)))))))) dss_nil)
    (dss_cons (ds_if (dt_cmp (od_eq hr.units) (dv 5) de_int (nomark _)) (dss_one (ds_ret (de_tup (da_cons de_str (da_cons (de_call G_l_deeper hr rfl (da_cons (dv 0) (da_cons (dv 1) (da_cons (dv 2) (da_cons (de_op od_sub (dv 3) de_int) (da_cons (dv 4) da_nil)))))) da_nil))))) dss_nil)
    (dss_cons (ds_set (i := 8) nd rfl (Or.inl rfl) (de_call G_l_draw hr rfl (da_cons (dv 0) (da_cons de_int da_nil))))
    (dss_cons (ds_set (i := 9) nd rfl (Or.inl rfl) (de_lst (da_cons (de_call G_l_leaf hr rfl (da_cons (dv 0) (da_cons (dv 1) (da_cons (de_op od_add (de_ix hu (dv 1) de_int) (dv 2)) da_nil)))) (da_cons (de_call G_l_deeper hr rfl (da_cons (dv 0) (da_cons (dv 1) (da_cons (dv 2) (da_cons (de_op od_sub (dv 3) de_int) (da_cons (dv 4) da_nil)))))) da_nil))))
    (dss_one (ds_ret (de_tup (da_cons (de_ix hu (de_lst (da_cons de_str (da_cons de_str (da_cons de_str da_nil)))) (de_call G_l_draw hr rfl (da_cons (dv 0) (da_cons de_int da_nil)))) (da_cons (de_ix hu (dv 9) (dv 8)) (da_cons (de_ix hu (dv 9) (de_op od_sub de_int (dv 8))) da_nil)))))))))))), ?_⟩
  refine seq_if (fun S4 => S4 = S ∧ deep < 3) (fun S4 => S4 = S ∧ 3 ≤ deep) (fun N N1 N2 => ?_) ?_ ?_
  · walk_at "dl"
    by_cases e2 : (deep : Int) < 3
    · rw [decide_eq_true e2]; exact N1 _ ⟨rfl, by omega⟩
    · rw [decide_eq_false e2]; exact N2 _ ⟨rfl, by omega⟩
  · rintro S1 ⟨rfl, hlt⟩
    have e0 : emp (ns ++ ls) = 0 := by omega
    walk_at "dl"
    refine ⟨TT, a, pn, pk, pd, pl, ns, ks, dos, ls, 1, mark, rfl, hd, hw, hl, by omega, by omega, hTn, hTl, hTm, hm, fun F S2 c2 ok2 ht2 sz2 => ?_⟩
    rw [e0] at ht2 sz2
    exact ⟨S2, Sub.refl, h F S2 c2 ok2 (by omega) (by omega)⟩
  rintro S1 ⟨rfl, h3⟩
  have ed : (deep : Int) - 1 = ((deep - 1 : Nat) : Int) := by omega
  walk_at "go"
  refine ⟨a, _, rfl, hd, by decide, by decide, fun r S2 r0 r1 c2 => ?_⟩
  walk_at "dl"
  have w2 := hw.ch hd c2
  have hl2 := c2.get hd hl
  refine seq_if (fun S3 => Ch a S1 S3) (fun S3 => Ch a S1 S3 ∧ emp (ns ++ ls) = 0) (fun N N1 N2 => ?_) ?_ ?_
  · walk_at "dl"
    refine ite2 (fun e1 => N1 _ c2) (fun e1 => ?_)
    walk_at "dl"
    refine ⟨_, _, w2.n, hl2, szOk (by rw [List.length_map, List.length_map]; have := hw.ln; omega), fun pt npt => ?_⟩
    have c3 := c2.new (o := .lst (ns.map D.str ++ ls.map D.str)) hd npt
    intro e ne
    have c4 := c3.new (o := .lst []) hd ne
    have ee : pt ≠ e := fun z => by rw [z, put_same] at ne; cases ne
    refine ⟨_, (put_ne ee).trans put_same, ?_⟩
    rw [← List.map_append]
    cases e3 : (ns ++ ls).isEmpty with
    | true =>
      have e4 : ((ns ++ ls).map D.str).isEmpty = true := by simpa using e3
      rw [e4]
      rw [← List.map_append] at c4
      exact N1 _ c4
    | false =>
      have e4 : ((ns ++ ls).map D.str).isEmpty = false := by simpa using e3
      rw [e4]
      rw [← List.map_append] at c4
      exact N2 _ ⟨c4, emp_0 e3⟩
  · rintro S3 c3
    walk_at "go"
    refine ⟨a, _, rfl, c3.2, by decide, by decide, fun r2 S4 g0 g1 c4' => ?_⟩
    have c4 := c3.trans c4'
    walk_at "dl"
    refine ixS (s := "uvwxyz") chLt (by decide +kernel) (by decide +kernel) g0 (by rw [show ("uvwxyz" : Str).length = 6 from by decide +kernel]; exact g1) fun ch hch => ?_
    walk_at "dl"
    refine ⟨szOk (by rw [show (⟨#[ch]⟩ : Str).length = 1 from rfl]; omega), ?_⟩
    have hx := hTm ch hch
    generalize (⟨#[ch]⟩ : Str) ++ mark = x at hx
    walk_at "go"
    have hl4 := c4.get hd hl
    refine ⟨⟨_, hl4⟩, fun q nq => ?_⟩
    have hne : pl ≠ q := fun z => by rw [z, nq] at hl4; cases hl4
    refine lcB_flt ls (fun y => !decide (y = x)) (fun k acc => ?_) (by omega) (fun y acc N hN => ?_) (fun y S Y yy => ?_) ?_
    · show lstJ (put S4 q (.lst acc) pl) k = _
      rw [put_ne hne, hl4]
      rfl
    · walk_at "dl"
      exact hN
    · walk_at "dl"
      exact yy
    · have c5 := c4.new (o := .lst ((ls.filter fun y => !decide (y = x)).map D.str)) hd nq
      walk_at "dl"
      intro q2 nq2
      have c6 := c5.new (o := .lst [.str x]) hd nq2
      have hne2 : q ≠ q2 := fun z => by rw [z, put_same] at nq2; cases nq2
      have elen : (ls.filter fun y => !decide (y = x)).length ≤ ls.length := List.length_filter_le _ _
      refine ⟨_, _, (put_ne hne2).trans put_same, rfl, szOk (by simp; omega), fun pi npi => ?_⟩
      have c7 := c6.new (o := .lst ((ls.filter fun y => !decide (y = x)).map D.str ++ [.str x])) hd npi
      walk_at "go"
      intro q3 nq3
      have c8 := c7.new (o := .lst [.str "every", .str "some"]) hd nq3
      have hne3 : pi ≠ q3 := fun z => by rw [z, put_same] at nq3; cases nq3
      refine ⟨by decide, ?_⟩
      refine ixStrs_mem (xs := ["every", "some"]) (by omega) (by simp; omega) fun ww hww => ?_
      walk_at "dl"
      rw [ed]
      refine ⟨TT, a, pn, pk, pd, pi, ns, ks, dos, (ls.filter fun y => !decide (y = x)) ++ [x], deep - 1, mark, rfl, c8.2, hw.ch hd c8, ?_, ?_, by omega, by rw [emp_snoc]; omega, hTn, ?_, hTm, hm, fun F S9 c9 ok9 ht9 sz9 => ?_⟩
      · rw [put_ne hne3, put_same, List.map_append]
        rfl
      · rw [List.length_append, List.length_singleton]
        omega
      · intro y hy
        rcases List.mem_append.mp hy with hy | hy
        · exact hTl y (List.mem_filter.mp hy).1
        · cases List.mem_singleton.mp hy; exact hx
      · walk_at "dl"
        have c10 := c8.trans c9
        have fin : ∀ w2 : Q2, ∃ S'', DL.Sub S'' S9 ∧ Q (.tup [.str w2.s, .str x, F.d]) S'' := fun w2 =>
          ⟨S9, Sub.refl, h (.qu w2 x F) S9 c10 ⟨hx, ok9⟩ (by simp only [Fm.ht]; omega) (by simp only [Fm.sz]; omega)⟩
        simp only [List.mem_cons, List.not_mem_nil, or_false] at hww
        rcases hww with rfl | rfl
        · exact fin .every
        · exact fin .some
  rintro S3 ⟨c3, e0⟩
  have hne : ns ++ ls ≠ [] := fun z => by rw [z] at e0; simp [emp] at e0
  walk_at "dl"
  refine seq_if (fun S4 => S4 = S3) (fun S4 => S4 = S3) (fun N N1 N2 => ?_) ?_ ?_
  · walk_at "dl"
    by_cases e2 : r = 2
    · rw [decide_eq_true e2]; exact N1 _ rfl
    · rw [decide_eq_false e2]; exact N2 _ rfl
  · rintro S4 rfl
    walk_at "dl"
    rw [ed]
    refine ⟨TT, a, pn, pk, pd, pl, ns, ks, dos, ls, deep - 1, mark, rfl, c3.2, hw.ch hd c3, c3.get hd hl, by omega, by omega, by omega, hTn, hTl, hTm, hm, fun F S5 c5 ok5 ht5 sz5 => ?_⟩
    walk_at "dl"
    exact ⟨S5, Sub.refl, h (.neg F) S5 (c3.trans c5) ok5 (by simp only [Fm.ht]; omega) (by simp only [Fm.sz]; omega)⟩
  rintro S4 rfl
  walk_at "go"
  refine ⟨a, _, rfl, c3.2, by decide, by decide, fun r2 S5 g0 g1 c5' => ?_⟩
  have c5 := c3.trans c5'
  have w5 := hw.ch hd c5
  walk_at "go"
  refine ⟨_, _, w5.n, c5.get hd hl, szOk (by rw [List.length_map, List.length_map]; have := hw.ln; omega), fun pt npt => ?_⟩
  have c6 := c5.new (o := .lst (ns.map D.str ++ ls.map D.str)) hd npt
  refine ⟨a, pn, pk, pd, pt, ns, ks, dos, ns ++ ls, rfl, c6.2, hw.ch hd c6, by rw [put_same, List.map_append], hne, by rw [List.length_append]; have := hw.ln; omega, fun F S7 c7' ok7 ht7 sz7 => ?_⟩
  have c7 := c6.trans c7'
  walk_at "dl"
  rw [ed]
  refine ⟨TT, a, pn, pk, pd, pl, ns, ks, dos, ls, deep - 1, mark, rfl, c7.2, hw.ch hd c7, c7.get hd hl, by omega, by omega, by omega, hTn, hTl, hTm, hm, fun F2 S8 c8' ok8 ht8 sz8 => ?_⟩
  have c8 := c7.trans c8'
  walk_at "dl"
  intro pp npp
  have c9 := c8.new (o := .lst [F.d, F2.d]) hd npp
  have pa := c8.2.ne npp
  walk_at "go"
  intro q3 nq3
  have c10 := c9.new (o := .lst [.str "and", .str "or", .str "if"]) hd nq3
  have hne3 : pp ≠ q3 := fun z => by rw [z, put_same] at nq3; cases nq3
  refine ⟨a, _, rfl, c10.2, by decide, by decide, fun r3 S11 k0 k1 c11' => ?_⟩
  have c11 := c10.trans c11'
  walk_at "dl"
  have hq3 : S11 q3 = some (.lst [.str "and", .str "or", .str "if"]) := c11'.1 q3 _ (c9.2.ne nq3) put_same
  have hpp : S11 pp = some (.lst [F.d, F2.d]) := c11'.1 pp _ pa ((put_ne hne3).trans put_same)
  rw [hq3]
  walk_at "dl"
  refine ixStrs_mem (xs := ["and", "or", "if"]) k0 (by simp; omega) fun ww hww => ?_
  walk_at "dl"
  rw [hpp]
  walk_at "dl"
  have ok7' : F.ok TT (· ∈ ks) (· ∈ dos) := ok7.imp (fun s hs => by
    rcases List.mem_append.mp hs with hs | hs
    · exact hTn s hs
    · exact hTl s hs) (fun _ z => z) fun _ z => z
  have fin : ∀ (w2 : J3) (X Y : Fm), (X = F ∧ Y = F2) ∨ (X = F2 ∧ Y = F) → ∃ S'', DL.Sub S'' S11 ∧ Q (.tup [.str w2.s, X.d, Y.d]) S'' := fun w2 X Y hXY => by
    refine ⟨S11, Sub.refl, h (.bin w2 X Y) S11 c11 ?_ ?_ ?_⟩
    · rcases hXY with ⟨rfl, rfl⟩ | ⟨rfl, rfl⟩
      · exact ⟨ok7', ok8⟩
      · exact ⟨ok8, ok7'⟩
    · simp only [Fm.ht]
      rcases hXY with ⟨rfl, rfl⟩ | ⟨rfl, rfl⟩ <;> omega
    · simp only [Fm.sz]
      rcases hXY with ⟨rfl, rfl⟩ | ⟨rfl, rfl⟩ <;> omega
  have fin2 : ∀ X Y : Fm, (X = F ∧ Y = F2) ∨ (X = F2 ∧ Y = F) → ∃ S'', DL.Sub S'' S11 ∧ Q (.tup [.str ww, X.d, Y.d]) S'' := fun X Y hXY => by
    simp only [List.mem_cons, List.not_mem_nil, or_false] at hww
    rcases hww with rfl | rfl | rfl
    · exact fin .and X Y hXY
    · exact fin .or X Y hXY
    · exact fin .if X Y hXY
  have h01 : r2 = 0 ∨ r2 = 1 := by omega
  rcases h01 with rfl | rfl
  · walk_at "dl"
    rw [hpp]
    simp only [show (1 : Int) - 0 = 1 from rfl]
    walk_at "dl"
    exact fin2 F F2 (.inl ⟨rfl, rfl⟩)
  · walk_at "dl"
    rw [hpp]
    simp only [show (1 : Int) - 1 = 0 from rfl]
    walk_at "dl"
    exact fin2 F2 F (.inr ⟨rfl, rfl⟩)
theorem df_shape {k : Nat} (T : Bt mg) (A : At K mg "_law_shape" "_law_shape" s_l_shape) (G_l_form : Df P w K mg base "_law_form" k (spForm 5)) (G_l_deeper : Df P w K mg base "_law_deeper" k (spDeeper 11)) :
    Df P w K mg base "_law_shape" (k + 1) spShape := by
  have nd := sc_l_shape.nd
  refine df_mk A rfl sc_l_shape (fun _ _ _ _ _ _ us hl => match us, hl with | [_, _, _, _], _ => rfl) (fun ds S Q h => ?_) (fun f cdv A outer s H E hr ds S Q h => ?_)
  · obtain ⟨TT, a, pn, pk, pd, pl, ns, ks, dos, ls, far, rfl, _⟩ := h
    rfl
  obtain ⟨TT, a, pn, pk, pd, pl, ns, ks, dos, ls, far, rfl, hd, hw, hl, hz, hTn, hTl, hTm, h⟩ := h
  have hu := hu_of hr
  refine ⟨_, (dss_cons (ds_if (dt_val (dv 3)) (dss_one (ds_ret (de_call G_l_deeper hr rfl (da_cons (dv 0) (da_cons (dv 1) (da_cons (dv 2) (da_cons de_int (da_cons de_str da_nil)))))))) dss_nil)
    (dss_one (ds_ret (de_call G_l_form hr rfl (da_cons (dv 0) (da_cons (dv 1) (da_cons (dv 2) (da_cons de_int (da_cons de_str da_nil))))))))), ?_⟩
  have el := emp_le (xs := ns ++ ls)
  refine seq_if (fun S4 => S4 = S) (fun S4 => S4 = S) (fun N N1 N2 => ?_) ?_ ?_
  · walk_at "dl"
    cases far with
    | true => exact N1 _ rfl
    | false => exact N2 _ rfl
  · rintro S4 rfl
    walk_at "dl"
    refine ⟨TT, a, pn, pk, pd, pl, ns, ks, dos, ls, 10, "", rfl, hd, hw, hl, by omega, by omega, by omega, hTn, hTl, hTm, by decide, fun F S5 c5 ok5 ht5 sz5 => ?_⟩
    exact ⟨S5, Sub.refl, h F S5 c5 ok5 (by omega) (by omega)⟩
  · rintro S4 rfl
    walk_at "dl"
    refine ⟨TT, a, pn, pk, pd, pl, ns, ks, dos, ls, 3, "", rfl, hd, hw, hl, by omega, by omega, hTn, hTl, hTm, by decide, fun F S5 c5 ok5 ht5 sz5 => ?_⟩
    exact ⟨S5, Sub.refl, h F S5 c5 ok5 (by omega) (by omega)⟩
end
end K72

set_option Elab.async false
set_option maxRecDepth 100000
set_option linter.unusedVariables false
namespace DL
open PySem PySem.Spec PyProof.Rows L2
theorem cutL_from {α : Type} {xs : List α} {j : Nat} : cutL xs (some (j : Int)) none = xs.drop j := by
  unfold cutL
  rw [HT.sIx_nat, HT.sIx_none]
  by_cases h : j ≤ xs.length
  · rw [Nat.min_eq_left h, List.take_of_length_le (by rw [List.length_drop]; omega)]
  · rw [Nat.min_eq_right (by omega), List.drop_length, List.drop_eq_nil_of_le (by omega)]; simp
theorem cutL_to {α : Type} {xs : List α} {j : Nat} : cutL xs none (some (j : Int)) = xs.take j := by
  unfold cutL
  rw [HT.sIx_nat, HT.sIx_none, List.drop_zero]
  by_cases h : j ≤ xs.length
  · rw [Nat.min_eq_left h]; simp
  · rw [Nat.min_eq_right (by omega), List.take_of_length_le (by omega), List.take_of_length_le (by omega)]
end DL
namespace K72
open PySem PySem.Spec PyProof.Rows L2 DL
local macro_rules | `(tactic| walk_at "dl") => `(tactic| try simp only [DL.tAsgD, DL.asg, DL.tVarD, DL.lk, DL.sto, DL.stos, DL.tOpD, DL.tCD, DL.tCallD, DL.tConsD, DL.tNilD, DL.tRetD, DL.endsD, DL.startD, DL.tIfSD, DL.tTestD, DL.tNextD, DL.tDropD, DL.tAndD, DL.tOrD, DL.tNotD, DL.tAndV, DL.tOrV, DL.tNotV, DL.tIfD, DL.tNegD, DL.tTupD, DL.tLstD, DL.tSetD, DL.tMD, DL.tSlD, DL.tPartD, DL.tNoD, DL.tRevD, DL.tForD, DL.tLcD, DL.tIterD, DL.tRng1D, DL.tRng2D, DL.tYesD, DL.wipeD, DL.tDictD, DL.tDictOne, DL.keyOf, DL.emE_rr, DL.tLess, DL.tLessS, DL.itOk, DL.rAdd_ii, DL.rAdd_ss, DL.rAdd_tt, DL.rAdd_rr, DL.rSub_ii, DL.rMod_ii, DL.rDiv_ii, DL.rPow_ii, DL.rMul_ii, DL.rMul_ri, DL.rLt_ii, DL.rLt_ss, DL.rLe_ii, DL.rGt_ii, DL.rGe_ii, DL.rEq_ii, DL.rEq_ss, DL.rEq_bb, DL.rNe_ii, DL.rNe_ss, DL.rNe_bb, DL.rEq_rr, DL.rNe_rr, DL.rEq_tt, DL.rNe_tt, DL.rIn_st, DL.rNotIn_st, DL.rIn_r, DL.rNotIn_r, DL.rIn_ss, DL.rInDO_sl, DL.rInDO_il, DL.rInDO_sd, DL.rInDO_id, DL.rIsN_n, DL.rIsN_t, DL.rIsN_i, DL.rIsN_s, DL.rIsN_r, DL.rNotN_n, DL.rNotN_t, DL.rNotN_i, DL.rNotN_s, DL.rNotN_r, DL.rIx_t, DL.rIx_r, DL.rIx_s, DL.rIxDO_l, DL.rIxDO_ds, DL.rIx0, DL.rIx1, DL.rIx2, DL.rIx3, DL.rSl_t, DL.rSl_s, DL.rSl_o, DL.rSl_r, DL.rSlDO, DL.rSet_r, DL.rSetDO_0, DL.rSetDO_s, DL.rLen_t, DL.rLen_o, DL.rLen_s, DL.rLen_r, DL.rLenDO, DL.rLenDO_d, DL.rList_t, DL.rList_o, DL.rList_r, DL.rListDO, DL.rTuple_t, DL.rTuple_r, DL.rInt_i, DL.rInt_b, DL.rMax, DL.rMin, DL.rSz0, DL.rSz1, DL.rSz2, DL.rSz3, DL.rSz4, DL.rSz5, DL.rSz6, DL.rSz7, DL.rSz8, Option.some.injEq, DL.DO.lst.injEq, exists_eq_left', exists_eq_left, DL.put_same, DL.put_put, true_and, and_true, List.map, List.replicate, List.length, List.cons_append, List.nil_append, Nat.reduceSub, Nat.reduceAdd, decide_eq_true_eq, if_true, if_false, Bool.false_eq_true, Bool.not_true, Bool.not_false])
local macro_rules | `(tactic| walk_at "dlh") => `(tactic| try simp only [*, DL.tAsgD, DL.asg, DL.tVarD, DL.lk, DL.sto, DL.stos, DL.tOpD, DL.tCD, DL.tCallD, DL.tConsD, DL.tNilD, DL.tRetD, DL.endsD, DL.startD, DL.tIfSD, DL.tTestD, DL.tNextD, DL.tDropD, DL.tAndD, DL.tOrD, DL.tNotD, DL.tAndV, DL.tOrV, DL.tNotV, DL.tIfD, DL.tNegD, DL.tTupD, DL.tLstD, DL.tSetD, DL.tMD, DL.tSlD, DL.tPartD, DL.tNoD, DL.tRevD, DL.tForD, DL.tLcD, DL.tIterD, DL.tRng1D, DL.tRng2D, DL.tYesD, DL.wipeD, DL.tDictD, DL.tDictOne, DL.keyOf, DL.emE_rr, DL.tLess, DL.tLessS, DL.itOk, DL.rAdd_ii, DL.rAdd_ss, DL.rAdd_tt, DL.rAdd_rr, DL.rSub_ii, DL.rMod_ii, DL.rDiv_ii, DL.rPow_ii, DL.rMul_ii, DL.rMul_ri, DL.rLt_ii, DL.rLt_ss, DL.rLe_ii, DL.rGt_ii, DL.rGe_ii, DL.rEq_ii, DL.rEq_ss, DL.rEq_bb, DL.rNe_ii, DL.rNe_ss, DL.rNe_bb, DL.rEq_rr, DL.rNe_rr, DL.rEq_tt, DL.rNe_tt, DL.rIn_st, DL.rNotIn_st, DL.rIn_r, DL.rNotIn_r, DL.rIn_ss, DL.rInDO_sl, DL.rInDO_il, DL.rInDO_sd, DL.rInDO_id, DL.rIsN_n, DL.rIsN_t, DL.rIsN_i, DL.rIsN_s, DL.rIsN_r, DL.rNotN_n, DL.rNotN_t, DL.rNotN_i, DL.rNotN_s, DL.rNotN_r, DL.rIx_t, DL.rIx_r, DL.rIx_s, DL.rIxDO_l, DL.rIxDO_ds, DL.rIx0, DL.rIx1, DL.rIx2, DL.rIx3, DL.rSl_t, DL.rSl_s, DL.rSl_o, DL.rSl_r, DL.rSlDO, DL.rSet_r, DL.rSetDO_0, DL.rSetDO_s, DL.rLen_t, DL.rLen_o, DL.rLen_s, DL.rLen_r, DL.rLenDO, DL.rLenDO_d, DL.rList_t, DL.rList_o, DL.rList_r, DL.rListDO, DL.rTuple_t, DL.rTuple_r, DL.rInt_i, DL.rInt_b, DL.rMax, DL.rMin, DL.rSz0, DL.rSz1, DL.rSz2, DL.rSz3, DL.rSz4, DL.rSz5, DL.rSz6, DL.rSz7, DL.rSz8, Option.some.injEq, DL.DO.lst.injEq, exists_eq_left', exists_eq_left, DL.put_same, DL.put_put, true_and, and_true, List.map, List.replicate, List.length, List.cons_append, List.nil_append, Nat.reduceSub, Nat.reduceAdd, decide_eq_true_eq, if_true, if_false, Bool.false_eq_true, Bool.not_true, Bool.not_false])
local macro_rules | `(tactic| walk_at "go") => `(tactic| repeat (first | (refine DL.sq ?_; try walk_at "dl") | (refine DL.ifY rfl ?_; try walk_at "dl") | (refine DL.inY rfl (by decide) ?_; try walk_at "dl") | (refine DL.inN rfl (by decide) ?_; try walk_at "dl") | (refine DL.ifN (by decide) ?_; try walk_at "dl")))
abbrev s_l_words_drawn : Stmt := top 25
theorem sc_l_words_drawn : FnScope ["_law_deck_here", "_law_most", "_law_words", "_law_doings", "_law_kinds_here", "_law_word_here"] ["_law_deck_here", "_law_most"] (defScope s_l_words_drawn) := ⟨rfl, rfl, rfl, by decide +kernel, rfl, by decide +kernel, by decide +kernel⟩
abbrev s_l_meanings : Stmt := top 26
theorem sc_l_meanings : FnScope ["_law_deck_here", "_law_words", "_law_fresh", "_law_far", "_law_names_here", "_law_kinds_here", "_law_doings", "_law_meanings_here", "_law_many", "_law_k", "_law_x", "_law_told", "_law_deep", "_law_there", "_law_meaning"] ["_law_deck_here", "_law_words", "_law_fresh", "_law_far"] (defScope s_l_meanings) := ⟨rfl, rfl, rfl, by decide +kernel, rfl, by decide +kernel, by decide +kernel⟩
def spWordsDrawn : SpD := fun ds S Q => ∃ (a : Addr), ds = [.ref a, .int 6] ∧ Dk a S ∧
  ∀ (p1 p2 p3 p4 : Addr) (ns ks dos fr : List Str) (S' : Store), Ch a S S' → Wrds S' p1 p2 p3 ns ks dos → S' p4 = some (.lst (fr.map D.str)) → fr.length = 6 → fr.Nodup → ns.length ≤ 3 → (∀ x ∈ ns, nmS x) → (∀ x ∈ ks, Wd x) → (∀ x ∈ dos, Wd x) → (∀ x ∈ fr, Wd x ∧ x ∉ ks) → ks.length ≤ 14 →
    Q (.tup [.ref p1, .ref p2, .ref p3, .ref p4]) S'
def pz (M : List Mn) : Nat := M.foldl (fun n m => n * m.g.sz) 1
theorem pz_snoc {M : List Mn} {m : Mn} : pz (M ++ [m]) = pz M * m.g.sz := by unfold pz; rw [List.foldl_append]; rfl
theorem hs_snoc {M : List Mn} {m : Mn} : hs (M ++ [m]) = hs M + m.g.ht := by unfold hs; simp
def spMeanings : SpD := fun ds S Q => ∃ (a pn pk pd pf : Addr) (ns ks dos fr : List Str) (far : Bool), ds = [.ref a, wrds pn pk pd, .ref pf, .bl far] ∧ Dk a S ∧ Wrds S pn pk pd ns ks dos ∧ S pf = some (.lst (fr.map D.str)) ∧ fr.length = 6 ∧ fr.Nodup ∧ (∀ x ∈ fr, x ∉ ks) ∧ (∀ x ∈ ns, nmS x) ∧
  ns.length ≤ 3 ∧ ks.length ≤ 14 ∧
  ∀ (M : List Mn) (S' : Store), Ch a S S' → MOk (· ∈ ks) (· ∈ dos) M → M.length ≤ 6 → hs M ≤ 23 → pz M ≤ 2401 → (∀ k, keys M k → k ∈ fr) → Q (.tup (M.map Mn.d)) S'
section
variable {P : Program} {w : World} {K : PySem.W.Frag} {mg : Str → Option Value} {base : Heap}
theorem df_words_drawn {k : Nat} (T : Bt mg) (A : At K mg "_law_words_drawn" "_law_words_drawn" s_l_words_drawn) (G_l_draw : Df P w K mg base "_law_draw" k spDrawC) (G_l_names : Df P w K mg base "_law_names" k spNames) (G_l_kinds : Df P w K mg base "_law_kinds" k spKinds) :
    Df P w K mg base "_law_words_drawn" (k + 1) spWordsDrawn := by
  have nd := sc_l_words_drawn.nd
  refine df_mk A rfl sc_l_words_drawn (fun _ _ _ _ _ _ us hl => match us, hl with | [_, _], _ => rfl) (fun ds S Q h => ?_) (fun f cdv A outer s H E hr ds S Q h => ?_)
  · obtain ⟨a, rfl, _⟩ := h
    rfl
  obtain ⟨a, rfl, hd, h⟩ := h
  have hu := hu_of hr
  refine ⟨_, (dss_cons (ds_set (i := 2) nd rfl (Or.inl rfl) (de_call G_l_kinds hr rfl (da_cons (dv 0) (da_cons (de_op od_add (de_op od_add de_int (de_call G_l_draw hr rfl (da_cons (dv 0) (da_cons (dv 1) da_nil)))) de_int) da_nil))))
    (dss_cons (ds_set (i := 3) nd rfl (Or.inr rfl) (de_callB cd_sorted rfl T.sorted_ (by decide +kernel) (da_cons (de_slice (de_slice (dv 2) (do_some de_int) (do_some (de_op od_add de_int (de_call G_l_draw hr rfl (da_cons (dv 0) (da_cons (de_op od_sub (de_callB cd_len rfl T.len_ (by decide +kernel) (da_cons (dv 2) da_nil)) de_int) da_nil)))))) do_none (do_some (de_call G_l_draw hr rfl (da_cons (dv 0) (da_cons de_int da_nil))))) da_nil)))
    (dss_cons (ds_set (i := 4) nd rfl (Or.inl rfl) (de_callB cd_sorted rfl T.sorted_ (by decide +kernel) (da_cons (de_lc (own := [("_law_word_here", 5)]) (g := GD.one 5) rfl nd (di_any (de_slice (dv 2) (do_some de_int) do_none)) (blkOk_by (own := [("_law_word_here", 5)]) (N := ["_law_deck_here", "_law_most", "_law_words", "_law_doings", "_law_kinds_here", "_law_word_here"]) (sc := defScope s_l_words_drawn) (by decide +kernel)) (fun _ _ _ _ _ => (dg_name (i := 5) nd rfl (Or.inl rfl))) (fun _ _ _ _ _ => (dts_one (dt_cmp (od_notIn hu) (dv 5) (dv 3) rfl))) (fun _ _ _ _ _ => (dv 5))) da_nil)))
    (dss_one (ds_ret (de_tup (da_cons (de_callB cd_sorted rfl T.sorted_ (by decide +kernel) (da_cons (de_call G_l_names hr rfl (da_cons (dv 0) (da_cons (de_call G_l_draw hr rfl (da_cons (dv 0) (da_cons de_int da_nil))) da_nil))) da_nil)) (da_cons (dv 4) (da_cons (dv 3) (da_cons (de_slice (dv 2) do_none (do_some de_int)) da_nil)))))))))), ?_⟩
  walk_at "go"
  refine ⟨a, _, rfl, hd, by decide, by decide, fun r S1 r0 r1 c1 => ?_⟩
  walk_at "dl"
  obtain ⟨m, hm⟩ : ∃ m : Nat, 1 + r + 6 = m := ⟨(1 + r + 6).toNat, by omega⟩
  rw [hm]
  refine ⟨a, m, rfl, c1.2, by omega, fun W pw S2 c2' npw hW hlen hnd hWd => ?_⟩
  have c2 := c1.trans c2'
  have pwa : pw ≠ a := c2.2.strs hW
  walk_at "go"
  rw [hW]
  walk_at "dl"
  rw [List.length_map]
  refine ⟨a, _, rfl, c2.2, by omega, by omega, fun r2 S3 g0 g1 c3' => ?_⟩
  have c3 := c2.trans c3'
  walk_at "dl"
  rw [c3'.1 pw _ pwa hW]
  walk_at "dl"
  rw [cutL_map]
  intro q1 nq1
  have c4' := c3'.new (o := .lst ((cutL W (some 6) (some (7 + r2))).map D.str)) c2.2 nq1
  refine ⟨a, _, rfl, c4'.2, by decide, by decide, fun r3 S5 k0 k1 c5'' => ?_⟩
  have c5' := c4'.trans c5''
  have hq1 : S5 q1 = some (.lst ((cutL W (some 6) (some (7 + r2))).map D.str)) := c5''.1 q1 _ (c3'.2.ne nq1) put_same
  walk_at "dl"
  rw [hq1]
  walk_at "dl"
  rw [cutL_map]
  intro q2 nq2
  have hdl : (cutL (cutL W (some 6) (some (7 + r2))) none (some r3)).length ≤ 14 := Nat.le_trans cutL_le (Nat.le_trans cutL_le (by omega))
  refine ⟨_, seqAt_ref put_same, by rw [List.length_map]; omega, .inl ⟨_, strsOf_of _, fun dos p3 perm _ np3 => ?_⟩⟩
  have hdW : ∀ x ∈ dos, Wd x := fun x hx => hWd x (cutL_mem (cutL_mem (perm.mem_iff.mp hx)))
  have hdl' : dos.length ≤ 14 := by rw [perm.length_eq]; exact hdl
  have c6' := (c5'.new (o := .lst ((cutL (cutL W (some 6) (some (7 + r2))) none (some r3)).map D.str)) c2.2 nq2).new (o := .lst (dos.map D.str)) c2.2 np3
  have hp3 : put (put S5 q2 (.lst ((cutL (cutL W (some 6) (some (7 + r2))) none (some r3)).map D.str))) p3 (.lst (dos.map D.str)) p3 = some (.lst (dos.map D.str)) := put_same
  generalize put (put S5 q2 (.lst ((cutL (cutL W (some 6) (some (7 + r2))) none (some r3)).map D.str))) p3 (.lst (dos.map D.str)) = S6 at c6' hp3
  have hW6 := c6'.1 pw _ pwa hW
  walk_at "go"
  rw [hW6]
  walk_at "dl"
  rw [cutL_map, show (6 : Int) = ((6 : Nat) : Int) from rfl, cutL_from]
  intro q3 nq3
  have c7' := c6'.new (o := .lst ((W.drop 6).map D.str)) c2.2 nq3
  have p3a : p3 ≠ a := c6'.2.strs hp3
  have h33 : p3 ≠ q3 := fun z => by rw [z, nq3] at hp3; cases hp3
  have hp3' : put S6 q3 (.lst ((W.drop 6).map D.str)) p3 = some (.lst (dos.map D.str)) := (put_ne h33).trans hp3
  refine ⟨⟨_, rfl⟩, fun q4 nq4 => ?_⟩
  have h34 : q3 ≠ q4 := fun z => by rw [z, put_same] at nq4; cases nq4
  have h35 : p3 ≠ q4 := fun z => by rw [z, nq4] at hp3'; cases hp3'
  refine lcB_flt (W.drop 6) (fun x => decide (x ∉ dos)) (fun k acc => ?_) (by rw [List.length_drop]; omega) (fun x acc N hN => ?_) (fun x S Y y => ?_) ?_
  · show lstJ (put (put S6 q3 _) q4 (.lst acc) q3) k = _
    rw [put_ne h34, put_same]
    rfl
  · walk_at "dl"
    rw [put_ne h35, hp3']
    walk_at "dl"
    refine ⟨dos, strsOf_of dos, ?_⟩
    rw [show (!decide (x ∈ dos)) = decide (x ∉ dos) from by simp]
    exact hN
  · walk_at "dl"
    exact y
  have c8' := c7'.new (o := .lst (((W.drop 6).filter fun x => decide (x ∉ dos)).map D.str)) c2.2 nq4
  walk_at "dl"
  have hkl : ((W.drop 6).filter fun x => decide (x ∉ dos)).length ≤ 14 := Nat.le_trans (List.length_filter_le _ _) (by rw [List.length_drop]; omega)
  refine ⟨_, seqAt_ref put_same, by rw [List.length_map]; omega, .inl ⟨_, strsOf_of _, fun ks p2 perm2 _ np2 => ?_⟩⟩
  have c9' := c8'.new (o := .lst (ks.map D.str)) c2.2 np2
  have h32 : p3 ≠ p2 := fun z => by rw [z] at hp3'; rw [put_ne (fun z2 => h35 (z.trans z2)), hp3'] at np2; cases np2
  have hp3'' : put (put (put S6 q3 (.lst ((W.drop 6).map D.str))) q4 (.lst (((W.drop 6).filter fun x => decide (x ∉ dos)).map D.str))) p2 (.lst (ks.map D.str)) p3 = some (.lst (dos.map D.str)) := by rw [put_ne h32, put_ne h35]; exact hp3'
  have hp2 : put (put (put S6 q3 (.lst ((W.drop 6).map D.str))) q4 (.lst (((W.drop 6).filter fun x => decide (x ∉ dos)).map D.str))) p2 (.lst (ks.map D.str)) p2 = some (.lst (ks.map D.str)) := put_same
  generalize put (put (put S6 q3 (.lst ((W.drop 6).map D.str))) q4 (.lst (((W.drop 6).filter fun x => decide (x ∉ dos)).map D.str))) p2 (.lst (ks.map D.str)) = S9 at c9' hp3'' hp2
  have hkm : ∀ x ∈ ks, x ∈ W.drop 6 := fun x hx => (List.mem_filter.mp (perm2.mem_iff.mp hx)).1
  have hkl' : ks.length ≤ 14 := by rw [perm2.length_eq]; exact hkl
  walk_at "go"
  refine ⟨a, _, rfl, c9'.2, by decide, by decide, fun r4 S10 u0 u1 c10'' => ?_⟩
  obtain ⟨m4, rfl⟩ : ∃ m : Nat, r4 = m := ⟨r4.toNat, by omega⟩
  refine ⟨a, m4, rfl, c10''.2, by omega, fun ns pn0 S11 c11'' hpn0 hnl hnm => ?_⟩
  have c11 := c10''.trans c11''
  walk_at "dl"
  refine ⟨_, seqAt_ref hpn0, by rw [List.length_map]; omega, .inl ⟨_, strsOf_of _, fun ns' p1 perm3 _ np1 => ?_⟩⟩
  have c12 := c11.new (o := .lst (ns'.map D.str)) c9'.2 np1
  have hp1 : put S11 p1 (.lst (ns'.map D.str)) p1 = some (.lst (ns'.map D.str)) := put_same
  generalize put S11 p1 (.lst (ns'.map D.str)) = S12 at c12 hp1
  have c12' := c9'.trans c12
  walk_at "dl"
  rw [c12'.1 pw _ pwa hW]
  walk_at "dl"
  rw [cutL_map, cutL_to]
  intro p4 np4
  have c13 := c12.new (o := .lst ((W.take 6).map D.str)) c9'.2 np4
  have c13' := c9'.trans c13
  walk_at "dl"
  have n14 : p1 ≠ p4 := fun z => by rw [z, np4] at hp1; cases hp1
  refine ⟨_, Sub.refl, h p1 p2 p3 p4 ns' ks dos (W.take 6) _ (c2.trans c13') ⟨(put_ne n14).trans hp1, c13.get c9'.2 hp2, c13.get c9'.2 hp3'', by rw [perm3.length_eq]; omega, by omega, by omega⟩ put_same (by rw [List.length_take]; omega) (hnd.sublist (List.take_sublist _ _)) (by rw [perm3.length_eq]; omega)
    (fun x hx => hnm x (perm3.mem_iff.mp hx)) (fun x hx => hWd x (List.mem_of_mem_drop (hkm x hx))) hdW (fun x hx => ⟨hWd x (List.mem_of_mem_take hx), fun hk => ?_⟩) hkl'⟩
  have e := List.take_append_drop 6 W
  rw [← e, List.nodup_append] at hnd
  exact hnd.2.2 x hx x (hkm x hk) rfl
theorem emp_one {ns : List Str} {x : Str} : emp (ns ++ [x]) = 0 := by unfold emp; simp
theorem digs {i : Nat} (h : i < 6) : atI ("012345" : Str).cps.toList (0 + (i : Int)) = some (48 + i) := by
  rw [Int.zero_add]
  refine atI_nat ?_
  match i, h with
  | 0, _ => decide +kernel
  | 1, _ => decide +kernel
  | 2, _ => decide +kernel
  | 3, _ => decide +kernel
  | 4, _ => decide +kernel
  | 5, _ => decide +kernel
def MnI (S : Store) (a pn pk pd pf : Addr) (ks dos fr : List Str) (far : Bool) (m : Nat) (i : Nat) : StD → Store → Prop := fun δ S' => ∃ (M : List Mn) (o9 o10 o11 o12 o13 : Option D),
  δ = [some (.ref a), some (wrds pn pk pd), some (.ref pf), some (.bl far), some (.ref pn), some (.ref pk), some (.ref pd), some (.tup (M.map Mn.d)), some (.int (m : Nat)), o9, o10, o11, o12, o13, none] ∧
  Ch a S S' ∧ M.length = i ∧ MOk (· ∈ ks) (· ∈ dos) M ∧ (∀ k, keys M k → k ∈ fr.take i) ∧ hs M ≤ 3 * i + 5 ∧ pz M ≤ (if m = 6 then 3 ^ i else if far = true then 3 * 7 ^ i else 7 ^ i)
theorem mark_mk {i : Nat} {ch : Nat} (h : chLt ch) : mkS i ((⟨#[ch]⟩ : Str) ++ ⟨#[48 + i]⟩) := ⟨ch, h, by rw [app_toList]; rfl⟩
theorem df_meanings {k : Nat} (T : Bt mg) (A : At K mg "_law_meanings" "_law_meanings" s_l_meanings) (G_l_draw : Df P w K mg base "_law_draw" k spDrawC) (G_l_form : Df P w K mg base "_law_form" k (spForm 4)) (G_l_deeper : Df P w K mg base "_law_deeper" k (spDeeper 11)) :
    Df P w K mg base "_law_meanings" (k + 1) spMeanings := by
  have nd := sc_l_meanings.nd
  refine df_mk A rfl sc_l_meanings (fun _ _ _ _ _ _ us hl => match us, hl with | [_, _, _, _], _ => rfl) (fun ds S Q h => ?_) (fun f cdv A outer s H E hr ds S Q h => ?_)
  · obtain ⟨a, pn, pk, pd, pf, ns, ks, dos, fr, far, rfl, _⟩ := h
    rfl
  obtain ⟨a, pn, pk, pd, pf, ns, ks, dos, fr, far, rfl, hd, hw, hf, hfl, hfn, hfk, hnm, hnl, hkl, h⟩ := h
  have hu := hu_of hr
  refine ⟨_, (dss_cons (ds_asg (dv 1) (dg_tup rfl (dgs_cons (dg_name (i := 4) nd rfl (Or.inl rfl)) (dgs_cons (dg_name (i := 5) nd rfl (Or.inl rfl)) (dgs_cons (dg_name (i := 6) nd rfl (Or.inl rfl)) dgs_nil)))))
    (dss_cons (ds_set (i := 7) nd rfl (Or.inl rfl) (de_tup da_nil))
    (dss_cons (ds_set (i := 8) nd rfl (Or.inl rfl) (de_ix hu (de_lst (da_cons de_int (da_cons de_int (da_cons de_int (da_cons de_int (da_cons de_int (da_cons de_int (da_cons de_int (da_cons de_int da_nil))))))))) (de_call G_l_draw hr rfl (da_cons (dv 0) (da_cons de_int da_nil)))))
    (dss_cons (ds_if (dt_val (dv 3)) (dss_one (ds_set (i := 8) nd rfl (Or.inl rfl) (de_callB (cd_min2 rfl) rfl T.min_ (by decide +kernel) (da_cons (dv 8) (da_cons de_int da_nil))))) dss_nil)
    (dss_cons (ds_for PassesOwn.never rfl (di_range1 rfl T.range_ (da_cons (dv 8) da_nil)) (dg_name (i := 9) nd rfl (Or.inl rfl)) (dss_cons (ds_set (i := 10) nd rfl (Or.inl rfl) (de_op od_add (de_ix hu de_str (de_call G_l_draw hr rfl (da_cons (dv 0) (da_cons de_int da_nil)))) (de_ix hu de_str (dv 9))))
    (dss_cons (ds_setLc (i := 11) (own := [("_law_meaning", 14)]) (g := GD.one 14) rfl nd rfl rfl (sw_true rfl rfl rfl (by decide +kernel)) (di_any (dv 7)) (blkOk_by (own := [("_law_meaning", 14)]) (N := ["_law_deck_here", "_law_words", "_law_fresh", "_law_far", "_law_names_here", "_law_kinds_here", "_law_doings", "_law_meanings_here", "_law_many", "_law_k", "_law_x", "_law_told", "_law_deep", "_law_there", "_law_meaning"]) (sc := defScope s_l_meanings) (by decide +kernel)) (fun _ _ _ _ _ => (dg_name (i := 14) nd rfl (Or.inl rfl))) (fun _ _ _ _ _ => dts_nil) (fun _ _ _ _ _ => (de_ix hu (dv 14) de_int)))
    (dss_cons (ds_set (i := 12) nd rfl (Or.inl rfl) (de_op od_add de_int (de_callTy cd_int rfl T.int_ (by decide +kernel) (da_cons (de_and (de_cmp od_lt (dv 9) de_int (nomark _)) (de_one (de_cmp od_lt (dv 8) de_int (nomark _)))) da_nil))))
    (dss_cons (ds_set (i := 13) nd rfl (Or.inl rfl) (de_call G_l_form hr rfl (da_cons (dv 0) (da_cons (de_tup (da_cons (dv 4) (da_cons (de_op od_add (dv 5) (dv 11)) (da_cons (dv 6) da_nil)))) (da_cons (de_lst (da_cons (dv 10) da_nil)) (da_cons (dv 12) (da_cons (de_ix hu de_str (dv 9)) da_nil)))))))
    (dss_cons (ds_if (dt_w (dw_and (dt_val (dv 3)) (dw_and1 (dt_cmp (od_eq hr.units) (dv 9) de_int (nomark _))))) (dss_one (ds_set (i := 13) nd rfl (Or.inl rfl) (de_call G_l_deeper hr rfl (da_cons (dv 0) (da_cons (dv 1) (da_cons (de_lst (da_cons (dv 10) da_nil)) (da_cons de_int (da_cons de_str da_nil)))))))) dss_nil)
    (dss_one (ds_set (i := 7) nd rfl (Or.inl rfl) (de_op od_add (dv 7) (de_tup (da_cons (de_tup (da_cons (de_ix hu (dv 2) (dv 9)) (da_cons (dv 10) (da_cons (dv 13) da_nil)))) da_nil)))))))))))
    (dss_one (ds_ret (dv 7)))))))), ?_⟩
  walk_at "go"
  intro q nq
  have c1 := (Ch.refl hd).new (o := .lst [.int 0, .int 1, .int 2, .int 3, .int 4, .int 2, .int 3, .int 6]) hd nq
  have qa := hd.ne nq
  refine ⟨a, _, rfl, c1.2, by decide, by decide, fun r S2 r0 r1 c2' => ?_⟩
  have c2 := c1.trans c2'
  walk_at "dl"
  rw [c2'.1 q _ qa put_same]
  walk_at "dl"
  refine ixSeq_mem (ds := [.int 0, .int 1, .int 2, .int 3, .int 4, .int 2, .int 3, .int 6]) r0 (by simp; omega) fun d hdm => ?_
  obtain ⟨m0, rfl, hm0⟩ : ∃ m0 : Nat, d = .int (m0 : Nat) ∧ (m0 ≤ 4 ∨ m0 = 6) := by
    simp only [List.mem_cons, List.not_mem_nil, or_false] at hdm
    rcases hdm with rfl | rfl | rfl | rfl | rfl | rfl | rfl | rfl
    · exact ⟨0, rfl, .inl (by decide)⟩
    · exact ⟨1, rfl, .inl (by decide)⟩
    · exact ⟨2, rfl, .inl (by decide)⟩
    · exact ⟨3, rfl, .inl (by decide)⟩
    · exact ⟨4, rfl, .inl (by decide)⟩
    · exact ⟨2, rfl, .inl (by decide)⟩
    · exact ⟨3, rfl, .inl (by decide)⟩
    · exact ⟨6, rfl, .inr rfl⟩
  refine seq_cut (fun δ' S3 => S3 = S2 ∧ ∃ m : Nat, δ' = [some (.ref a), some (wrds pn pk pd), some (.ref pf), some (.bl far), some (.ref pn), some (.ref pk), some (.ref pd), some (.tup []), some (.int (m : Nat)), none, none, none, none, none, none] ∧ (m ≤ 4 ∨ m = 6) ∧ (far = true → m ≤ 3)) (fun N hN => ?_) ?_
  · cases far with
    | true =>
      walk_at "dl"
      have e : (if (3 : Int) < (m0 : Int) then (3 : Int) else (m0 : Int)) = ((min m0 3 : Nat) : Int) := by split <;> omega
      rw [e]
      exact hN _ _ ⟨rfl, min m0 3, rfl, by omega, fun _ => by omega⟩
    | false =>
      walk_at "dl"
      exact hN _ _ ⟨rfl, m0, rfl, hm0, fun z => by cases z⟩
  rintro δ' S3 ⟨rfl, m, rfl, hm, hfm⟩
  refine sq ?_
  walk_at "dl"
  refine ⟨by omega, ?_⟩
  rw [Int.toNat_natCast]
  refine forB_rng (MnI S a pn pk pd pf ks dos fr far m) ?_ ?_ ?_
  · refine ⟨[], none, none, none, none, none, rfl, c2, rfl, .nil, (fun k ⟨z, hz, _⟩ => by cases hz), (by simp [hs]), ?_⟩
    show 1 ≤ _
    split
    · decide
    · split <;> decide
  · rintro i δ S' hi ⟨M, o9, o10, o11, o12, o13, rfl, c3, hM, hok, hkeys, hhs, hpz⟩
    have hi6 : i < 6 := by omega
    walk_at "go"
    refine ⟨a, _, rfl, c3.2, by decide, by decide, fun r2 S4 g0 g1 c4' => ?_⟩
    have c4 := c3.trans c4'
    walk_at "dl"
    refine ixS (s := "uvwxyz") chLt (by decide +kernel) (by decide +kernel) g0 (by rw [show ("uvwxyz" : Str).length = 6 from by decide +kernel]; exact g1) fun ch hch => ?_
    walk_at "dl"
    refine ⟨_, by decide +kernel, digs hi6, ?_⟩
    refine ⟨szOk (by rw [show (⟨#[ch]⟩ : Str).length = 1 from rfl, show (⟨#[48 + i]⟩ : Str).length = 1 from rfl]; decide), ?_⟩
    have hx : mkS i ((⟨#[ch]⟩ : Str) ++ ⟨#[48 + i]⟩) := mark_mk hch
    generalize (⟨#[ch]⟩ : Str) ++ ⟨#[48 + i]⟩ = x at hx
    walk_at "go"
    intro q5 nq5
    refine lcB_zip (M.map Mn.d) ((M.map (·.k)).map D.str) (by simp) (fun k acc => rfl) (by rw [List.length_map]; exact szOk (by omega)) (fun k d r acc Y N e1 e2 y => ?_) ?_
    · rw [List.getElem?_map] at e1
      rw [List.getElem?_map, List.getElem?_map] at e2
      cases e : M[k]? with
      | none => rw [e] at e1; cases e1
      | some mn =>
        rw [e] at e1 e2
        cases e1
        cases e2
        simp only [Mn.d]
        walk_at "dl"
        exact y
    have c5 := c4.new (o := .lst ((M.map (·.k)).map D.str)) hd nq5
    walk_at "dl"
    have hq5 : put S4 q5 (.lst ((M.map (·.k)).map D.str)) q5 = some (.lst ((M.map (·.k)).map D.str)) := put_same
    generalize put S4 q5 (.lst ((M.map (·.k)).map D.str)) = S5 at c5 hq5
    have q5a := c5.2.strs hq5
    refine seq_cut (fun δ' S6 => S6 = S5 ∧ ∃ dp : Nat, δ' = [some (.ref a), some (wrds pn pk pd), some (.ref pf), some (.bl far), some (.ref pn), some (.ref pk), some (.ref pd), some (.tup (M.map Mn.d)), some (.int (m : Nat)), some (.int (0 + (i : Int))), some (.str x), some (.ref q5), some (.int (dp : Nat)), o13, none] ∧ dp ≤ 2 ∧ (m = 6 → dp = 1) ∧ 1 ≤ dp) (fun N hN => ?_) ?_
    · walk_at "dl"
      refine ite2 (fun e1 => ?_) (fun e1 => ?_)
      · by_cases e2 : (m : Int) < 6
        · rw [if_pos e2]
          exact hN _ _ ⟨rfl, 2, rfl, by decide, fun z => by omega, by decide⟩
        · rw [if_neg e2]
          exact hN _ _ ⟨rfl, 1, rfl, by decide, fun z => rfl, by decide⟩
      · exact hN _ _ ⟨rfl, 1, rfl, by decide, fun z => rfl, by decide⟩
    rintro δ' S6 ⟨rfl, dp, rfl, hdp, hdp6, hdp1⟩
    walk_at "go"
    have w5 := hw.ch hd c5
    refine ⟨_, _, w5.k, hq5, szOk (by rw [List.length_map, List.length_map, List.length_map]; omega), fun pk2 npk2 => ?_⟩
    have c6 := c5.new (o := .lst (ks.map D.str ++ (M.map (·.k)).map D.str)) hd npk2
    intro q6 nq6
    have c7 := c6.new (o := .lst [.str x]) hd nq6
    have h26 : pk2 ≠ q6 := fun z => by rw [z, put_same] at nq6; cases nq6
    refine ⟨_, by decide +kernel, digs hi6, ?_⟩
    have w7 := hw.ch hd c7
    refine ⟨Tm (i + 1), a, pn, pk2, pd, q6, ns, ks ++ M.map (·.k), dos, [x], dp, ⟨#[48 + i]⟩, rfl, c7.2, ⟨w7.n, ?_, w7.d, by omega, by rw [List.length_append, List.length_map]; omega, w7.ld⟩, put_same, ?_, ?_, fun y hy => .inl (hnm y hy), fun y hy => ?_, fun c hc => .inr ⟨i, by omega, mark_mk hc⟩, (show (1 : Nat) ≤ 5 by decide), fun F S8 c8' ok8 ht8 sz8 => ?_⟩
    · rw [put_ne h26, put_same, List.map_append]
    · rw [emp_one]; show 1 + dp + 0 ≤ 60; omega
    · rw [emp_one]; omega
    · cases List.mem_singleton.mp hy
      exact .inr ⟨i, by omega, hx⟩
    have e0 : emp (ns ++ [x]) = 0 := emp_one
    rw [e0] at ht8 sz8
    have c8 := c7.trans c8'
    have kk : ∀ k, k ∈ ks ++ M.map (·.k) → k ∈ ks ∨ keys M k := fun k hk => by
      rcases List.mem_append.mp hk with hk | hk
      · exact .inl hk
      · obtain ⟨z, hz, e⟩ := List.mem_map.mp hk
        exact .inr ⟨z, hz, e⟩
    have sz9 : F.sz ≤ 7 := by
      have : 2 ^ (dp + 1) ≤ 2 ^ 3 := Nat.pow_le_pow_right (by decide) (by omega)
      omega
    have sz10 : m = 6 → F.sz ≤ 3 := fun z => by
      rw [hdp6 z] at sz8
      omega
    walk_at "dl"
    refine seq_cut (fun δ' S9 => ∃ F : Fm, δ' = [some (.ref a), some (wrds pn pk pd), some (.ref pf), some (.bl far), some (.ref pn), some (.ref pk), some (.ref pd), some (.tup (M.map Mn.d)), some (.int (m : Nat)), some (.int (0 + (i : Int))), some (.str x), some (.ref q5), some (.int (dp : Nat)), some F.d, none] ∧ Ch a S S9 ∧ F.ok (Tm (i + 1)) (fun k => k ∈ ks ∨ keys M k) (· ∈ dos) ∧
      ((F.ht ≤ 3 ∧ F.sz ≤ 7 ∧ (m = 6 → F.sz ≤ 3)) ∨ (i = 0 ∧ far = true ∧ F.ht ≤ 8 ∧ F.sz ≤ 16))) (fun N hN => ?_) ?_
    · have old : N [some (.ref a), some (wrds pn pk pd), some (.ref pf), some (.bl far), some (.ref pn), some (.ref pk), some (.ref pd), some (.tup (M.map Mn.d)), some (.int (m : Nat)), some (.int (0 + (i : Int))), some (.str x), some (.ref q5), some (.int (dp : Nat)), some F.d, none] S8 :=
        hN _ _ ⟨F, rfl, c8, ok8.imp (fun _ z => z) kk fun _ z => z, .inl ⟨by omega, sz9, sz10⟩⟩
      cases far with
      | false =>
        walk_at "dl"
        exact old
      | true =>
        walk_at "dl"
        refine ite2 (fun e1 => ?_) (fun e1 => old)
        have hi0 : i = 0 := by
          have e2 : (0 : Int) + (i : Int) = 0 := e1
          omega
        walk_at "dl"
        intro q7 nq7
        have c9 := c8.new (o := .lst [.str x]) hd nq7
        refine ⟨Tm (i + 1), a, pn, pk, pd, q7, ns, ks, dos, [x], 8, "0", rfl, c9.2, hw.ch hd c9, put_same, by simp, by omega, ?_, fun y hy => .inl (hnm y hy), fun y hy => ?_, fun c hc => ?_, by decide, fun F2 S10 c10 ok10 ht10 sz10' => ?_⟩
        · rw [emp_one]; omega
        · cases List.mem_singleton.mp hy
          exact .inr ⟨i, by omega, hx⟩
        · refine .inr ⟨0, by omega, ?_⟩
          have e48 : ("0" : Str) = ⟨#[48 + 0]⟩ := by decide +kernel
          rw [e48]
          exact mark_mk hc
        · exact hN _ _ ⟨F2, rfl, c9.trans c10, ok10.imp (fun _ z => z) (fun _ z => .inl z) fun _ z => z, .inr ⟨hi0, rfl, ht10, sz10'⟩⟩
    rintro δ' S9 ⟨F3, rfl, c9, ok9, hb⟩
    walk_at "dl"
    have hif : i < fr.length := by omega
    rw [c9.get hd hf]
    walk_at "dl"
    refine ⟨.str fr[i], ?_, ?_⟩
    · rw [Int.zero_add]
      exact atI_nat (by rw [List.getElem?_map, List.getElem?_eq_getElem hif]; rfl)
    walk_at "dl"
    rw [List.length_map]
    refine ⟨szOk (by omega), M ++ [⟨fr[i], x, F3⟩], _, _, _, _, _, by rw [List.map_append]; rfl, c9, by rw [List.length_append, hM]; rfl, ?_, ?_, ?_, ?_⟩
    · have etk := List.take_append_getElem hif
      have hnk : fr[i] ∉ fr.take i := fun z => by
        have hs2 : (fr.take (i + 1)).Nodup := hfn.sublist (List.take_sublist _ _)
        rw [← etk, List.nodup_append] at hs2
        exact hs2.2.2 _ z _ List.mem_cons_self rfl
      refine .snoc hok (fun z => hnk (hkeys _ z)) (hfk _ (List.getElem_mem hif)) (by rw [hM]; exact hx) (by rw [hM]; exact ok9)
    · intro k hk
      rw [← List.take_append_getElem hif]
      rcases keys_snoc.mp hk with hk | hk
      · exact List.mem_append_left _ (hkeys k hk)
      · exact List.mem_append_right _ (by rw [← hk]; exact List.mem_cons_self)
    · rw [hs_snoc]
      show hs M + F3.ht ≤ _
      rcases hb with ⟨b1, _⟩ | ⟨rfl, _, b2, _⟩
      · omega
      · cases List.length_eq_zero_iff.mp hM
        simp [hs]
        omega
    · rw [pz_snoc]
      show pz M * F3.sz ≤ _
      rcases hb with ⟨_, b1, b2⟩ | ⟨rfl, rfl, _, b2⟩
      · by_cases e6 : m = 6
        · rw [if_pos e6] at hpz ⊢
          have := Nat.mul_le_mul hpz (b2 e6)
          rw [Nat.pow_succ]
          omega
        · rw [if_neg e6] at hpz ⊢
          cases far with
          | true =>
            rw [if_pos rfl] at hpz ⊢
            have := Nat.mul_le_mul hpz b1
            rw [Nat.pow_succ]
            omega
          | false =>
            rw [if_neg (by decide)] at hpz ⊢
            have := Nat.mul_le_mul hpz b1
            rw [Nat.pow_succ]
            omega
      · have h3 := hfm rfl
        cases List.length_eq_zero_iff.mp hM
        rw [if_neg (by omega), if_pos rfl]
        show 1 * F3.sz ≤ 3 * 7 ^ (0 + 1)
        omega
  · rintro δ S' ⟨M, o9, o10, o11, o12, o13, rfl, c3, hM, hok, hkeys, hhs, hpz⟩
    walk_at "dl"
    refine ⟨S', Sub.refl, h M S' c3 hok (by omega) (by omega) ?_ fun k hk => List.mem_of_mem_take (hkeys k hk)⟩
    refine Nat.le_trans hpz ?_
    rcases hm with hm | rfl
    · rw [if_neg (by omega)]
      cases far with
      | true =>
        have h3 := hfm rfl
        rw [if_pos rfl]
        have : 7 ^ m ≤ 7 ^ 3 := Nat.pow_le_pow_right (by decide) h3
        omega
      | false =>
        rw [if_neg (by decide)]
        exact Nat.pow_le_pow_right (by decide) hm
    · rw [if_pos rfl]; decide
end
end K72

set_option Elab.async false
set_option maxRecDepth 100000
set_option linter.unusedVariables false
namespace K72
open PySem PySem.Spec PyProof.Rows L2 DL
local macro_rules | `(tactic| walk_at "dl") => `(tactic| try simp only [DL.tAsgD, DL.asg, DL.tVarD, DL.lk, DL.sto, DL.stos, DL.tOpD, DL.tCD, DL.tCallD, DL.tConsD, DL.tNilD, DL.tRetD, DL.endsD, DL.startD, DL.tIfSD, DL.tTestD, DL.tNextD, DL.tDropD, DL.tAndD, DL.tOrD, DL.tNotD, DL.tAndV, DL.tOrV, DL.tNotV, DL.tIfD, DL.tNegD, DL.tTupD, DL.tLstD, DL.tSetD, DL.tMD, DL.tSlD, DL.tPartD, DL.tNoD, DL.tRevD, DL.tForD, DL.tLcD, DL.tIterD, DL.tRng1D, DL.tRng2D, DL.tYesD, DL.wipeD, DL.tDictD, DL.tDictOne, DL.keyOf, DL.emE_rr, DL.tLess, DL.tLessS, DL.itOk, DL.rAdd_ii, DL.rAdd_ss, DL.rAdd_tt, DL.rAdd_rr, DL.rSub_ii, DL.rMod_ii, DL.rDiv_ii, DL.rPow_ii, DL.rMul_ii, DL.rMul_ri, DL.rLt_ii, DL.rLt_ss, DL.rLe_ii, DL.rGt_ii, DL.rGe_ii, DL.rEq_ii, DL.rEq_ss, DL.rEq_bb, DL.rNe_ii, DL.rNe_ss, DL.rNe_bb, DL.rEq_rr, DL.rNe_rr, DL.rEq_tt, DL.rNe_tt, DL.rIn_st, DL.rNotIn_st, DL.rIn_r, DL.rNotIn_r, DL.rIn_ss, DL.rInDO_sl, DL.rInDO_il, DL.rInDO_sd, DL.rInDO_id, DL.rIsN_n, DL.rIsN_t, DL.rIsN_i, DL.rIsN_s, DL.rIsN_r, DL.rNotN_n, DL.rNotN_t, DL.rNotN_i, DL.rNotN_s, DL.rNotN_r, DL.rIx_t, DL.rIx_r, DL.rIx_s, DL.rIxDO_l, DL.rIxDO_ds, DL.rIx0, DL.rIx1, DL.rIx2, DL.rIx3, DL.rSl_t, DL.rSl_s, DL.rSl_o, DL.rSl_r, DL.rSlDO, DL.rSet_r, DL.rSetDO_0, DL.rSetDO_s, DL.rLen_t, DL.rLen_o, DL.rLen_s, DL.rLen_r, DL.rLenDO, DL.rLenDO_d, DL.rList_t, DL.rList_o, DL.rList_r, DL.rListDO, DL.rTuple_t, DL.rTuple_r, DL.rInt_i, DL.rInt_b, DL.rMax, DL.rMin, DL.rSz0, DL.rSz1, DL.rSz2, DL.rSz3, DL.rSz4, DL.rSz5, DL.rSz6, DL.rSz7, DL.rSz8, Option.some.injEq, DL.DO.lst.injEq, exists_eq_left', exists_eq_left, DL.put_same, DL.put_put, true_and, and_true, List.map, List.replicate, List.length, List.cons_append, List.nil_append, Nat.reduceSub, Nat.reduceAdd, decide_eq_true_eq, if_true, if_false, Bool.false_eq_true, Bool.not_true, Bool.not_false])
local macro_rules | `(tactic| walk_at "dlh") => `(tactic| try simp only [*, DL.tAsgD, DL.asg, DL.tVarD, DL.lk, DL.sto, DL.stos, DL.tOpD, DL.tCD, DL.tCallD, DL.tConsD, DL.tNilD, DL.tRetD, DL.endsD, DL.startD, DL.tIfSD, DL.tTestD, DL.tNextD, DL.tDropD, DL.tAndD, DL.tOrD, DL.tNotD, DL.tAndV, DL.tOrV, DL.tNotV, DL.tIfD, DL.tNegD, DL.tTupD, DL.tLstD, DL.tSetD, DL.tMD, DL.tSlD, DL.tPartD, DL.tNoD, DL.tRevD, DL.tForD, DL.tLcD, DL.tIterD, DL.tRng1D, DL.tRng2D, DL.tYesD, DL.wipeD, DL.tDictD, DL.tDictOne, DL.keyOf, DL.emE_rr, DL.tLess, DL.tLessS, DL.itOk, DL.rAdd_ii, DL.rAdd_ss, DL.rAdd_tt, DL.rAdd_rr, DL.rSub_ii, DL.rMod_ii, DL.rDiv_ii, DL.rPow_ii, DL.rMul_ii, DL.rMul_ri, DL.rLt_ii, DL.rLt_ss, DL.rLe_ii, DL.rGt_ii, DL.rGe_ii, DL.rEq_ii, DL.rEq_ss, DL.rEq_bb, DL.rNe_ii, DL.rNe_ss, DL.rNe_bb, DL.rEq_rr, DL.rNe_rr, DL.rEq_tt, DL.rNe_tt, DL.rIn_st, DL.rNotIn_st, DL.rIn_r, DL.rNotIn_r, DL.rIn_ss, DL.rInDO_sl, DL.rInDO_il, DL.rInDO_sd, DL.rInDO_id, DL.rIsN_n, DL.rIsN_t, DL.rIsN_i, DL.rIsN_s, DL.rIsN_r, DL.rNotN_n, DL.rNotN_t, DL.rNotN_i, DL.rNotN_s, DL.rNotN_r, DL.rIx_t, DL.rIx_r, DL.rIx_s, DL.rIxDO_l, DL.rIxDO_ds, DL.rIx0, DL.rIx1, DL.rIx2, DL.rIx3, DL.rSl_t, DL.rSl_s, DL.rSl_o, DL.rSl_r, DL.rSlDO, DL.rSet_r, DL.rSetDO_0, DL.rSetDO_s, DL.rLen_t, DL.rLen_o, DL.rLen_s, DL.rLen_r, DL.rLenDO, DL.rLenDO_d, DL.rList_t, DL.rList_o, DL.rList_r, DL.rListDO, DL.rTuple_t, DL.rTuple_r, DL.rInt_i, DL.rInt_b, DL.rMax, DL.rMin, DL.rSz0, DL.rSz1, DL.rSz2, DL.rSz3, DL.rSz4, DL.rSz5, DL.rSz6, DL.rSz7, DL.rSz8, Option.some.injEq, DL.DO.lst.injEq, exists_eq_left', exists_eq_left, DL.put_same, DL.put_put, true_and, and_true, List.map, List.replicate, List.length, List.cons_append, List.nil_append, Nat.reduceSub, Nat.reduceAdd, decide_eq_true_eq, if_true, if_false, Bool.false_eq_true, Bool.not_true, Bool.not_false])
local macro_rules | `(tactic| walk_at "go") => `(tactic| repeat (first | (refine DL.sq ?_; try walk_at "dl") | (refine DL.ifY rfl ?_; try walk_at "dl") | (refine DL.inY rfl (by decide) ?_; try walk_at "dl") | (refine DL.inN rfl (by decide) ?_; try walk_at "dl") | (refine DL.ifN (by decide) ?_; try walk_at "dl")))
abbrev s_l_right : Stmt := top 28
theorem sc_l_right : FnScope ["_law_meanings_here", "_law_form_here", "_law_due_here", "_law_found"] ["_law_meanings_here", "_law_form_here"] (defScope s_l_right) := ⟨rfl, rfl, rfl, by decide +kernel, rfl, by decide +kernel, by decide +kernel⟩
def Fm.pd : Fm → PyData
  | .is t k => .tuple [.str "is", .str t, .str k]
  | .does d a b => .tuple [.str "does", .str d, .str a, .str b]
  | .same a b => .tuple [.str "same", .str a, .str b]
  | .neg f => .tuple [.str "not", f.pd]
  | .bin w f g => .tuple [.str w.s, f.pd, g.pd]
  | .qu w x f => .tuple [.str w.s, .str x, f.pd]
theorem Fm.pd_PD {S : Store} : ∀ F : Fm, PD S F.d F.pd
  | .is t k => .tup (.cons (.str _) (.cons (.str _) (.cons (.str _) .nil)))
  | .does d a b => .tup (.cons (.str _) (.cons (.str _) (.cons (.str _) (.cons (.str _) .nil))))
  | .same a b => .tup (.cons (.str _) (.cons (.str _) (.cons (.str _) .nil)))
  | .neg f => .tup (.cons (.str _) (.cons (Fm.pd_PD f) .nil))
  | .bin w f g => .tup (.cons (.str _) (.cons (Fm.pd_PD f) (.cons (Fm.pd_PD g) .nil)))
  | .qu w x f => .tup (.cons (.str _) (.cons (.str _) (.cons (Fm.pd_PD f) .nil)))
theorem Fm.pd_tup (F : Fm) : ∃ ps, F.pd = .tuple ps := by cases F <;> exact ⟨_, rfl⟩
theorem Fm.d_tup (F : Fm) : ∃ ds, F.d = .tup ds := by cases F <;> exact ⟨_, rfl⟩
def Lo (s : Str) : Prop := (∀ c ∈ s.cps.toList, c < 1000) ∧ s.length ≤ 8
theorem Lo.ok {s : Str} (h : Lo s) : PyData.strOk s = true := by
  unfold PyData.strOk
  rw [← Array.all_toList, List.all_eq_true]
  intro c hc
  have := h.1 c hc
  simp; omega
theorem J3.lo (w : J3) : Lo w.s := by cases w <;> exact ⟨by decide +kernel, by decide +kernel⟩
theorem Q2.lo (w : Q2) : Lo w.s := by cases w <;> exact ⟨by decide +kernel, by decide +kernel⟩
theorem lo_is : Lo "is" := ⟨by decide +kernel, by decide +kernel⟩
theorem lo_does : Lo "does" := ⟨by decide +kernel, by decide +kernel⟩
theorem lo_same : Lo "same" := ⟨by decide +kernel, by decide +kernel⟩
theorem lo_not : Lo "not" := ⟨by decide +kernel, by decide +kernel⟩
theorem Fm.pd_can : ∀ {F : Fm}, F.ok Lo Lo Lo → F.pd.canLay0 = true
  | .is t k, h => by simp [Fm.pd, PyData.canLay0, PyData.canLayAll0, lo_is.ok, h.1.ok, h.2.ok]
  | .does d a b, h => by simp [Fm.pd, PyData.canLay0, PyData.canLayAll0, lo_does.ok, h.1.ok, h.2.1.ok, h.2.2.ok]
  | .same a b, h => by simp [Fm.pd, PyData.canLay0, PyData.canLayAll0, lo_same.ok, h.1.ok, h.2.ok]
  | .neg f, h => by simp [Fm.pd, PyData.canLay0, PyData.canLayAll0, lo_not.ok, Fm.pd_can (F := f) h]
  | .bin w f g, h => by simp [Fm.pd, PyData.canLay0, PyData.canLayAll0, w.lo.ok, Fm.pd_can (F := f) h.1, Fm.pd_can (F := g) h.2]
  | .qu w x f, h => by simp [Fm.pd, PyData.canLay0, PyData.canLayAll0, w.lo.ok, h.1.ok, Fm.pd_can (F := f) h.2]
theorem Fm.pd_depth : ∀ F : Fm, F.pd.depth ≤ F.ht
  | .is t k => by simp [Fm.pd, PyData.depth, PyData.depthAll, Fm.ht]
  | .does d a b => by simp [Fm.pd, PyData.depth, PyData.depthAll, Fm.ht]
  | .same a b => by simp [Fm.pd, PyData.depth, PyData.depthAll, Fm.ht]
  | .neg f => by have := Fm.pd_depth f; simp [Fm.pd, PyData.depth, PyData.depthAll, Fm.ht]; omega
  | .bin w f g => by have := Fm.pd_depth f; have := Fm.pd_depth g; simp [Fm.pd, PyData.depth, PyData.depthAll, Fm.ht]; omega
  | .qu w x f => by have := Fm.pd_depth f; simp [Fm.pd, PyData.depth, PyData.depthAll, Fm.ht]; omega
theorem Fm.pd_show : ∀ F : Fm, F.pd.showable = true
  | .is t k => rfl
  | .does d a b => rfl
  | .same a b => rfl
  | .neg f => by simp [Fm.pd, PyData.showable, PyData.showableAll, Fm.pd_show f]
  | .bin w f g => by simp [Fm.pd, PyData.showable, PyData.showableAll, Fm.pd_show f, Fm.pd_show g]
  | .qu w x f => by simp [Fm.pd, PyData.showable, PyData.showableAll, Fm.pd_show f]
theorem Fm.pd_nodict : ∀ F : Fm, F.pd.hasDict = false
  | .is t k => rfl
  | .does d a b => rfl
  | .same a b => rfl
  | .neg f => by simp [Fm.pd, PyData.hasDict, PyData.hasDictAll, Fm.pd_nodict f]
  | .bin w f g => by simp [Fm.pd, PyData.hasDict, PyData.hasDictAll, Fm.pd_nodict f, Fm.pd_nodict g]
  | .qu w x f => by simp [Fm.pd, PyData.hasDict, PyData.hasDictAll, Fm.pd_nodict f]
theorem Lo.rep {s : Str} (h : Lo s) : (reprText s).length ≤ 10 * s.length + 2 := StrLaws.reprText_len s fun c hc => Nat.lt_of_lt_of_le (h.1 c hc) (by decide)
theorem piled3 {x y z : Str} : piled [x, y, z] = x.length + 2 + (y.length + 2 + (z.length + 2)) := by simp [piled]; try omega
theorem piled2 {x y : Str} : piled [x, y] = x.length + 2 + (y.length + 2) := by simp [piled]; try omega
theorem piled4 {x y z u : Str} : piled [x, y, z, u] = x.length + 2 + (y.length + 2 + (z.length + 2 + (u.length + 2))) := by simp [piled]; try omega
theorem Fm.pd_shown : ∀ {F : Fm}, F.ok Lo Lo Lo → F.pd.shown.length ≤ 300 * F.sz
  | .is t k, h => by
    have h0 := fmt_text [reprText "is", reprText t, reprText k]
    rw [piled3] at h0
    have h1 := lo_is.rep; have h2 := h.1.rep; have h3 := h.2.rep
    have e1 : ("is" : Str).length = 2 := by decide +kernel
    have := h.1.2; have := h.2.2
    show (tupleText [reprText "is", reprText t, reprText k]).length ≤ 300 * 1
    omega
  | .does d a b, h => by
    have h0 := fmt_text [reprText "does", reprText d, reprText a, reprText b]
    rw [piled4] at h0
    have h1 := lo_does.rep; have h2 := h.1.rep; have h3 := h.2.1.rep; have h4 := h.2.2.rep
    have e1 : ("does" : Str).length = 4 := by decide +kernel
    have := h.1.2; have := h.2.1.2; have := h.2.2.2
    show (tupleText [reprText "does", reprText d, reprText a, reprText b]).length ≤ 300 * 1
    omega
  | .same a b, h => by
    have h0 := fmt_text [reprText "same", reprText a, reprText b]
    rw [piled3] at h0
    have h1 := lo_same.rep; have h2 := h.1.rep; have h3 := h.2.rep
    have e1 : ("same" : Str).length = 4 := by decide +kernel
    have := h.1.2; have := h.2.2
    show (tupleText [reprText "same", reprText a, reprText b]).length ≤ 300 * 1
    omega
  | .neg f, h => by
    have h0 := fmt_text [reprText "not", f.pd.shown]
    rw [piled2] at h0
    have h1 := lo_not.rep
    have e1 : ("not" : Str).length = 3 := by decide +kernel
    have h2 := Fm.pd_shown (F := f) h
    show (tupleText [reprText "not", f.pd.shown]).length ≤ 300 * (f.sz + 1)
    omega
  | .bin w f g, h => by
    have h0 := fmt_text [reprText w.s, f.pd.shown, g.pd.shown]
    rw [piled3] at h0
    have h1 := w.lo.rep
    have := w.lo.2
    have h2 := Fm.pd_shown (F := f) h.1
    have h3 := Fm.pd_shown (F := g) h.2
    show (tupleText [reprText w.s, f.pd.shown, g.pd.shown]).length ≤ 300 * (f.sz + g.sz + 1)
    omega
  | .qu w x f, h => by
    have h0 := fmt_text [reprText w.s, reprText x, f.pd.shown]
    rw [piled3] at h0
    have h1 := w.lo.rep
    have := w.lo.2
    have h2 := Fm.pd_shown (F := f) h.2
    have h3 := h.1.rep
    have := h.1.2
    show (tupleText [reprText w.s, reprText x, f.pd.shown]).length ≤ 300 * (f.sz + 1)
    omega
/-- a form and itself: equal -/
theorem eqForm {F : Fm} {S : Store} {Q : KD} (f : Bool → Bool) (h : F.ok Lo Lo Lo) (hh : F.ht ≤ 64) (q : Q (.bl (f true)) S) : eqAny f F.d F.d S Q := by
  have hs : SeqAt.shaped F.pd = true := by
    unfold SeqAt.shaped
    rw [Fm.pd_can h]
    have := F.pd_depth
    simp; omega
  refine ⟨F.pd, F.pd, F.pd_PD, F.pd_PD, hs, hs, ?_⟩
  rw [SeqAt.eqv_refl F.pd (Fm.pd_can h)]
  exact q
theorem oEq_form {F : Fm} {S : Store} {Q : KD} (h : F.ok Lo Lo Lo) (hh : F.ht ≤ 64) (q : Q (.bl true) S) : oEq F.d F.d S Q := by
  obtain ⟨ds, e⟩ := F.d_tup
  have := eqForm (Q := Q) (S := S) id h hh q
  rw [e] at this ⊢
  exact this
theorem oNe_form {F : Fm} {S : Store} {Q : KD} (h : F.ok Lo Lo Lo) (hh : F.ht ≤ 64) (q : Q (.bl false) S) : oNe F.d F.d S Q := by
  obtain ⟨ds, e⟩ := F.d_tup
  have := eqForm (Q := Q) (S := S) not h hh q
  rw [e] at this ⊢
  exact this
section
variable {B W : Str → Prop}
theorem MOk.bounds {M : List Mn} (h : MOk B W M) : ∀ k x g, knOf M k = some (x, g) → (∃ j, j < M.length ∧ mkS j x) ∧ g.ht ≤ hs M ∧ g.sz ≤ pz M := by
  have pos : ∀ M : List Mn, 1 ≤ pz M := fun M => by
    induction M using rev_ind with
    | h0 => exact Nat.le_refl _
    | h1 N n ih => rw [pz_snoc]; exact Nat.mul_pos ih n.g.sz_pos
  induction h with
  | nil => intro k x g e; cases e
  | @snoc M m h1 h2 h3 h4 h5 ih =>
    intro k x g e
    rw [knOf_snoc] at e
    rw [List.length_append, hs_snoc, pz_snoc]
    by_cases ek : k = m.k
    · subst ek
      rw [kstep_at] at e
      cases e
      refine ⟨⟨M.length, by simp, h4⟩, ?_, ?_⟩
      · have := unf_ht (f := knOf M) (b := hs M) (fun k y g e => (ih k y g e).2.1) m.g
        omega
      · have := unf_sz (f := knOf M) (pos M) (fun k y g e => (ih k y g e).2.2) m.g
        rw [Nat.mul_comm]; exact this
    · rw [kstep_ne ek] at e
      obtain ⟨⟨j, hj, hx⟩, b1, b2⟩ := ih k x g e
      refine ⟨⟨j, by omega, hx⟩, by omega, ?_⟩
      have := m.g.sz_pos
      exact Nat.le_trans b2 (Nat.le_mul_of_pos_right _ this)
theorem pz_pos : ∀ M : List Mn, 1 ≤ pz M := fun M => by
  induction M using rev_ind with
  | h0 => exact Nat.le_refl _
  | h1 N n ih => rw [pz_snoc]; exact Nat.mul_pos ih n.g.sz_pos
theorem hs_pre {M N : List Mn} : hs M ≤ hs (M ++ N) := by unfold hs; simp
theorem mkS_ne {j : Nat} {x y : Str} (h : mkS j x) (hy : y.cps.toList.length ≠ 2) : x ≠ y := by
  rintro rfl
  obtain ⟨c, _, e⟩ := h
  rw [e] at hy
  exact hy rfl
/-- what meanings are known is fit for the program -/
theorem MOk.kng {M : List Mn} (h : MOk B W M) (hW : ∀ s, W s → Wd s) (h6 : M.length ≤ 6) (hh : hs M ≤ 60) : ∀ M1 M2, M = M1 ++ M2 → KnG (knOf M1) := by
  rintro M1 M2 rfl k x g e
  have h1 : MOk B W M1 := h.prefix
  obtain ⟨⟨j, hj, hx⟩, b1, _⟩ := h1.bounds k x g e
  rw [List.length_append] at h6
  refine ⟨Nat.le_trans b1 (Nat.le_trans hs_pre hh), mkS_ne hx (by decide +kernel), mkS_ne hx (by decide +kernel), ?_⟩
  refine (h1.dom e).2.imp (fun _ _ => trivial) (fun _ _ => trivial) fun s hs z => ?_
  subst z
  exact mkS_notWd hx (by omega) (hW _ hs)
theorem nmS.lo {s : Str} (h : nmS s) : Lo s := by
  obtain ⟨c, r, e, h1, h2, h3⟩ := h
  refine ⟨fun z hz => ?_, by rw [len_toList, e, List.length_cons]; omega⟩
  rw [e] at hz
  rcases List.mem_cons.mp hz with rfl | hz
  · omega
  · have := h2 z hz; omega
theorem Wd.lo {s : Str} (h : Wd s) : Lo s := ⟨fun z hz => by have := h.1 z hz; omega, by rw [len_toList]; exact h.2.2⟩
theorem ltS.lo {s : Str} (h : ltS s) : Lo s := by
  obtain ⟨c, hc, e⟩ := h
  refine ⟨fun z hz => ?_, by rw [len_toList, e]; simp⟩
  rw [e] at hz
  cases List.mem_singleton.mp hz; omega
theorem Tm.lo {n : Nat} {s : Str} (hn : n ≤ 9) (h : Tm n s) : Lo s := by
  rcases h with h | ⟨j, hj, c, hc, e⟩
  · exact h.lo
  · refine ⟨fun z hz => ?_, by rw [len_toList, e]; simp⟩
    rw [e] at hz
    simp at hz
    rcases hz with rfl | rfl <;> omega
end
end K72

set_option Elab.async false
set_option maxRecDepth 100000
set_option linter.unusedVariables false
namespace DL
open PySem PySem.Spec PyProof.Rows L2
theorem hR_of {A : Around} {k : Nat} (hr : Room k A) : A.units + 100 < cLine := by have := hr.un; omega
end DL
namespace K72
open PySem PySem.Spec PyProof.Rows L2 DL
local macro_rules | `(tactic| walk_at "dl") => `(tactic| try simp only [DL.tAsgD, DL.asg, DL.tVarD, DL.lk, DL.sto, DL.stos, DL.tOpD, DL.tCD, DL.tCallD, DL.tConsD, DL.tNilD, DL.tRetD, DL.endsD, DL.startD, DL.tIfSD, DL.tTestD, DL.tNextD, DL.tDropD, DL.tAndD, DL.tOrD, DL.tNotD, DL.tAndV, DL.tOrV, DL.tNotV, DL.tIfD, DL.tNegD, DL.tTupD, DL.tLstD, DL.tSetD, DL.tMD, DL.tSlD, DL.tPartD, DL.tNoD, DL.tRevD, DL.tForD, DL.tLcD, DL.tIterD, DL.tRng1D, DL.tRng2D, DL.tYesD, DL.wipeD, DL.tDictD, DL.tDictOne, DL.keyOf, DL.emE_rr, DL.tLess, DL.tLessS, DL.itOk, DL.rAdd_ii, DL.rAdd_ss, DL.rAdd_tt, DL.rAdd_rr, DL.rSub_ii, DL.rMod_ii, DL.rDiv_ii, DL.rPow_ii, DL.rMul_ii, DL.rMul_ri, DL.rLt_ii, DL.rLt_ss, DL.rLe_ii, DL.rGt_ii, DL.rGe_ii, DL.rEq_ii, DL.rEq_ss, DL.rEq_bb, DL.rNe_ii, DL.rNe_ss, DL.rNe_bb, DL.rEq_rr, DL.rNe_rr, DL.rEq_tt, DL.rNe_tt, DL.rIn_st, DL.rNotIn_st, DL.rIn_r, DL.rNotIn_r, DL.rIn_ss, DL.rInDO_sl, DL.rInDO_il, DL.rInDO_sd, DL.rInDO_id, DL.rIsN_n, DL.rIsN_t, DL.rIsN_i, DL.rIsN_s, DL.rIsN_r, DL.rNotN_n, DL.rNotN_t, DL.rNotN_i, DL.rNotN_s, DL.rNotN_r, DL.rIx_t, DL.rIx_r, DL.rIx_s, DL.rIxDO_l, DL.rIxDO_ds, DL.rIx0, DL.rIx1, DL.rIx2, DL.rIx3, DL.rSl_t, DL.rSl_s, DL.rSl_o, DL.rSl_r, DL.rSlDO, DL.rSet_r, DL.rSetDO_0, DL.rSetDO_s, DL.rLen_t, DL.rLen_o, DL.rLen_s, DL.rLen_r, DL.rLenDO, DL.rLenDO_d, DL.rList_t, DL.rList_o, DL.rList_r, DL.rListDO, DL.rTuple_t, DL.rTuple_r, DL.rInt_i, DL.rInt_b, DL.rMax, DL.rMin, DL.rSz0, DL.rSz1, DL.rSz2, DL.rSz3, DL.rSz4, DL.rSz5, DL.rSz6, DL.rSz7, DL.rSz8, Option.some.injEq, DL.DO.lst.injEq, exists_eq_left', exists_eq_left, DL.put_same, DL.put_put, true_and, and_true, List.map, List.replicate, List.length, List.cons_append, List.nil_append, Nat.reduceSub, Nat.reduceAdd, decide_eq_true_eq, if_true, if_false, Bool.false_eq_true, Bool.not_true, Bool.not_false])
local macro_rules | `(tactic| walk_at "dlh") => `(tactic| try simp only [*, DL.tAsgD, DL.asg, DL.tVarD, DL.lk, DL.sto, DL.stos, DL.tOpD, DL.tCD, DL.tCallD, DL.tConsD, DL.tNilD, DL.tRetD, DL.endsD, DL.startD, DL.tIfSD, DL.tTestD, DL.tNextD, DL.tDropD, DL.tAndD, DL.tOrD, DL.tNotD, DL.tAndV, DL.tOrV, DL.tNotV, DL.tIfD, DL.tNegD, DL.tTupD, DL.tLstD, DL.tSetD, DL.tMD, DL.tSlD, DL.tPartD, DL.tNoD, DL.tRevD, DL.tForD, DL.tLcD, DL.tIterD, DL.tRng1D, DL.tRng2D, DL.tYesD, DL.wipeD, DL.tDictD, DL.tDictOne, DL.keyOf, DL.emE_rr, DL.tLess, DL.tLessS, DL.itOk, DL.rAdd_ii, DL.rAdd_ss, DL.rAdd_tt, DL.rAdd_rr, DL.rSub_ii, DL.rMod_ii, DL.rDiv_ii, DL.rPow_ii, DL.rMul_ii, DL.rMul_ri, DL.rLt_ii, DL.rLt_ss, DL.rLe_ii, DL.rGt_ii, DL.rGe_ii, DL.rEq_ii, DL.rEq_ss, DL.rEq_bb, DL.rNe_ii, DL.rNe_ss, DL.rNe_bb, DL.rEq_rr, DL.rNe_rr, DL.rEq_tt, DL.rNe_tt, DL.rIn_st, DL.rNotIn_st, DL.rIn_r, DL.rNotIn_r, DL.rIn_ss, DL.rInDO_sl, DL.rInDO_il, DL.rInDO_sd, DL.rInDO_id, DL.rIsN_n, DL.rIsN_t, DL.rIsN_i, DL.rIsN_s, DL.rIsN_r, DL.rNotN_n, DL.rNotN_t, DL.rNotN_i, DL.rNotN_s, DL.rNotN_r, DL.rIx_t, DL.rIx_r, DL.rIx_s, DL.rIxDO_l, DL.rIxDO_ds, DL.rIx0, DL.rIx1, DL.rIx2, DL.rIx3, DL.rSl_t, DL.rSl_s, DL.rSl_o, DL.rSl_r, DL.rSlDO, DL.rSet_r, DL.rSetDO_0, DL.rSetDO_s, DL.rLen_t, DL.rLen_o, DL.rLen_s, DL.rLen_r, DL.rLenDO, DL.rLenDO_d, DL.rList_t, DL.rList_o, DL.rList_r, DL.rListDO, DL.rTuple_t, DL.rTuple_r, DL.rInt_i, DL.rInt_b, DL.rMax, DL.rMin, DL.rSz0, DL.rSz1, DL.rSz2, DL.rSz3, DL.rSz4, DL.rSz5, DL.rSz6, DL.rSz7, DL.rSz8, Option.some.injEq, DL.DO.lst.injEq, exists_eq_left', exists_eq_left, DL.put_same, DL.put_put, true_and, and_true, List.map, List.replicate, List.length, List.cons_append, List.nil_append, Nat.reduceSub, Nat.reduceAdd, decide_eq_true_eq, if_true, if_false, Bool.false_eq_true, Bool.not_true, Bool.not_false])
local macro_rules | `(tactic| walk_at "go") => `(tactic| repeat (first | (refine DL.sq ?_; try walk_at "dl") | (refine DL.ifY rfl ?_; try walk_at "dl") | (refine DL.inY rfl (by decide) ?_; try walk_at "dl") | (refine DL.inN rfl (by decide) ?_; try walk_at "dl") | (refine DL.ifN (by decide) ?_; try walk_at "dl")))
abbrev s_law : Stmt := top 29
theorem sc_law : FnScope ["_law_script", "_law_deck_here", "_law_turn", "_law_far", "_law_names_here", "_law_kinds_here", "_law_doings", "_law_fresh", "_law_meanings_here", "_law_told", "_law_form_here", "_law_letter_here", "_law_name", "_law_one", "_law_meaning"] ["_law_script"] (defScope s_law) := ⟨rfl, rfl, rfl, by decide +kernel, rfl, by decide +kernel, by decide +kernel⟩
def spRight : SpD := fun ds S Q => ∃ (B W T : Str → Prop) (M : List Mn) (F : Fm), ds = [.tup (M.map Mn.d), F.d] ∧ MOk B W M ∧ F.ok T (fun k => B k ∨ keys M k) W ∧ (∀ s, T s → Lo s) ∧ (∀ s, B s → Wd s) ∧ (∀ s, W s → Wd s) ∧ (∀ k, keys M k → Wd k) ∧
  M.length ≤ 6 ∧ hs M ≤ 23 ∧ pz M ≤ 2401 ∧ F.ht ≤ 12 ∧ F.sz ≤ 20 ∧ Q (.bl true) S
section
variable {P : Program} {w : World} {K : PySem.W.Frag} {mg : Str → Option Value} {base : Heap}
theorem tyNm_form {F : Fm} {S : Store} : tyNm S F.d = some "tuple" := by
  obtain ⟨ds, e⟩ := F.d_tup
  rw [e]
  rfl
theorem df_right (T : Bt mg) (A : At K mg "_law_right" "_law_right" s_l_right) (G_unfolded : Df P w K mg base "unfolded" 123 spUnfolded) (Gd : Df P w K mg base "_law_due" 61 (spDue 60)) : DfG P w K mg base "_law_right" 124 spRight := by
  have nd := sc_l_right.nd
  have G_l_due := Gd.mono (show 61 ≤ 123 by omega)
  refine dfG_mk A rfl sc_l_right (fun _ _ _ _ _ _ us hl => match us, hl with | [_, _], _ => rfl) (fun ds S Q h => ?_) (fun f cdv A outer s H E hG hr ds S Q h => ?_)
  · obtain ⟨B, W, T, M, F, rfl, _⟩ := h
    rfl
  obtain ⟨B, W, TT, M, F, rfl, hM, hF, hT, hB, hW, hK, h6, hh, hp, hfh, hfs, h⟩ := h
  have hu := hu_of hr
  have hR := hR_of hr
  refine ⟨_, (dss_cons (ds_set (i := 2) nd rfl (Or.inl rfl) (de_call G_l_due hr rfl (da_cons (dv 0) (da_cons (dv 1) (da_cons de_dict da_nil)))))
    (dss_cons (ds_set (i := 3) nd rfl (Or.inl rfl) (de_call G_unfolded hr rfl (da_cons (dv 0) (da_cons (dv 1) da_nil))))
    (dss_cons (ds_if (dt_w (dw_or (dt_not (dt_val (de_callB cd_isi rfl T.isinstance_ (by decide +kernel) (da_cons (dv 3) (da_cons (de_ty (n := "tuple") rfl T.tuple_ (by decide +kernel)) da_nil))))) (dw_or (dt_cmp (od_ne hr.units) (dv 3) (dv 2) (nomark _)) (dw_or1 (dt_cmp (od_ne hr.units) (de_callB (cd_repr hG hR) rfl T.repr_ (by decide +kernel) (da_cons (dv 3) da_nil)) (de_callB (cd_repr hG hR) rfl T.repr_ (by decide +kernel) (da_cons (dv 2) da_nil)) (nomark _)))))) (dss_one (ds_ret de_bl)) dss_nil)
    (dss_one (ds_ret (de_and (de_cmp (od_eq hr.units) (de_call G_unfolded hr rfl (da_cons (dv 0) (da_cons (dv 3) da_nil))) (dv 2) (nomark _)) (de_one (de_cmp (od_eq hr.units) (de_call G_unfolded hr rfl (da_cons (de_tup da_nil) (da_cons (dv 1) da_nil))) (dv 1) (nomark _))))))))), ?_⟩
  have kng := hM.kng hW h6 (by omega)
  have htm : ∀ m ∈ M, m.g.ht ≤ 60 := fun m hm => by
    have : m.g.ht ≤ hs M := by
      unfold hs
      obtain ⟨M1, M2, rfl⟩ := List.append_of_mem hm
      simp
      omega
    omega
  have bnd := hM.bounds
  have h1 : (unf (knOf M) F).ok (fun s => TT s ∨ Tm M.length s) B W := hM.unf (fun s hs => .inr hs) (hF.imp (fun s hs => .inl hs) (fun _ z => z) fun _ z => z)
  have hlo : (unf (knOf M) F).ok Lo Lo Lo := h1.imp (fun s hs => hs.elim (hT s) fun z => z.lo (by omega)) (fun s hs => (hB s hs).lo) fun s hs => (hW s hs).lo
  have hloF : F.ok Lo Lo Lo := hF.imp hT (fun s hs => hs.elim (fun z => (hB s z).lo) fun z => (hK s z).lo) fun s hs => (hW s hs).lo
  have hht : (unf (knOf M) F).ht ≤ 35 := by
    have := unf_ht (f := knOf M) (b := hs M) (fun k y g e => (bnd k y g e).2.1) F
    omega
  have hsz : (unf (knOf M) F).sz ≤ 20 * 2401 := by
    have := unf_sz (f := knOf M) (pz_pos M) (fun k y g e => (bnd k y g e).2.2) F
    exact Nat.le_trans this (Nat.mul_le_mul hfs hp)
  have hid : unf (knOf M) (unf (knOf M) F) = unf (knOf M) F := unf_id (fun k hk => hM.none k hk) h1
  have hid0 : unf (knOf []) F = F := unf_id (K := fun _ => True) (fun k _ => rfl) (hF.imp (fun _ z => z) (fun _ _ => trivial) fun _ z => z)
  generalize eG : unf (knOf M) F = G at *
  walk_at "go"
  intro p np
  refine ⟨B, W, p, M, [], F, none, by rw [List.append_nil], put_same, by rw [List.append_nil]; exact hM, hF.imp (fun _ _ => trivial) (fun _ z => z) (fun _ _ => trivial), by omega, fun x t e => (nomatch e), ?_⟩
  rw [List.append_nil, eG]
  walk_at "go"
  refine ⟨M, F, rfl, kng, htm, by omega, by omega, ?_⟩
  rw [eG]
  walk_at "dl"
  refine seq_if (fun _ => False) (fun S4 => S4 = put S p (.dk [])) (fun N N1 N2 => ?_) (fun S' z => z.elim) ?_
  · walk_at "dl"
    refine ⟨_, _, tyNm_form, kit_tt, ?_⟩
    walk_at "dl"
    refine oNe_form hlo (by omega) ?_
    walk_at "dl"
    have rep : ∀ (Q' : KD) S', Q' (.str G.pd.shown) S' → oRepr [G.d] S' Q' := fun Q' S' q => ⟨G.pd, G.pd_PD, G.pd_tup, G.pd_show, G.pd_nodict, Nat.le_trans G.pd_depth (by omega), Nat.le_trans (Fm.pd_shown hlo) (Nat.le_trans (Nat.mul_le_mul_left 300 hsz) (by decide)), q⟩
    refine rep _ _ (rep _ _ ?_)
    walk_at "dl"
    exact N2 _ rfl
  rintro S4 rfl
  walk_at "dl"
  refine ⟨M, G, rfl, kng, htm, by omega, by omega, ?_⟩
  rw [hid]
  walk_at "dl"
  refine oEq_form hlo (by omega) ?_
  walk_at "dl"
  refine ⟨[], F, rfl, fun M1 M2 e => ?_, (fun m hm => by cases hm), by omega, by simp, ?_⟩
  · have e1 : M1 = [] := (List.append_eq_nil_iff.mp e.symm).1
    subst e1
    intro k x g e
    cases e
  rw [hid0]
  refine oEq_form hloF (by omega) ?_
  exact ⟨S, Sub.new np, h⟩
def spLaw : SpD := fun ds S Q => ∃ ns : List Int, ds = [.rol (ns.map D.int)] ∧ ns.length ≤ 63 ∧ ∀ S', Q (.bl true) S'
def LwI (sd : D) (a : Addr) (i : Nat) : StD → Store → Prop := fun δ S' => ∃ o2 o3 o4 o5 o6 o7 o8 o9 o10 o11 o12 o13 : Option D, δ = [some sd, some (.ref a), o2, o3, o4, o5, o6, o7, o8, o9, o10, o11, o12, o13, none] ∧ Dk a S'
structure Defs (P : Program) (w : World) (K : PySem.W.Frag) (mg : Str → Option Value) (base : Heap) : Prop where
  deck : Df P w K mg base "_law_deck" 140 spDeck
  draw : Df P w K mg base "_law_draw" 140 spDrawC
  words : Df P w K mg base "_law_words_drawn" 140 spWordsDrawn
  meanings : Df P w K mg base "_law_meanings" 140 spMeanings
  shape : Df P w K mg base "_law_shape" 140 spShape
  names : Df P w K mg base "_law_names" 140 spNames
  unfolded : Df P w K mg base "unfolded" 140 spUnfolded
  put : Df P w K mg base "put_for" 140 (spPutF 60)
  right : DfG P w K mg base "_law_right" 140 spRight
theorem fnG_law {f : Addr} {fd : FuncData} (T : Bt mg) (A : Fun K "law" "law" s_law f fd) (G : Defs P w K mg base) : FnG P w K mg base 141 f fd ["_law_script"] (liftSp K spLaw) := by
  have nd := sc_law.nd
  have G_l_deck := G.deck
  have G_l_draw := G.draw
  have G_l_words_drawn := G.words
  have G_l_meanings := G.meanings
  have G_l_shape := G.shape
  have G_l_names := G.names
  have G_unfolded := G.unfolded
  have G_put_for := G.put
  have G_l_right := G.right
  refine fnG_body A rfl sc_law (fun ds S Q h => ?_) (fun cdv A outer s H E hG hr ds S Q h => ?_)
  · obtain ⟨ns, rfl, _⟩ := h
    rfl
  obtain ⟨ns, rfl, hl, h⟩ := h
  have hu := hu_of hr
  refine ⟨_, (dss_cons (ds_set (i := 1) nd rfl (Or.inl rfl) (de_call G_l_deck hr rfl (da_cons (dv 0) da_nil)))
    (dss_cons (ds_for PassesOwn.never rfl (di_range1 rfl T.range_ (da_cons de_int da_nil)) (dg_name (i := 2) nd rfl (Or.inl rfl)) (dss_cons (ds_set (i := 3) nd rfl (Or.inl rfl) (de_cmp (od_eq hr.units) (de_call G_l_draw hr rfl (da_cons (dv 1) (da_cons de_int da_nil))) de_int (nomark _)))
    (dss_cons (ds_asg (de_call G_l_words_drawn hr rfl (da_cons (dv 1) (da_cons de_int da_nil))) (dg_tup rfl (dgs_cons (dg_name (i := 4) nd rfl (Or.inl rfl)) (dgs_cons (dg_name (i := 5) nd rfl (Or.inl rfl)) (dgs_cons (dg_name (i := 6) nd rfl (Or.inl rfl)) (dgs_cons (dg_name (i := 7) nd rfl (Or.inl rfl)) dgs_nil))))))
    (dss_cons (ds_set (i := 8) nd rfl (Or.inl rfl) (de_call G_l_meanings hr rfl (da_cons (dv 1) (da_cons (de_tup (da_cons (dv 4) (da_cons (dv 5) (da_cons (dv 6) da_nil)))) (da_cons (dv 7) (da_cons (dv 3) da_nil))))))
    (dss_cons (ds_set (i := 9) nd rfl (Or.inl rfl) (de_op od_add (dv 5) (de_lc (own := [("_law_meaning", 14)]) (g := GD.one 14) rfl nd (di_any (dv 8)) (blkOk_by (own := [("_law_meaning", 14)]) (N := ["_law_script", "_law_deck_here", "_law_turn", "_law_far", "_law_names_here", "_law_kinds_here", "_law_doings", "_law_fresh", "_law_meanings_here", "_law_told", "_law_form_here", "_law_letter_here", "_law_name", "_law_one", "_law_meaning"]) (sc := defScope s_law) (by decide +kernel)) (fun _ _ _ _ _ => (dg_name (i := 14) nd rfl (Or.inl rfl))) (fun _ _ _ _ _ => dts_nil) (fun _ _ _ _ _ => (de_ix hu (dv 14) de_int)))))
    (dss_cons (ds_set (i := 10) nd rfl (Or.inl rfl) (de_call G_l_shape hr rfl (da_cons (dv 1) (da_cons (de_tup (da_cons (dv 4) (da_cons (dv 9) (da_cons (dv 6) da_nil)))) (da_cons (de_lst da_nil) (da_cons (dv 3) da_nil))))))
    (dss_cons (ds_if (dt_not (dt_val (de_callG G_l_right hG hr rfl (da_cons (dv 8) (da_cons (dv 10) da_nil))))) (dss_one (ds_ret de_bl)) dss_nil)
    (dss_cons (ds_set (i := 11) nd rfl (Or.inl rfl) (de_ix hu de_str (de_call G_l_draw hr rfl (da_cons (dv 1) (da_cons de_int da_nil)))))
    (dss_cons (ds_set (i := 10) nd rfl (Or.inl rfl) (de_call G_l_shape hr rfl (da_cons (dv 1) (da_cons (de_tup (da_cons (dv 4) (da_cons (dv 9) (da_cons (dv 6) da_nil)))) (da_cons (de_lst (da_cons (dv 11) da_nil)) (da_cons (dv 3) da_nil))))))
    (dss_cons (ds_if (dt_not (dt_val (de_callG G_l_right hG hr rfl (da_cons (dv 8) (da_cons (dv 10) da_nil))))) (dss_one (ds_ret de_bl)) dss_nil)
    (dss_cons (ds_set (i := 12) nd rfl (Or.inl rfl) (de_ix hu (de_op od_add (de_call G_l_names hr rfl (da_cons (dv 1) (da_cons de_int da_nil))) (dv 4)) (de_call G_l_draw hr rfl (da_cons (dv 1) (da_cons (de_op od_add de_int (de_callB cd_len rfl T.len_ (by decide +kernel) (da_cons (dv 4) da_nil))) da_nil)))))
    (dss_cons (ds_set (i := 13) nd rfl (Or.inl rfl) (de_call G_unfolded hr rfl (da_cons (dv 8) (da_cons (de_call G_put_for hr rfl (da_cons (dv 10) (da_cons (dv 11) (da_cons (dv 12) da_nil)))) da_nil))))
    (dss_one (ds_if (dt_cmp (od_ne hr.units) (dv 13) (de_call G_put_for hr rfl (da_cons (de_call G_unfolded hr rfl (da_cons (dv 8) (da_cons (dv 10) da_nil))) (da_cons (dv 11) (da_cons (dv 12) da_nil)))) (nomark _)) (dss_one (ds_ret de_bl)) dss_nil))))))))))))))
    (dss_one (ds_ret de_bl)))), ?_⟩
  walk_at "go"
  refine ⟨ns, rfl, hl, fun a S1 d1 => ?_⟩
  walk_at "go"
  refine ⟨by decide, ?_⟩
  refine forB_rng (LwI (.rol (ns.map D.int)) a) ?_ ?_ ?_
  · exact ⟨none, none, none, none, none, none, none, none, none, none, none, none, rfl, d1⟩
  · rintro i δ S' hi ⟨o2, o3, o4, o5, o6, o7, o8, o9, o10, o11, o12, o13, rfl, d2⟩
    walk_at "go"
    refine ⟨a, _, rfl, d2, by decide, by decide, fun r S2 r0 r1 c1 => ?_⟩
    walk_at "dl"
    walk_at "go"
    refine ⟨a, rfl, c1.2, fun p1 p2 p3 p4 ns1 ks dos fr S3 c2' w3 hf hfl hfn hnl hnm hkw hdw hfw hkl => ?_⟩
    have c2 := c1.trans c2'
    walk_at "dl"
    walk_at "go"
    refine ⟨a, p1, p2, p3, p4, ns1, ks, dos, fr, _, rfl, c2.2, w3, hf, hfl, hfn, fun x hx => (hfw x hx).2, hnm, hnl, hkl, fun M S4 c4 hM h6 hh hp hkeys => ?_⟩
    have w4 := w3.ch c2.2 c4
    have hKW : ∀ k, keys M k → Wd k := fun k hk => (hfw k (hkeys k hk)).1
    walk_at "dl"
    walk_at "go"
    have d3 := c2.2
    intro q5 nq5
    refine lcB_zip (M.map Mn.d) ((M.map (·.k)).map D.str) (by simp) (fun k acc => rfl) (by rw [List.length_map]; exact szOk (by omega)) (fun k d r acc Y N e1 e2 y => ?_) ?_
    · rw [List.getElem?_map] at e1
      rw [List.getElem?_map, List.getElem?_map] at e2
      cases e : M[k]? with
      | none => rw [e] at e1; cases e1
      | some mn =>
        rw [e] at e1 e2
        cases e1
        cases e2
        simp only [Mn.d]
        walk_at "dl"
        exact y
    have c5 := c4.new (o := .lst ((M.map (·.k)).map D.str)) d3 nq5
    have w5 := w3.ch d3 c5
    walk_at "dl"
    refine ⟨_, _, w5.k, rfl, szOk (by rw [List.length_map, List.length_map, List.length_map]; omega), fun pt npt => ?_⟩
    have c6 := c5.new (o := .lst (ks.map D.str ++ (M.map (·.k)).map D.str)) d3 npt
    have hpt : put (put S4 q5 (.lst ((M.map (·.k)).map D.str))) pt (.lst (ks.map D.str ++ (M.map (·.k)).map D.str)) pt = some (.lst ((ks ++ M.map (·.k)).map D.str)) := by rw [put_same, List.map_append]
    generalize put (put S4 q5 (.lst ((M.map (·.k)).map D.str))) pt (.lst (ks.map D.str ++ (M.map (·.k)).map D.str)) = S6 at c6 hpt
    have w6' := w3.ch d3 c6
    have w6 : Wrds S6 p1 pt p3 ns1 (ks ++ M.map (·.k)) dos := ⟨w6'.n, hpt, w6'.d, by omega, by rw [List.length_append, List.length_map]; omega, w6'.ld⟩
    have kk : ∀ k, k ∈ ks ++ M.map (·.k) → k ∈ ks ∨ keys M k := fun k hk => by
      rcases List.mem_append.mp hk with hk | hk
      · exact .inl hk
      · obtain ⟨z, hz, e⟩ := List.mem_map.mp hk
        exact .inr ⟨z, hz, e⟩
    have hmk : ∀ c, chLt c → Um ((⟨#[c]⟩ : Str) ++ "") := fun c hc => .inr ⟨c, hc, by rw [app_toList]; rfl⟩
    have hUlo : ∀ s, Um s → Lo s := fun s hs => hs.elim (fun z => z.lo) fun z => z.lo
    walk_at "go"
    intro q7 nq7
    have c7 := c6.new (o := .lst []) d3 nq7
    refine ⟨Um, a, p1, pt, p3, q7, ns1, _, dos, [], _, rfl, c7.2, w6.ch c6.2 ((Ch.refl c6.2).new c6.2 nq7), put_same, by simp, fun x hx => .inl (hnm x hx), (fun x hx => by cases hx), hmk, fun F S8 c8' ok8 ht8 sz8 => ?_⟩
    have c8 := c7.trans c8'
    have okF := ok8.imp (fun _ z => z) kk fun _ z => z
    walk_at "dl"
    refine seq_if (fun _ => False) (fun S9 => S9 = S8) (fun N N1 N2 => ?_) (fun S' z => z.elim) ?_
    · walk_at "dl"
      refine ⟨(· ∈ ks), (· ∈ dos), Um, M, F, rfl, hM, okF, hUlo, hkw, hdw, hKW, h6, hh, hp, ht8, sz8, ?_⟩
      walk_at "dl"
      exact N2 _ rfl
    rintro S9 rfl
    walk_at "go"
    refine ⟨a, _, rfl, c8.2, by decide, by decide, fun r2 S10 g0 g1 c10' => ?_⟩
    have c10 := c8.trans c10'
    walk_at "dl"
    refine ixS (s := "uvwxyz") chLt (by decide +kernel) (by decide +kernel) g0 (by rw [show ("uvwxyz" : Str).length = 6 from by decide +kernel]; exact g1) fun ch hch => ?_
    have hx : ltS (⟨#[ch]⟩ : Str) := ⟨ch, hch, rfl⟩
    walk_at "dl"
    generalize (⟨#[ch]⟩ : Str) = x at hx
    walk_at "go"
    intro q11 nq11
    have c11 := c10.new (o := .lst [.str x]) d3 nq11
    have c610 : Ch a S6 S10 := ((Ch.refl c6.2).new (o := .lst []) c6.2 nq7).trans (c8'.trans c10')
    refine ⟨Um, a, p1, pt, p3, q11, ns1, _, dos, [x], _, rfl, c11.2, w6.ch c6.2 (c610.new c6.2 nq11), put_same, by simp, fun x hx => .inl (hnm x hx), (fun y hy => by cases List.mem_singleton.mp hy; exact .inr hx), hmk, fun F2 S12 c12' ok12 ht12 sz12 => ?_⟩
    have c12 := c11.trans c12'
    have okF2 := ok12.imp (fun _ z => z) kk fun _ z => z
    walk_at "dl"
    refine seq_if (fun _ => False) (fun S9 => S9 = S12) (fun N N1 N2 => ?_) (fun S' z => z.elim) ?_
    · walk_at "dl"
      refine ⟨(· ∈ ks), (· ∈ dos), Um, M, F2, rfl, hM, okF2, hUlo, hkw, hdw, hKW, h6, hh, hp, ht12, sz12, ?_⟩
      walk_at "dl"
      exact N2 _ rfl
    rintro S13 rfl
    walk_at "go"
    refine ⟨a, 1, rfl, c12.2, by decide, fun nn pnn S14 c14' hnn hnn1 hnnm => ?_⟩
    have c14 := c12.trans c14'
    walk_at "dl"
    have w14 := w3.ch d3 c14
    refine ⟨_, _, hnn, w14.n, szOk (by rw [List.length_map, List.length_map]; omega), fun q15 nq15 => ?_⟩
    have c15 := c14.new (o := .lst (nn.map D.str ++ ns1.map D.str)) d3 nq15
    have hq15 : put S14 q15 (.lst (nn.map D.str ++ ns1.map D.str)) q15 = some (.lst ((nn ++ ns1).map D.str)) := by rw [put_same, List.map_append]
    generalize put S14 q15 (.lst (nn.map D.str ++ ns1.map D.str)) = S15 at c15 hq15
    rw [(w3.ch d3 c15).n]
    walk_at "dl"
    rw [List.length_map]
    refine ⟨a, _, rfl, c15.2, by omega, by omega, fun r3 S16 k0 k1 c16' => ?_⟩
    have c16 := c15.trans c16'
    walk_at "dl"
    rw [c16'.get c15.2 hq15]
    walk_at "dl"
    refine ixStrs_mem k0 (by rw [List.length_append]; omega) fun nm hnm2 => ?_
    have hnmS : nmS nm := by
      rcases List.mem_append.mp hnm2 with z | z
      · exact hnnm nm z
      · exact hnm nm z
    walk_at "go"
    have kng := hM.kng (fun s hs => hdw s hs) h6 (by omega)
    have htm : ∀ m ∈ M, m.g.ht ≤ 60 := fun m hm => by
      have : m.g.ht ≤ hs M := by
        unfold hs
        obtain ⟨M1, M2, rfl⟩ := List.append_of_mem hm
        simp
        omega
      omega
    have hxM : ¬ Tm M.length x := ltS_notTm hx
    have key := unf_sub (t := nm) (hM.noc hxM) F2
    have hU : (unf (knOf M) F2).ok (fun s => Um s ∨ Tm M.length s) (· ∈ ks) (· ∈ dos) := hM.unf (fun s hs => .inr hs) (okF2.imp (fun s hs => .inl hs) (fun _ z => z) fun _ z => z)
    have hG : (sub x nm (unf (knOf M) F2)).ok Lo Lo Lo := (sub_ok (T := fun s => Um s ∨ Tm M.length s) (.inl (.inl hnmS)) hU).imp (fun s hs => hs.elim (hUlo s) fun z => z.lo (by omega)) (fun s hs => (hkw s hs).lo) fun s hs => (hdw s hs).lo
    have hht : (unf (knOf M) F2).ht ≤ 35 := by
      have := unf_ht (f := knOf M) (b := hs M) (fun k y g e => (hM.bounds k y g e).2.1) F2
      omega
    refine ⟨F2, x, nm, rfl, by omega, ?_⟩
    walk_at "dl"
    refine ⟨M, sub x nm F2, rfl, kng, htm, by rw [sub_ht]; omega, by omega, ?_⟩
    rw [key]
    walk_at "go"
    refine ⟨M, F2, rfl, kng, htm, by omega, by omega, ?_⟩
    walk_at "dl"
    refine ⟨unf (knOf M) F2, x, nm, rfl, by omega, ?_⟩
    walk_at "dl"
    refine oNe_form hG (by rw [sub_ht]; omega) ?_
    walk_at "dl"
    exact ⟨_, _, _, _, _, _, _, _, _, _, _, _, rfl, c16.2⟩
  · rintro δ S' ⟨o2, o3, o4, o5, o6, o7, o8, o9, o10, o11, o12, o13, rfl, d2⟩
    walk_at "dl"
    exact ⟨S', Sub.refl, h S'⟩
end
end K72

set_option Elab.async false
set_option maxRecDepth 100000
set_option linter.unusedVariables false
namespace K72
open PySem PySem.Spec PyProof.Rows L2 DL
/-- what stands at the top -/
structure Top (K : PySem.W.Frag) (mg : Str → Option Value) : Prop where
  bt : Bt mg
  f_put_term_meanings : At K mg "put_term_meanings" "put_term" s_put_term_meanings
  f_unfolded_by : At K mg "unfolded_by" "unfolded_by" s_unfolded_by
  f_unfolded : At K mg "unfolded" "unfolded" s_unfolded
  f_put_term_forms : At K mg "put_term_forms" "put_term" s_put_term_forms
  f_put_for : At K mg "put_for" "put_for" s_put_for
  f_l_mixed : At K mg "_law_mixed" "_law_mixed" s_l_mixed
  f_l_deck : At K mg "_law_deck" "_law_deck" s_l_deck
  f_l_draw : At K mg "_law_draw" "_law_draw" s_l_draw
  f_l_word : At K mg "_law_word" "_law_word" s_l_word
  f_l_kinds : At K mg "_law_kinds" "_law_kinds" s_l_kinds
  f_l_names : At K mg "_law_names" "_law_names" s_l_names
  f_l_leaf : At K mg "_law_leaf" "_law_leaf" s_l_leaf
  f_l_form : At K mg "_law_form" "_law_form" s_l_form
  f_l_deeper : At K mg "_law_deeper" "_law_deeper" s_l_deeper
  f_l_shape : At K mg "_law_shape" "_law_shape" s_l_shape
  f_l_words_drawn : At K mg "_law_words_drawn" "_law_words_drawn" s_l_words_drawn
  f_l_meanings : At K mg "_law_meanings" "_law_meanings" s_l_meanings
  f_l_due : At K mg "_law_due" "_law_due" s_l_due
  f_l_right : At K mg "_law_right" "_law_right" s_l_right
  c_JOINED : Cst K mg "JOINED" (.tup [.str "not", .str "and", .str "or", .str "if"])
  c_BOUND : Cst K mg "BOUND" (.tup [.str "every", .str "some"])
  c_TWO_FORMS : Cst K mg "TWO_FORMS" (.tup [.str "and", .str "or", .str "if"])
  c_BINDERS : Cst K mg "BINDERS" (.tup [.str "every", .str "some"])
theorem Top.defs {P : Program} {w : World} {K : PySem.W.Frag} {mg : Str → Option Value} {base : Heap} (t : Top K mg) : Defs P w K mg base := by
  have mixed := df_mixed (P := P) (w := w) (base := base) (k := 0) t.f_l_mixed
  have draw := df_drawC (df_draw t.bt t.f_l_draw mixed)
  have word := df_word t.bt t.f_l_word draw
  have names := df_names t.bt t.f_l_names (draw.mono (show 2 ≤ 3 by decide)) word
  have kinds := df_kinds t.bt t.f_l_kinds (draw.mono (show 2 ≤ 3 by decide)) word
  have leaf := df_leaf t.bt t.f_l_leaf draw
  have form := df_form t.bt t.f_l_form (draw.mono (show 2 ≤ 3 by decide)) leaf
  have deeper := df_deeper t.bt t.f_l_deeper (draw.mono (show 2 ≤ 8 by decide)) (leaf.mono (show 3 ≤ 8 by decide)) (form 4) 11
  have shape := df_shape t.bt t.f_l_shape ((form 5).mono (show 9 ≤ 20 by decide)) deeper
  have words := df_words_drawn t.bt t.f_l_words_drawn (draw.mono (show 2 ≤ 4 by decide)) names kinds
  have meanings := df_meanings t.bt t.f_l_meanings (draw.mono (show 2 ≤ 20 by decide)) ((form 4).mono (show 8 ≤ 20 by decide)) deeper
  have deck := df_deck (P := P) (w := w) (base := base) (k := 0) t.bt t.f_l_deck
  have putM := df_putM (P := P) (w := w) (base := base) t.bt t.f_put_term_meanings t.c_JOINED t.c_BOUND 60
  have unfBy := df_unfBy t.bt t.f_unfolded_by t.c_JOINED t.c_BOUND putM 60
  have unfd := df_unfolded t.bt t.f_unfolded unfBy
  have putT := df_putT (P := P) (w := w) (base := base) (k := 0) t.bt t.f_put_term_forms
  have putF := df_putF t.bt t.f_put_for t.c_TWO_FORMS t.c_BINDERS putT 60
  have due := df_due (P := P) (w := w) (base := base) t.bt t.f_l_due 60
  obtain ⟨f, fd, ps, h1, h2⟩ := df_right t.bt t.f_l_right unfd due
  exact ⟨deck.mono (by decide), draw.mono (by decide), words.mono (by decide), meanings.mono (by decide), shape.mono (by decide), names.mono (by decide), unfd.mono (by decide), putF.mono (by decide),
    f, fd, ps, ⟨h1.len, fun A outer s H args us vs Q E g r => h1.run A outer s H args us vs Q E g (r.mono (by decide))⟩, h2⟩
theorem cst_mk {K : PySem.W.Frag} {h : Heap} {mg : Str → Option Value} (X : K.In h) (G : h.Ns mainGlobals mg) {x : Str} {p : Addr} {dd : Option Addr} {its : Array Value} {n : Nat} {sl : Array (Option Value)} {ys : List Str}
    (a : PySem.W.nsIn K mainGlobals x = some (some (.ref p))) (l : K.lookup p = some ⟨.type "tuple", dd, .seq its n, sl⟩) (hz : its.size ≤ 100) (hv : Vals (ys.map V.str) its.toList) : Cst K mg x (.tup (ys.map D.str)) :=
  ⟨.ref p, .ref p, PySem.W.mg_of X G a, rfl, fun H => ⟨p, ys.map V.str, rfl, .inr ⟨_, its, n, l, rfl, rfl, szOk (by omega), hv⟩, RDs.of_map (f := D.str) (g := V.str) (fun _ => rfl) ys⟩⟩
/-! ### the call of the law -/
/-- what is seen at the start: the script, if it is not the module's own -/
def eyes (K : PySem.W.Frag) (a : Addr) (o : Obj) (ns : List Int) : Hp := fun b => if b = a ∧ K.lookup a = none then some (.frz o (.lst (ns.map V.int))) else none
theorem eyes_some {K : PySem.W.Frag} {a b : Addr} {o : Obj} {ns : List Int} {u : HO} (h : eyes K a o ns b = some u) : b = a ∧ K.lookup a = none ∧ u = .frz o (.lst (ns.map V.int)) := by
  unfold eyes at h
  split at h
  · rename_i c
    cases h
    exact ⟨c.1, c.2, rfl⟩
  · cases h
theorem called {P : Program} {w : World} {K : PySem.W.Frag} {mg mb : Str → Option Value} {fa a : Addr} {fd : FuncData} {s : Shared} {vs : List Value} {ns : List Int} (KX : K.In s.heap) (hG : s.heap.Ns mainGlobals mg) (hB : s.heap.Ns builtinsNs mb)
    (hbb : ∀ x : Str, x ≠ "__name__" → mb x = bootBuiltins x) (hN : s.heap.NoLimit) (hg : s.gens = #[]) (ha : s.heap.get? a = some { cls := .type "list", data := .seq vs.toArray }) (hi : IntsAre vs ns) (hl : ns.length ≤ 63)
    (F : ∀ base : Heap, FnG P w K mg base 141 fa fd ["_law_script"] (liftSp K spLaw)) (hb : ∀ (s : Shared) (u : Value), BindsTo s fd ⟨[u], []⟩ [("_law_script", u)]) :
    codeAny (model P w) callerA (.call (.ref fa) ⟨[.ref a], []⟩) (fun r s' => r = .ok (.ret (.bool true)) ∧ OldK s.heap s'.heap ∧ s'.os = s.os ∧ AllBare s'.gens) s := by
  have rel := vals_ints hi
  have hlen := hi.length
  let o : Obj := { cls := .type "list", data := .seq vs.toArray }
  let H := eyes K a o ns
  have none_of : ∀ {b : Addr} {ob : Obj} {es : Array DictEntry} {ep : Nat}, s.heap.get? b = some ob → ob.data = .dict es ep → H b = none := by
    intro b ob es ep e d
    cases q : H b with
    | none => rfl
    | some u =>
      obtain ⟨rfl, _, _⟩ := eyes_some q
      rw [ha] at e
      cases e
      exact (nomatch d)
  have ns_of : ∀ {b : Addr} {m : Str → Option Value}, s.heap.Ns b m → (hidT s.heap H).Ns b m := by
    rintro b m ⟨ob, es, ep, e, d, r⟩
    exact ⟨ob, es, ep, hidT_get e (none_of e d), d, r⟩
  have k_of : K.In (hidT s.heap H) := by
    intro b ob e
    refine hidT_get (KX b ob e) ?_
    cases q : H b with
    | none => rfl
    | some u =>
      obtain ⟨rfl, e2, _⟩ := eyes_some q
      rw [e2] at e
      cases e
  have sees : HOk P w H s.heap := by
    intro b u q
    obtain ⟨rfl, _, rfl⟩ := eyes_some q
    exact ⟨ha, by rw [List.length_map]; exact szOk (by omega), vs, _, rel, ha⟩
  have seq : SqR K H a (ns.map V.int) := by
    cases e : K.lookup a with
    | none => exact .inl ⟨o, if_pos ⟨rfl, e⟩⟩
    | some ob =>
      have e2 := KX a ob e
      rw [ha] at e2
      cases e2
      exact .inr ⟨_, vs.toArray, _, e, rfl, rfl, rfl, by rw [List.size_toArray, hlen]; exact szOk (by omega), by simpa using rel⟩
  have wish : liftSp K spLaw [.ref a] H (fun v _ => v = .bl true) fun _ _ _ => False :=
    ⟨[.rol (ns.map D.int)], fun _ => none, fun d _ => d = .bl true, ⟨.ref a, [], rfl, ⟨a, ns.map V.int, rfl, seq, RDs.of_map (f := D.int) (g := V.int) (fun _ => rfl) ns⟩, rfl⟩, (fun b ob e => nomatch e), ⟨ns, rfl, hl, fun _ => rfl⟩,
      fun d S' v H' q _ r _ => by subst q; exact r⟩
  have hM : Mod K mg (hidT s.heap H) := ⟨k_of, ns_of hG, ⟨mb, ns_of hB, hbb⟩, let ⟨mc, h1, h2⟩ := hN; ⟨mc, ns_of h1, h2⟩⟩
  have here : Env0 P w K mg (hidT s.heap H) callerA [] s H := ⟨rfl, hM, fun b ob e => of_hidT e, Nat.le_of_eq (hidT_size _ _), trivial, (fun b z => nomatch (show b ∈ ([] : List Addr) from z)), sees, .of_eq hg⟩
  have run := (F (hidT s.heap H)).run callerA [] s H ⟨[.ref a], []⟩ [.ref a] [.ref a] _ _ rfl ⟨rfl, by decide, by decide⟩ here (hb s (.ref a)) (.cons rfl .nil) wish
  refine codeAny_mono run ?_
  intro r s' z
  cases r with
  | error e => exact z.elim
  | ok fl =>
    cases fl with
    | next => exact z.elim
    | brk => exact z.elim
    | cont => exact z.elim
    | ret u =>
      obtain ⟨v, H', os, bare, un, ok2, rv, ev⟩ := z
      cases (show v = .bl true from ev)
      cases (show u = Value.bool true from rv)
      refine ⟨rfl, OldK.of_keep (fun b ob e => ?_), os, bare⟩
      cases q : H b with
      | none => exact un.keep b ob e q (fun z => nomatch (show b ∈ ([] : List Addr) from z)) (by simp)
      | some u =>
        obtain ⟨rfl, _, rfl⟩ := eyes_some q
        obtain ⟨e3, _⟩ := ok2 _ _ (un.frzs _ _ _ q)
        rw [ha] at e
        cases e
        exact e3
theorem all_mk {l : PySem.W.OpenLaw} {w : World} {K : PySem.W.Frag} {h : Heap} {mg : Str → Option Value} {fa f1 f2 f3 f4 f5 f6 f7 f8 f9 f10 f11 f12 f13 f14 f15 f16 f17 f18 f19 f20 : Addr} (X : K.In h) (G : h.Ns mainGlobals mg) (hfa : mg "law" = some (.ref fa))
    {od1 an1 od2 an2 od3 an3 od4 an4 od5 an5 od6 an6 od7 an7 od8 an8 od9 an9 od10 an10 od11 an11 od12 an12 od13 an13 od14 an14 od15 an15 od16 an16 od17 an17 od18 an18 od19 an19 od20 an20 : Option Addr} {sl1 sl2 sl3 sl4 sl5 sl6 sl7 sl8 sl9 sl10 sl11 sl12 sl13 sl14 sl15 sl16 sl17 sl18 sl19 sl20 : Array (Option Value)} {oc1 kV1 dc1 pm1 cd1 ct1 oc2 kV2 dc2 pm2 cd2 ct2 oc3 kV3 dc3 pm3 cd3 ct3 oc4 kV4 dc4 pm4 cd4 ct4 oc5 kV5 dc5 pm5 cd5 ct5 oc6 kV6 dc6 pm6 cd6 ct6 oc7 kV7 dc7 pm7 cd7 ct7 oc8 kV8 dc8 pm8 cd8 ct8 oc9 kV9 dc9 pm9 cd9 ct9 oc10 kV10 dc10 pm10 cd10 ct10 oc11 kV11 dc11 pm11 cd11 ct11 oc12 kV12 dc12 pm12 cd12 ct12 oc13 kV13 dc13 pm13 cd13 ct13 oc14 kV14 dc14 pm14 cd14 ct14 oc15 kV15 dc15 pm15 cd15 ct15 oc16 kV16 dc16 pm16 cd16 ct16 oc17 kV17 dc17 pm17 cd17 ct17 oc18 kV18 dc18 pm18 cd18 ct18 oc19 kV19 dc19 pm19 cd19 ct19 oc20 kV20 dc20 pm20 cd20 ct20 : Value}
    (a1 : PySem.W.nsIn K mainGlobals "put_term_meanings" = some (some (.ref f1))) (l1 : K.lookup f1 = some ⟨oc1, od1, .func (PySem.W.fnOf "put_term" "put_term" (defArgs s_put_term_meanings) (defBody s_put_term_meanings) (defScope s_put_term_meanings) .none kV1 dc1 pm1 an1 cd1 ct1), sl1⟩) (c1 : PySem.W.codeIn K cd1 "put_term" = true) (k1 : PySem.W.keepIn K (.ref f1) = true)
    (a2 : PySem.W.nsIn K mainGlobals "unfolded_by" = some (some (.ref f2))) (l2 : K.lookup f2 = some ⟨oc2, od2, .func (PySem.W.fnOf "unfolded_by" "unfolded_by" (defArgs s_unfolded_by) (defBody s_unfolded_by) (defScope s_unfolded_by) .none kV2 dc2 pm2 an2 cd2 ct2), sl2⟩) (c2 : PySem.W.codeIn K cd2 "unfolded_by" = true) (k2 : PySem.W.keepIn K (.ref f2) = true)
    (a3 : PySem.W.nsIn K mainGlobals "unfolded" = some (some (.ref f3))) (l3 : K.lookup f3 = some ⟨oc3, od3, .func (PySem.W.fnOf "unfolded" "unfolded" (defArgs s_unfolded) (defBody s_unfolded) (defScope s_unfolded) .none kV3 dc3 pm3 an3 cd3 ct3), sl3⟩) (c3 : PySem.W.codeIn K cd3 "unfolded" = true) (k3 : PySem.W.keepIn K (.ref f3) = true)
    (a4 : PySem.W.nsIn K mainGlobals "put_term_forms" = some (some (.ref f4))) (l4 : K.lookup f4 = some ⟨oc4, od4, .func (PySem.W.fnOf "put_term" "put_term" (defArgs s_put_term_forms) (defBody s_put_term_forms) (defScope s_put_term_forms) .none kV4 dc4 pm4 an4 cd4 ct4), sl4⟩) (c4 : PySem.W.codeIn K cd4 "put_term" = true) (k4 : PySem.W.keepIn K (.ref f4) = true)
    (a5 : PySem.W.nsIn K mainGlobals "put_for" = some (some (.ref f5))) (l5 : K.lookup f5 = some ⟨oc5, od5, .func (PySem.W.fnOf "put_for" "put_for" (defArgs s_put_for) (defBody s_put_for) (defScope s_put_for) .none kV5 dc5 pm5 an5 cd5 ct5), sl5⟩) (c5 : PySem.W.codeIn K cd5 "put_for" = true) (k5 : PySem.W.keepIn K (.ref f5) = true)
    (a6 : PySem.W.nsIn K mainGlobals "_law_mixed" = some (some (.ref f6))) (l6 : K.lookup f6 = some ⟨oc6, od6, .func (PySem.W.fnOf "_law_mixed" "_law_mixed" (defArgs s_l_mixed) (defBody s_l_mixed) (defScope s_l_mixed) .none kV6 dc6 pm6 an6 cd6 ct6), sl6⟩) (c6 : PySem.W.codeIn K cd6 "_law_mixed" = true) (k6 : PySem.W.keepIn K (.ref f6) = true)
    (a7 : PySem.W.nsIn K mainGlobals "_law_deck" = some (some (.ref f7))) (l7 : K.lookup f7 = some ⟨oc7, od7, .func (PySem.W.fnOf "_law_deck" "_law_deck" (defArgs s_l_deck) (defBody s_l_deck) (defScope s_l_deck) .none kV7 dc7 pm7 an7 cd7 ct7), sl7⟩) (c7 : PySem.W.codeIn K cd7 "_law_deck" = true) (k7 : PySem.W.keepIn K (.ref f7) = true)
    (a8 : PySem.W.nsIn K mainGlobals "_law_draw" = some (some (.ref f8))) (l8 : K.lookup f8 = some ⟨oc8, od8, .func (PySem.W.fnOf "_law_draw" "_law_draw" (defArgs s_l_draw) (defBody s_l_draw) (defScope s_l_draw) .none kV8 dc8 pm8 an8 cd8 ct8), sl8⟩) (c8 : PySem.W.codeIn K cd8 "_law_draw" = true) (k8 : PySem.W.keepIn K (.ref f8) = true)
    (a9 : PySem.W.nsIn K mainGlobals "_law_word" = some (some (.ref f9))) (l9 : K.lookup f9 = some ⟨oc9, od9, .func (PySem.W.fnOf "_law_word" "_law_word" (defArgs s_l_word) (defBody s_l_word) (defScope s_l_word) .none kV9 dc9 pm9 an9 cd9 ct9), sl9⟩) (c9 : PySem.W.codeIn K cd9 "_law_word" = true) (k9 : PySem.W.keepIn K (.ref f9) = true)
    (a10 : PySem.W.nsIn K mainGlobals "_law_kinds" = some (some (.ref f10))) (l10 : K.lookup f10 = some ⟨oc10, od10, .func (PySem.W.fnOf "_law_kinds" "_law_kinds" (defArgs s_l_kinds) (defBody s_l_kinds) (defScope s_l_kinds) .none kV10 dc10 pm10 an10 cd10 ct10), sl10⟩) (c10 : PySem.W.codeIn K cd10 "_law_kinds" = true) (k10 : PySem.W.keepIn K (.ref f10) = true)
    (a11 : PySem.W.nsIn K mainGlobals "_law_names" = some (some (.ref f11))) (l11 : K.lookup f11 = some ⟨oc11, od11, .func (PySem.W.fnOf "_law_names" "_law_names" (defArgs s_l_names) (defBody s_l_names) (defScope s_l_names) .none kV11 dc11 pm11 an11 cd11 ct11), sl11⟩) (c11 : PySem.W.codeIn K cd11 "_law_names" = true) (k11 : PySem.W.keepIn K (.ref f11) = true)
    (a12 : PySem.W.nsIn K mainGlobals "_law_leaf" = some (some (.ref f12))) (l12 : K.lookup f12 = some ⟨oc12, od12, .func (PySem.W.fnOf "_law_leaf" "_law_leaf" (defArgs s_l_leaf) (defBody s_l_leaf) (defScope s_l_leaf) .none kV12 dc12 pm12 an12 cd12 ct12), sl12⟩) (c12 : PySem.W.codeIn K cd12 "_law_leaf" = true) (k12 : PySem.W.keepIn K (.ref f12) = true)
    (a13 : PySem.W.nsIn K mainGlobals "_law_form" = some (some (.ref f13))) (l13 : K.lookup f13 = some ⟨oc13, od13, .func (PySem.W.fnOf "_law_form" "_law_form" (defArgs s_l_form) (defBody s_l_form) (defScope s_l_form) .none kV13 dc13 pm13 an13 cd13 ct13), sl13⟩) (c13 : PySem.W.codeIn K cd13 "_law_form" = true) (k13 : PySem.W.keepIn K (.ref f13) = true)
    (a14 : PySem.W.nsIn K mainGlobals "_law_deeper" = some (some (.ref f14))) (l14 : K.lookup f14 = some ⟨oc14, od14, .func (PySem.W.fnOf "_law_deeper" "_law_deeper" (defArgs s_l_deeper) (defBody s_l_deeper) (defScope s_l_deeper) .none kV14 dc14 pm14 an14 cd14 ct14), sl14⟩) (c14 : PySem.W.codeIn K cd14 "_law_deeper" = true) (k14 : PySem.W.keepIn K (.ref f14) = true)
    (a15 : PySem.W.nsIn K mainGlobals "_law_shape" = some (some (.ref f15))) (l15 : K.lookup f15 = some ⟨oc15, od15, .func (PySem.W.fnOf "_law_shape" "_law_shape" (defArgs s_l_shape) (defBody s_l_shape) (defScope s_l_shape) .none kV15 dc15 pm15 an15 cd15 ct15), sl15⟩) (c15 : PySem.W.codeIn K cd15 "_law_shape" = true) (k15 : PySem.W.keepIn K (.ref f15) = true)
    (a16 : PySem.W.nsIn K mainGlobals "_law_words_drawn" = some (some (.ref f16))) (l16 : K.lookup f16 = some ⟨oc16, od16, .func (PySem.W.fnOf "_law_words_drawn" "_law_words_drawn" (defArgs s_l_words_drawn) (defBody s_l_words_drawn) (defScope s_l_words_drawn) .none kV16 dc16 pm16 an16 cd16 ct16), sl16⟩) (c16 : PySem.W.codeIn K cd16 "_law_words_drawn" = true) (k16 : PySem.W.keepIn K (.ref f16) = true)
    (a17 : PySem.W.nsIn K mainGlobals "_law_meanings" = some (some (.ref f17))) (l17 : K.lookup f17 = some ⟨oc17, od17, .func (PySem.W.fnOf "_law_meanings" "_law_meanings" (defArgs s_l_meanings) (defBody s_l_meanings) (defScope s_l_meanings) .none kV17 dc17 pm17 an17 cd17 ct17), sl17⟩) (c17 : PySem.W.codeIn K cd17 "_law_meanings" = true) (k17 : PySem.W.keepIn K (.ref f17) = true)
    (a18 : PySem.W.nsIn K mainGlobals "_law_due" = some (some (.ref f18))) (l18 : K.lookup f18 = some ⟨oc18, od18, .func (PySem.W.fnOf "_law_due" "_law_due" (defArgs s_l_due) (defBody s_l_due) (defScope s_l_due) .none kV18 dc18 pm18 an18 cd18 ct18), sl18⟩) (c18 : PySem.W.codeIn K cd18 "_law_due" = true) (k18 : PySem.W.keepIn K (.ref f18) = true)
    (a19 : PySem.W.nsIn K mainGlobals "_law_right" = some (some (.ref f19))) (l19 : K.lookup f19 = some ⟨oc19, od19, .func (PySem.W.fnOf "_law_right" "_law_right" (defArgs s_l_right) (defBody s_l_right) (defScope s_l_right) .none kV19 dc19 pm19 an19 cd19 ct19), sl19⟩) (c19 : PySem.W.codeIn K cd19 "_law_right" = true) (k19 : PySem.W.keepIn K (.ref f19) = true)
    (a20 : PySem.W.nsIn K mainGlobals "law" = some (some (.ref f20))) (l20 : K.lookup f20 = some ⟨oc20, od20, .func (PySem.W.fnOf "law" "law" (defArgs s_law) (defBody s_law) (defScope s_law) .none kV20 dc20 pm20 an20 cd20 ct20), sl20⟩) (c20 : PySem.W.codeIn K cd20 "law" = true) (k20 : PySem.W.keepIn K (.ref f20) = true)
    {p1 : Addr} {dd1 : Option Addr} {n1 : Nat} {sc1 : Array (Option Value)} {t1_0 t1_1 t1_2 t1_3 : Nat}
    (ac1 : PySem.W.nsIn K mainGlobals "JOINED" = some (some (.ref p1))) (lc1 : K.lookup p1 = some ⟨.type "tuple", dd1, .seq #[.str "not" t1_0, .str "and" t1_1, .str "or" t1_2, .str "if" t1_3] n1, sc1⟩)
    {p2 : Addr} {dd2 : Option Addr} {n2 : Nat} {sc2 : Array (Option Value)} {t2_0 t2_1 : Nat}
    (ac2 : PySem.W.nsIn K mainGlobals "BOUND" = some (some (.ref p2))) (lc2 : K.lookup p2 = some ⟨.type "tuple", dd2, .seq #[.str "every" t2_0, .str "some" t2_1] n2, sc2⟩)
    {p3 : Addr} {dd3 : Option Addr} {n3 : Nat} {sc3 : Array (Option Value)} {t3_0 t3_1 t3_2 : Nat}
    (ac3 : PySem.W.nsIn K mainGlobals "TWO_FORMS" = some (some (.ref p3))) (lc3 : K.lookup p3 = some ⟨.type "tuple", dd3, .seq #[.str "and" t3_0, .str "or" t3_1, .str "if" t3_2] n3, sc3⟩)
    {p4 : Addr} {dd4 : Option Addr} {n4 : Nat} {sc4 : Array (Option Value)} {t4_0 t4_1 : Nat}
    (ac4 : PySem.W.nsIn K mainGlobals "BINDERS" = some (some (.ref p4))) (lc4 : K.lookup p4 = some ⟨.type "tuple", dd4, .seq #[.str "every" t4_0, .str "some" t4_1] n4, sc4⟩)
    (z_len : PySem.W.nsIn K mainGlobals "len" = some none)
    (z_sum : PySem.W.nsIn K mainGlobals "sum" = some none)
    (z_list : PySem.W.nsIn K mainGlobals "list" = some none)
    (z_tuple : PySem.W.nsIn K mainGlobals "tuple" = some none)
    (z_range : PySem.W.nsIn K mainGlobals "range" = some none)
    (z_sorted : PySem.W.nsIn K mainGlobals "sorted" = some none)
    (z_max : PySem.W.nsIn K mainGlobals "max" = some none)
    (z_min : PySem.W.nsIn K mainGlobals "min" = some none)
    (z_int : PySem.W.nsIn K mainGlobals "int" = some none)
    (z_dict : PySem.W.nsIn K mainGlobals "dict" = some none)
    (z_isinstance : PySem.W.nsIn K mainGlobals "isinstance" = some none)
    (z_repr : PySem.W.nsIn K mainGlobals "repr" = some none)
    : ∃ fd : FuncData, (∀ (s : Shared) (v : Value), BindsTo s fd ⟨[v], []⟩ [("_law_script", v)]) ∧ ∀ base : Heap, FnG l.prog w K mg base 141 fa fd ["_law_script"] (liftSp K spLaw) := by
  have e := hfa.symm.trans (PySem.W.mg_of X G a20)
  cases e
  have none : ∀ {x : Str}, PySem.W.nsIn K mainGlobals x = some none → mg x = none := fun z => PySem.W.mg_none_of X G z
  have t : Top K mg := ⟨⟨none z_len, none z_sum, none z_list, none z_tuple, none z_range, none z_sorted, none z_max, none z_min, none z_int, none z_dict, none z_isinstance, none z_repr⟩,
    ⟨_, _, fun_mk (st := s_put_term_meanings) l1 c1 k1, PySem.W.mg_of X G a1⟩,
    ⟨_, _, fun_mk (st := s_unfolded_by) l2 c2 k2, PySem.W.mg_of X G a2⟩,
    ⟨_, _, fun_mk (st := s_unfolded) l3 c3 k3, PySem.W.mg_of X G a3⟩,
    ⟨_, _, fun_mk (st := s_put_term_forms) l4 c4 k4, PySem.W.mg_of X G a4⟩,
    ⟨_, _, fun_mk (st := s_put_for) l5 c5 k5, PySem.W.mg_of X G a5⟩,
    ⟨_, _, fun_mk (st := s_l_mixed) l6 c6 k6, PySem.W.mg_of X G a6⟩,
    ⟨_, _, fun_mk (st := s_l_deck) l7 c7 k7, PySem.W.mg_of X G a7⟩,
    ⟨_, _, fun_mk (st := s_l_draw) l8 c8 k8, PySem.W.mg_of X G a8⟩,
    ⟨_, _, fun_mk (st := s_l_word) l9 c9 k9, PySem.W.mg_of X G a9⟩,
    ⟨_, _, fun_mk (st := s_l_kinds) l10 c10 k10, PySem.W.mg_of X G a10⟩,
    ⟨_, _, fun_mk (st := s_l_names) l11 c11 k11, PySem.W.mg_of X G a11⟩,
    ⟨_, _, fun_mk (st := s_l_leaf) l12 c12 k12, PySem.W.mg_of X G a12⟩,
    ⟨_, _, fun_mk (st := s_l_form) l13 c13 k13, PySem.W.mg_of X G a13⟩,
    ⟨_, _, fun_mk (st := s_l_deeper) l14 c14 k14, PySem.W.mg_of X G a14⟩,
    ⟨_, _, fun_mk (st := s_l_shape) l15 c15 k15, PySem.W.mg_of X G a15⟩,
    ⟨_, _, fun_mk (st := s_l_words_drawn) l16 c16 k16, PySem.W.mg_of X G a16⟩,
    ⟨_, _, fun_mk (st := s_l_meanings) l17 c17 k17, PySem.W.mg_of X G a17⟩,
    ⟨_, _, fun_mk (st := s_l_due) l18 c18 k18, PySem.W.mg_of X G a18⟩,
    ⟨_, _, fun_mk (st := s_l_right) l19 c19 k19, PySem.W.mg_of X G a19⟩,
    cst_mk (ys := ["not", "and", "or", "if"]) X G ac1 lc1 (by simp) (.cons ⟨_, rfl⟩ (.cons ⟨_, rfl⟩ (.cons ⟨_, rfl⟩ (.cons ⟨_, rfl⟩ (.nil))))), cst_mk (ys := ["every", "some"]) X G ac2 lc2 (by simp) (.cons ⟨_, rfl⟩ (.cons ⟨_, rfl⟩ (.nil))), cst_mk (ys := ["and", "or", "if"]) X G ac3 lc3 (by simp) (.cons ⟨_, rfl⟩ (.cons ⟨_, rfl⟩ (.cons ⟨_, rfl⟩ (.nil)))), cst_mk (ys := ["every", "some"]) X G ac4 lc4 (by simp) (.cons ⟨_, rfl⟩ (.cons ⟨_, rfl⟩ (.nil)))⟩
  refine ⟨_, fun s v => .of_eq rfl, fun base => fnG_law t.bt (fun_mk (st := s_law) l20 c20 k20) t.defs⟩
theorem walk {l : PySem.W.OpenLaw} {q : Program} {loose : List Str} {XP : (Str → Option Value) → Heap → Prop} {YP : World → Heap → Prop} {d : DefRec} {K : Params → PySem.W.Frag} (hn : l.most = some 63) (hdf : d.params.defaults = [])
    (hY : ∀ (w : World) (h : Heap), YP w h → (K w.params).In h)
    (F : ∀ (w : World) (mg : Str → Option Value) (fa : Addr) (h : Heap), (K w.params).In h → h.Ns mainGlobals mg → mg d.name = some (.ref fa) →
      ∃ fd : FuncData, (∀ (s : Shared) (u : Value), BindsTo s fd ⟨[u], []⟩ [("_law_script", u)]) ∧ ∀ base : Heap, FnG l.prog w (K w.params) mg base 141 fa fd ["_law_script"] (liftSp (K w.params) spLaw)) :
    PySem.W.WalkO q loose XP YP l.row.toRowW d [] (fun f vs => PySem.call f vs) :=
  Att.attach_call hn hdf fun w _ s _ _ _ _ _ _ _ _ _ _ G Y _ _ _ hm hobj hints hlen hg =>
    let KX := hY w _ Y
    let ⟨_, hb, hF⟩ := F w _ _ _ KX G.T.g hm
    called KX G.T.g G.T.b G.T.builtins G.T.nolimit hg hobj hints hlen hF hb
end K72
open PySem PySem.W PyProof.Rows
set_option maxRecDepth 100000 in
set_option maxHeartbeats 0 in
theorem PySem.Challenge.cw_linecourt_k72_meanings_put_in_place_holds : PySem.Challenge.rw_linecourt_k72_meanings_put_in_place.Holds := by
  w_on; o_law; k_head; (case hw => w_witness2)
  k_fill
  refine K72.walk (l := PySem.Challenge.rw_linecourt_k72_meanings_put_in_place) rfl rfl (fun w h Y => PySem.W.kIn_of Y) ?F
  case F =>
    intro w mg fa h KX G hmg
    refine' K72.all_mk KX G hmg ?a1 ?l1 ?c1 ?k1 ?a2 ?l2 ?c2 ?k2 ?a3 ?l3 ?c3 ?k3 ?a4 ?l4 ?c4 ?k4 ?a5 ?l5 ?c5 ?k5 ?a6 ?l6 ?c6 ?k6 ?a7 ?l7 ?c7 ?k7 ?a8 ?l8 ?c8 ?k8 ?a9 ?l9 ?c9 ?k9 ?a10 ?l10 ?c10 ?k10 ?a11 ?l11 ?c11 ?k11 ?a12 ?l12 ?c12 ?k12 ?a13 ?l13 ?c13 ?k13 ?a14 ?l14 ?c14 ?k14 ?a15 ?l15 ?c15 ?k15 ?a16 ?l16 ?c16 ?k16 ?a17 ?l17 ?c17 ?k17 ?a18 ?l18 ?c18 ?k18 ?a19 ?l19 ?c19 ?k19 ?a20 ?l20 ?c20 ?k20 ?ac1 ?lc1 ?ac2 ?lc2 ?ac3 ?lc3 ?ac4 ?lc4 ?z_len ?z_sum ?z_list ?z_tuple ?z_range ?z_sorted ?z_max ?z_min ?z_int ?z_dict ?z_isinstance ?z_repr
    (case a1 => k_is)
    (case l1 => k_is)
    (case c1 => k_is)
    (case k1 => k_is)
    (case a2 => k_is)
    (case l2 => k_is)
    (case c2 => k_is)
    (case k2 => k_is)
    (case a3 => k_is)
    (case l3 => k_is)
    (case c3 => k_is)
    (case k3 => k_is)
    (case a4 => k_is)
    (case l4 => k_is)
    (case c4 => k_is)
    (case k4 => k_is)
    (case a5 => k_is)
    (case l5 => k_is)
    (case c5 => k_is)
    (case k5 => k_is)
    (case a6 => k_is)
    (case l6 => k_is)
    (case c6 => k_is)
    (case k6 => k_is)
    (case a7 => k_is)
    (case l7 => k_is)
    (case c7 => k_is)
    (case k7 => k_is)
    (case a8 => k_is)
    (case l8 => k_is)
    (case c8 => k_is)
    (case k8 => k_is)
    (case a9 => k_is)
    (case l9 => k_is)
    (case c9 => k_is)
    (case k9 => k_is)
    (case a10 => k_is)
    (case l10 => k_is)
    (case c10 => k_is)
    (case k10 => k_is)
    (case a11 => k_is)
    (case l11 => k_is)
    (case c11 => k_is)
    (case k11 => k_is)
    (case a12 => k_is)
    (case l12 => k_is)
    (case c12 => k_is)
    (case k12 => k_is)
    (case a13 => k_is)
    (case l13 => k_is)
    (case c13 => k_is)
    (case k13 => k_is)
    (case a14 => k_is)
    (case l14 => k_is)
    (case c14 => k_is)
    (case k14 => k_is)
    (case a15 => k_is)
    (case l15 => k_is)
    (case c15 => k_is)
    (case k15 => k_is)
    (case a16 => k_is)
    (case l16 => k_is)
    (case c16 => k_is)
    (case k16 => k_is)
    (case a17 => k_is)
    (case l17 => k_is)
    (case c17 => k_is)
    (case k17 => k_is)
    (case a18 => k_is)
    (case l18 => k_is)
    (case c18 => k_is)
    (case k18 => k_is)
    (case a19 => k_is)
    (case l19 => k_is)
    (case c19 => k_is)
    (case k19 => k_is)
    (case a20 => k_is)
    (case l20 => k_is)
    (case c20 => k_is)
    (case k20 => k_is)
    (case ac1 => k_is)
    (case lc1 => k_is)
    (case ac2 => k_is)
    (case lc2 => k_is)
    (case ac3 => k_is)
    (case lc3 => k_is)
    (case ac4 => k_is)
    (case lc4 => k_is)
    (case z_len => k_is)
    (case z_sum => k_is)
    (case z_list => k_is)
    (case z_tuple => k_is)
    (case z_range => k_is)
    (case z_sorted => k_is)
    (case z_max => k_is)
    (case z_min => k_is)
    (case z_int => k_is)
    (case z_dict => k_is)
    (case z_isinstance => k_is)
    (case z_repr => k_is)

