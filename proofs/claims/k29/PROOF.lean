import PyProof.Rows.All
import HandS.ForMost
import HandS.Exc
import HandS.ExcOwn
import HandS.CallSlots
import HandS.WordsExc
import HandS.Flow
import HandS.TupAny
import HandS.Deep
import HandS.IsInst
import HandS.SortInts
import HandS.TupMul
import HandS.Wide
import HandS.Style
import HandS.Star
import HandS.More
import PyProof.ReprRoads
import HandS.RaiseMore
import HandS.Zip
import HandS.Walk
import HandS.Small
import HandS.SetFor
import HandS.Defaults
import PyProof.Draws
import HandS.Strs
import HandS.Text
import HandS.Property
import HandS.Iter
import HandS.Ends
import HandS.Codes
import HandS.Words
import PyProof.Rows.RegFStrParts
import PySem.Challenge.RW_placeforms_k29_whole_kinds_that_can_be
import Wide.All
import OpenK.AllK
import Wide.FinOn
set_option Elab.async false
set_option linter.all false
set_option maxRecDepth 100000
set_option maxHeartbeats 1000000
/-! M1: data without a heap, what represents it, the state of a frame. -/
namespace M
open PySem PySem.Spec PyProof.Rows L2

/-- plain data -/
inductive D where
  | non | bl (b : Bool) | int (i : Int) | str (x : Str)
  | tup (xs : List D) | lst (xs : List D) | fl (xs : List D) | dic (ks : List Key) (vs : List D) | dicL (ks : List Key) (vs : List D)
  | obj (c : Str) (ns : List Str) (vs : List D)
  | glob (n : Str) | ty (n : String)
/-- what a slot holds: plain data, or a list or dict or object that nobody else holds (t: 0, or i + 1 for the i-th parameter, lent) -/
inductive Val where
  | p (d : D) | own (t : Nat) (xs : List D) | od (t : Nat) (ks : List Key) (vs : List D) | oo (t : Nat) (c : Str) (ns : List Str) (vs : List D)
abbrev Env := List (Option Val)
def Val.isOwn : Val → Bool
  | .p _ => false
  | _ => true
/-- the text: the written part, the module's names -/
structure Tx where
  K : PySem.W.Frag
  mg : Str → Option Value

abbrev AS := Addr → Prop
abbrev SL := List (Option V)
def TupAt (G : Tx) (L : AS) (H : Hp) (a : Addr) (vs : List V) : Prop := (Rd H a (.tup vs) ∧ ¬ L a) ∨
  ∃ (o : Obj) (its : Array Value) (n : Nat), G.K.lookup a = some o ∧ o.cls = .type "tuple" ∧ o.data = .seq its n ∧ its.size ≤ sizeLine ∧ Vals vs its.toList
def LstAt (G : Tx) (L : AS) (H : Hp) (a : Addr) (vs : List V) : Prop := (Rd H a (.lst vs) ∧ ¬ L a) ∨
  ∃ (o : Obj) (its : Array Value) (n : Nat), G.K.lookup a = some o ∧ o.cls = .type "list" ∧ o.dict = none ∧ o.data = .seq its n ∧ its.size ≤ sizeLine ∧ Vals vs its.toList
theorem TupAt.sq {G : Tx} {L : AS} {H : Hp} {a : Addr} {vs : List V} (h : TupAt G L H a vs) : SqT G.K H a vs := h.imp (fun z => z.1) id
theorem LstAt.sq {G : Tx} {L : AS} {H : Hp} {a : Addr} {vs : List V} (h : LstAt G L H a vs) : SqL G.K H a vs := h.imp (fun z => z.1) id

mutual
/-- v is the data d: all its objects are tracked, none is in L -/
def Rp (G : Tx) (L : AS) (H : Hp) : D → V → Prop
  | .non, v => v = .non
  | .bl b, v => v = .bl b
  | .int i, v => v = .int i
  | .str x, v => v = .str x
  | .tup xs, v => ∃ a vs, v = .ref a ∧ TupAt G L H a vs ∧ RpL G L H xs vs
  | .lst xs, v => ∃ a vs, v = .ref a ∧ H a = some (.lst vs) ∧ ¬ L a ∧ RpL G L H xs vs
  | .fl xs, v => ∃ a vs, v = .ref a ∧ LstAt G L H a vs ∧ RpL G L H xs vs
  | .dic ks ds, v => ∃ a kvs, v = .ref a ∧ H a = some (.dK kvs) ∧ ¬ L a ∧ kvs.map (·.1) = ks ∧ RpL G L H ds (kvs.map (·.2))
  | .dicL ks ds, v => ∃ a o kvs, v = .ref a ∧ H a = some (.frz o (.dK kvs)) ∧ ¬ L a ∧ kvs.map (·.1) = ks ∧ RpL G L H ds (kvs.map (·.2))
  | .obj c ns ds, v => ∃ a C dx fs, v = .ref a ∧ G.mg c = some (.ref C) ∧ H a = some (.ins C dx fs) ∧ ¬ L a ∧ fs.map (·.1) = ns ∧ RpL G L H ds (fs.map (·.2))
  | .glob n, v => ∃ u, G.mg n = some u ∧ RelV v u
  | .ty n, v => v = .ty n
def RpL (G : Tx) (L : AS) (H : Hp) : List D → List V → Prop
  | [], vs => vs = []
  | d :: ds, vs => ∃ v vs', vs = v :: vs' ∧ Rp G L H d v ∧ RpL G L H ds vs'
end

section
variable {G : Tx} {L L' : AS} {H H' : Hp}
/-- from (L, H) to (L', H') plain data stands -/
def Keep (L : AS) (H : Hp) (L' : AS) (H' : Hp) : Prop := ∀ a o, H a = some o → ¬ L a → H' a = some o ∧ ¬ L' a
theorem Keep.refl : Keep L H L H := fun _ _ h n => ⟨h, n⟩
theorem Keep.trans {L1 L2 : AS} {H1 H2 : Hp} (h1 : Keep L H L1 H1) (h2 : Keep L1 H1 L2 H2) : Keep L H L2 H2 := fun a o h n =>
  let ⟨x, y⟩ := h1 a o h n
  h2 a o x y
theorem Keep.rd {a : Addr} {u : HO} (k : Keep L H L' H') (h : Rd H a u ∧ ¬ L a) : Rd H' a u ∧ ¬ L' a := by
  obtain ⟨h, n⟩ := h
  rcases h with h | ⟨o, h⟩
  · exact ⟨.inl (k a _ h n).1, (k a _ h n).2⟩
  · exact ⟨.inr ⟨o, (k a _ h n).1⟩, (k a _ h n).2⟩
theorem TupAt.keep {a : Addr} {vs : List V} (k : Keep L H L' H') (h : TupAt G L H a vs) : TupAt G L' H' a vs := h.imp k.rd id
theorem LstAt.keep {a : Addr} {vs : List V} (k : Keep L H L' H') (h : LstAt G L H a vs) : LstAt G L' H' a vs := h.imp k.rd id
mutual
theorem Rp.keep (k : Keep L H L' H') : ∀ (d : D) (v : V), Rp G L H d v → Rp G L' H' d v
  | .non, _, h => h
  | .bl _, _, h => h
  | .int _, _, h => h
  | .str _, _, h => h
  | .tup xs, _, ⟨a, vs, e, t, r⟩ => ⟨a, vs, e, t.keep k, RpL.keep k xs vs r⟩
  | .lst xs, _, ⟨a, vs, e, t, n, r⟩ => ⟨a, vs, e, (k a _ t n).1, (k a _ t n).2, RpL.keep k xs vs r⟩
  | .fl xs, _, ⟨a, vs, e, t, r⟩ => ⟨a, vs, e, t.keep k, RpL.keep k xs vs r⟩
  | .dic _ ds, _, ⟨a, kvs, e, t, n, m, r⟩ => ⟨a, kvs, e, (k a _ t n).1, (k a _ t n).2, m, RpL.keep k ds _ r⟩
  | .dicL _ ds, _, ⟨a, o, kvs, e, t, n, m, r⟩ => ⟨a, o, kvs, e, (k a _ t n).1, (k a _ t n).2, m, RpL.keep k ds _ r⟩
  | .obj _ _ ds, _, ⟨a, C, dx, fs, e, g, t, n, m, r⟩ => ⟨a, C, dx, fs, e, g, (k a _ t n).1, (k a _ t n).2, m, RpL.keep k ds _ r⟩
  | .glob _, _, h => h
  | .ty _, _, h => h
theorem RpL.keep (k : Keep L H L' H') : ∀ (ds : List D) (vs : List V), RpL G L H ds vs → RpL G L' H' ds vs
  | [], _, h => h
  | d :: ds, _, ⟨v, vs', e, h, t⟩ => ⟨v, vs', e, Rp.keep k d v h, RpL.keep k ds vs' t⟩
end
theorem RpL.length : ∀ {ds : List D} {vs : List V}, RpL G L H ds vs → ds.length = vs.length
  | [], _, h => by cases h; rfl
  | _ :: _, _, ⟨_, _, e, _, t⟩ => by rw [e, List.length_cons, List.length_cons, t.length]
theorem RpL.nil : RpL G L H [] [] := rfl
theorem RpL.cons {d : D} {ds : List D} {v : V} {vs : List V} (h : Rp G L H d v) (t : RpL G L H ds vs) : RpL G L H (d :: ds) (v :: vs) := ⟨v, vs, rfl, h, t⟩
theorem RpL.append : ∀ {ds es : List D} {vs ws : List V}, RpL G L H ds vs → RpL G L H es ws → RpL G L H (ds ++ es) (vs ++ ws)
  | [], _, _, _, h, q => by cases h; exact q
  | _ :: _, _, _, _, ⟨v, vs', e, h, t⟩, q => by subst e; exact ⟨v, _, rfl, h, t.append q⟩
theorem RpL.get : ∀ {ds : List D} {vs : List V} {i : Nat} {d : D}, RpL G L H ds vs → ds[i]? = some d → ∃ v, vs[i]? = some v ∧ Rp G L H d v
  | _ :: _, _, 0, _, ⟨v, _, e, h, _⟩, q => by subst e; simp at q; subst q; exact ⟨v, rfl, h⟩
  | _ :: _, _, i + 1, d, ⟨v, vs', e, _, t⟩, q => by
    subst e
    obtain ⟨w, h1, h2⟩ := t.get (i := i) (d := d) (by simpa using q)
    exact ⟨w, by simpa using h1, h2⟩
theorem RpL.get' {ds : List D} {vs : List V} {i : Nat} {v : V} (h : RpL G L H ds vs) (q : vs[i]? = some v) : ∃ d, ds[i]? = some d ∧ Rp G L H d v := by
  have hl := h.length
  have hi : i < ds.length := by rw [hl]; exact (List.getElem?_eq_some_iff.mp q).1
  obtain ⟨w, h1, h2⟩ := h.get (i := i) (d := ds[i]) (by simp [hi])
  rw [q] at h1; cases h1
  exact ⟨_, by simp [hi], h2⟩
theorem RpL.set : ∀ {ds : List D} {vs : List V} {d : D} {v : V} (i : Nat), RpL G L H ds vs → Rp G L H d v → RpL G L H (ds.set i d) (vs.set i v)
  | [], _, _, _, _, h, _ => by cases h; exact RpL.nil
  | _ :: _, _, _, _, 0, ⟨_, vs', e, _, t⟩, q => by subst e; exact ⟨_, vs', rfl, q, t⟩
  | _ :: _, _, _, _, i + 1, ⟨_, vs', e, h, t⟩, q => by subst e; exact ⟨_, _, rfl, h, t.set i q⟩
theorem RpL.take : ∀ {ds : List D} {vs : List V} (n : Nat), RpL G L H ds vs → RpL G L H (ds.take n) (vs.take n)
  | _, _, 0, _ => by rw [List.take_zero, List.take_zero]; exact RpL.nil
  | [], _, n + 1, h => by cases h; rw [List.take_nil, List.take_nil]; exact RpL.nil
  | _ :: _, _, n + 1, ⟨v, vs', e, h, t⟩ => by subst e; exact ⟨v, _, rfl, h, t.take n⟩
theorem RpL.drop : ∀ {ds : List D} {vs : List V} (n : Nat), RpL G L H ds vs → RpL G L H (ds.drop n) (vs.drop n)
  | _, _, 0, h => by rw [List.drop_zero, List.drop_zero]; exact h
  | [], _, n + 1, h => by cases h; rw [List.drop_nil, List.drop_nil]; exact RpL.nil
  | _ :: _, _, n + 1, ⟨_, _, e, _, t⟩ => by subst e; exact t.drop n
theorem RpL.eraseIdx : ∀ {ds : List D} {vs : List V} (i : Nat), RpL G L H ds vs → RpL G L H (ds.eraseIdx i) (vs.eraseIdx i)
  | [], _, _, h => by cases h; exact RpL.nil
  | _ :: _, _, 0, ⟨_, _, e, _, t⟩ => by subst e; exact t
  | _ :: _, _, i + 1, ⟨v, _, e, h, t⟩ => by subst e; exact ⟨v, _, rfl, h, t.eraseIdx i⟩
theorem RpL.reverse {ds : List D} {vs : List V} (h : RpL G L H ds vs) : RpL G L H ds.reverse vs.reverse := by
  induction ds generalizing vs with
  | nil => cases h; exact RpL.nil
  | cons d ds ih =>
    obtain ⟨v, vs', e, h, t⟩ := h
    subst e
    rw [List.reverse_cons, List.reverse_cons]
    exact (ih t).append (.cons h .nil)
theorem RpL.ints : ∀ (ns : List Int), RpL G L H (ns.map D.int) (ns.map V.int)
  | [] => RpL.nil
  | _ :: ns => .cons rfl (RpL.ints ns)
theorem RpL.ints_eq : ∀ {ns : List Int} {vs : List V}, RpL G L H (ns.map D.int) vs → vs = ns.map V.int
  | [], _, h => h
  | _ :: _, _, ⟨_, _, e, h, t⟩ => by
    have h : _ = _ := h
    rw [e, h, RpL.ints_eq t]; rfl
end

/-! ### the state of a frame -/
section
variable (G : Tx) (U L : AS) (H : Hp)
/-- v is what x says; an owned thing stands in L, not in U -/
def RpV : Val → V → Prop
  | .p d, v => Rp G L H d v
  | .own _ xs, v => ∃ a vs, v = .ref a ∧ L a ∧ ¬ U a ∧ H a = some (.lst vs) ∧ RpL G L H xs vs
  | .od _ ks ds, v => ∃ a kvs, v = .ref a ∧ L a ∧ ¬ U a ∧ H a = some (.dK kvs) ∧ kvs.map (·.1) = ks ∧ RpL G L H ds (kvs.map (·.2))
  | .oo _ c ns ds, v => ∃ a C dx fs, v = .ref a ∧ L a ∧ ¬ U a ∧ G.mg c = some (.ref C) ∧ H a = some (.ins C dx fs) ∧ fs.map (·.1) = ns ∧ RpL G L H ds (fs.map (·.2))
end
/-- the tag: 0, or i + 1 -/
def Val.tag : Val → Nat
  | .p _ => 0
  | .own t _ => t
  | .od t _ _ => t
  | .oo t _ _ _ => t
/-- the slots σ hold what e says. lent: where the lent parameters stand -/
structure Rel (G : Tx) (U L : AS) (lent : Nat → Addr) (σ : SL) (H : Hp) (e : Env) : Prop where
  sub : ∀ a, U a → L a
  trk : ∀ a, L a → ∃ o, H a = some o
  len : e.length = σ.length
  at_ : ∀ (i : Nat) (x : Val), e[i]? = some (some x) → ∃ v, σ[i]? = some (some v) ∧ RpV G U L H x v
  ne : ∀ (i j : Nat) (x y : Val) (v : V), i ≠ j → e[i]? = some (some x) → e[j]? = some (some y) → x.isOwn = true → y.isOwn = true → σ[i]? = some (some v) → σ[j]? = some (some v) → False
  tag : ∀ (i : Nat) (x : Val), e[i]? = some (some x) → x.isOwn = true → x.tag ≠ 0 → σ[i]? = some (some (.ref (lent x.tag)))
/-- from (L, H) to (L', H'), U being held by others -/
structure Step (U L : AS) (H : Hp) (L' : AS) (H' : Hp) : Prop where
  keep : ∀ a o, H a = some o → (L a → U a) → H' a = some o
  out : ∀ a o, H a = some o → ¬ L a → ¬ L' a
  sub : ∀ a, U a → L' a
section
variable {G : Tx} {U L L' L1 L2 : AS} {H H' H1 H2 : Hp} {lent : Nat → Addr} {σ : SL} {e : Env}
theorem Step.toKeep (s : Step U L H L' H') : Keep L H L' H' := fun a o h n => ⟨s.keep a o h fun z => absurd z n, s.out a o h n⟩
theorem Step.refl (h : ∀ a, U a → L a) : Step U L H L H := ⟨fun _ _ q _ => q, fun _ _ _ n => n, h⟩
theorem Step.trans (s1 : Step U L H L1 H1) (s2 : Step U L1 H1 L2 H2) : Step U L H L2 H2 where
  keep := fun a o h n => s2.keep a o (s1.keep a o h n) fun z => Classical.byCases (fun q => n q) fun q => absurd z (s1.out a o h q)
  out := fun a o h n => s2.out a o (s1.keep a o h fun z => absurd z n) (s1.out a o h n)
  sub := s2.sub
/-- nothing but new objects -/
theorem Step.grow (hs : ∀ a, U a → L a) (g : ∀ a o, H a = some o → H' a = some o) : Step U L H L H' := ⟨fun a o h _ => g a o h, fun _ _ _ n => n, hs⟩
theorem Rp.step {d : D} {v : V} (s : Step U L H L' H') (h : Rp G L H d v) : Rp G L' H' d v := Rp.keep s.toKeep d v h
theorem RpL.step {ds : List D} {vs : List V} (s : Step U L H L' H') (h : RpL G L H ds vs) : RpL G L' H' ds vs := RpL.keep s.toKeep ds vs h
/-- the owned things stand as they stood -/
theorem RpV.of {x : Val} {v : V} (k : Keep L H L' H') (own : ∀ a, L a → ¬ U a → ∀ o, H a = some o → L' a ∧ H' a = some o) (h : RpV G U L H x v) : RpV G U L' H' x v := by
  cases x with
  | p d => exact Rp.keep k d v h
  | own t xs => obtain ⟨a, vs, e, l, u, q, r⟩ := h; exact ⟨a, vs, e, (own a l u _ q).1, u, (own a l u _ q).2, RpL.keep k _ _ r⟩
  | od t ks ds => obtain ⟨a, kvs, e, l, u, q, m, r⟩ := h; exact ⟨a, kvs, e, (own a l u _ q).1, u, (own a l u _ q).2, m, RpL.keep k _ _ r⟩
  | oo t c ns ds => obtain ⟨a, C, dx, fs, e, l, u, g, q, m, r⟩ := h; exact ⟨a, C, dx, fs, e, (own a l u _ q).1, u, g, (own a l u _ q).2, m, RpL.keep k _ _ r⟩
/-- new objects, L as it is -/
theorem Rel.grow (r : Rel G U L lent σ H e) (g : ∀ a o, H a = some o → H' a = some o) : Rel G U L lent σ H' e :=
  ⟨r.sub, fun a l => let ⟨o, h⟩ := r.trk a l; ⟨o, g a o h⟩, r.len, fun i x q => let ⟨v, h1, h2⟩ := r.at_ i x q; ⟨v, h1, h2.of (fun a o h n => ⟨g a o h, n⟩) fun a l _ o h => ⟨l, g a o h⟩⟩, r.ne, r.tag⟩
theorem grow_upd {p : Addr} {o : HO} (np : H p = none) : ∀ a u, H a = some u → upd H p o a = some u := fun a u h => by
  rw [upd_ne (ne_of_none h np)]; exact h
end
end M

set_option Elab.async false
set_option linter.all false
set_option maxRecDepth 100000
set_option maxHeartbeats 1000000
/-! M2: what a run gives, what a reading asks, how readings are put together. -/
namespace M
open PySem PySem.Spec PyProof.Rows L2

/-- what a run gives: a value and the slots, an exception (its class's name, its attribute) and the slots, or nothing told -/
inductive Res (α : Type) where
  | ok (a : α) (e : Env) | exc (c : Str) (x : Option (Str × D)) (e : Env) | fail
def Res.bind {α β : Type} (r : Res α) (k : α → Env → Res β) : Res β := match r with
  | .ok a e => k a e
  | .exc c x e => .exc c x e
  | .fail => .fail
def lift {α : Type} (o : Option α) (e : Env) : Res α := match o with
  | some x => .ok x e
  | none => .fail
@[simp] theorem bind_ok {α β : Type} (a : α) (e : Env) (k : α → Env → Res β) : (Res.ok a e).bind k = k a e := rfl
@[simp] theorem bind_exc {α β : Type} (c : Str) (x : Option (Str × D)) (e : Env) (k : α → Env → Res β) : (Res.exc c x e).bind k = .exc c x e := rfl
@[simp] theorem bind_fail {α β : Type} (k : α → Env → Res β) : (Res.fail : Res α).bind k = .fail := rfl
@[simp] theorem lift_some {α : Type} (a : α) (e : Env) : lift (some a) e = .ok a e := rfl
@[simp] theorem lift_none {α : Type} (e : Env) : lift (none : Option α) e = .fail := rfl

/-- an exception of the class c with the attribute x lies so -/
def ExcAt (G : Tx) (L : AS) (H : Hp) (c : Str) (x : Option (Str × D)) (cls : Value) (d : Option Addr) : Prop :=
  ∃ C, G.mg c = some (.ref C) ∧ cls = .ref C ∧ match x with
    | none => d = none
    | some (n, dv) => ∃ da v, d = some da ∧ H da = some (.xd [(n, v)]) ∧ Rp G L H dv v
/-- how a result stands: U, L, the slots, the heap, what is known of the slots -/
abbrev RR (α β : Type) := AS → AS → SL → Hp → Env → α → β → Prop
section
variable {α β : Type} (G : Tx) (W : WX) (U L : AS) (lent : Nat → Addr) (σ : SL) (H : Hp) (R : RR α β) (Q : β → Hp → Prop)
/-- what is asked of a run's result -/
def Post : Res α → Prop
  | .ok x e => ∀ v L' H', Step U L H L' H' → Rel G U L' lent σ H' e → R U L' σ H' e x v → Q v H'
  | .exc c x e => ∀ cls d L' H', Step U L H L' H' → Rel G U L' lent σ H' e → ExcAt G L' H' c x cls d → W cls d σ H'
  | .fail => False
end
/-- the reading of a run -/
def rd {α β : Type} (G : Tx) (W : WX) (R : RR α β) (f : Env → Res α) : SL → Hp → (β → Hp → Prop) → Prop := fun σ H Q =>
  ∃ U L lent e, Rel G U L lent σ H e ∧ Post G W U L lent σ H R Q (f e)
/-- values: plain, or owned by nobody yet -/
def RV (G : Tx) : RR Val V := fun U L σ H e x v => RpV G U L H x v ∧ (x.isOwn = true → x.tag = 0 ∧ ∀ (i : Nat) (y : Val), e[i]? = some (some y) → y.isOwn = true → σ[i]? ≠ some (some v))
def RD (G : Tx) : RR D V := fun _ L _ H _ d v => Rp G L H d v
def RB : RR Bool Bool := fun _ _ _ _ _ x y => x = y

section
variable {α β γ δ : Type} {G : Tx} {W : WX} {U L L1 : AS} {lent : Nat → Addr} {σ : SL} {H H1 : Hp} {R : RR α β} {R' : RR γ δ} {Q : β → Hp → Prop} {Q' : δ → Hp → Prop} {e : Env}
theorem Post.step {r : Res α} (s : Step U L H L1 H1) (p : Post G W U L lent σ H R Q r) : Post G W U L1 lent σ H1 R Q r := by
  cases r with
  | ok x e => exact fun v L' H' s' r q => p v L' H' (s.trans s') r q
  | exc c x e => exact fun cls d L' H' s' r q => p cls d L' H' (s.trans s') r q
  | fail => exact p
/-- one run, then another one -/
theorem Post.bind {r : Res γ} {k : γ → Env → Res α} (p : Post G W U L lent σ H R Q (r.bind k))
    (hq : ∀ v L' H' x e', Step U L H L' H' → Rel G U L' lent σ H' e' → R' U L' σ H' e' x v → Post G W U L' lent σ H' R Q (k x e') → Q' v H') : Post G W U L lent σ H R' Q' r := by
  cases r with
  | ok x e' => exact fun v L' H' s rel rv => hq v L' H' x e' s rel rv (Post.step s p)
  | exc c x e' => exact p
  | fail => exact p
theorem rd_of {f : Env → Res γ} {k : γ → Env → Res α} (rel : Rel G U L lent σ H e) (p : Post G W U L lent σ H R Q ((f e).bind k))
    (hq : ∀ v L' H' x e', Step U L H L' H' → Rel G U L' lent σ H' e' → R' U L' σ H' e' x v → Post G W U L' lent σ H' R Q (k x e') → Q' v H') : rd G W R' f σ H Q' :=
  ⟨U, L, lent, e, rel, p.bind hq⟩
theorem rd_intro {f : Env → Res α} (rel : Rel G U L lent σ H e) (p : Post G W U L lent σ H R Q (f e)) : rd G W R f σ H Q := ⟨U, L, lent, e, rel, p⟩
theorem Post.lift {o : Option α} (p : Post G W U L lent σ H R Q (lift o e)) : ∃ x, o = some x ∧ Post G W U L lent σ H R Q (.ok x e) := by
  cases o with
  | none => exact p.elim
  | some x => exact ⟨x, rfl, p⟩
end

/-! ### freezing -/
def Val.frz : Val → D
  | .p d => d
  | .own _ xs => .lst xs
  | .od _ ks vs => .dic ks vs
  | .oo _ c ns vs => .obj c ns vs
def Res.frz (r : Res Val) : Res D := match r with
  | .ok x e => .ok x.frz e
  | .exc c x e => .exc c x e
  | .fail => .fail
def rmv (L : AS) (p : Addr) : AS := fun a => L a ∧ a ≠ p
def adds (L : AS) (p : Addr) : AS := fun a => L a ∨ a = p
section
variable {G : Tx} {W : WX} {U L L1 : AS} {lent : Nat → Addr} {σ : SL} {H H1 : Hp} {e : Env}
theorem keep_rmv {p : Addr} : Keep L H (rmv L p) H := fun _ _ h n => ⟨h, fun z => n z.1⟩
theorem step_rmv {p : Addr} (sub : ∀ a, U a → L a) (np : ¬ U p) : Step U L H (rmv L p) H :=
  ⟨fun _ _ q _ => q, fun _ _ _ n z => n z.1, fun a u => ⟨sub a u, fun z => np (z ▸ u)⟩⟩
/-- an own thing at p that no slot holds is let go -/
theorem Rel.rmv {p : Addr} (rel : Rel G U L lent σ H e) (np : ¬ U p) (hn : ∀ (i : Nat) (y : Val), e[i]? = some (some y) → y.isOwn = true → σ[i]? ≠ some (some (.ref p))) : Rel G U (rmv L p) lent σ H e where
  sub := fun a u => ⟨rel.sub a u, fun z => np (z ▸ u)⟩
  trk := fun a l => rel.trk a l.1
  len := rel.len
  at_ := fun i x q => by
    obtain ⟨v, h1, h2⟩ := rel.at_ i x q
    refine ⟨v, h1, ?_⟩
    cases x with
    | p d => exact Rp.keep keep_rmv d v h2
    | own t xs =>
      obtain ⟨a, vs, ev, l, u, h, r⟩ := h2
      exact ⟨a, vs, ev, ⟨l, fun z => hn i _ q rfl (by rw [h1, ev, z])⟩, u, h, RpL.keep keep_rmv _ _ r⟩
    | od t ks ds =>
      obtain ⟨a, vs, ev, l, u, h, m, r⟩ := h2
      exact ⟨a, vs, ev, ⟨l, fun z => hn i _ q rfl (by rw [h1, ev, z])⟩, u, h, m, RpL.keep keep_rmv _ _ r⟩
    | oo t c ns ds =>
      obtain ⟨a, C, dx, fs, ev, l, u, g, h, m, r⟩ := h2
      exact ⟨a, C, dx, fs, ev, ⟨l, fun z => hn i _ q rfl (by rw [h1, ev, z])⟩, u, g, h, m, RpL.keep keep_rmv _ _ r⟩
  ne := rel.ne
  tag := rel.tag
theorem frz_rp {p : Addr} {x : Val} (ho : x.isOwn = true) (h : RpV G U L H x (.ref p)) : ¬ U p ∧ L p ∧ Rp G (M.rmv L p) H x.frz (.ref p) := by
  cases x with
  | p d => cases ho
  | own t xs =>
    obtain ⟨a, vs, ev, l, u, h, r⟩ := h
    cases ev
    exact ⟨u, l, p, vs, rfl, h, fun z => z.2 rfl, RpL.keep keep_rmv _ _ r⟩
  | od t ks ds =>
    obtain ⟨a, vs, ev, l, u, h, m, r⟩ := h
    cases ev
    exact ⟨u, l, p, vs, rfl, h, fun z => z.2 rfl, m, RpL.keep keep_rmv _ _ r⟩
  | oo t c ns ds =>
    obtain ⟨a, C, dx, fs, ev, l, u, g, h, m, r⟩ := h
    cases ev
    exact ⟨u, l, p, C, dx, fs, rfl, g, h, fun z => z.2 rfl, m, RpL.keep keep_rmv _ _ r⟩
theorem own_ref {x : Val} {v : V} (ho : x.isOwn = true) (h : RpV G U L H x v) : ∃ p, v = .ref p := by
  cases x with
  | p d => cases ho
  | own t xs => obtain ⟨a, _, ev, _⟩ := h; exact ⟨a, ev⟩
  | od t ks ds => obtain ⟨a, _, ev, _⟩ := h; exact ⟨a, ev⟩
  | oo t c ns ds => obtain ⟨a, _, _, _, ev, _⟩ := h; exact ⟨a, ev⟩
/-- a value, frozen -/
theorem RV.frz {x : Val} {v : V} (rel : Rel G U L lent σ H e) (h : RV G U L σ H e x v) : ∃ L', Step U L H L' H ∧ Rel G U L' lent σ H e ∧ Rp G L' H x.frz v := by
  obtain ⟨h1, h2⟩ := h
  cases ho : x.isOwn with
  | false =>
    cases x with
    | p d => exact ⟨L, Step.refl rel.sub, rel, h1⟩
    | _ => cases ho
  | true =>
    obtain ⟨p, rfl⟩ := own_ref ho h1
    obtain ⟨nu, l, r⟩ := frz_rp ho h1
    exact ⟨_, step_rmv rel.sub nu, rel.rmv nu (h2 ho).2, r⟩
theorem Post.frz {r : Res Val} {Q : VK} (p : Post G W U L lent σ H (RD G) Q r.frz) : Post G W U L lent σ H (RV G) Q r := by
  cases r with
  | ok x e' =>
    intro v L' H' s rel rv
    obtain ⟨L2, s2, rel2, h⟩ := rv.frz rel
    exact p v L2 H' (s.trans s2) rel2 h
  | exc c x e' => exact p
  | fail => exact p
end
section
variable {X : Cx} {W : WX} {a b : Expr}
theorem pe_imp {t t' : TE} (h : PE X a t) (i : ∀ σ H Q, t' σ H Q → t σ H Q) : PE X a t' := ⟨fun pins s σ H Q I q => h.run pins s σ H Q I (i σ H Q q)⟩
theorem pt_imp {t t' : TT} (h : PT X a t) (i : ∀ σ H Q, t' σ H Q → t σ H Q) : PT X a t' := ⟨fun pins s σ H Q I q => h.run pins s σ H Q I (i σ H Q q)⟩
theorem pa_imp {es : List Expr} {t t' : TA} (h : PA X es t) (i : ∀ σ H Q, t' σ H Q → t σ H Q) : PA X es t' := ⟨fun pos pins s σ H Q I q => h.run pos pins s σ H Q I (i σ H Q q)⟩
theorem ps_imp {st : Stmt} {t t' : TS} (h : PS X st t) (i : ∀ D σ H, t' D σ H → t D σ H) : PS X st t' := ⟨fun pins s σ H D I q => h.run pins s σ H D I (i D σ H q)⟩
theorem pss_imp {st : List Stmt} {t t' : TS} (h : PSs X st t) (i : ∀ D σ H, t' D σ H → t D σ H) : PSs X st t' := ⟨fun pins s σ H D I q => h.run pins s σ H D I (i D σ H q)⟩
end
/-- the text's part of a context -/
abbrev tx (X : Cx) : Tx := ⟨X.K, X.mg⟩
/-- the reading of an expression: a value; a value frozen; a test -/
abbrev rE (X : Cx) (W : WX) (f : Env → Res Val) : TE := rd (tx X) W (RV (tx X)) f
abbrev rP (X : Cx) (W : WX) (f : Env → Res D) : TE := rd (tx X) W (RD (tx X)) f
abbrev rT (X : Cx) (W : WX) (f : Env → Res Bool) : TT := rd (tx X) W RB f
theorem pe_frz {X : Cx} {W : WX} {a : Expr} {f : Env → Res Val} (h : PE X a (rE X W f)) : PE X a (rP X W fun e => (f e).frz) :=
  pe_imp h fun σ H Q ⟨U, L, lent, e, rel, p⟩ => ⟨U, L, lent, e, rel, p.frz⟩

/-! ### ends: what a rule hands back -/
section
variable {G : Tx} {W : WX} {U L : AS} {lent : Nat → Addr} {σ : SL} {H : Hp} {e : Env} {Q : VK}
theorem Rel.new {q : Addr} (rel : Rel G U L lent σ H e) (nq : H q = none) : ¬ L q := fun l => by
  obtain ⟨o, h⟩ := rel.trk q l
  rw [nq] at h; cases h
/-- a new own thing at q -/
theorem Rel.adds {q : Addr} {o : HO} (rel : Rel G U L lent σ H e) (nq : H q = none) : Rel G U (adds L q) lent σ (upd H q o) e where
  sub := fun a u => .inl (rel.sub a u)
  trk := fun a l => by
    rcases l with l | l
    · obtain ⟨u, h⟩ := rel.trk a l
      exact ⟨u, grow_upd nq a u h⟩
    · rw [l]; exact ⟨o, upd_same⟩
  len := rel.len
  at_ := fun i x h => by
    obtain ⟨v, h1, h2⟩ := rel.at_ i x h
    exact ⟨v, h1, h2.of (fun a u h n => ⟨grow_upd nq a u h, fun z => z.elim n (ne_of_none h nq)⟩) fun a l _ u h => ⟨.inl l, grow_upd nq a u h⟩⟩
  ne := rel.ne
  tag := rel.tag
theorem Step.adds {q : Addr} {o : HO} (sub : ∀ a, U a → L a) (nq : H q = none) : Step U L H (adds L q) (upd H q o) :=
  ⟨fun a u h _ => grow_upd nq a u h, fun a u h n z => z.elim n (ne_of_none h nq), fun a u => .inl (sub a u)⟩
theorem keep_adds {q : Addr} {o : HO} (nq : H q = none) : Keep L H (M.adds L q) (upd H q o) := fun a u h n => ⟨grow_upd nq a u h, fun z => z.elim n (ne_of_none h nq)⟩
/-- no slot's own thing stands at a new place -/
theorem Rel.fresh {q : Addr} (rel : Rel G U L lent σ H e) (nq : H q = none) : ∀ (i : Nat) (y : Val), e[i]? = some (some y) → y.isOwn = true → σ[i]? ≠ some (some (.ref q)) := fun i y h ho z => by
  obtain ⟨v, h1, h2⟩ := rel.at_ i y h
  rw [z] at h1; cases h1
  cases y with
  | p d => cases ho
  | own t xs => obtain ⟨a, _, ev, _, _, h, _⟩ := h2; cases ev; rw [nq] at h; cases h
  | od t ks ds => obtain ⟨a, _, ev, _, _, h, _⟩ := h2; cases ev; rw [nq] at h; cases h
  | oo t c ns ds => obtain ⟨a, _, _, _, ev, _, _, _, h, _⟩ := h2; cases ev; rw [nq] at h; cases h
theorem fin_own {ds : List D} {vs : List V} {q : Addr} (rel : Rel G U L lent σ H e) (p : Post G W U L lent σ H (RV G) Q (.ok (.own 0 ds) e)) (h : RpL G L H ds vs) (nq : H q = none) : Q (.ref q) (upd H q (.lst vs)) :=
  p _ _ _ (Step.adds rel.sub nq) (rel.adds nq) ⟨⟨q, vs, rfl, .inr rfl, fun u => rel.new nq (rel.sub q u), upd_same, RpL.keep (keep_adds nq) _ _ h⟩, fun _ => ⟨rfl, rel.fresh nq⟩⟩
theorem fin0 {d : D} {v : V} (rel : Rel G U L lent σ H e) (p : Post G W U L lent σ H (RV G) Q (.ok (.p d) e)) (h : Rp G L H d v) : Q v H :=
  p v L H (Step.refl rel.sub) rel ⟨h, fun z => nomatch z⟩
theorem finD {d : D} {v : V} (rel : Rel G U L lent σ H e) (p : Post G W U L lent σ H (RD G) Q (.ok d e)) (h : Rp G L H d v) : Q v H :=
  p v L H (Step.refl rel.sub) rel h
theorem fin_tup {ds : List D} {vs : List V} {q : Addr} (rel : Rel G U L lent σ H e) (p : Post G W U L lent σ H (RV G) Q (.ok (.p (.tup ds)) e)) (h : RpL G L H ds vs) (nq : H q = none) : Q (.ref q) (upd H q (.tup vs)) := by
  have g := grow_upd (o := .tup vs) nq
  have nl := rel.new nq
  refine p _ L _ (Step.grow rel.sub g) (rel.grow g) ⟨⟨q, vs, rfl, .inl ⟨.inl upd_same, nl⟩, RpL.keep (fun a o h n => ⟨g a o h, n⟩) _ _ h⟩, fun z => nomatch z⟩
end
end M

set_option Elab.async false
set_option linter.all false
set_option maxRecDepth 100000
set_option maxHeartbeats 1000000
/-! M3: operations upon values. -/
namespace M
open PySem PySem.Spec PyProof.Rows L2

/-! ### data as the library's data -/
mutual
def D.py : D → Option PyData
  | .non => some .none
  | .bl b => some (.bool b)
  | .int i => some (.int i)
  | .str x => some (.str x)
  | .tup xs => (D.pys xs).map .tuple
  | .lst xs => (D.pys xs).map .list
  | .fl xs => (D.pys xs).map .list
  | _ => none
def D.pys : List D → Option (List PyData)
  | [] => some []
  | x :: xs => match x.py, D.pys xs with
    | some d, some ds => some (d :: ds)
    | _, _ => none
end
section
variable {G : Tx} {L : AS} {H : Hp}
mutual
theorem dp_of : ∀ (d : D) (v : V) (p : PyData), d.py = some p → Rp G L H d v → Dp G.K H v p
  | .non, _, p, e, h => by
    have h : _ = _ := h
    simp only [D.py, Option.some.injEq] at e; subst e; rw [h]; exact .non
  | .bl b, _, p, e, h => by
    have h : _ = _ := h
    simp only [D.py, Option.some.injEq] at e; subst e; rw [h]; exact .bl b
  | .int i, _, p, e, h => by
    have h : _ = _ := h
    simp only [D.py, Option.some.injEq] at e; subst e; rw [h]; exact .int i
  | .str x, _, p, e, h => by
    have h : _ = _ := h
    simp only [D.py, Option.some.injEq] at e; subst e; rw [h]; exact .str x
  | .tup xs, _, p, e, ⟨a, vs, ev, t, r⟩ => by
    simp only [D.py, Option.map_eq_some_iff] at e
    obtain ⟨ps, e1, e2⟩ := e
    subst e2 ev
    exact .tup t.sq (dpAll_of xs vs ps e1 r)
  | .lst xs, _, p, e, ⟨a, vs, ev, t, n, r⟩ => by
    simp only [D.py, Option.map_eq_some_iff] at e
    obtain ⟨ps, e1, e2⟩ := e
    subst e2 ev
    exact .lst (.of t) (dpAll_of xs vs ps e1 r)
  | .fl xs, _, p, e, ⟨a, vs, ev, t, r⟩ => by
    simp only [D.py, Option.map_eq_some_iff] at e
    obtain ⟨ps, e1, e2⟩ := e
    subst e2 ev
    exact .lst t.sq (dpAll_of xs vs ps e1 r)
  | .dic _ _, _, _, e, _ => by simp [D.py] at e
  | .obj _ _ _, _, _, e, _ => by simp [D.py] at e
  | .glob _, _, _, e, _ => by simp [D.py] at e
  | .ty _, _, _, e, _ => by simp [D.py] at e
theorem dpAll_of : ∀ (ds : List D) (vs : List V) (ps : List PyData), D.pys ds = some ps → RpL G L H ds vs → DpAll G.K H vs ps
  | [], _, ps, e, h => by
    have h : _ = _ := h
    simp only [D.pys, Option.some.injEq] at e; subst e; rw [h]; exact .nil
  | d :: ds, _, ps, e, ⟨v, vs', ev, h, t⟩ => by
    simp only [D.pys] at e
    split at e
    · rename_i p ps' h1 h2
      cases e
      subst ev
      exact .cons (dp_of d v p h1 h) (dpAll_of ds vs' ps' h2 t)
    · cases e
end
end

/-! ### semantics -/
def SZ : Nat := sizeLine
def addS : D → D → Option Val
  | .int i, .int j => some (.p (.int (i + j)))
  | .str a, .str b => if a.length + b.length ≤ SZ then some (.p (.str (a ++ b))) else none
  | .lst xs, .lst ys => if xs.length + ys.length ≤ SZ then some (.own 0 (xs ++ ys)) else none
  | .tup xs, .tup ys => if xs.length + ys.length ≤ SZ then some (.p (.tup (xs ++ ys))) else none
  | _, _ => none
def subS : D → D → Option Val
  | .int i, .int j => some (.p (.int (i - j)))
  | _, _ => none
def mulS : D → D → Option Val
  | .int i, .int j => if i.natAbs.log2 + j.natAbs.log2 < 1000000 then some (.p (.int (i * j))) else none
  | .lst xs, .int k => if 0 ≤ k ∧ k ≤ 1000 ∧ xs.length ≤ 1000 then some (.own 0 (List.replicate k.toNat xs).flatten) else none
  | .tup xs, .int k => if 2 ≤ k ∧ k ≤ 1000 ∧ xs ≠ [] ∧ xs.length ≤ 1000 then some (.p (.tup (List.replicate k.toNat xs).flatten)) else none
  | _, _ => none
def fdivS : D → D → Option Val
  | .int i, .int j => if j ≠ 0 ∧ j.natAbs < 1073741824 then some (.p (.int (i.fdiv j))) else none
  | _, _ => none
def modS : D → D → Option Val
  | .int i, .int j => if j ≠ 0 then some (.p (.int (i.fmod j))) else none
  | _, _ => none
def powS : D → D → Option Val
  | .int i, .int j => if 0 ≤ j ∧ j ≤ 1000000 ∧ i.natAbs < 2 ^ 64 then some (.p (.int (i ^ j.toNat))) else none
  | _, _ => none
inductive Bop where
  | add | sub | mul | fdiv | mod | pow
  deriving DecidableEq
def Bop.op : Bop → Operator
  | .add => .Add | .sub => .Sub | .mul => .Mult | .fdiv => .FloorDiv | .mod => .Mod | .pow => .Pow
def bopS : Bop → D → D → Option Val
  | .add => addS | .sub => subS | .mul => mulS | .fdiv => fdivS | .mod => modS | .pow => powS

/-- an operation on values that keeps a semantics -/
def OpOk (X : Cx) (r : R2) (f : D → D → Option Val) : Prop :=
  ∀ (W : WX) (U L : AS) (lent : Nat → Addr) (σ : SL) (H : Hp) (e : Env) (Q : VK) (x y : D) (z : Val) (v w : V), Rel (tx X) U L lent σ H e → Rp (tx X) L H x v → Rp (tx X) L H y w → f x y = some z →
    Post (tx X) W U L lent σ H (RV (tx X)) Q (.ok z e) → r v w H Q
theorem pe_bin {X : Cx} {W : WX} {a b : Expr} {pos : Pos} {op : Operator} {r : R2} {f : D → D → Option Val} {fa fb : Env → Res D} (ho : OpR X (binaryOp op) r) (hk : OpOk X r f) (ha : PE X a (rP X W fa)) (hb : PE X b (rP X W fb)) :
    PE X (.BinOp a op b pos) (rE X W fun e => (fa e).bind fun x e1 => (fb e1).bind fun y e2 => lift (f x y) e2) := by
  refine pe_imp (pe_op ho ha hb) ?_
  rintro σ H Q ⟨U, L, lent, e, rel, p⟩
  refine rd_of rel p fun v L1 H1 x e1 s1 rel1 rx p1 => rd_of rel1 p1 fun w L2 H2 y e2 s2 rel2 ry p2 => ?_
  obtain ⟨z, ez, p3⟩ := p2.lift
  exact hk W U L2 lent σ H2 e2 Q x y z v w rel2 (Rp.step s2 rx) ry ez p3

section
variable {X : Cx}
abbrev rAdd4 (K : PySem.W.Frag) : R2 := fun x y H Q => ((rI0 fun i j => .int (i + j)) x y H Q ∨ (∃ i j, x = .str i ∧ y = .str j ∧ i.length + j.length ≤ sizeLine ∧ Q (.str (i ++ j)) H)) ∨ rCat x y H Q ∨ rCatA K x y H Q
theorem add_ok : OpOk X (rAdd4 X.K) addS := by
  intro W U L lent σ H e Q x y z v w rel rx ry ez p
  cases x <;> cases y <;> simp only [addS, reduceCtorEq] at ez
  · cases ez
    cases rx; cases ry
    exact .inl (.inl ⟨_, _, rfl, rfl, fin0 rel p rfl⟩)
  · split at ez
    · cases ez
      cases rx; cases ry
      exact .inl (.inr ⟨_, _, rfl, rfl, by assumption, fin0 rel p rfl⟩)
    · cases ez
  · split at ez
    · cases ez
      rename_i hz
      obtain ⟨a, vs, rfl, t, r⟩ := rx
      obtain ⟨b, ws, rfl, t', r'⟩ := ry
      refine .inr (.inr ⟨a, b, vs, ws, rfl, rfl, t.sq, t'.sq, by rw [← r.length, ← r'.length]; exact hz, fun h => ?_, fun h1 h => ?_, fun h1 h2 q nq => fin_tup rel p (r.append r') nq⟩)
      · subst h
        refine fin0 rel p ⟨b, ws, rfl, t', ?_⟩
        have := r.append r'
        exact this
      · subst h
        refine fin0 rel p ⟨a, vs, rfl, t, ?_⟩
        have := r.append r'
        rw [List.append_nil] at this
        exact this
    · cases ez
  · split at ez
    · cases ez
      rename_i hz
      obtain ⟨a, vs, rfl, t, n, r⟩ := rx
      obtain ⟨b, ws, rfl, t', n', r'⟩ := ry
      exact .inr (.inl ⟨a, b, vs, ws, rfl, rfl, t, t', by rw [← r.length, ← r'.length]; exact hz, fun q nq => fin_own rel p (r.append r') nq⟩)
    · cases ez
theorem add_or : OpR X (binaryOp .Add) (rAdd4 X.K) := (op_add.or op_add_str).or (op_cat.or op_catA)
theorem sub_ok : OpOk X (rI0 fun i j => .int (i - j)) subS := by
  intro W U L lent σ H e Q x y z v w rel rx ry ez p
  cases x <;> cases y <;> simp only [subS, reduceCtorEq] at ez
  cases ez; cases rx; cases ry
  exact ⟨_, _, rfl, rfl, fin0 rel p rfl⟩
abbrev rMul3 (K : PySem.W.Frag) : R2 := fun x y H Q => (rI CMulW (fun i j => .int (i * j)) x y H Q ∨ rRep x y H Q) ∨ rRepT K x y H Q
theorem rpl_flat {G : Tx} {L : AS} {H : Hp} {xs : List D} {vs : List V} (r : RpL G L H xs vs) : ∀ n : Nat, RpL G L H (List.replicate n xs).flatten (List.replicate n vs).flatten
  | 0 => RpL.nil
  | n + 1 => by
    rw [List.replicate_succ, List.replicate_succ, List.flatten_cons, List.flatten_cons]
    exact r.append (rpl_flat r n)
theorem sz_big : (1000000 : Nat) ≤ sizeLine := by rw [sizeLine_eq]; decide
theorem mul_ok : OpOk X (rMul3 X.K) mulS := by
  intro W U L lent σ H e Q x y z v w rel rx ry ez p
  cases x <;> cases y <;> simp only [mulS, reduceCtorEq] at ez
  · split at ez
    · cases ez; cases rx; cases ry
      exact .inl (.inl ⟨_, _, rfl, rfl, by assumption, fin0 rel p rfl⟩)
    · cases ez
  · split at ez
    · cases ez; cases ry
      rename_i hz
      obtain ⟨a, vs, rfl, t, r⟩ := rx
      refine .inr ⟨a, _, vs, rfl, rfl, t.sq, fun q => hz.2.2.1 (by subst q; cases r' : (‹List D›) with | nil => rfl | cons d ds => rw [r'] at r; obtain ⟨_, _, e, _⟩ := r; cases e), hz.1, hz.2.1, by rw [← r.length]; exact hz.2.2.2, fun q nq => fin_tup rel p (rpl_flat r _) nq⟩
    · cases ez
  · split at ez
    · cases ez; cases ry
      rename_i hz
      obtain ⟨a, vs, rfl, t, n, r⟩ := rx
      refine .inl (.inr ⟨a, _, vs, rfl, rfl, t, by omega, by omega, ?_, fun q nq => fin_own rel p (rpl_flat r _) nq⟩)
      rw [← r.length]
      have h1 : List.length (‹List D›) ≤ 1000 := hz.2.2
      have h2 : (‹Int›).toNat ≤ 1000 := by omega
      exact Nat.le_trans (Nat.mul_le_mul h1 h2) sz_big
    · cases ez
theorem mul_or : OpR X (binaryOp .Mult) (rMul3 X.K) := (op_mulW.or op_rep).or op_repT
theorem fdiv_ok : OpOk X (rI CDivN fun i j => .int (i.fdiv j)) fdivS := by
  intro W U L lent σ H e Q x y z v w rel rx ry ez p
  cases x <;> cases y <;> simp only [fdivS, reduceCtorEq] at ez
  split at ez
  · cases ez; cases rx; cases ry
    exact ⟨_, _, rfl, rfl, by assumption, fin0 rel p rfl⟩
  · cases ez
theorem mod_ok : OpOk X (rI (fun _ j => j ≠ 0) fun i j => .int (i.fmod j)) modS := by
  intro W U L lent σ H e Q x y z v w rel rx ry ez p
  cases x <;> cases y <;> simp only [modS, reduceCtorEq] at ez
  split at ez
  · cases ez; cases rx; cases ry
    exact ⟨_, _, rfl, rfl, by assumption, fin0 rel p rfl⟩
  · cases ez
theorem pow_ok : OpOk X (rI CPow fun i j => .int (i ^ j.toNat)) powS := by
  intro W U L lent σ H e Q x y z v w rel rx ry ez p
  cases x <;> cases y <;> simp only [powS, reduceCtorEq] at ez
  split at ez
  · cases ez; cases rx; cases ry
    exact ⟨_, _, rfl, rfl, by assumption, fin0 rel p rfl⟩
  · cases ez
/-- a binary operation -/
theorem pe_bop {W : WX} {a b : Expr} {pos : Pos} {fa fb : Env → Res D} (o : Bop) (ha : PE X a (rP X W fa)) (hb : PE X b (rP X W fb)) :
    PE X (.BinOp a o.op b pos) (rE X W fun e => (fa e).bind fun x e1 => (fb e1).bind fun y e2 => lift (bopS o x y) e2) := by
  cases o with
  | add => exact pe_bin add_or add_ok ha hb
  | sub => exact pe_bin op_sub sub_ok ha hb
  | mul => exact pe_bin mul_or mul_ok ha hb
  | fdiv => exact pe_bin op_fdivN fdiv_ok ha hb
  | mod => exact pe_bin op_modN mod_ok ha hb
  | pow => exact pe_bin op_pow pow_ok ha hb
def negS : D → Option Val
  | .int i => some (.p (.int (-i)))
  | _ => none
theorem pe_neg {W : WX} {a : Expr} {pos : Pos} {fa : Env → Res D} (ha : PE X a (rP X W fa)) : PE X (.UnaryOp .USub a pos) (rE X W fun e => (fa e).bind fun x e1 => lift (negS x) e1) := by
  refine pe_imp (pe_un un_neg ha) ?_
  rintro σ H Q ⟨U, L, lent, e, rel, p⟩
  refine rd_of rel p fun v L1 H1 x e1 s1 rel1 rx p1 => ?_
  obtain ⟨z, ez, p2⟩ := p1.lift
  cases x <;> simp only [negS, reduceCtorEq] at ez
  cases ez; cases rx
  exact ⟨_, rfl, fin0 rel1 p2 rfl⟩
end

/-! ### comparisons -/
inductive Cop where
  | lt | le | gt | ge | eq | ne | isN | notN | isin | notin
  deriving DecidableEq
def Cop.op : Cop → CmpOp
  | .lt => .Lt | .le => .LtE | .gt => .Gt | .ge => .GtE | .eq => .Eq | .ne => .NotEq | .isN => .Is | .notN => .IsNot | .isin => .In | .notin => .NotIn
/-- == of scalars, told at once; of other data by the library's equality -/
def eqS : D → D → Option Bool
  | .int i, .int j => some (decide (i = j))
  | .str a, .str b => some (decide (a = b))
  | .bl a, .bl b => some (decide (a = b))
  | .non, .non => some true
  | .non, .int _ => some false | .int _, .non => some false | .non, .bl _ => some false | .bl _, .non => some false | .non, .str _ => some false | .str _, .non => some false
  | .int _, .str _ => some false | .str _, .int _ => some false | .bl _, .str _ => some false | .str _, .bl _ => some false
  | x, y => match x.py, y.py with
    | some a, some b => if SeqAt.shaped a = true ∧ SeqAt.shaped b = true then some (PyData.eqv a b) else none
    | _, _ => none
def flatD : D → Bool
  | .non => true | .bl _ => true | .int _ => true | .str _ => true | _ => false
/-- == of flat data -/
def eqF : D → D → Bool
  | .non, .non => true
  | .bl a, .bl b => a == b
  | .bl a, .int b => (if a then 1 else 0) == b
  | .int a, .bl b => a == (if b then 1 else 0)
  | .int a, .int b => a == b
  | .str a, .str b => a == b
  | _, _ => false
/-- x in a sequence of the items ys (t: a tuple) -/
def inSq (t : Bool) (x : D) (ys : List D) : Option Bool :=
  if flatD x = true ∧ ys.all flatD = true then some (ys.any fun y => eqF y x) else
    match x.py, D.pys ys with
    | some a, some bs => if SeqAt.shaped a = true ∧ SeqAt.shaped (if t then .tuple bs else .list bs) = true then some (bs.any fun z => PyData.eqv z a) else none
    | _, _ => none
def keyOf : D → Option Key
  | .int i => some (Sum.inl i)
  | .str x => some (Sum.inr x)
  | _ => none
def valD : List Key → List D → Key → Option D
  | k :: ks, d :: ds, q => if k = q then some d else valD ks ds q
  | _, _, _ => none
def inS : D → D → Option Bool
  | .str a, .str b => some (!(Builtin.Str.occurrences b a 0 b.length 1).isEmpty)
  | x, .lst ys => inSq false x ys
  | x, .tup ys => inSq true x ys
  | x, .dic ks ds => (keyOf x).map fun k => (valD ks ds k).isSome
  | _, _ => none
def isNS : D → Option Bool
  | .glob _ => none
  | .non => some true
  | _ => some false
def copS : Cop → D → D → Option Bool
  | .lt, .int i, .int j => some (decide (i < j))
  | .le, .int i, .int j => some (decide (i ≤ j))
  | .gt, .int i, .int j => some (decide (j < i))
  | .ge, .int i, .int j => some (decide (j ≤ i))
  | .eq, x, y => eqS x y
  | .ne, x, y => (eqS x y).map (!·)
  | .isN, x, .non => isNS x
  | .notN, x, .non => (isNS x).map (!·)
  | .isN, .bl a, .bl b => some (decide (a = b))
  | .notN, .bl a, .bl b => some (!decide (a = b))
  | .isin, x, y => inS x y
  | .notin, x, y => (inS x y).map (!·)
  | _, _, _ => none
end M

set_option Elab.async false
set_option linter.all false
set_option maxRecDepth 100000
set_option maxHeartbeats 2000000
/-! M4: comparisons, tests. -/
namespace M
open PySem PySem.Spec PyProof.Rows L2

section
variable {X : Cx}
/-- a comparison on values that keeps a semantics -/
def CopOk (X : Cx) (r : R2) (f : D → D → Option Bool) : Prop :=
  ∀ (L : AS) (H : Hp) (Q : VK) (x y : D) (z : Bool) (v w : V), Rp (tx X) L H x v → Rp (tx X) L H y w → f x y = some z → Q (.bl z) H → r v w H Q
theorem CopOk.or1 {r r' : R2} {f : D → D → Option Bool} (h : CopOk X r f) : CopOk X (fun x y H Q => r x y H Q ∨ r' x y H Q) f := fun L H Q x y z v w a b c d => .inl (h L H Q x y z v w a b c d)
/-! ### ints -/
theorem int_lt : CopOk X (rI0 fun i j => .bl (decide (i < j))) (copS .lt) := by
  intro L H Q x y z v w rx ry ez q
  cases x <;> cases y <;> simp only [copS, reduceCtorEq] at ez
  cases ez; cases rx; cases ry
  exact ⟨_, _, rfl, rfl, q⟩
theorem int_le : CopOk X (rI0 fun i j => .bl (decide (i ≤ j))) (copS .le) := by
  intro L H Q x y z v w rx ry ez q
  cases x <;> cases y <;> simp only [copS, reduceCtorEq] at ez
  cases ez; cases rx; cases ry
  exact ⟨_, _, rfl, rfl, q⟩
theorem int_gt : CopOk X (rI0 fun i j => .bl (decide (j < i))) (copS .gt) := by
  intro L H Q x y z v w rx ry ez q
  cases x <;> cases y <;> simp only [copS, reduceCtorEq] at ez
  cases ez; cases rx; cases ry
  exact ⟨_, _, rfl, rfl, q⟩
theorem int_ge : CopOk X (rI0 fun i j => .bl (decide (j ≤ i))) (copS .ge) := by
  intro L H Q x y z v w rx ry ez q
  cases x <;> cases y <;> simp only [copS, reduceCtorEq] at ez
  cases ez; cases rx; cases ry
  exact ⟨_, _, rfl, rfl, q⟩
/-! ### == -/
/-- scalars by the table, other data by the library -/
theorem eqS_cases {x y : D} {z : Bool} {v w : V} {L : AS} {H : Hp} (rx : Rp (tx X) L H x v) (ry : Rp (tx X) L H y w) (ez : eqS x y = some z) :
    (scal v w = true ∧ z = decide (v = w)) ∨ ∃ a b, Dp X.K H v a ∧ Dp X.K H w b ∧ SeqAt.shaped a = true ∧ SeqAt.shaped b = true ∧ z = PyData.eqv a b := by
  have gen : ∀ {x y : D} {v w : V}, Rp (tx X) L H x v → Rp (tx X) L H y w → (match x.py, y.py with
      | some a, some b => if SeqAt.shaped a = true ∧ SeqAt.shaped b = true then some (PyData.eqv a b) else none
      | _, _ => none) = some z → ∃ a b, Dp X.K H v a ∧ Dp X.K H w b ∧ SeqAt.shaped a = true ∧ SeqAt.shaped b = true ∧ z = PyData.eqv a b := by
    intro x y v w rx ry e
    split at e
    · rename_i a b ea eb
      split at e
      · rename_i hs
        cases e
        exact ⟨a, b, dp_of x v a ea rx, dp_of y w b eb ry, hs.1, hs.2, rfl⟩
      · cases e
    · cases e
  unfold eqS at ez
  split at ez
  all_goals first
    | exact .inr (gen rx ry ez)
    | (cases ez; cases rx; cases ry; refine .inl ⟨rfl, ?_⟩; simp)
theorem eq_ok (hu : X.A.units + 64 < cLine) : CopOk X (fun x y H Q => rEq x y H Q ∨ rEqD X.K x y H Q) (copS .eq) := by
  intro L H Q x y z v w rx ry ez q
  have ez : eqS x y = some z := by cases x <;> cases y <;> simpa only [copS] using ez
  rcases eqS_cases rx ry ez with ⟨h1, h2⟩ | ⟨a, b, h1, h2, h3, h4, h5⟩
  · exact .inl ⟨h1, by rw [← h2]; exact q⟩
  · exact .inr ⟨a, b, h1, h2, h3, h4, by rw [← h5]; exact q⟩
theorem ne_ok (hu : X.A.units + 64 < cLine) : CopOk X (fun x y H Q => rNe x y H Q ∨ rNeD X.K x y H Q) (copS .ne) := by
  intro L H Q x y z v w rx ry ez q
  have ez : (eqS x y).map (!·) = some z := by cases x <;> cases y <;> simpa only [copS] using ez
  obtain ⟨z', ez', e2⟩ := Option.map_eq_some_iff.mp ez
  rcases eqS_cases rx ry ez' with ⟨h1, h2⟩ | ⟨a, b, h1, h2, h3, h4, h5⟩
  · exact .inl ⟨h1, by rw [← h2, e2]; exact q⟩
  · exact .inr ⟨a, b, h1, h2, h3, h4, by rw [← h5, e2]; exact q⟩
/-! ### is None -/
theorem non_iff {x : D} {v : V} {L : AS} {H : Hp} (rx : Rp (tx X) L H x v) (hg : ∀ n, x ≠ .glob n) : decide (v = .non) = (match x with | .non => true | _ => false) := by
  cases x with
  | non => cases rx; simp
  | bl b => cases rx; simp
  | int i => cases rx; simp
  | str s => cases rx; simp
  | ty n => cases rx; simp
  | tup xs => obtain ⟨a, vs, rfl, _⟩ := rx; simp
  | lst xs => obtain ⟨a, vs, rfl, _⟩ := rx; simp
  | fl xs => obtain ⟨a, vs, rfl, _⟩ := rx; simp
  | dic ks ds => obtain ⟨a, vs, rfl, _⟩ := rx; simp
  | dicL ks ds => obtain ⟨a, o, vs, rfl, _⟩ := rx; simp
  | obj c ns ds => obtain ⟨a, C, dx, fs, rfl, _⟩ := rx; simp
  | glob n => exact absurd rfl (hg n)
theorem isN_ok : CopOk X (fun x y H Q => (y = .non ∧ Q (.bl (decide (x = .non))) H) ∨ rIsB x y H Q) (copS .isN) := by
  intro L H Q x y z v w rx ry ez q
  cases y with
  | non =>
    have ez : isNS x = some z := by cases x <;> simpa only [copS] using ez
    cases ry
    refine .inl ⟨rfl, ?_⟩
    rw [non_iff rx (by intro n h; subst h; cases ez)]
    cases x <;> simp only [isNS, Option.some.injEq, reduceCtorEq] at ez <;> (subst ez; exact q)
  | bl b =>
    cases x <;> simp only [copS, Option.some.injEq, reduceCtorEq] at ez
    cases rx; cases ry; subst ez
    exact .inr ⟨_, _, rfl, rfl, q⟩
  | _ => cases x <;> simp only [copS, reduceCtorEq] at ez
theorem notN_ok : CopOk X (fun x y H Q => (y = .non ∧ Q (.bl (!decide (x = .non))) H) ∨ rNotB x y H Q) (copS .notN) := by
  intro L H Q x y z v w rx ry ez q
  cases y with
  | non =>
    have ez : (isNS x).map (!·) = some z := by cases x <;> simpa only [copS] using ez
    cases ry
    refine .inl ⟨rfl, ?_⟩
    rw [non_iff rx (by intro n h; subst h; cases ez)]
    cases x <;> simp only [isNS, Option.map_some, Option.map_none, Option.some.injEq, reduceCtorEq] at ez <;> (subst ez; exact q)
  | bl b =>
    cases x <;> simp only [copS, Option.some.injEq, reduceCtorEq] at ez
    cases rx; cases ry; subst ez
    exact .inr ⟨_, _, rfl, rfl, q⟩
  | _ => cases x <;> simp only [copS, reduceCtorEq] at ez
/-! ### in -/
def rInTD (K : PySem.W.Frag) : R2 := fun x y H Q => ∃ d ds, Dp K H x d ∧ Dp K H y (.tuple ds) ∧ SeqAt.shaped d = true ∧ SeqAt.shaped (.tuple ds) = true ∧ Q (.bl (ds.any fun z => PyData.eqv z d)) H
def rNotInTD (K : PySem.W.Frag) : R2 := fun x y H Q => ∃ d ds, Dp K H x d ∧ Dp K H y (.tuple ds) ∧ SeqAt.shaped d = true ∧ SeqAt.shaped (.tuple ds) = true ∧ Q (.bl (!ds.any fun z => PyData.eqv z d)) H
theorem op_inTD (hu : X.A.units + 65 < cLine) : OpR X (compareOp .In) (rInTD X.K) := by
  intro pins s σ H x y v u Q I rx ry h
  obtain ⟨d, ds, hd, he, sd, se, q⟩ := h
  obtain ⟨as, r1⟩ := Dp.reads I d x v hd rx
  obtain ⟨bs, r2⟩ := Dp.reads I (.tuple ds) y u he ry
  exact SeqAt.in_tuple_reads r2 r1 (SeqAt.canLay_of_shaped se) (SeqAt.canLay_of_shaped sd) (PyProof.Rows.room_in_shaped sd hu) ⟨.bl _, H, I, rfl, q⟩
theorem op_notInTD (hu : X.A.units + 65 < cLine) : OpR X (compareOp .NotIn) (rNotInTD X.K) := by
  intro pins s σ H x y v u Q I rx ry h
  obtain ⟨d, ds, hd, he, sd, se, q⟩ := h
  obtain ⟨as, r1⟩ := Dp.reads I d x v hd rx
  obtain ⟨bs, r2⟩ := Dp.reads I (.tuple ds) y u he ry
  exact SeqAt.notIn_tuple_reads r2 r1 (SeqAt.canLay_of_shaped se) (SeqAt.canLay_of_shaped sd) (PyProof.Rows.room_in_shaped sd hu) ⟨.bl _, H, I, rfl, q⟩
def rInDic (neg : Bool) : R2 := fun x y H Q => ∃ a o, y = .ref a ∧ DGet H a x o ∧ Q (.bl (if neg then !o.isSome else o.isSome)) H
theorem op_inDic (hu : X.A.units + 1 < cLine) : OpR X (compareOp .In) (rInDic false) := by
  intro pins s σ H x y v u Q I rx ry h
  obtain ⟨a, o, rfl, g, q⟩ := h
  cases ry
  exact d_in hu I g rx fun s3 I3 => ⟨.bl o.isSome, H, I3, rfl, q⟩
theorem op_notInDic (hu : X.A.units + 1 < cLine) : OpR X (compareOp .NotIn) (rInDic true) := by
  intro pins s σ H x y v u Q I rx ry h
  obtain ⟨a, o, rfl, g, q⟩ := h
  cases ry
  exact d_notIn hu I g rx fun s3 I3 => ⟨.bl (!o.isSome), H, I3, rfl, q⟩
theorem flat_rp {x : D} {v : V} {L : AS} {H : Hp} (f : flatD x = true) (rx : Rp (tx X) L H x v) : flatV v = true := by
  cases x <;> first | (cases rx; rfl) | cases f
theorem flat_rpl {L : AS} {H : Hp} : ∀ {xs : List D} {vs : List V}, xs.all flatD = true → RpL (tx X) L H xs vs → vs.all flatV = true
  | [], _, _, h => by cases h; rfl
  | d :: ds, _, f, ⟨v, vs', e, h, t⟩ => by
    subst e
    rw [List.all_cons, Bool.and_eq_true] at f ⊢
    exact ⟨flat_rp f.1 h, flat_rpl f.2 t⟩
theorem eqF_rp {x y : D} {v w : V} {L : AS} {H : Hp} (fx : flatD x = true) (fy : flatD y = true) (rx : Rp (tx X) L H x v) (ry : Rp (tx X) L H y w) : eqV v w = eqF x y := by
  cases x <;> simp only [flatD, Bool.false_eq_true] at fx <;> cases rx <;> cases y <;> simp only [flatD, Bool.false_eq_true] at fy <;> cases ry <;> rfl
theorem anyF_rp {x : D} {v : V} {L : AS} {H : Hp} (fx : flatD x = true) (rx : Rp (tx X) L H x v) : ∀ {ys : List D} {ws : List V}, ys.all flatD = true → RpL (tx X) L H ys ws → inV v ws = ys.any fun y => eqF y x
  | [], _, _, h => by cases h; rfl
  | d :: ds, _, f, ⟨w, ws', e, h, t⟩ => by
    subst e
    rw [List.all_cons, Bool.and_eq_true] at f
    show (eqV w v || inV v ws') = _
    rw [List.any_cons, eqF_rp f.1 fx h rx, anyF_rp fx rx f.2 t]
theorem val_rp {L : AS} {H : Hp} {k : Key} : ∀ {ks : List Key} {ds : List D} {kvs : List (Key × V)}, kvs.map (·.1) = ks → RpL (tx X) L H ds (kvs.map (·.2)) →
    match valD ks ds k with
    | some d => ∃ v, valV kvs k = some v ∧ Rp (tx X) L H d v
    | none => valV kvs k = none
  | [], _, [], _, _ => by simp only [valD]; exact valV_nil
  | q :: ks, [], p :: r, e, h => by
    have := h.length
    simp at this
  | q :: ks, d :: ds, p :: r, e, ⟨v, vs', e2, h, t⟩ => by
    simp only [List.map_cons, List.cons.injEq] at e e2
    obtain ⟨e, er⟩ := e
    obtain ⟨e2, e3⟩ := e2
    subst e er
    rw [← e3] at t
    simp only [valD]
    by_cases c : p.1 = k
    · rw [if_pos c]
      exact ⟨p.2, valV_pos c, by rw [e2]; exact h⟩
    · rw [if_neg c]
      have ih := val_rp (k := k) rfl t
      rw [valV_neg c]
      exact ih
theorem val_some {L : AS} {H : Hp} {k : Key} {ks : List Key} {ds : List D} {kvs : List (Key × V)} (e : kvs.map (·.1) = ks) (h : RpL (tx X) L H ds (kvs.map (·.2))) : (valV kvs k).isSome = (valD ks ds k).isSome := by
  have := val_rp (k := k) e h
  cases q : valD ks ds k with
  | none => rw [q] at this; rw [this]; rfl
  | some d => rw [q] at this; obtain ⟨v, h1, _⟩ := this; rw [h1]; rfl
theorem key_rp {x : D} {v : V} {L : AS} {H : Hp} {k : Key} (e : keyOf x = some k) (rx : Rp (tx X) L H x v) : v = kV k := by
  cases x <;> simp only [keyOf, Option.some.injEq, reduceCtorEq] at e <;> (subst e; exact rx)
abbrev rIn5 (K : PySem.W.Frag) : R2 := fun x y H Q => ((∃ i j, x = .str i ∧ y = .str j ∧ Q (.bl (!(Builtin.Str.occurrences j i 0 j.length 1).isEmpty)) H) ∨ rIn K false x y H Q) ∨ (rInD K x y H Q ∨ rInTD K x y H Q) ∨ rInDic false x y H Q
abbrev rNi5 (K : PySem.W.Frag) : R2 := fun x y H Q => ((∃ i j, x = .str i ∧ y = .str j ∧ Q (.bl (!(!(Builtin.Str.occurrences j i 0 j.length 1).isEmpty))) H) ∨ rIn K true x y H Q) ∨ (rNotInD K x y H Q ∨ rNotInTD K x y H Q) ∨ rInDic true x y H Q
theorem inSq_ok {t : Bool} {x : D} {ys : List D} {z : Bool} {v : V} {ws : List V} {L : AS} {H : Hp} (rx : Rp (tx X) L H x v) (ry : RpL (tx X) L H ys ws) (ez : inSq t x ys = some z) :
    (flatV v = true ∧ ws.all flatV = true ∧ z = inV v ws) ∨ ∃ d ds, Dp X.K H v d ∧ DpAll X.K H ws ds ∧ SeqAt.shaped d = true ∧ SeqAt.shaped (if t then .tuple ds else .list ds) = true ∧ z = ds.any fun z => PyData.eqv z d := by
  unfold inSq at ez
  split at ez
  · rename_i hf
    cases ez
    exact .inl ⟨flat_rp hf.1 rx, flat_rpl hf.2 ry, (anyF_rp hf.1 rx hf.2 ry).symm⟩
  · split at ez
    · rename_i d ds e1 e2
      by_cases hs : SeqAt.shaped d = true ∧ SeqAt.shaped (if t then .tuple ds else .list ds) = true
      · rw [if_pos hs] at ez
        exact .inr ⟨d, ds, dp_of x v d e1 rx, dpAll_of ys ws ds e2 ry, hs.1, hs.2, (Option.some.inj ez).symm⟩
      · rw [if_neg hs] at ez
        cases ez
    · cases ez
theorem in_cases {x y : D} {z : Bool} {v w : V} {L : AS} {H : Hp} (rx : Rp (tx X) L H x v) (ry : Rp (tx X) L H y w) (ez : inS x y = some z) :
    (∃ i j, v = .str i ∧ w = .str j ∧ z = !(Builtin.Str.occurrences j i 0 j.length 1).isEmpty) ∨
    (∃ a ws, w = .ref a ∧ (SqL X.K H a ws ∨ SqT X.K H a ws) ∧ flatV v = true ∧ ws.all flatV = true ∧ z = inV v ws) ∨
    (∃ d ds, Dp X.K H v d ∧ Dp X.K H w (.list ds) ∧ SeqAt.shaped d = true ∧ SeqAt.shaped (.list ds) = true ∧ z = ds.any fun z => PyData.eqv z d) ∨
    (∃ d ds, Dp X.K H v d ∧ Dp X.K H w (.tuple ds) ∧ SeqAt.shaped d = true ∧ SeqAt.shaped (.tuple ds) = true ∧ z = ds.any fun z => PyData.eqv z d) ∨
    ∃ a o, w = .ref a ∧ DGet H a v o ∧ z = o.isSome := by
  cases y with
  | str b =>
    cases x <;> simp only [inS, reduceCtorEq] at ez
    cases ez; cases rx; cases ry
    exact .inl ⟨_, _, rfl, rfl, rfl⟩
  | lst ys =>
    have ez : inSq false x ys = some z := by cases x <;> simpa only [inS] using ez
    obtain ⟨a, ws, rfl, t, n, r⟩ := ry
    rcases inSq_ok rx r ez with ⟨h1, h2, h3⟩ | ⟨d, ds, h1, h2, h3, h4, h5⟩
    · exact .inr (.inl ⟨a, ws, rfl, .inl (.of t), h1, h2, h3⟩)
    · exact .inr (.inr (.inl ⟨d, ds, h1, .lst (.of t) h2, h3, h4, h5⟩))
  | tup ys =>
    have ez : inSq true x ys = some z := by cases x <;> simpa only [inS] using ez
    obtain ⟨a, ws, rfl, t, r⟩ := ry
    rcases inSq_ok rx r ez with ⟨h1, h2, h3⟩ | ⟨d, ds, h1, h2, h3, h4, h5⟩
    · exact .inr (.inl ⟨a, ws, rfl, .inr t.sq, h1, h2, h3⟩)
    · exact .inr (.inr (.inr (.inl ⟨d, ds, h1, .tup t.sq h2, h3, h4, h5⟩)))
  | dic ks ds =>
    have ez : (keyOf x).map (fun k => (valD ks ds k).isSome) = some z := by cases x <;> simpa only [inS] using ez
    obtain ⟨k, e1, e2⟩ := Option.map_eq_some_iff.mp ez
    obtain ⟨a, kvs, rfl, t, n, m, r⟩ := ry
    refine .inr (.inr (.inr (.inr ⟨a, valV kvs k, rfl, ?_, ?_⟩)))
    · rw [key_rp e1 rx]; exact .k t
    · rw [val_some m r, e2]
  | _ => cases x <;> simp only [inS, reduceCtorEq] at ez
theorem in_ok : CopOk X (rIn5 X.K) inS := by
  intro L H Q x y z v w rx ry ez q
  rcases in_cases rx ry ez with ⟨i, j, h1, h2, h3⟩ | ⟨a, ws, h1, h2, h3, h4, h5⟩ | ⟨d, ds, h1, h2, h3, h4, h5⟩ | ⟨d, ds, h1, h2, h3, h4, h5⟩ | ⟨a, o, h1, h2, h3⟩
  · exact .inl (.inl ⟨i, j, h1, h2, by rw [← h3]; exact q⟩)
  · exact .inl (.inr ⟨a, ws, h1, h2, h3, h4, by rw [h5] at q; exact q⟩)
  · exact .inr (.inl (.inl ⟨d, ds, h1, h2, h3, h4, by rw [← h5]; exact q⟩))
  · exact .inr (.inl (.inr ⟨d, ds, h1, h2, h3, h4, by rw [← h5]; exact q⟩))
  · exact .inr (.inr ⟨a, o, h1, h2, by rw [h3] at q; exact q⟩)
theorem notIn_ok : CopOk X (rNi5 X.K) (fun x y => (inS x y).map (!·)) := by
  intro L H Q x y z v w rx ry ez q
  obtain ⟨z', ez', e9⟩ := Option.map_eq_some_iff.mp ez
  subst e9
  rcases in_cases rx ry ez' with ⟨i, j, h1, h2, h3⟩ | ⟨a, ws, h1, h2, h3, h4, h5⟩ | ⟨d, ds, h1, h2, h3, h4, h5⟩ | ⟨d, ds, h1, h2, h3, h4, h5⟩ | ⟨a, o, h1, h2, h3⟩
  · exact .inl (.inl ⟨i, j, h1, h2, by rw [← h3]; exact q⟩)
  · exact .inl (.inr ⟨a, ws, h1, h2, h3, h4, by rw [h5] at q; exact q⟩)
  · exact .inr (.inl (.inl ⟨d, ds, h1, h2, h3, h4, by rw [← h5]; exact q⟩))
  · exact .inr (.inl (.inr ⟨d, ds, h1, h2, h3, h4, by rw [← h5]; exact q⟩))
  · exact .inr (.inr ⟨a, o, h1, h2, by rw [h3] at q; exact q⟩)
theorem op_in5 (hu : X.A.units + 65 < cLine) : OpR X (compareOp .In) (rIn5 X.K) := (op_in_str.or op_in_seq).or (((op_inD hu).or (op_inTD hu)).or (op_inDic (by omega)))
theorem op_ni5 (hu : X.A.units + 65 < cLine) : OpR X (compareOp .NotIn) (rNi5 X.K) := (op_notIn_str.or op_notIn_seq).or (((op_notInD hu).or (op_notInTD hu)).or (op_notInDic (by omega)))
theorem cop_all (hu : X.A.units + 65 < cLine) (o : Cop) : ∃ r, OpR X (compareOp o.op) r ∧ CopOk X r (copS o) := by
  cases o with
  | lt => exact ⟨_, op_lt, int_lt⟩
  | le => exact ⟨_, op_le, int_le⟩
  | gt => exact ⟨_, op_gt, int_gt⟩
  | ge => exact ⟨_, op_ge, int_ge⟩
  | eq => exact ⟨_, op_eq.or (op_eqD (by omega)), eq_ok (by omega)⟩
  | ne => exact ⟨_, op_ne.or (op_neD (by omega)), ne_ok (by omega)⟩
  | isN => exact ⟨_, op_isN.or op_isBl, isN_ok⟩
  | notN => exact ⟨_, op_notN.or op_notBl, notN_ok⟩
  | isin => exact ⟨_, op_in5 hu, fun L H Q x y z v w a b c d => in_ok L H Q x y z v w a b (by cases x <;> cases y <;> simpa only [copS] using c) d⟩
  | notin => exact ⟨_, op_ni5 hu, fun L H Q x y z v w a b c d => notIn_ok L H Q x y z v w a b (by cases x <;> cases y <;> simpa only [copS] using c) d⟩
def bv (b : Bool) : Val := .p (.bl b)
/-- a comparison -/
theorem pe_cop {W : WX} {a b : Expr} {pos : Pos} {fa fb : Env → Res D} (hu : X.A.units + 65 < cLine) (o : Cop) (ha : PE X a (rP X W fa)) (hb : PE X b (rP X W fb)) (hm : behindInMarks o.op b = false) :
    PE X (.Compare a [o.op] [b] pos) (rE X W fun e => (fa e).bind fun x e1 => (fb e1).bind fun y e2 => (lift (copS o x y) e2).bind fun z e3 => .ok (bv z) e3) := by
  obtain ⟨r, ho, hk⟩ := cop_all hu o
  refine pe_imp (pe_cmpR ho ha hb hm) ?_
  rintro σ H Q ⟨U, L, lent, e, rel, p⟩
  refine rd_of rel p fun v L1 H1 x e1 s1 rel1 rx p1 => rd_of rel1 p1 fun w L2 H2 y e2 s2 rel2 ry p2 => ?_
  cases ez : copS o x y with
  | none => rw [ez] at p2; exact p2.elim
  | some z =>
    rw [ez] at p2
    exact hk L2 H2 Q x y z v w (Rp.step s2 rx) ry ez (fin0 rel2 p2 rfl)
theorem finB {G : Tx} {W : WX} {U L : AS} {lent : Nat → Addr} {σ : SL} {H : Hp} {e : Env} {Q : Bool → Hp → Prop} {z : Bool} (rel : Rel G U L lent σ H e) (p : Post G W U L lent σ H RB Q (.ok z e)) : Q z H :=
  p z L H (Step.refl rel.sub) rel rfl
theorem pt_cop {W : WX} {a b : Expr} {pos : Pos} {fa fb : Env → Res D} (hu : X.A.units + 65 < cLine) (o : Cop) (ha : PE X a (rP X W fa)) (hb : PE X b (rP X W fb)) (hm : behindInMarks o.op b = false) :
    PT X (.Compare a [o.op] [b] pos) (rT X W fun e => (fa e).bind fun x e1 => (fb e1).bind fun y e2 => lift (copS o x y) e2) := by
  obtain ⟨r, ho, hk⟩ := cop_all hu o
  refine pt_imp (pt_cmpR ho ha hb hm) ?_
  rintro σ H Q ⟨U, L, lent, e, rel, p⟩
  show rP X W fa σ H _
  refine rd_of rel p fun v L1 H1 x e1 s1 rel1 rx p1 => rd_of rel1 p1 fun w L2 H2 y e2 s2 rel2 ry p2 => ?_
  obtain ⟨z, ez, p3⟩ := p2.lift
  exact hk L2 H2 _ x y z v w (Rp.step s2 rx) ry ez ⟨z, rfl, finB rel2 p3⟩
/-- a op b op' c -/
theorem pe_cop2 {W : WX} {a b c : Expr} {pos : Pos} {fa fb fc : Env → Res D} (hu : X.A.units + 65 < cLine) (o o' : Cop) (ha : PE X a (rP X W fa)) (hb : PE X b (rP X W fb)) (hc : PE X c (rP X W fc)) (hm : lastMarks [o.op, o'.op] [b, c] = false) :
    PE X (.Compare a [o.op, o'.op] [b, c] pos) (rE X W fun e => (fa e).bind fun x e1 => (fb e1).bind fun y e2 => (lift (copS o x y) e2).bind fun z e3 => if z = true then (fc e3).bind fun u e4 => (lift (copS o' y u) e4).bind fun z' e5 => .ok (bv z') e5 else .ok (bv false) e3) := by
  obtain ⟨r, ho, hk⟩ := cop_all hu o
  obtain ⟨r', ho', hk'⟩ := cop_all hu o'
  refine pe_imp (pe_chain ho ho' ha hb hc hm) ?_
  rintro σ H Q ⟨U, L, lent, e, rel, p⟩
  show rP X W fa σ H _
  refine rd_of rel p fun v L1 H1 x e1 s1 rel1 rx p1 => rd_of rel1 p1 fun w L2 H2 y e2 s2 rel2 ry p2 => ?_
  cases ez : copS o x y with
  | none => rw [ez] at p2; exact p2.elim
  | some z =>
    rw [ez] at p2
    refine hk L2 H2 _ x y z v w (Rp.step s2 rx) ry ez ⟨z, rfl, ?_⟩
    cases z with
    | false =>
      rw [if_neg Bool.false_ne_true]
      exact fin0 rel2 p2 rfl
    | true =>
      rw [if_pos rfl]
      refine rd_of rel2 p2 fun u L3 H3 y' e4 s4 rel4 ru p4 => ?_
      cases ez' : copS o' y y' with
      | none => rw [ez'] at p4; exact p4.elim
      | some z' =>
        rw [ez'] at p4
        exact hk' L3 H3 Q y y' z' w u (Rp.step s4 ry) ru ez' (fin0 rel4 p4 rfl)
theorem pt_cop2 {W : WX} {a b c : Expr} {pos : Pos} {fa fb fc : Env → Res D} (hu : X.A.units + 65 < cLine) (o o' : Cop) (ha : PE X a (rP X W fa)) (hb : PE X b (rP X W fb)) (hc : PE X c (rP X W fc)) (hm : lastMarks [o.op, o'.op] [b, c] = false) :
    PT X (.Compare a [o.op, o'.op] [b, c] pos) (rT X W fun e => (fa e).bind fun x e1 => (fb e1).bind fun y e2 => (lift (copS o x y) e2).bind fun z e3 => if z = true then (fc e3).bind fun u e4 => lift (copS o' y u) e4 else .ok false e3) := by
  obtain ⟨r, ho, hk⟩ := cop_all hu o
  obtain ⟨r', ho', hk'⟩ := cop_all hu o'
  refine pt_imp (pt_chain ho ho' ha hb hc hm) ?_
  rintro σ H Q ⟨U, L, lent, e, rel, p⟩
  show rP X W fa σ H _
  refine rd_of rel p fun v L1 H1 x e1 s1 rel1 rx p1 => rd_of rel1 p1 fun w L2 H2 y e2 s2 rel2 ry p2 => ?_
  cases ez : copS o x y with
  | none => rw [ez] at p2; exact p2.elim
  | some z =>
    rw [ez] at p2
    refine hk L2 H2 _ x y z v w (Rp.step s2 rx) ry ez ⟨z, rfl, ?_⟩
    cases z with
    | false =>
      rw [if_neg Bool.false_ne_true]
      exact ⟨false, rfl, finB rel2 p2⟩
    | true =>
      rw [if_pos rfl]
      refine rd_of rel2 p2 fun u L3 H3 y' e4 s4 rel4 ru p4 => ?_
      obtain ⟨z', ez', p5⟩ := p4.lift
      exact hk' L3 H3 _ y y' z' w u (Rp.step s4 ry) ru ez' ⟨z', rfl, finB rel4 p5⟩
/-! ### truth -/
def truS : D → Option Bool
  | .non => some false
  | .bl b => some b
  | .int i => some (i != 0)
  | .str x => if x.length ≤ SZ then some ((x.length : Int) != 0) else none
  | .tup xs => some (!xs.isEmpty)
  | .lst xs => some (!xs.isEmpty)
  | .fl xs => some (!xs.isEmpty)
  | .dic ks _ => some (!ks.isEmpty)
  | _ => none
theorem emp_rpl {G : Tx} {L : AS} {H : Hp} {xs : List D} {vs : List V} (r : RpL G L H xs vs) : (!vs.isEmpty) = !xs.isEmpty := by
  cases xs with
  | nil => cases r; rfl
  | cons d ds => obtain ⟨v, vs', e, _⟩ := r; subst e; rfl
theorem tru_rp {x : D} {z : Bool} {v : V} {L : AS} {H : Hp} (rx : Rp (tx X) L H x v) (ez : truS x = some z) : TruV X.K v H z := by
  cases x with
  | non => cases rx; cases ez; rfl
  | bl b => cases rx; cases ez; rfl
  | int i => cases rx; cases ez; rfl
  | str s =>
    simp only [truS] at ez
    split at ez
    · cases rx; cases ez; exact ⟨by assumption, rfl⟩
    · cases ez
  | tup xs => obtain ⟨a, vs, rfl, t, r⟩ := rx; cases ez; exact .inr (.inl ⟨vs, t.sq, (emp_rpl r).symm⟩)
  | lst xs => obtain ⟨a, vs, rfl, t, n, r⟩ := rx; cases ez; exact .inl ⟨vs, .of t, (emp_rpl r).symm⟩
  | fl xs => obtain ⟨a, vs, rfl, t, r⟩ := rx; cases ez; exact .inl ⟨vs, t.sq, (emp_rpl r).symm⟩
  | dic ks ds =>
    obtain ⟨a, kvs, rfl, t, n, m, r⟩ := rx
    cases ez
    refine .inr (.inr ⟨kvs, t, ?_⟩)
    subst m
    cases kvs <;> rfl
  | dicL ks ds => cases ez
  | obj c ns ds => cases ez
  | glob n => cases ez
  | ty n => cases ez
/-- an expression's truth as a test -/
theorem pt_tru {W : WX} {a : Expr} {fa : Env → Res D} (ha : PE X a (rP X W fa)) (he : ∀ whole, isTrue a X.env whole = (do let v ← whole; standAt a.pos; holding [v] (truthy v))) :
    PT X a (rT X W fun e => (fa e).bind fun x e1 => lift (truS x) e1) := by
  refine pt_imp (pt_truth ha he) ?_
  rintro σ H Q ⟨U, L, lent, e, rel, p⟩
  refine rd_of rel p fun v L1 H1 x e1 s1 rel1 rx p1 => ?_
  obtain ⟨z, ez, p2⟩ := p1.lift
  exact ⟨z, tru_rp rx ez, finB rel1 p2⟩
theorem pt_neg {W : WX} {a : Expr} {pos : Pos} {f : Env → Res Bool} (ha : PT X a (rT X W f)) : PT X (.UnaryOp .Not a pos) (rT X W fun e => (f e).bind fun z e1 => .ok (!z) e1) := by
  refine pt_imp (pt_not ha) ?_
  rintro σ H Q ⟨U, L, lent, e, rel, p⟩
  refine rd_of rel p fun v L1 H1 x e1 s1 rel1 rx p1 => ?_
  cases rx
  exact finB rel1 p1
theorem pw_andM {W : WX} {a b : Expr} {rest : List Expr} {pos : Pos} {f g : Env → Res Bool} (ha : PT X a (rT X W f)) (hb : PW X (.BoolOp .And (b :: rest) pos) (rT X W g)) :
    PW X (.BoolOp .And (a :: b :: rest) pos) (rT X W fun e => (f e).bind fun z e1 => if z = true then g e1 else .ok false e1) := by
  have h := pw_and (pos := pos) ha hb
  refine ⟨fun wh pins s σ H Q I q => h.run wh pins s σ H Q I ?_⟩
  obtain ⟨U, L, lent, e, rel, p⟩ := q
  refine rd_of rel p fun v L1 H1 x e1 s1 rel1 rx p1 => ?_
  cases rx
  cases v with
  | true =>
    rw [if_pos rfl] at p1 ⊢
    exact rd_intro rel1 p1
  | false =>
    rw [if_neg Bool.false_ne_true] at p1 ⊢
    exact finB rel1 p1
theorem pw_orM {W : WX} {a b : Expr} {rest : List Expr} {pos : Pos} {f g : Env → Res Bool} (ha : PT X a (rT X W f)) (hb : PW X (.BoolOp .Or (b :: rest) pos) (rT X W g)) :
    PW X (.BoolOp .Or (a :: b :: rest) pos) (rT X W fun e => (f e).bind fun z e1 => if z = true then .ok true e1 else g e1) := by
  have h := pw_or (pos := pos) ha hb
  refine ⟨fun wh pins s σ H Q I q => h.run wh pins s σ H Q I ?_⟩
  obtain ⟨U, L, lent, e, rel, p⟩ := q
  refine rd_of rel p fun v L1 H1 x e1 s1 rel1 rx p1 => ?_
  cases rx
  cases v with
  | true =>
    rw [if_pos rfl] at p1 ⊢
    exact finB rel1 p1
  | false =>
    rw [if_neg Bool.false_ne_true] at p1 ⊢
    exact rd_intro rel1 p1
/-! ### and, or, not, if as values -/
theorem pe_andM {W : WX} {a b : Expr} {rest : List Expr} {pos : Pos} {f g : Env → Res D} (ha : PE X a (rP X W f)) (hb : PE X (.BoolOp .And (b :: rest) pos) (rP X W g)) :
    PE X (.BoolOp .And (a :: b :: rest) pos) (rP X W fun e => (f e).bind fun x e1 => (lift (truS x) e1).bind fun z e2 => if z = true then g e2 else .ok x e2) := by
  refine pe_imp (pe_andT ha hb) ?_
  rintro σ H Q ⟨U, L, lent, e, rel, p⟩
  refine rd_of rel p fun v L1 H1 x e1 s1 rel1 rx p1 => ?_
  cases ez : truS x with
  | none => rw [ez] at p1; exact p1.elim
  | some z =>
    rw [ez] at p1
    refine ⟨z, tru_rp rx ez, ?_⟩
    cases z with
    | true =>
      rw [if_pos rfl]
      exact rd_intro rel1 p1
    | false =>
      rw [if_neg Bool.false_ne_true]
      exact finD rel1 p1 rx
theorem pe_orM {W : WX} {a b : Expr} {rest : List Expr} {pos : Pos} {f g : Env → Res D} (ha : PE X a (rP X W f)) (hb : PE X (.BoolOp .Or (b :: rest) pos) (rP X W g)) :
    PE X (.BoolOp .Or (a :: b :: rest) pos) (rP X W fun e => (f e).bind fun x e1 => (lift (truS x) e1).bind fun z e2 => if z = true then .ok x e2 else g e2) := by
  refine pe_imp (pe_orT ha hb) ?_
  rintro σ H Q ⟨U, L, lent, e, rel, p⟩
  refine rd_of rel p fun v L1 H1 x e1 s1 rel1 rx p1 => ?_
  cases ez : truS x with
  | none => rw [ez] at p1; exact p1.elim
  | some z =>
    rw [ez] at p1
    refine ⟨z, tru_rp rx ez, ?_⟩
    cases z with
    | true =>
      rw [if_pos rfl]
      exact finD rel1 p1 rx
    | false =>
      rw [if_neg Bool.false_ne_true]
      exact rd_intro rel1 p1
theorem pe_notM {W : WX} {a : Expr} {pos : Pos} {f : Env → Res D} (ha : PE X a (rP X W f)) :
    PE X (.UnaryOp .Not a pos) (rE X W fun e => (f e).bind fun x e1 => (lift (truS x) e1).bind fun z e2 => .ok (bv (!z)) e2) := by
  refine pe_imp (pe_notT ha) ?_
  rintro σ H Q ⟨U, L, lent, e, rel, p⟩
  refine rd_of rel p fun v L1 H1 x e1 s1 rel1 rx p1 => ?_
  cases ez : truS x with
  | none => rw [ez] at p1; exact p1.elim
  | some z =>
    rw [ez] at p1
    exact ⟨z, tru_rp rx ez, fin0 rel1 p1 rfl⟩
theorem pe_iteM {W : WX} {c a b : Expr} {pos : Pos} {t : Env → Res Bool} {f g : Env → Res Val} (hc : PT X c (rT X W t)) (ha : PE X a (rE X W f)) (hb : PE X b (rE X W g)) :
    PE X (.IfExp c a b pos) (rE X W fun e => (t e).bind fun z e1 => if z = true then f e1 else g e1) := by
  refine pe_imp (pe_ifExp hc ha hb) ?_
  rintro σ H Q ⟨U, L, lent, e, rel, p⟩
  refine rd_of rel p fun v L1 H1 x e1 s1 rel1 rx p1 => ?_
  cases rx
  cases v with
  | true =>
    rw [if_pos rfl] at p1 ⊢
    exact rd_intro rel1 p1
  | false =>
    rw [if_neg Bool.false_ne_true] at p1 ⊢
    exact rd_intro rel1 p1
end
end M

set_option Elab.async false
set_option linter.all false
set_option maxRecDepth 100000
set_option maxHeartbeats 2000000
/-! M5: names, constants, argument lists, displays, subscripts, slices. -/
namespace M
open PySem PySem.Spec PyProof.Rows L2

/-! ### names -/
def getv (i : Nat) : Env → Res Val := fun e => match e[i]? with
  | some (some x) => if x.isOwn = true then .ok (.p x.frz) (e.set i (some (.p x.frz))) else .ok x e
  | _ => .fail
def mvv (i : Nat) : Env → Res Val := fun e => match e[i]? with
  | some (some x) => if x.isOwn = true then (if x.tag = 0 then .ok x (e.set i none) else .fail) else .ok x e
  | _ => .fail
section
variable {G : Tx} {U L : AS} {lent : Nat → Addr} {σ : SL} {H : Hp} {e : Env}
theorem own_addr {x : Val} {v : V} (ho : x.isOwn = true) (h : RpV G U L H x v) : ∃ a o, v = .ref a ∧ L a ∧ ¬ U a ∧ H a = some o := by
  cases x with
  | p d => cases ho
  | own t xs => obtain ⟨a, vs, ev, l, u, h, _⟩ := h; exact ⟨a, _, ev, l, u, h⟩
  | od t ks ds => obtain ⟨a, vs, ev, l, u, h, _⟩ := h; exact ⟨a, _, ev, l, u, h⟩
  | oo t c ns ds => obtain ⟨a, C, dx, fs, ev, l, u, _, h, _⟩ := h; exact ⟨a, _, ev, l, u, h⟩
/-- under Keep, and with the own places kept -/
theorem RpV.rmv {x : Val} {v : V} {p : Addr} (h : RpV G U L H x v) (hn : x.isOwn = true → v ≠ .ref p) : RpV G U (M.rmv L p) H x v := by
  cases x with
  | p d => exact Rp.keep keep_rmv d v h
  | own t xs => obtain ⟨a, vs, ev, l, u, h, r⟩ := h; exact ⟨a, vs, ev, ⟨l, fun z => hn rfl (by rw [ev, z])⟩, u, h, RpL.keep keep_rmv _ _ r⟩
  | od t ks ds => obtain ⟨a, vs, ev, l, u, h, m, r⟩ := h; exact ⟨a, vs, ev, ⟨l, fun z => hn rfl (by rw [ev, z])⟩, u, h, m, RpL.keep keep_rmv _ _ r⟩
  | oo t c ns ds => obtain ⟨a, C, dx, fs, ev, l, u, g, h, m, r⟩ := h; exact ⟨a, C, dx, fs, ev, ⟨l, fun z => hn rfl (by rw [ev, z])⟩, u, g, h, m, RpL.keep keep_rmv _ _ r⟩
theorem set_get {e : Env} {i j : Nat} {y : Option Val} {x : Val} (h : (e.set i y)[j]? = some (some x)) : (j = i ∧ y = some x) ∨ (j ≠ i ∧ e[j]? = some (some x)) := by
  by_cases c : i = j
  · subst c
    by_cases hl : i < e.length
    · rw [List.getElem?_set_self hl] at h
      exact .inl ⟨rfl, Option.some.inj h⟩
    · rw [List.getElem?_eq_none (by simpa using hl)] at h; cases h
  · rw [List.getElem?_set_ne c] at h
    exact .inr ⟨fun z => c z.symm, h⟩
/-- an own slot is frozen -/
theorem Rel.freeze {i : Nat} {x : Val} (rel : Rel G U L lent σ H e) (hx : e[i]? = some (some x)) (ho : x.isOwn = true) : ∃ p, σ[i]? = some (some (.ref p)) ∧ ¬ U p ∧ Step U L H (M.rmv L p) H ∧ Rp G (M.rmv L p) H x.frz (.ref p) ∧
    Rel G U (M.rmv L p) lent σ H (e.set i (some (.p x.frz))) := by
  obtain ⟨v, h1, h2⟩ := rel.at_ i x hx
  obtain ⟨p, o, rfl, l, nu, hp⟩ := own_addr ho h2
  obtain ⟨_, _, hr⟩ := frz_rp ho h2
  refine ⟨p, h1, nu, step_rmv rel.sub nu, hr, ⟨fun a u => ⟨rel.sub a u, fun z => nu (z ▸ u)⟩, fun a l => rel.trk a l.1, by rw [List.length_set]; exact rel.len, fun j y hy => ?_, fun j k y z v hjk hy hz oy oz s1 s2 => ?_, fun j y hy oy ty => ?_⟩⟩
  · rcases set_get hy with ⟨e1, e2⟩ | ⟨hne, hy⟩
    · subst e1
      cases e2
      exact ⟨_, h1, hr⟩
    · obtain ⟨w, h3, h4⟩ := rel.at_ j y hy
      refine ⟨w, h3, h4.rmv fun oy z => ?_⟩
      subst z
      exact rel.ne i j x y _ (fun z => hne z.symm) hx hy ho oy h1 h3
  · rcases set_get hy with ⟨_, e2⟩ | ⟨_, hy⟩
    · cases e2; cases oy
    · rcases set_get hz with ⟨_, e2⟩ | ⟨_, hz⟩
      · cases e2; cases oz
      · exact rel.ne j k y z v hjk hy hz oy oz s1 s2
  · rcases set_get hy with ⟨_, e2⟩ | ⟨_, hy⟩
    · cases e2; cases oy
    · exact rel.tag j y hy oy ty
/-- a slot is let go -/
theorem Rel.drop {i : Nat} (rel : Rel G U L lent σ H e) : Rel G U L lent σ H (e.set i none) := by
  have g : ∀ {j y}, (e.set i none)[j]? = some (some y) → e[j]? = some (some y) ∧ j ≠ i := fun {j y} h => by
    rcases set_get h with ⟨_, e2⟩ | ⟨hn, h⟩
    · cases e2
    · exact ⟨h, hn⟩
  exact ⟨rel.sub, rel.trk, by rw [List.length_set]; exact rel.len, fun j y hy => rel.at_ j y (g hy).1, fun j k y z v hjk hy hz => rel.ne j k y z v hjk (g hy).1 (g hz).1, fun j y hy => rel.tag j y (g hy).1⟩
end
section
variable {X : Cx} {W : WX}
theorem pe_getv {i : Nat} {x : Str} {pos : Pos} (hN : X.N[i]? = some x) (hv : Vis X.env.scope x) (hd : (x == ("__debug__" : Str)) = false) (hcd : (x == ("__classdict__" : Str)) = false) : PE X (.Name x pos) (rE X W (getv i)) := by
  refine pe_imp (pe_var hN hv hd hcd) ?_
  rintro σ H Q ⟨U, L, lent, e, rel, p⟩
  simp only [getv] at p
  split at p
  · rename_i x hx
    by_cases ho : x.isOwn = true
    · rw [if_pos ho] at p
      obtain ⟨a, h1, nu, st, hr, rel'⟩ := rel.freeze hx ho
      exact ⟨_, h1, p _ _ _ st rel' ⟨hr, fun z => nomatch z⟩⟩
    · rw [if_neg ho] at p
      obtain ⟨v, h1, h2⟩ := rel.at_ i x hx
      exact ⟨v, h1, p _ _ _ (Step.refl rel.sub) rel ⟨h2, fun z => absurd z ho⟩⟩
  · exact p.elim
theorem pe_mvv {i : Nat} {x : Str} {pos : Pos} (hN : X.N[i]? = some x) (hv : Vis X.env.scope x) (hd : (x == ("__debug__" : Str)) = false) (hcd : (x == ("__classdict__" : Str)) = false) : PE X (.Name x pos) (rE X W (mvv i)) := by
  refine pe_imp (pe_var hN hv hd hcd) ?_
  rintro σ H Q ⟨U, L, lent, e, rel, p⟩
  simp only [mvv] at p
  split at p
  · rename_i x hx
    obtain ⟨v, h1, h2⟩ := rel.at_ i x hx
    by_cases ho : x.isOwn = true
    · rw [if_pos ho] at p
      by_cases ht : x.tag = 0
      · rw [if_pos ht] at p
        refine ⟨v, h1, p _ _ _ (Step.refl rel.sub) rel.drop ⟨h2, fun _ => ⟨ht, fun j y hy oy z => ?_⟩⟩⟩
        rcases set_get hy with ⟨_, e2⟩ | ⟨hn, hy⟩
        · cases e2
        · exact rel.ne i j x y v (fun z => hn z.symm) hx hy ho oy h1 z
      · rw [if_neg ht] at p
        exact p.elim
    · rw [if_neg ho] at p
      exact ⟨v, h1, p _ _ _ (Step.refl rel.sub) rel ⟨h2, fun z => absurd z ho⟩⟩
  · exact p.elim
/-! ### constants -/
theorem pe_k {d : D} {v : V} {c : Expr} (h : PE X c (tC v)) (hr : ∀ L H, Rp (tx X) L H d v) : PE X c (rE X W fun e => .ok (.p d) e) := by
  refine pe_imp h ?_
  rintro σ H Q ⟨U, L, lent, e, rel, p⟩
  exact fin0 rel p (hr L H)
/-! ### argument lists -/
def RDL (G : Tx) : RR (List D) (List V) := fun _ L _ H _ ds vs => RpL G L H ds vs
abbrev rA (X : Cx) (W : WX) (f : Env → Res (List D)) : TA := rd (tx X) W (RDL (tx X)) f
/-- no star -/
def ns (e : Expr) : Bool := match e with
  | .Starred _ _ => false
  | _ => true
theorem star_ns {e : Expr} {es : List Expr} {env : PySem.Env} (h : ns e = true) : starEach (e :: es) env = (false, eval e env) :: starEach es env := by
  cases e <;> first | rfl | cases h
theorem star_none {pos : Pos} {env : PySem.Env} : ∀ {es : List Expr}, es.all ns = true → (backTo pos (starEach es env)).any (·.1) = false
  | [], _ => rfl
  | e :: es, h => by
    rw [List.all_cons, Bool.and_eq_true] at h
    rw [star_ns h.1]
    have ih := star_none (pos := pos) (env := env) h.2
    show (false || (backTo pos (starEach es env)).any (·.1)) = false
    rw [ih]; rfl
theorem pa_nilM : PA X [] (rA X W fun e => .ok [] e) := by
  refine pa_imp pa_nil ?_
  rintro σ H Q ⟨U, L, lent, e, rel, p⟩
  exact p _ _ _ (Step.refl rel.sub) rel RpL.nil
theorem pa_consM {a : Expr} {es : List Expr} {f : Env → Res D} {g : Env → Res (List D)} (ha : PE X a (rP X W f)) (hr : PA X es (rA X W g)) (hn : ns a = true) :
    PA X (a :: es) (rA X W fun e => (f e).bind fun x e1 => (g e1).bind fun xs e2 => .ok (x :: xs) e2) := by
  refine pa_imp (pa_cons ha hr (star_ns hn)) ?_
  rintro σ H Q ⟨U, L, lent, e, rel, p⟩
  show rP X W f σ H _
  refine rd_of rel p fun v L1 H1 x e1 s1 rel1 rx p1 => rd_of rel1 p1 fun vs L2 H2 xs e2 s2 rel2 rxs p2 => ?_
  exact p2 _ _ _ (Step.refl rel2.sub) rel2 (.cons (Rp.step s2 rx) rxs)
/-- the items of a list or a tuple -/
def itemsS : D → Option (List D)
  | .tup xs => some xs
  | .lst xs => some xs
  | _ => none
theorem items_rp {x : D} {xs : List D} {v : V} {L : AS} {H : Hp} (rx : Rp (tx X) L H x v) (ex : itemsS x = some xs) : ∃ a vs, v = .ref a ∧ (SqT X.K H a vs ∨ SqL X.K H a vs) ∧ RpL (tx X) L H xs vs := by
  cases x <;> simp only [itemsS, Option.some.injEq, reduceCtorEq] at ex
  · subst ex; obtain ⟨a, vs, rfl, t, r⟩ := rx; exact ⟨a, vs, rfl, .inl t.sq, r⟩
  · subst ex; obtain ⟨a, vs, rfl, t, n, r⟩ := rx; exact ⟨a, vs, rfl, .inr (.of t), r⟩
theorem pa_starM {a : Expr} {es : List Expr} {q : Pos} {f : Env → Res D} {g : Env → Res (List D)} (ha : PE X a (rP X W f)) (hr : PA X es (rA X W g)) :
    PA X (.Starred a q :: es) (rA X W fun e => (f e).bind fun x e1 => (lift (itemsS x) e1).bind fun ys e2 => (g e2).bind fun xs e3 => .ok (ys ++ xs) e3) := by
  refine pa_imp (StX.pa_star ha hr) ?_
  rintro σ H Q ⟨U, L, lent, e, rel, p⟩
  show rP X W f σ H _
  refine rd_of rel p fun v L1 H1 x e1 s1 rel1 rx p1 => ?_
  cases ex : itemsS x with
  | none => rw [ex] at p1; exact p1.elim
  | some ys =>
    rw [ex] at p1
    obtain ⟨b, vs, rfl, hs, r⟩ := items_rp rx ex
    refine ⟨b, vs, rfl, hs, ?_⟩
    refine rd_of rel1 p1 fun ws L2 H2 xs e2 s2 rel2 rxs p2 => ?_
    exact p2 _ _ _ (Step.refl rel2.sub) rel2 ((RpL.step s2 r).append rxs)
/-! ### displays -/
def tupS (xs : List D) : Option Val := if xs.length ≤ SZ then some (.p (.tup xs)) else none
def lstS (xs : List D) : Option Val := if xs.length ≤ SZ then some (.own 0 xs) else none
theorem pe_tupM {es : List Expr} {k : Nat} {pos : Pos} {g : Env → Res (List D)} (h : PA X es (rA X W g)) : PE X (.Tuple es k pos) (rE X W fun e => (g e).bind fun xs e1 => lift (tupS xs) e1) := by
  refine pe_imp (pe_tup h) ?_
  rintro σ H Q ⟨U, L, lent, e, rel, p⟩
  show rA X W g σ H _
  refine rd_of rel p fun vs L1 H1 xs e1 s1 rel1 rx p1 => ?_
  obtain ⟨z, ez, p2⟩ := p1.lift
  unfold tupS at ez
  split at ez
  · cases ez
    rename_i hz
    exact ⟨by rw [← RpL.length rx]; exact hz, fun q nq => fin_tup rel1 p2 rx nq⟩
  · cases ez
theorem pe_lstM {es : List Expr} {pos : Pos} {g : Env → Res (List D)} (h : PA X es (rA X W g)) : PE X (.List es pos) (rE X W fun e => (g e).bind fun xs e1 => lift (lstS xs) e1) := by
  refine pe_imp (pe_lst h) ?_
  rintro σ H Q ⟨U, L, lent, e, rel, p⟩
  show rA X W g σ H _
  refine rd_of rel p fun vs L1 H1 xs e1 s1 rel1 rx p1 => ?_
  obtain ⟨z, ez, p2⟩ := p1.lift
  unfold lstS at ez
  split at ez
  · cases ez
    rename_i hz
    exact ⟨by rw [← RpL.length rx]; exact hz, fun q nq => fin_own rel1 p2 rx nq⟩
  · cases ez
/-! ### subscripts -/
/-- x[y] -/
def idxS : D → D → Option D
  | .lst xs, .int i => atI xs i
  | .fl xs, .int i => atI xs i
  | .tup xs, .int i => atI xs i
  | .str z, .int i => if z.length ≤ SZ then (atI z.cps.toList i).map fun c => .str ⟨#[c]⟩ else none
  | .dic ks ds, y => (keyOf y).bind fun k => valD ks ds k
  | .dicL ks ds, y => (keyOf y).bind fun k => valD ks ds k
  | _, _ => none
def rDicIx : R2 := fun x y H Q => ∃ a v, x = .ref a ∧ DGet H a y (some v) ∧ Q v H
theorem ix_dic (hu : X.A.units + 1 < cLine) : IxR X rDicIx := by
  intro value slice pins s σ H x y v u Q I rx ry h hs
  obtain ⟨a, z, rfl, g, q⟩ := h
  cases rx
  exact tail_any (dict_typeIs I g) PySem.F.slot_dict_getitem.lookup (d_getItem hu I g ry fun w' s3 I3 rw' => ⟨z, H, I3, rw', q⟩) hs
abbrev rIx4 (K : PySem.W.Frag) : R2 := fun x y H Q => rIx K x y H Q ∨ rDicIx x y H Q
theorem ix_all (hu : X.A.units + 1 < cLine) : IxR X (rIx4 X.K) := ix_seq.or (ix_dic hu)
theorem atI_rp {G : Tx} {L : AS} {H : Hp} {ds : List D} {vs : List V} {i : Int} {d : D} (r : RpL G L H ds vs) (h : atI ds i = some d) : ∃ v, atI vs i = some v ∧ Rp G L H d v := by
  unfold atI at h ⊢
  rw [← r.length]
  cases hj : ixN ds.length i with
  | none => rw [hj] at h; cases h
  | some j =>
    rw [hj] at h
    exact r.get h
/-- the reading of a subscript's value -/
theorem idx_rp {x y z : D} {v w : V} {L : AS} {H : Hp} {Q : VK} (rx : Rp (tx X) L H x v) (ry : Rp (tx X) L H y w) (ez : idxS x y = some z) (hq : ∀ u, Rp (tx X) L H z u → Q u H) : rIx4 X.K v w H Q := by
  cases x with
  | lst xs =>
    cases y <;> simp only [idxS, reduceCtorEq] at ez
    cases ry
    obtain ⟨a, vs, rfl, t, n, r⟩ := rx
    obtain ⟨u, h1, h2⟩ := atI_rp r ez
    exact .inl (.inl ⟨a, vs, _, u, rfl, rfl, .of t, h1, hq u h2⟩)
  | fl xs =>
    cases y <;> simp only [idxS, reduceCtorEq] at ez
    cases ry
    obtain ⟨a, vs, rfl, t, r⟩ := rx
    obtain ⟨u, h1, h2⟩ := atI_rp r ez
    exact .inl (.inl ⟨a, vs, _, u, rfl, rfl, t.sq, h1, hq u h2⟩)
  | tup xs =>
    cases y <;> simp only [idxS, reduceCtorEq] at ez
    cases ry
    obtain ⟨a, vs, rfl, t, r⟩ := rx
    obtain ⟨u, h1, h2⟩ := atI_rp r ez
    exact .inl (.inr (.inl ⟨a, vs, _, u, rfl, rfl, t.sq, h1, hq u h2⟩))
  | str s =>
    cases y <;> simp only [idxS, reduceCtorEq] at ez
    split at ez
    · obtain ⟨c, h1, h2⟩ := Option.map_eq_some_iff.mp ez
      subst h2
      cases rx; cases ry
      exact .inl (.inr (.inr ⟨_, _, c, rfl, rfl, by assumption, h1, hq _ rfl⟩))
    · cases ez
  | dic ks ds =>
    have ez : (keyOf y).bind (fun k => valD ks ds k) = some z := by cases y <;> simpa only [idxS] using ez
    obtain ⟨k, e1, e2⟩ := Option.bind_eq_some_iff.mp ez
    obtain ⟨a, kvs, rfl, t, n, m, r⟩ := rx
    have hv := val_rp (k := k) m r
    rw [e2] at hv
    obtain ⟨u, h1, h2⟩ := hv
    refine .inr ⟨a, u, rfl, ?_, hq u h2⟩
    have g := DGet.k (H := H) (k := k) t
    rw [h1] at g
    rw [key_rp e1 ry]
    exact g
  | dicL ks ds =>
    have ez : (keyOf y).bind (fun k => valD ks ds k) = some z := by cases y <;> simpa only [idxS] using ez
    obtain ⟨k, e1, e2⟩ := Option.bind_eq_some_iff.mp ez
    obtain ⟨a, o, kvs, rfl, t, n, m, r⟩ := rx
    have hv := val_rp (k := k) m r
    rw [e2] at hv
    obtain ⟨u, h1, h2⟩ := hv
    refine .inr ⟨a, u, rfl, .inl ⟨kvs, k, .inr ⟨o, t⟩, key_rp e1 ry, h1.symm⟩, hq u h2⟩
  | _ => cases y <;> simp only [idxS, reduceCtorEq] at ez
/-- no slice -/
def nsl (e : Expr) : Bool := match e with
  | .Slice _ _ _ _ => false
  | _ => true
theorem plainIx_of {b : Expr} (h : nsl b = true) : PlainIx b := by
  intro o i
  cases b <;> first | rfl | cases h
theorem pe_idx {a b : Expr} {pos : Pos} {fa fb : Env → Res D} (hu : X.A.units + 1 < cLine) (ha : PE X a (rP X W fa)) (hb : PE X b (rP X W fb)) (hs : nsl b = true) :
    PE X (.Subscript a b pos) (rE X W fun e => (fa e).bind fun x e1 => (fb e1).bind fun y e2 => (lift (idxS x y) e2).bind fun z e3 => .ok (.p z) e3) := by
  refine pe_imp (pe_ix (ix_all hu) ha hb (plainIx_of hs)) ?_
  rintro σ H Q ⟨U, L, lent, e, rel, p⟩
  show rP X W fa σ H _
  refine rd_of rel p fun v L1 H1 x e1 s1 rel1 rx p1 => rd_of rel1 p1 fun w L2 H2 y e2 s2 rel2 ry p2 => ?_
  cases ez : idxS x y with
  | none => rw [ez] at p2; exact p2.elim
  | some z =>
    rw [ez] at p2
    exact idx_rp (Rp.step s2 rx) ry ez fun u hu => fin0 rel2 p2 hu
/-- n[e], n a name: read where it stands -/
def idxb (i : Nat) (fb : Env → Res D) : Env → Res Val := fun e => match e[i]? with
  | some (some _) => (fb e).bind fun y e1 => match e1[i]? with
    | some (some x) => (lift (idxS x.frz y) e1).bind fun z e2 => .ok (.p z) e2
    | _ => .fail
  | _ => .fail
theorem idxV_rp {U L : AS} {x : Val} {y z : D} {v w : V} {H : Hp} {Q : VK} (rx : RpV (tx X) U L H x v) (ry : Rp (tx X) L H y w) (ez : idxS x.frz y = some z) (hq : ∀ u, Rp (tx X) L H z u → Q u H) : rIx4 X.K v w H Q := by
  cases x with
  | p d => exact idx_rp rx ry ez hq
  | own t xs =>
    cases y <;> simp only [Val.frz, idxS, reduceCtorEq] at ez
    cases ry
    obtain ⟨a, vs, rfl, l, nu, t, r⟩ := rx
    obtain ⟨u, h1, h2⟩ := atI_rp r ez
    exact .inl (.inl ⟨a, vs, _, u, rfl, rfl, .of t, h1, hq u h2⟩)
  | od t ks ds =>
    have ez : (keyOf y).bind (fun k => valD ks ds k) = some z := by cases y <;> simpa only [Val.frz, idxS] using ez
    obtain ⟨k, e1, e2⟩ := Option.bind_eq_some_iff.mp ez
    obtain ⟨a, kvs, rfl, l, nu, t, m, r⟩ := rx
    have hv := val_rp (k := k) m r
    rw [e2] at hv
    obtain ⟨u, h1, h2⟩ := hv
    refine .inr ⟨a, u, rfl, ?_, hq u h2⟩
    have g := DGet.k (H := H) (k := k) t
    rw [h1] at g
    rw [key_rp e1 ry]
    exact g
  | oo t c ns ds => cases y <;> simp only [Val.frz, idxS, reduceCtorEq] at ez
theorem pe_idxb {i : Nat} {x : Str} {b : Expr} {p1 pos : Pos} {fb : Env → Res D} (hu : X.A.units + 1 < cLine) (hN : X.N[i]? = some x) (hv : Vis X.env.scope x) (hd : (x == ("__debug__" : Str)) = false) (hcd : (x == ("__classdict__" : Str)) = false)
    (hb : PE X b (rP X W fb)) (hs : nsl b = true) : PE X (.Subscript (.Name x p1) b pos) (rE X W (idxb i fb)) := by
  refine pe_imp (pe_ix (ix_all hu) (pe_var hN hv hd hcd) hb (plainIx_of hs)) ?_
  rintro σ H Q ⟨U, L, lent, e, rel, p⟩
  simp only [idxb] at p
  split at p
  · rename_i x0 hx0
    obtain ⟨v, hv, _⟩ := rel.at_ i x0 hx0
    refine ⟨v, hv, rd_of rel p fun w L2 H2 y e2 s2 rel2 ry p2 => ?_⟩
    split at p2
    · rename_i z hz
      obtain ⟨v', h1, h2⟩ := rel2.at_ i z hz
      rw [hv] at h1; cases h1
      cases ez : idxS z.frz y with
      | none => rw [ez] at p2; exact p2.elim
      | some d =>
        rw [ez] at p2
        exact idxV_rp h2 ry ez fun u hu => fin0 rel2 p2 hu
    · exact p2.elim
  · exact p.elim
end
end M

set_option Elab.async false
set_option linter.all false
set_option maxRecDepth 100000
set_option maxHeartbeats 4000000
/-! MS: sorted of a tuple of ints. -/
namespace M
open PySem PySem.Spec PyProof.Rows Srt SrtO L2
section
variable {pr : Program} {wd : World} {B : Around} {Z : Value → Shared → Prop} {t : Shared}
/-- the heap with the row of a tuple's items laid -/
abbrev colH (h : Heap) (us : List Value) : Heap := (h.push (seqObj "list" #[] 0)).update h.objs.size (Obj.mapSeq (· ++ us.toArray))
theorem collectT {c : Addr} {us : List Value} {R : List Value → Shared → Prop} (tp : IsTup t.heap c us.toArray) (h : R us { t with heap := colH t.heap us }) (hz : us.length ≤ sizeLine) :
    wpAny (model pr wd) B (collect (.ref c)) R Z t := by
  obtain ⟨ob, go, gc, k, gd⟩ := id tp
  unfold collect
  refine wpAny_bind (wpAny_runValue (codeAny_builtin (PyProof.Rows.entry_proto_collect') ?_))
  show wpAny _ _ (do
    again (.builtin "list.__iadd__" ⟨[← newList [], .ref c], []⟩)) _ _ t
  refine wpAny_bind (wpAny_newList (wpAny_pure ⟨Code.quiet_builtin _ (by decide +kernel),
    codeAny_builtin entry_list_iadd' ?_⟩))
  show wpAny _ _ (Builtin.List.listExtendWith (.ref t.heap.objs.size) (.ref c)
    (.ref t.heap.objs.size)) _ _ { t with heap := t.heap.push (seqObj "list" #[] 0) }
  unfold Builtin.List.listExtendWith
  have go' : (t.heap.push (seqObj "list" #[] 0)).get? c = some ob :=
    Heap.get?_push_of_some _ go
  refine wpAny_bind (wpAny_typeOf (T := "tuple") ⟨ob, go', gc⟩ ?_)
  have hty : (Value.type "tuple" == Value.type "tuple") = true := by
    rfl
  rw [if_pos (by
    rw [hty]; simp)]
  refine wpAny_bind (listItems_at go' gd ?_)
  refine wpAny_bind (listItems_at (n := 0) (xs := #[])
    (Heap.get?_push_size _ rfl) rfl ?_)
  rw [if_neg (by simp)]
  refine wpAny_bind (listUpdate_at (n := 0) (xs := #[]) (Heap.get?_push_size _ rfl) rfl ?_
    (Nat.zero_le _) (by
      show (#[] ++ us.toArray).size ≤ sizeLine + 1
      simp only [Array.size_append, List.size_toArray, List.length_nil]
      omega))
  refine wpAny_pure ?_
  show wpAny (model pr wd) B (do
      let o ← load t.heap.objs.size
      match o.data with
      | .seq q _ => pure q.toList
      | _ => unsupported "internal:collect") R Z { t with heap := colH t.heap us }
  refine wpAny_bind (wpAny_load
    (get?_update_seq (Heap.get?_push_size _ rfl) _) ?_)
  show wpAny _ _ (pure ((#[] : Array Value) ++ us.toArray).toList) R Z _
  rw [show ((#[] : Array Value) ++ us.toArray).toList = us from by
    simp]
  exact wpAny_pure h
theorem sortedT {c : Addr} {us : List Value} {lt : Value → Value → Bool} {R : Value → Shared → Prop} (O : Swo lt) (tp : IsTup t.heap c us.toArray) (hz : us.length ≤ sizeLine)
    (hS : 2 ≤ us.length → ∀ (h₁ : Heap) (a : Addr), h₁.get? a = some (seqObj "list" us.toArray 0) → (∀ b o, t.heap.get? b = some o → b ≠ a ∧ h₁.get? b = some o) → SortableO pr wd B.in1.in1 { t with heap := h₁ } a us lt)
    (h : ∀ out : List Value, Srtd lt out → Stb lt out us → R (.ref (t.heap.objs.size + 1)) { t with heap := sortedAll t.heap us out.toArray }) : wpAny (model pr wd) B (call (.builtin "sorted") [.ref c]) R Z t := by
  refine Calls.call_function_entry kind_sorted plain_sorted
    entry_sorted (args_sorted1 _) ?_
  unfold Builtin.«sorted»
  refine wpAny_bind (m := checkCount "sorted" 1 1 _)
    (wpAny_pure ?_)
  refine wpAny_bind (collectT tp ?_ hz)
  refine wpAny_bind (wpAny_newList ?_ hz)
  have hn : (colH t.heap us).objs.size = t.heap.objs.size + 1 := by
    rw [Heap.size_update]
    exact size_push' ..
  have ho : ((colH t.heap us).push (seqObj "list" us.toArray 0)).get? (t.heap.objs.size + 1) = some (seqObj "list" us.toArray 0) := by
    rw [← hn]
    exact Heap.get?_push_size _ rfl
  have kp : ∀ b o, t.heap.get? b = some o → b ≠ t.heap.objs.size + 1 ∧ ((colH t.heap us).push (seqObj "list" us.toArray 0)).get? b = some o := fun b o q => by
    have hb := Heap.lt_size q
    refine ⟨Nat.ne_of_lt (Nat.lt_succ_of_lt hb), ?_⟩
    refine Heap.get?_push_of_some _ ?_
    rw [Heap.get?_update_ne _ _ _ _ (Nat.ne_of_lt hb)]
    exact Heap.get?_push_of_some _ q
  show wpAny _ _ _ _ _ { t with heap := (colH t.heap us).push (seqObj "list" us.toArray 0) }
  rw [hn]
  refine wpAny_bind (wpAny_holding (wpAny_call_entry slot_list_sort ⟨_, ho, rfl⟩ entry_list_sort
    (list_sort_ord O ho hz (fun h2 => hS h2 _ _ ho kp) fun out g1 g2 => ⟨_, rfl, ?_⟩) (args_list_sort _)))
  exact wpAny_pure ⟨_, rfl, h out g1 g2⟩
end
/-- sorted(xs), xs a tuple of ints -/
def rSortedIT (K : PySem.W.Frag) : List V → Hp → VK → Prop := fun ws H Q => ∃ (c : Addr) (ns : List Int), ws = [V.ref c] ∧ SqT K H c (ns.map V.int) ∧ ∀ (ms : List Int) (p : Addr), ms.Perm ns → ms.Pairwise (· ≤ ·) → H p = none → Q (.ref p) (upd H p (.lst (ms.map V.int)))
variable {X : Cx}
theorem cr_sortedIT : CallR X (.builtin "sorted") (rSortedIT X.K) := by
  intro pins t σ H ws us Q I r h
  obtain ⟨c, ns, rfl, hs, q⟩ := h
  obtain ⟨its, rv, tp, hz⟩ := I.tuple hs
  rw [Vals.ref1 r]
  have hi := rv.ints
  refine sortedT swo_int tp (by rw [← rv.length]; exact hz) (fun g2 h₁ a' _ _ => ints_sortable hi g2) fun out g1 g2 => ?_
  obtain ⟨k1, k2, k3⟩ := ints_out hi g1 g2
  obtain ⟨ep, he⟩ := PyProof.Rows.sortedAll_at t.heap its out.toArray
  have hl : ((out.map iv).map V.int).length ≤ sizeLine := by
    rw [List.length_map, k2.length_eq]
    rwa [List.length_map] at hz
  refine ⟨.ref _, upd H (t.heap.objs.size + 1) (.lst ((out.map iv).map V.int)), ?_, rfl, q _ _ k2 k3 (I.hok.fresh (Nat.le_succ _))⟩
  exact I.laid (t' := t.toks) (fun _ _ => PyProof.Rows.sortedAll_old) (Nat.le_succ _) ⟨hl, out, ep, vals_of_ints k1, he⟩
end M

set_option Elab.async false
set_option linter.all false
set_option maxRecDepth 100000
set_option maxHeartbeats 2000000
/-! M6: calls of built-in functions and types. -/
namespace M
open PySem PySem.Spec PyProof.Rows L2

/-! ### sorting -/
def insI (x : Int) : List Int → List Int
  | [] => [x]
  | y :: ys => if x ≤ y then x :: y :: ys else y :: insI x ys
def sortI : List Int → List Int
  | [] => []
  | x :: xs => insI x (sortI xs)
theorem insI_perm (x : Int) : ∀ ys : List Int, (insI x ys).Perm (x :: ys)
  | [] => .refl _
  | y :: ys => by
    unfold insI
    split
    · exact .refl _
    · exact ((insI_perm x ys).cons y).trans (.swap x y ys)
theorem sortI_perm : ∀ xs : List Int, (sortI xs).Perm xs
  | [] => .refl _
  | x :: xs => (insI_perm x (sortI xs)).trans ((sortI_perm xs).cons x)
theorem insI_srt (x : Int) : ∀ {ys : List Int}, ys.Pairwise (· ≤ ·) → (insI x ys).Pairwise (· ≤ ·)
  | [], _ => by unfold insI; exact List.pairwise_singleton _ _
  | y :: ys, h => by
    obtain ⟨h1, h2⟩ := List.pairwise_cons.mp h
    unfold insI
    split
    · rename_i hxy
      refine List.pairwise_cons.mpr ⟨fun z hz => ?_, h⟩
      rcases List.mem_cons.mp hz with rfl | hz
      · exact hxy
      · exact Int.le_trans hxy (h1 z hz)
    · rename_i hxy
      refine List.pairwise_cons.mpr ⟨fun z hz => ?_, insI_srt x h2⟩
      rcases List.mem_cons.mp ((insI_perm x ys).mem_iff.mp hz) with rfl | hz
      · omega
      · exact h1 z hz
theorem sortI_srt : ∀ xs : List Int, (sortI xs).Pairwise (· ≤ ·)
  | [] => List.Pairwise.nil
  | x :: xs => insI_srt x (sortI_srt xs)
theorem srt_uniq : ∀ {xs ys : List Int}, xs.Perm ys → xs.Pairwise (· ≤ ·) → ys.Pairwise (· ≤ ·) → xs = ys
  | [], ys, p, _, _ => (List.nil_perm.mp p).symm ▸ rfl
  | x :: xs, [], p, _, _ => absurd (List.perm_nil.mp p) (by simp)
  | x :: xs, y :: ys, p, h1, h2 => by
    obtain ⟨a1, a2⟩ := List.pairwise_cons.mp h1
    obtain ⟨b1, b2⟩ := List.pairwise_cons.mp h2
    have e : x = y := by
      have m1 : x ∈ y :: ys := p.mem_iff.mp List.mem_cons_self
      have m2 : y ∈ x :: xs := p.mem_iff.mpr List.mem_cons_self
      have l1 : y ≤ x := by
        rcases List.mem_cons.mp m1 with e | m
        · omega
        · exact b1 x m
      have l2 : x ≤ y := by
        rcases List.mem_cons.mp m2 with e | m
        · omega
        · exact a1 y m
      omega
    subst e
    rw [srt_uniq (List.Perm.cons_inv p) a2 b2]
theorem sortI_of {xs ys : List Int} (p : ys.Perm xs) (h : ys.Pairwise (· ≤ ·)) : ys = sortI xs := srt_uniq (p.trans (sortI_perm xs).symm) h (sortI_srt xs)

/-! ### what a call of a known value tells -/
def intsD : List D → Option (List Int)
  | [] => some []
  | .int i :: xs => (intsD xs).map (i :: ·)
  | _ :: _ => none
theorem intsD_eq : ∀ {xs : List D} {ns : List Int}, intsD xs = some ns → xs = ns.map D.int
  | [], _, h => by cases h; rfl
  | .int i :: xs, ns, h => by
    simp only [intsD, Option.map_eq_some_iff] at h
    obtain ⟨ms, h1, h2⟩ := h
    subst h2
    rw [List.map_cons, ← intsD_eq h1]
  | .non :: _, _, h => by cases h
  | .bl _ :: _, _, h => by cases h
  | .str _ :: _, _, h => by cases h
  | .tup _ :: _, _, h => by cases h
  | .lst _ :: _, _, h => by cases h
  | .fl _ :: _, _, h => by cases h
  | .dic _ _ :: _, _, h => by cases h
  | .obj _ _ _ :: _, _, h => by cases h
  | .glob _ :: _, _, h => by cases h
  | .ty _ :: _, _, h => by cases h
def blsD : List D → Option (List Bool)
  | [] => some []
  | .bl i :: xs => (blsD xs).map (i :: ·)
  | _ :: _ => none
theorem blsD_eq : ∀ {xs : List D} {ns : List Bool}, blsD xs = some ns → xs = ns.map D.bl
  | [], _, h => by cases h; rfl
  | .bl i :: xs, ns, h => by
    simp only [blsD, Option.map_eq_some_iff] at h
    obtain ⟨ms, h1, h2⟩ := h
    subst h2
    rw [List.map_cons, ← blsD_eq h1]
  | .non :: _, _, h => by cases h
  | .int _ :: _, _, h => by cases h
  | .str _ :: _, _, h => by cases h
  | .tup _ :: _, _, h => by cases h
  | .lst _ :: _, _, h => by cases h
  | .fl _ :: _, _, h => by cases h
  | .dic _ _ :: _, _, h => by cases h
  | .obj _ _ _ :: _, _, h => by cases h
  | .glob _ :: _, _, h => by cases h
  | .ty _ :: _, _, h => by cases h
theorem RpL.bls_eq {G : Tx} {L : AS} {H : Hp} : ∀ {ns : List Bool} {vs : List V}, RpL G L H (ns.map D.bl) vs → vs = ns.map V.bl
  | [], _, h => h
  | _ :: _, _, ⟨_, _, e, h, t⟩ => by
    have h : _ = _ := h
    rw [e, h, RpL.bls_eq t]; rfl

/-- a call of fv with given values tells g -/
def CallOk (X : Cx) (fv : Value) (g : List D → Option Val) : Prop := ∃ r, CallR X fv r ∧
  ∀ {W : WX} {U L : AS} {lent : Nat → Addr} {σ : SL} {H : Hp} {e : Env} {Q : VK} {ds : List D} {vs : List V} {z : Val}, Rel (tx X) U L lent σ H e → RpL (tx X) L H ds vs → g ds = some z →
    Post (tx X) W U L lent σ H (RV (tx X)) Q (.ok z e) → r vs H Q
def orB (g g' : List D → Option Val) : List D → Option Val := fun ds => match g ds with
  | some z => some z
  | none => g' ds
section
variable {X : Cx} {W : WX}
theorem CallOk.or {fv : Value} {g g' : List D → Option Val} (h : CallOk X fv g) (h' : CallOk X fv g') : CallOk X fv (orB g g') := by
  obtain ⟨r, c, k⟩ := h
  obtain ⟨r', c', k'⟩ := h'
  refine ⟨_, c.or c', fun rel rv ez p => ?_⟩
  unfold orB at ez
  split at ez
  · rename_i z e; cases ez; exact .inl (k rel rv e p)
  · exact .inr (k' rel rv ez p)
theorem CallOk.imp {fv : Value} {g g' : List D → Option Val} (h : CallOk X fv g) (i : ∀ ds z, g' ds = some z → g ds = some z) : CallOk X fv g' := by
  obtain ⟨r, c, k⟩ := h
  exact ⟨r, c, fun rel rv ez p => k rel rv (i _ _ ez) p⟩
theorem rpl1 {G : Tx} {L : AS} {H : Hp} {d : D} {vs : List V} (h : RpL G L H [d] vs) : ∃ v, vs = [v] ∧ Rp G L H d v := by
  obtain ⟨v, vs', e, h, t⟩ := h
  cases t
  exact ⟨v, e, h⟩
theorem rpl2 {G : Tx} {L : AS} {H : Hp} {d d' : D} {vs : List V} (h : RpL G L H [d, d'] vs) : ∃ v v', vs = [v, v'] ∧ Rp G L H d v ∧ Rp G L H d' v' := by
  obtain ⟨v, vs', e, h, t⟩ := h
  obtain ⟨v', e', h'⟩ := rpl1 t
  exact ⟨v, v', by rw [e, e'], h, h'⟩
/-- the call of a built-in function by its name -/
theorem pe_bi {id : String} {x : Str} {g : List D → Option Val} {a : Expr} {es : List Expr} {p pos : Pos} {f : Env → Res (List D)} (hc : CallOk X (.builtin id) g) (hg : Gl X x) (hm : X.mg x = none) (hv : bootBuiltins x = some (.builtin id)) (ha : PA X (a :: es) (rA X W f)) (hs : (a :: es).all ns = true)
    (hn : x ≠ "__name__") (hdb : (x == ("__debug__" : Str)) = false) : PE X (.Call (.Name x p) (a :: es) [] pos) (rE X W fun e => (f e).bind fun xs e1 => lift (g xs) e1) := by
  obtain ⟨r, c, k⟩ := hc
  rw [List.all_cons, Bool.and_eq_true] at hs
  refine pe_imp (pe_callB c hg hm hv ha hn hdb (star_ns hs.1) (star_none hs.2)) ?_
  rintro σ H Q ⟨U, L, lent, e, rel, q⟩
  show rA X W f σ H _
  refine rd_of rel q fun vs L1 H1 xs e1 s1 rel1 rx p1 => ?_
  obtain ⟨z, ez, p2⟩ := p1.lift
  exact k rel1 rx ez p2
theorem pe_bty {T : String} {x : Str} {g : List D → Option Val} {a : Expr} {es : List Expr} {p pos : Pos} {f : Env → Res (List D)} (hc : CallOk X (.type T) g) (hg : Gl X x) (hm : X.mg x = none) (hv : bootBuiltins x = some (.type T)) (ha : PA X (a :: es) (rA X W f)) (hs : (a :: es).all ns = true)
    (hn : x ≠ "__name__") (hdb : (x == ("__debug__" : Str)) = false) : PE X (.Call (.Name x p) (a :: es) [] pos) (rE X W fun e => (f e).bind fun xs e1 => lift (g xs) e1) := by
  obtain ⟨r, c, k⟩ := hc
  rw [List.all_cons, Bool.and_eq_true] at hs
  refine pe_imp (pe_callTy c hg hm hv ha hn hdb (star_ns hs.1) (star_none hs.2)) ?_
  rintro σ H Q ⟨U, L, lent, e, rel, q⟩
  show rA X W f σ H _
  refine rd_of rel q fun vs L1 H1 xs e1 s1 rel1 rx p1 => ?_
  obtain ⟨z, ez, p2⟩ := p1.lift
  exact k rel1 rx ez p2

/-! ### the functions -/
def absS : List D → Option Val
  | [.int i] => some (.p (.int (if i < 0 then -i else i)))
  | _ => none
theorem ok_abs : CallOk X (.builtin "abs") absS := ⟨_, call_abs, fun {_ _ _ _ _ _ _ _ ds vs z} rel rv ez p => by
  unfold absS at ez
  split at ez
  · cases ez
    obtain ⟨v, e1, e2⟩ := rpl1 rv
    cases e2
    exact ⟨_, e1, fin0 rel p rfl⟩
  · cases ez⟩
def intS : List D → Option Val
  | [.int i] => some (.p (.int i))
  | [.bl k] => some (.p (.int (if k then 1 else 0)))
  | _ => none
theorem ok_int : CallOk X (.type "int") intS := ⟨_, call_int1, fun {_ _ _ _ _ _ _ _ ds vs z} rel rv ez p => by
  unfold intS at ez
  split at ez
  · cases ez
    obtain ⟨v, e1, e2⟩ := rpl1 rv
    cases e2
    exact .inl ⟨_, e1, fin0 rel p rfl⟩
  · cases ez
    obtain ⟨v, e1, e2⟩ := rpl1 rv
    cases e2
    exact .inr ⟨_, e1, fin0 rel p rfl⟩
  · cases ez⟩
def intTS : List D → Option Val
  | [.str a] => if a.length ≤ 640 then (PySem.intText? a).map fun n => .p (.int n) else none
  | _ => none
theorem ok_intT : CallOk X (.type "int") intTS := ⟨_, call_int_str, fun {_ _ _ _ _ _ _ _ ds vs z} rel rv ez p => by
  unfold intTS at ez
  split at ez
  · split at ez
    · obtain ⟨n, h1, h2⟩ := Option.map_eq_some_iff.mp ez
      subst h2
      obtain ⟨v, e1, e2⟩ := rpl1 rv
      cases e2
      exact ⟨_, n, e1, h1, by assumption, fin0 rel p rfl⟩
    · cases ez
  · cases ez⟩
def lenS : List D → Option Val
  | [.tup xs] => some (.p (.int xs.length))
  | [.lst xs] => some (.p (.int xs.length))
  | [.fl xs] => some (.p (.int xs.length))
  | [.str x] => if x.length ≤ SZ then some (.p (.int x.length)) else none
  | _ => none
theorem ok_len : CallOk X (.builtin "len") lenS := ⟨_, call_len, fun {_ _ _ _ _ _ _ _ ds vs z} rel rv ez p => by
  unfold lenS at ez
  split at ez
  · cases ez
    obtain ⟨v, e1, a, us, e2, t, r⟩ := rpl1 rv
    exact ⟨v, _, e1, by rw [e2]; exact .inr ⟨us, t.sq, r.length⟩, fin0 rel p rfl⟩
  · cases ez
    obtain ⟨v, e1, a, us, e2, t, n, r⟩ := rpl1 rv
    exact ⟨v, _, e1, by rw [e2]; exact .inl ⟨us, .of t, r.length⟩, fin0 rel p rfl⟩
  · cases ez
    obtain ⟨v, e1, a, us, e2, t, r⟩ := rpl1 rv
    exact ⟨v, _, e1, by rw [e2]; exact .inl ⟨us, t.sq, r.length⟩, fin0 rel p rfl⟩
  · split at ez
    · cases ez
      obtain ⟨v, e1, e2⟩ := rpl1 rv
      cases e2
      exact ⟨_, _, e1, ⟨by assumption, rfl⟩, fin0 rel p rfl⟩
    · cases ez
  · cases ez⟩
def lenDS : List D → Option Val
  | [.dic ks xs] => some (.p (.int xs.length))
  | _ => none
theorem ok_lenD : CallOk X (.builtin "len") lenDS := ⟨_, call_lenD, fun {_ _ _ _ _ _ _ _ ds vs z} rel rv ez p => by
  unfold lenDS at ez
  split at ez
  · cases ez
    obtain ⟨v, e1, a, kvs, e2, t, n, m, r⟩ := rpl1 rv
    refine ⟨a, kvs, by rw [e1, e2], t, ?_⟩
    have := r.length
    rw [List.length_map] at this
    rw [← this]
    exact fin0 rel p rfl
  · cases ez⟩
def divmodS : List D → Option Val
  | [.int i, .int j] => if 0 < j ∧ j < 1073741824 then some (.p (.tup [.int (i / j), .int (i % j)])) else none
  | _ => none
theorem ok_divmod : CallOk X (.builtin "divmod") divmodS := ⟨_, call_divmod, fun {_ _ _ _ _ _ _ _ ds vs z} rel rv ez p => by
  unfold divmodS at ez
  split at ez
  · split at ez
    · cases ez
      obtain ⟨v, w, e1, e2, e3⟩ := rpl2 rv
      cases e2; cases e3
      exact ⟨_, _, e1, by assumption, fun q nq => fin_tup rel p (.cons rfl (.cons rfl .nil)) nq⟩
    · cases ez
  · cases ez⟩
def max2S : List D → Option Val
  | [.int i, .int j] => some (.p (.int (if j > i then j else i)))
  | _ => none
theorem ok_max2 (hc : X.calm = true) : CallOk X (.builtin "max") max2S := ⟨_, call_max2 hc, fun {_ _ _ _ _ _ _ _ ds vs z} rel rv ez p => by
  unfold max2S at ez
  split at ez
  · cases ez
    obtain ⟨v, w, e1, e2, e3⟩ := rpl2 rv
    cases e2; cases e3
    exact ⟨_, _, e1, fin0 rel p rfl⟩
  · cases ez⟩
def min2S : List D → Option Val
  | [.int i, .int j] => some (.p (.int (if j < i then j else i)))
  | _ => none
theorem ok_min2 (hc : X.calm = true) : CallOk X (.builtin "min") min2S := ⟨_, call_min2 hc, fun {_ _ _ _ _ _ _ _ ds vs z} rel rv ez p => by
  unfold min2S at ez
  split at ez
  · cases ez
    obtain ⟨v, w, e1, e2, e3⟩ := rpl2 rv
    cases e2; cases e3
    exact ⟨_, _, e1, fin0 rel p rfl⟩
  · cases ez⟩
def sortS : List D → Option Val
  | [.lst xs] => (intsD xs).map fun ns => .own 0 ((sortI ns).map D.int)
  | [.fl xs] => (intsD xs).map fun ns => .own 0 ((sortI ns).map D.int)
  | [.tup xs] => (intsD xs).map fun ns => .own 0 ((sortI ns).map D.int)
  | _ => none
theorem sq_fin {L : AS} {H : Hp} {xs : List D} {ns : List Int} {us : List V} (e : intsD xs = some ns) (r : RpL (tx X) L H xs us) : us = ns.map V.int := by
  rw [intsD_eq e] at r
  exact r.ints_eq
theorem ok_sort : CallOk X (.builtin "sorted") sortS := ⟨_, cr_sortedI.or cr_sortedIT, fun {_ _ _ _ _ _ _ _ ds vs z} rel rv ez p => by
  unfold sortS at ez
  split at ez
  · obtain ⟨ns, h1, h2⟩ := Option.map_eq_some_iff.mp ez
    subst h2
    obtain ⟨v, e1, a, us, e2, t, n, r⟩ := rpl1 rv
    refine .inl ⟨a, ns, by rw [e1, e2], by rw [← sq_fin h1 r]; exact .of t, fun ns' q h3 h4 nq => ?_⟩
    rw [sortI_of h3 h4]
    exact fin_own rel p (RpL.ints _) nq
  · obtain ⟨ns, h1, h2⟩ := Option.map_eq_some_iff.mp ez
    subst h2
    obtain ⟨v, e1, a, us, e2, t, r⟩ := rpl1 rv
    refine .inl ⟨a, ns, by rw [e1, e2], by rw [← sq_fin h1 r]; exact t.sq, fun ns' q h3 h4 nq => ?_⟩
    rw [sortI_of h3 h4]
    exact fin_own rel p (RpL.ints _) nq
  · obtain ⟨ns, h1, h2⟩ := Option.map_eq_some_iff.mp ez
    subst h2
    obtain ⟨v, e1, a, us, e2, t, r⟩ := rpl1 rv
    refine .inr ⟨a, ns, by rw [e1, e2], by rw [← sq_fin h1 r]; exact t.sq, fun ns' q h3 h4 nq => ?_⟩
    rw [sortI_of h3 h4]
    exact fin_own rel p (RpL.ints _) nq
  · cases ez⟩
def keysI : List Key → Option (List Int)
  | [] => some []
  | .inl i :: ks => (keysI ks).map (i :: ·)
  | _ :: _ => none
theorem keysI_eq : ∀ {ks : List Key} {ns : List Int}, keysI ks = some ns → ks = ns.map Sum.inl
  | [], _, h => by cases h; rfl
  | .inl i :: ks, ns, h => by
    simp only [keysI, Option.map_eq_some_iff] at h
    obtain ⟨ms, h1, h2⟩ := h
    subst h2
    rw [List.map_cons, ← keysI_eq h1]
  | .inr _ :: _, _, h => by cases h
def sortDS : List D → Option Val
  | [.dic ks _] => match keysI ks with
    | some ns => if ns.length < 64 then some (.own 0 ((sortI ns).map D.int)) else none
    | none => none
  | _ => none
theorem ok_sortD (hc : X.calm = true) : CallOk X (.builtin "sorted") sortDS := ⟨_, call_sortedDI hc, fun {_ _ _ _ _ _ _ _ ds vs z} rel rv ez p => by
  unfold sortDS at ez
  split at ez
  · split at ez
    · split at ez
      · cases ez
        rename_i ns hk hl
        obtain ⟨v, e1, a, kvs, e2, t, n, m, r⟩ := rpl1 rv
        refine ⟨a, kvs, ns, by rw [e1, e2], .inl t, by rw [m, keysI_eq hk], hl, fun ys q h3 h4 nq => ?_⟩
        rw [sortI_of h3 h4]
        exact fin_own rel p (RpL.ints _) nq
      · cases ez
    · cases ez
  · cases ez⟩
def listS : List D → Option Val
  | [.lst xs] => some (.own 0 xs)
  | [.fl xs] => some (.own 0 xs)
  | [.tup xs] => some (.own 0 xs)
  | _ => none
theorem ok_list : CallOk X (.type "list") listS := ⟨_, call_list_of, fun {_ _ _ _ _ _ _ _ ds vs z} rel rv ez p => by
  unfold listS at ez
  split at ez
  · cases ez
    obtain ⟨v, e1, a, us, e2, t, n, r⟩ := rpl1 rv
    exact ⟨a, us, by rw [e1, e2], .inl (.of t), fun q nq => fin_own rel p r nq⟩
  · cases ez
    obtain ⟨v, e1, a, us, e2, t, r⟩ := rpl1 rv
    exact ⟨a, us, by rw [e1, e2], .inl t.sq, fun q nq => fin_own rel p r nq⟩
  · cases ez
    obtain ⟨v, e1, a, us, e2, t, r⟩ := rpl1 rv
    exact ⟨a, us, by rw [e1, e2], .inr t.sq, fun q nq => fin_own rel p r nq⟩
  · cases ez⟩
def tupleS : List D → Option Val
  | [.lst xs] => some (.p (.tup xs))
  | [.fl xs] => some (.p (.tup xs))
  | [.tup xs] => some (.p (.tup xs))
  | _ => none
theorem ok_tuple : CallOk X (.type "tuple") tupleS := ⟨_, call_tuple_of, fun {_ _ _ _ _ _ _ _ ds vs z} rel rv ez p => by
  unfold tupleS at ez
  split at ez
  · cases ez
    obtain ⟨v, e1, a, us, e2, t, n, r⟩ := rpl1 rv
    exact ⟨a, us, by rw [e1, e2], .inl ⟨.of t, fun q nq => fin_tup rel p r nq⟩⟩
  · cases ez
    obtain ⟨v, e1, a, us, e2, t, r⟩ := rpl1 rv
    exact ⟨a, us, by rw [e1, e2], .inl ⟨t.sq, fun q nq => fin_tup rel p r nq⟩⟩
  · cases ez
    obtain ⟨v, e1, a, us, e2, t, r⟩ := rpl1 rv
    exact ⟨a, us, by rw [e1, e2], .inr ⟨t.sq, fin0 rel p ⟨a, us, e2 ▸ rfl, t, r⟩⟩⟩
  · cases ez⟩
def allS : List D → Option Val
  | [.lst xs] => (blsD xs).map fun bs => .p (.bl (bs.all id))
  | _ => none
def anyS : List D → Option Val
  | [.lst xs] => (blsD xs).map fun bs => .p (.bl (bs.any id))
  | _ => none
theorem ok_all (hc : X.calm = true) : CallOk X (.builtin "all") allS := ⟨_, cr_all hc, fun {_ _ _ _ _ _ _ _ ds vs z} rel rv ez p => by
  unfold allS at ez
  split at ez
  · obtain ⟨ns, h1, h2⟩ := Option.map_eq_some_iff.mp ez
    subst h2
    obtain ⟨v, e1, a, us, e2, t, n, r⟩ := rpl1 rv
    rw [blsD_eq h1] at r
    exact ⟨a, ns, by rw [e1, e2], by rw [← r.bls_eq]; exact .of t, fin0 rel p rfl⟩
  · cases ez⟩
theorem ok_any (hc : X.calm = true) : CallOk X (.builtin "any") anyS := ⟨_, cr_any hc, fun {_ _ _ _ _ _ _ _ ds vs z} rel rv ez p => by
  unfold anyS at ez
  split at ez
  · obtain ⟨ns, h1, h2⟩ := Option.map_eq_some_iff.mp ez
    subst h2
    obtain ⟨v, e1, a, us, e2, t, n, r⟩ := rpl1 rv
    rw [blsD_eq h1] at r
    exact ⟨a, ns, by rw [e1, e2], by rw [← r.bls_eq]; exact .of t, fin0 rel p rfl⟩
  · cases ez⟩
def sumS : List D → Option Val
  | [.lst xs] => (intsD xs).map fun ns => .p (.int ns.sum)
  | _ => none
theorem ok_sum (hc : X.calm = true) : CallOk X (.builtin "sum") sumS := ⟨_, cr_sum hc, fun {_ _ _ _ _ _ _ _ ds vs z} rel rv ez p => by
  unfold sumS at ez
  split at ez
  · obtain ⟨ns, h1, h2⟩ := Option.map_eq_some_iff.mp ez
    subst h2
    obtain ⟨v, e1, a, us, e2, t, n, r⟩ := rpl1 rv
    exact ⟨a, ns, by rw [e1, e2], by rw [← sq_fin h1 r]; exact .of t, fin0 rel p rfl⟩
  · cases ez⟩

/-! ### repr -/
/-- what repr tells -/
def repS (d : D) : Option Str := d.py.bind fun p => if p.showable = true ∧ p.hasDict = false ∧ p.depth ≤ 40 ∧ p.shown.length ≤ SZ then some p.shown else none
def reprS : List D → Option Val
  | [d] => (repS d).map fun x => .p (.str x)
  | _ => none
def rRepr (K : PySem.W.Frag) : List V → Hp → VK → Prop := fun xs H Q => ∃ v p, xs = [v] ∧ Dp K H v p ∧ p.showable = true ∧ p.hasDict = false ∧ p.depth ≤ 40 ∧ p.shown.length ≤ SZ ∧ Q (.str p.shown) H
theorem call_reprD (hg : X.A.guards = some []) (hu : X.A.units + 64 < cLine) : CallR X (.builtin "repr") (rRepr X.K) := by
  intro pins s σ H xs us Q I r h
  obtain ⟨v, p, rfl, dp, h1, h2, h3, h4, q⟩ := h
  obtain ⟨u, rfl, rv⟩ := vals1 r
  cases dp with
  | non =>
    cases rv
    exact PySem.P.repr_of_none ⟨.str _, H, I.tok _, ⟨_, rfl⟩, q⟩
  | bl b =>
    cases rv
    exact PySem.P.repr_of_bool ⟨.str _, H, I.tok _, ⟨_, rfl⟩, by cases b <;> exact q⟩
  | int i =>
    obtain ⟨t, rfl⟩ := rv
    exact PySem.P.repr_of_int (by simpa [PyData.showable] using h1) ⟨.str _, H, I.tok _, ⟨_, rfl⟩, q⟩
  | str x =>
    obtain ⟨t, rfl⟩ := rv
    exact PySem.P.repr_of_str ⟨.str _, H, I.tok _, ⟨_, rfl⟩, q⟩ h4
  | tup t k =>
    obtain ⟨as, rd⟩ := Dp.reads I _ _ _ (Dp.tup t k) rv
    cases rv
    exact PySem.repr_of_reads' rd h1 (fun z => by rw [h2] at z; cases z) hg (by omega) (fun _ _ e => e) (fun h' u tk hk => ⟨.str _, H, I.kept hk, ⟨_, rfl⟩, q⟩) h4
  | lst t k =>
    obtain ⟨as, rd⟩ := Dp.reads I _ _ _ (Dp.lst t k) rv
    cases rv
    exact PySem.repr_of_reads' rd h1 (fun z => by rw [h2] at z; cases z) hg (by omega) (fun _ _ e => e) (fun h' u tk hk => ⟨.str _, H, I.kept hk, ⟨_, rfl⟩, q⟩) h4
theorem ok_repr (hg : X.A.guards = some []) (hu : X.A.units + 64 < cLine) : CallOk X (.builtin "repr") reprS := ⟨_, call_reprD hg hu, fun {_ _ _ _ _ _ _ _ ds vs z} rel rv ez p => by
  unfold reprS at ez
  split at ez
  · obtain ⟨x, h1, h2⟩ := Option.map_eq_some_iff.mp ez
    subst h2
    unfold repS at h1
    obtain ⟨pd, e1, e2⟩ := Option.bind_eq_some_iff.mp h1
    split at e2
    · rename_i hh
      cases e2
      obtain ⟨v, e3, r⟩ := rpl1 rv
      exact ⟨v, pd, e3, dp_of _ _ _ e1 r, hh.1, hh.2.1, hh.2.2.1, hh.2.2.2, fin0 rel p rfl⟩
    · cases e2
  · cases ez⟩

/-! ### isinstance -/
/-- the type of plain data -/
def tyS : D → Option String
  | .non => some "NoneType"
  | .bl _ => some "bool"
  | .int _ => some "int"
  | .str _ => some "str"
  | .tup _ => some "tuple"
  | .lst _ => some "list"
  | .fl _ => some "list"
  | .dic _ _ => some "dict"
  | _ => none
theorem ty_ok {L : AS} {H : Hp} {d : D} {v : V} {T : String} (e : tyS d = some T) (r : Rp (tx X) L H d v) : TyX X.K H v (.type T) := by
  cases d <;> simp only [tyS, Option.some.injEq, reduceCtorEq] at e <;> subst e
  · cases r; exact .base .non
  · cases r; exact .base (.bl _)
  · cases r; exact .base (.int _)
  · cases r; exact .base (.str _)
  · obtain ⟨a, vs, rfl, t, r⟩ := r
    rcases t with ⟨t | ⟨o, t⟩, _⟩ | ⟨o, its, n, t, c, _⟩
    · exact .base (.tup t)
    · exact .fTuple t
    · exact .kTuple t c
  · obtain ⟨a, vs, rfl, t, n, r⟩ := r
    exact .base (.lst t)
  · obtain ⟨a, vs, rfl, t, r⟩ := r
    rcases t with ⟨t | ⟨o, t⟩, _⟩ | ⟨o, its, n, t, c, _⟩
    · exact .base (.lst t)
    · exact .base (.frz t)
    · exact .kList t c
  · obtain ⟨a, kvs, rfl, t, n, m, r⟩ := r
    exact .base (.dK t)
def kitD (a b : String) : Option Bool := if a = b then some true else if a = "bool" ∧ b = "int" then some true else if a ∈ ["NoneType", "bool", "int", "str", "tuple", "list", "dict"] ∧ b ∈ ["bool", "int", "str", "tuple", "list", "dict"] then some false else none
theorem kitD_ok {a b : String} {r : Bool} (h : kitD a b = some r) : kitB a b = some r := by
  unfold kitD at h
  split at h
  · rename_i e
    subst e; cases h
    unfold kitB
    rw [if_pos (by simp)]
  · split at h
    · rename_i hne e
      obtain ⟨rfl, rfl⟩ := e
      cases h
      decide +kernel
    · split at h
      · rename_i hne hn2 e
        cases h
        obtain ⟨e1, e2⟩ := e
        simp only [List.mem_cons, List.not_mem_nil, or_false] at e1 e2
        rcases e1 with rfl | rfl | rfl | rfl | rfl | rfl | rfl <;> rcases e2 with rfl | rfl | rfl | rfl | rfl | rfl <;> first
          | exact absurd rfl hne
          | exact absurd ⟨rfl, rfl⟩ hn2
          | decide +kernel
      · cases h
def isiS : List D → Option Val
  | [d, .ty T] => (tyS d).bind fun S => (kitD S T).map fun b => .p (.bl b)
  | _ => none
theorem ok_isi : CallOk X (.builtin "isinstance") isiS := ⟨_, call_isi, fun {_ _ _ _ _ _ _ _ ds vs z} rel rv ez p => by
  unfold isiS at ez
  split at ez
  · obtain ⟨S, h1, h2⟩ := Option.bind_eq_some_iff.mp ez
    obtain ⟨b, h3, h4⟩ := Option.map_eq_some_iff.mp h2
    subst h4
    obtain ⟨v, w, e1, e2, e3⟩ := rpl2 rv
    cases e3
    exact ⟨v, _, _, _, b, e1, .ty _, ty_ok h1 e2, kit_ty (kitD_ok h3), fin0 rel p rfl⟩
  · cases ez⟩
end
end M

set_option Elab.async false
set_option linter.all false
set_option maxRecDepth 100000
set_option maxHeartbeats 2000000
/-! M7: statements. -/
namespace M
open PySem PySem.Spec PyProof.Rows L2

/-- how a statement ends -/
inductive Fl where
  | nx | bk | ct | rt (x : Val)
section
variable (G : Tx) (W : WX) (U L : AS) (lent : Nat → Addr) (H : Hp) (D : Ends)
/-- what is asked of a statement's end -/
def PostS : Res Fl → Prop
  | .ok .nx e => ∀ σ L' H', Step U L H L' H' → Rel G U L' lent σ H' e → D.nx σ H'
  | .ok .bk e => ∀ σ L' H', Step U L H L' H' → Rel G U L' lent σ H' e → D.bk σ H'
  | .ok .ct e => ∀ σ L' H', Step U L H L' H' → Rel G U L' lent σ H' e → D.ct σ H'
  | .ok (.rt x) e => ∀ v σ L' H', Step U L H L' H' → Rel G U L' lent σ H' e → RV G U L' σ H' e x v → D.rt v H'
  | .exc c x e => ∀ cls d σ L' H', Step U L H L' H' → Rel G U L' lent σ H' e → ExcAt G L' H' c x cls d → W cls d σ H'
  | .fail => False
end
def rdS (G : Tx) (W : WX) (f : Env → Res Fl) : TS := fun D σ H => ∃ U L lent e, Rel G U L lent σ H e ∧ PostS G W U L lent H D (f e)
abbrev rS (X : Cx) (W : WX) (f : Env → Res Fl) : TS := rdS (tx X) W f
/-- then -/
def Res.seq (r : Res Fl) (g : Env → Res Fl) : Res Fl := match r with
  | .ok .nx e => g e
  | .ok f e => .ok f e
  | .exc c x e => .exc c x e
  | .fail => .fail
/-- a turn of a loop, then the rest -/
def Res.turn (r : Res Fl) (g : Env → Res Fl) : Res Fl := match r with
  | .ok .nx e => g e
  | .ok .ct e => g e
  | .ok .bk e => .ok .nx e
  | .ok (.rt x) e => .ok (.rt x) e
  | .exc c x e => .exc c x e
  | .fail => .fail
section
variable {G : Tx} {W : WX} {U L L1 : AS} {lent : Nat → Addr} {σ : SL} {H H1 : Hp} {D : Ends} {e : Env}
theorem PostS.step {r : Res Fl} (s : Step U L H L1 H1) (p : PostS G W U L lent H D r) : PostS G W U L1 lent H1 D r := by
  cases r with
  | ok f e =>
    cases f with
    | nx => exact fun σ L' H' s' rel => p σ L' H' (s.trans s') rel
    | bk => exact fun σ L' H' s' rel => p σ L' H' (s.trans s') rel
    | ct => exact fun σ L' H' s' rel => p σ L' H' (s.trans s') rel
    | rt x => exact fun v σ L' H' s' rel rv => p v σ L' H' (s.trans s') rel rv
  | exc c x e => exact fun cls d σ L' H' s' rel x => p cls d σ L' H' (s.trans s') rel x
  | fail => exact p
/-- the ends, one by one -/
theorem PostS.seq {r : Res Fl} {g : Env → Res Fl} (p : PostS G W U L lent H D (r.seq g)) : PostS G W U L lent H { D with nx := rdS G W g D } r := by
  cases r with
  | ok f e =>
    cases f with
    | nx => exact fun σ L' H' s rel => ⟨U, L', lent, e, rel, p.step s⟩
    | bk => exact p
    | ct => exact p
    | rt x => exact p
  | exc c x e => exact p
  | fail => exact p
theorem PostS.turn {r : Res Fl} {g : Env → Res Fl} {N : L2.St → Hp → Prop} (p : PostS G W U L lent H D (r.turn g)) (hN : ∀ σ L' H' e, Step U L H L' H' → Rel G U L' lent σ H' e → PostS G W U L' lent H' D (g e) → N σ H') :
    PostS G W U L lent H { D with nx := N, ct := N, bk := D.nx } r := by
  cases r with
  | ok f e =>
    cases f with
    | nx => exact fun σ L' H' s rel => hN σ L' H' e s rel (PostS.step (r := g e) s p)
    | ct => exact fun σ L' H' s rel => hN σ L' H' e s rel (PostS.step (r := g e) s p)
    | bk => exact p
    | rt x => exact p
  | exc c x e => exact p
  | fail => exact p
/-- an expression within a statement -/
theorem PostS.bind {α β : Type} {R : RR α β} {r : Res α} {k : α → Env → Res Fl} {Q : β → Hp → Prop} (p : PostS G W U L lent H D (r.bind k))
    (hq : ∀ v L' H' x e', Step U L H L' H' → Rel G U L' lent σ H' e' → R U L' σ H' e' x v → PostS G W U L' lent H' D (k x e') → Q v H') : Post G W U L lent σ H R Q r := by
  cases r with
  | ok x e' => exact fun v L' H' s rel rv => hq v L' H' x e' s rel rv (PostS.step (r := k x e') s p)
  | exc c x e' => exact fun cls d L' H' s rel x => p cls d σ L' H' s rel x
  | fail => exact p
theorem rdS_of {α β : Type} {R : RR α β} {f : Env → Res α} {k : α → Env → Res Fl} {Q : β → Hp → Prop} (rel : Rel G U L lent σ H e) (p : PostS G W U L lent H D ((f e).bind k))
    (hq : ∀ v L' H' x e', Step U L H L' H' → Rel G U L' lent σ H' e' → R U L' σ H' e' x v → PostS G W U L' lent H' D (k x e') → Q v H') : rd G W R f σ H Q :=
  ⟨U, L, lent, e, rel, p.bind hq⟩
theorem PostS.nx_ (rel : Rel G U L lent σ H e) (p : PostS G W U L lent H D (.ok .nx e)) : D.nx σ H := p σ L H (Step.refl rel.sub) rel
/-- a slot is set -/
theorem Rel.put {i : Nat} {x : Val} {v : V} (rel : Rel G U L lent σ H e) (rv : RV G U L σ H e x v) : Rel G U L lent (σ.set i (some v)) H (e.set i (some x)) := by
  have sg : ∀ {j y}, (e.set i (some x))[j]? = some (some y) → (j = i ∧ y = x ∧ (σ.set i (some v))[j]? = some (some v)) ∨ (j ≠ i ∧ e[j]? = some (some y) ∧ (σ.set i (some v))[j]? = σ[j]?) := fun {j y} h => by
    have hl : j < e.length := by
      have := (List.getElem?_eq_some_iff.mp h).1
      rwa [List.length_set] at this
    rcases set_get h with ⟨e1, e2⟩ | ⟨e1, e2⟩
    · subst e1
      cases e2
      rw [rel.len] at hl
      exact .inl ⟨rfl, rfl, by rw [List.getElem?_set_self hl]⟩
    · exact .inr ⟨e1, e2, by rw [List.getElem?_set_ne (fun z => e1 z.symm)]⟩
  refine ⟨rel.sub, rel.trk, by rw [List.length_set, List.length_set]; exact rel.len, fun j y hy => ?_, fun j k y z w hjk hy hz oy oz s1 s2 => ?_, fun j y hy oy ty => ?_⟩
  · rcases sg hy with ⟨_, e2, e3⟩ | ⟨_, e2, e3⟩
    · subst e2; exact ⟨v, e3, rv.1⟩
    · obtain ⟨w, h1, h2⟩ := rel.at_ j y e2
      exact ⟨w, by rw [e3]; exact h1, h2⟩
  · rcases sg hy with ⟨a1, a2, a3⟩ | ⟨a1, a2, a3⟩
    · rcases sg hz with ⟨b1, b2, b3⟩ | ⟨b1, b2, b3⟩
      · exact hjk (a1.trans b1.symm)
      · subst a2
        rw [a3] at s1; cases s1
        rw [b3] at s2
        exact (rv.2 oy).2 k z b2 oz s2
    · rcases sg hz with ⟨b1, b2, b3⟩ | ⟨b1, b2, b3⟩
      · subst b2
        rw [b3] at s2; cases s2
        rw [a3] at s1
        exact (rv.2 oz).2 j y a2 oy s1
      · rw [a3] at s1; rw [b3] at s2
        exact rel.ne j k y z w hjk a2 b2 oy oz s1 s2
  · rcases sg hy with ⟨_, a2, _⟩ | ⟨_, a2, a3⟩
    · subst a2
      exact absurd (rv.2 oy).1 ty
    · rw [a3]; exact rel.tag j y a2 oy ty
end
section
variable {X : Cx} {W : WX}
theorem pss_nilM : PSs X [] (rS X W fun e => .ok .nx e) := pss_imp pss_nil fun D σ H ⟨U, L, lent, e, rel, p⟩ => p.nx_ rel
theorem pss_consM {st : Stmt} {rest : List Stmt} {f g : Env → Res Fl} (h1 : PS X st (rS X W f)) (h2 : PSs X rest (rS X W g)) : PSs X (st :: rest) (rS X W fun e => (f e).seq g) :=
  pss_imp (pss_cons h1 h2) fun D σ H ⟨U, L, lent, e, rel, p⟩ => ⟨U, L, lent, e, rel, p.seq⟩
theorem ps_passM {pos : Pos} : PS X (.Pass pos) (rS X W fun e => .ok .nx e) := ps_imp ps_pass fun D σ H ⟨U, L, lent, e, rel, p⟩ => p.nx_ rel
theorem ps_breakM {pos : Pos} : PS X (.Break pos) (rS X W fun e => .ok .bk e) := ps_imp ps_break fun D σ H ⟨U, L, lent, e, rel, p⟩ => p σ L H (Step.refl rel.sub) rel
theorem ps_contM {pos : Pos} : PS X (.Continue pos) (rS X W fun e => .ok .ct e) := ps_imp ps_continue fun D σ H ⟨U, L, lent, e, rel, p⟩ => p σ L H (Step.refl rel.sub) rel
theorem ps_docM {x j pos pos'} : PS X (.Expr (.Constant (.str x) j pos) pos') (rS X W fun e => .ok .nx e) := ps_imp ps_doc fun D σ H ⟨U, L, lent, e, rel, p⟩ => p.nx_ rel
theorem ps_exprM {a : Expr} {pos : Pos} {f : Env → Res Val} (ha : PE X a (rE X W f)) (hs : swapsWith a none pos.line X.env = pure false) : PS X (.Expr a pos) (rS X W fun e => (f e).bind fun _ e1 => .ok .nx e1) := by
  refine ps_imp (ps_expr ha hs) ?_
  rintro D σ H ⟨U, L, lent, e, rel, p⟩
  exact rdS_of rel p fun v L1 H1 x e1 s1 rel1 rx p1 => p1.nx_ rel1
theorem ps_retM {a : Expr} {pos : Pos} {f : Env → Res Val} (ha : PE X a (rE X W f)) : PS X (.Return (some a) pos) (rS X W fun e => (f e).bind fun x e1 => .ok (.rt x) e1) := by
  refine ps_imp (ps_ret ha) ?_
  rintro D σ H ⟨U, L, lent, e, rel, p⟩
  exact rdS_of rel p fun v L1 H1 x e1 s1 rel1 rx p1 => p1 v σ L1 H1 (Step.refl rel1.sub) rel1 rx
theorem ps_retNM {pos : Pos} : PS X (.Return none pos) (rS X W fun e => .ok (.rt (.p .non)) e) := by
  refine ps_imp ps_retN ?_
  rintro D σ H ⟨U, L, lent, e, rel, p⟩
  exact p .non σ L H (Step.refl rel.sub) rel ⟨rfl, fun z => nomatch z⟩
theorem ps_ifM {c : Expr} {a b : List Stmt} {pos : Pos} {fc : Env → Res Bool} {f g : Env → Res Fl} (hc : PT X c (rT X W fc)) (ha : PSs X a (rS X W f)) (hb : PSs X b (rS X W g)) :
    PS X (.If c a b pos) (rS X W fun e => (fc e).bind fun t e1 => if t = true then f e1 else g e1) := by
  refine ps_imp (ps_if hc ha hb) ?_
  rintro D σ H ⟨U, L, lent, e, rel, p⟩
  refine rdS_of rel p fun t L1 H1 x e1 s1 rel1 rx p1 => ?_
  cases rx
  cases t with
  | true => rw [if_pos rfl] at p1 ⊢; exact ⟨U, L1, lent, e1, rel1, p1⟩
  | false => rw [if_neg Bool.false_ne_true] at p1 ⊢; exact ⟨U, L1, lent, e1, rel1, p1⟩
/-- name = value -/
theorem ps_setM {i : Nat} {x : Str} {a : Expr} {pos pos' : Pos} {f : Env → Res Val} (hN : X.N.Nodup) (hi : X.N[i]? = some x) (hx : Loc X.env.scope x) (hf : X.fn x = true ∨ X.env.scope.names.lookup x = some .local) (ha : PE X a (rE X W f))
    (hs : swapsWith a (some (.Name x pos')) pos.line X.env = pure false) : PS X (.Assign [.Name x pos'] a pos) (rS X W fun e => (f e).bind fun v e1 => .ok .nx (e1.set i (some v))) := by
  refine ps_imp (ps_set hN hi hx ha hs hf) ?_
  rintro D σ H ⟨U, L, lent, e, rel, p⟩
  exact rdS_of rel p fun v L1 H1 y e1 s1 rel1 rx p1 => p1.nx_ (rel1.put rx)

/-! ### while -/
def whileN (c : Env → Res Bool) (b : Env → Res Fl) : Nat → Env → Option (Res Fl)
  | 0, _ => none
  | n + 1, e => match c e with
    | .ok true e1 => match b e1 with
      | .ok .nx e2 => whileN c b n e2
      | .ok .ct e2 => whileN c b n e2
      | .ok .bk e2 => some (.ok .nx e2)
      | .ok (.rt x) e2 => some (.ok (.rt x) e2)
      | .exc c x e2 => some (.exc c x e2)
      | .fail => some .fail
    | .ok false e1 => some (.ok .nx e1)
    | .exc c x e1 => some (.exc c x e1)
    | .fail => some .fail
theorem whileN_mono {c : Env → Res Bool} {b : Env → Res Fl} : ∀ {n : Nat} {e : Env} {r : Res Fl}, whileN c b n e = some r → whileN c b (n + 1) e = some r
  | 0, _, _, h => by cases h
  | n + 1, e, r, h => by
    rw [whileN] at h ⊢
    cases hc : c e with
    | ok t e1 =>
      rw [hc] at h
      cases t with
      | true =>
        simp only at h ⊢
        cases hb : b e1 with
        | ok f e2 =>
          rw [hb] at h
          cases f with
          | nx => exact whileN_mono h
          | ct => exact whileN_mono h
          | bk => exact h
          | rt x => exact h
        | exc _ _ _ => rw [hb] at h; exact h
        | fail => rw [hb] at h; exact h
      | false => exact h
    | exc _ _ _ => rw [hc] at h; exact h
    | fail => rw [hc] at h; exact h
theorem whileN_le {c : Env → Res Bool} {b : Env → Res Fl} {n m : Nat} {e : Env} {r : Res Fl} (h : whileN c b n e = some r) (hm : n ≤ m) : whileN c b m e = some r := by
  induction hm with
  | refl => exact h
  | step _ ih => exact whileN_mono ih
theorem whileN_inj {c : Env → Res Bool} {b : Env → Res Fl} {n m : Nat} {e : Env} {r r' : Res Fl} (h : whileN c b n e = some r) (h' : whileN c b m e = some r') : r = r' := by
  rcases Nat.le_total n m with l | l
  · rw [whileN_le h l] at h'; exact Option.some.inj h'
  · rw [whileN_le h' l] at h; exact (Option.some.inj h).symm
open Classical in
/-- while c: b -/
noncomputable def whileC (c : Env → Res Bool) (b : Env → Res Fl) (e : Env) : Res Fl :=
  if h : ∃ r n, whileN c b n e = some r then Classical.choose h else .fail
theorem whileC_of {c : Env → Res Bool} {b : Env → Res Fl} {n : Nat} {e : Env} {r : Res Fl} (h : whileN c b n e = some r) : whileC c b e = r := by
  have hx : ∃ r n, whileN c b n e = some r := ⟨r, n, h⟩
  unfold whileC
  rw [dif_pos hx]
  obtain ⟨m, h'⟩ := Classical.choose_spec hx
  exact whileN_inj h' h
theorem whileC_not {c : Env → Res Bool} {b : Env → Res Fl} {e : Env} (h : ¬ ∃ r n, whileN c b n e = some r) : whileC c b e = .fail := by
  unfold whileC
  rw [dif_neg h]
theorem whileC_unfold (c : Env → Res Bool) (b : Env → Res Fl) (e : Env) : whileC c b e = (c e).bind fun t e1 => if t = true then (b e1).turn (whileC c b) else .ok .nx e1 := by
  have one : ∀ r, whileN c b 1 e = some r → whileC c b e = r := fun r => whileC_of
  cases hc : c e with
  | ok t e1 =>
    cases t with
    | false => rw [whileC_of (n := 1) (r := .ok .nx e1) (by rw [whileN, hc])]; rfl
    | true =>
      have next : ∀ e2, (∀ n, whileN c b (n + 1) e = whileN c b n e2) → whileC c b e = whileC c b e2 := fun e2 hn => by
        by_cases hx : ∃ r n, whileN c b n e2 = some r
        · obtain ⟨r, n, h⟩ := hx
          rw [whileC_of h, whileC_of ((hn n).trans h)]
        · rw [whileC_not hx, whileC_not]
          rintro ⟨r, n, h⟩
          cases n with
          | zero => cases h
          | succ n => exact hx ⟨r, n, (hn n).symm.trans h⟩
      simp only [bind_ok, if_true]
      cases hb : b e1 with
      | ok f e2 =>
        cases f with
        | nx => exact next e2 fun n => by rw [whileN, hc]; simp only [hb]
        | ct => exact next e2 fun n => by rw [whileN, hc]; simp only [hb]
        | bk => exact whileC_of (n := 1) (by rw [whileN, hc]; simp only [hb]; rfl)
        | rt x => exact whileC_of (n := 1) (by rw [whileN, hc]; simp only [hb]; rfl)
      | exc _ _ _ => exact whileC_of (n := 1) (by rw [whileN, hc]; simp only [hb]; rfl)
      | fail => exact whileC_of (n := 1) (by rw [whileN, hc]; simp only [hb]; rfl)
  | exc _ _ _ => exact whileC_of (n := 1) (by rw [whileN, hc]; rfl)
  | fail => exact whileC_of (n := 1) (by rw [whileN, hc]; rfl)
theorem ps_whileM {c : Expr} {body : List Stmt} {pos : Pos} {fc : Env → Res Bool} {f : Env → Res Fl} (hp : PassesOwn (model X.prog X.w) X.A X.env X.xe) (hc : PT X c (rT X W fc)) (hb : PSs X body (rS X W f)) :
    PS X (.While c body [] pos) (rS X W (whileC fc f)) := by
  refine ps_imp (ps_while hp hc hb) ?_
  rintro D σ H ⟨U, L, lent, e, rel, p⟩
  refine ⟨fun m σ H => ∃ U L lent e r, Rel (tx X) U L lent σ H e ∧ whileN fc f m e = some r ∧ PostS (tx X) W U L lent H D r, ?_, ?_⟩
  · by_cases hx : ∃ r n, whileN fc f n e = some r
    · obtain ⟨r, n, h⟩ := hx
      rw [whileC_of h] at p
      exact ⟨n, U, L, lent, e, r, rel, h, p⟩
    · rw [whileC_not hx] at p; exact p.elim
  · rintro m σ H ⟨U, L, lent, e, r, rel, hm, p⟩
    cases m with
    | zero => cases hm
    | succ m =>
      have p' : PostS (tx X) W U L lent H D ((fc e).bind fun t e1 => if t = true then (f e1).turn (whileC fc f) else .ok .nx e1) := by
        rw [← whileC_unfold, whileC_of hm]; exact p
      have key : ∀ e1, fc e = .ok true e1 → ∀ e2, (f e1 = .ok .nx e2 ∨ f e1 = .ok .ct e2) → whileN fc f m e2 = some r := fun e1 hc e2 hf => by
        rw [whileN, hc] at hm
        rcases hf with hf | hf <;> (simp only [hf] at hm; exact hm)
      show rT X W fc σ H _
      refine ⟨U, L, lent, e, rel, ?_⟩
      cases hce : fc e with
      | fail => rw [hce] at p'; exact p'
      | exc _ _ _ => rw [hce] at p'; exact fun cls d L' H' s rel x => p' cls d σ L' H' s rel x
      | ok t e1 =>
        rw [hce] at p'
        simp only [bind_ok] at p'
        intro t' L1 H1 s1 rel1 et
        cases et
        cases t with
        | false =>
          rw [if_neg Bool.false_ne_true] at p' ⊢
          exact p' σ L1 H1 s1 rel1
        | true =>
          rw [if_pos rfl] at p' ⊢
          refine ⟨fun σ H => ∃ U L lent e, Rel (tx X) U L lent σ H e ∧ whileN fc f m e = some r ∧ PostS (tx X) W U L lent H D r, fun σ' H' ⟨U, L, lent, e, a, b, c⟩ => ⟨m, Nat.lt_succ_self m, U, L, lent, e, r, a, b, c⟩, U, L1, lent, e1, rel1, ?_⟩
          have p1 := PostS.step s1 p'
          have k := key e1 hce
          cases hfe : f e1 with
          | fail => rw [hfe] at p1; exact p1
          | exc _ _ _ => rw [hfe] at p1; exact p1
          | ok fl e2 =>
            rw [hfe] at p1
            cases fl with
            | nx =>
              have k2 := k e2 (.inl hfe)
              have p2 : PostS (tx X) W U L1 lent H1 D (whileC fc f e2) := p1
              rw [whileC_of k2] at p2
              exact fun σ' L' H' s rel' => ⟨U, L', lent, e2, rel', k2, PostS.step s p2⟩
            | ct =>
              have k2 := k e2 (.inr hfe)
              have p2 : PostS (tx X) W U L1 lent H1 D (whileC fc f e2) := p1
              rw [whileC_of k2] at p2
              exact fun σ' L' H' s rel' => ⟨U, L', lent, e2, rel', k2, PostS.step s p2⟩
            | bk => exact p1
            | rt x => exact p1
end
end M

set_option Elab.async false
set_option linter.all false
set_option maxRecDepth 100000
set_option maxHeartbeats 2000000
/-! M8: targets, writes to own things, walks, for, comprehensions. -/
namespace M
open PySem PySem.Spec PyProof.Rows L2

/-! ### writing to an own thing -/
section
variable {G : Tx} {U L : AS} {lent : Nat → Addr} {σ : SL} {H : Hp} {e : Env}
theorem Step.wr {a : Addr} {o : HO} (sub : ∀ a, U a → L a) (l : L a) (nu : ¬ U a) : Step U L H L (upd H a o) :=
  ⟨fun b u h n => by
    by_cases eb : b = a
    · subst eb; exact absurd (n l) nu
    · rw [upd_ne eb]; exact h, fun _ _ _ n => n, sub⟩
theorem Rel.wr {i : Nat} {x y : Val} {a : Addr} {o : HO} (rel : Rel G U L lent σ H e) (hx : e[i]? = some (some x)) (ox : x.isOwn = true) (hs : σ[i]? = some (some (.ref a))) (l : L a) (nu : ¬ U a) (oy : y.isOwn = true) (ty : y.tag = x.tag)
    (ry : RpV G U L (upd H a o) y (.ref a)) : Rel G U L lent σ (upd H a o) (e.set i (some y)) := by
  have st : Step U L H L (upd H a o) := Step.wr rel.sub l nu
  have hl : i < e.length := (List.getElem?_eq_some_iff.mp hx).1
  refine ⟨rel.sub, fun b lb => ?_, by rw [List.length_set]; exact rel.len, fun j z hz => ?_, fun j k z w v hjk hz hw oz ow s1 s2 => ?_, fun j z hz oz tz => ?_⟩
  · by_cases eb : b = a
    · rw [eb]; exact ⟨o, upd_same⟩
    · obtain ⟨u, h⟩ := rel.trk b lb
      exact ⟨u, by rw [upd_ne eb]; exact h⟩
  · rcases set_get hz with ⟨e1, e2⟩ | ⟨e1, e2⟩
    · subst e1; cases e2; exact ⟨_, hs, ry⟩
    · obtain ⟨v, h1, h2⟩ := rel.at_ j z e2
      refine ⟨v, h1, ?_⟩
      by_cases oz : z.isOwn = true
      · obtain ⟨b, ob, rfl, lb, nb, hb⟩ := own_addr oz h2
        have hab : b ≠ a := fun q => by
          subst q
          exact rel.ne i j x z _ (fun q => e1 q.symm) hx e2 ox oz hs h1
        cases z with
        | p d => cases oz
        | own t xs => obtain ⟨c, vs, ev, l, u, h, r⟩ := h2; cases ev; exact ⟨b, vs, rfl, l, u, by rw [upd_ne hab]; exact h, RpL.step st r⟩
        | od t ks ds => obtain ⟨c, vs, ev, l, u, h, m, r⟩ := h2; cases ev; exact ⟨b, vs, rfl, l, u, by rw [upd_ne hab]; exact h, m, RpL.step st r⟩
        | oo t c ns ds => obtain ⟨c', C, dx, fs, ev, l, u, g, h, m, r⟩ := h2; cases ev; exact ⟨b, C, dx, fs, rfl, l, u, g, by rw [upd_ne hab]; exact h, m, RpL.step st r⟩
      · cases z with
        | p d => exact Rp.step st h2
        | _ => exact absurd rfl oz
  · have nz : ∀ {j : Nat} {z : Val}, (e.set i (some y))[j]? = some (some z) → ∃ z', e[j]? = some (some z') ∧ (z.isOwn = true → z'.isOwn = true) := fun {j z} hz => by
      rcases set_get hz with ⟨e1, e2⟩ | ⟨_, e2⟩
      · subst e1; exact ⟨x, hx, fun _ => ox⟩
      · exact ⟨z, e2, id⟩
    obtain ⟨z', h1, h2⟩ := nz hz
    obtain ⟨w', h3, h4⟩ := nz hw
    exact rel.ne j k z' w' v hjk h1 h3 (h2 oz) (h4 ow) s1 s2
  · rcases set_get hz with ⟨e1, e2⟩ | ⟨_, e2⟩
    · subst e1; cases e2
      rw [ty] at tz ⊢
      exact rel.tag j x hx ox tz
    · exact rel.tag j z e2 oz tz
end

/-! ### targets -/
section
variable {X : Cx} {W : WX}
/-- the reading of a target: what it does with plain data -/
def rG (X : Cx) (W : WX) (f : D → Env → Res Fl) : TG := fun v σ H Q => ∃ U L lent e d D, Rel (tx X) U L lent σ H e ∧ Rp (tx X) L H d v ∧ D.nx = Q ∧ PostS (tx X) W U L lent H D (f d e)
def rGs (X : Cx) (W : WX) (f : List D → Env → Res Fl) : TGs := fun vs σ H Q => ∃ U L lent e ds D, Rel (tx X) U L lent σ H e ∧ RpL (tx X) L H ds vs ∧ D.nx = Q ∧ PostS (tx X) W U L lent H D (f ds e)
theorem pg_imp {a : Expr} {t t' : TG} (h : PG X a t) (i : ∀ v σ H Q, t' v σ H Q → t v σ H Q) : PG X a t' := ⟨fun pins s σ H v u Q I r q => h.run pins s σ H v u Q I r (i v σ H Q q)⟩
theorem pgs_imp {a : List Expr} {t t' : TGs} (h : PGs X a t) (i : ∀ v σ H Q, t' v σ H Q → t v σ H Q) : PGs X a t' := ⟨fun pins s σ H v u Q I r q => h.run pins s σ H v u Q I r (i v σ H Q q)⟩
theorem pg_nameM {i : Nat} {x : Str} {pos : Pos} (hN : X.N.Nodup) (hi : X.N[i]? = some x) (hx : Loc X.env.scope x) (hf : X.fn x = true ∨ X.env.scope.names.lookup x = some .local) :
    PG X (.Name x pos) (rG X W fun d e => .ok .nx (e.set i (some (.p d)))) := by
  refine pg_imp (pg_name hN hi hx hf) ?_
  rintro v σ H Q ⟨U, L, lent, e, d, D, rel, rd, rfl, p⟩
  exact p.nx_ (rel.put (x := .p d) ⟨rd, fun z => nomatch z⟩)
def nilT : List D → Env → Res Fl := fun ds e => match ds with
  | [] => .ok .nx e
  | _ => .fail
def consT (f : D → Env → Res Fl) (g : List D → Env → Res Fl) : List D → Env → Res Fl := fun ds e => match ds with
  | d :: ds => (f d e).seq (g ds)
  | [] => .fail
theorem pgs_nilM : PGs X [] (rGs X W nilT) := by
  refine pgs_imp pgs_nil ?_
  rintro vs σ H Q ⟨U, L, lent, e, ds, D, rel, rd, rfl, p⟩
  cases ds with
  | nil => cases rd; exact ⟨rfl, p.nx_ rel⟩
  | cons d ds => exact p.elim
/-- targets without a star -/
def nst (e : Expr) : Bool := match e with
  | .Starred _ _ => false
  | _ => true
theorem asg_star {e : Expr} {es : List Expr} {env : PySem.Env} (h : nst e = true) : assignEach (e :: es) env = (false, assign e env) :: assignEach es env := by
  cases e <;> first | rfl | cases h
theorem asg_len {env : PySem.Env} : ∀ {es : List Expr}, (assignEach es env).length = es.length
  | [] => rfl
  | e :: es => by
    have : ∃ q, assignEach (e :: es) env = q :: assignEach es env := by cases e <;> exact ⟨_, rfl⟩
    obtain ⟨q, hq⟩ := this
    rw [hq, List.length_cons, List.length_cons, asg_len]
theorem asg_none {env : PySem.Env} : ∀ {es : List Expr}, es.all nst = true → (assignEach es env).findIdx? (·.1) = none
  | [], _ => rfl
  | e :: es, h => by
    rw [List.all_cons, Bool.and_eq_true] at h
    rw [asg_star h.1, List.findIdx?_cons, asg_none h.2]
    rfl
theorem pgs_consM {a : Expr} {es : List Expr} {f : D → Env → Res Fl} {g : List D → Env → Res Fl} (h1 : PG X a (rG X W f)) (h2 : PGs X es (rGs X W g)) (hs : nst a = true) : PGs X (a :: es) (rGs X W (consT f g)) := by
  refine pgs_imp (pgs_cons h1 h2 (by rw [asg_star hs]; rfl)) ?_
  rintro vs σ H Q ⟨U, L, lent, e, ds, D, rel, rd, rfl, p⟩
  cases ds with
  | nil => exact p.elim
  | cons d ds =>
    obtain ⟨v, vs', rfl, r1, r2⟩ := rd
    refine ⟨v, vs', rfl, U, L, lent, e, d, { D with nx := _ }, rel, r1, rfl, ?_⟩
    simp only [consT] at p
    cases hf : f d e with
    | ok fl e2 =>
      rw [hf] at p
      cases fl with
      | nx => exact fun σ' L' H' s rel' => ⟨U, L', lent, e2, ds, D, rel', RpL.step s r2, rfl, PostS.step (r := g ds e2) s p⟩
      | bk => exact p
      | ct => exact p
      | rt x => exact p
    | exc c x e2 => rw [hf] at p; exact p
    | fail => rw [hf] at p; exact p
def tupT (n : Nat) (g : List D → Env → Res Fl) : D → Env → Res Fl := fun d e => match d with
  | .tup ds => if ds.length = n then g ds e else .fail
  | _ => .fail
theorem pg_tupM {es : List Expr} {k : Nat} {pos : Pos} {g : List D → Env → Res Fl} (hc : X.calm = true) (h : PGs X es (rGs X W g)) (hs : es.all nst = true) : PG X (.Tuple es k pos) (rG X W (tupT es.length g)) := by
  refine pg_imp (pg_tup (n := es.length) hc h asg_len (asg_none hs)) ?_
  rintro v σ H Q ⟨U, L, lent, e, d, D, rel, rd, rfl, p⟩
  cases d <;> try exact p.elim
  rename_i ds
  obtain ⟨a, us, rfl, t, r⟩ := rd
  simp only [tupT] at p
  split at p
  · rename_i hl
    exact ⟨a, us, rfl, t.sq, by rw [← r.length]; exact hl, U, L, lent, e, ds, D, rel, r, rfl, p⟩
  · exact p.elim
/-! ### name[e] = data -/
def putD : List Key → List D → Key → D → List Key × List D
  | k :: ks, d :: ds, q, v => if k = q then (k :: ks, v :: ds) else ((k :: (putD ks ds q v).1), (d :: (putD ks ds q v).2))
  | ks, ds, q, v => (ks ++ [q], ds ++ [v])
/-- the list or dict x with v at y -/
def setS : Val → D → D → Option Val
  | .own t xs, .int i, v => (ixN xs.length i).map fun j => .own t (xs.set j v)
  | .od t ks ds, y, v => (keyOf y).bind fun k => if ks.length < SZ ∧ ks.Nodup ∧ ks.length = ds.length then some (.od t (putD ks ds k v).1 (putD ks ds k v).2) else none
  | _, _, _ => none
theorem putK_map {L : AS} {H : Hp} {k : Key} {d : D} {v : V} (rv : Rp (tx X) L H d v) : ∀ {ks : List Key} {ds : List D} {kvs : List (Key × V)}, ks.Nodup → kvs.map (·.1) = ks → RpL (tx X) L H ds (kvs.map (·.2)) →
    (putK kvs k v).map (·.1) = (putD ks ds k d).1 ∧ RpL (tx X) L H (putD ks ds k d).2 ((putK kvs k v).map (·.2))
  | [], [], [], _, _, _ => ⟨rfl, .cons rv .nil⟩
  | [], [], _ :: _, _, h, _ => by cases h
  | [], _ :: _, kvs, _, h, r => by
    have e : kvs = [] := List.map_eq_nil_iff.mp h
    subst e
    obtain ⟨_, _, h, _⟩ := r
    cases h
  | _ :: _, _, [], _, h, _ => by cases h
  | q :: ks, [], p :: r, _, _, h => by cases h
  | q :: ks, d0 :: ds, p :: r, nd, e, ⟨v0, vs', e2, h, t⟩ => by
    simp only [List.map_cons, List.cons.injEq] at e e2
    obtain ⟨e, er⟩ := e
    obtain ⟨e2, e3⟩ := e2
    subst e er
    subst e2 e3
    obtain ⟨n1, n2⟩ := List.nodup_cons.mp nd
    have ih := putK_map (k := k) (d := d) (v := v) rv n2 rfl t
    by_cases hk : p.1 = k
    · have hno : (r.any fun kv => decide (kv.1 = k)) = false := by
        rw [List.any_eq_false]
        intro z hz q
        have : z.1 = k := by simpa using q
        exact n1 (by rw [hk, ← this]; exact List.mem_map.mpr ⟨z, hz, rfl⟩)
      have hmap : r.map (fun kv => if kv.1 = k then (kv.1, v) else kv) = r := by
        have hm := List.map_congr_left (l := r) (f := fun kv => if kv.1 = k then (kv.1, v) else kv) (g := id) fun z hz => by
          have : ¬ z.1 = k := fun q => n1 (by rw [hk, ← q]; exact List.mem_map.mpr ⟨z, hz, rfl⟩)
          show (if z.1 = k then (z.1, v) else z) = z
          rw [if_neg this]
        rw [hm, List.map_id]
      have e4 : putK (p :: r) k v = (p.1, v) :: r := by
        unfold putK
        rw [List.any_cons, show decide (p.1 = k) = true by simpa using hk, Bool.true_or, if_pos rfl, List.map_cons, if_pos hk, hmap]
      rw [e4]
      simp only [putD, if_pos hk, List.map_cons]
      exact ⟨trivial, .cons rv t⟩
    · have e4 : putK (p :: r) k v = p :: putK r k v := by
        unfold putK
        rw [List.any_cons, show decide (p.1 = k) = false by simpa using hk, Bool.false_or]
        split
        · rw [List.map_cons, if_neg hk]
        · rfl
      rw [e4]
      simp only [putD, if_neg hk, List.map_cons]
      exact ⟨by rw [ih.1], .cons h ih.2⟩
def rSet4 : TSet := fun o i v H Q => rSetL o i v H Q ∨ rSetD o i v H Q
theorem set_all (hu : X.A.units + 1 < cLine) : PSet X rSet4 := by
  intro pins s σ H o i v ov iv u Q I ro ri rv h
  rcases h with h | h
  · exact set_list pins s σ H o i v ov iv u Q I ro ri rv h
  · exact set_dict hu pins s σ H o i v ov iv u Q I ro ri rv h
theorem set_rp {U L : AS} {x z : Val} {y d : D} {a : Addr} {w v : V} {H : Hp} (rx : RpV (tx X) U L H x (.ref a)) (ry : Rp (tx X) L H y w) (rd : Rp (tx X) L H d v) (la : L a) (nu : ¬ U a) (su : ∀ a, U a → L a) (ez : setS x y d = some z) :
    z.isOwn = true ∧ z.tag = x.tag ∧ ∃ o, RpV (tx X) U L (upd H a o) z (.ref a) ∧ ∀ Q : Hp → Prop, Q (upd H a o) → rSet4 (.ref a) w v H Q := by
  have st : ∀ o, Step U L H L (upd H a o) := fun o => Step.wr su la nu
  cases x with
  | own t xs =>
    cases y <;> simp only [setS, reduceCtorEq] at ez
    cases ry
    obtain ⟨b, vs, eb, l, nb, t, r⟩ := rx
    cases eb
    obtain ⟨j, h1, h2⟩ := Option.map_eq_some_iff.mp ez
    subst h2
    exact ⟨rfl, rfl, _, ⟨a, _, rfl, la, nu, upd_same, RpL.step (st _) (r.set j rd)⟩, fun Q q => .inl ⟨a, vs, _, j, rfl, rfl, t, by rw [← r.length]; exact h1, q⟩⟩
  | od t ks ds =>
    have ez : (keyOf y).bind (fun k => if ks.length < SZ ∧ ks.Nodup ∧ ks.length = ds.length then some (Val.od t (putD ks ds k d).1 (putD ks ds k d).2) else none) = some z := by cases y <;> simpa only [setS] using ez
    obtain ⟨k, e1, e2⟩ := Option.bind_eq_some_iff.mp ez
    split at e2
    · rename_i hh
      cases e2
      obtain ⟨b, kvs, eb, l, nb, t, m, r⟩ := rx
      cases eb
      obtain ⟨p1, p2⟩ := putK_map (k := k) (d := d) (v := v) rd hh.2.1 m r
      refine ⟨rfl, rfl, _, ⟨a, _, rfl, la, nu, upd_same, p1, RpL.step (st _) p2⟩, fun Q q => .inr ⟨a, _, rfl, ?_, q⟩⟩
      rw [key_rp e1 ry]
      refine DPut.k t ?_
      have := congrArg List.length m
      rw [List.length_map] at this
      rw [this]; exact hh.1
    · cases e2
  | p _ => cases y <;> simp only [setS, reduceCtorEq] at ez
  | oo _ _ _ _ => cases y <;> simp only [setS, reduceCtorEq] at ez
/-- n[ie] = .. -/
def subT (i : Nat) (fi : Env → Res D) : D → Env → Res Fl := fun d e => match e[i]? with
  | some (some _) => (fi e).bind fun y e1 => match e1[i]? with
    | some (some x) => (lift (setS x y d) e1).bind fun z e2 => .ok .nx (e2.set i (some z))
    | _ => .fail
  | _ => .fail
theorem pg_subM {i : Nat} {x : Str} {b : Expr} {p1 pos : Pos} {fi : Env → Res D} (hu : X.A.units + 1 < cLine) (hN : X.N[i]? = some x) (hv : Vis X.env.scope x) (hd : (x == ("__debug__" : Str)) = false) (hcd : (x == ("__classdict__" : Str)) = false)
    (hb : PE X b (rP X W fi)) (ha : ∀ v, assign (.Subscript (.Name x p1) b pos) X.env v = (do
      let ov ← holding [v] (eval (.Name x p1) X.env)
      let iv ← holding [v, ov] (eval b X.env)
      standAt pos
      holding [v, ov, iv] (setItem ov iv v)
      release [v, ov, iv] [])) : PG X (.Subscript (.Name x p1) b pos) (rG X W (subT i fi)) := by
  refine pg_imp (pg_sub (pe_var hN hv hd hcd) hb (set_all hu) ha) ?_
  rintro v σ H Q ⟨U, L, lent, e, d, D, rel, rd, rfl, p⟩
  simp only [subT] at p
  split at p
  · rename_i x0 hx0
    obtain ⟨w0, h0, _⟩ := rel.at_ i x0 hx0
    refine ⟨w0, h0, rdS_of rel p fun w L1 H1 y e1 s1 rel1 ry p1 => ?_⟩
    split at p1
    · rename_i x1 hx1
      cases ez : setS x1 y d with
      | none => rw [ez] at p1; exact p1.elim
      | some z =>
        rw [ez] at p1
        obtain ⟨w1, h1, h2⟩ := rel1.at_ i x1 hx1
        rw [h0] at h1; cases h1
        have ox : x1.isOwn = true := by
          cases x1 with
          | p _ => cases y <;> simp only [setS, reduceCtorEq] at ez
          | _ => rfl
        obtain ⟨a, o0, rfl, la, nu, _⟩ := own_addr ox h2
        obtain ⟨oz, tz, o, rz, k⟩ := set_rp h2 ry (Rp.step s1 rd) la nu rel1.sub ez
        exact k _ (p1 σ L1 _ (Step.wr rel1.sub la nu) (rel1.wr hx1 ox h0 la nu oz tz rz))
    · exact p1.elim
  · exact p.elim
/-- target = value, any target, by plain data -/
theorem ps_asgM {tg a : Expr} {pos : Pos} {f : Env → Res D} {g : D → Env → Res Fl} (ha : PE X a (rP X W f)) (hg : PG X tg (rG X W g)) (hs : swapsWithSole [tg] a pos.line X.env = pure false) (hw : swappedStores [tg] a X.env = pure none)
    (h1 : (assignEach [tg] X.env).map (·.2) = [assign tg X.env]) : PS X (.Assign [tg] a pos) (rS X W fun e => (f e).bind g) := by
  refine ps_imp (ps_asg ha hg hs hw h1) ?_
  rintro D σ H ⟨U, L, lent, e, rel, p⟩
  exact rdS_of rel p fun v L1 H1 d e1 s1 rel1 rd p1 => ⟨U, L1, lent, e1, d, D, rel1, rd, rfl, p1⟩
end
end M

set_option Elab.async false
set_option linter.all false
set_option maxRecDepth 100000
set_option maxHeartbeats 2000000
/-! M9: walks, for, comprehensions. -/
namespace M
open PySem PySem.Spec PyProof.Rows L2

section
variable {G : Tx} {U U' L L1 : AS} {lent : Nat → Addr} {σ : SL} {H H1 : Hp} {e : Env}
theorem RpV.weak {x : Val} {v : V} (hu : ∀ a, U a → U' a) (h : RpV G U' L H x v) : RpV G U L H x v := by
  cases x with
  | p d => exact h
  | own t xs => obtain ⟨a, vs, ev, l, u, h, r⟩ := h; exact ⟨a, vs, ev, l, fun z => u (hu a z), h, r⟩
  | od t ks ds => obtain ⟨a, vs, ev, l, u, h, m, r⟩ := h; exact ⟨a, vs, ev, l, fun z => u (hu a z), h, m, r⟩
  | oo t c ns ds => obtain ⟨a, C, dx, fs, ev, l, u, g, h, m, r⟩ := h; exact ⟨a, C, dx, fs, ev, l, fun z => u (hu a z), g, h, m, r⟩
theorem RpV.nu {x : Val} {a : Addr} (ho : x.isOwn = true) (h : RpV G U L H x (.ref a)) : L a ∧ ¬ U a := by
  obtain ⟨b, o, e, l, u, _⟩ := own_addr ho h
  cases e
  exact ⟨l, u⟩
/-- fewer things held by others -/
theorem Rel.weak (rel : Rel G U' L lent σ H e) (hu : ∀ a, U a → U' a) : Rel G U L lent σ H e :=
  ⟨fun a u => rel.sub a (hu a u), rel.trk, rel.len, fun i x h => let ⟨v, h1, h2⟩ := rel.at_ i x h; ⟨v, h1, h2.weak hu⟩, rel.ne, rel.tag⟩
theorem Step.weak (s : Step U' L H L1 H1) (hu : ∀ a, U a → U' a) : Step U L H L1 H1 := ⟨fun a o h n => s.keep a o h fun l => hu a (n l), s.out, fun a u => s.sub a (hu a u)⟩
/-- a new thing at q that nobody may touch -/
theorem Rel.hold {q : Addr} {o : HO} (rel : Rel G U L lent σ H e) (nq : H q = none) : Rel G (M.adds U q) (M.adds L q) lent σ (upd H q o) e := by
  have r := rel.adds (o := o) nq
  refine ⟨fun a u => u.elim (fun z => .inl (rel.sub a z)) .inr, r.trk, r.len, fun i x h => ?_, r.ne, r.tag⟩
  obtain ⟨v, h1, h2⟩ := r.at_ i x h
  refine ⟨v, h1, ?_⟩
  have fr := rel.fresh nq i x h
  cases x with
  | p d => exact h2
  | own t xs => obtain ⟨a, vs, ev, l, u, h, r⟩ := h2; exact ⟨a, vs, ev, l, fun z => z.elim u fun z => fr rfl (by rw [h1, ev, z]), h, r⟩
  | od t ks ds => obtain ⟨a, vs, ev, l, u, h, m, r⟩ := h2; exact ⟨a, vs, ev, l, fun z => z.elim u fun z => fr rfl (by rw [h1, ev, z]), h, m, r⟩
  | oo t c ns ds => obtain ⟨a, C, dx, fs, ev, l, u, g, h, m, r⟩ := h2; exact ⟨a, C, dx, fs, ev, l, fun z => z.elim u fun z => fr rfl (by rw [h1, ev, z]), g, h, m, r⟩
theorem Keep.wrU {q : Addr} {o : HO} (l : L q) : Keep L H L (upd H q o) := fun a u h n => ⟨by
  rw [upd_ne fun z => n (by rw [z]; exact l)]; exact h, n⟩
/-- a thing that no slot owns is written -/
theorem Rel.wrU {q : Addr} {o : HO} (rel : Rel G U L lent σ H e) (u : U q) : Rel G U L lent σ (upd H q o) e := by
  have l := rel.sub q u
  refine ⟨rel.sub, fun b lb => ?_, rel.len, fun i x h => ?_, rel.ne, rel.tag⟩
  · by_cases eb : b = q
    · rw [eb]; exact ⟨o, upd_same⟩
    · obtain ⟨w, h⟩ := rel.trk b lb
      exact ⟨w, by rw [upd_ne eb]; exact h⟩
  · obtain ⟨v, h1, h2⟩ := rel.at_ i x h
    exact ⟨v, h1, h2.of (Keep.wrU l) fun a la nu w hw => ⟨la, by rw [upd_ne fun z => nu (by rw [z]; exact u)]; exact hw⟩⟩
/-- slots forgotten -/
def wipeE (e : Env) : List Nat → Env
  | [] => e
  | v :: vs => (wipeE e vs).set v none
theorem wipeE_some {i : Nat} {x : Val} : ∀ {vs : List Nat}, (wipeE e vs)[i]? = some (some x) → e[i]? = some (some x) ∧ i ∉ vs
  | [], h => ⟨h, by simp⟩
  | v :: vs, h => by
    unfold wipeE at h
    rcases set_get h with ⟨_, e2⟩ | ⟨e1, e2⟩
    · cases e2
    · obtain ⟨a, b⟩ := wipeE_some e2
      exact ⟨a, fun z => (List.mem_cons.mp z).elim (fun z => e1 z) b⟩
theorem wipeE_length : ∀ {vs : List Nat}, (wipeE e vs).length = e.length
  | [] => rfl
  | v :: vs => by unfold wipeE; rw [List.length_set, wipeE_length]
theorem wipe_out' {i : Nat} : ∀ {vs : List Nat}, i ∉ vs → (wipe σ vs)[i]? = σ[i]?
  | [], _ => rfl
  | v :: vs, h => by
    obtain ⟨h1, h2⟩ : ¬ i = v ∧ i ∉ vs := by simpa [not_or] using h
    unfold wipe
    rw [List.getElem?_set_ne (fun z => h1 z.symm), wipe_out' h2]
theorem Rel.wipe {vs : List Nat} (rel : Rel G U L lent σ H e) : Rel G U L lent (L2.wipe σ vs) H (wipeE e vs) :=
  ⟨rel.sub, rel.trk, by rw [wipeE_length, wipe_length]; exact rel.len, fun i x h => by
    obtain ⟨a, b⟩ := wipeE_some h
    obtain ⟨v, h1, h2⟩ := rel.at_ i x a
    exact ⟨v, by rw [wipe_out' b]; exact h1, h2⟩, fun i j x y v hij hx hy ox oy s1 s2 => by
    obtain ⟨a, b⟩ := wipeE_some hx
    obtain ⟨c, d⟩ := wipeE_some hy
    rw [wipe_out' b] at s1
    rw [wipe_out' d] at s2
    exact rel.ne i j x y v hij a c ox oy s1 s2, fun i x h ox tx => by
    obtain ⟨a, b⟩ := wipeE_some h
    rw [wipe_out' b]
    exact rel.tag i x a ox tx⟩
theorem Rel.unwipe {vs : List Nat} (rel : Rel G U L lent (L2.wipe σ vs) H e) : Rel G U L lent σ H e := by
  have back : ∀ {i x}, e[i]? = some (some x) → (L2.wipe σ vs)[i]? = σ[i]? := fun {i x} h => by
    obtain ⟨v, h1, _⟩ := rel.at_ i x h
    rw [h1, (wipe_some h1).1]
  exact ⟨rel.sub, rel.trk, by rw [rel.len, wipe_length], fun i x h => let ⟨v, h1, h2⟩ := rel.at_ i x h; ⟨v, (wipe_some h1).1, h2⟩,
    fun i j x y v hij hx hy ox oy s1 s2 => rel.ne i j x y v hij hx hy ox oy ((back hx).trans s1) ((back hy).trans s2), fun i x h ox tx => (back h).symm.trans (rel.tag i x h ox tx)⟩
theorem wipe_set {i : Nat} {v : Option V} : ∀ {vs : List Nat} {σ : SL}, i ∈ vs → L2.wipe (σ.set i v) vs = L2.wipe σ vs
  | w :: vs, σ, h => by
    by_cases c : i ∈ vs
    · unfold L2.wipe
      rw [wipe_set c]
    · rcases List.mem_cons.mp h with rfl | h
      · unfold L2.wipe
        have : ∀ {vs : List Nat} {σ : SL}, i ∉ vs → L2.wipe (σ.set i v) vs = (L2.wipe σ vs).set i v := fun {vs} {σ} => by
          intro c
          induction vs with
          | nil => rfl
          | cons w vs ih =>
            obtain ⟨h1, h2⟩ : ¬ i = w ∧ i ∉ vs := by simpa [not_or] using c
            unfold L2.wipe
            rw [ih h2, List.set_comm _ _ (fun z => h1 z)]
        rw [this c, List.set_set]
      · exact absurd h c
theorem wipe_idem : ∀ {vs : List Nat} {σ : SL}, L2.wipe (L2.wipe σ vs) vs = L2.wipe σ vs := fun {vs σ} => by
  have : ∀ {ws : List Nat}, (∀ w ∈ ws, w ∈ vs) → L2.wipe (L2.wipe σ ws) vs = L2.wipe σ vs := fun {ws} => by
    induction ws with
    | nil => intro _; rfl
    | cons w ws ih =>
      intro h
      show L2.wipe ((L2.wipe σ ws).set w none) vs = _
      rw [wipe_set (h w List.mem_cons_self), ih fun z hz => h z (List.mem_cons_of_mem _ hz)]
  exact this fun _ h => h
end

/-! ### walks -/
/-- Y gives the items while what is known of (L, H) stands -/
structure YOk (G : Tx) (L : AS) (H : Hp) (items : List D) (Gd : Hp → Prop) (Y : Nat → Hp → V → Hp → Prop) : Prop where
  good : ∀ L1 H1, Keep L H L1 H1 → Gd H1
  yld : ∀ L1 H1 i x H2, i < items.length → Keep L H L1 H1 → (∀ a, L1 a → ∃ o, H1 a = some o) → Y i H1 x H2 → (∀ a o, H1 a = some o → H2 a = some o) ∧ ∃ d, items[i]? = some d ∧ Rp G L1 H2 d x
def PostI (G : Tx) (W : WX) (U L : AS) (lent : Nat → Addr) (σ : SL) (H : Hp) (R : It → Hp → Prop) : Res (List D) → Prop
  | .ok items e => ∀ J L' H' Gd Y, Step U L H L' H' → Rel G U L' lent σ H' e → Walk J items.length Gd Y → YOk G L' H' items Gd Y → R J H'
  | .exc c x e => ∀ cls d L' H', Step U L H L' H' → Rel G U L' lent σ H' e → ExcAt G L' H' c x cls d → W cls d σ H'
  | .fail => False
def rI (X : Cx) (W : WX) (f : Env → Res (List D)) : TI := fun σ H R => ∃ U L lent e, Rel (tx X) U L lent σ H e ∧ PostI (tx X) W U L lent σ H R (f e)
section
variable {X : Cx} {W : WX} {tg : Expr}
theorem pi_imp {a : Expr} {t t' : TI} (h : PI X tg a t) (i : ∀ σ H R, t' σ H R → t σ H R) : PI X tg a t' := ⟨fun pins s σ H R I q => h.run pins s σ H R I (i σ H R q)⟩
theorem PostI.bind {α β : Type} {G : Tx} {U L : AS} {lent : Nat → Addr} {σ : SL} {H : Hp} {RR : RR α β} {r : Res α} {k : α → Env → Res (List D)} {R : It → Hp → Prop} {Q : β → Hp → Prop} (p : PostI G W U L lent σ H R (r.bind k))
    (hq : ∀ v L' H' x e', Step U L H L' H' → Rel G U L' lent σ H' e' → RR U L' σ H' e' x v → PostI G W U L' lent σ H' R (k x e') → Q v H') : Post G W U L lent σ H RR Q r := by
  cases r with
  | ok x e' =>
    intro v L' H' s rel rv
    refine hq v L' H' x e' s rel rv ?_
    have p : PostI G W U L lent σ H R (k x e') := p
    cases hk : k x e' with
    | ok items e2 => rw [hk] at p; exact fun J L2 H2 Gd Y s2 rel2 w y => p J L2 H2 Gd Y (s.trans s2) rel2 w y
    | exc c x e2 => rw [hk] at p; exact fun cls d L2 H2 s2 rel2 x => p cls d L2 H2 (s.trans s2) rel2 x
    | fail => rw [hk] at p; exact p
  | exc c x e' => exact p
  | fail => exact p
theorem yok_at {G : Tx} {L : AS} {H : Hp} {xs : List D} {vs : List V} {Gd : Hp → Prop} (g : ∀ L1 H1, Keep L H L1 H1 → Gd H1) (r : RpL G L H xs vs) : YOk G L H xs Gd (YAt vs) :=
  ⟨g, fun L1 H1 i x H2 hi k _ y => by
    obtain ⟨rfl, hx⟩ := y
    obtain ⟨d, h1, h2⟩ := (RpL.keep k _ _ r).get' hx
    exact ⟨fun _ _ z => z, d, h1, h2⟩⟩
theorem SqL.keep {K : PySem.W.Frag} {G : Tx} {L L1 : AS} {H H1 : Hp} {a : Addr} {vs : List V} (h : LstAt G L H a vs) (k : Keep L H L1 H1) : SqL G.K H1 a vs := (h.keep k).sq
/-- chars -/
def charsS (x : Str) : List D := x.cps.toList.map fun c => .str ⟨#[c]⟩
def keyD : Key → D
  | .inl i => .int i
  | .inr x => .str x
def walkS : D → Option (List D)
  | .tup xs => some xs
  | .lst xs => some xs
  | .fl xs => some xs
  | .str x => some (charsS x)
  | .dicL ks _ => some (ks.map keyD)
  | _ => none
theorem pi_seqM {a : Expr} {f : Env → Res D} (ha : PE X a (rP X W f)) : PI X tg a (rI X W fun e => (f e).bind fun x e1 => lift (walkS x) e1) := by
  refine ⟨fun pins s σ H R I ⟨U, L, lent, e, rel, p⟩ => ?_⟩
  dsimp only at p
  cases hf : f e with
  | fail => rw [hf] at p; exact p.elim
  | exc c x e2 =>
    rw [hf] at p
    exact (pi_list ha).run pins s σ H R I ⟨U, L, lent, e, rel, by rw [hf]; exact p⟩
  | ok d e1 =>
    rw [hf] at p
    simp only [bind_ok] at p
    cases hd : walkS d with
    | none => rw [hd] at p; exact p.elim
    | some items =>
      rw [hd] at p
      cases d <;> simp only [walkS, Option.some.injEq, reduceCtorEq] at hd
      · subst hd
        rename_i x
        refine (pi_str ha).run pins s σ H R I ⟨U, L, lent, e, rel, ?_⟩
        rw [hf]
        intro v L' H' s rel' rd
        refine ⟨x, rd, p _ L' H' (fun _ => True) _ s rel' (by have := walk_str (z := x); simpa [charsS] using this) ⟨fun _ _ _ => trivial, fun L1 H1 i v H2 hi k _ y => ?_⟩⟩
        obtain ⟨rfl, c, hc, rfl⟩ := y
        refine ⟨fun _ _ z => z, .str ⟨#[c]⟩, ?_, rfl⟩
        simp [charsS, hc]
      · subst hd
        refine (pi_tup ha).run pins s σ H R I ⟨U, L, lent, e, rel, ?_⟩
        rw [hf]
        intro v L' H' s rel' rd
        obtain ⟨b, vs, rfl, t, r⟩ := rd
        refine ⟨b, rfl, ⟨vs, t.sq⟩, p _ L' H' _ _ s rel' ?_ (yok_at (Gd := fun H => SqT X.K H b vs) (fun L1 H1 k => (t.keep k).sq) r)⟩
        rw [r.length]
        exact walk_tup
      · subst hd
        refine (pi_list ha).run pins s σ H R I ⟨U, L, lent, e, rel, ?_⟩
        rw [hf]
        intro v L' H' s rel' rd
        obtain ⟨b, vs, rfl, t, n, r⟩ := rd
        refine ⟨b, rfl, ⟨vs, .of t⟩, p _ L' H' _ _ s rel' ?_ (yok_at (Gd := fun H => SqL X.K H b vs) (fun L1 H1 k => .of (k b _ t n).1) r)⟩
        rw [r.length]
        exact walk_list
      · subst hd
        refine (pi_list ha).run pins s σ H R I ⟨U, L, lent, e, rel, ?_⟩
        rw [hf]
        intro v L' H' s rel' rd
        obtain ⟨b, vs, rfl, t, r⟩ := rd
        refine ⟨b, rfl, ⟨vs, t.sq⟩, p _ L' H' _ _ s rel' ?_ (yok_at (Gd := fun H => SqL X.K H b vs) (fun L1 H1 k => (t.keep k).sq) r)⟩
        rw [r.length]
        exact walk_list
      · subst hd
        refine (pi_keys ha).run pins s σ H R I ⟨U, L, lent, e, rel, ?_⟩
        rw [hf]
        intro v L' H' s rel' rd
        obtain ⟨b, o, kvs, rfl, t, n, rfl, r⟩ := rd
        refine ⟨b, o, rfl, .inl ⟨kvs, t, p _ L' H' (fun H => H b = some (.frz o (.dK kvs))) (fun i H x H' => H' = H ∧ ∃ k v, kvs[i]? = some (k, v) ∧ x = kV k) s rel' ?_ ⟨fun L1 H1 k => (k b _ t n).1, fun L1 H1 i x H2 hi k _ y => ?_⟩⟩⟩
        · rw [List.length_map, List.length_map]
          exact walk_keys
        · obtain ⟨rfl, q, w, hq, rfl⟩ := y
          refine ⟨fun _ _ z => z, keyD q, by simp [hq], ?_⟩
          cases q <;> rfl
/-- lo, lo + 1, .. -/
def upS (lo : Int) (n : Nat) : List D := (List.range n).map fun (i : Nat) => .int (lo + i)
def rangeS : List D → Option (List D)
  | [.int j] => if -4096 ≤ j ∧ j < 4096 then some (upS 0 j.toNat) else none
  | [.int i, .int j] => if -4096 ≤ i ∧ i < 4096 ∧ -4096 ≤ j ∧ j < 4096 then some (upS i (j - i).toNat) else none
  | _ => none
theorem rangeS_1 {xs items : List D} (h : rangeS xs = some items) (hl : xs.length = 1) : ∃ j : Int, xs = [.int j] ∧ -(2 ^ 62) ≤ j ∧ j < 2 ^ 62 ∧ items = upS 0 j.toNat := by
  match xs, hl with
  | [d], _ =>
    cases d <;> simp only [rangeS, reduceCtorEq] at h
    rename_i j hx
    clear hx
    by_cases c : -4096 ≤ j ∧ j < 4096
    · rw [if_pos c] at h; cases h; exact ⟨j, rfl, by omega, by omega, rfl⟩
    · rw [if_neg c] at h; cases h
theorem rangeS_2 {xs items : List D} (h : rangeS xs = some items) (hl : xs.length = 2) : ∃ i j : Int, xs = [.int i, .int j] ∧ (-(2 ^ 62) ≤ i ∧ i < 2 ^ 62 ∧ -(2 ^ 62) ≤ j ∧ j < 2 ^ 62) ∧ items = upS i (j - i).toNat := by
  match xs, hl with
  | [d, d'], _ =>
    cases d <;> cases d' <;> simp only [rangeS, reduceCtorEq] at h
    rename_i i j hx
    clear hx
    by_cases c : -4096 ≤ i ∧ i < 4096 ∧ -4096 ≤ j ∧ j < 4096
    · rw [if_pos c] at h; cases h; exact ⟨i, j, rfl, ⟨by omega, by omega, by omega, by omega⟩, rfl⟩
    · rw [if_neg c] at h; cases h
theorem yok_up {G : Tx} {L : AS} {H : Hp} {lo : Int} {n : Nat} : YOk G L H (upS lo n) (fun _ => True) (YFn fun i => .int (lo + i)) :=
  ⟨fun _ _ _ => trivial, fun L1 H1 i x H2 hi k _ y => by
    obtain ⟨rfl, rfl⟩ := y
    have hi : i < n := by simpa [upS] using hi
    exact ⟨fun _ _ z => z, .int (lo + i), by simp [upS, hi], rfl⟩⟩
theorem pi_range1M {a : Expr} {p pos : Pos} {f : Env → Res (List D)} (hg : Gl X "range") (hm : X.mg "range" = none) (ha : PA X [a] (rA X W f)) (hs : ns a = true) :
    PI X tg (.Call (.Name "range" p) [a] [] pos) (rI X W fun e => (f e).bind fun xs e1 => if xs.length = 1 then lift (rangeS xs) e1 else .fail) := by
  refine pi_imp (pi_range1 hg hm ha (star_ns hs)) ?_
  rintro σ H R ⟨U, L, lent, e, rel, p⟩
  refine ⟨U, L, lent, e, rel, p.bind fun vs L1 H1 xs e1 s1 rel1 rx p1 => ?_⟩
  split at p1
  · cases hr : rangeS xs with
    | none => rw [hr] at p1; exact p1.elim
    | some items =>
      rw [hr] at p1
      rename_i hl
      obtain ⟨j, rfl, h1, h2, rfl⟩ := rangeS_1 hr hl
      obtain ⟨v, e2, e3⟩ := rpl1 rx
      cases e3
      exact ⟨j, e2, h1, h2, p1 _ L1 H1 _ _ (Step.refl rel1.sub) rel1 (by simpa [upS] using walk_range (lo := 0) (n := j.toNat)) yok_up⟩
  · exact p1.elim
theorem pi_range2M {a b : Expr} {p pos : Pos} {f : Env → Res (List D)} (hg : Gl X "range") (hm : X.mg "range" = none) (ha : PA X [a, b] (rA X W f)) (hs : ns a = true) (hs2 : ns b = true) :
    PI X tg (.Call (.Name "range" p) [a, b] [] pos) (rI X W fun e => (f e).bind fun xs e1 => if xs.length = 2 then lift (rangeS xs) e1 else .fail) := by
  refine pi_imp (pi_range2 hg hm ha (by rw [star_ns hs, star_ns hs2]; rfl) (by rw [star_ns hs2]; rfl)) ?_
  rintro σ H R ⟨U, L, lent, e, rel, p⟩
  refine ⟨U, L, lent, e, rel, p.bind fun vs L1 H1 xs e1 s1 rel1 rx p1 => ?_⟩
  split at p1
  · cases hr : rangeS xs with
    | none => rw [hr] at p1; exact p1.elim
    | some items =>
      rw [hr] at p1
      rename_i hl
      obtain ⟨i, j, rfl, h1, rfl⟩ := rangeS_2 hr hl
      obtain ⟨v, w, e2, e3, e4⟩ := rpl2 rx
      cases e3; cases e4
      exact ⟨i, j, e2, h1, p1 _ L1 H1 _ _ (Step.refl rel1.sub) rel1 (by simpa [upS] using walk_range (lo := i) (n := (j - i).toNat)) yok_up⟩
  · exact p1.elim
/-- (0, x), (1, y), .. -/
def enumS (i : Nat) : List D → List D
  | [] => []
  | x :: xs => .tup [.int i, x] :: enumS (i + 1) xs
theorem enumS_len : ∀ {xs : List D} {i : Nat}, (enumS i xs).length = xs.length
  | [], _ => rfl
  | _ :: xs, i => by rw [enumS, List.length_cons, List.length_cons, enumS_len]
theorem enumS_get : ∀ {xs : List D} {i j : Nat}, (enumS i xs)[j]? = xs[j]?.map fun x => .tup [.int (i + j : Nat), x]
  | [], _, _ => by simp [enumS]
  | x :: xs, i, 0 => by simp [enumS]
  | x :: xs, i, j + 1 => by
    rw [enumS, List.getElem?_cons_succ, List.getElem?_cons_succ, enumS_get]
    simp only [show i + 1 + j = i + (j + 1) by omega]
theorem yok_enum {G : Tx} {L : AS} {H : Hp} {xs : List D} {vs : List V} {Gd : Hp → Prop} (g : ∀ L1 H1, Keep L H L1 H1 → Gd H1) (r : RpL G L H xs vs) : YOk G L H (enumS 0 xs) Gd (YPair (fun i => some (.int (i : Nat))) (fun i => vs[i]?)) :=
  ⟨g, fun L1 H1 i x H2 hi k trk y => by
    obtain ⟨T, a, b, rfl, nT, rfl, h1, h2⟩ := y
    cases h1
    obtain ⟨d, h3, h4⟩ := (RpL.keep k _ _ r).get' h2
    have gr := grow_upd (o := HO.tup [.int (i : Nat), b]) nT
    refine ⟨gr, .tup [.int (i : Nat), d], by rw [enumS_get, h3, Nat.zero_add]; rfl, T, _, rfl, .inl ⟨.inl upd_same, fun l => ?_⟩, .cons rfl (.cons (Rp.keep (fun a o h n => ⟨gr a o h, n⟩) _ _ h4) .nil)⟩
    obtain ⟨o, ho⟩ := trk T l
    rw [nT] at ho; cases ho⟩
theorem pi_enumM {a : Expr} {p pos tpos : Pos} {elts : List Expr} {kk : Nat} {f : Env → Res (List D)} (hg : Gl X "enumerate") (hm : X.mg "enumerate" = none) (ha : PA X [a] (rA X W f)) (hs : ns a = true) :
    PI X (.Tuple elts kk tpos) (.Call (.Name "enumerate" p) [a] [] pos) (rI X W fun e => (f e).bind fun xs e1 => match xs with
      | [.lst ys] => .ok (enumS 0 ys) e1
      | [.fl ys] => .ok (enumS 0 ys) e1
      | _ => .fail) := by
  refine pi_imp (pi_enum hg hm ha (star_ns hs)) ?_
  rintro σ H R ⟨U, L, lent, e, rel, p⟩
  refine ⟨U, L, lent, e, rel, p.bind fun vs L1 H1 xs e1 s1 rel1 rx p1 => ?_⟩
  split at p1
  · obtain ⟨v, e2, b, us, rfl, t, n, r⟩ := rpl1 rx
    exact ⟨b, us, e2, .of t, p1 _ L1 H1 _ _ (Step.refl rel1.sub) rel1 (by rw [enumS_len, r.length]; exact walk_enum) (yok_enum (Gd := fun H => SqL X.K H b us) (fun L1 H1 k => .of (k b _ t n).1) r)⟩
  · obtain ⟨v, e2, b, us, rfl, t, r⟩ := rpl1 rx
    exact ⟨b, us, e2, t.sq, p1 _ L1 H1 _ _ (Step.refl rel1.sub) rel1 (by rw [enumS_len, r.length]; exact walk_enum) (yok_enum (Gd := fun H => SqL X.K H b us) (fun L1 H1 k => (t.keep k).sq) r)⟩
  · exact p1.elim
end

/-! ### for -/
def forS (ft : D → Env → Res Fl) (fb : Env → Res Fl) : List D → Env → Res Fl
  | [], e => .ok .nx e
  | x :: xs, e => (ft x e).seq fun e1 => (fb e1).turn (forS ft fb xs)
section
variable {X : Cx} {W : WX}
theorem ps_forM {tg iter : Expr} {body : List Stmt} {pos : Pos} {fi : Env → Res (List D)} {ft : D → Env → Res Fl} {fb : Env → Res Fl} (hp : PassesOwn (model X.prog X.w) X.A X.env X.xe) (hc : X.calm = true) (hi : PI X tg iter (rI X W fi)) (hg : PG X tg (rG X W ft)) (hb : PSs X body (rS X W fb))
    (hs : ∀ x, foldedSetIterable iter X.env x = pure x) : PS X (.For tg iter body [] pos) (rS X W fun e => (fi e).bind fun items e1 => forS ft fb items e1) := by
  refine ps_imp (ps_for hp hc hi hg hb hs) ?_
  rintro D σ H ⟨U, L, lent, e, rel, p⟩
  refine ⟨U, L, lent, e, rel, ?_⟩
  dsimp only at p
  cases hfi : fi e with
  | fail => rw [hfi] at p; exact p
  | exc c x e2 => rw [hfi] at p; exact fun cls d L' H' s rel x => p cls d σ L' H' s rel x
  | ok items e1 =>
    rw [hfi] at p
    simp only [bind_ok] at p
    intro J L1 H1 Gd Y s1 rel1 w yk
    have kp : ∀ {L2 H2}, Step U L1 H1 L2 H2 → Keep L1 H1 L2 H2 := fun s => s.toKeep
    refine for_it w (fun i σ' H' => ∃ L' e', Step U L1 H1 L' H' ∧ Rel (tx X) U L' lent σ' H' e' ∧ PostS (tx X) W U L' lent H' D (forS ft fb (items.drop i) e'))
      ⟨L1, e1, Step.refl rel1.sub, rel1, by rw [List.drop_zero]; exact p.step s1⟩ (fun i σ' H' _ ⟨L', e', s', _, _⟩ => yk.good L' H' s'.toKeep) ?_ ?_
    · rintro i x σ' H' H2 hi ⟨L', e', s', rel', p'⟩ y
      obtain ⟨gr, d, hd, rd⟩ := yk.yld L' H' i x H2 hi s'.toKeep rel'.trk y
      have rel2 := rel'.grow gr
      have s2 : Step U L' H' L' H2 := Step.grow rel'.sub gr
      have ed : items.drop i = d :: items.drop (i + 1) := by
        rw [List.drop_eq_getElem_cons hi]
        congr 1
        rw [List.getElem?_eq_getElem hi] at hd
        exact Option.some.inj hd
      rw [ed] at p'
      have p2 := PostS.step s2 p'
      simp only [forS] at p2
      refine ⟨U, L', lent, e', d, { D with nx := _ }, rel2, rd, rfl, ?_⟩
      cases hft : ft d e' with
      | fail => rw [hft] at p2; exact p2
      | exc c x e2 => rw [hft] at p2; exact p2
      | ok fl e2 =>
        rw [hft] at p2
        cases fl with
        | bk => exact p2
        | ct => exact p2
        | rt x => exact p2
        | nx =>
          intro σ3 L3 H3 s3 rel3
          have p3 : PostS (tx X) W U L' lent H2 D ((fb e2).turn (forS ft fb (items.drop (i + 1)))) := p2
          exact ⟨U, L3, lent, e2, rel3, (p3.step s3).turn fun σ4 L4 H4 e4 s4 rel4 p4 => ⟨L4, e4, ((s'.trans s2).trans s3).trans s4, rel4, p4⟩⟩
    · rintro σ' H' ⟨L', e', s', rel', p'⟩
      rw [List.drop_length] at p'
      exact p'.nx_ rel'

/-! ### comprehensions -/
/-- a target of names: it changes no object -/
def rC (X : Cx) (vs : List Nat) (f : D → Env → Option Env) : TG := fun v σ H Q => ∃ U L lent e d e', Rel (tx X) U L lent σ H e ∧ Rp (tx X) L H d v ∧ f d e = some e' ∧ ∀ σ', Rel (tx X) U L lent σ' H e' → L2.wipe σ' vs = L2.wipe σ vs → Q σ' H
def rCs (X : Cx) (vs : List Nat) (f : List D → Env → Option Env) : TGs := fun v σ H Q => ∃ U L lent e d e', Rel (tx X) U L lent σ H e ∧ RpL (tx X) L H d v ∧ f d e = some e' ∧ ∀ σ', Rel (tx X) U L lent σ' H e' → L2.wipe σ' vs = L2.wipe σ vs → Q σ' H
theorem pg_nameC {i : Nat} {x : Str} {pos : Pos} {vs : List Nat} (hN : X.N.Nodup) (hi : X.N[i]? = some x) (hx : Loc X.env.scope x) (hf : X.fn x = true ∨ X.env.scope.names.lookup x = some .local) (hv : i ∈ vs) :
    PG X (.Name x pos) (rC X vs fun d e => some (e.set i (some (.p d)))) := by
  refine pg_imp (pg_name hN hi hx hf) ?_
  rintro v σ H Q ⟨U, L, lent, e, d, e', rel, rd, he, q⟩
  cases he
  exact q _ (rel.put (x := .p d) ⟨rd, fun z => nomatch z⟩) (wipe_set hv)
def nilC : List D → Env → Option Env := fun ds e => match ds with
  | [] => some e
  | _ => none
def consC (f : D → Env → Option Env) (g : List D → Env → Option Env) : List D → Env → Option Env := fun ds e => match ds with
  | d :: ds => (f d e).bind (g ds)
  | [] => none
def tupC (n : Nat) (g : List D → Env → Option Env) : D → Env → Option Env := fun d e => match d with
  | .tup ds => if ds.length = n then g ds e else none
  | _ => none
theorem pgs_nilC {vs : List Nat} : PGs X [] (rCs X vs nilC) := by
  refine pgs_imp pgs_nil ?_
  rintro v σ H Q ⟨U, L, lent, e, ds, e', rel, rd, he, q⟩
  cases ds with
  | nil => cases rd; cases he; exact ⟨rfl, q _ rel rfl⟩
  | cons d ds => cases he
theorem pgs_consC {a : Expr} {es : List Expr} {vs : List Nat} {f : D → Env → Option Env} {g : List D → Env → Option Env} (h1 : PG X a (rC X vs f)) (h2 : PGs X es (rCs X vs g)) (hs : nst a = true) : PGs X (a :: es) (rCs X vs (consC f g)) := by
  refine pgs_imp (pgs_cons h1 h2 (by rw [asg_star hs]; rfl)) ?_
  rintro v σ H Q ⟨U, L, lent, e, ds, e', rel, rd, he, q⟩
  cases ds with
  | nil => cases he
  | cons d ds =>
    obtain ⟨w, ws, rfl, r1, r2⟩ := rd
    obtain ⟨e1, h3, h4⟩ := Option.bind_eq_some_iff.mp he
    exact ⟨w, ws, rfl, U, L, lent, e, d, e1, rel, r1, h3, fun σ1 rel1 w1 => ⟨U, L, lent, e1, ds, e', rel1, r2, h4, fun σ2 rel2 w2 => q σ2 rel2 (w2.trans w1)⟩⟩
theorem pg_tupC {es : List Expr} {k : Nat} {pos : Pos} {vs : List Nat} {g : List D → Env → Option Env} (hc : X.calm = true) (h : PGs X es (rCs X vs g)) (hs : es.all nst = true) : PG X (.Tuple es k pos) (rC X vs (tupC es.length g)) := by
  refine pg_imp (pg_tup (n := es.length) hc h asg_len (asg_none hs)) ?_
  rintro v σ H Q ⟨U, L, lent, e, d, e', rel, rd, he, q⟩
  cases d <;> try (cases he; done)
  rename_i ds
  obtain ⟨a, us, rfl, t, r⟩ := rd
  simp only [tupC] at he
  split at he
  · rename_i hl
    exact ⟨a, us, rfl, t.sq, by rw [← r.length]; exact hl, U, L, lent, e, ds, e', rel, r, he, q⟩
  · cases he
/-- no exception -/
abbrev W0 : WX := fun _ _ _ _ => False
def compS (ft : D → Env → Option Env) (fc : Env → Res Bool) (fe : Env → Res D) (vs : List Nat) : List D → List D → Env → Res Val
  | [], acc, e => .ok (.own 0 acc) (wipeE e vs)
  | x :: xs, acc, e => match ft x (wipeE e vs) with
    | some e1 => match fc e1 with
      | .ok true e2 => match fe e2 with
        | .ok y e3 => if acc.length < SZ then compS ft fc fe vs xs (acc ++ [y]) e3 else .fail
        | _ => .fail
      | .ok false e2 => compS ft fc fe vs xs acc e2
      | _ => .fail
    | none => .fail
theorem lc_mid {wi : TI} {tt : TT} {te : TE} {ft : D → Env → Option Env} {fc : Env → Res Bool} {fe : Env → Res D} {vs : List Nat} {fi : Env → Res (List D)} {σ : SL} {H : Hp} {Q : VK} {XB : Cx} (hx : tx XB = tx X)
    (h : rE X W (fun e => (fi e).bind fun items e1 => compS ft fc fe vs items [] e1) σ H Q) : tLc (rI X W fi) (rC XB vs ft) (rT XB W0 fc) (rP XB W0 fe) vs σ H Q := by
  obtain ⟨U, L, lent, e, rel, p⟩ := h
  refine ⟨U, L, lent, e, rel, ?_⟩
  dsimp only at p
  cases hfi : fi e with
  | fail => rw [hfi] at p; exact p
  | exc c x e2 => rw [hfi] at p; exact fun cls d L' H' s rel x => p cls d L' H' s rel x
  | ok items e1 =>
    rw [hfi] at p
    simp only [bind_ok] at p
    intro J L1 H1 Gd Y s1 rel1 w yk D nD
    have p1 := p.step s1
    clear p
    have hold := rel1.hold (o := .lst []) nD
    refine lc_it w (fun i H' => ∃ L' e' acc va, Step U L1 H1 L' H' ∧ Rel (tx X) (adds U D) L' lent (L2.wipe σ vs) H' (wipeE e' vs) ∧ H' D = some (.lst va) ∧ RpL (tx X) L' H' acc va ∧ Post (tx X) W U L1 lent σ H1 (RV (tx X)) Q (compS ft fc fe vs (items.drop i) acc e'))
      ⟨adds L1 D, e1, [], [], Step.adds rel1.sub nD, hold.wipe, upd_same, .nil, by rw [List.drop_zero]; exact p1⟩ (fun i H' _ ⟨L', e', _, _, s', _⟩ => yk.good L' H' s'.toKeep) ?_ ?_
    · rintro i x H' H2 hi ⟨L', e', acc, va, s', rel', hD, ra, p'⟩ y
      obtain ⟨gr, d, hd, rd⟩ := yk.yld L' H' i x H2 hi s'.toKeep rel'.trk y
      have rel2 := rel'.grow gr
      have s2 : Step (adds U D) L' H' L' H2 := Step.grow rel'.sub gr
      have hu : ∀ a, U a → adds U D a := fun a u => .inl u
      have ed : items.drop i = d :: items.drop (i + 1) := by
        rw [List.drop_eq_getElem_cons hi]
        congr 1
        rw [List.getElem?_eq_getElem hi] at hd
        exact Option.some.inj hd
      rw [ed] at p'
      simp only [compS] at p'
      cases hft : ft d (wipeE e' vs) with
      | none => rw [hft] at p'; exact p'.elim
      | some e1' =>
        rw [hft] at p'
        simp only at p'
        refine ⟨adds U D, L', lent, wipeE e' vs, d, e1', by rw [hx]; exact rel2, by rw [hx]; exact rd, hft, fun σ3 rel3 wv => ⟨wv.trans wipe_idem, adds U D, L', lent, e1', rel3, ?_⟩⟩
        rw [hx] at rel3 ⊢
        have wv' := wv.trans (wipe_idem (σ := σ))
        cases hfc : fc e1' with
        | fail => rw [hfc] at p'; exact p'
        | exc c x e2 => rw [hfc] at p'; exact p'.elim
        | ok t e2 =>
          rw [hfc] at p'
          intro t' L4 H4 s4 rel4 et
          cases et
          have sT := s2.trans s4
          have hD4 : H4 D = some (.lst va) := sT.keep D _ hD fun _ => .inr rfl
          cases t with
          | false =>
            rw [if_neg Bool.false_ne_true]
            refine ⟨L4, e2, acc, va, s'.trans (sT.weak hu), by rw [← wv']; exact rel4.wipe, hD4, RpL.step sT ra, p'⟩
          | true =>
            rw [if_pos rfl]
            simp only at p'
            refine ⟨adds U D, L4, lent, e2, by rw [hx]; exact rel4, ?_⟩
            rw [hx]
            cases hfe : fe e2 with
            | fail => rw [hfe] at p'; exact p'
            | exc c x e3 => rw [hfe] at p'; exact p'.elim
            | ok yd e3 =>
              rw [hfe] at p'
              simp only at p'
              split at p'
              · rename_i hz
                intro yv L5 H5 s5 rel5 ry
                have sF := sT.trans s5
                have hD5 : H5 D = some (.lst va) := s5.keep D _ hD4 fun _ => .inr rfl
                have lD : L5 D := rel5.sub D (.inr rfl)
                have nuD : ¬ U D := fun u => rel1.new nD (rel1.sub D u)
                have ra5 := RpL.step sF ra
                refine ⟨va, hD5, by rw [← ra5.length]; exact hz, L5, e3, acc ++ [yd], va ++ [yv], (s'.trans (sF.weak hu)).trans (Step.wr (fun a u => rel5.sub a (.inl u)) lD nuD), ?_, upd_same, RpL.keep (Keep.wrU lD) _ _ (ra5.append (.cons ry .nil)), p'⟩
                rw [← wv']
                exact (rel5.wrU (.inr rfl)).wipe
              · exact p'.elim
    · rintro H' ⟨L', e', acc, va, s', rel', hD, ra, p'⟩
      rw [List.drop_length] at p'
      have nuD : ¬ U D := fun u => rel1.new nD (rel1.sub D u)
      have relu := rel'.unwipe
      refine p' _ L' H' s' (relu.weak fun a u => .inl u) ⟨⟨D, va, rfl, relu.sub D (.inr rfl), nuD, hD, ra⟩, fun _ => ⟨rfl, fun i y hy oy hs => ?_⟩⟩
      obtain ⟨v, h1, h2⟩ := relu.at_ i y hy
      rw [hs] at h1; cases h1
      exact (h2.nu oy).2 (.inr rfl)
end
end M

set_option Elab.async false
set_option linter.all false
set_option maxRecDepth 100000
set_option maxHeartbeats 2000000
/-! M10: rows of values, assignments side by side, methods that write, augmented assignments, reads in place. -/
namespace M
open PySem PySem.Spec PyProof.Rows L2

/-- a handed value: a value, or a slot's own thing, lent -/
inductive AV where
  | v (x : Val) | ln (j : Nat)
/-- what the value holds is held -/
def addV (U : AS) (x : Val) (v : V) : AS := fun a => U a ∨ (x.isOwn = true ∧ v = .ref a)
def RAs (G : Tx) : List AV → List V → AS → AS → SL → Hp → Env → Prop
  | [], vs, _, _, _, _, _ => vs = []
  | .v x :: xs, vs, U, L, σ, H, e => ∃ v vs', vs = v :: vs' ∧ RV G U L σ H e x v ∧ RAs G xs vs' (addV U x v) L σ H e
  | .ln j :: xs, vs, U, L, σ, H, e => ∃ v vs', vs = v :: vs' ∧ σ[j]? = some (some v) ∧ RAs G xs vs' U L σ H e
def RAV (G : Tx) : RR (List AV) (List V) := fun U L σ H e xs vs => RAs G xs vs U L σ H e
abbrev rAV (X : Cx) (W : WX) (f : Env → Res (List AV)) : TA := rd (tx X) W (RAV (tx X)) f
section
variable {G : Tx} {W : WX} {U U' L L1 : AS} {lent : Nat → Addr} {σ : SL} {H H1 : Hp} {e e1 : Env}
theorem RAs.weak : ∀ {xs : List AV} {vs : List V} {U U' : AS}, (∀ a, U a → U' a) → RAs G xs vs U' L σ H e → RAs G xs vs U L σ H e
  | [], _, _, _, _, h => h
  | .v x :: xs, _, U, U', hu, ⟨v, vs', ev, h, t⟩ => ⟨v, vs', ev, ⟨h.1.weak hu, h.2⟩, RAs.weak (U := addV U x v) (U' := addV U' x v) (fun a z => z.elim (fun z => .inl (hu a z)) .inr) t⟩
  | .ln j :: xs, _, U, U', hu, ⟨v, vs', ev, h, t⟩ => ⟨v, vs', ev, h, RAs.weak hu t⟩
theorem addV_sub {x : Val} {v : V} (rel : Rel G U L lent σ H e) (rv : RV G U L σ H e x v) : ∀ a, addV U x v a → L a := fun a z => z.elim (rel.sub a) fun ⟨o, ev⟩ => by
  subst ev
  exact (rv.1.nu o).1
/-- a value in the hand is held while the rest runs -/
theorem Rel.addV {x : Val} {v : V} (rel : Rel G U L lent σ H e) (rv : RV G U L σ H e x v) : Rel G (M.addV U x v) L lent σ H e := by
  refine ⟨addV_sub rel rv, rel.trk, rel.len, fun i y h => ?_, rel.ne, rel.tag⟩
  obtain ⟨w, h1, h2⟩ := rel.at_ i y h
  refine ⟨w, h1, ?_⟩
  have key : ∀ a, y.isOwn = true → w = .ref a → ¬ M.addV U x v a := fun a oy ew z => by
    subst ew
    rcases z with z | ⟨ox, ev⟩
    · exact (h2.nu oy).2 z
    · exact (rv.2 ox).2 i y h oy (by rw [ev]; exact h1)
  cases y with
  | p d => exact h2
  | own t xs => obtain ⟨a, vs, ev, l, u, h, r⟩ := h2; exact ⟨a, vs, ev, l, key a rfl ev, h, r⟩
  | od t ks ds => obtain ⟨a, vs, ev, l, u, h, m, r⟩ := h2; exact ⟨a, vs, ev, l, key a rfl ev, h, m, r⟩
  | oo t c ns ds => obtain ⟨a, C, dx, fs, ev, l, u, g, h, m, r⟩ := h2; exact ⟨a, C, dx, fs, ev, l, key a rfl ev, g, h, m, r⟩
/-- behind the rest the value in the hand stands -/
theorem RV.after {x : Val} {v : V} (rv : RV G U L σ H e x v) (s : Step (addV U x v) L H L1 H1) (rel : Rel G (addV U x v) L1 lent σ H1 e1) : RV G U L1 σ H1 e1 x v := by
  refine ⟨?_, fun ox => ⟨(rv.2 ox).1, fun i y hy oy hs => ?_⟩⟩
  · have kp : ∀ a, v = .ref a → x.isOwn = true → ∀ o, H a = some o → H1 a = some o := fun a ev ox o h => s.keep a o h fun _ => .inr ⟨ox, ev⟩
    have l1 : ∀ a, v = .ref a → x.isOwn = true → L1 a := fun a ev ox => s.sub a (.inr ⟨ox, ev⟩)
    obtain ⟨h, _⟩ := rv
    cases x with
    | p d => exact Rp.step s h
    | own t xs => obtain ⟨a, vs, ev, l, u, h, r⟩ := h; exact ⟨a, vs, ev, l1 a ev rfl, u, kp a ev rfl _ h, RpL.step s r⟩
    | od t ks ds => obtain ⟨a, vs, ev, l, u, h, m, r⟩ := h; exact ⟨a, vs, ev, l1 a ev rfl, u, kp a ev rfl _ h, m, RpL.step s r⟩
    | oo t c ns ds => obtain ⟨a, C, dx, fs, ev, l, u, g, h, m, r⟩ := h; exact ⟨a, C, dx, fs, ev, l1 a ev rfl, u, g, kp a ev rfl _ h, m, RpL.step s r⟩
  · obtain ⟨w, h1, h2⟩ := rel.at_ i y hy
    rw [hs] at h1; cases h1
    obtain ⟨a, ev⟩ := own_ref oy h2
    subst ev
    exact (h2.nu oy).2 (.inr ⟨ox, rfl⟩)
end
section
variable {X : Cx} {W : WX}
theorem pa_nilV : PA X [] (rAV X W fun e => .ok [] e) := by
  refine pa_imp pa_nil ?_
  rintro σ H Q ⟨U, L, lent, e, rel, p⟩
  exact p _ _ _ (Step.refl rel.sub) rel rfl
theorem pa_consV {a : Expr} {es : List Expr} {f : Env → Res Val} {g : Env → Res (List AV)} (ha : PE X a (rE X W f)) (hr : PA X es (rAV X W g)) (hn : ns a = true) :
    PA X (a :: es) (rAV X W fun e => (f e).bind fun x e1 => (g e1).bind fun xs e2 => .ok (.v x :: xs) e2) := by
  refine pa_imp (pa_cons ha hr (star_ns hn)) ?_
  rintro σ H Q ⟨U, L, lent, e, rel, p⟩
  show rE X W f σ H _
  refine rd_of rel p fun v L1 H1 x e1 s1 rel1 rx p1 => ?_
  refine ⟨M.addV U x v, L1, lent, e1, rel1.addV rx, ?_⟩
  have hu : ∀ a, U a → addV U x v a := fun _ z => .inl z
  cases hg : g e1 with
  | fail => rw [hg] at p1; exact p1
  | exc c y e2 => rw [hg] at p1; exact fun cls d L' H' s rel' x' => p1 cls d L' H' (s.weak hu) (rel'.weak hu) x'
  | ok xs e2 =>
    rw [hg] at p1
    exact fun vs L2 H2 s2 rel2 rxs => p1 _ L2 H2 (s2.weak hu) (rel2.weak hu) ⟨v, vs, rfl, rx.after s2 rel2, rxs⟩
/-- a name lent -/
theorem pa_lendV {i : Nat} {x : Str} {q : Pos} {es : List Expr} {g : Env → Res (List AV)} (hN : X.N[i]? = some x) (hv : Vis X.env.scope x) (hd : (x == ("__debug__" : Str)) = false) (hcd : (x == ("__classdict__" : Str)) = false) (hr : PA X es (rAV X W g)) :
    PA X (.Name x q :: es) (rAV X W fun e => match e[i]? with
      | some (some _) => (g e).bind fun xs e2 => .ok (.ln i :: xs) e2
      | _ => .fail) := by
  refine pa_imp (pa_cons (pe_var hN hv hd hcd) hr rfl) ?_
  rintro σ H Q ⟨U, L, lent, e, rel, p⟩
  dsimp only at p
  split at p
  · rename_i x0 hx0
    obtain ⟨v, hv, _⟩ := rel.at_ i x0 hx0
    exact ⟨v, hv, rd_of rel p fun vs L1 H1 xs e1 s1 rel1 rx p1 => p1 _ _ _ (Step.refl rel1.sub) rel1 ⟨v, vs, rfl, hv, rx⟩⟩
  · exact p.elim
/-- a, b = x, y -/
def vals : List AV → Option (List Val)
  | [] => some []
  | .v x :: xs => (vals xs).map (x :: ·)
  | .ln _ :: _ => none
def putsE : Env → List Nat → List Val → Env
  | e, i :: is, x :: xs => putsE (e.set i (some x)) is xs
  | e, _, _ => e
def putsS : SL → List Nat → List V → SL
  | σ, i :: is, x :: xs => putsS (σ.set i (some x)) is xs
  | σ, _, _ => σ
theorem Rel.puts {G : Tx} {L : AS} {lent : Nat → Addr} {H : Hp} : ∀ {is : List Nat} {xs : List AV} {ys : List Val} {vs : List V} {U : AS} {σ : SL} {e : Env}, vals xs = some ys → is.length = ys.length → Rel G U L lent σ H e → RAs G xs vs U L σ H e →
    Rel G U L lent (putsS σ is vs) H (putsE e is ys)
  | [], xs, ys, vs, _, _, _, _, _, rel, _ => by simpa [putsS, putsE] using rel
  | i :: is, [], ys, vs, _, _, _, h, hl, _, _ => by cases h; simp at hl
  | i :: is, .ln _ :: xs, ys, vs, _, _, _, h, _, _, _ => by cases h
  | i :: is, .v x :: xs, ys, vs, U, σ, e, h, hl, rel, ⟨v, vs', ev, rx, t⟩ => by
    simp only [vals, Option.map_eq_some_iff] at h
    obtain ⟨zs, h1, h2⟩ := h
    subst h2 ev
    have rel1 := rel.put (i := i) rx
    have hl' : is.length = zs.length := by simpa using hl
    -- the rest, with the slot set
    have move : ∀ {xs : List AV} {vs : List V} {U0 : AS}, (∀ a, M.addV U x v a → U0 a) → RAs G xs vs U0 L σ H e → vals xs ≠ none → RAs G xs vs U0 L (σ.set i (some v)) H (e.set i (some x)) := by
      intro xs
      induction xs with
      | nil => intro vs U0 _ h _; exact h
      | cons z zs ih =>
        intro vs U0 hu h hv
        cases z with
        | ln j => exact absurd rfl hv
        | v y =>
          obtain ⟨w, ws, ew, ry, t⟩ := h
          refine ⟨w, ws, ew, ⟨ry.1, fun oy => ⟨(ry.2 oy).1, fun k z hz oz hs => ?_⟩⟩, ih (fun a q => .inl (hu a q)) t fun q => hv (by simp only [vals, q, Option.map_none])⟩
          rcases set_get hz with ⟨e1, e2⟩ | ⟨e1, e2⟩
          · subst e1; cases e2
            have hk : k < σ.length := by
              have := (List.getElem?_eq_some_iff.mp hz).1
              rw [List.length_set, rel.len] at this
              exact this
            rw [List.getElem?_set_self hk] at hs
            cases hs
            obtain ⟨a, ea⟩ := own_ref oy ry.1
            subst ea
            exact (ry.1.nu oy).2 (hu a (.inr ⟨oz, rfl⟩))
          · rw [List.getElem?_set_ne (fun q => e1 q.symm)] at hs
            exact (ry.2 oy).2 k z e2 oz hs
    have := Rel.puts (is := is) h1 hl' rel1 (RAs.weak (fun _ z => .inl z) (move (fun _ z => z) t (by rw [h1]; simp)))
    simpa [putsS, putsE] using this
def parS (is : List Nat) (xs : List AV) (e : Env) : Res Fl := match vals xs with
  | some ys => if is.length = ys.length then .ok .nx (putsE e is ys) else .fail
  | none => .fail
theorem RAs.len {G : Tx} {L : AS} {σ : SL} {H : Hp} {e : Env} : ∀ {xs : List AV} {vs : List V} {U : AS}, RAs G xs vs U L σ H e → xs.length = vs.length
  | [], _, _, h => by cases h; rfl
  | .v x :: xs, _, _, ⟨v, vs', ev, _, t⟩ => by rw [ev, List.length_cons, List.length_cons, t.len]
  | .ln j :: xs, _, _, ⟨v, vs', ev, _, t⟩ => by rw [ev, List.length_cons, List.length_cons, t.len]
theorem vals_len : ∀ {xs : List AV} {ys : List Val}, vals xs = some ys → xs.length = ys.length
  | [], _, h => by cases h; rfl
  | .v x :: xs, ys, h => by
    simp only [vals, Option.map_eq_some_iff] at h
    obtain ⟨zs, h1, h2⟩ := h
    rw [← h2, List.length_cons, List.length_cons, vals_len h1]
  | .ln j :: xs, _, h => by cases h
theorem ps_par2M {i j : Nat} {x y : Str} {a b : Expr} {px py pt pos : Pos} {kt k2 pt2} {f : Env → Res (List AV)} (hc : X.calm = true) (hN : X.N.Nodup) (hi : X.N[i]? = some x) (hj : X.N[j]? = some y) (hij : i ≠ j)
    (hx : X.env.scope.names.lookup x = some .local) (hy : X.env.scope.names.lookup y = some .local) (ha : PA X [a, b] (rAV X W f))
    (hw : swappedStores [.Tuple [.Name x px, .Name y py] kt pt] (.Tuple [a, b] k2 pt2) X.env = pure (some [x, y])) :
    PS X (.Assign [.Tuple [.Name x px, .Name y py] kt pt] (.Tuple [a, b] k2 pt2) pos) (rS X W fun e => (f e).bind (parS [i, j])) := by
  refine ps_imp (ps_par hc hN hi hj hij hx hy ha hw rfl) ?_
  rintro D σ H ⟨U, L, lent, e, rel, p⟩
  refine rdS_of rel p fun vs L1 H1 xs e1 s1 rel1 rx p1 => ?_
  unfold parS at p1
  split at p1
  · rename_i ys hv
    split at p1
    · rename_i hl
      have r2 := Rel.puts hv hl rel1 rx
      have hn := (RAs.len rx).symm.trans ((vals_len hv).trans hl.symm)
      match vs, hn with
      | [v, w], _ => exact ⟨v, w, rfl, p1.nx_ r2⟩
    · exact p1.elim
  · exact p1.elim
theorem ps_par3M {i j l : Nat} {x y z : Str} {a b c : Expr} {px py pz pt pos : Pos} {kt k2 pt2} {f : Env → Res (List AV)} (hc : X.calm = true) (hN : X.N.Nodup) (hi : X.N[i]? = some x) (hj : X.N[j]? = some y) (hl : X.N[l]? = some z) (hij : i ≠ j) (hil : i ≠ l) (hjl : j ≠ l)
    (hx : X.env.scope.names.lookup x = some .local) (hy : X.env.scope.names.lookup y = some .local) (hz : X.env.scope.names.lookup z = some .local) (ha : PA X [a, b, c] (rAV X W f))
    (hw : swappedStores [.Tuple [.Name x px, .Name y py, .Name z pz] kt pt] (.Tuple [a, b, c] k2 pt2) X.env = pure (some [x, y, z])) :
    PS X (.Assign [.Tuple [.Name x px, .Name y py, .Name z pz] kt pt] (.Tuple [a, b, c] k2 pt2) pos) (rS X W fun e => (f e).bind (parS [i, j, l])) := by
  refine ps_imp (ps_par3 hc hN hi hj hl hij hil hjl hx hy hz ha hw rfl) ?_
  rintro D σ H ⟨U, L, lent, e, rel, p⟩
  refine rdS_of rel p fun vs L1 H1 xs e1 s1 rel1 rx p1 => ?_
  unfold parS at p1
  split at p1
  · rename_i ys hv
    split at p1
    · rename_i hl
      have r2 := Rel.puts hv hl rel1 rx
      have hn := (RAs.len rx).symm.trans ((vals_len hv).trans hl.symm)
      match vs, hn with
      | [v, w, u], _ => exact ⟨v, w, u, rfl, p1.nx_ r2⟩
    · exact p1.elim
  · exact p1.elim

/-! ### methods that write -/
def appS (x : Val) (d : D) : Option Val := match x with
  | .own t xs => if xs.length < SZ then some (.own t (xs ++ [d])) else none
  | _ => none
/-- n.append(e) -/
def appE (i : Nat) (f : Env → Res D) : Env → Res Val := fun e => match e[i]? with
  | some (some (.own _ _)) => (f e).bind fun y e1 => match e1[i]? with
    | some (some x) => (lift (appS x y) e1).bind fun z e2 => .ok (.p .non) (e2.set i (some z))
    | _ => .fail
  | _ => .fail
theorem att_base {o : Expr} {attr : Str} {env : PySem.Env} {w : Sem Value} (h : (match o with | .Call _ _ _ _ => false | _ => true) = true) : attributeBase o attr env w = w := by
  cases o <;> first | rfl | cases h
theorem few1 {a : Expr} {cpos : Pos} {env : PySem.Env} (h : ns a = true) : ((backTo cpos (starEach [a] env)).all (fun x => !x.1) && (backToKw cpos (keywordEach [] env)).all (fun x => x.1.isSome)
      && decide ([a].length + ([] : List Keyword).length + (if ([] : List Keyword).isEmpty then 0 else 1) < 30)) = true := by
  rw [star_ns h]; rfl
theorem pe_app {i : Nat} {x : Str} {a : Expr} {p1 apos cpos : Pos} {f : Env → Res D} (hN : X.N[i]? = some x) (hv : Vis X.env.scope x) (hd : (x == ("__debug__" : Str)) = false) (hcd : (x == ("__classdict__" : Str)) = false) (ha : PE X a (rP X W f)) (hn : ns a = true) (hline : (apos.endLine == cpos.line) = true) :
    PE X (.Call (.Attribute (.Name x p1) "append" apos) [a] [] cpos) (rE X W (appE i f)) := by
  refine pe_imp (pe_bm F.plainAttrs_list F.slot_list_append F.type_list_append mt_append (pe_var hN hv hd hcd) (pa_cons ha pa_nil (star_ns hn)) rfl (few1 hn) hline (star_ns hn) rfl) ?_
  rintro σ H Q ⟨U, L, lent, e, rel, p⟩
  simp only [appE] at p
  split at p
  · rename_i t ys hx0
    obtain ⟨v0, h0, h1⟩ := rel.at_ i _ hx0
    obtain ⟨a0, vs0, rfl, l0, u0, hh0, r0⟩ := h1
    refine ⟨_, h0, .inl ⟨rfl, vs0, .of hh0⟩, rd_of rel p fun w L1 H1 y e1 s1 rel1 ry p1 => ?_⟩
    split at p1
    · rename_i x1 hx1
      cases ez : appS x1 y with
      | none => rw [ez] at p1; exact p1.elim
      | some z =>
        rw [ez] at p1
        obtain ⟨w1, h2, h3⟩ := rel1.at_ i x1 hx1
        rw [h0] at h2; cases h2
        cases x1 <;> simp only [appS, reduceCtorEq] at ez
        split at ez
        · rename_i hz
          cases ez
          obtain ⟨b, us, eb, l, nu, hh, r⟩ := h3
          cases eb
          have st : Step U L1 H1 L1 (upd H1 a0 (.lst (us ++ [w]))) := Step.wr rel1.sub l nu
          exact ⟨a0, us, w, rfl, rfl, hh, by rw [← r.length]; exact hz, p1 .non L1 _ st (rel1.wr hx1 rfl h0 l nu rfl rfl ⟨a0, _, rfl, l, nu, upd_same, RpL.step st (r.append (.cons ry .nil))⟩) ⟨rfl, fun z => nomatch z⟩⟩
        · cases ez
    · exact p1.elim
  · exact p.elim

/-! ### augmented assignment to a name -/
instance (i j : Int) : Decidable (CMul i j) := by unfold CMul; infer_instance
instance (i j : Int) : Decidable (CDiv i j) := by unfold CDiv; infer_instance
def iopS : Bop → D → D → Option D
  | .add, .int i, .int j => some (.int (i + j))
  | .sub, .int i, .int j => some (.int (i - j))
  | .mul, .int i, .int j => if CMul i j then some (.int (i * j)) else none
  | .fdiv, .int i, .int j => if CDiv i j then some (.int (i / j)) else none
  | .mod, .int i, .int j => if 0 < j then some (.int (i % j)) else none
  | _, _, _ => none
theorem iop_ok (op : Bop) : ∃ r, PIp X op.op r ∧ ∀ {L : AS} {H : Hp} {Q : VK} {x y z : D} {v w : V}, Rp (tx X) L H x v → Rp (tx X) L H y w → iopS op x y = some z → (∀ u, Rp (tx X) L H z u → Q u H) → r v w H Q := by
  cases op with
  | add =>
    refine ⟨_, iop_add, fun rx ry ez q => ?_⟩
    rename_i x y z v w
    cases x <;> cases y <;> simp only [iopS, reduceCtorEq] at ez
    cases ez; cases rx; cases ry
    exact ⟨_, _, rfl, rfl, q _ rfl⟩
  | sub =>
    refine ⟨_, iop_sub, fun rx ry ez q => ?_⟩
    rename_i x y z v w
    cases x <;> cases y <;> simp only [iopS, reduceCtorEq] at ez
    cases ez; cases rx; cases ry
    exact ⟨_, _, rfl, rfl, q _ rfl⟩
  | mul =>
    refine ⟨_, iop_mul, fun rx ry ez q => ?_⟩
    rename_i x y z v w
    cases x <;> cases y <;> simp only [iopS, reduceCtorEq] at ez
    split at ez
    · cases ez; cases rx; cases ry
      exact ⟨_, _, rfl, rfl, by assumption, q _ rfl⟩
    · cases ez
  | fdiv =>
    refine ⟨_, iop_fdiv, fun rx ry ez q => ?_⟩
    rename_i x y z v w
    cases x <;> cases y <;> simp only [iopS, reduceCtorEq] at ez
    split at ez
    · cases ez; cases rx; cases ry
      exact ⟨_, _, rfl, rfl, by assumption, q _ rfl⟩
    · cases ez
  | mod =>
    refine ⟨_, iop_mod, fun rx ry ez q => ?_⟩
    rename_i x y z v w
    cases x <;> cases y <;> simp only [iopS, reduceCtorEq] at ez
    split at ez
    · cases ez; cases rx; cases ry
      exact ⟨_, _, rfl, rfl, by assumption, q _ rfl⟩
    · cases ez
  | pow => exact ⟨fun _ _ _ _ => False, fun _ _ _ _ _ _ _ _ _ _ _ _ h => h.elim, fun {_ _ _ x y z _ _} _ _ ez _ => by cases x <;> cases y <;> simp only [iopS, reduceCtorEq] at ez⟩
/-- name op= e, whole numbers -/
def augS (op : Bop) (i : Nat) (f : Env → Res D) : Env → Res Fl := fun e => match e[i]? with
  | some (some (.p x)) => (f e).bind fun y e1 => (lift (iopS op x y) e1).bind fun z e2 => .ok .nx (e2.set i (some (.p z)))
  | _ => .fail
theorem ps_augM {i : Nat} {x : Str} {a : Expr} {op : Bop} {pos pos' : Pos} {f : Env → Res D} (hN : X.N.Nodup) (hi : X.N[i]? = some x) (hx : Loc X.env.scope x) (hf : X.fn x = true ∨ X.env.scope.names.lookup x = some .local) (ha : PE X a (rP X W f)) :
    PS X (.AugAssign (.Name x pos') op.op a pos) (rS X W (augS op i f)) := by
  obtain ⟨r, ho, hk⟩ := iop_ok (X := X) op
  refine ps_imp (ps_aug hN hi hx ha ho hf) ?_
  rintro D σ H ⟨U, L, lent, e, rel, p⟩
  simp only [augS] at p
  split at p
  · rename_i d hd
    obtain ⟨v, h1, h2⟩ := rel.at_ i _ hd
    refine ⟨v, h1, rdS_of rel p fun w L1 H1 y e1 s1 rel1 ry p1 => ?_⟩
    cases ez : iopS op d y with
    | none => rw [ez] at p1; exact p1.elim
    | some z =>
      rw [ez] at p1
      exact hk (Rp.step s1 h2) ry ez fun u ru => p1.nx_ (rel1.put (x := .p z) ⟨ru, fun z => nomatch z⟩)
  · exact p.elim
end
end M

set_option Elab.async false
set_option linter.all false
set_option maxRecDepth 100000
set_option maxHeartbeats 2000000
/-! M11: functions: what they promise, how they are called. -/
namespace M
open PySem PySem.Spec PyProof.Rows L2

def Val.retag (t : Nat) : Val → Val
  | .p d => .p d
  | .own _ xs => .own t xs
  | .od _ ks vs => .od t ks vs
  | .oo _ c ns vs => .oo t c ns vs
@[simp] theorem retag_own {t : Nat} {x : Val} : (x.retag t).isOwn = x.isOwn := by cases x <;> rfl
theorem retag_tag {t : Nat} {x : Val} (h : x.isOwn = true) : (x.retag t).tag = t := by cases x <;> first | rfl | cases h
theorem RpV.retag {G : Tx} {U L : AS} {H : Hp} {t : Nat} {x : Val} {v : V} (h : RpV G U L H x v) : RpV G U L H (x.retag t) v := by cases x <;> exact h

/-- what a handed value is -/
def valA (e : Env) : AV → Option Val
  | .v x => some x
  | .ln j => match e[j]? with
    | some (some x) => if x.isOwn = true then some x else none
    | _ => none
/-- the callee's slots -/
def argE (e : Env) : Nat → List AV → Option Env
  | _, [] => some []
  | k, a :: as => match valA e a, argE e (k + 1) as with
    | some x, some r => some (some (x.retag (k + 1)) :: r)
    | _, _ => none
theorem argE_get {e : Env} : ∀ {ps : List AV} {k : Nat} {e0 : Env}, argE e k ps = some e0 → e0.length = ps.length ∧ ∀ i : Nat, ∀ x, e0[i]? = some (some x) → ∃ a y, ps[i]? = some a ∧ valA e a = some y ∧ x = y.retag (k + i + 1)
  | [], _, _, h => by cases h; exact ⟨rfl, fun i x h => by simp at h⟩
  | a :: as, k, e0, h => by
    simp only [argE] at h
    split at h
    · rename_i x r h1 h2
      cases h
      obtain ⟨l, g⟩ := argE_get h2
      refine ⟨by rw [List.length_cons, List.length_cons, l], fun i z hz => ?_⟩
      cases i with
      | zero => simp at hz; exact ⟨a, x, rfl, h1, hz.symm⟩
      | succ i =>
        obtain ⟨b, y, h3, h4, h5⟩ := g i z (by simpa using hz)
        exact ⟨b, y, by simpa using h3, h4, by rw [h5]; congr 1; omega⟩
    · cases h
def lns : List AV → List Nat
  | [] => []
  | .v _ :: as => lns as
  | .ln j :: as => j :: lns as
theorem mem_lns {j : Nat} : ∀ {ps : List AV}, j ∈ lns ps ↔ ∃ m : Nat, ps[m]? = some (AV.ln j)
  | [] => by simp [lns]
  | .v x :: as => by
    rw [lns, mem_lns (ps := as)]
    constructor
    · rintro ⟨m, h⟩; exact ⟨m + 1, by simpa using h⟩
    · rintro ⟨m, h⟩
      cases m with
      | zero => simp at h
      | succ m => exact ⟨m, by simpa using h⟩
  | .ln i :: as => by
    rw [lns, List.mem_cons, mem_lns (ps := as)]
    constructor
    · rintro (rfl | ⟨m, h⟩)
      · exact ⟨0, rfl⟩
      · exact ⟨m + 1, by simpa using h⟩
    · rintro ⟨m, h⟩
      cases m with
      | zero => simp at h; exact .inl h.symm
      | succ m => exact .inr ⟨m, by simpa using h⟩
/-- what was lent comes back -/
def back (e1 : Env) : Nat → List AV → Env → Option Env
  | _, [], e => some e
  | k, .v _ :: as, e => back e1 (k + 1) as e
  | k, .ln j :: as, e => match e[j]?, e1[k]? with
    | some (some x), some (some y) => if y.isOwn = true ∧ y.tag = k + 1 then back e1 (k + 1) as (e.set j (some (y.retag x.tag))) else none
    | _, _ => none
theorem back_get {e1 : Env} : ∀ {ps : List AV} {k : Nat} {e e' : Env}, back e1 k ps e = some e' → (lns ps).Nodup → e'.length = e.length ∧ ∀ (i : Nat) z, e'[i]? = some (some z) →
    (e[i]? = some (some z) ∧ i ∉ lns ps) ∨ ∃ m y x, ps[m]? = some (.ln i) ∧ e1[k + m]? = some (some y) ∧ y.isOwn = true ∧ y.tag = k + m + 1 ∧ e[i]? = some (some x) ∧ z = y.retag x.tag
  | [], _, e, e', h, _ => by cases h; exact ⟨rfl, fun i z hz => .inl ⟨hz, by simp [lns]⟩⟩
  | .v _ :: as, k, e, e', h, nd => by
    obtain ⟨l, g⟩ := back_get (ps := as) h nd
    refine ⟨l, fun i z hz => ?_⟩
    rcases g i z hz with q | ⟨m, y, x, h1, h2, h3, h4, h5, h6⟩
    · exact .inl q
    · exact .inr ⟨m + 1, y, x, by simpa using h1, by rw [← h2]; congr 1; omega, h3, by omega, h5, h6⟩
  | .ln j :: as, k, e, e', h, nd => by
    obtain ⟨n1, n2⟩ := List.nodup_cons.mp nd
    simp only [back] at h
    split at h
    · rename_i x y hx hy
      split at h
      · rename_i hc
        obtain ⟨l, g⟩ := back_get (ps := as) h n2
        refine ⟨by rw [l, List.length_set], fun i z hz => ?_⟩
        rcases g i z hz with ⟨q1, q2⟩ | ⟨m, y', x', h1, h2, h3, h4, h5, h6⟩
        · rcases set_get q1 with ⟨rfl, e3⟩ | ⟨e2, e3⟩
          · cases e3
            exact .inr ⟨0, y, x, rfl, hy, hc.1, hc.2, hx, rfl⟩
          · exact .inl ⟨e3, fun q => by
              rcases List.mem_cons.mp q with q | q
              · exact e2 q
              · exact q2 q⟩
        · have hij : i ≠ j := fun q => n1 (by rw [← q]; exact mem_lns.mpr ⟨m, h1⟩)
          rw [List.getElem?_set_ne (fun q => hij q.symm)] at h5
          exact .inr ⟨m + 1, y', x', by simpa using h1, by rw [← h2]; congr 1; omega, h3, by omega, h5, h6⟩
      · cases h
    · cases h
/-- the handed values in the parameters' order -/
def permL {α : Type} (pm : List Nat) (xs : List α) : List α := pm.filterMap fun i => xs[i]?
theorem permL_get {α : Type} : ∀ {pm : List Nat} {xs : List α}, (∀ i ∈ pm, i < xs.length) → (permL pm xs).length = pm.length ∧ ∀ k : Nat, (permL pm xs)[k]? = (pm[k]?).bind fun i => xs[i]?
  | [], _, _ => ⟨rfl, fun k => by simp [permL]⟩
  | i :: pm, xs, h => by
    have hi := h i List.mem_cons_self
    obtain ⟨l, g⟩ := permL_get (pm := pm) (xs := xs) fun j hj => h j (List.mem_cons_of_mem _ hj)
    have e : permL (i :: pm) xs = xs[i] :: permL pm xs := by
      unfold permL
      rw [List.filterMap_cons, List.getElem?_eq_getElem hi]
    rw [e]
    refine ⟨by rw [List.length_cons, List.length_cons, l], fun k => ?_⟩
    cases k with
    | zero => simp [hi]
    | succ k => simpa using g k
/-- f(..) -/
def callE (F : Env → Res Val) (pm : List Nat) (avs : List AV) (e : Env) : Res Val :=
  if pm.Nodup ∧ (∀ i ∈ pm, i < avs.length) ∧ (lns (permL pm avs)).Nodup then
    match argE e 0 (permL pm avs) with
    | some e0 => match F e0 with
      | .ok x e1 => lift (back e1 0 (permL pm avs) e) e |>.bind fun e' _ => .ok x e'
      | .exc c x e1 => lift (back e1 0 (permL pm avs) e) e |>.bind fun e' _ => .exc c x e'
      | .fail => .fail
    | none => .fail
  else .fail
section
variable {G : Tx} {U L : AS} {lent : Nat → Addr} {σ : SL} {H : Hp} {e : Env}
/-- a handed value, by itself -/
def Ptw (G : Tx) (U L : AS) (σ : SL) (H : Hp) (e : Env) : AV → V → Prop
  | .v x, v => RV G U L σ H e x v
  | .ln j, v => σ[j]? = some (some v)
def ownA (e : Env) (a : AV) : Prop := ∃ x, valA e a = some x ∧ x.isOwn = true
theorem RAs.ptw : ∀ {xs : List AV} {vs : List V} {U : AS}, RAs G xs vs U L σ H e → ∀ (i : Nat) (a : AV) (v : V), xs[i]? = some a → vs[i]? = some v → Ptw G U L σ H e a v
  | [], _, _, _, i, a, v, h, _ => by simp at h
  | .v x :: xs, _, U, ⟨v, vs', ev, h, t⟩, i, a, w, h1, h2 => by
    subst ev
    cases i with
    | zero => simp at h1 h2; subst h1 h2; exact h
    | succ i =>
      have := RAs.ptw t i a w (by simpa using h1) (by simpa using h2)
      cases a with
      | v y => exact ⟨this.1.weak fun _ z => .inl z, this.2⟩
      | ln j => exact this
  | .ln j :: xs, _, U, ⟨v, vs', ev, h, t⟩, i, a, w, h1, h2 => by
    subst ev
    cases i with
    | zero => simp at h1 h2; subst h1 h2; exact h
    | succ i => exact RAs.ptw t i a w (by simpa using h1) (by simpa using h2)
theorem RAs.hid : ∀ {xs : List AV} {vs : List V} {U : AS}, RAs G xs vs U L σ H e → ∀ (i : Nat) (x : Val) (b : Addr), xs[i]? = some (.v x) → x.isOwn = true → vs[i]? = some (.ref b) → ¬ U b := fun h i x b h1 ox h2 => by
  have := RAs.ptw h i _ _ h1 h2
  exact (this.1.nu ox).2
theorem RAs.dst (rel : Rel G U L lent σ H e) : ∀ {xs : List AV} {vs : List V} {U : AS}, RAs G xs vs U L σ H e → (lns xs).Nodup → ∀ (i j : Nat) (a b : AV) (v : V), i < j → xs[i]? = some a → xs[j]? = some b → vs[i]? = some v → vs[j]? = some v → ownA e a → ownA e b → False
  | [], _, _, _, _, i, j, a, b, v, _, h, _, _, _, _, _ => by simp at h
  | c :: xs, vs, U, h, nd, i + 1, 0, a, b, v, hij, h1, h2, h3, h4, oa, ob => by omega
  | c :: xs, vs, U, h, nd, 0, 0, a, b, v, hij, h1, h2, h3, h4, oa, ob => by omega
  | .v x :: xs, _, U, ⟨v0, vs', ev, h, t⟩, nd, 0, j + 1, a, b, v, hij, h1, h2, h3, h4, oa, ob => by
    subst ev
    simp at h1 h2 h3 h4
    subst h1 h3
    obtain ⟨x', e1, ox⟩ := oa
    cases e1
    obtain ⟨p, rfl⟩ := own_ref ox h.1
    have pt := RAs.ptw t j b _ h2 h4
    cases b with
    | v y =>
      obtain ⟨y', e2, oy⟩ := ob
      cases e2
      exact (pt.1.nu oy).2 (.inr ⟨ox, rfl⟩)
    | ln k =>
      obtain ⟨y', e2, oy⟩ := ob
      simp only [valA] at e2
      split at e2
      · rename_i z hz
        split at e2
        · cases e2
          exact (h.2 ox).2 k _ hz oy pt
        · cases e2
      · cases e2
  | .ln k :: xs, _, U, ⟨v0, vs', ev, h, t⟩, nd, 0, j + 1, a, b, v, hij, h1, h2, h3, h4, oa, ob => by
    subst ev
    simp at h1 h2 h3 h4
    subst h1 h3
    obtain ⟨x', e1, ox⟩ := oa
    simp only [valA] at e1
    split at e1
    · rename_i z hz
      split at e1
      · cases e1
        have pt := RAs.ptw t j b _ h2 h4
        obtain ⟨y', e2, oy⟩ := ob
        cases b with
        | v y => cases e2; exact (pt.2 oy).2 k _ hz ox h
        | ln m =>
          simp only [valA] at e2
          split at e2
          · rename_i w hw
            split at e2
            · cases e2
              have hkm : k ≠ m := fun q => (List.nodup_cons.mp nd).1 (by rw [q]; exact mem_lns.mpr ⟨j, h2⟩)
              exact rel.ne k m _ _ _ hkm hz hw ox oy h pt
            · cases e2
          · cases e2
      · cases e1
    · cases e1
  | .v x :: xs, _, U, ⟨v0, vs', ev, h, t⟩, nd, i + 1, j + 1, a, b, v, hij, h1, h2, h3, h4, oa, ob => by
    subst ev
    exact RAs.dst rel t nd i j a b v (by omega) (by simpa using h1) (by simpa using h2) (by simpa using h3) (by simpa using h4) oa ob
  | .ln k :: xs, _, U, ⟨v0, vs', ev, h, t⟩, nd, i + 1, j + 1, a, b, v, hij, h1, h2, h3, h4, oa, ob => by
    subst ev
    exact RAs.dst rel t (List.nodup_cons.mp nd).2 i j a b v (by omega) (by simpa using h1) (by simpa using h2) (by simpa using h3) (by simpa using h4) oa ob
end
end M

set_option Elab.async false
set_option linter.all false
set_option maxRecDepth 100000
set_option maxHeartbeats 2000000
/-! M12: the call. -/
namespace M
open PySem PySem.Spec PyProof.Rows L2

/-- what a function promises: on slots that hold just its arguments -/
def spF (G : Tx) (F : Env → Res Val) (vs : List V) (H : Hp) (Q : VK) (E : XK) : Prop := rd G (fun c d _ H => E c d H) (RV G) F (vs.map some) H Q
theorem call_core {G : Tx} {W : WX} {U L : AS} {lent : Nat → Addr} {σ : SL} {H : Hp} {e : Env} {avs : List AV} {vs : List V} {F : Env → Res Val} {pm : List Nat} {Q : VK} (rel : Rel G U L lent σ H e) (ra : RAs G avs vs U L σ H e)
    (p : Post G W U L lent σ H (RV G) Q (callE F pm avs e)) : spF G F (permL pm vs) H Q (WE W σ) ∧ (∀ i ∈ pm, i < vs.length) := by
  unfold callE at p
  split at p
  · rename_i hc
    obtain ⟨nd, hlt, nl⟩ := hc
    have hlen := ra.len
    have hltv : ∀ i ∈ pm, i < vs.length := fun i hi => by rw [← hlen]; exact hlt i hi
    obtain ⟨la, ga⟩ := permL_get hlt
    obtain ⟨lv, gv⟩ := permL_get hltv
    refine ⟨?_, hltv⟩
    -- place by place
    have both : ∀ (k : Nat) (a : AV), (permL pm avs)[k]? = some a → ∃ (i : Nat) (v : V), pm[k]? = some i ∧ avs[i]? = some a ∧ vs[i]? = some v ∧ (permL pm vs)[k]? = some v := fun k a h => by
      rw [ga] at h
      obtain ⟨i, h1, h2⟩ := Option.bind_eq_some_iff.mp h
      have hi : i < vs.length := hltv i (List.mem_of_getElem? h1)
      exact ⟨i, vs[i], h1, h2, List.getElem?_eq_getElem hi, by rw [gv, h1]; exact List.getElem?_eq_getElem hi⟩
    have ptw : ∀ (k : Nat) (a : AV) (v : V), (permL pm avs)[k]? = some a → (permL pm vs)[k]? = some v → Ptw G U L σ H e a v := fun k a v h h' => by
      obtain ⟨i, w, _, h2, h3, h4⟩ := both k a h
      rw [h'] at h4; cases h4
      exact ra.ptw i a v h2 h3
    -- the lent ones
    have lnd : ∀ (a b : Nat) (j : Nat), (permL pm avs)[a]? = some (AV.ln j) → (permL pm avs)[b]? = some (AV.ln j) → a = b := by
      have : ∀ {ps : List AV}, (lns ps).Nodup → ∀ (a b j : Nat), ps[a]? = some (AV.ln j) → ps[b]? = some (AV.ln j) → a = b := by
        intro ps
        induction ps with
        | nil => intro _ a b j h; simp at h
        | cons c ps ih =>
          intro nd a b j h1 h2
          have tl : (lns ps).Nodup := by
            cases c with
            | v x => exact nd
            | ln m => exact (List.nodup_cons.mp nd).2
          cases a with
          | zero =>
            cases b with
            | zero => rfl
            | succ b =>
              simp at h1 h2; subst h1
              exact absurd (mem_lns.mpr ⟨b, h2⟩) (List.nodup_cons.mp nd).1
          | succ a =>
            cases b with
            | zero =>
              simp at h1 h2; subst h2
              exact absurd (mem_lns.mpr ⟨a, h1⟩) (List.nodup_cons.mp nd).1
            | succ b => rw [ih tl a b j (by simpa using h1) (by simpa using h2)]
      exact this nl
    have ptwA := ra.ptw
    -- two own ones stand apart
    have dst : ∀ (k m : Nat) (a b : AV) (v : V), k ≠ m → (permL pm avs)[k]? = some a → (permL pm avs)[m]? = some b → (permL pm vs)[k]? = some v → (permL pm vs)[m]? = some v → ownA e a → ownA e b → False := fun k m a b v hkm h1 h2 h3 h4 oa ob => by
      obtain ⟨i, w, i1, i2, i3, i4⟩ := both k a h1
      obtain ⟨j, w', j1, j2, j3, j4⟩ := both m b h2
      rw [h3] at i4; cases i4
      rw [h4] at j4; cases j4
      have hij : i ≠ j := fun q => by
        subst q
        obtain ⟨h5, h7⟩ := List.getElem?_eq_some_iff.mp i1
        obtain ⟨h6, h8⟩ := List.getElem?_eq_some_iff.mp j1
        have pw := List.pairwise_iff_getElem.mp nd
        rcases Nat.lt_or_gt_of_ne hkm with q | q
        · exact pw k m h5 h6 q (h7.trans h8.symm)
        · exact pw m k h6 h5 q (h8.trans h7.symm)
      -- an own one: its slot, or itself
      have one : ∀ (a : AV) (v : V), Ptw G U L σ H e a v → ownA e a → (∃ x, a = .v x ∧ x.isOwn = true ∧ RV G U L σ H e x v) ∨ ∃ j x, a = .ln j ∧ e[j]? = some (some x) ∧ x.isOwn = true ∧ σ[j]? = some (some v) := fun a v pt oa => by
        cases a with
        | v x => obtain ⟨x', e1, ox⟩ := oa; cases e1; exact .inl ⟨x, rfl, ox, pt⟩
        | ln j =>
          obtain ⟨x', e1, ox⟩ := oa
          simp only [valA] at e1
          split at e1
          · rename_i z hz
            split at e1
            · cases e1; exact .inr ⟨j, x', rfl, hz, ox, pt⟩
            · cases e1
          · cases e1
      rcases one a v (ptwA i a v i2 i3) oa with ⟨x, rfl, ox, rx⟩ | ⟨j1', x, rfl, hx, ox, sx⟩
      · rcases one b v (ptwA j b v j2 j3) ob with ⟨y, rfl, oy, ry⟩ | ⟨j2', y, rfl, hy, oy, sy⟩
        · -- two values in the hand
          have two : ∀ {xs : List AV} {vs : List V} {U : AS}, RAs G xs vs U L σ H e → ∀ (i j : Nat) (x y : Val) (v : V), i < j → xs[i]? = some (AV.v x) → xs[j]? = some (AV.v y) → vs[i]? = some v → vs[j]? = some v → x.isOwn = true → y.isOwn = true → False := by
            intro xs
            induction xs with
            | nil => intro vs U _ i j x y v _ h; simp at h
            | cons c xs ih =>
              intro vs U h i j x y v hij h1 h2 h3 h4 ox oy
              cases j with
              | zero => omega
              | succ j =>
                cases c with
                | v z =>
                  obtain ⟨v0, vs', ev, h, t⟩ := h
                  subst ev
                  cases i with
                  | zero =>
                    simp at h1 h2 h3 h4
                    subst h1 h3
                    obtain ⟨q, rfl⟩ := own_ref ox h.1
                    exact t.hid j y q h2 oy h4 (.inr ⟨ox, rfl⟩)
                  | succ i => exact ih t i j x y v (by omega) (by simpa using h1) (by simpa using h2) (by simpa using h3) (by simpa using h4) ox oy
                | ln z =>
                  obtain ⟨v0, vs', ev, h, t⟩ := h
                  subst ev
                  cases i with
                  | zero => simp at h1
                  | succ i => exact ih t i j x y v (by omega) (by simpa using h1) (by simpa using h2) (by simpa using h3) (by simpa using h4) ox oy
          rcases Nat.lt_or_gt_of_ne hij with q | q
          · exact two ra i j x y v q i2 j2 i3 j3 ox oy
          · exact two ra j i y x v q j2 i2 j3 i3 oy ox
        · exact (rx.2 ox).2 j2' y hy oy sy
      · rcases one b v (ptwA j b v j2 j3) ob with ⟨y, rfl, oy, ry⟩ | ⟨j2', y, rfl, hy, oy, sy⟩
        · exact (ry.2 oy).2 j1' x hx ox sx
        · by_cases q : j1' = j2'
          · subst q
            exact hkm (lnd k m j1' h1 h2)
          · exact rel.ne j1' j2' x y v q hx hy ox oy sx sy
    cases hae : argE e 0 (permL pm avs) with
    | none => rw [hae] at p; exact p.elim
    | some e0 =>
      rw [hae] at p
      dsimp only at p
      obtain ⟨l0, g0⟩ := argE_get hae
      -- a callee's slot
      have slot : ∀ (k : Nat) (x : Val), e0[k]? = some (some x) → ∃ a y v, (permL pm avs)[k]? = some a ∧ valA e a = some y ∧ x = y.retag (k + 1) ∧ (permL pm vs)[k]? = some v ∧ RpV G U L H y v := fun k x h => by
        obtain ⟨a, y, h1, h2, h3⟩ := g0 k x h
        obtain ⟨i, v, _, _, _, h4⟩ := both k a h1
        refine ⟨a, y, v, h1, h2, by rw [h3, Nat.zero_add], h4, ?_⟩
        have pt := ptw k a v h1 h4
        cases a with
        | v x => cases h2; exact pt.1
        | ln j =>
          simp only [valA] at h2
          split at h2
          · rename_i z hz
            split at h2
            · cases h2
              obtain ⟨w, h5, h6⟩ := rel.at_ j _ hz
              have pt : σ[j]? = some (some v) := pt
              rw [pt] at h5; cases h5
              exact h6
            · cases h2
          · cases h2
      let mine : Addr → Prop := fun b => ∃ (k : Nat) (a : AV), (permL pm avs)[k]? = some a ∧ ownA e a ∧ (permL pm vs)[k]? = some (.ref b)
      let U' : AS := fun b => L b ∧ ¬ mine b
      let lent' : Nat → Addr := fun t => match (permL pm vs)[t - 1]? with
        | some (.ref b) => b
        | _ => 0
      have mineU : ∀ b, mine b → ¬ U b := fun b ⟨k, a, h1, oa, h2⟩ u => by
        have pt := ptw k a _ h1 h2
        cases a with
        | v x => obtain ⟨x', e1, ox⟩ := oa; cases e1; exact (pt.1.nu ox).2 u
        | ln j =>
          obtain ⟨x', e1, ox⟩ := oa
          simp only [valA] at e1
          split at e1
          · rename_i z hz
            split at e1
            · cases e1
              obtain ⟨w, h5, h6⟩ := rel.at_ j _ hz
              have pt : σ[j]? = some (some (.ref b)) := pt
              rw [pt] at h5; cases h5
              exact (h6.nu ox).2 u
            · cases e1
          · cases e1
      have hu : ∀ b, U b → U' b := fun b u => ⟨rel.sub b u, fun m => mineU b m u⟩
      have map_get : ∀ (k : Nat) (v : V), (permL pm vs)[k]? = some v → ((permL pm vs).map some)[k]? = some (some v) := fun k v h => by rw [List.getElem?_map, h]; rfl
      have rel0 : Rel G U' L lent' ((permL pm vs).map some) H e0 := by
        refine ⟨fun b u => u.1, rel.trk, by rw [l0, List.length_map, la, lv], fun k x h => ?_, fun k m x y v hkm hx hy ox oy s1 s2 => ?_, fun k x h ox tx => ?_⟩
        · obtain ⟨a, y, v, h1, h2, rfl, h4, h5⟩ := slot k x h
          refine ⟨v, map_get k v h4, RpV.retag ?_⟩
          have key : ∀ b, y.isOwn = true → v = .ref b → ¬ U' b := fun b oy ev u => u.2 ⟨k, a, h1, ⟨y, h2, oy⟩, by rw [h4, ev]⟩
          cases y with
          | p d => exact h5
          | own t xs => obtain ⟨b, us, ev, l, u, h, r⟩ := h5; exact ⟨b, us, ev, l, key b rfl ev, h, r⟩
          | od t ks ds => obtain ⟨b, us, ev, l, u, h, m, r⟩ := h5; exact ⟨b, us, ev, l, key b rfl ev, h, m, r⟩
          | oo t c ns ds => obtain ⟨b, C, dx, fs, ev, l, u, g, h, m, r⟩ := h5; exact ⟨b, C, dx, fs, ev, l, key b rfl ev, g, h, m, r⟩
        · obtain ⟨a, x', w, h1, h2, rfl, h4, h5⟩ := slot k x hx
          obtain ⟨b, y', w', h6, h7, rfl, h9, h10⟩ := slot m y hy
          rw [retag_own] at ox oy
          have e1 := map_get k w h4
          have e2 := map_get m w' h9
          rw [s1] at e1; cases e1
          rw [s2] at e2; cases e2
          exact dst k m a b _ hkm h1 h6 h4 h9 ⟨x', h2, ox⟩ ⟨y', h7, oy⟩
        · obtain ⟨a, y, v, h1, h2, rfl, h4, h5⟩ := slot k x h
          rw [retag_own] at ox
          obtain ⟨b, rfl⟩ := own_ref ox h5
          rw [retag_tag ox, map_get k _ h4]
          simp only [lent', Nat.add_sub_cancel, h4]
      refine ⟨U', L, lent', e0, rel0, ?_⟩
      -- what stands of the caller behind the call
      have after : ∀ {L1 : AS} {H1 : Hp} {e1 e' : Env}, Step U' L H L1 H1 → Rel G U' L1 lent' ((permL pm vs).map some) H1 e1 → back e1 0 (permL pm avs) e = some e' → Step U L H L1 H1 ∧ Rel G U L1 lent σ H1 e' ∧
          ∀ (i : Nat) (z : Val) (v : V), e'[i]? = some (some z) → z.isOwn = true → σ[i]? = some (some v) → (∃ b, v = .ref b ∧ U' b) ∨ ∃ (m : Nat) (y : Val), e1[m]? = some (some y) ∧ y.isOwn = true ∧ ((permL pm vs).map some)[m]? = some (some v) := by
        intro L1 H1 e1 e' s1 rel1 hb
        obtain ⟨lb, gb⟩ := back_get hb nl
        -- a slot that wasn't lent
        have keepU : ∀ (i : Nat) (z : Val), e[i]? = some (some z) → i ∉ lns (permL pm avs) → z.isOwn = true → ∀ b, σ[i]? = some (some (.ref b)) → U' b := fun i z hz hn oz b hs => by
          obtain ⟨w, h1, h2⟩ := rel.at_ i z hz
          rw [hs] at h1; cases h1
          refine ⟨(h2.nu oz).1, fun ⟨k, a, h3, oa, h4⟩ => ?_⟩
          have pt := ptw k a _ h3 h4
          cases a with
          | v x => obtain ⟨x', e2, ox⟩ := oa; cases e2; exact (pt.2 ox).2 i z hz oz hs
          | ln j =>
            obtain ⟨x', e2, ox⟩ := oa
            simp only [valA] at e2
            split at e2
            · rename_i q hq
              split at e2
              · cases e2
                have hij : i ≠ j := fun q => hn (by rw [q]; exact mem_lns.mpr ⟨k, h3⟩)
                exact rel.ne i j z x' _ hij hz hq oz ox hs pt
              · cases e2
            · cases e2
        have lentAt : ∀ (i m : Nat) (y : Val), (permL pm avs)[m]? = some (AV.ln i) → e1[m]? = some (some y) → ∃ v, σ[i]? = some (some v) ∧ ((permL pm vs).map some)[m]? = some (some v) ∧ RpV G U' L1 H1 y v := fun i m y h1 h2 => by
          obtain ⟨_, v, _, _, _, h3⟩ := both m _ h1
          have pt : σ[i]? = some (some v) := ptw m _ v h1 h3
          obtain ⟨w, h4, h5⟩ := rel1.at_ m y h2
          rw [map_get m v h3] at h4; cases h4
          exact ⟨v, pt, map_get m v h3, h5⟩
        refine ⟨⟨fun b o h n => s1.keep b o h fun l => hu b (n l), s1.out, fun b u => s1.sub b (hu b u)⟩, ⟨fun b u => s1.sub b (hu b u), rel1.trk, by rw [lb]; exact rel.len, fun i z hz => ?_, fun i j z z' v hij hz hz' oz oz' hs hs' => ?_, fun i z hz oz tz => ?_⟩, fun i z v hz oz hs => ?_⟩
        · rcases gb i z hz with ⟨h1, h2⟩ | ⟨m, y, x, h1, h2, h3, h4, h5, rfl⟩
          · obtain ⟨v, h3, h4⟩ := rel.at_ i z h1
            refine ⟨v, h3, ?_⟩
            have own : z.isOwn = true → ∀ b, v = .ref b → L1 b ∧ ∀ o, H b = some o → H1 b = some o := fun oz b ev => by
              subst ev
              have u := keepU i z h1 h2 oz b h3
              exact ⟨s1.sub b u, fun o ho => s1.keep b o ho fun _ => u⟩
            cases z with
            | p d => exact Rp.step s1 h4
            | own t xs => obtain ⟨b, us, ev, l, u, h, r⟩ := h4; exact ⟨b, us, ev, (own rfl b ev).1, u, (own rfl b ev).2 _ h, RpL.step s1 r⟩
            | od t ks ds => obtain ⟨b, us, ev, l, u, h, m, r⟩ := h4; exact ⟨b, us, ev, (own rfl b ev).1, u, (own rfl b ev).2 _ h, m, RpL.step s1 r⟩
            | oo t c ns ds => obtain ⟨b, C, dx, fs, ev, l, u, g, h, m, r⟩ := h4; exact ⟨b, C, dx, fs, ev, (own rfl b ev).1, u, g, (own rfl b ev).2 _ h, m, RpL.step s1 r⟩
          · obtain ⟨v, h6, _, h7⟩ := lentAt i m y h1 (by rw [← h2]; congr 1; omega)
            exact ⟨v, h6, RpV.retag (h7.weak hu)⟩
        · have old : ∀ {i : Nat} {z : Val}, e'[i]? = some (some z) → z.isOwn = true → ∃ z0 : Val, e[i]? = some (some z0) ∧ z0.isOwn = true := fun {i z} hz oz => by
            rcases gb i z hz with ⟨h1, h2⟩ | ⟨m, y, x, h1, h2, h3, h4, h5, rfl⟩
            · exact ⟨z, h1, oz⟩
            · refine ⟨x, h5, ?_⟩
              -- a lent slot is an own one
              cases hx : x.isOwn with
              | true => rfl
              | false =>
                have hk : m < e0.length := by rw [l0]; exact (List.getElem?_eq_some_iff.mp h1).1
                exfalso
                have : ∀ {ps : List AV} {k : Nat} {e0 : Env}, argE e k ps = some e0 → ∀ (m j : Nat), ps[m]? = some (AV.ln j) → ∃ x, valA e (.ln j) = some x := by
                  intro ps
                  induction ps with
                  | nil => intro k e0 _ m j h; simp at h
                  | cons c ps ih =>
                    intro k e0 h m j hm
                    simp only [argE] at h
                    split at h
                    · rename_i x r q1 q2
                      cases m with
                      | zero => simp at hm; subst hm; exact ⟨x, q1⟩
                      | succ m => exact ih q2 m j (by simpa using hm)
                    · cases h
                obtain ⟨w, hw⟩ := this hae m i h1
                simp only [valA, h5, hx] at hw
                cases hw
          obtain ⟨z0, h1, h2⟩ := old hz oz
          obtain ⟨z1, h3, h4⟩ := old hz' oz'
          exact rel.ne i j z0 z1 v hij h1 h3 h2 h4 hs hs'
        · rcases gb i z hz with ⟨h1, h2⟩ | ⟨m, y, x, h1, h2, h3, h4, h5, rfl⟩
          · exact rel.tag i z h1 oz tz
          · rw [retag_own] at oz
            rw [retag_tag oz] at tz ⊢
            cases x with
            | p d => exact absurd rfl tz
            | own t xs => exact rel.tag i _ h5 rfl tz
            | od t ks ds => exact rel.tag i _ h5 rfl tz
            | oo t c ns ds => exact rel.tag i _ h5 rfl tz
        · rcases gb i z hz with ⟨h1, h2⟩ | ⟨m, y, x, h1, h2, h3, h4, h5, rfl⟩
          · obtain ⟨w, h3, h4⟩ := rel.at_ i z h1
            rw [hs] at h3; cases h3
            obtain ⟨b, rfl⟩ := own_ref oz h4
            exact .inl ⟨b, rfl, keepU i z h1 h2 oz b hs⟩
          · have h2' : e1[m]? = some (some y) := by rw [← h2]; congr 1; omega
            obtain ⟨w, h6, h7, _⟩ := lentAt i m y h1 h2'
            rw [hs] at h6; cases h6
            exact .inr ⟨m, y, h2', h3, h7⟩
      cases hF : F e0 with
      | fail => rw [hF] at p; exact p
      | ok x e1 =>
        rw [hF] at p
        simp only at p
        cases hb : back e1 0 (permL pm avs) e with
        | none => rw [hb] at p; exact p.elim
        | some e' =>
          rw [hb] at p
          intro v L1 H1 s1 rel1 rx
          obtain ⟨a1, a2, a3⟩ := after s1 rel1 hb
          refine p v L1 H1 a1 a2 ⟨rx.1.weak hu, fun ox => ⟨(rx.2 ox).1, fun i z hz oz hs => ?_⟩⟩
          rcases a3 i z v hz oz hs with ⟨b, rfl, u⟩ | ⟨m, y, h1, h2, h3⟩
          · exact (rx.1.nu ox).2 u
          · exact (rx.2 ox).2 m y h1 h2 h3
      | exc c x e1 =>
        rw [hF] at p
        simp only at p
        cases hb : back e1 0 (permL pm avs) e with
        | none => rw [hb] at p; exact p.elim
        | some e' =>
          rw [hb] at p
          intro cls d L1 H1 s1 rel1 xx
          obtain ⟨a1, a2, _⟩ := after s1 rel1 hb
          exact p cls d L1 H1 a1 a2 xx
  · exact p.elim
end M

set_option Elab.async false
set_option linter.all false
set_option maxRecDepth 100000
set_option maxHeartbeats 2000000
/-! M13: functions by their bodies; call expressions. -/
namespace M
open PySem PySem.Spec PyProof.Rows L2

/-- a function keeps its promise, wherever the guards are none -/
structure FnG (P : Program) (w : World) (K : PySem.W.Frag) (mg : Str → Option Value) (base : Heap) (k : Nat) (f : Addr) (fd : FuncData) (ps : List Str) (F : Env → Res Val) : Prop where
  run : ∀ (A : Around) (outer : List PySem.Env) (s : Shared) (H : Hp) (args : Args) (us : List Value) (vs : List V) (Q : VK) (E : XK), A.guards = some [] → Room k A → Env0 P w K mg base A outer s H → BindsTo s fd args (ps.zip us) →
    Vals vs us → vs.length = ps.length → spF ⟨K, mg⟩ F vs H Q E → codeAny (model P w) A (.call (.ref f) args) (CR (L2.CX P w) outer P w H s Q E) s
/-- what the lent slots hold at the end -/
def outE : Env → Env → Option Env
  | [], _ => some []
  | some x :: e, y :: e' => if x.isOwn = true then (match y with
      | some y => if y.isOwn = true ∧ y.tag = x.tag ∧ x.tag ≠ 0 then (outE e e').map (some y :: ·) else none
      | none => none) else (outE e e').map (none :: ·)
  | none :: e, _ :: e' => (outE e e').map (none :: ·)
  | _ :: _, [] => none
theorem outE_get : ∀ {e e' o : Env}, outE e e' = some o → o.length = e.length ∧ ∀ (i : Nat) y, o[i]? = some (some y) → e'[i]? = some (some y) ∧ y.isOwn = true ∧ ∃ x, e[i]? = some (some x) ∧ x.isOwn = true ∧ y.tag = x.tag ∧ x.tag ≠ 0
  | [], _, _, h => by cases h; exact ⟨rfl, fun i y h => by simp at h⟩
  | some x :: e, y :: e', o, h => by
    simp only [outE] at h
    split at h
    · rename_i ox
      split at h
      · rename_i z
        split at h
        · rename_i hc
          obtain ⟨o', h1, h2⟩ := Option.map_eq_some_iff.mp h
          subst h2
          obtain ⟨l, g⟩ := outE_get h1
          refine ⟨by rw [List.length_cons, List.length_cons, l], fun i q hq => ?_⟩
          cases i with
          | zero => simp at hq; subst hq; exact ⟨rfl, hc.1, x, rfl, ox, hc.2.1, hc.2.2⟩
          | succ i => simpa using g i q (by simpa using hq)
        · cases h
      · cases h
    · obtain ⟨o', h1, h2⟩ := Option.map_eq_some_iff.mp h
      subst h2
      obtain ⟨l, g⟩ := outE_get h1
      refine ⟨by rw [List.length_cons, List.length_cons, l], fun i q hq => ?_⟩
      cases i with
      | zero => simp at hq
      | succ i => simpa using g i q (by simpa using hq)
  | none :: e, y :: e', o, h => by
    simp only [outE] at h
    obtain ⟨o', h1, h2⟩ := Option.map_eq_some_iff.mp h
    subst h2
    obtain ⟨l, g⟩ := outE_get h1
    refine ⟨by rw [List.length_cons, List.length_cons, l], fun i q hq => ?_⟩
    cases i with
    | zero => simp at hq
    | succ i => simpa using g i q (by simpa using hq)
  | x :: e, [], o, h => by cases x <;> cases h
/-- a run of a body -/
def runF (fb : Env → Res Fl) (n : Nat) (e : Env) : Res Val := match fb (e ++ List.replicate (n - e.length) none) with
  | .ok (.rt x) e' => (lift (outE e e') e').bind fun o _ => .ok x o
  | .ok .nx e' => (lift (outE e e') e').bind fun o _ => .ok (.p .non) o
  | .exc c x e' => (lift (outE e e') e').bind fun o _ => .exc c x o
  | _ => .fail
section
variable {G : Tx} {U L : AS} {lent : Nat → Addr} {σ : SL} {H : Hp} {e : Env}
theorem rel_start {N : List Str} {vs : List V} (rel : Rel G U L lent (vs.map some) H e) : Rel G U L lent (start N vs) H (e ++ List.replicate (N.length - e.length) none) := by
  have hl : e.length = vs.length := by rw [rel.len, List.length_map]
  have old : ∀ {i x}, (e ++ List.replicate (N.length - e.length) none)[i]? = some (some x) → e[i]? = some (some x) ∧ (start N vs)[i]? = (vs.map some)[i]? := fun {i x} h => by
    by_cases hi : i < e.length
    · rw [List.getElem?_append_left hi] at h
      refine ⟨h, ?_⟩
      unfold L2.start
      rw [List.getElem?_append_left (by rw [List.length_map, ← hl]; exact hi)]
    · rw [List.getElem?_append_right (by omega), List.getElem?_replicate] at h
      split at h <;> cases h
  refine ⟨rel.sub, rel.trk, ?_, fun i x h => ?_, fun i j x y v hij hx hy ox oy s1 s2 => ?_, fun i x h ox tx => ?_⟩
  · unfold L2.start
    simp only [List.length_append, List.length_replicate, List.length_map, hl]
  · obtain ⟨h1, h2⟩ := old h
    obtain ⟨v, h3, h4⟩ := rel.at_ i x h1
    exact ⟨v, h2.trans h3, h4⟩
  · obtain ⟨h1, h2⟩ := old hx
    obtain ⟨h3, h4⟩ := old hy
    exact rel.ne i j x y v hij h1 h3 ox oy (h2.symm.trans s1) (h4.symm.trans s2)
  · obtain ⟨h1, h2⟩ := old h
    exact h2.trans (rel.tag i x h1 ox tx)
theorem rel_end {vs : List V} {L' : AS} {H' : Hp} {σ' : SL} {e' o : Env} (rel : Rel G U L lent (vs.map some) H e) (rel' : Rel G U L' lent σ' H' e') (ho : outE e e' = some o) : Rel G U L' lent (vs.map some) H' o ∧
    ∀ (i : Nat) y, o[i]? = some (some y) → e'[i]? = some (some y) ∧ (vs.map some)[i]? = σ'[i]? := by
  obtain ⟨l, g⟩ := outE_get ho
  have at' : ∀ (i : Nat) y, o[i]? = some (some y) → e'[i]? = some (some y) ∧ y.isOwn = true ∧ (vs.map some)[i]? = σ'[i]? := fun i y h => by
    obtain ⟨h1, h2, x, h3, h4, h5, h6⟩ := g i y h
    refine ⟨h1, h2, ?_⟩
    rw [rel.tag i x h3 h4 h6, rel'.tag i y h1 h2 (by rw [h5]; exact h6), h5]
  refine ⟨⟨rel'.sub, rel'.trk, by rw [l]; exact rel.len, fun i y h => ?_, fun i j x y v hij hx hy ox oy s1 s2 => ?_, fun i y h oy ty => ?_⟩, fun i y h => ⟨(at' i y h).1, (at' i y h).2.2⟩⟩
  · obtain ⟨h1, _, h2⟩ := at' i y h
    obtain ⟨v, h3, h4⟩ := rel'.at_ i y h1
    exact ⟨v, h2.trans h3, h4⟩
  · obtain ⟨h1, _, h2⟩ := at' i x hx
    obtain ⟨h3, _, h4⟩ := at' j y hy
    exact rel'.ne i j x y v hij h1 h3 ox oy (h2.symm.trans s1) (h4.symm.trans s2)
  · obtain ⟨h1, _, h2⟩ := at' i y h
    exact h2.trans (rel'.tag i y h1 oy ty)
theorem rv_end {vs : List V} {L' : AS} {H' : Hp} {σ' : SL} {e' o : Env} {x : Val} {v : V} (h : ∀ (i : Nat) y, o[i]? = some (some y) → e'[i]? = some (some y) ∧ (vs.map some)[i]? = σ'[i]?) (rv : RV G U L' σ' H' e' x v) : RV G U L' (vs.map some) H' o x v :=
  ⟨rv.1, fun ox => ⟨(rv.2 ox).1, fun i y hy oy hs => by
    obtain ⟨h1, h2⟩ := h i y hy
    exact (rv.2 ox).2 i y h1 oy (h2.symm.trans hs)⟩⟩
/-- a body's reading from a promise -/
theorem body_of {N : List Str} {vs : List V} {F : Env → Res Val} {fb : Env → Res Fl} {Q : VK} {E : XK} (hF : ∀ e, F e ≠ .fail → runF fb N.length e = F e) (h : spF G F vs H Q E) :
    rdS G (fun c d _ H => E c d H) fb { nx := fun _ H' => Q .non H', rt := Q } (start N vs) H := by
  obtain ⟨U, L, lent, e, rel, p⟩ := h
  have nf : F e ≠ .fail := fun z => by rw [z] at p; exact p
  have hr := hF e nf
  refine ⟨U, L, lent, _, rel_start rel, ?_⟩
  rw [← hr] at p
  unfold runF at p
  cases hfb : fb (e ++ List.replicate (N.length - e.length) none) with
  | fail => rw [hfb] at p; exact p
  | ok fl e' =>
    rw [hfb] at p
    cases fl with
    | bk => exact p.elim
    | ct => exact p.elim
    | nx =>
      simp only at p
      cases ho : outE e e' with
      | none => rw [ho] at p; exact p.elim
      | some o =>
        rw [ho] at p
        intro σ' L' H' s rel'
        obtain ⟨r1, r2⟩ := rel_end rel rel' ho
        exact p .non L' H' s r1 ⟨rfl, fun z => nomatch z⟩
    | rt x =>
      simp only at p
      cases ho : outE e e' with
      | none => rw [ho] at p; exact p.elim
      | some o =>
        rw [ho] at p
        intro v σ' L' H' s rel' rv
        obtain ⟨r1, r2⟩ := rel_end rel rel' ho
        exact p v L' H' s r1 (rv_end r2 rv)
  | exc c x e' =>
    rw [hfb] at p
    simp only at p
    cases ho : outE e e' with
    | none => rw [ho] at p; exact p.elim
    | some o =>
      rw [ho] at p
      intro cls d σ' L' H' s rel' xx
      obtain ⟨r1, r2⟩ := rel_end rel rel' ho
      exact p cls d L' H' s r1 xx
end
section
variable {P : Program} {w : World} {K : PySem.W.Frag} {mg : Str → Option Value} {base : Heap}
/-- a def by its body -/
theorem fn_mkG {k : Nat} {f : Addr} {name qual : Str} {params : Arguments} {body : List Stmt} {scope : Scope} {dV kV doc pm cdv ct oc : Value} {an od : Option Addr} {osl : Array (Option Value)} {N ps : List Str} {F : Env → Res Val} {fb : Env → Res Fl}
    (lk : K.lookup f = some ⟨oc, od, .func (PySem.W.fnOf name qual params body scope dV kV doc pm an cdv ct), osl⟩) (hcd : PySem.W.codeIn K cdv qual = true) (S : FnScope N ps scope) (hF : ∀ e, F e ≠ .fail → runF fb N.length e = F e)
    (hb : ∀ (A : Around) (outer : List PySem.Env) (s : Shared) (H : Hp) (E : XK), (A.deeper (envOfC qual scope s.heap.objs.size f cdv)).guards = some [] → Room k (A.deeper (envOfC qual scope s.heap.objs.size f cdv)) →
      PSs (cxOf (L2.CX P w) P w K mg base N qual scope f cdv A outer s H E) body (rS (cxOf (L2.CX P w) P w K mg base N qual scope f cdv A outer s H E) (fun c d _ H => E c d H) fb)) :
    FnG P w K mg base (k + 1) f (PySem.W.fnOf name qual params body scope dV kV doc pm an cdv ct) ps F := by
  constructor
  intro A outer s H args us vs Q E hgd hr e0 hbind r hl hsp
  have KX : K.In s.heap := e0.mod.kin.keeps fun b o e => (e0.bs b o e).1
  have lim : s.heap.NoLimit := e0.mod.nolimit.keeps fun b o e => (e0.bs b o e).1
  have kinds : ∀ y ∈ ps.zip us, scope.names.lookup y.1 = some .local ∨ (scope.names.lookup y.1 = some .cell ∧ ((cellsFrom (s.heap.objs.size + 1) scope.names []).lookup y.1).isSome = true) := by
    rintro ⟨n, v⟩ hy
    exact (S.par n (List.of_mem_zip hy).1).imp id fun q => ⟨q, PySem.W.cellsFrom_some _ _ _ (.inl q)⟩
  refine codeAny_call_function hr.depth (KX _ _ lk) rfl S.co S.gen rfl (PySem.W.codeRec_of KX hcd) (hbind _ _ _ _ ?_)
  refine wpAny_newFunctionEnv_cells S.kind kinds fun env he s1 x => ?_
  subst he
  refine ⟨lim.keeps x.toInCall.keep, codeAny_func ?_⟩
  have ht := hb A outer s H E (by exact hgd) (hr.deeper _)
  have I := inv_start (CX := L2.CX P w) (cd := cdv) (qual := qual) (f := f) (E := E) S hr.hd e0 hl r x
  refine wpAny_mono (ht.run [] s1 (start N vs) H _ I (body_of (G := ⟨K, mg⟩) hF hsp)) (fun fl s' hs => ?_) fun e s' hs => hs
  have done : ∀ {σ' : L2.St} {H' : Hp} {v : V} {u : Value}, Inv (cxOf (L2.CX P w) P w K mg base N qual scope f cdv A outer s H E) [] σ' H' s' → RelV v u → Q v H' → CE outer P w H s Q u s' :=
    fun {σ' H' v u} J rv q => ⟨v, H', J.os, J.bare, J.base, J.hok, rv, q⟩
  cases fl with
  | next => obtain ⟨σ', H', J, q⟩ := hs; exact done (v := .non) (u := .none) J rfl q
  | ret u => obtain ⟨v, σ', H', J, rv, q⟩ := hs; exact done J rv q
  | brk => obtain ⟨_, _, _, q⟩ := hs; exact q.elim
  | cont => obtain ⟨_, _, _, q⟩ := hs; exact q.elim
end

/-! ### what may be called by a name -/
/-- how a call with na positional values and keywords ks binds: pm tells where each parameter's value stands -/
def BindG (K : PySem.W.Frag) (fd : FuncData) (ps : List Str) (na : Nat) (ks : List Str) (pm : List Nat) : Prop :=
  ∀ (s : Shared) (us ws : List Value), K.In s.heap → us.length = na → ws.length = ks.length → BindsTo s fd ⟨us, ks.zip ws⟩ (ps.zip (permL pm (us ++ ws)))
structure Cal (X : Cx) (x : Str) (n : Nat) (F : Env → Res Val) (sh : List (Nat × List Str × List Nat)) : Prop where
  ex : ∃ (k : Nat) (f : Addr) (fd : FuncData) (ps : List Str), FnG X.prog X.w X.K X.mg X.base k f fd ps F ∧ Room k X.A ∧ X.mg x = some (.ref f) ∧ PySem.W.keepIn X.K (.ref f) = true ∧ ps.length = n ∧ ∀ q ∈ sh, q.2.2.length = n ∧ BindG X.K fd ps q.1 q.2.1 q.2.2
section
variable {X : Cx} {W : WX}
theorem vals_perm {pm : List Nat} : ∀ {vs : List V} {us : List Value}, Vals vs us → (∀ i ∈ pm, i < vs.length) → Vals (permL pm vs) (permL pm us) := by
  intro vs us r
  induction pm with
  | nil => intro _; exact .nil
  | cons i pm ih =>
    intro h
    have hi := h i List.mem_cons_self
    obtain ⟨u, hu, ru⟩ := r.get (List.getElem?_eq_getElem hi)
    have e1 : permL (i :: pm) vs = vs[i] :: permL pm vs := by
      unfold permL; rw [List.filterMap_cons, List.getElem?_eq_getElem hi]
    have e2 : permL (i :: pm) us = u :: permL pm us := by
      unfold permL; rw [List.filterMap_cons, hu]
    rw [e1, e2]
    exact .cons ru (ih fun j hj => h j (List.mem_cons_of_mem _ hj))
/-- the callee runs -/
theorem run_fnG {k : Nat} {f : Addr} {fd : FuncData} {ps ks : List Str} {F : Env → Res Val} {na : Nat} {pm : List Nat} {pins : List (Addr × Obj)} {σ : L2.St} {H : Hp} {s : Shared} {Q : VK} {us ws : List Value} {vs zs : List V} (tk : Takes X W) (hgd : X.A.guards = some []) (Fn : FnG X.prog X.w X.K X.mg X.base k f fd ps F) (hr : Room k X.A)
    (hb : BindG X.K fd ps na ks pm) (hn : pm.length = ps.length) (I : Inv X pins σ H s) (r : Vals vs us) (rz : Vals zs ws) (l1 : vs.length = na) (l2 : zs.length = ks.length) (hp : ∀ i ∈ pm, i < (vs ++ zs).length) (h : spF (tx X) F (permL pm (vs ++ zs)) H Q (WE W σ)) :
    wpAny (model X.prog X.w) X.A (call (.ref f) us (ks.zip ws)) (EP X pins σ Q) X.xe s := by
  have r2 : Vals (permL pm (vs ++ zs)) (permL pm (us ++ ws)) := vals_perm (r.append rz) hp
  refine wpAny_call (codeAny_mono (Fn.run X.A X.stack s H ⟨us, ks.zip ws⟩ (permL pm (us ++ ws)) _ Q (WE W σ) hgd hr I.env0 (hb s us ws I.kIn (r.length.symm.trans l1) (rz.length.symm.trans l2)) r2 (by rw [(permL_get hp).1, hn]) h) fun r s' hq => ?_)
  cases r with
  | error e => exact passAt tk σ pins H s e s' I hq
  | ok fl =>
    cases fl with
    | ret u => exact I.after hq
    | next => exact False.elim hq
    | brk => exact False.elim hq
    | cont => exact False.elim hq
/-- f(e, ..) -/
def callP (F : Env → Res Val) (n : Nat) (pm : List Nat) (avs : List AV) (e : Env) : Res Val := if avs.length = n then callE F pm avs e else .fail
theorem pe_callG {x : Str} {n : Nat} {F : Env → Res Val} {sh : List (Nat × List Str × List Nat)} {na : Nat} {pm : List Nat} {a : Expr} {es : List Expr} {p pos : Pos} {f : Env → Res (List AV)} (tk : Takes X W) (hgd : X.A.guards = some []) (cal : Cal X x n F sh) (hs : (na, [], pm) ∈ sh) (hg : Gl X x) (ha : PA X (a :: es) (rAV X W f))
    (hst : (a :: es).all ns = true) (hdb : (x == ("__debug__" : Str)) = false) : PE X (.Call (.Name x p) (a :: es) [] pos) (rE X W fun e => (f e).bind (callP F na pm)) := by
  obtain ⟨k, g, fd, ps, Fn, hr, hm, hk, hpl, hb⟩ := cal.ex
  obtain ⟨h1, h2⟩ := hb _ hs
  rw [List.all_cons, Bool.and_eq_true] at hst
  refine ⟨fun pins s σ H Q I ⟨U, L, lent, e, rel, q⟩ => ?_⟩
  refine wpAny_Call_Name_kw (ld_glob I hg hm ?_ hdb)
  have hq : rAV X W f σ H (fun vs H1 => vs.length = na ∧ (∀ i ∈ pm, i < vs.length) ∧ spF (tx X) F (permL pm vs) H1 Q (WE W σ)) := rd_of rel q fun vs L1 H1 avs e1 s1 rel1 ra p1 => by
    unfold callP at p1
    split at p1
    · rename_i hl
      obtain ⟨c1, c2⟩ := call_core rel1 ra p1
      exact ⟨by rw [← ra.len]; exact hl, c2, c1⟩
    · exact p1.elim
  refine PySem.W.callWith_K (h₀ := X.base) I.ok.mod.kin hk (thn (ha.run pos pins s σ H _ I hq) fun us s1 ⟨vs, H1, I1, r, q1, q2, q3⟩ => ⟨I1.kIn, ?_⟩) (star_ns hst.1) (star_none hst.2)
  exact run_fnG (ks := []) (zs := []) (ws := []) (pm := pm) tk hgd Fn hr h2 (h1.trans hpl.symm) I1 r .nil q1 rfl (by rw [List.append_nil]; exact q2) (by rw [List.append_nil]; exact q3)
theorem pe_callG0 {x : Str} {n : Nat} {F : Env → Res Val} {sh : List (Nat × List Str × List Nat)} {p pos : Pos} (tk : Takes X W) (hgd : X.A.guards = some []) (cal : Cal X x n F sh) (hs : (0, [], []) ∈ sh) (hg : Gl X x) (hdb : (x == ("__debug__" : Str)) = false) :
    PE X (.Call (.Name x p) [] [] pos) (rE X W fun e => callP F 0 [] [] e) := by
  obtain ⟨k, g, fd, ps, Fn, hr, hm, hk, hpl, hb⟩ := cal.ex
  obtain ⟨h1, h2⟩ := hb _ hs
  refine ⟨fun pins s σ H Q I ⟨U, L, lent, e, rel, q⟩ => ?_⟩
  refine wpAny_Call_Name_kw (ld_glob I hg hm ?_ hdb)
  obtain ⟨c1, c2⟩ := call_core (avs := []) (vs := []) (pm := []) rel rfl q
  exact PySem.W.callWith_K0 I.kIn hk (run_fnG (us := []) (vs := []) (ks := []) (zs := []) (ws := []) (pm := []) tk hgd Fn hr h2 (h1.trans hpl.symm) I .nil .nil rfl rfl c2 c1)
/-- keywords' values -/
theorem pk_nilM : PK X [] (rA X W fun e => .ok [] e) := ⟨fun pos pins s σ H Q I ⟨U, L, lent, e, rel, p⟩ => pk_nil.run pos pins s σ H Q I (p _ _ _ (Step.refl rel.sub) rel RpL.nil)⟩
theorem pk_consM {a : Expr} {kws : List Keyword} {nm : Option Str} {kpos : Pos} {f : Env → Res D} {g : Env → Res (List D)} (ha : PE X a (rP X W f)) (hr : PK X kws (rA X W g)) : PK X (⟨nm, a, kpos⟩ :: kws) (rA X W fun e => (f e).bind fun x e1 => (g e1).bind fun xs e2 => .ok (x :: xs) e2) := by
  refine ⟨fun pos pins s σ H Q I ⟨U, L, lent, e, rel, p⟩ => (pk_cons ha hr).run pos pins s σ H Q I ?_⟩
  show rP X W f σ H _
  refine rd_of rel p fun v L1 H1 x e1 s1 rel1 rx p1 => rd_of rel1 p1 fun vs L2 H2 xs e2 s2 rel2 rxs p2 => ?_
  exact p2 _ _ _ (Step.refl rel2.sub) rel2 (.cons (Rp.step s2 rx) rxs)
/-- plain values, handed -/
def plainA (ds : List D) : List AV := ds.map fun d => .v (.p d)
theorem ras_plain {G : Tx} {L : AS} {H : Hp} {σ : SL} {e : Env} : ∀ {ds : List D} {vs : List V} {U : AS}, RpL G L H ds vs → RAs G (plainA ds) vs U L σ H e
  | [], _, _, h => h
  | d :: ds, _, U, ⟨v, vs', e, h, t⟩ => ⟨v, vs', e, ⟨h, fun z => nomatch z⟩, ras_plain t⟩
def callKw (F : Env → Res Val) (na nk : Nat) (pm : List Nat) (ds ks : List D) (e : Env) : Res Val := if ds.length = na ∧ ks.length = nk then callE F pm (plainA (ds ++ ks)) e else .fail
/-- every keyword by its name -/
def kwn (k : Keyword) : Bool := k.arg.isSome
theorem kw_eq {pos : Pos} {env : PySem.Env} : ∀ {kws : List Keyword}, kws.all kwn = true → (backToKw pos (keywordEach kws env)).all (·.1.isSome) = true ∧ (backToKw pos (keywordEach kws env)).filterMap (·.1) = kws.filterMap (·.arg) ∧ (backToKw pos (keywordEach kws env)).any (·.1.isNone) = false
  | [], _ => ⟨rfl, rfl, rfl⟩
  | ⟨none, _, _⟩ :: kws, h => by rw [List.all_cons] at h; cases h
  | ⟨some n, a, q⟩ :: kws, h => by
    rw [List.all_cons, Bool.and_eq_true] at h
    obtain ⟨h1, h2, h3⟩ := kw_eq (pos := pos) (env := env) h.2
    refine ⟨?_, ?_, ?_⟩
    · show (true && (backToKw pos (keywordEach kws env)).all (·.1.isSome)) = true
      rw [h1]; rfl
    · show (n :: (backToKw pos (keywordEach kws env)).filterMap (·.1)) = _
      rw [h2]; rfl
    · show (false || (backToKw pos (keywordEach kws env)).any (·.1.isNone)) = false
      rw [h3]; rfl
theorem pe_callKG {x : Str} {n : Nat} {F : Env → Res Val} {sh : List (Nat × List Str × List Nat)} {na : Nat} {ks : List Str} {pm : List Nat} {a : Expr} {es : List Expr} {kws : List Keyword} {p pos : Pos} {f g : Env → Res (List D)} (tk : Takes X W) (hgd : X.A.guards = some []) (cal : Cal X x n F sh) (hs : (na, ks, pm) ∈ sh) (hg : Gl X x)
    (ha : PA X (a :: es) (rA X W f)) (hkw : PK X kws (rA X W g)) (hst : (a :: es).all ns = true) (hkn : kws.all kwn = true) (hks : kws.filterMap (·.arg) = ks) (hdb : (x == ("__debug__" : Str)) = false) :
    PE X (.Call (.Name x p) (a :: es) kws pos) (rE X W fun e => (f e).bind fun ds e1 => (g e1).bind fun kd e2 => callKw F na ks.length pm ds kd e2) := by
  obtain ⟨k, gf, fd, ps, Fn, hr, hm, hk, hpl, hb⟩ := cal.ex
  obtain ⟨h1, h2⟩ := hb _ hs
  rw [List.all_cons, Bool.and_eq_true] at hst
  obtain ⟨k1, k2, k3⟩ := kw_eq (pos := pos) (env := X.env) hkn
  refine ⟨fun pins s σ H Q I ⟨U, L, lent, e, rel, q⟩ => ?_⟩
  refine wpAny_Call_Name_kw (ld_glob I hg hm ?_ hdb)
  have hq : rA X W f σ H (fun vs H1 => rA X W g σ H1 fun zs H2 => vs.length = na ∧ zs.length = ks.length ∧ (∀ i ∈ pm, i < (vs ++ zs).length) ∧ spF (tx X) F (permL pm (vs ++ zs)) H2 Q (WE W σ)) :=
    rd_of rel q fun vs L1 H1 ds e1 s1 rel1 rd p1 => rd_of rel1 p1 fun zs L2 H2 kd e2 s2 rel2 rk p2 => by
      unfold callKw at p2
      split at p2
      · rename_i hl
        have rall := (RpL.step s2 rd).append rk
        obtain ⟨c1, c2⟩ := call_core rel2 (ras_plain (σ := σ) (e := e2) (U := U) rall) p2
        exact ⟨by rw [← RpL.length rd]; exact hl.1, by rw [← RpL.length rk]; exact hl.2, c2, c1⟩
      · exact p2.elim
  refine PySem.W.callWith_KW (h₀ := X.base) I.ok.mod.kin hk k1 (thn (ha.run pos pins s σ H _ I hq) fun us s1 ⟨vs, H1, I1, r, q1⟩ => ?_) (by rw [star_ns hst.1]; show ((false || (backTo pos (starEach es X.env)).any (·.1)) || _) = false; rw [star_none hst.2, k3]; rfl) (star_ns hst.1)
  refine thn (hkw.run pos pins s1 σ H1 _ I1 q1) fun ws s2 ⟨zs, H2, I2, rz, l1, l2, q2, q3⟩ => ⟨I2.kIn, ?_⟩
  rw [k2, hks]
  exact run_fnG tk hgd Fn hr h2 (h1.trans hpl.symm) I2 r rz l1 l2 q2 q3
theorem pe_callKG0 {x : Str} {n : Nat} {F : Env → Res Val} {sh : List (Nat × List Str × List Nat)} {ks : List Str} {pm : List Nat} {kws : List Keyword} {p pos : Pos} {g : Env → Res (List D)} (tk : Takes X W) (hgd : X.A.guards = some []) (cal : Cal X x n F sh) (hs : (0, ks, pm) ∈ sh) (hg : Gl X x)
    (hkw : PK X kws (rA X W g)) (hkn : kws.all kwn = true) (hks : kws.filterMap (·.arg) = ks) (hdb : (x == ("__debug__" : Str)) = false) :
    PE X (.Call (.Name x p) [] kws pos) (rE X W fun e => (g e).bind fun kd e2 => callKw F 0 ks.length pm [] kd e2) := by
  obtain ⟨k, gf, fd, ps, Fn, hr, hm, hk, hpl, hb⟩ := cal.ex
  obtain ⟨h1, h2⟩ := hb _ hs
  obtain ⟨k1, k2, k3⟩ := kw_eq (pos := pos) (env := X.env) hkn
  refine ⟨fun pins s σ H Q I ⟨U, L, lent, e, rel, q⟩ => ?_⟩
  refine wpAny_Call_Name_kw (ld_glob I hg hm ?_ hdb)
  have hq : rA X W g σ H (fun zs H2 => zs.length = ks.length ∧ (∀ i ∈ pm, i < zs.length) ∧ spF (tx X) F (permL pm zs) H2 Q (WE W σ)) :=
    rd_of rel q fun zs L2 H2 kd e2 s2 rel2 rk p2 => by
      unfold callKw at p2
      split at p2
      · rename_i hl
        obtain ⟨c1, c2⟩ := call_core rel2 (ras_plain (σ := σ) (e := e2) (U := U) rk) p2
        exact ⟨by rw [← RpL.length rk]; exact hl.2, c2, c1⟩
      · exact p2.elim
  refine PySem.W.callWith_KW0 (h₀ := X.base) I.ok.mod.kin hk k1 (thn (hkw.run pos pins s σ H _ I hq) fun ws s2 ⟨zs, H2, I2, rz, l2, q2, q3⟩ => ⟨I2.kIn, ?_⟩) (by show (false || _) = false; rw [k3]; rfl)
  rw [k2, hks]
  exact run_fnG (us := []) (vs := []) tk hgd Fn hr h2 (h1.trans hpl.symm) I2 .nil rz rfl l2 q2 q3
end
end M

set_option Elab.async false
set_option linter.all false
set_option maxRecDepth 100000
set_option maxHeartbeats 4000000
/-! M14: set(list of whole numbers). -/
namespace M
open PySem PySem.Spec PyProof.Rows L2
abbrev emptyS (w : World) : Obj := { cls := .type "set", dict := none, data := .set #[] 0 (.fresh 0 0 (!w.params.followText "set-order")) }
section
variable {P : Program} {w : World} {A : Around} {E : Value → Shared → Prop} {s : Shared}
/-- what stands behind the filling of the new set -/
structure SetDone (w : World) (s : Shared) (ns : List Int) (s' : Shared) : Prop where
  ex : ∃ h' tk c, s' = { s with heap := h', toks := tk } ∧ SetR w h' s.heap.objs.size (fun j => decide (j ∈ ns)) c ∧ c ≤ ns.length ∧ ∀ b o, s.heap.get? b = some o → h'.get? b = some o
theorem fill_list {l : Addr} {items : Array Value} {ns : List Int} (hh : A.handled = none) (hl : s.heap.IsList l items) (hit : IntsAre items.toList ns) (hb : ns.length + 1 < scanBound) {R : Result → Shared → Prop}
    (hR : ∀ s', SetDone w s ns s' → R (.ok (.ret .none)) s') (s0 : Shared) (e0 : s0 = { s with heap := (s.heap.push (emptyS w)).push { cls := .type "list_iterator", data := .fields #[.ref l, .int 0 0] } }) :
    codeAny (model P w) A (.builtin "set.update.loop" ⟨[.ref s.heap.objs.size, .ref (s.heap.push (emptyS w)).objs.size], []⟩) R s0 := by
  have esz : (s.heap.push (emptyS w)).objs.size = s.heap.objs.size + 1 := Heap.size_push ..
  rw [esz]
  have hsz : items.size = ns.length := by have q := IntsAre.length hit; rwa [Array.length_toList] at q
  have hl0 : l < s.heap.objs.size := by obtain ⟨o, ho, _⟩ := hl; exact Heap.lt_size ho
  have hgt : ((s.heap.push (emptyS w)).push { cls := .type "list_iterator", data := .fields #[.ref l, .int 0 0] }).get? s.heap.objs.size = some (emptyS w) := Heap.get?_push_of_some _ (Heap.get?_push_size _ rfl)
  have val : ∀ (i : Nat) (v : Value), items[i]? = some v → ∃ k t, ns[i]? = some k ∧ v = .int k t := fun i v hv => by
    have hi : i < ns.length := by rw [← hsz]; exact (Array.getElem?_eq_some_iff.mp hv).1
    obtain ⟨t, e⟩ := IntsAre.int_at hit i v (by rw [Array.getElem?_toList]; exact hv)
    exact ⟨ns[i], t, List.getElem?_eq_getElem hi, by rw [e, List.getD_eq_getElem?_getD, List.getElem?_eq_getElem hi] <;> rfl⟩
  have ne1 : l ≠ s.heap.objs.size + 1 := Nat.ne_of_lt (Nat.lt_succ_of_lt hl0)
  have nf : s.heap.objs.size ∉ [s.heap.objs.size + 1, l] := fun h => by
    rcases List.mem_cons.mp h with h | h
    · exact absurd h (Nat.ne_of_lt (Nat.lt_succ_self _))
    · exact absurd (List.mem_singleton.mp h) (Nat.ne_of_gt hl0)
  subst e0
  refine set_update_ints ((Walks.list (prog := P) (w := w) (A := A.in1) hh _ l ne1 items).toS) s.heap.objs.size nf ns hsz hb val (items.size - 0) 0 _ (by omega) (Nat.zero_le _)
    ⟨⟨_, by rw [show s.heap.objs.size + 1 = (s.heap.push (emptyS w)).objs.size by rw [Heap.size_push]]; exact Heap.get?_push_size _ rfl, rfl, rfl⟩, (hl.push _).push _⟩ ⟨0, Nat.le_refl 0, setR_new_at hgt⟩ fun s' c m hc hS => hR s' ?_
  obtain ⟨h', g2, d', tk', os'⟩ := s'
  obtain rfl : g2 = s.gens := m.gens
  obtain rfl : d' = s.drawn := m.drawn
  obtain rfl : os' = s.os := m.os
  refine ⟨h', tk', c, rfl, hS, by rw [← hsz]; exact hc, fun b o e => m.heap b o ?_ (Heap.get?_push_of_some _ (Heap.get?_push_of_some _ e))⟩
  have hlt := Heap.lt_size e
  intro h
  rcases List.mem_cons.mp h with h | h
  · exact absurd h (Nat.ne_of_lt hlt)
  · exact absurd (List.mem_singleton.mp h) (Nat.ne_of_lt (Nat.lt_succ_of_lt hlt))
theorem set_of_list {l : Addr} {items : Array Value} (ns : List Int) {Q : Value → Shared → Prop} (hh : A.handled = none) (hl : s.heap.IsList l items) (hit : IntsAre items.toList ns) (hb : ns.length + 1 < scanBound)
    (h : ∀ s', SetDone w s ns s' → Q (.ref s.heap.objs.size) s') : wpAny (model P w) A (call (.type "set") [.ref l]) Q E s := by
  obtain ⟨c0, t0, mro⟩ := F.called_set.mro
  have made := F.called_set.made
  have sub1 := F.called_set.sub
  have nt := F.called_set.notType
  have cc := F.called_set.canCreate
  have tc := F.typeCall_set_1 (.ref l)
  refine wpAny_call (codeAny_of_tree ?_)
  show wpAny _ _ (callAny (.type "set") _) _ _ _
  refine wpAny_pure ⟨Code.quiet_builtin _ (by decide +kernel), codeAny_builtin F.entry_type_call ?_⟩
  rw [Around.under_plain (weight_type_call_type "set" [.ref l] []) rfl]
  repeat (any_goals (first | assumption | wp_step))
  refine codeAny_mono (code_set_led1 (.ref l) (E := E) (Q₁ := fun o s1 => o = .ref s.heap.objs.size ∧ s1 = { s with heap := s.heap.push (emptyS w) }) ⟨rfl, rfl⟩) fun r s1 hr => ?_
  rcases r with e | fl
  · exact hr
  · cases fl <;> try exact hr.elim
    rename_i o
    obtain ⟨rfl, rfl⟩ := hr
    have gS : (s.heap.push (emptyS w)).get? s.heap.objs.size = some (emptyS w) := Heap.get?_push_size _ rfl
    have tS : Shared.TypeIs { s with heap := s.heap.push (emptyS w) } (.ref s.heap.objs.size) "set" := ⟨_, gS, rfl⟩
    have li := F.called_set.init.lookup
    have bi := F.called_set.init.bind (.ref s.heap.objs.size)
    repeat (any_goals (first | assumption | wp_step))
    refine codeAny_mono (codeAny_call_builtin (R := wants (fun r s2 => r = .none ∧ SetDone w s ns s2) E) F.called_set.init.plain F.entry_set_init (check_set_init_1 tS ?_)) fun r2 s2 h2 => ?_
    · obtain ⟨ol, hol, hcl, nl, hdl⟩ := id hl
      obtain ⟨oc, od, oda, osl⟩ := ol
      simp only at hcl hdl
      subst hcl hdl
      have hol' : (s.heap.push (emptyS w)).get? l = some { cls := .type "list", dict := od, data := .seq items nl, slots := osl } := Heap.get?_push_of_some _ hol
      have hl1 : (s.heap.push (emptyS w)).IsList l items := hl.push _
      have s1 := F.sub_list_set
      have s2 := F.sub_list_frozenset
      have ne : (Value.type "list" == Value.type "dict") = false := by decide
      unfold Builtin.«set.__init__» noKeywords Builtin.Frozenset.updateFrom
      generalize hPI : pyIter = PI
      wp_walk
      subst hPI
      refine wpAny_pyIter_list hl1 ?_
      refine wpAny_bind (wpAny_runValue ?_)
      have hin : A.in1.in1.handled = none := by simp [hh]
      refine fill_list (P := P) (w := w) (A := A.in1.in1) hin hl hit hb (fun s' d => ?_) _ rfl
      show wpAny _ _ _ _ _ _
      refine wpAny_pure ?_
      show wpAny _ _ (ret Value.none) _ _ _
      exact wpAny_pure ⟨rfl, d⟩
    · rcases r2 with e | fl
      · exact h2
      · cases fl <;> try exact h2.elim
        obtain ⟨rfl, d⟩ := h2
        repeat (any_goals (first | assumption | wp_step))
        exact h _ d
end
end M

set_option Elab.async false
set_option linter.all false
set_option maxRecDepth 100000
set_option maxHeartbeats 4000000
/-! M15: enumerate(tuple). -/
namespace M
open PySem PySem.Spec PyProof.Rows L2
section
variable {prog : Program} {w : World} {A : Around} {E : Value → Shared → Prop} {s : Shared}
theorem next_tup {it t : Addr} {i : Nat} {items : Array Value} {x : Value} {Q : Value → Shared → Prop} (hit : s.heap.IsTupleIter it t i) (ht : s.heap.IsTuple t items) (hx : items[i]? = some x)
    (hQ : ∀ h', h'.IsTupleIter it t (i + 1) → Heap.SameBut it s.heap h' → Q x { s with heap := h' }) : wpAny (model prog w) A (Builtin.SmallTypes.nextOf (.ref it)) Q E s := by
  obtain ⟨o, ho, hc, hd⟩ := id hit
  obtain ⟨ot, hot, _, nt, hdt⟩ := ht
  unfold Builtin.SmallTypes.nextOf
  refine wpAny_bind (wpAny_callSpecial?_slot (name := Str.ofString "__next__") hit.typeIs F.slot_tuple_iterator_next (wpAny_call_entry F.slot_tuple_iterator_next hit.typeIs F.entry_tuple_iterator_next ?_ (F.args_tuple_iterator_next_1 _)))
  show wpAny _ _ (field (.ref it) 0 >>= _) _ _ s
  refine wpAny_bind (wpAny_field ho hd (x := .ref t) rfl ?_)
  show wpAny _ _ (if (Value.ref t == Value.none) = true then _ else _) _ _ s
  rw [if_neg (show ¬ ((Value.ref t == Value.none) = true) from Bool.false_ne_true)]
  show wpAny _ _ (field (.ref it) 1 >>= _) _ _ s
  refine wpAny_bind (wpAny_field ho hd (x := .int i 0) rfl ?_)
  show wpAny _ _ (seqItems? (.ref t) >>= _) _ _ s
  refine wpAny_bind (wpAny_seqItems hot hdt ?_)
  simp only [Int.toNat_natCast, hx]
  refine wpAny_bind (wpAny_setField ho hd (by simp) (wpAny_pure ⟨x, rfl, wpAny_pure (hQ _ ?_ (Heap.SameBut.update ..))⟩))
  exact ⟨_, Heap.get?_update_self _ ho (Obj.isFreed_of_fields (Obj.data_mapFields hd _)), (Obj.cls_mapFields ..).trans hc, by
    rw [Obj.data_mapFields hd]; simp [rawInt]⟩
theorem next_tup_end {it t : Addr} {i : Nat} {items : Array Value} {Q : Value → Shared → Prop} (hh : A.handled = none) (hit : s.heap.IsTupleIter it t i) (ht : s.heap.IsTuple t items) (hx : items[i]? = none)
    (hE : ∀ h' e, Heap.ExtBut it s.heap h' → (∃ o, h'.get? e = some o ∧ o.cls = .type "StopIteration") → E (.ref e) { s with heap := h' }) : wpAny (model prog w) A (Builtin.SmallTypes.nextOf (.ref it)) Q E s := by
  obtain ⟨o, ho, hc, hd⟩ := id hit
  obtain ⟨ot, hot, _, nt, hdt⟩ := ht
  unfold Builtin.SmallTypes.nextOf
  refine wpAny_bind (wpAny_callSpecial?_slot (name := Str.ofString "__next__") hit.typeIs F.slot_tuple_iterator_next (wpAny_call_entry F.slot_tuple_iterator_next hit.typeIs F.entry_tuple_iterator_next ?_ (F.args_tuple_iterator_next_1 _)))
  show wpAny _ _ (field (.ref it) 0 >>= _) _ _ s
  refine wpAny_bind (wpAny_field ho hd (x := .ref t) rfl ?_)
  show wpAny _ _ (if (Value.ref t == Value.none) = true then _ else _) _ _ s
  rw [if_neg (show ¬ ((Value.ref t == Value.none) = true) from Bool.false_ne_true)]
  show wpAny _ _ (field (.ref it) 1 >>= _) _ _ s
  refine wpAny_bind (wpAny_field ho hd (x := .int i 0) rfl ?_)
  show wpAny _ _ (seqItems? (.ref t) >>= _) _ _ s
  refine wpAny_bind (wpAny_seqItems hot hdt ?_)
  simp only [Int.toNat_natCast, hx]
  refine wpAny_bind (wpAny_rule (wpAny_bind (wpAny_setField ho hd (by simp) ?_)))
  show wpAny _ _ (newExc (.type "StopIteration") [] >>= _) _ _ _
  refine wpAny_bind ?_
  simp only [newExc, newTuple]
  refine wpAny_bind (wpAny_newObj_type ?_ (by size_fits))
  refine wpAny_bind (m := firstArgMember _ _) (wpAny_of_eq (a := Value.none) (by first | rfl | (simp only [firstArgMember]; rfl)) ?_)
  refine wpAny_newObj_type ?_ (by size_fits)
  simp only [raiseNew]
  refine wpAny_bind (wpAny_handled ?_)
  first | rw [show A.in1.handled = none from hh] | rw [hh]
  refine wpAny_bind (wpAny_pure (wpAny_throw ?_))
  exact hE _ _ (((Heap.SameBut.update ..).extBut.push _).push _) ⟨_, Heap.get?_push_size _ rfl, rfl⟩
theorem draws_tup (hh : A.handled = none) (it t : Addr) (hne : t ≠ it) (items : Array Value) : Draws prog w A it [it, t] items.size (fun i v => items[i]? = some v) (fun i h => h.IsTupleIter it t i ∧ h.IsTuple t items) where
  live := fun _ _ st => let ⟨o, ho, _⟩ := st.1; ⟨o, ho⟩
  frame := fun _ _ _ st hk => ⟨st.1.at fun o e => hk it (by simp) o e, st.2.at fun o e => hk t (by simp) o e⟩
  item := fun i s Q E hi st hQ => next_tup st.1 st.2 (x := items[i]) (by simp [hi]) fun h' hit' hs' => hQ _ h' s.toks (by simp [hi]) ⟨hit', st.2.extBut hs'.extBut hne⟩ hs'
  done := fun s Q E st hE => next_tup_end hh st.1 st.2 (by simp) hE
theorem meets_enumT (l : Addr) (items : Array Value) (n : Nat) (dct : Option Addr) (sl : Array (Option Value)) :
    Meets (Builtin.«enumerate.__new__» ⟨[.type "enumerate", .ref l], []⟩) (fun _ R s => s.heap.get? l = some { cls := .type "tuple", dict := dct, data := .seq items n, slots := sl } ∧
      R (.ok (.ret (.ref (s.heap.push { cls := .type "tuple_iterator", data := .fields #[.ref l, .int 0 0] }).objs.size)))
        { s with heap := (s.heap.push { cls := .type "tuple_iterator", data := .fields #[.ref l, .int 0 0] }).push { cls := .type "enumerate", data := .fields #[.none, .bool false, .ref s.heap.objs.size, rawInt 0, .none, .none] } }) :=
  .of_wp fun prog w A R s h => by
    obtain ⟨hp, g, d, tk, os⟩ := s
    obtain ⟨hl, h⟩ := h
    have hsub := sub_enumerate
    have hL : Heap.IsTuple (Shared.heap ⟨hp, g, d, tk, os⟩) l items := ⟨_, hl, rfl, n, rfl⟩
    wp_walk using AutoSeq1.wpAny_loadPart' hl
    refine wpAny_stack_any fun st => wpAny_pure ?_
    split
    · rename_i c _ _ _ _ _
      cases (c == Value.type "enumerate")
      · wp_walk using AutoSeq1.wpAny_loadPart' hl, wpAny_pyIter_tuple hL
        exact ⟨_, rfl, h⟩
      · wp_walk using AutoSeq1.wpAny_loadPart' hl, wpAny_pyIter_tuple hL
        exact ⟨_, rfl, h⟩
    · wp_walk using AutoSeq1.wpAny_loadPart' hl, wpAny_pyIter_tuple hL
      exact ⟨_, rfl, h⟩
theorem call_enumT {l : Addr} {items : Array Value} {Q : Value → Shared → Prop} (hL : s.heap.IsTuple l items)
    (h : ∀ h', IsEnum h' (s.heap.objs.size + 1) s.heap.objs.size 0 .none → h'.IsTupleIter s.heap.objs.size l 0 → (∀ b o, s.heap.get? b = some o → h'.get? b = some o) → Q (.ref (s.heap.objs.size + 1)) { s with heap := h' }) :
    wpAny (model prog w) A (call (.type "enumerate") [.ref l]) Q E s := by
  obtain ⟨⟨c, dct, dt, sl⟩, hl, hc, n, hd⟩ := hL
  simp only at hc hd
  subst hc hd
  refine callType_new F.called_enumerate (by decide) (F.typeCall_enumerate_1 _) (F.newCall_enumerate_1 _) (fun obj => F.args_object_init_2 obj _) F.entry_enumerate_new (meets_enumT l items n dct sl) ⟨hl, ?_⟩
  have hz : (s.heap.push { cls := .type "tuple_iterator", data := .fields #[.ref l, .int 0 0] }).objs.size = s.heap.objs.size + 1 := Heap.size_push ..
  show _ ∧ _
  rw [hz]
  have he : IsEnum ((s.heap.push { cls := .type "tuple_iterator", data := .fields #[.ref l, .int 0 0] }).push { cls := .type "enumerate", data := .fields #[.none, .bool false, .ref s.heap.objs.size, rawInt 0, .none, .none] }) (s.heap.objs.size + 1) s.heap.objs.size 0 .none := by
    have := Heap.get?_push_size (s.heap.push { cls := .type "tuple_iterator", data := .fields #[.ref l, .int 0 0] }) (o := { cls := .type "enumerate", data := .fields #[.none, .bool false, .ref s.heap.objs.size, rawInt 0, .none, .none] }) rfl
    rwa [hz] at this
  exact ⟨⟨_, he, rfl⟩, h _ he ⟨_, Heap.get?_push_of_some _ (Heap.get?_push_size _ rfl), rfl, rfl⟩ fun b o x => Heap.get?_push_of_some _ (Heap.get?_push_of_some _ x)⟩
end
/-- the tuple at a, each item in a new pair -/
def IteT (K : PySem.W.Frag) (a : Addr) : It :=
  ⟨fun i H => ∃ (xs : List V) (x : V), SqT K H a xs ∧ xs[i]? = some x, fun i H v H' => ∃ T x, v = .ref T ∧ H T = none ∧ H' = upd H T (.tup [.int (i : Nat), x]) ∧ ∀ xs, SqT K H a xs → xs[i]? = some x, fun i H => ∃ xs : List V, SqT K H a xs ∧ xs.length ≤ i⟩
theorem turn_enumT {P : Program} {w : World} {K : PySem.W.Frag} {elts : List Expr} {kk : Nat} {tpos : Pos} (a e it : Addr) :
    Turn P w K (.Tuple elts kk tpos) (IteT K a) [e, it] e (fun i h => (∃ old, IsEnum h e it ((i : Nat) : Int) old) ∧ h.IsTupleIter it a i ∧ e ≠ it) where
  mem := by simp
  obj := fun i h st b hb => by
    obtain ⟨⟨old, he⟩, ⟨o, ho, hc, hd⟩, _⟩ := st
    rcases (by simpa using hb : b = e ∨ b = it) with rfl | rfl
    · exact ⟨_, he, fun v q => nomatch q⟩
    · exact ⟨o, ho, fun v q => by rw [hd] at q; cases q⟩
  keep := fun i h h' st k => let ⟨⟨old, he⟩, hi, hne⟩ := st; ⟨⟨old, k e (by simp) _ he⟩, hi.at fun o q => k it (by simp) o q, hne⟩
  item := by
    intro X hP hw hK hc i pins s σ H E I hf st hg
    subst hP hw hK
    obtain ⟨⟨old, he⟩, hit, hne⟩ := st
    obtain ⟨xs, x, hq, hx⟩ := hg
    obtain ⟨its, rv, p, hz⟩ := I.tuple hq
    obtain ⟨u, hu, ru⟩ := rv.get hx
    have hel : e < s.heap.objs.size := Heap.lt_size he
    have hil : it < s.heap.objs.size := by obtain ⟨_, q, _⟩ := hit; exact Heap.lt_size q
    have tI : s.heap.IsTuple a its.toArray := p
    have hae : a ≠ e := fun q => by
      subst q
      obtain ⟨o, h1, h2, _⟩ := tI
      have h3 : s.heap.get? a = some _ := he
      rw [h1] at h3; cases h3; simp at h2
    have hai : a ≠ it := fun q => by
      subst q
      obtain ⟨o, h1, h2, _⟩ := tI
      obtain ⟨o', h3, h4, _⟩ := hit
      rw [h1] at h3; cases h3; rw [h2] at h4; exact absurd h4 (by decide)
    have hlt : i < its.toArray.size := by
      have := (List.getElem?_eq_some_iff.mp hu).1
      simpa using this
    refine wpAny_pyNext_enum_itemD (draws_tup (A := X.A.in1) (I.ok.hd hc) it a hai its.toArray) he ⟨hit, tI⟩ hlt hne (by simp [hne, hae.symm]) fun x' h' tk hP ho st' hT hsz hk => ?_
    have ex' : x' = u := by
      have h1 : its.toArray[i]? = some x' := hP
      have h2 : its.toArray[i]? = some u := by simpa using hu
      rw [h1] at h2; exact Option.some.inj h2
    subst ex'
    refine ⟨_, rfl, wpAny_letOwnedTupleGo_enum (s := { s with heap := h', toks := tk + 1 }) ho fun h'' he' sb => ?_⟩
    have hT2 : h''.get? s.heap.objs.size = some { cls := .type "tuple", data := .seq #[.int i tk, x'] } := (sb.2 _ (Nat.ne_of_gt hel)).trans hT
    have new : ObjOk X.prog X.w (upd H s.heap.objs.size (.tup [.int (i : Nat), x])) h'' s.heap.objs.size (.tup [.int (i : Nat), x]) :=
      ⟨by show 2 ≤ sizeLine; decide, [.int i tk, x'], .cons ⟨_, rfl⟩ (.cons ru .nil), ⟨_, hT2, rfl, _, rfl⟩⟩
    have I1 : Inv X pins σ (upd H s.heap.objs.size (.tup [.int (i : Nat), x])) { s with heap := h'', toks := tk + 1 } :=
      I.turnedNew (ch := [e, it]) (fun b ob hb q => (sb.2 b (fun z => hb (by simp [z]))).trans (hk b ob (fun z => hb (by simp [z])) (fun z => hb (by simp [z])) q)) hf (Nat.le_refl _) new
    refine ⟨.ref s.heap.objs.size, _, I1, rfl, ⟨_, x, rfl, I.hok.fresh (Nat.le_refl _), rfl, fun ys hy => ?_⟩, ⟨⟨x', ?_⟩, st'.1.at fun o q => (sb.2 it (Ne.symm hne)).trans q, hne⟩, fun b hb => ?_⟩
    · rw [I.tuple_inj hy hq]; exact hx
    · have e1 : ((i + 1 : Nat) : Int) = (i : Int) + 1 := by omega
      rw [e1]; exact he'
    · have hb' : b < s.heap.objs.size := by
        rcases (by simpa using hb : b = e ∨ b = it) with rfl | rfl
        · exact hel
        · exact hil
      rw [upd_ne (Nat.ne_of_lt hb')]
      exact (hf b hb).1
  done := by
    intro X hP hw hK hc i pins s σ H E I hf st hg
    subst hP hw hK
    obtain ⟨⟨old, he⟩, hit, hne⟩ := st
    obtain ⟨xs, hq, hx⟩ := hg
    obtain ⟨its, rv, p, hz⟩ := I.tuple hq
    obtain ⟨f0, f1, f2, f3, f4, f5⟩ := hf it (by simp)
    have tI : s.heap.IsTuple a its.toArray := p
    have hT : s.TypeIs (.ref e) "enumerate" := ⟨_, he, rfl⟩
    have hl := rv.length
    unfold pyNext
    refine wpAny_bind (wpAny_attempt (wpAny_callSpecial?_slot (name := Str.ofString "__next__") hT F.slot_enumerate_next (wpAny_call_entry F.slot_enumerate_next hT F.entry_enumerate_next ?_ (F.args_enumerate_next_1 _))))
    show wpAny _ _ (field (.ref e) 2 >>= _) _ _ _
    refine wpAny_bind (wpAny_field he rfl (x := .ref it) rfl ?_)
    refine wpAny_bind (next_tup_end (I.ok.hd hc) hit tI (by simp; omega) fun h' x eb hx' => ?_)
    obtain ⟨o, ho, hc'⟩ := hx'
    refine wpAny_bind (wpAny_isInstance (T := "StopIteration") (b := true) ⟨o, ho, hc'⟩ isSubtype_stop ?_)
    exact wpAny_pure ⟨rfl, I.turned (t' := s.toks) (fun b o hb q => eb b o hb q) f0 f1 f3 f4 f5⟩
  self := fun A i s Q E st h => let ⟨⟨_, he⟩, _⟩ := st; wpAny_pyIter_enum he h
end M

set_option Elab.async false
set_option linter.all false
set_option maxRecDepth 100000
set_option maxHeartbeats 4000000
/-! M16: sorted(set(..)), slices, count, dict displays, enumerate. -/
namespace M
open PySem PySem.Spec PyProof.Rows L2

/-! ### sorted(set(list)) -/
def insU (x : Int) : List Int → List Int
  | [] => [x]
  | y :: ys => if x < y then x :: y :: ys else if x = y then y :: ys else y :: insU x ys
def sortU : List Int → List Int
  | [] => []
  | x :: xs => insU x (sortU xs)
theorem mem_insU {x k : Int} : ∀ {ys : List Int}, k ∈ insU x ys ↔ k = x ∨ k ∈ ys
  | [] => by simp [insU]
  | y :: ys => by
    unfold insU
    split
    · simp
    · split
      · rename_i h; subst h; simp
      · rw [List.mem_cons, mem_insU, List.mem_cons]
        constructor
        · rintro (h | h | h)
          · exact .inr (.inl h)
          · exact .inl h
          · exact .inr (.inr h)
        · rintro (h | h | h)
          · exact .inr (.inl h)
          · exact .inl h
          · exact .inr (.inr h)
theorem mem_sortU {k : Int} : ∀ {xs : List Int}, k ∈ sortU xs ↔ k ∈ xs
  | [] => Iff.rfl
  | x :: xs => by rw [sortU, mem_insU, mem_sortU, List.mem_cons]
theorem insU_srt {x : Int} : ∀ {ys : List Int}, ys.Pairwise (· < ·) → (insU x ys).Pairwise (· < ·)
  | [], _ => by unfold insU; exact List.pairwise_singleton _ _
  | y :: ys, h => by
    obtain ⟨h1, h2⟩ := List.pairwise_cons.mp h
    unfold insU
    split
    · rename_i hxy
      exact List.pairwise_cons.mpr ⟨fun z hz => by
        rcases List.mem_cons.mp hz with rfl | hz
        · exact hxy
        · have := h1 z hz; omega, h⟩
    · split
      · exact h
      · exact List.pairwise_cons.mpr ⟨fun z hz => by
          rcases mem_insU.mp hz with rfl | hz
          · omega
          · exact h1 z hz, insU_srt h2⟩
theorem sortU_srt : ∀ {xs : List Int}, (sortU xs).Pairwise (· < ·)
  | [] => List.Pairwise.nil
  | x :: xs => insU_srt sortU_srt
theorem strict_uniq : ∀ {xs ys : List Int}, (∀ k, k ∈ xs ↔ k ∈ ys) → xs.Pairwise (· < ·) → ys.Pairwise (· < ·) → xs = ys
  | [], [], _, _, _ => rfl
  | [], y :: ys, h, _, _ => absurd ((h y).mpr List.mem_cons_self) (by simp)
  | x :: xs, [], h, _, _ => absurd ((h x).mp List.mem_cons_self) (by simp)
  | x :: xs, y :: ys, h, h1, h2 => by
    obtain ⟨a1, a2⟩ := List.pairwise_cons.mp h1
    obtain ⟨b1, b2⟩ := List.pairwise_cons.mp h2
    have e : x = y := by
      rcases List.mem_cons.mp ((h x).mp List.mem_cons_self) with e | m
      · exact e
      · rcases List.mem_cons.mp ((h y).mpr List.mem_cons_self) with e | m'
        · exact e.symm
        · have := b1 x m; have := a1 y m'; omega
    subst e
    rw [strict_uniq (fun k => ?_) a2 b2]
    constructor
    · intro m
      rcases List.mem_cons.mp ((h k).mp (List.mem_cons_of_mem _ m)) with e | m'
      · have := a1 k m; omega
      · exact m'
    · intro m
      rcases List.mem_cons.mp ((h k).mpr (List.mem_cons_of_mem _ m)) with e | m'
      · have := b1 k m; omega
      · exact m'
def rSetLi (K : PySem.W.Frag) (w : World) : List V → Hp → VK → Prop := fun xs H Q => ∃ (a : Addr) (ns : List Int), xs = [.ref a] ∧ SqL K H a (ns.map V.int) ∧ ns.length + 1 < scanBound ∧
  ∀ c p, c ≤ ns.length → H p = none → Q (.ref p) (upd H p (SetO w p (fun j => decide (j ∈ ns)) c))
section
variable {X : Cx} {W : WX}
theorem cr_setL (hc : X.calm = true) : CallR X (.type "set") (rSetLi X.K X.w) := by
  intro pins s σ H xs us Q I r h
  obtain ⟨a, ns, rfl, hs, hb, q⟩ := h
  rw [Vals.ref1 r]
  obtain ⟨its, rv, hl, hz⟩ := I.list hs
  refine set_of_list ns (I.ok.hd hc) hl.isList (ints_of_vals rv) hb fun s' d => ?_
  obtain ⟨h', tk, c, rfl, hS, hcl, hk⟩ := d.ex
  exact ⟨.ref _, upd H s.heap.objs.size (SetO X.w s.heap.objs.size (fun j => decide (j ∈ ns)) c), I.laid (t' := tk) (fun b u e => hk b u e) (Nat.le_refl _) (setO_new hS), rfl, q c _ hcl (I.hok.fresh (Nat.le_refl _))⟩
def srtSetS : D → Option Val
  | .lst xs => (intsD xs).bind fun ns => if ns.length < 64 then some (.own 0 ((sortU ns).map D.int)) else none
  | _ => none
theorem pe_srtSet {a : Expr} {p p2 pos pos2 : Pos} {f : Env → Res D} (hc : X.calm = true) (hg : Gl X "sorted") (hm : X.mg "sorted" = none) (hg2 : Gl X "set") (hm2 : X.mg "set" = none) (ha : PE X a (rP X W f)) (hn : ns a = true) :
    PE X (.Call (.Name "sorted" p) [.Call (.Name "set" p2) [a] [] pos2] [] pos) (rE X W fun e => (f e).bind fun x e1 => lift (srtSetS x) e1) := by
  refine pe_imp (pe_callB (cr_sortedSet hc) hg hm (by decide +kernel) (pa_cons (pe_callTy (cr_setL hc) hg2 hm2 (by decide +kernel) (pa_cons ha pa_nil (star_ns hn)) (by decide) (by decide) (star_ns hn) rfl) pa_nil rfl) (by decide) (by decide) rfl rfl) ?_
  rintro σ H Q ⟨U, L, lent, e, rel, p⟩
  show rP X W f σ H _
  refine rd_of rel p fun v L1 H1 x e1 s1 rel1 rx p1 => ?_
  obtain ⟨z, ez, p2⟩ := p1.lift
  cases x <;> simp only [srtSetS, reduceCtorEq] at ez
  obtain ⟨ms, h1, h2⟩ := Option.bind_eq_some_iff.mp ez
  split at h2
  · rename_i h64
    cases h2
    obtain ⟨b, us, rfl, t, n, r⟩ := rx
    have eu := sq_fin (X := X) h1 r
    subst eu
    refine ⟨b, ms, rfl, .of t, Nat.lt_of_lt_of_le (Nat.succ_lt_succ h64) (by decide), fun c q hcl nq => ?_⟩
    refine ⟨q, _, c, rfl, upd_same, Nat.lt_of_le_of_lt hcl h64, fun ns' q2 hp hmem hl nq2 => ?_⟩
    have e3 : ns' = sortU ms := strict_uniq (fun k => by rw [hmem k, mem_sortU]; simp) hp sortU_srt
    subst e3
    have g := grow_upd (o := SetO X.w q (fun j => decide (j ∈ ms)) c) nq
    have rel2 := rel1.grow g
    exact fin_own rel2 (p2.step (Step.grow rel1.sub g)) (RpL.ints _) nq2
  · cases h2

/-! ### slices -/
def cutD (xs : List D) (lo hi : Option Int) : List D := (xs.drop (HT.sIx xs.length 0 lo)).take (HT.sIx xs.length xs.length hi - HT.sIx xs.length 0 lo)
theorem cut_rp {G : Tx} {L : AS} {H : Hp} {xs : List D} {vs : List V} {lo hi : Option Int} (r : RpL G L H xs vs) : RpL G L H (cutD xs lo hi) (cutV vs lo hi) := by
  unfold cutD cutV
  rw [r.length]
  exact (r.drop _).take _
def sliceS : D → Option Int → Option Int → Option Val
  | .lst xs, lo, hi => some (.own 0 (cutD xs lo hi))
  | .fl xs, lo, hi => some (.own 0 (cutD xs lo hi))
  | .tup xs, lo, hi => some (.p (.tup (cutD xs lo hi)))
  | .str z, lo, hi => if z.length ≤ SZ then some (.p (.str (cutS z lo hi))) else none
  | _, _, _ => none
abbrev rSl4 (K : PySem.W.Frag) : V → Option Int → Option Int → Hp → VK → Prop := fun x lo hi H Q => (rSlL K x lo hi H Q ∨ rSlA K x lo hi H Q) ∨ rSlS x lo hi H Q
theorem sl_all : SlR X (rSl4 X.K) := (sl_list.or sl_tupA).or sl_str
/-- the reading of a slice's part -/
def rO (X : Cx) (W : WX) (f : Env → Res (Option Int)) : TO := fun σ H Q => ∃ U L lent e, Rel (tx X) U L lent σ H e ∧ Post (tx X) W U L lent σ H (fun _ _ _ _ _ (d : Option Int) (o : Option Int) => d = o) Q (f e)
theorem po_imp {a : Option Expr} {t t' : TO} (h : PO X a t) (i : ∀ σ H Q, t' σ H Q → t σ H Q) : PO X a t' := ⟨fun pins s σ H Q I q => h.run pins s σ H Q I (i σ H Q q)⟩
theorem po_noneM : PO X none (rO X W fun e => .ok none e) := po_imp po_none fun σ H Q ⟨U, L, lent, e, rel, p⟩ => p none L H (Step.refl rel.sub) rel rfl
def optI (d : D) (e : Env) : Res (Option Int) := match d with
  | .int i => .ok (some i) e
  | _ => .fail
theorem po_someM {a : Expr} {f : Env → Res D} (ha : PE X a (rP X W f)) : PO X (some a) (rO X W fun e => (f e).bind optI) := by
  refine po_imp (po_some ha) ?_
  rintro σ H Q ⟨U, L, lent, e, rel, p⟩
  show rP X W f σ H _
  refine rd_of rel p fun v L1 H1 d e1 s1 rel1 rd p1 => ?_
  cases d <;> try exact p1.elim
  rename_i i
  cases rd
  exact ⟨i, rfl, p1 (some i) L1 H1 (Step.refl rel1.sub) rel1 rfl⟩
def sliceE (fa : Env → Res D) (fl fh : Env → Res (Option Int)) : Env → Res Val := fun e => (fa e).bind fun x e1 => (fl e1).bind fun lo e2 => (fh e2).bind fun hi e3 => lift (sliceS x lo hi) e3
theorem slice_rp {U L : AS} {lent : Nat → Addr} {σ : SL} {H : Hp} {e : Env} {Q : VK} {x : D} {v : V} {lo hi : Option Int} {z : Val} (rel : Rel (tx X) U L lent σ H e) (rx : Rp (tx X) L H x v) (ez : sliceS x lo hi = some z) (p : Post (tx X) W U L lent σ H (RV (tx X)) Q (.ok z e)) : rSl4 X.K v lo hi H Q := by
  cases x <;> simp only [sliceS, reduceCtorEq] at ez
  · split at ez
    · cases ez; cases rx
      exact .inr ⟨_, rfl, by assumption, fin0 rel p rfl⟩
    · cases ez
  · cases ez
    obtain ⟨a, us, rfl, t, r⟩ := rx
    refine .inl (.inr ⟨a, us, rfl, t.sq, fun hw => ?_, fun hw q nq => fin_tup rel p (cut_rp r) nq⟩)
    refine fin0 rel p ⟨a, us, rfl, t, ?_⟩
    unfold cutD
    rw [r.length, hw.1, hw.2, List.drop_zero, Nat.sub_zero, ← r.length, List.take_length]
    exact r
  · cases ez
    obtain ⟨a, us, rfl, t, n, r⟩ := rx
    exact .inl (.inl ⟨a, us, rfl, .of t, fun q nq => fin_own rel p (cut_rp r) nq⟩)
  · cases ez
    obtain ⟨a, us, rfl, t, r⟩ := rx
    exact .inl (.inl ⟨a, us, rfl, t.sq, fun q nq => fin_own rel p (cut_rp r) nq⟩)
theorem pe_sliceM {a : Expr} {lo hi : Option Expr} {p2 pos : Pos} {fa : Env → Res D} {fl fh : Env → Res (Option Int)} (ha : PE X a (rP X W fa)) (hl : PO X lo (rO X W fl)) (hh : PO X hi (rO X W fh)) : PE X (.Subscript a (.Slice lo hi none p2) pos) (rE X W (sliceE fa fl fh)) := by
  refine pe_imp (pe_slice sl_all ha hl hh) ?_
  rintro σ H Q ⟨U, L, lent, e, rel, p⟩
  show rP X W fa σ H _
  refine rd_of rel p fun v L1 H1 x e1 s1 rel1 rx p1 => ⟨U, L1, lent, e1, rel1, p1.bind fun lo L2 H2 lo' e2 s2 rel2 rl p2 => ⟨U, L2, lent, e2, rel2, p2.bind fun hi L3 H3 hi' e3 s3 rel3 rh p3 => ?_⟩⟩
  cases rl
  cases rh
  obtain ⟨z, ez, p4⟩ := p3.lift
  exact slice_rp rel3 (Rp.step (s2.trans s3) rx) ez p4

/-! ### xs.count(x) -/
def eqb (k : Bool) (v : Value) : Bool := match v with
  | .bool n => n == k
  | _ => false
theorem eqb_ok {k : Bool} : ∀ {us : List Value} {ns : List Bool}, Vals (ns.map V.bl) us → (∀ y ∈ us, MeetsSeq.EqGives y (.bool k) (eqb k y)) ∧ us.countP (eqb k) = ns.count k
  | us, [], h => by cases h; exact ⟨fun y hy => (by cases hy), rfl⟩
  | us, n :: ns, h => by
    rw [List.map_cons] at h
    cases h with
    | cons r t =>
      rename_i u us'
      obtain rfl : u = Value.bool n := r
      obtain ⟨i1, i2⟩ := eqb_ok (k := k) t
      refine ⟨fun y hy => ?_, by rw [List.countP_cons, List.count_cons, i2] <;> rfl⟩
      rcases List.mem_cons.mp hy with rfl | hy
      · intro prog w A E s Q hq
        exact SeqAt.EqAt.bool_bool (A := A) (s := s) n k prog w E Q hq
      · exact i1 y hy
def rCntB (K : PySem.W.Frag) : V → List V → Hp → VK → Prop := fun x xs H Q => ∃ (p : Addr) (ns : List Bool) (k : Bool), x = .ref p ∧ xs = [.bl k] ∧ SqL K H p (ns.map V.bl) ∧ Q (.int (ns.count k : Nat)) H
theorem mt_countB : MtR X "list.count" (rCntB X.K) := by
  intro pins s σ H x xs v us Q I rx rxs h
  obtain ⟨p, ns, k, rfl, rfl, hs, q⟩ := h
  cases rx
  obtain ⟨u, rfl, ru⟩ := rxs.one
  obtain rfl : u = Value.bool k := ru
  obtain ⟨its, rv, ⟨⟨c, dd, da, sl⟩, n, ho, hc, hdn, hd⟩, hlen⟩ := I.list hs
  simp only at hc hd
  subst hc hd
  obtain ⟨e1, e2⟩ := eqb_ok (k := k) rv
  refine call_meets PySem.F.slot_list_count ⟨_, ho, rfl⟩ PySem.F.entry_list_count (PySem.F.args_list_count_2 _ _) (SeqAt.list_countAt p its.toArray n dd sl (.bool k) (eqb k)) ⟨ho, fun y hy => (e1 y (by simpa using hy)).at _ _, ?_⟩
  refine ⟨.int (ns.count k : Nat), H, I.tok _, ⟨s.toks, ?_⟩, q⟩
  show Value.int ((its.toArray.toList.countP (eqb k) : Nat) : Int) s.toks = Value.int ((ns.count k : Nat) : Int) s.toks
  rw [show its.toArray.toList.countP (eqb k) = ns.count k from e2]
theorem MtR.or {id : String} {r r' : V → List V → Hp → VK → Prop} (h : MtR X id r) (h' : MtR X id r') : MtR X id (fun x xs H Q => r x xs H Q ∨ r' x xs H Q) := by
  intro pins s σ H x xs v us Q I rx rxs q
  rcases q with q | q
  · exact h pins s σ H x xs v us Q I rx rxs q
  · exact h' pins s σ H x xs v us Q I rx rxs q
def countS : D → D → Option D
  | .lst xs, .bl k => (blsD xs).map fun bs => .int (bs.count k : Nat)
  | .lst xs, .int k => (intsD xs).map fun bs => .int (bs.count k : Nat)
  | _, _ => none
/-- a.count(b) -/
def countE (fa fb : Env → Res D) : Env → Res Val := fun e => (fa e).bind fun x e1 => match x with
  | .lst xs => (fb e1).bind fun y e2 => (lift (countS (.lst xs) y) e2).bind fun z e3 => .ok (.p z) e3
  | _ => .fail
theorem pe_count {a b : Expr} {apos cpos : Pos} {fa fb : Env → Res D} (hbase : (match a with | .Call _ _ _ _ => false | _ => true) = true) (ha : PE X a (rP X W fa)) (hb : PE X b (rP X W fb)) (hn : ns b = true) (hline : (apos.endLine == cpos.line) = true) :
    PE X (.Call (.Attribute a "count" apos) [b] [] cpos) (rE X W (countE fa fb)) := by
  refine pe_imp (pe_bm F.plainAttrs_list F.slot_list_count F.type_list_count (MtR.or mt_countB mt_lcount) ha (pa_cons hb pa_nil (star_ns hn)) (att_base hbase) (few1 hn) hline (star_ns hn) rfl) ?_
  rintro σ H Q ⟨U, L, lent, e, rel, p⟩
  show rP X W fa σ H _
  refine rd_of rel p fun v L1 H1 x e1 s1 rel1 rx p1 => ?_
  cases x <;> try exact p1.elim
  rename_i xs
  obtain ⟨q, us, rfl, t, n, r⟩ := rx
  refine ⟨.inl ⟨rfl, us, .of t⟩, rd_of rel1 p1 fun w L2 H2 y e2 s2 rel2 ry p2 => ?_⟩
  have r2 := RpL.step s2 r
  have t2 := (s2.toKeep q _ t n).1
  cases y <;> (simp only [countS] at p2; try exact p2.elim)
  · cases hh : blsD xs with
    | none => rw [hh] at p2; exact p2.elim
    | some bs =>
      rw [hh] at p2
      cases ry
      rw [blsD_eq hh] at r2
      exact .inl ⟨q, bs, _, rfl, rfl, by rw [← r2.bls_eq]; exact .of t2, fin0 rel2 p2 rfl⟩
  · cases hh : intsD xs with
    | none => rw [hh] at p2; exact p2.elim
    | some bs =>
      rw [hh] at p2
      cases ry
      exact .inr ⟨q, bs, _, rfl, rfl, by rw [← sq_fin (X := X) hh r2]; exact .of t2, fin0 rel2 p2 rfl⟩
end
end M

set_option Elab.async false
set_option linter.all false
set_option maxRecDepth 100000
set_option maxHeartbeats 4000000
/-! M17: dict displays of constants, enumerate(..), reads in place. -/
namespace M
open PySem PySem.Spec PyProof.Rows L2
section
variable {X : Cx} {W : WX}
theorem upd_twice {H : Hp} {p : Addr} {o o' : HO} : upd (upd H p o) p o' = upd H p o' := by
  funext a
  by_cases e : a = p
  · subst e; rw [upd_same, upd_same]
  · rw [upd_ne e, upd_ne e, upd_ne e]
theorem putK_out {k : Key} {v : V} : ∀ {kvs : List (Key × V)}, k ∉ kvs.map (·.1) → putK kvs k v = kvs ++ [(k, v)] := fun {kvs} h => by
  unfold putK
  rw [if_neg]
  intro q
  obtain ⟨z, hz, e⟩ := List.any_eq_true.mp q
  exact h (List.mem_map.mpr ⟨z, hz, by simpa using e⟩)
theorem mergeK_nd : ∀ {more acc : List (Key × V)}, ((acc ++ more).map (·.1)).Nodup → mergeK acc more = acc ++ more
  | [], acc, _ => by simp [mergeK]
  | p :: more, acc, h => by
    have hk : p.1 ∉ acc.map (·.1) := fun q => by
      rw [List.map_append, List.map_cons] at h
      exact (List.nodup_append.mp h).2.2 _ q _ List.mem_cons_self rfl
    have e : mergeK acc (p :: more) = mergeK (putK acc p.1 p.2) more := rfl
    rw [e, putK_out hk, mergeK_nd (by rw [List.append_assoc]; exact h), List.append_assoc]
    rfl
/-- a constant -/
inductive KD where
  | non | bl (b : Bool) | int (i : Int) | str (x : Str)
  deriving DecidableEq
def KD.d : KD → D
  | .non => .non
  | .bl b => .bl b
  | .int i => .int i
  | .str x => .str x
def KD.v : KD → V
  | .non => .non
  | .bl b => .bl b
  | .int i => .int i
  | .str x => .str x
def KD.ck : KD → Expr → Bool
  | .non, .Constant .none _ _ => true
  | .bl b, .Constant (.bool c) _ _ => b == c
  | .int i, .Constant (.int j) _ _ => decide (i = j)
  | .str x, .Constant (.str y) _ _ => decide (x = y)
  | _, _ => false
theorem KD.rp {G : Tx} {L : AS} {H : Hp} : ∀ k : KD, Rp G L H k.d k.v
  | .non => rfl
  | .bl _ => rfl
  | .int _ => rfl
  | .str _ => rfl
theorem KD.pe {k : KD} {c : Expr} (h : k.ck c = true) : PE X c (tC k.v) := by
  unfold KD.ck at h
  split at h
  · exact pe_non
  · have e := eq_of_beq h; subst e; exact pe_bl
  · have e := of_decide_eq_true h; subst e; exact pe_int
  · have e := of_decide_eq_true h; subst e; exact pe_str
  · cases h
def KD.key : KD → Option Key
  | .int i => some (.inl i)
  | .str x => some (.inr x)
  | _ => none
/-- {k: v, ..}, constants -/
def dispK : List (KD × KD) → Option (List Key × List D)
  | [] => some ([], [])
  | (k, v) :: r => match k.key, dispK r with
    | some q, some (ks, ds) => some (q :: ks, v.d :: ds)
    | _, _ => none
def ckPairs : List (KD × KD) → List (Option Expr) → List Expr → Bool
  | [], [], [] => true
  | (k, v) :: r, some a :: ks, b :: vs => k.ck a && v.ck b && ckPairs r ks vs
  | _, _, _ => false
def trK (r : List (KD × KD)) : List (TE × TE) := r.map fun p => (tC p.1.v, tC p.2.v)
theorem pps_k {pos : Pos} : ∀ {r : List (KD × KD)} {ks : List (Option Expr)} {vs : List Expr}, ckPairs r ks vs = true → PPs X pos ks vs (trK r) ∧ ks.all (·.isSome) = true ∧ ks.length = vs.length ∧ ks.length = r.length
  | [], [], [], _ => ⟨pps_nil, rfl, rfl, rfl⟩
  | [], _ :: _, _, h => by cases h
  | [], [], _ :: _, h => by cases h
  | (k, v) :: r, [], _, h => by cases h
  | (k, v) :: r, none :: _, _, h => by cases h
  | (k, v) :: r, some a :: ks, [], h => by cases h
  | (k, v) :: r, some a :: ks, b :: vs, h => by
    simp only [ckPairs, Bool.and_eq_true] at h
    obtain ⟨⟨h1, h2⟩, h3⟩ := h
    obtain ⟨i1, i2, i3, i4⟩ := pps_k (pos := pos) h3
    exact ⟨pps_cons (KD.pe h1) (KD.pe h2) i1, by rw [List.all_cons, i2]; rfl, by rw [List.length_cons, List.length_cons, i3], by rw [List.length_cons, List.length_cons, i4]⟩
theorem tpairs_k {σ : L2.St} {H : Hp} : ∀ {r : List (KD × KD)} {Q : List (V × V) → Hp → Prop}, Q (r.map fun p => (p.1.v, p.2.v)) H → tPairs (trK r) σ H Q
  | [], Q, h => h
  | (k, v) :: r, Q, h => tpairs_k (r := r) (Q := fun ps H3 => Q ((k.v, v.v) :: ps) H3) h
theorem disp_rp {G : Tx} {L : AS} {H : Hp} : ∀ {r : List (KD × KD)} {ks : List Key} {ds : List D}, dispK r = some (ks, ds) → ∃ kvs : List (Key × V), (r.map fun p => (p.1.v, p.2.v)) = kvs.map (fun kv => (kV kv.1, kv.2)) ∧ kvs.map (·.1) = ks ∧ RpL G L H ds (kvs.map (·.2))
  | [], _, _, h => by cases h; exact ⟨[], rfl, rfl, rfl⟩
  | (k, v) :: r, ks, ds, h => by
    simp only [dispK] at h
    split at h
    · rename_i q ks' ds' h1 h2
      cases h
      obtain ⟨kvs, i1, i2, i3⟩ := disp_rp (G := G) (L := L) (H := H) h2
      refine ⟨(q, v.v) :: kvs, ?_, by rw [List.map_cons, i2], .cons (KD.rp v) i3⟩
      rw [List.map_cons, i1, List.map_cons]
      congr 1
      cases k <;> simp only [KD.key, reduceCtorEq, Option.some.injEq] at h1 <;> subst h1 <;> rfl
    · cases h
def dispS (r : List (KD × KD)) : Option Val := match dispK r with
  | some (ks, ds) => if ks.Nodup ∧ r.length ≤ 15 ∧ r ≠ [] then some (.od 0 ks ds) else none
  | none => none
theorem fin_od {G : Tx} {U L : AS} {lent : Nat → Addr} {σ : SL} {H : Hp} {e : Env} {Q : VK} {ks : List Key} {ds : List D} {kvs : List (Key × V)} {q : Addr} (rel : Rel G U L lent σ H e) (p : Post G W U L lent σ H (RV G) Q (.ok (.od 0 ks ds) e)) (hm : kvs.map (·.1) = ks) (h : RpL G L H ds (kvs.map (·.2))) (nq : H q = none) : Q (.ref q) (upd H q (.dK kvs)) :=
  p _ _ _ (Step.adds rel.sub nq) (rel.adds nq) ⟨⟨q, kvs, rfl, .inr rfl, fun u => rel.new nq (rel.sub q u), upd_same, hm, RpL.keep (keep_adds nq) _ _ h⟩, fun _ => ⟨rfl, rel.fresh nq⟩⟩
theorem pe_dispM {r : List (KD × KD)} {ks : List (Option Expr)} {vs : List Expr} {pos : Pos} (h : ckPairs r ks vs = true) (h0 : ks ≠ []) (h15 : ks.length ≤ 15) : PE X (.Dict ks vs pos) (rE X W fun e => lift (dispS r) e) := by
  obtain ⟨i1, i2, i3, i4⟩ := pps_k (X := X) (pos := pos) h
  refine pe_imp (pe_disp i1 i2 i3 h0 h15) ?_
  rintro σ H Q ⟨U, L, lent, e, rel, p⟩
  obtain ⟨z, ez, p1⟩ := Post.lift (o := dispS r) p
  unfold dispS at ez
  split at ez
  · rename_i kk ds hd
    split at ez
    · rename_i hc
      cases ez
      intro q nq
      refine tpairs_k ?_
      obtain ⟨kvs, j1, j2, j3⟩ := disp_rp (G := tx X) (L := L) (H := H) hd
      refine ⟨upd_same, kvs, j1, ?_, ?_⟩
      · have := congrArg List.length j1
        simp only [List.length_map] at this
        rw [← this]; exact hc.2.1
      · rw [upd_twice, mergeK_nd (by rw [List.nil_append, j2]; exact hc.1), List.nil_append]
        exact fin_od rel p1 j2 j3 nq
    · cases ez
  · cases ez
theorem pe_disp0 {pos : Pos} : PE X (.Dict [] [] pos) (rE X W fun e => .ok (.od 0 [] []) e) := by
  refine pe_imp pe_dnewK ?_
  rintro σ H Q ⟨U, L, lent, e, rel, p⟩
  exact fun q nq => fin_od (kvs := []) rel p rfl .nil nq

/-! ### enumerate -/
theorem pi_enumT {a : Expr} {p pos tpos : Pos} {elts : List Expr} {kk : Nat} {f : Env → Res D} (hg : Gl X "enumerate") (hm : X.mg "enumerate" = none) (ha : PE X a (rP X W f)) (hs : ns a = true) :
    PI X (.Tuple elts kk tpos) (.Call (.Name "enumerate" p) [a] [] pos) (rI X W fun e => (f e).bind fun x e1 => match itemsS x with
      | some ys => .ok (enumS 0 ys) e1
      | none => match x with
        | .fl ys => .ok (enumS 0 ys) e1
        | _ => .fail) := by
  refine ⟨fun pins s σ H R I ⟨U, L, lent, e, rel, q⟩ => ?_⟩
  refine Call_ (ld_blt I hg hm boot_enumerate (PyProof.Rows.callWith_type1 ?_ (star_ns hs) rfl))
  have hq : (tCons (rP X W f) tNil) σ H (fun vs H1 => ∃ b us, vs = [.ref b] ∧ ((SqL X.K H1 b us ∧ R (Ite X.K b) H1) ∨ (SqT X.K H1 b us ∧ R (IteT X.K b) H1))) := by
    show rP X W f σ H _
    refine ⟨U, L, lent, e, rel, q.bind fun v L1 H1 x e1 s1 rel1 rx q1 => ?_⟩
    cases x <;> try exact q1.elim
    · rename_i ys
      obtain ⟨b, us, rfl, t, r⟩ := rx
      refine ⟨b, us, rfl, .inr ⟨t.sq, q1 _ L1 H1 (fun H => SqT X.K H b us) _ (Step.refl rel1.sub) rel1 (by
        rw [enumS_len, r.length]
        exact ⟨fun i _ hi q => ⟨us, us[i], q, by simp [hi]⟩, fun _ q => ⟨us, q, Nat.le_refl _⟩, fun i H v H' _ q y => by
          obtain ⟨T, x, h1, h2, h3, h4⟩ := y
          exact ⟨T, .int (i : Nat), x, h1, h2, h3, rfl, h4 us q⟩⟩) (yok_enum (fun L1 H1 k => (t.keep k).sq) r)⟩⟩
    · rename_i ys
      obtain ⟨b, us, rfl, t, n, r⟩ := rx
      exact ⟨b, us, rfl, .inl ⟨.of t, q1 _ L1 H1 (fun H => SqL X.K H b us) _ (Step.refl rel1.sub) rel1 (by rw [enumS_len, r.length]; exact walk_enum) (yok_enum (fun L1 H1 k => .of (k b _ t n).1) r)⟩⟩
    · rename_i ys
      obtain ⟨b, us, rfl, t, r⟩ := rx
      exact ⟨b, us, rfl, .inl ⟨t.sq, q1 _ L1 H1 (fun H => SqL X.K H b us) _ (Step.refl rel1.sub) rel1 (by rw [enumS_len, r.length]; exact walk_enum) (yok_enum (fun L1 H1 k => (t.keep k).sq) r)⟩⟩
  refine thn ((pa_cons ha pa_nil (star_ns hs)).run pos pins s σ H _ I hq) fun us0 s1 ⟨vs, H1, I1, r1, b, us, ev, q1⟩ => ?_
  subst ev
  rw [Vals.ref1 r1]
  have fin : ∀ {J : It} {tn : Nat → Heap → Prop} {h' : Heap}, (∀ b o, s1.heap.get? b = some o → h'.get? b = some o) → Turn X.prog X.w X.K (.Tuple elts kk tpos) J [s1.heap.objs.size + 1, s1.heap.objs.size] (s1.heap.objs.size + 1) tn → tn 0 h' → R J H1 →
      PIE X pins σ (.Tuple elts kk tpos) R (.ref (s1.heap.objs.size + 1)) { s1 with heap := h' } := fun {J tn h'} hk T t0 r => by
    refine ⟨s1.heap.objs.size + 1, [s1.heap.objs.size + 1, s1.heap.objs.size], tn, J, H1, rfl, I1.kept (t' := s1.toks) hk, T, t0, fun b hb => ?_, r⟩
    have hle : s1.heap.objs.size ≤ b := by
      rcases (by simpa using hb : b = s1.heap.objs.size + 1 ∨ b = s1.heap.objs.size) with rfl | rfl
      · exact Nat.le_succ _
      · exact Nat.le_refl _
    exact I1.fpOk hle (I1.hok.fresh hle)
  rcases q1 with ⟨hq, r⟩ | ⟨hq, r⟩
  · obtain ⟨its, rv, p', hz⟩ := I1.list hq
    exact call_enumerate_list p'.isList fun h' he hit hsz hk => wpAny_pyIter_enum he (fin hk (turn_enum b _ _) ⟨⟨.none, he⟩, hit, Nat.succ_ne_self _⟩ r)
  · obtain ⟨its, rv, p', hz⟩ := I1.tuple hq
    exact call_enumT p' fun h' he hit hk => wpAny_pyIter_enum he (fin hk (turn_enumT b _ _) ⟨⟨.none, he⟩, hit, Nat.succ_ne_self _⟩ r)

/-! ### in place -/
/-- len(n) -/
def lenb (i : Nat) : Env → Res Val := fun e => match e[i]? with
  | some (some (.own _ xs)) => .ok (.p (.int xs.length)) e
  | some (some (.od _ ks xs)) => .ok (.p (.int xs.length)) e
  | _ => .fail
theorem pe_lenb {i : Nat} {x : Str} {p1 p pos : Pos} (hN : X.N[i]? = some x) (hv : Vis X.env.scope x) (hd : (x == ("__debug__" : Str)) = false) (hcd : (x == ("__classdict__" : Str)) = false) (hg : Gl X "len") (hm : X.mg "len" = none) :
    PE X (.Call (.Name "len" p) [.Name x p1] [] pos) (rE X W (lenb i)) := by
  refine pe_imp (pe_callB (CallR.or call_len call_lenD) hg hm (by decide +kernel) (pa_cons (pe_var hN hv hd hcd) pa_nil rfl) (by decide) (by decide) rfl rfl) ?_
  rintro σ H Q ⟨U, L, lent, e, rel, p⟩
  simp only [lenb] at p
  split at p
  · rename_i t xs hx
    obtain ⟨v, h1, a, us, rfl, l, u, h, r⟩ := rel.at_ i _ hx
    exact ⟨_, h1, .inl ⟨_, _, rfl, .inl ⟨us, .of h, r.length⟩, fin0 rel p rfl⟩⟩
  · rename_i t ks xs hx
    obtain ⟨v, h1, a, kvs, rfl, l, u, h, m, r⟩ := rel.at_ i _ hx
    refine ⟨_, h1, .inr ⟨a, kvs, rfl, h, ?_⟩⟩
    have := r.length
    rw [List.length_map] at this
    rw [← this]
    exact fin0 rel p rfl
  · exact p.elim
end
end M

set_option Elab.async false
set_option linter.all false
set_option maxRecDepth 100000
set_option maxHeartbeats 4000000
/-! MC: own classes: attributes read and stored, new instances, methods, properties. -/
namespace M
open PySem PySem.Spec PyProof.Rows L2

def lookN : List Str → List D → Str → Option D
  | n :: ns, d :: ds, f => if n = f then some d else lookN ns ds f
  | _, _, _ => none
def putN : List Str → Str → List Str
  | [], f => [f]
  | n :: ns, f => if n = f then n :: ns else n :: putN ns f
def putNV : List Str → List D → Str → D → List D
  | n :: ns, d :: ds, f, x => if n = f then x :: ds else d :: putNV ns ds f x
  | _, _, _, x => [x]
section
variable {G : Tx} {L : AS} {H : Hp}
theorem lookN_rp : ∀ {fs : List (Str × V)} {ds : List D} {f : Str} {d : D}, RpL G L H ds (fs.map (·.2)) → lookN (fs.map (·.1)) ds f = some d → ∃ v, fs.lookup f = some v ∧ Rp G L H d v
  | [], _, _, _, _, h => by simp [lookN] at h
  | (n, v) :: fs, [], _, _, r, h => by simp [lookN] at h
  | (n, v) :: fs, d0 :: ds, f, d, ⟨w, ws, e, r, t⟩, h => by
    simp only [List.map_cons, List.cons.injEq] at e
    obtain ⟨rfl, rfl⟩ := e
    simp only [List.map_cons, lookN] at h
    rw [List.lookup_cons]
    by_cases c : n = f
    · rw [if_pos c] at h
      cases h
      exact ⟨v, by rw [show (f == n) = true from by rw [c]; exact beq_self_eq_true _], r⟩
    · rw [if_neg c] at h
      obtain ⟨u, h1, h2⟩ := lookN_rp t h
      exact ⟨u, by rw [show (f == n) = false from beq_false_of_ne fun q => c q.symm]; exact h1, h2⟩
theorem look_none : ∀ {fs : List (Str × V)} {f : Str}, f ∉ fs.map (·.1) → fs.lookup f = none
  | [], _, _ => rfl
  | (n, v) :: fs, f, h => by
    rw [List.map_cons, List.mem_cons, not_or] at h
    rw [List.lookup_cons, show (f == n) = false from beq_false_of_ne h.1]
    exact look_none h.2
theorem putF_names (f : Str) (v : V) : ∀ fs : List (Str × V), (putF f v fs).map (·.1) = putN (fs.map (·.1)) f
  | [] => rfl
  | (n, w) :: fs => by
    simp only [putF, List.map_cons, putN]
    by_cases c : n = f
    · rw [if_pos c, if_pos c]; rfl
    · rw [if_neg c, if_neg c, List.map_cons, putF_names f v fs]
theorem putF_rp {f : Str} {d : D} {v : V} (r : Rp G L H d v) : ∀ {fs : List (Str × V)} {ds : List D}, RpL G L H ds (fs.map (·.2)) → RpL G L H (putNV (fs.map (·.1)) ds f d) ((putF f v fs).map (·.2))
  | [], ds, h => by cases ds <;> exact .cons r .nil
  | (n, w) :: fs, [], h => by have := h.length; simp at this
  | (n, w) :: fs, d0 :: ds, ⟨w', ws, e, r0, t⟩ => by
    simp only [List.map_cons, List.cons.injEq] at e
    obtain ⟨rfl, rfl⟩ := e
    simp only [putF, List.map_cons, putNV]
    by_cases c : n = f
    · rw [if_pos c, if_pos c]; exact .cons r t
    · rw [if_neg c, if_neg c]; exact .cons r0 (putF_rp r t)
end
/-- what is known of a class: its names that no class of it has -/
structure ClsOk (X : Cx) (c : Str) (as : List Str) : Prop where
  ex : ∃ C, X.mg c = some (.ref C) ∧ Cls X.K C ∧ ∀ f ∈ as, NoAttr X.K C f
def atS (c f : Str) : D → Option D
  | .obj c' ns vs => if c' = c then lookN ns vs f else none
  | _ => none
section
variable {X : Cx} {W : WX}
theorem pe_at {a : Expr} {c f : Str} {as : List Str} {pos : Pos} {fa : Env → Res D} (ok : ClsOk X c as) (hf : f ∈ as) (ha : PE X a (rP X W fa)) (hb : attributeBase a f X.env (eval a X.env) = eval a X.env) :
    PE X (.Attribute a f pos) (rE X W fun e => (fa e).bind fun x e1 => (lift (atS c f x) e1).bind fun d e2 => .ok (.p d) e2) := by
  refine pe_imp (pe_fld ha hb) ?_
  rintro σ H Q ⟨U, L, lent, e, rel, p⟩
  show rP X W fa σ H _
  refine rd_of rel p fun v L1 H1 x e1 s1 rel1 rx p1 => ?_
  obtain ⟨C, hm, hc, hn⟩ := ok.ex
  cases hx : atS c f x with
  | none => rw [hx] at p1; exact p1.elim
  | some d =>
    rw [hx] at p1
    cases x <;> simp only [atS, reduceCtorEq] at hx
    split at hx
    · rename_i hcc
      subst hcc
      obtain ⟨a0, C', dx, fs, rfl, g, hh, nl, rfl, r⟩ := rx
      have g : X.mg _ = some (.ref C') := g
      rw [hm] at g; cases g
      obtain ⟨w, h1, h2⟩ := lookN_rp r hx
      exact ⟨a0, C, dx, fs, w, rfl, hh, hc, hn f hf, h1, fin0 rel1 p1 h2⟩
    · cases hx
/-- x.f, x a name -/
def atb (c f : Str) (i : Nat) : Env → Res Val := fun e => match e[i]? with
  | some (some (.oo _ c' ns vs)) => if c' = c then (lift (lookN ns vs f) e).bind fun d e1 => .ok (.p d) e1 else .fail
  | some (some (.p x)) => (lift (atS c f x) e).bind fun d e1 => .ok (.p d) e1
  | _ => .fail
theorem pe_atb {i : Nat} {x c f : Str} {as : List Str} {p1 pos : Pos} (ok : ClsOk X c as) (hf : f ∈ as) (hN : X.N[i]? = some x) (hv : Vis X.env.scope x) (hd : (x == ("__debug__" : Str)) = false) (hcd : (x == ("__classdict__" : Str)) = false) :
    PE X (.Attribute (.Name x p1) f pos) (rE X W (atb c f i)) := by
  refine pe_imp (pe_fld (pe_var hN hv hd hcd) rfl) ?_
  rintro σ H Q ⟨U, L, lent, e, rel, p⟩
  obtain ⟨C, hm, hc, hn⟩ := ok.ex
  simp only [atb] at p
  split at p
  · rename_i t c' ns vs hx
    obtain ⟨v, h1, h2⟩ := rel.at_ i _ hx
    split at p
    · rename_i hcc
      subst hcc
      obtain ⟨a0, C', dx, fs, rfl, l, u, g, hh, rfl, r⟩ := h2
      have g : X.mg _ = some (.ref C') := g
      rw [hm] at g; cases g
      cases hl : lookN (fs.map (·.1)) vs f with
      | none => rw [hl] at p; exact p.elim
      | some d =>
        rw [hl] at p
        obtain ⟨w, k1, k2⟩ := lookN_rp r hl
        exact ⟨_, h1, a0, C, dx, fs, w, rfl, hh, hc, hn f hf, k1, fin0 rel p k2⟩
    · exact p.elim
  · rename_i x0 hx
    obtain ⟨v, h1, h2⟩ := rel.at_ i _ hx
    cases hl : atS c f x0 with
    | none => rw [hl] at p; exact p.elim
    | some d =>
      rw [hl] at p
      cases x0 <;> simp only [atS, reduceCtorEq] at hl
      split at hl
      · rename_i hcc
        subst hcc
        obtain ⟨a0, C', dx, fs, rfl, g, hh, nl, rfl, r⟩ := h2
        have g : X.mg _ = some (.ref C') := g
        rw [hm] at g; cases g
        obtain ⟨w, k1, k2⟩ := lookN_rp r hl
        exact ⟨_, h1, a0, C, dx, fs, w, rfl, hh, hc, hn f hf, k1, fin0 rel p k2⟩
      · cases hl
  · exact p.elim
/-- x.f = a, x a name -/
def satS (c f : Str) (i : Nat) (fa : Env → Res D) : Env → Res Fl := fun e => (fa e).bind fun d e1 => match e1[i]? with
  | some (some (.oo t c' ns vs)) => if c' = c ∧ ns.length < 1000 then .ok .nx (e1.set i (some (.oo t c (putN ns f) (putNV ns vs f d)))) else .fail
  | _ => .fail
theorem ps_sat {i : Nat} {x c f : Str} {as : List Str} {value : Expr} {p1 p2 pos : Pos} {fa : Env → Res D} (ok : ClsOk X c as) (hf : f ∈ as) (hN : X.N[i]? = some x) (hv : Vis X.env.scope x) (hd : (x == ("__debug__" : Str)) = false) (hcd : (x == ("__classdict__" : Str)) = false)
    (ha : PE X value (rP X W fa)) (hs : swapsWith value (some (.Attribute (.Name x p1) f p2)) pos.line X.env = pure false) : PS X (.Assign [.Attribute (.Name x p1) f p2] value pos) (rS X W (satS c f i fa)) := by
  refine ps_imp (ps_fld (pe_var hN hv hd hcd) ha hs) ?_
  rintro D σ H ⟨U, L, lent, e, rel, p⟩
  obtain ⟨C, hm, hc, hn⟩ := ok.ex
  show rP X W fa σ H _
  refine rdS_of rel p fun v L1 H1 d e1 s1 rel1 rx p1 => ?_
  split at p1
  · rename_i t c' ns vs hx
    split at p1
    · rename_i hcc
      obtain ⟨rfl, hlen⟩ := hcc
      obtain ⟨w, h1, h2⟩ := rel1.at_ i _ hx
      obtain ⟨a0, C', dx, fs, rfl, l, u, g, hh, rfl, r⟩ := h2
      have g' : X.mg _ = some (.ref C') := g
      rw [hm] at g'; cases g'
      refine ⟨_, h1, a0, C, dx, fs, rfl, hh, hc, hn f hf, by rw [List.length_map] at hlen; exact hlen, ?_⟩
      have st : Step U L1 H1 L1 (upd H1 a0 (.ins C dx (putF f v fs))) := Step.wr rel1.sub l u
      exact PostS.nx_ (rel1.wr (y := .oo t _ (putN (fs.map (·.1)) f) (putNV (fs.map (·.1)) vs f d)) hx rfl h1 l u rfl rfl ⟨a0, C, dx, putF f v fs, rfl, l, u, g, upd_same, putF_names f v fs, RpL.step st (putF_rp rx r)⟩) (PostS.step st p1)
    · exact p1.elim
  · exact p1.elim
end
/-! ### a new instance -/
def newE (c : Str) (F : Env → Res Val) (pm : List Nat) (ds : List D) (e : Env) : Res Val :=
  if ∀ i ∈ pm, i < ds.length then match F (some (.oo 1 c [] []) :: (permL pm ds).map fun d => some (.p d)) with
    | .ok (.p .non) (some (.oo 1 c' ns vs) :: _) => if c' = c then .ok (.oo 0 c ns vs) e else .fail
    | .exc k x _ => .exc k x e
    | _ => .fail
  else .fail
theorem RpL.perm {G : Tx} {L : AS} {H : Hp} {pm : List Nat} {ds : List D} {vs : List V} (r : RpL G L H ds vs) (h : ∀ i ∈ pm, i < ds.length) : RpL G L H (permL pm ds) (permL pm vs) := by
  induction pm with
  | nil => exact .nil
  | cons i pm ih =>
    have hi := h i List.mem_cons_self
    obtain ⟨v, h1, h2⟩ := r.get (List.getElem?_eq_getElem hi)
    have e1 : permL (i :: pm) ds = ds[i] :: permL pm ds := by
      unfold permL; rw [List.filterMap_cons, List.getElem?_eq_getElem hi]
    have e2 : permL (i :: pm) vs = v :: permL pm vs := by
      unfold permL; rw [List.filterMap_cons, h1]
    rw [e1, e2]
    exact .cons h2 (ih fun j hj => h j (List.mem_cons_of_mem _ hj))
theorem new_core {G : Tx} {W : WX} {U L : AS} {lent : Nat → Addr} {σ : SL} {H : Hp} {e : Env} {ds : List D} {vs : List V} {c : Str} {C x dx : Addr} {F : Env → Res Val} {pm : List Nat} {Q : VK} (rel : Rel G U L lent σ H e) (rds : RpL G L H ds vs) (nx : H x = none) (ndx : H dx = none) (hne : dx ≠ x)
    (hm : G.mg c = some (.ref C)) (p : Post G W U L lent σ H (RV G) Q (newE c F pm ds e)) : (∀ i ∈ pm, i < ds.length) ∧ spF G F (.ref x :: permL pm vs) (upd (upd H dx (.own x)) x (.ins C dx [])) (fun v H2 => v = .non ∧ Q (.ref x) H2) (WE W σ) := by
  unfold newE at p
  split at p
  · rename_i hlt
    refine ⟨hlt, ?_⟩
    have g : ∀ a o, H a = some o → upd (upd H dx (.own x)) x (.ins C dx []) a = some o := fun a o h => by
      rw [upd_ne (ne_of_none h nx), upd_ne (ne_of_none h ndx)]; exact h
    have nL : ¬ L x := rel.new nx
    have kp : Keep L H (M.adds L x) (upd (upd H dx (.own x)) x (.ins C dx [])) := fun a o h n => ⟨g a o h, fun z => z.elim n (ne_of_none h nx)⟩
    have rds2 := RpL.keep kp _ _ (rds.perm hlt)
    have one : ∀ {i : Nat} {y : Val}, (some (Val.oo 1 c [] []) :: (permL pm ds).map fun d => some (Val.p d))[i]? = some (some y) → y.isOwn = true → i = 0 ∧ y = .oo 1 c [] [] := fun {i y} h oy => by
      cases i with
      | zero => simp at h; exact ⟨rfl, h.symm⟩
      | succ i =>
        rw [List.getElem?_cons_succ, List.getElem?_map] at h
        cases hz : (permL pm ds)[i]? with
        | none => rw [hz] at h; cases h
        | some d => rw [hz] at h; cases h; cases oy
    have rel0 : Rel G L (M.adds L x) (fun _ => x) ((V.ref x :: permL pm vs).map some) (upd (upd H dx (.own x)) x (.ins C dx [])) (some (.oo 1 c [] []) :: (permL pm ds).map fun d => some (.p d)) := by
      refine ⟨fun a l => .inl l, fun a l => ?_, by simp [rds2.length], fun i y h => ?_, fun i j y z v hij h1 h2 oy oz _ _ => ?_, fun i y h oy _ => ?_⟩
      · rcases l with l | l
        · obtain ⟨o, h⟩ := rel.trk a l; exact ⟨o, g a o h⟩
        · rw [l]; exact ⟨_, upd_same⟩
      · cases i with
        | zero =>
          simp at h; subst h
          exact ⟨.ref x, rfl, x, C, dx, [], rfl, .inr rfl, nL, hm, upd_same, rfl, RpL.nil⟩
        | succ i =>
          rw [List.getElem?_cons_succ, List.getElem?_map] at h
          cases hz : (permL pm ds)[i]? with
          | none => rw [hz] at h; cases h
          | some d =>
            rw [hz] at h; cases h
            obtain ⟨v, h1, h2⟩ := rds2.get hz
            exact ⟨v, by rw [List.map_cons, List.getElem?_cons_succ, List.getElem?_map, h1]; rfl, h2⟩
      · obtain ⟨rfl, _⟩ := one h1 oy
        obtain ⟨rfl, _⟩ := one h2 oz
        exact hij rfl
      · obtain ⟨rfl, rfl⟩ := one h oy
        rfl
    refine ⟨L, M.adds L x, fun _ => x, _, rel0, ?_⟩
    have after : ∀ {L1 : AS} {H1 : Hp}, Step L (M.adds L x) (upd (upd H dx (.own x)) x (.ins C dx [])) L1 H1 → (∀ a, L1 a → ∃ o, H1 a = some o) → Step U L H L1 H1 ∧ Rel G U L1 lent σ H1 e := fun {L1 H1} s1 tr => by
      have kq : ∀ a o, H a = some o → H1 a = some o := fun a o h => s1.keep a o (g a o h) fun l => l.elim id fun z => absurd z (ne_of_none h nx)
      have oq : ∀ a o, H a = some o → ¬ L a → ¬ L1 a := fun a o h n => s1.out a o (g a o h) fun l => l.elim n (ne_of_none h nx)
      refine ⟨⟨fun a o h _ => kq a o h, oq, fun a u => s1.sub a (rel.sub a u)⟩, fun a u => s1.sub a (rel.sub a u), tr, rel.len, fun i y h => ?_, rel.ne, rel.tag⟩
      obtain ⟨v, h1, h2⟩ := rel.at_ i y h
      exact ⟨v, h1, h2.of (fun a o h n => ⟨kq a o h, oq a o h n⟩) fun a l _ o h => ⟨s1.sub a l, kq a o h⟩⟩
    cases hF : F (some (.oo 1 c [] []) :: (permL pm ds).map fun d => some (.p d)) with
    | fail => rw [hF] at p; exact p
    | exc k y e1 =>
      rw [hF] at p
      intro cls d L1 H1 s1 rel1 xx
      obtain ⟨a1, a2⟩ := after s1 rel1.trk
      exact p cls d L1 H1 a1 a2 xx
    | ok y e1 =>
      rw [hF] at p
      split at p
      · rename_i c' ns vs' rest heq
        cases heq
        split at p
        · rename_i hcc
          subst hcc
          intro v L1 H1 s1 rel1 rv
          obtain ⟨a1, a2⟩ := after s1 rel1.trk
          obtain ⟨w, h1, h2⟩ := rel1.at_ 0 _ rfl
          cases h1
          obtain ⟨b, C', dx', fs, eb, l, u, hg, hh, hn, r⟩ := h2
          cases eb
          refine ⟨rv.1, p (.ref x) L1 H1 a1 a2 ⟨⟨x, C', dx', fs, rfl, l, fun z => nL (rel.sub x z), hg, hh, hn, r⟩, fun _ => ⟨rfl, rel.fresh nx⟩⟩⟩
        · exact p.elim
      · rename_i heq
        cases heq
      · exact p.elim
  · exact p.elim
end M

set_option Elab.async false
set_option linter.all false
set_option maxRecDepth 100000
set_option maxHeartbeats 4000000
/-! MD: own classes: calls. -/
namespace M
open PySem PySem.Spec PyProof.Rows L2
inductive MK where
  | meth | prop | init | len | str
  deriving DecidableEq
def MkF (K : PySem.W.Frag) (C : Addr) (m : Str) (f : Addr) : MK → Prop
  | .meth => Meth K C m f
  | .prop => ∃ p, PropOf K C m p f
  | .init => Mk K C f
  | .len => PySem.W.findIn K (.ref C) "__len__" = some (some (.ref f)) ∧ PySem.W.isFn K (.ref f) = true
  | .str => PySem.W.findIn K (.ref C) "__str__" = some (some (.ref f)) ∧ PySem.W.isFn K (.ref f) = true
/-- a def of a class -/
structure CalM (X : Cx) (c m : Str) (kd : MK) (n : Nat) (F : Env → Res Val) (sh : List (Nat × List Str × List Nat)) : Prop where
  ex : ∃ (C : Addr) (k : Nat) (f : Addr) (fd : FuncData) (ps : List Str), X.mg c = some (.ref C) ∧ Cls X.K C ∧ MkF X.K C m f kd ∧ FnG X.prog X.w X.K X.mg X.base k f fd ps F ∧ Room (k + 3) X.A ∧ ps.length = n ∧ ∀ q ∈ sh, q.2.2.length = n ∧ BindG X.K fd ps q.1 q.2.1 q.2.2
section
variable {X : Cx} {W : WX}
theorem perm_self {α : Type} {pm : List Nat} {x : α} {us : List α} : permL (0 :: pm.map (· + 1)) (x :: us) = x :: permL pm us := by
  unfold permL
  rw [List.filterMap_cons, List.getElem?_cons_zero]
  simp only [List.filterMap_map]
  congr 1
theorem run_makeG {k : Nat} {C f : Addr} {fd : FuncData} {ps ks : List Str} {F : Env → Res Val} {na : Nat} {pm : List Nat} {pins : List (Addr × Obj)} {σ : L2.St} {H : Hp} {s : Shared} {Q : VK} {us ws : List Value} {vs zs : List V} (M : Mk X.K C f) (tk : Takes X W) (hgd : X.A.guards = some []) (Fn : FnG X.prog X.w X.K X.mg X.base k f fd ps F) (hr : Room (k + 1) X.A)
    (hb : BindG X.K fd ps (na + 1) ks (0 :: pm.map (· + 1))) (hn : pm.length + 1 = ps.length) (I : Inv X pins σ H s) (r : Vals vs us) (rz : Vals zs ws) (l1 : vs.length = na) (l2 : zs.length = ks.length) (hp : ∀ i ∈ pm, i < (vs ++ zs).length)
    (h : ∀ x dx, H x = none → H dx = none → dx ≠ x → spF (tx X) F (.ref x :: permL pm (vs ++ zs)) (upd (upd H dx (.own x)) x (.ins C dx [])) (fun v H2 => v = .non ∧ Q (.ref x) H2) (WE W σ)) :
    wpAny (model X.prog X.w) X.A (call (.ref C) us (ks.zip ws)) (EP X pins σ Q) X.xe s := by
  have hq := h (s.heap.objs.size + 1) s.heap.objs.size (I.hok.fresh (Nat.le_succ _)) (I.hok.fresh (Nat.le_refl _)) (Nat.ne_of_lt (Nat.lt_succ_self _))
  have I2 := Inv.made (C := C) I
  have r2 : Vals (V.ref (s.heap.objs.size + 1) :: permL pm (vs ++ zs)) (Value.ref (s.heap.objs.size + 1) :: permL pm (us ++ ws)) := .cons rfl (vals_perm (r.append rz) hp)
  have hbind := hb { s with heap := (s.heap.push PySem.W.emptyDict).push (PySem.W.instObj C s.heap.objs.size) } (Value.ref (s.heap.objs.size + 1) :: us) ws I2.kIn (by rw [List.length_cons, ← r.length, l1]) (rz.length.symm.trans l2)
  rw [List.cons_append, perm_self] at hbind
  refine wpAny_call (make_map (f := f) I.kIn M.makes M.init (beq_iff_eq.mp M.fn) (codeAny_mono (Fn.run _ X.stack _ _ ⟨Value.ref (s.heap.objs.size + 1) :: us, ks.zip ws⟩ (Value.ref (s.heap.objs.size + 1) :: permL pm (us ++ ws)) _ _ (WE W σ) hgd (hr.make C us (ks.zip ws))
    (I2.env0.make C us (ks.zip ws)) hbind r2 (by rw [List.length_cons, (permL_get hp).1, hn]) hq) fun r s' hq' => ?_))
  cases r with
  | error e => exact passAt tk σ pins _ _ e s' I2 hq'
  | ok fl =>
    cases fl with
    | ret u =>
      obtain ⟨v, H', I3, rv, ev, q3⟩ := I2.after hq'
      subst ev
      exact ⟨rv, ⟨V.ref (s.heap.objs.size + 1), H', I3, rfl, q3⟩⟩
    | next => exact False.elim hq'
    | brk => exact False.elim hq'
    | cont => exact False.elim hq'
/-- C(e, ..) -/
theorem pe_newG {c m : Str} {n : Nat} {F : Env → Res Val} {sh : List (Nat × List Str × List Nat)} {na : Nat} {pm : List Nat} {a : Expr} {es : List Expr} {p pos : Pos} {f : Env → Res (List D)} (tk : Takes X W) (hgd : X.A.guards = some []) (cal : CalM X c m .init n F sh) (hs : (na + 1, [], 0 :: pm.map (· + 1)) ∈ sh) (hg : Gl X c) (ha : PA X (a :: es) (rA X W f))
    (hst : (a :: es).all ns = true) (hdb : (c == ("__debug__" : Str)) = false) : PE X (.Call (.Name c p) (a :: es) [] pos) (rE X W fun e => (f e).bind fun ds e1 => if ds.length = na then newE c F pm ds e1 else .fail) := by
  obtain ⟨C, k, g, fd, ps, hm, hc, hk, Fn, hr, hpl, hb⟩ := cal.ex
  obtain ⟨h1, h2⟩ := hb _ hs
  simp only [List.length_cons, List.length_map] at h1
  rw [List.all_cons, Bool.and_eq_true] at hst
  refine ⟨fun pins s σ H Q I ⟨U, L, lent, e, rel, q⟩ => ?_⟩
  refine wpAny_Call_Name_kw (ld_glob I hg hm ?_ hdb)
  have hq : rA X W f σ H (fun vs H1 => vs.length = na ∧ (∀ i ∈ pm, i < vs.length) ∧ ∀ x dx, H1 x = none → H1 dx = none → dx ≠ x → spF (tx X) F (.ref x :: permL pm vs) (upd (upd H1 dx (.own x)) x (.ins C dx [])) (fun v H2 => v = .non ∧ Q (.ref x) H2) (WE W σ)) := rd_of rel q fun vs L1 H1 ds e1 s1 rel1 rd p1 => by
    split at p1
    · rename_i hl
      have hl2 := RpL.length rd
      refine ⟨by rw [← hl2]; exact hl, ?_, fun x dx nx ndx hne => (new_core rel1 rd nx ndx hne hm p1).2⟩
      unfold newE at p1
      split at p1
      · rename_i hlt; intro i hi; rw [← hl2]; exact hlt i hi
      · exact p1.elim
    · exact p1.elim
  have hk : Mk X.K C g := hk
  refine PySem.W.callWith_K (h₀ := X.base) I.ok.mod.kin hk.kp (thn (ha.run pos pins s σ H _ I hq) fun us s1 ⟨vs, H1, I1, r, q1, q2, q3⟩ => ⟨I1.kIn, ?_⟩) (star_ns hst.1) (star_none hst.2)
  exact run_makeG (ks := []) (zs := []) (ws := []) (pm := pm) hk tk hgd Fn (hr.mono (by omega)) h2 (h1.trans hpl.symm) I1 r .nil q1 rfl (by rw [List.append_nil]; exact q2) (by rw [List.append_nil]; exact q3)
/-! ### methods -/
def objOk (c m : Str) : D → Bool
  | .obj c' ns _ => decide (c' = c) && decide (m ∉ ns)
  | _ => false
theorem obj_rp {c m : Str} {x : D} {v : V} {L : AS} {H : Hp} {C : Addr} (h : objOk c m x = true) (hm : X.mg c = some (.ref C)) (rx : Rp (tx X) L H x v) : ∃ a0 dx fs, v = .ref a0 ∧ H a0 = some (.ins C dx fs) ∧ fs.lookup m = none := by
  cases x <;> simp only [objOk, Bool.false_eq_true, Bool.and_eq_true, decide_eq_true_eq] at h
  obtain ⟨rfl, hn⟩ := h
  obtain ⟨a0, C', dx, fs, rfl, g, hh, nl, rfl, r⟩ := rx
  have g : X.mg _ = some (.ref C') := g
  rw [hm] at g; cases g
  exact ⟨a0, dx, fs, rfl, hh, look_none hn⟩
/-- a.m(e, ..), a plain -/
theorem pe_methG {c m : Str} {n : Nat} {F : Env → Res Val} {sh : List (Nat × List Str × List Nat)} {na : Nat} {pm : List Nat} {o a : Expr} {es : List Expr} {apos pos : Pos} {fo : Env → Res D} {f : Env → Res (List AV)} {pl : Sem Bool} (tk : Takes X W) (hgd : X.A.guards = some []) (cal : CalM X c m .meth n F sh) (hs : (na, [], pm) ∈ sh) (ho : PE X o (rP X W fo)) (ha : PA X (a :: es) (rAV X W f))
    (hst : (a :: es).all ns = true) (ht : eval (.Call (.Attribute o m apos) (a :: es) [] pos) X.env = (do
      let ov ← eval o X.env
      standAt apos.atName
      let (f, first) ← holding [ov] (getMethod ov m pl)
      callWith pos f first (backTo pos (starEach (a :: es) X.env)) (backToKw pos (keywordEach [] X.env)))) :
    PE X (.Call (.Attribute o m apos) (a :: es) [] pos) (rE X W fun e => (fo e).bind fun x e1 => if objOk c m x = true then (f e1).bind fun xs e2 => callP F na pm (.v (.p x) :: xs) e2 else .fail) := by
  obtain ⟨C, k, g, fd, ps, hm, hc, hk, Fn, hr, hpl, hb⟩ := cal.ex
  obtain ⟨h1, h2⟩ := hb _ hs
  have hk : Meth X.K C m g := hk
  rw [List.all_cons, Bool.and_eq_true] at hst
  refine ⟨fun pins s σ H Q I ⟨U, L, lent, e, rel, q⟩ => ?_⟩
  have hq : rP X W fo σ H (fun v H1 => ∃ a0 dx fs, v = .ref a0 ∧ H1 a0 = some (.ins C dx fs) ∧ fs.lookup m = none ∧ rAV X W f σ H1 fun vs H2 => (V.ref a0 :: vs).length = na ∧ (∀ i ∈ pm, i < (V.ref a0 :: vs).length) ∧ spF (tx X) F (permL pm (V.ref a0 :: vs)) H2 Q (WE W σ)) :=
    rd_of rel q fun v L1 H1 x e1 s1 rel1 rx p1 => by
      split at p1
      · rename_i hob
        obtain ⟨a0, dx, fs, rfl, hh, hl⟩ := obj_rp hob hm rx
        refine ⟨a0, dx, fs, rfl, hh, hl, rd_of rel1 p1 fun vs L2 H2 xs e2 s2 rel2 ra p2 => ?_⟩
        have ra2 : RAs (tx X) (.v (.p x) :: xs) (V.ref a0 :: vs) U L2 σ H2 e2 := ⟨_, _, rfl, ⟨Rp.step s2 rx, fun z => nomatch z⟩, ra.weak fun b z => z.elim id fun z => nomatch z.1⟩
        unfold callP at p2
        split at p2
        · rename_i hln
          obtain ⟨c1, c2⟩ := call_core rel2 ra2 p2
          exact ⟨by rw [← ra2.len]; exact hln, c2, c1⟩
        · exact p2.elim
      · exact p1.elim
  refine PySem.W.methodCall_KW (pl := pl) (thn (ho.run pins s σ H _ I hq) fun u s1 ⟨x, H1, I1, rx, a0, dx, fs, ex, ea, l, q⟩ => ?_) ht
  subst ex
  obtain rfl : u = Value.ref a0 := rx
  refine getmeth_ok I1 ea hc hk l ?_
  refine PySem.W.callWith_K (first := [.ref a0]) (h₀ := X.base) I.ok.mod.kin hk.kp (thn (ha.run pos pins s1 σ H1 _ I1 q) fun us s2 ⟨vs, H2, I2, r, q1, q2, q3⟩ => ⟨I2.kIn, ?_⟩) (star_ns hst.1) (star_none hst.2)
  exact run_fnG (us := .ref a0 :: us) (vs := .ref a0 :: vs) (ks := []) (zs := []) (ws := []) (pm := pm) tk hgd Fn (hr.mono (by omega)) h2 (h1.trans hpl.symm) I2 (.cons rfl r) .nil q1 rfl (by rw [List.append_nil]; exact q2) (by rw [List.append_nil]; exact q3)
/-- a.m(), a plain -/
theorem pe_methG0 {c m : Str} {n : Nat} {F : Env → Res Val} {sh : List (Nat × List Str × List Nat)} {o : Expr} {apos pos : Pos} {fo : Env → Res D} {pl : Sem Bool} (tk : Takes X W) (hgd : X.A.guards = some []) (cal : CalM X c m .meth n F sh) (hs : (1, [], [0]) ∈ sh) (ho : PE X o (rP X W fo))
    (ht : eval (.Call (.Attribute o m apos) [] [] pos) X.env = (do
      let ov ← eval o X.env
      standAt apos.atName
      let (f, first) ← holding [ov] (getMethod ov m pl)
      callWith pos f first (backTo pos (starEach [] X.env)) (backToKw pos (keywordEach [] X.env)))) :
    PE X (.Call (.Attribute o m apos) [] [] pos) (rE X W fun e => (fo e).bind fun x e1 => if objOk c m x = true then callP F 1 [0] [.v (.p x)] e1 else .fail) := by
  obtain ⟨C, k, g, fd, ps, hm, hc, hk, Fn, hr, hpl, hb⟩ := cal.ex
  obtain ⟨h1, h2⟩ := hb _ hs
  have hk : Meth X.K C m g := hk
  refine ⟨fun pins s σ H Q I ⟨U, L, lent, e, rel, q⟩ => ?_⟩
  have hq : rP X W fo σ H (fun v H1 => ∃ a0 dx fs, v = .ref a0 ∧ H1 a0 = some (.ins C dx fs) ∧ fs.lookup m = none ∧ spF (tx X) F (permL [0] [V.ref a0]) H1 Q (WE W σ)) :=
    rd_of rel q fun v L1 H1 x e1 s1 rel1 rx p1 => by
      split at p1
      · rename_i hob
        obtain ⟨a0, dx, fs, rfl, hh, hl⟩ := obj_rp hob hm rx
        have ra2 : RAs (tx X) [.v (.p x)] [V.ref a0] U L1 σ H1 e1 := ⟨_, _, rfl, ⟨rx, fun z => nomatch z⟩, rfl⟩
        exact ⟨a0, dx, fs, rfl, hh, hl, (call_core rel1 ra2 p1).1⟩
      · exact p1.elim
  refine PySem.W.methodCall_KW (pl := pl) (thn (ho.run pins s σ H _ I hq) fun u s1 ⟨x, H1, I1, rx, a0, dx, fs, ex, ea, l, q⟩ => ?_) ht
  subst ex
  obtain rfl : u = Value.ref a0 := rx
  refine getmeth_ok I1 ea hc hk l ?_
  exact PySem.W.callWith_K0 (first := [.ref a0]) I1.kIn hk.kp (run_fnG (us := [.ref a0]) (vs := [.ref a0]) (ks := []) (zs := []) (ws := []) (pm := [0]) tk hgd Fn (hr.mono (by omega)) h2 (h1.trans hpl.symm) I1 (.cons rfl .nil) .nil rfl rfl (by simp) q)
/-! ### properties -/
def noX (r : Res Val) : Res Val := match r with
  | .ok v e => .ok v e
  | _ => .fail
theorem Post.noX {G : Tx} {W W' : WX} {U L : AS} {lent : Nat → Addr} {σ : SL} {H : Hp} {R : RR Val V} {Q : VK} {r : Res Val} (p : Post G W U L lent σ H R Q (M.noX r)) : Post G W' U L lent σ H R Q r := by
  cases r with
  | ok v e => exact p
  | exc c x e => exact p.elim
  | fail => exact p
/-- a.m, a property; a plain -/
theorem pe_propG {c m : Str} {n : Nat} {F : Env → Res Val} {sh : List (Nat × List Str × List Nat)} {o : Expr} {pos : Pos} {fo : Env → Res D} (tk : Takes X W) (hgd : X.A.guards = some []) (cal : CalM X c m .prop n F sh) (hs : (1, [], [0]) ∈ sh) (ho : PE X o (rP X W fo)) (hb0 : attributeBase o m X.env (eval o X.env) = eval o X.env) :
    PE X (.Attribute o m pos) (rE X W fun e => (fo e).bind fun x e1 => if objOk c m x = true then noX (callP F 1 [0] [.v (.p x)] e1) else .fail) := by
  obtain ⟨C, k, g, fd, ps, hm, hc, ⟨pp, hk⟩, Fn, hr, hpl, hb⟩ := cal.ex
  obtain ⟨h1, h2⟩ := hb _ hs
  refine ⟨fun pins s σ H Q I ⟨U, L, lent, e, rel, q⟩ => ?_⟩
  have hq : rP X W fo σ H (fun v H1 => ∃ a0 dx fs, v = .ref a0 ∧ H1 a0 = some (.ins C dx fs) ∧ fs.lookup m = none ∧ spF (tx X) F (permL [0] [V.ref a0]) H1 Q (WE W0 σ)) :=
    rd_of rel q fun v L1 H1 x e1 s1 rel1 rx p1 => by
      split at p1
      · rename_i hob
        obtain ⟨a0, dx, fs, rfl, hh, hl⟩ := obj_rp hob hm rx
        have ra2 : RAs (tx X) [.v (.p x)] [V.ref a0] U L1 σ H1 e1 := ⟨_, _, rfl, ⟨rx, fun z => nomatch z⟩, rfl⟩
        exact ⟨a0, dx, fs, rfl, hh, hl, (call_core (W := W0) rel1 ra2 p1.noX).1⟩
      · exact p1.elim
  refine attr_of hb0 (thn (ho.run pins s σ H _ I hq) fun u s1 ⟨x, H1, I1, rx, a0, dx, fs, ex, ea, l, q⟩ => ?_)
  subst ex
  obtain rfl : u = Value.ref a0 := rx
  obtain ⟨mA, O, _, _, _, _⟩ := ins_get I1.hok ea
  obtain ⟨od, J, _⟩ := O.look
  obtain ⟨rest, hrec⟩ := hk.rec_
  have I2 := I1.tok (s1.toks + 1)
  have hc2 : (PySem.W.clsIn X.K C).isSome = true := by
    obtain ⟨cd, hcd, _⟩ := PySem.W.any_some hc.hd
    rw [hcd]
    rfl
  refine PySem.W.get_bind I1.kIn J (PySem.W.plainGet_of (hc.get m)).1 (PySem.W.findObj_data hc2 hk.at_ hk.get hk.tak) (PySem.W.plainGet_of (hc.get m)).2 (wpAny_call (PySem.W.prop_get (s := { s1 with toks := s1.toks + 1 }) I1.kIn hrec ?_))
  have hr2 : Room (k + 1) X.A := hr.mono (by omega)
  refine codeAny_mono (Fn.run X.A.in1 X.stack { s1 with toks := s1.toks + 1 } H1 ⟨[.ref a0], []⟩ [.ref a0] [.ref a0] Q (WE W0 σ) hgd hr2.in1 I2.env0.in1 (h2 _ [.ref a0] [] I2.kIn rfl rfl) (.cons rfl .nil) (by rw [hpl]; exact h1) q) fun r s' hq => ?_
  cases r with
  | error er => exact False.elim (passAt (X := X.nox) (W := W0) takes0 σ pins H1 { s1 with toks := s1.toks + 1 } er s' (I2.wish _) hq)
  | ok fl =>
    cases fl with
    | ret u =>
      obtain ⟨v, H', I3, rv, q3⟩ := I2.after hq
      show wpAny _ _ (handedOut u) _ _ _
      rw [PySem.W.handedOut_of (handed_of rv)]
      exact wpAny_pure ⟨v, H', I3, rv, q3⟩
    | next => exact False.elim hq
    | brk => exact False.elim hq
    | cont => exact False.elim hq
end
end M

set_option Elab.async false
set_option linter.all false
set_option maxRecDepth 100000
set_option maxHeartbeats 4000000
/-! ME: own classes: len(x), str(x), isinstance(x, C). -/
namespace M
open PySem PySem.Spec PyProof.Rows L2
section
variable {X : Cx} {W : WX}
theorem run_at {A : Around} {k : Nat} {f a0 : Addr} {fd : FuncData} {ps : List Str} {F : Env → Res Val} {pins : List (Addr × Obj)} {σ : L2.St} {H : Hp} {s : Shared} {Q : VK} {E' : Value → Shared → Prop} (Fn : FnG X.prog X.w X.K X.mg X.base k f fd ps F) (hgd : A.guards = some []) (hr : Room k A)
    (he : Env0 X.prog X.w X.K X.mg X.base A X.stack s H) (h2 : BindG X.K fd ps 1 [] [0]) (hpl : ps.length = 1) (I : Inv X pins σ H s) (q : spF (tx X) F [V.ref a0] H Q (WE W0 σ)) : wpAny (model X.prog X.w) A (call (.ref f) [.ref a0]) (EP X pins σ Q) E' s := by
  refine wpAny_call (codeAny_mono (Fn.run A X.stack s H ⟨[.ref a0], []⟩ [.ref a0] [.ref a0] Q (WE W0 σ) hgd hr he (h2 s [.ref a0] [] I.kIn rfl rfl) (.cons rfl .nil) hpl.symm q) fun r s' hq => ?_)
  cases r with
  | error er => exact False.elim (passAt (X := X.nox) (W := W0) takes0 σ pins H s er s' (I.wish _) hq)
  | ok fl =>
    cases fl with
    | ret u => exact I.after hq
    | next => exact False.elim hq
    | brk => exact False.elim hq
    | cont => exact False.elim hq
theorem Inv.fr {pins : List (Addr × Obj)} {σ : L2.St} {H : Hp} {s : Shared} (I : Inv X pins σ H s) : ∃ m, Fr X.base X.env.locals s.heap m := by
  obtain ⟨m, hn, _⟩ := I.loc
  exact ⟨m, hn, I.bk, Nat.le_trans I.ok.bsz I.ok.above⟩
def rLenO (X : Cx) (C : Addr) (F : Env → Res Val) (σ0 : L2.St) : List V → Hp → VK → Prop := fun xs H Q => ∃ a0 dx fs, xs = [V.ref a0] ∧ H a0 = some (.ins C dx fs) ∧ spF (tx X) F [V.ref a0] H (fun v H2 => ∃ n : Int, v = .int n ∧ 0 ≤ n ∧ n < 2 ^ 63 ∧ Q (.int n) H2) (WE W0 σ0)
theorem call_lenO {c : Str} {n : Nat} {F : Env → Res Val} {sh : List (Nat × List Str × List Nat)} {C : Addr} {σ0 : L2.St} (hgd : X.A.guards = some []) (cal : CalM X c "__len__" .len n F sh) (hs : (1, [], [0]) ∈ sh) (hm : X.mg c = some (.ref C)) : CallR X (.builtin "len") (rLenO X C F σ0) := by
  intro pins s σ H xs us Q I r h
  obtain ⟨a0, dx, fs, rfl, ea, q⟩ := h
  obtain ⟨C', k, f, fd, ps, hm', hc, hk, Fn, hr, hpl, hb⟩ := cal.ex
  rw [hm] at hm'; cases hm'
  obtain ⟨h1, h2⟩ := hb _ hs
  obtain ⟨u, rfl, rx⟩ := vals1 r
  obtain rfl : u = Value.ref a0 := rx
  obtain ⟨mA, O, _, _, _, _⟩ := ins_get I.hok ea
  obtain ⟨od, J, _⟩ := O.look
  obtain ⟨m, fr⟩ := M.Inv.fr I
  refine PySem.W.len_K fr I.ok.mod.kin J hk.1 hk.2 (wpAny_mono (run_at Fn hgd (hr.mono (by omega : k + 1 ≤ k + 3)).in1 I.env0.in1 h2 (hpl.trans h1.symm) I q) (fun v s' hv => ?_) fun _ _ z => z)
  obtain ⟨w, H2, I2, rw_, n, rfl, n0, n1, q2⟩ := hv
  obtain ⟨t, rfl⟩ := (show ∃ t, v = Value.int n t from rw_)
  exact ⟨⟨n0, n1⟩, .int n, H2, I2.tok _, ⟨_, rfl⟩, q2⟩
/-- the length that an own __len__ tells -/
def lenR (r : Res Val) : Res Val := match r with
  | .ok (.p (.int n)) e => if 0 ≤ n ∧ n < 1000000 then .ok (.p (.int n)) e else .fail
  | _ => .fail
def strR (r : Res Val) : Res Val := match r with
  | .ok (.p (.str x)) e => .ok (.p (.str x)) e
  | _ => .fail
theorem sp_len {G : Tx} {W : WX} {U L : AS} {lent : Nat → Addr} {σ : SL} {H : Hp} {e : Env} {a0 : Addr} {x : D} {F : Env → Res Val} {Q : VK} (rel : Rel G U L lent σ H e) (rx : Rp G L H x (.ref a0)) (p : Post G W U L lent σ H (RV G) Q (lenR (callP F 1 [0] [.v (.p x)] e))) :
    spF G F [V.ref a0] H (fun v H2 => ∃ n : Int, v = .int n ∧ 0 ≤ n ∧ n < 2 ^ 63 ∧ Q (.int n) H2) (WE W0 σ) := by
  refine (call_core (W := W0) (pm := [0]) (avs := [.v (.p x)]) (vs := [V.ref a0]) rel ⟨_, _, rfl, ⟨rx, fun z => nomatch z⟩, rfl⟩ (?_ : Post G W0 U L lent σ H (RV G) _ (callE F [0] [.v (.p x)] e))).1
  have p : Post G W U L lent σ H (RV G) Q (lenR (callE F [0] [.v (.p x)] e)) := p
  revert p
  cases callE F [0] [.v (.p x)] e with
  | fail => exact fun p => p
  | exc c y o => exact fun p => p.elim
  | ok y o =>
    intro p v L1 H1 s1 rel1 rv
    unfold lenR at p
    split at p
    · rename_i n e2 heq
      cases heq
      split at p
      · rename_i hn
        have hv : v = .int n := rv.1
        subst hv
        refine ⟨n, rfl, hn.1, Int.lt_trans hn.2 (by decide), p _ L1 H1 s1 rel1 rv⟩
      · exact p.elim
    · exact p.elim
theorem sp_str {G : Tx} {W : WX} {U L : AS} {lent : Nat → Addr} {σ : SL} {H : Hp} {e : Env} {a0 : Addr} {x : D} {F : Env → Res Val} {Q : VK} (rel : Rel G U L lent σ H e) (rx : Rp G L H x (.ref a0)) (p : Post G W U L lent σ H (RV G) Q (strR (callP F 1 [0] [.v (.p x)] e))) :
    spF G F [V.ref a0] H (fun v H2 => ∃ y : Str, v = .str y ∧ Q (.str y) H2) (WE W0 σ) := by
  refine (call_core (W := W0) (pm := [0]) (avs := [.v (.p x)]) (vs := [V.ref a0]) rel ⟨_, _, rfl, ⟨rx, fun z => nomatch z⟩, rfl⟩ (?_ : Post G W0 U L lent σ H (RV G) _ (callE F [0] [.v (.p x)] e))).1
  have p : Post G W U L lent σ H (RV G) Q (strR (callE F [0] [.v (.p x)] e)) := p
  revert p
  cases callE F [0] [.v (.p x)] e with
  | fail => exact fun p => p
  | exc c y o => exact fun p => p.elim
  | ok y o =>
    intro p v L1 H1 s1 rel1 rv
    unfold strR at p
    split at p
    · rename_i n e2 heq
      cases heq
      have hv : v = .str n := rv.1
      subst hv
      exact ⟨n, rfl, p _ L1 H1 s1 rel1 rv⟩
    · exact p.elim
/-- len(a), a of an own class -/
theorem pe_lenO {c : Str} {n : Nat} {F : Env → Res Val} {sh : List (Nat × List Str × List Nat)} {a : Expr} {p pos : Pos} {fa : Env → Res D} (hgd : X.A.guards = some []) (cal : CalM X c "__len__" .len n F sh) (hs : (1, [], [0]) ∈ sh) (hg : Gl X "len") (hm : X.mg "len" = none) (ha : PE X a (rP X W fa)) (hn : ns a = true) :
    PE X (.Call (.Name "len" p) [a] [] pos) (rE X W fun e => (fa e).bind fun x e1 => if objOk c "__len__" x = true then lenR (callP F 1 [0] [.v (.p x)] e1) else .fail) := by
  obtain ⟨C, _, _, _, _, hmC, _⟩ := cal.ex
  refine ⟨fun pins s σ H Q I ⟨U, L, lent, e, rel, q⟩ => ?_⟩
  refine (pe_callB (call_lenO (σ0 := σ) hgd cal hs hmC) hg hm PySem.boot_len (pa_cons ha pa_nil (star_ns hn)) (by decide +kernel) (by decide +kernel) (star_ns hn) rfl).run pins s σ H Q I ?_
  show rP X W fa σ H _
  refine rd_of rel q fun v L1 H1 x e1 s1 rel1 rx p1 => ?_
  split at p1
  · rename_i hob
    obtain ⟨a0, dx, fs, rfl, hh, hl⟩ := obj_rp hob hmC rx
    exact ⟨a0, dx, fs, rfl, hh, sp_len rel1 rx p1⟩
  · exact p1.elim
def rStrO (X : Cx) (C : Addr) (F : Env → Res Val) (σ0 : L2.St) : List V → Hp → VK → Prop := fun xs H Q => ∃ a0 dx fs, xs = [V.ref a0] ∧ H a0 = some (.ins C dx fs) ∧ spF (tx X) F [V.ref a0] H (fun v H2 => ∃ y : Str, v = .str y ∧ Q (.str y) H2) (WE W0 σ0)
theorem call_strO {c : Str} {n : Nat} {F : Env → Res Val} {sh : List (Nat × List Str × List Nat)} {C : Addr} {σ0 : L2.St} (hgd : X.A.guards = some []) (hu : X.A.units + 65 < cLine) (cal : CalM X c "__str__" .str n F sh) (hs : (1, [], [0]) ∈ sh) (hm : X.mg c = some (.ref C)) : CallR X (.type "str") (rStrO X C F σ0) := by
  intro pins s σ H xs us Q I r h
  obtain ⟨a0, dx, fs, rfl, ea, q⟩ := h
  obtain ⟨C', k, f, fd, ps, hm', hc, hk, Fn, hr, hpl, hb⟩ := cal.ex
  rw [hm] at hm'; cases hm'
  obtain ⟨h1, h2⟩ := hb _ hs
  obtain ⟨u, rfl, rx⟩ := vals1 r
  obtain rfl : u = Value.ref a0 := rx
  obtain ⟨mA, O, _, _, _, _⟩ := ins_get I.hok ea
  obtain ⟨od, J, _⟩ := O.look
  refine PySem.W.kso_call ?_ I.kIn J hk.1 hk.2 (wpAny_mono (run_at Fn hgd (hr.mono (by omega : k + 1 + 1 ≤ k + 3)).in1.in1 I.env0.in1.in1 h2 (hpl.trans h1.symm) I q) (fun v s' hv => ?_) fun _ _ z => z)
  · show X.A.units + 1 + 1 < cLine
    omega
  · obtain ⟨w, H2, I2, rw_, y, rfl, q2⟩ := hv
    obtain ⟨t, rfl⟩ := (show ∃ t, v = Value.str y t from rw_)
    exact ⟨.str y, H2, I2, ⟨_, rfl⟩, q2⟩
/-- str(a), a of an own class -/
theorem pe_strO {c : Str} {n : Nat} {F : Env → Res Val} {sh : List (Nat × List Str × List Nat)} {a : Expr} {p pos : Pos} {fa : Env → Res D} (hgd : X.A.guards = some []) (hu : X.A.units + 65 < cLine) (cal : CalM X c "__str__" .str n F sh) (hs : (1, [], [0]) ∈ sh) (hg : Gl X "str") (hm : X.mg "str" = none) (ha : PE X a (rP X W fa)) (hn : ns a = true) :
    PE X (.Call (.Name "str" p) [a] [] pos) (rE X W fun e => (fa e).bind fun x e1 => if objOk c "__str__" x = true then strR (callP F 1 [0] [.v (.p x)] e1) else .fail) := by
  obtain ⟨C, _, _, _, _, hmC, _⟩ := cal.ex
  refine ⟨fun pins s σ H Q I ⟨U, L, lent, e, rel, q⟩ => ?_⟩
  refine (pe_callTy (call_strO (σ0 := σ) hgd hu cal hs hmC) hg hm (by decide +kernel) (pa_cons ha pa_nil (star_ns hn)) (by decide +kernel) (by decide +kernel) (star_ns hn) rfl).run pins s σ H Q I ?_
  show rP X W fa σ H _
  refine rd_of rel q fun v L1 H1 x e1 s1 rel1 rx p1 => ?_
  split at p1
  · rename_i hob
    obtain ⟨a0, dx, fs, rfl, hh, hl⟩ := obj_rp hob hmC rx
    exact ⟨a0, dx, fs, rfl, hh, sp_str rel1 rx p1⟩
  · exact p1.elim
/-! ### isinstance(a, C) -/
def tyBs : List String := ["NoneType", "bool", "int", "str", "tuple", "list", "dict"]
/-- what is known of an own class as isinstance asks it -/
structure IsC (X : Cx) (c : Str) : Prop where
  ex : ∃ C, X.mg c = some (.ref C) ∧ Cls X.K C ∧ PySem.W.keepIn X.K (.ref C) = true ∧ PySem.W.findIn X.K (.ref C) "__class__" = some (some (.builtin "object.__class__")) ∧ PySem.W.specialIn X.K (.builtin "object.__class__") "__get__" = some (some (.builtin "getset_descriptor.__get__")) ∧
    PySem.W.takesIn X.K (.builtin "object.__class__") = some true ∧ PySem.W.mroIn X.K C (.type "object") = some true ∧ PySem.W.kitOne X.K (.ref C) (.ref C) = some true ∧ (∀ T ∈ tyBs, PySem.W.kitOne X.K (.type T) (.ref C) = some false) ∧ ∀ T ∈ tyBs, PySem.W.kitOne X.K (.ref C) (.type T) = some false
/-- isinstance(a, C): of the class itself, of built-in types; a of C -/
def isCS (c : Str) : D → Option Bool
  | .obj c' _ _ => if c' = c then some true else none
  | d => (tyS d).map fun _ => false
theorem tyS_in {d : D} {T : String} (h : tyS d = some T) : T ∈ tyBs := by
  cases d <;> simp only [tyS, Option.some.injEq, reduceCtorEq] at h <;> subst h <;> simp [tyBs]
theorem pe_isC {c : Str} {a : Expr} {p p2 pos : Pos} {fa : Env → Res D} (k : IsC X c) (hg : Gl X "isinstance") (hm : X.mg "isinstance" = none) (hgc : Gl X c) (hdc : (c == ("__debug__" : Str)) = false) (ha : PE X a (rP X W fa)) (hn : ns a = true) :
    PE X (.Call (.Name "isinstance" p) [a, .Name c p2] [] pos) (rE X W fun e => (fa e).bind fun x e1 => (lift (isCS c x) e1).bind fun b e2 => .ok (bv b) e2) := by
  obtain ⟨C, hmC, hc, hk, h1, h2, h3, h4, h5, h6, h7⟩ := k.ex
  refine pe_imp (pe_callB call_isi hg hm (by decide +kernel) (pa_cons ha (pa_cons (pe_glob hgc hmC (v := .ref C) rfl hdc) pa_nil (star_ns rfl)) (star_ns hn)) (by decide +kernel) (by decide +kernel) (star_ns hn) (star_none rfl)) ?_
  rintro σ H Q ⟨U, L, lent, e, rel, q⟩
  show rP X W fa σ H _
  refine rd_of rel q fun v L1 H1 x e1 s1 rel1 rx p1 => ?_
  cases eb : isCS c x with
  | none => rw [eb] at p1; exact p1.elim
  | some b =>
  rw [eb] at p1
  have fin : ∀ t, TyX X.K H1 v t → PySem.W.kitOne X.K t (.ref C) = some b → rIsi X.K [v, .ref C] H1 Q := fun t ty kt => ⟨v, .ref C, t, .ref C, b, rfl, .own C, ty, kt, fin0 rel1 p1 rfl⟩
  show rIsi X.K [v, .ref C] H1 Q
  cases x with
  | obj c' ns vs =>
    simp only [isCS] at eb
    split at eb
    · rename_i hcc
      subst hcc
      cases eb
      obtain ⟨a0, C', dx, fs, rfl, g, hh, nl, hnm, r⟩ := rx
      have g : X.mg _ = some (.ref C') := g
      rw [hmC] at g; cases g
      exact fin _ (.base (.ins hh hc h1 h2 h3 h4)) h5
    · cases eb
  | _ =>
    simp only [isCS] at eb
    obtain ⟨T, hT, hb⟩ := Option.map_eq_some_iff.mp eb
    subst hb
    exact fin _ (ty_ok hT rx) (h6 T (tyS_in hT))
end
end M

set_option Elab.async false
set_option linter.all false
set_option maxRecDepth 100000
set_option maxHeartbeats 4000000
/-! ML: an own dict walked: it stands locked meanwhile. -/
namespace M
open PySem PySem.Spec PyProof.Rows L2
mutual
/-- no locked dict within -/
def noL : D → Bool
  | .tup xs => noLs xs
  | .lst xs => noLs xs
  | .fl xs => noLs xs
  | .dic _ vs => noLs vs
  | .dicL _ _ => false
  | .obj _ _ vs => noLs vs
  | _ => true
def noLs : List D → Bool
  | [] => true
  | x :: xs => noL x && noLs xs
end
section
variable {G : Tx} {U L : AS} {H : Hp} {d : Addr} {od : Obj} {u : HO}
mutual
/-- nothing of it is the locked one -/
theorem Rp.relock (hd : H d = some (.frz od (.dK w))) : ∀ (x : D) (v : V), noL x = true → Rp G L H x v → Rp G (M.adds L d) (upd H d u) x v
  | .non, _, _, h => h
  | .bl _, _, _, h => h
  | .int _, _, _, h => h
  | .str _, _, _, h => h
  | .glob _, _, _, h => h
  | .ty _, _, _, h => h
  | .tup xs, _, n, ⟨a, vs, e, t, r⟩ => by
    refine ⟨a, vs, e, t.imp (fun ⟨t, nl⟩ => ?_) id, RpL.relock hd xs vs n r⟩
    have ha : a ≠ d := fun z => by
      subst z
      rcases t with t | ⟨o, t⟩ <;> rw [hd] at t <;> cases t
    exact ⟨t.imp (fun t => by rw [upd_ne ha]; exact t) fun ⟨o, t⟩ => ⟨o, by rw [upd_ne ha]; exact t⟩, fun z => z.elim nl ha⟩
  | .lst xs, _, n, ⟨a, vs, e, t, nl, r⟩ => by
    have ha : a ≠ d := fun z => by subst z; rw [hd] at t; cases t
    exact ⟨a, vs, e, by rw [upd_ne ha]; exact t, fun z => z.elim nl ha, RpL.relock hd xs vs n r⟩
  | .fl xs, _, n, ⟨a, vs, e, t, r⟩ => by
    refine ⟨a, vs, e, t.imp (fun ⟨t, nl⟩ => ?_) id, RpL.relock hd xs vs n r⟩
    have ha : a ≠ d := fun z => by
      subst z
      rcases t with t | ⟨o, t⟩ <;> rw [hd] at t <;> cases t
    exact ⟨t.imp (fun t => by rw [upd_ne ha]; exact t) fun ⟨o, t⟩ => ⟨o, by rw [upd_ne ha]; exact t⟩, fun z => z.elim nl ha⟩
  | .dic ks ds, _, n, ⟨a, kvs, e, t, nl, m, r⟩ => by
    have ha : a ≠ d := fun z => by subst z; rw [hd] at t; cases t
    exact ⟨a, kvs, e, by rw [upd_ne ha]; exact t, fun z => z.elim nl ha, m, RpL.relock hd ds _ n r⟩
  | .obj c ns ds, _, n, ⟨a, C, dx, fs, e, g, t, nl, m, r⟩ => by
    have ha : a ≠ d := fun z => by subst z; rw [hd] at t; cases t
    exact ⟨a, C, dx, fs, e, g, by rw [upd_ne ha]; exact t, fun z => z.elim nl ha, m, RpL.relock hd ds _ n r⟩
theorem RpL.relock (hd : H d = some (.frz od (.dK w))) : ∀ (xs : List D) (vs : List V), noLs xs = true → RpL G L H xs vs → RpL G (M.adds L d) (upd H d u) xs vs
  | [], _, _, h => h
  | x :: xs, _, n, ⟨v, vs', e, h, t⟩ => by
    simp only [noLs, Bool.and_eq_true] at n
    exact ⟨v, vs', e, Rp.relock hd x v n.1 h, RpL.relock hd xs vs' n.2 t⟩
end
theorem RpV.relock {x : Val} {v : V} (hd : H d = some (.frz od (.dK w))) (n : noL x.frz = true) (h : RpV G U L H x v) : RpV G U (M.adds L d) (upd H d u) x v := by
  cases x with
  | p y => exact Rp.relock hd y v n h
  | own t xs =>
    obtain ⟨a, vs, e, l, nu, q, r⟩ := h
    have ha : a ≠ d := fun z => by subst z; rw [hd] at q; cases q
    exact ⟨a, vs, e, .inl l, nu, by rw [upd_ne ha]; exact q, RpL.relock hd xs vs n r⟩
  | od t ks ds =>
    obtain ⟨a, kvs, e, l, nu, q, m, r⟩ := h
    have ha : a ≠ d := fun z => by subst z; rw [hd] at q; cases q
    exact ⟨a, kvs, e, .inl l, nu, by rw [upd_ne ha]; exact q, m, RpL.relock hd ds _ n r⟩
  | oo t c ns ds =>
    obtain ⟨a, C, dx, fs, e, l, nu, g, q, m, r⟩ := h
    have ha : a ≠ d := fun z => by subst z; rw [hd] at q; cases q
    exact ⟨a, C, dx, fs, e, .inl l, nu, g, by rw [upd_ne ha]; exact q, m, RpL.relock hd ds _ n r⟩
end
def noLe : Env → Bool
  | [] => true
  | none :: e => noLe e
  | some x :: e => noL x.frz && noLe e
theorem noLe_get : ∀ {e : Env} {i : Nat} {x : Val}, noLe e = true → e[i]? = some (some x) → noL x.frz = true
  | [], _, _, _, h => by simp at h
  | none :: e, 0, x, _, h => by simp at h
  | none :: e, i + 1, x, n, h => noLe_get (e := e) n (by simpa using h)
  | some y :: e, 0, x, n, h => by
    simp at h; subst h
    simp only [noLe, Bool.and_eq_true] at n
    exact n.1
  | some y :: e, i + 1, x, n, h => by
    simp only [noLe, Bool.and_eq_true] at n
    exact noLe_get (e := e) n.2 (by simpa using h)
open Classical in
/-- a, the dict of the slot i locked meanwhile -/
noncomputable def lockE (i : Nat) (fa : Env → Res Val) : Env → Res Val := fun e => match e[i]? with
  | some (some (.od t ks vs)) => match fa (e.set i (some (.p (.dicL ks vs)))) with
    | .ok x e' => if e'[i]? = some (some (.p (.dicL ks vs))) ∧ noL x.frz = true ∧ noLe (e'.set i (some (.od t ks vs))) = true then .ok x (e'.set i (some (.od t ks vs))) else .fail
    | _ => .fail
  | _ => .fail
theorem own_nfrz {G : Tx} {U L : AS} {H : Hp} {d : Addr} {o : Obj} {w : HO} {z : Val} (oz : z.isOwn = true) (h : RpV G U L H z (.ref d)) (hd : H d = some (.frz o w)) : False := by
  cases z with
  | p _ => cases oz
  | own t xs => obtain ⟨c, us, ev, l, u, q, r⟩ := h; cases ev; rw [hd] at q; cases q
  | od t ks ds => obtain ⟨c, us, ev, l, u, q, m, r⟩ := h; cases ev; rw [hd] at q; cases q
  | oo t c ns ds => obtain ⟨c', C, dx, fs, ev, l, u, gg, q, m, r⟩ := h; cases ev; rw [hd] at q; cases q
section
variable {X : Cx} {W : WX}
theorem pe_lockM {a : Expr} {i : Nat} {fa : Env → Res Val} (ha : PE X a (rE X W fa)) : PE X a (rE X W (lockE i fa)) := by
  refine pe_imp (pe_lock ha) ?_
  rintro σ H Q ⟨U, L, lent, e, rel, p⟩
  unfold lockE at p
  split at p
  · rename_i t ks vs hx
    have hil : i < e.length := (List.getElem?_eq_some_iff.mp hx).1
    obtain ⟨v0, hs, d, kvs, rfl, ld, nud, hh, hm, hr⟩ := rel.at_ i _ hx
    refine ⟨d, .dK kvs, hh, trivial, fun od => ?_⟩
    have g : ∀ b o, H b = some o → b ≠ d → upd H d (.frz od (.dK kvs)) b = some o := fun b o h n => by rw [upd_ne n]; exact h
    have kp : Keep L H (M.rmv L d) (upd H d (.frz od (.dK kvs))) := fun b o h n => ⟨g b o h fun z => n (z ▸ ld), fun z => n z.1⟩
    have at1 : ∀ {j : Nat} {y : Val}, (e.set i (some (.p (.dicL ks vs))))[j]? = some (some y) → (j = i ∧ y = .p (.dicL ks vs)) ∨ (j ≠ i ∧ e[j]? = some (some y)) := fun {j y} h => (set_get h).imp (fun ⟨a, b⟩ => ⟨a, (Option.some.inj b).symm⟩) id
    have rel1 : Rel (tx X) U (M.rmv L d) lent σ (upd H d (.frz od (.dK kvs))) (e.set i (some (.p (.dicL ks vs)))) := by
      refine ⟨fun b u => ⟨rel.sub b u, fun z => nud (z ▸ u)⟩, fun b l => ?_, by rw [List.length_set]; exact rel.len, fun j y h => ?_, fun j k y z v hjk h1 h2 oy oz s1 s2 => ?_, fun j y h oy ty => ?_⟩
      · obtain ⟨o, h⟩ := rel.trk b l.1
        exact ⟨o, g b o h l.2⟩
      · rcases at1 h with ⟨rfl, rfl⟩ | ⟨hj, h⟩
        · exact ⟨_, hs, d, od, kvs, rfl, upd_same, fun z => z.2 rfl, hm, RpL.keep kp _ _ hr⟩
        · obtain ⟨v, h1, h2⟩ := rel.at_ j y h
          refine ⟨v, h1, ?_⟩
          by_cases oy : y.isOwn = true
          · obtain ⟨b, ob, rfl, lb, nb, hb⟩ := own_addr oy h2
            have hbd : b ≠ d := fun z => by subst z; exact rel.ne j i y _ _ hj h hx oy rfl h1 hs
            cases y with
            | p _ => cases oy
            | own t xs => obtain ⟨c, us, ev, l, u, q, r⟩ := h2; cases ev; exact ⟨b, us, rfl, ⟨l, hbd⟩, u, g b _ q hbd, RpL.keep kp _ _ r⟩
            | od t ks ds => obtain ⟨c, us, ev, l, u, q, m, r⟩ := h2; cases ev; exact ⟨b, us, rfl, ⟨l, hbd⟩, u, g b _ q hbd, m, RpL.keep kp _ _ r⟩
            | oo t c ns ds => obtain ⟨c', C, dx, fs, ev, l, u, gg, q, m, r⟩ := h2; cases ev; exact ⟨b, C, dx, fs, rfl, ⟨l, hbd⟩, u, gg, g b _ q hbd, m, RpL.keep kp _ _ r⟩
          · cases y with
            | p x => exact Rp.keep kp x v h2
            | _ => exact absurd rfl oy
      · rcases at1 h1 with ⟨rfl, rfl⟩ | ⟨hj, h1⟩
        · cases oy
        · rcases at1 h2 with ⟨rfl, rfl⟩ | ⟨hk, h2⟩
          · cases oz
          · exact rel.ne j k y z v hjk h1 h2 oy oz s1 s2
      · rcases at1 h with ⟨rfl, rfl⟩ | ⟨hj, h⟩
        · cases oy
        · exact rel.tag j y h oy ty
    refine ⟨U, M.rmv L d, lent, _, rel1, ?_⟩
    cases hf : fa (e.set i (some (.p (.dicL ks vs)))) with
    | fail => rw [hf] at p; exact p
    | exc c x e' => rw [hf] at p; exact p.elim
    | ok x e' =>
      rw [hf] at p
      simp only at p
      split at p
      · rename_i hc
        obtain ⟨hi, hn, hne⟩ := hc
        intro v L' H' s1 rel2 rv
        have hd' : H' d = some (.frz od (.dK kvs)) := s1.keep d _ upd_same fun z => absurd rfl z.2
        have hil' : i < e'.length := (List.getElem?_eq_some_iff.mp hi).1
        have at2 : ∀ {j : Nat} {y : Val}, (e'.set i (some (.od t ks vs)))[j]? = some (some y) → (j = i ∧ y = .od t ks vs) ∨ (j ≠ i ∧ e'[j]? = some (some y)) := fun {j y} h => (set_get h).imp (fun ⟨a, b⟩ => ⟨a.symm ▸ rfl, by simpa using b.symm⟩) fun ⟨a, b⟩ => ⟨fun z => a z, b⟩
        have noj : ∀ {j : Nat} {y : Val}, j ≠ i → e'[j]? = some (some y) → noL y.frz = true := fun {j y} hj h => noLe_get (i := j) hne (by rw [List.getElem?_set_ne (fun z => hj z.symm)]; exact h)
        refine ⟨hd', ?_⟩
        have st : Step U L H (M.adds L' d) (upd H' d (.dK kvs)) := by
          refine ⟨fun b o h n => ?_, fun b o h n => ?_, fun b u => .inl (s1.sub b u)⟩
          · have hbd : b ≠ d := fun z => by subst z; exact nud (n ld)
            rw [upd_ne hbd]
            exact s1.keep b o (g b o h hbd) fun z => n z.1
          · have hbd : b ≠ d := fun z => by subst z; exact n ld
            exact fun z => z.elim (s1.out b o (g b o h hbd) fun z => n z.1) hbd
        have rel3 : Rel (tx X) U (M.adds L' d) lent σ (upd H' d (.dK kvs)) (e'.set i (some (.od t ks vs))) := by
          refine ⟨fun b u => .inl (s1.sub b u), fun b l => ?_, by rw [List.length_set]; exact rel2.len, fun j y h => ?_, fun j k y z v hjk h1 h2 oy oz v1 v2 => ?_, fun j y h oy ty => ?_⟩
          · by_cases hbd : b = d
            · subst hbd; exact ⟨_, upd_same⟩
            · obtain ⟨o, h⟩ := rel2.trk b (l.elim id fun z => absurd z hbd)
              exact ⟨o, by rw [upd_ne hbd]; exact h⟩
          · rcases at2 h with ⟨rfl, rfl⟩ | ⟨hj, h⟩
            · obtain ⟨w, h1, h2⟩ := rel2.at_ j (.p (.dicL ks vs)) hi
              rw [hs] at h1; cases h1
              obtain ⟨b, o, kvs', eb, q, nl, m, r⟩ := h2
              cases eb
              rw [hd'] at q; cases q
              have hv := noLe_get (i := j) (x := .od t ks vs) hne (by rw [List.getElem?_set_self hil'])
              exact ⟨_, hs, d, kvs, rfl, .inr rfl, nud, upd_same, m, RpL.relock hd' _ _ hv r⟩
            · obtain ⟨w, h1, h2⟩ := rel2.at_ j y h
              exact ⟨w, h1, h2.relock hd' (noj hj h)⟩
          · have clash : ∀ {k : Nat} {z : Val}, e'[k]? = some (some z) → z.isOwn = true → σ[k]? = some (some (.ref d)) → False := fun {k z} h oz hv => by
              obtain ⟨w, h1, h2⟩ := rel2.at_ k z h
              rw [hv] at h1; cases h1
              exact own_nfrz oz h2 hd'
            rcases at2 h1 with ⟨rfl, rfl⟩ | ⟨hj, g1⟩
            · rw [hs] at v1; cases v1
              rcases at2 h2 with ⟨rfl, rfl⟩ | ⟨hk, g2⟩
              · exact hjk rfl
              · exact clash g2 oz v2
            · rcases at2 h2 with ⟨rfl, rfl⟩ | ⟨hk, g2⟩
              · rw [hs] at v2; cases v2
                exact clash g1 oy v1
              · exact rel2.ne j k y z v hjk g1 g2 oy oz v1 v2
          · rcases at2 h with ⟨rfl, rfl⟩ | ⟨hj, h⟩
            · exact rel.tag j _ hx oy ty
            · exact rel2.tag j y h oy ty
        refine p v _ _ st rel3 ⟨rv.1.relock hd' hn, fun ox => ⟨(rv.2 ox).1, fun j y h oy hsj => ?_⟩⟩
        rcases at2 h with ⟨rfl, rfl⟩ | ⟨hj, h⟩
        · rw [hs] at hsj
          cases hsj
          exact own_nfrz ox rv.1 hd'
        · exact (rv.2 ox).2 j y h oy hsj
      · exact p.elim
  · exact p.elim
end
end M

set_option Elab.async false
set_option linter.all false
set_option maxRecDepth 100000
set_option maxHeartbeats 4000000
/-! MO: more built-ins: max and min of a list, d.get, join, split, str, zip of two. -/
namespace M
open PySem PySem.Spec PyProof.Rows L2
/-! ### max, min of a list of ints -/
def maxI : List Int → Int
  | [] => 0
  | [x] => x
  | x :: y :: r => if maxI (y :: r) ≤ x then x else maxI (y :: r)
def minI : List Int → Int
  | [] => 0
  | [x] => x
  | x :: y :: r => if x ≤ minI (y :: r) then x else minI (y :: r)
theorem maxI_ok : ∀ {xs : List Int}, xs ≠ [] → maxI xs ∈ xs ∧ ∀ y ∈ xs, y ≤ maxI xs
  | [x], _ => ⟨List.mem_singleton.mpr rfl, fun y hy => by rw [List.mem_singleton.mp hy]; exact Int.le_refl _⟩
  | x :: y :: r, _ => by
    obtain ⟨h1, h2⟩ := maxI_ok (xs := y :: r) (by simp)
    unfold maxI
    split
    · rename_i c
      refine ⟨List.mem_cons_self, fun z hz => ?_⟩
      rcases List.mem_cons.mp hz with rfl | hz
      · exact Int.le_refl _
      · exact Int.le_trans (h2 z hz) c
    · rename_i c
      refine ⟨List.mem_cons_of_mem _ h1, fun z hz => ?_⟩
      rcases List.mem_cons.mp hz with rfl | hz
      · omega
      · exact h2 z hz
theorem minI_ok : ∀ {xs : List Int}, xs ≠ [] → minI xs ∈ xs ∧ ∀ y ∈ xs, minI xs ≤ y
  | [x], _ => ⟨List.mem_singleton.mpr rfl, fun y hy => by rw [List.mem_singleton.mp hy]; exact Int.le_refl _⟩
  | x :: y :: r, _ => by
    obtain ⟨h1, h2⟩ := minI_ok (xs := y :: r) (by simp)
    unfold minI
    split
    · rename_i c
      refine ⟨List.mem_cons_self, fun z hz => ?_⟩
      rcases List.mem_cons.mp hz with rfl | hz
      · exact Int.le_refl _
      · exact Int.le_trans c (h2 z hz)
    · rename_i c
      refine ⟨List.mem_cons_of_mem _ h1, fun z hz => ?_⟩
      rcases List.mem_cons.mp hz with rfl | hz
      · omega
      · exact h2 z hz
def maxLS : List D → Option Val
  | [.lst xs] => (intsD xs).bind fun ns => if ns ≠ [] then some (.p (.int (maxI ns))) else none
  | _ => none
def minLS : List D → Option Val
  | [.lst xs] => (intsD xs).bind fun ns => if ns ≠ [] then some (.p (.int (minI ns))) else none
  | _ => none
section
variable {X : Cx} {W : WX}
theorem ok_maxL (hc : X.calm = true) : CallOk X (.builtin "max") maxLS := ⟨_, cr_max hc, fun {_ _ _ _ _ _ _ _ ds vs z} rel rv ez p => by
  unfold maxLS at ez
  split at ez
  · obtain ⟨ns, h1, h2⟩ := Option.bind_eq_some_iff.mp ez
    split at h2
    · rename_i hne
      cases h2
      obtain ⟨v, e1, a, us, e2, t, n, r⟩ := rpl1 rv
      refine ⟨a, ns, by rw [e1, e2], by rw [← sq_fin h1 r]; exact .of t, List.length_pos_iff.mpr hne, fun m hm hy => ?_⟩
      obtain ⟨k1, k2⟩ := maxI_ok hne
      rw [Int.le_antisymm (k2 m hm) (hy _ k1)]
      exact fin0 rel p rfl
    · cases h2
  · cases ez⟩
theorem ok_minL (hc : X.calm = true) : CallOk X (.builtin "min") minLS := ⟨_, cr_min hc, fun {_ _ _ _ _ _ _ _ ds vs z} rel rv ez p => by
  unfold minLS at ez
  split at ez
  · obtain ⟨ns, h1, h2⟩ := Option.bind_eq_some_iff.mp ez
    split at h2
    · rename_i hne
      cases h2
      obtain ⟨v, e1, a, us, e2, t, n, r⟩ := rpl1 rv
      refine ⟨a, ns, by rw [e1, e2], by rw [← sq_fin h1 r]; exact .of t, List.length_pos_iff.mpr hne, fun m hm hy => ?_⟩
      obtain ⟨k1, k2⟩ := minI_ok hne
      rw [Int.le_antisymm (hy _ k1) (k2 m hm)]
      exact fin0 rel p rfl
    · cases h2
  · cases ez⟩
/-! ### str(i), str(x) -/
def strS : List D → Option Val
  | [.int i] => if i.natAbs < 1000000000000 then some (.p (.str (toString i))) else none
  | _ => none
def strTS : List D → Option Val
  | [.str x] => some (.p (.str x))
  | _ => none
theorem ok_str : CallOk X (.type "str") strS := ⟨_, call_str_int, fun {_ _ _ _ _ _ _ _ ds vs z} rel rv ez p => by
  unfold strS at ez
  split at ez
  · split at ez
    · rename_i i hi
      cases ez
      obtain ⟨v, e1, e2⟩ := rpl1 rv
      cases e2
      refine ⟨i, e1, ?_, fin0 rel p rfl⟩
      by_cases z : i.natAbs = 0
      · rw [z]; decide
      · have := (Nat.log2_lt (k := 40) z).mpr (Nat.lt_of_lt_of_le hi (by decide))
        omega
    · cases ez
  · cases ez⟩
theorem ok_strT : CallOk X (.type "str") strTS := ⟨_, SkE.call_str_str, fun {_ _ _ _ _ _ _ _ ds vs z} rel rv ez p => by
  unfold strTS at ez
  split at ez
  · cases ez
    obtain ⟨v, e1, e2⟩ := rpl1 rv
    cases e2
    exact ⟨_, e1, fin0 rel p rfl⟩
  · cases ez⟩
/-! ### d.get(k, x), d a name -/
def get2E (i : Nat) (fk fd : Env → Res D) : Env → Res Val := fun e => match e[i]? with
  | some (some (.od _ _ _)) => (fk e).bind fun y e1 => (fd e1).bind fun z e2 => match e2[i]? with
    | some (some (.od _ ks vs)) => match keyOf y with
      | some k => .ok (.p ((valD ks vs k).getD z)) e2
      | none => .fail
    | _ => .fail
  | _ => .fail
theorem pe_get2 {i : Nat} {x : Str} {a b : Expr} {p1 apos cpos : Pos} {fk fd : Env → Res D} (hu : X.A.units + 1 < cLine) (hN : X.N[i]? = some x) (hv : Vis X.env.scope x) (hd : (x == ("__debug__" : Str)) = false) (hcd : (x == ("__classdict__" : Str)) = false) (ha : PE X a (rP X W fk)) (hb : PE X b (rP X W fd)) (na : ns a = true) (nb : ns b = true)
    (hline : (apos.endLine == cpos.line) = true) : PE X (.Call (.Attribute (.Name x p1) "get" apos) [a, b] [] cpos) (rE X W (get2E i fk fd)) := by
  have m2 : M2 X (.Name x p1) "get" apos a b cpos := by
    refine ⟨rfl, ?_, hline, ?_⟩
    · rw [star_ns na, star_ns nb]; rfl
    · rw [star_ns na, star_ns nb]; rfl
  refine pe_imp (pe_dget2 hu (pe_var hN hv hd hcd) ha hb m2) ?_
  rintro σ H Q ⟨U, L, lent, e, rel, p⟩
  simp only [get2E] at p
  split at p
  · rename_i t ks vs hx
    obtain ⟨v, h1, a0, kvs, rfl, l, nu, hh, hm, r⟩ := rel.at_ i _ hx
    refine ⟨_, h1, a0, rfl, .inl ⟨kvs, .inl hh⟩, rd_of rel p fun w L1 H1 y e1 s1 rel1 ry p1 => rd_of rel1 p1 fun u L2 H2 z e2 s2 rel2 rz p2 => ?_⟩
    split at p2
    · rename_i t' ks' vs' hx2
      obtain ⟨v', h1', b0, kvs', rfl, l', nu', hh', hm', r'⟩ := rel2.at_ i _ hx2
      rw [h1] at h1'; cases h1'
      split at p2
      · rename_i k hk
        have hval := val_rp (k := k) hm' r'
        have g := DGet.k (H := H2) (k := k) hh'
        rw [← key_rp hk (Rp.step s2 ry)] at g
        refine ⟨_, g, ?_⟩
        cases hv2 : valD ks' vs' k with
        | none =>
          rw [hv2] at hval p2
          rw [hval]
          exact fin0 rel2 p2 rz
        | some d =>
          rw [hv2] at hval p2
          obtain ⟨w2, h3, h4⟩ := hval
          rw [h3]
          exact fin0 rel2 p2 h4
      · exact p2.elim
    · exact p2.elim
  · exact p.elim
/-! ### rows of texts -/
def strsOf : List D → Option (List Str)
  | [] => some []
  | .str x :: r => (strsOf r).map (x :: ·)
  | _ => none
theorem strsOf_eq : ∀ {xs : List D} {rs : List Str}, strsOf xs = some rs → xs = rs.map D.str
  | [], _, h => by cases h; rfl
  | x :: r, rs, h => by
    cases x <;> simp only [strsOf, reduceCtorEq] at h
    obtain ⟨q, h1, h2⟩ := Option.map_eq_some_iff.mp h
    rw [← h2, strsOf_eq h1]; rfl
theorem strsOf_map : ∀ rs : List Str, strsOf (rs.map D.str) = some rs
  | [] => rfl
  | x :: r => by simp only [List.map_cons, strsOf, strsOf_map r, Option.map_some]
theorem RpL.strs {G : Tx} {L : AS} {H : Hp} : ∀ rs : List Str, RpL G L H (rs.map D.str) (rs.map V.str)
  | [] => .nil
  | _ :: rs => .cons rfl (RpL.strs rs)
theorem RpL.strs_eq {G : Tx} {L : AS} {H : Hp} : ∀ {rs : List Str} {vs : List V}, RpL G L H (rs.map D.str) vs → vs = rs.map V.str
  | [], _, h => h
  | _ :: _, _, ⟨_, _, e, h, t⟩ => by
    have h : _ = _ := h
    rw [e, h, RpL.strs_eq t]; rfl
/-! ### zip of two -/
def zipD : List D → List D → List D
  | x :: xs, y :: ys => .tup [x, y] :: zipD xs ys
  | _, _ => []
theorem zipD_len : ∀ (xs ys : List D), (zipD xs ys).length = min xs.length ys.length
  | [], _ => by simp [zipD]
  | _ :: _, [] => by simp [zipD]
  | x :: xs, y :: ys => by simp only [zipD, List.length_cons, zipD_len xs ys]; omega
theorem zipD_get : ∀ {xs ys : List D} {i : Nat}, i < (zipD xs ys).length → ∃ x y, xs[i]? = some x ∧ ys[i]? = some y ∧ (zipD xs ys)[i]? = some (.tup [x, y])
  | x :: xs, y :: ys, 0, _ => ⟨x, y, rfl, rfl, rfl⟩
  | x :: xs, y :: ys, i + 1, h => by
    obtain ⟨a, b, h1, h2, h3⟩ := zipD_get (xs := xs) (ys := ys) (i := i) (by simpa [zipD] using h)
    exact ⟨a, b, by simpa using h1, by simpa using h2, by simpa [zipD] using h3⟩
  | [], _, _, h => by simp [zipD] at h
  | _ :: _, [], _, h => by simp [zipD] at h
def zip2S : List D → Option (List D)
  | [.tup xs, .tup ys] => some (zipD xs ys)
  | [.lst xs, .lst ys] => some (zipD xs ys)
  | _ => none
theorem walk_zipT {K : PySem.W.Frag} {a b : Addr} {xs ys : List V} {n : Nat} (hn : n = min xs.length ys.length) : Walk (RZ.ItzT K a b) n (fun H => SqT K H a xs ∧ SqT K H b ys) (YPair (fun i => xs[i]?) (fun i => ys[i]?)) := by
  subst hn
  refine ⟨fun i H hi q => ⟨xs, ys, xs[i]'(by omega), ys[i]'(by omega), q.1, q.2, List.getElem?_eq_getElem _, List.getElem?_eq_getElem _⟩, fun H q => ⟨xs, ys, q.1, q.2, by omega⟩, fun i H v H' hi q y => ?_⟩
  obtain ⟨T, x, z, rfl, hT, rfl, h1, h2⟩ := y
  exact ⟨T, x, z, rfl, hT, rfl, h1 xs q.1, h2 ys q.2⟩
theorem yok_pair {G : Tx} {L : AS} {H : Hp} {xs ys : List D} {us ws : List V} {Gd : Hp → Prop} (hg : ∀ L1 H1, Keep L H L1 H1 → Gd H1) (r : RpL G L H xs us) (r2 : RpL G L H ys ws) : YOk G L H (zipD xs ys) Gd (YPair (fun i => us[i]?) (fun i => ws[i]?)) := by
  refine ⟨hg, fun L1 H1 i v H2 hi k tr y => ?_⟩
  obtain ⟨T, x, z, rfl, hT, rfl, h1, h2⟩ := y
  obtain ⟨dx, dy, g1, g2, g3⟩ := zipD_get hi
  obtain ⟨x', k1, k2⟩ := r.get g1
  obtain ⟨y', k3, k4⟩ := r2.get g2
  have h1 : us[i]? = some x := h1
  have h2 : ws[i]? = some z := h2
  rw [h1] at k1; cases k1
  rw [h2] at k3; cases k3
  have up := grow_upd (o := .tup [x, z]) hT
  have nl : ¬ L1 T := fun l => by obtain ⟨o, h⟩ := tr T l; rw [hT] at h; cases h
  have kk : Keep L H L1 (upd H1 T (.tup [x, z])) := fun a o h n => ⟨up a o (k a o h n).1, (k a o h n).2⟩
  exact ⟨up, _, g3, T, _, rfl, .inl ⟨.inl upd_same, nl⟩, .cons (Rp.keep kk _ _ k2) (.cons (Rp.keep kk _ _ k4) .nil)⟩
theorem pi_zip2M {a b : Expr} {p pos tpos : Pos} {elts : List Expr} {kk : Nat} {f : Env → Res (List D)} (hg : Gl X "zip") (hm : X.mg "zip" = none) (ha : PA X [a, b] (rA X W f)) (na : ns a = true) (nb : ns b = true) :
    PI X (.Tuple elts kk tpos) (.Call (.Name "zip" p) [a, b] [] pos) (rI X W fun e => (f e).bind fun xs e1 => lift (zip2S xs) e1) := by
  refine pi_imp (RZ.pi_zipA hg hm ha (star_ns na) (by rw [star_ns nb]; rfl)) ?_
  rintro σ H R ⟨U, L, lent, e, rel, p⟩
  refine ⟨U, L, lent, e, rel, p.bind fun vs L1 H1 xs e1 s1 rel1 rx p1 => ?_⟩
  cases hz : zip2S xs with
  | none => rw [hz] at p1; exact p1.elim
  | some items =>
    rw [hz] at p1
    unfold zip2S at hz
    split at hz
    · cases hz
      obtain ⟨v, w, e2, h1, h2⟩ := rpl2 rx
      obtain ⟨a0, us, rfl, t, r⟩ := h1
      obtain ⟨b0, ws, rfl, t2, r2⟩ := h2
      refine ⟨a0, b0, us, ws, e2, .inr ⟨t.sq, t2.sq, p1 _ L1 H1 _ _ (Step.refl rel1.sub) rel1 (walk_zipT (xs := us) (ys := ws) ?_) (yok_pair (fun L2 H2 k => ⟨(t.keep k).sq, (t2.keep k).sq⟩) r r2)⟩⟩
      rw [zipD_len, r.length, r2.length]
    · cases hz
      obtain ⟨v, w, e2, h1, h2⟩ := rpl2 rx
      obtain ⟨a0, us, rfl, t, n, r⟩ := h1
      obtain ⟨b0, ws, rfl, t2, n2, r2⟩ := h2
      refine ⟨a0, b0, us, ws, e2, .inl ⟨.of t, .of t2, p1 _ L1 H1 _ _ (Step.refl rel1.sub) rel1 (walk_zip (xs := us) (ys := ws) ?_) (yok_pair (Gd := fun H => SqL X.K H a0 us ∧ SqL X.K H b0 ws) (fun L2 H2 k => ⟨.of (k a0 _ t n).1, .of (k b0 _ t2 n2).1⟩) r r2)⟩⟩
      rw [zipD_len, r.length, r2.length]
    · cases hz
/-! ### a.join(b), a.split(b) -/
def joinE (fa fb : Env → Res D) : Env → Res Val := fun e => (fa e).bind fun x e1 => match x with
  | .str a => (fb e1).bind fun y e2 => match y with
    | .lst xs => match strsOf xs with
      | some ys => if (ys.map (·.length)).sum + ys.length * a.length ≤ 1000000 then .ok (.p (.str (Txt.join a ys))) e2 else .fail
      | none => .fail
    | .tup xs => match strsOf xs with
      | some ys => if (ys.map (·.length)).sum + ys.length * a.length ≤ 1000000 then .ok (.p (.str (Txt.join a ys))) e2 else .fail
      | none => .fail
    | _ => .fail
  | _ => .fail
theorem pe_join {a b : Expr} {apos cpos : Pos} {fa fb : Env → Res D} (hbase : (match a with | .Call _ _ _ _ => false | _ => true) = true) (ha : PE X a (rP X W fa)) (hb : PE X b (rP X W fb)) (hn : ns b = true) (hline : (apos.endLine == cpos.line) = true) :
    PE X (.Call (.Attribute a "join" apos) [b] [] cpos) (rE X W (joinE fa fb)) := by
  refine pe_imp (pe_bm F.plainAttrs_str F.slot_str_join F.type_str_join mt_join ha (pa_cons hb pa_nil (star_ns hn)) (att_base hbase) (few1 hn) hline (star_ns hn) rfl) ?_
  rintro σ H Q ⟨U, L, lent, e, rel, p⟩
  show rP X W fa σ H _
  refine rd_of rel p fun v L1 H1 x e1 s1 rel1 rx p1 => ?_
  cases x <;> try exact p1.elim
  rename_i sep
  cases rx
  refine ⟨rfl, rd_of rel1 p1 fun w L2 H2 y e2 s2 rel2 ry p2 => ?_⟩
  cases y <;> try exact p2.elim
  · rename_i xs
    dsimp only at p2
    cases hh : strsOf xs with
    | none => rw [hh] at p2; exact p2.elim
    | some ys =>
      rw [hh] at p2
      dsimp only at p2
      split at p2
      · rename_i hl
        obtain ⟨q, us, rfl, t, r⟩ := ry
        rw [strsOf_eq hh] at r
        exact ⟨sep, q, ys, rfl, rfl, .inr (by rw [← r.strs_eq]; exact t.sq), Nat.le_trans hl (by decide), fin0 rel2 p2 rfl⟩
      · exact p2.elim
  · rename_i xs
    dsimp only at p2
    cases hh : strsOf xs with
    | none => rw [hh] at p2; exact p2.elim
    | some ys =>
      rw [hh] at p2
      dsimp only at p2
      split at p2
      · rename_i hl
        obtain ⟨q, us, rfl, t, n, r⟩ := ry
        rw [strsOf_eq hh] at r
        exact ⟨sep, q, ys, rfl, rfl, .inl (by rw [← r.strs_eq]; exact .of t), Nat.le_trans hl (by decide), fin0 rel2 p2 rfl⟩
      · exact p2.elim
def splitE (fa fb : Env → Res D) : Env → Res Val := fun e => (fa e).bind fun x e1 => match x with
  | .str a => (fb e1).bind fun y e2 => match y with
    | .str b => if (b.length == 0) = false ∧ a.length ≤ 100000 then .ok (.own 0 ((Txt.split a b).map D.str)) e2 else .fail
    | _ => .fail
  | _ => .fail
theorem pe_split {a b : Expr} {apos cpos : Pos} {fa fb : Env → Res D} (hbase : (match a with | .Call _ _ _ _ => false | _ => true) = true) (ha : PE X a (rP X W fa)) (hb : PE X b (rP X W fb)) (hn : ns b = true) (hline : (apos.endLine == cpos.line) = true) :
    PE X (.Call (.Attribute a "split" apos) [b] [] cpos) (rE X W (splitE fa fb)) := by
  refine pe_imp (pe_bm F.plainAttrs_str F.slot_str_split F.type_str_split mt_split ha (pa_cons hb pa_nil (star_ns hn)) (att_base hbase) (few1 hn) hline (star_ns hn) rfl) ?_
  rintro σ H Q ⟨U, L, lent, e, rel, p⟩
  show rP X W fa σ H _
  refine rd_of rel p fun v L1 H1 x e1 s1 rel1 rx p1 => ?_
  cases x <;> try exact p1.elim
  rename_i txt
  cases rx
  refine ⟨rfl, rd_of rel1 p1 fun w L2 H2 y e2 s2 rel2 ry p2 => ?_⟩
  cases y <;> try exact p2.elim
  rename_i sep
  cases ry
  dsimp only at p2
  split at p2
  · rename_i hl
    refine ⟨txt, sep, rfl, rfl, hl.1, Nat.le_trans (Nat.add_le_add_right hl.2 2) (by decide), fun q nq => ?_⟩
    exact fin_own rel2 p2 (RpL.strs _) nq
  · exact p2.elim
end
end M

set_option Elab.async false
set_option linter.all false
set_option maxRecDepth 100000
set_option maxHeartbeats 4000000
/-! M18: the text as data, its meaning. -/
namespace M
open PySem PySem.Spec PyProof.Rows L2

/-- built-in functions and types that are called -/
inductive Bi where
  | abs | int | len | divmod | max | min | sorted | list | tuple | all | any | sum | repr | isi | str
  deriving DecidableEq
def Bi.nm : Bi → Str
  | .abs => "abs" | .int => "int" | .len => "len" | .divmod => "divmod" | .max => "max" | .min => "min" | .sorted => "sorted" | .list => "list" | .tuple => "tuple" | .all => "all" | .any => "any" | .sum => "sum" | .repr => "repr" | .isi => "isinstance" | .str => "str"
def Bi.sem : Bi → List D → Option Val
  | .abs => absS
  | .int => orB intS intTS
  | .len => orB lenS lenDS
  | .divmod => divmodS
  | .max => orB max2S maxLS
  | .min => orB min2S minLS
  | .sorted => orB sortS sortDS
  | .list => listS
  | .tuple => tupleS
  | .all => allS
  | .any => anyS
  | .sum => sumS
  | .repr => reprS
  | .isi => isiS
  | .str => orB strS strTS
inductive Ty where
  | int | bool | str | tuple | list | dict
  deriving DecidableEq
def Ty.nm : Ty → String
  | .int => "int" | .bool => "bool" | .str => "str" | .tuple => "tuple" | .list => "list" | .dict => "dict"

mutual
inductive E where
  | k (c : KD) | v (i : Nat) | mv (i : Nat) | gv (j : Nat) | ty (t : Ty)
  | bop (o : Bop) (a b : E) | neg (a : E)
  | cmp (o : Cop) (a b : E) | cmp2 (o o' : Cop) (a b c : E)
  | no (a : E) | and (a b : E) | or (a b : E) | ite (t : T) (a b : E)
  | tup (es : Es) | lst (es : Es) | ix (a b : E) | ixb (i : Nat) (b : E) | sl (a : E) (lo hi : Oe)
  | bi (b : Bi) (es : Es) | sset (a : E) | count (a b : E) | dsp (r : List (KD × KD)) | dsp0 | lenb (i : Nat)
  | call (f : Nat) (pm : List Nat) (es : As) | callk (f : Nat) (pm : List Nat) (es : Es) (ks : Ks)
  | comp (a : E) (t : Tg) (it : It) (c : Oc) (vs : List Nat) | app (i : Nat) (a : E) | fz (a : E) | never
  | at (c f : Str) (a : E) | atb (c f : Str) (i : Nat) | new (f : Nat) (c : Str) (pm : List Nat) (es : Es) | meth (f : Nat) (c m : Str) (pm : List Nat) (a : E) (es : As) | prop (f : Nat) (c m : Str) (a : E) | lenO (f : Nat) (c : Str) (a : E) | strO (f : Nat) (c : Str) (a : E) | isC (c : Str) (a : E)
  | lock (i : Nat) (a : E) | get2 (i : Nat) (a b : E) | join (a b : E) | split (a b : E)
inductive T where
  | tr (a : E) | cmp (o : Cop) (a b : E) | cmp2 (o o' : Cop) (a b c : E) | no (a : T) | and (a b : T) | or (a b : T)
inductive Es where
  | nil | cons (a : E) (r : Es) | star (a : E) (r : Es)
inductive As where
  | nil | v (a : E) (r : As) | ln (i : Nat) (r : As)
inductive Ks where
  | nil | cons (x : Str) (a : E) (r : Ks)
inductive Oe where
  | no | some (a : E)
inductive It where
  | seq (a : E) | rng1 (a : E) | rng2 (a b : E) | enum (a : E) | zip2 (a b : E)
inductive Oc where
  | no | yes (t : T)
inductive Tg where
  | n (i : Nat) | t (ts : Tgs) | sub (i : Nat) (b : E)
inductive Tgs where
  | nil | cons (t : Tg) (r : Tgs)
end
mutual
inductive S where
  | pass | brk | cnt | doc | ex (a : E) | ret (a : E) | ret0 | set (i : Nat) (a : E) | asg (t : Tg) (a : E) | par (is : List Nat) (es : As) | aug (o : Bop) (i : Nat) (a : E)
  | iff (t : T) (a b : Ss) | whl (t : T) (b : Ss) | fr (t : Tg) (it : It) (b : Ss) | never | sat (i : Nat) (c f : Str) (a : E)
inductive Ss where
  | nil | cons (s : S) (r : Ss)
end

def Es.len : Es → Nat
  | .nil => 0
  | .cons _ r => r.len + 1
  | .star _ r => r.len + 1
def As.len : As → Nat
  | .nil => 0
  | .v _ r => r.len + 1
  | .ln _ r => r.len + 1
def Ks.len : Ks → Nat
  | .nil => 0
  | .cons _ _ r => r.len + 1
/-! ### targets of comprehensions: names alone -/
mutual
def Tg.ofC : Tg → D → Env → Option Env
  | .n i => fun d e => some (e.set i (some (.p d)))
  | .t ts => tupC ts.len ts.ofC
  | .sub _ _ => fun _ _ => none
def Tgs.ofC : Tgs → List D → Env → Option Env
  | .nil => nilC
  | .cons t r => consC t.ofC r.ofC
def Tgs.len : Tgs → Nat
  | .nil => 0
  | .cons _ r => r.len + 1
end
section
variable (Φ : Nat → Env → Res Val) (Γ : List D)
mutual
noncomputable def E.ev : E → Env → Res Val
  | .k c => fun e => .ok (.p c.d) e
  | .v i => getv i
  | .mv i => mvv i
  | .gv j => fun e => match Γ[j]? with
    | some d => .ok (.p d) e
    | none => .fail
  | .ty t => fun e => .ok (.p (.ty t.nm)) e
  | .bop o a b => fun e => (a.ev e).frz.bind fun x e1 => (b.ev e1).frz.bind fun y e2 => lift (bopS o x y) e2
  | .neg a => fun e => (a.ev e).frz.bind fun x e1 => lift (negS x) e1
  | .cmp o a b => fun e => (a.ev e).frz.bind fun x e1 => (b.ev e1).frz.bind fun y e2 => (lift (copS o x y) e2).bind fun z e3 => .ok (bv z) e3
  | .cmp2 o o' a b c => fun e => (a.ev e).frz.bind fun x e1 => (b.ev e1).frz.bind fun y e2 => (lift (copS o x y) e2).bind fun z e3 => if z = true then (c.ev e3).frz.bind fun u e4 => (lift (copS o' y u) e4).bind fun z' e5 => .ok (bv z') e5 else .ok (bv false) e3
  | .no a => fun e => (a.ev e).frz.bind fun x e1 => (lift (truS x) e1).bind fun z e2 => .ok (bv (!z)) e2
  | .and a b => fun e => ((a.ev e).frz.bind fun x e1 => (lift (truS x) e1).bind fun z e2 => if z = true then (b.ev e2).frz else .ok x e2).bind fun d e => .ok (.p d) e
  | .or a b => fun e => ((a.ev e).frz.bind fun x e1 => (lift (truS x) e1).bind fun z e2 => if z = true then .ok x e2 else (b.ev e2).frz).bind fun d e => .ok (.p d) e
  | .ite t a b => fun e => (t.ev e).bind fun z e1 => if z = true then a.ev e1 else b.ev e1
  | .tup es => fun e => (es.ev e).bind fun xs e1 => lift (tupS xs) e1
  | .lst es => fun e => (es.ev e).bind fun xs e1 => lift (lstS xs) e1
  | .ix a b => fun e => (a.ev e).frz.bind fun x e1 => (b.ev e1).frz.bind fun y e2 => (lift (idxS x y) e2).bind fun z e3 => .ok (.p z) e3
  | .ixb i b => idxb i fun e => (b.ev e).frz
  | .sl a lo hi => sliceE (fun e => (a.ev e).frz) lo.ev hi.ev
  | .bi b es => fun e => (es.ev e).bind fun xs e1 => lift (b.sem xs) e1
  | .sset a => fun e => (a.ev e).frz.bind fun x e1 => lift (srtSetS x) e1
  | .count a b => countE (fun e => (a.ev e).frz) (fun e => (b.ev e).frz)
  | .dsp r => fun e => lift (dispS r) e
  | .dsp0 => fun e => .ok (.od 0 [] []) e
  | .lenb i => lenb i
  | .call f pm es => fun e => (es.ev e).bind (callP (Φ f) es.len pm)
  | .callk f pm es ks => fun e => (es.ev e).bind fun ds e1 => (ks.ev e1).bind fun kd e2 => callKw (Φ f) es.len ks.len pm ds kd e2
  | .comp a t it c vs => fun e => (it.ev e).bind fun items e1 => compS t.ofC c.ev (fun e => (a.ev e).frz) vs items [] e1
  | .app i a => appE i fun e => (a.ev e).frz
  | .fz a => fun e => (a.ev e).frz.bind fun d e1 => .ok (.p d) e1
  | .never => fun _ => .fail
  | .at c f a => fun e => (a.ev e).frz.bind fun x e1 => (lift (atS c f x) e1).bind fun d e2 => .ok (.p d) e2
  | .atb c f i => atb c f i
  | .new f c pm es => fun e => (es.ev e).bind fun ds e1 => if ds.length = es.len then newE c (Φ f) pm ds e1 else .fail
  | .meth f c m pm a es => fun e => (a.ev e).frz.bind fun x e1 => if objOk c m x = true then (es.ev e1).bind fun xs e2 => callP (Φ f) (es.len + 1) pm (.v (.p x) :: xs) e2 else .fail
  | .prop f c m a => fun e => (a.ev e).frz.bind fun x e1 => if objOk c m x = true then noX (callP (Φ f) 1 [0] [.v (.p x)] e1) else .fail
  | .lenO f c a => fun e => (a.ev e).frz.bind fun x e1 => if objOk c "__len__" x = true then lenR (callP (Φ f) 1 [0] [.v (.p x)] e1) else .fail
  | .strO f c a => fun e => (a.ev e).frz.bind fun x e1 => if objOk c "__str__" x = true then strR (callP (Φ f) 1 [0] [.v (.p x)] e1) else .fail
  | .isC c a => fun e => (a.ev e).frz.bind fun x e1 => (lift (isCS c x) e1).bind fun b e2 => .ok (bv b) e2
  | .lock i a => lockE i a.ev
  | .get2 i a b => get2E i (fun e => (a.ev e).frz) (fun e => (b.ev e).frz)
  | .join a b => joinE (fun e => (a.ev e).frz) (fun e => (b.ev e).frz)
  | .split a b => splitE (fun e => (a.ev e).frz) (fun e => (b.ev e).frz)
noncomputable def T.ev : T → Env → Res Bool
  | .tr a => fun e => (a.ev e).frz.bind fun x e1 => lift (truS x) e1
  | .cmp o a b => fun e => (a.ev e).frz.bind fun x e1 => (b.ev e1).frz.bind fun y e2 => lift (copS o x y) e2
  | .cmp2 o o' a b c => fun e => (a.ev e).frz.bind fun x e1 => (b.ev e1).frz.bind fun y e2 => (lift (copS o x y) e2).bind fun z e3 => if z = true then (c.ev e3).frz.bind fun u e4 => lift (copS o' y u) e4 else .ok false e3
  | .no a => fun e => (a.ev e).bind fun z e1 => .ok (!z) e1
  | .and a b => fun e => (a.ev e).bind fun z e1 => if z = true then b.ev e1 else .ok false e1
  | .or a b => fun e => (a.ev e).bind fun z e1 => if z = true then .ok true e1 else b.ev e1
noncomputable def Es.ev : Es → Env → Res (List D)
  | .nil => fun e => .ok [] e
  | .cons a r => fun e => (a.ev e).frz.bind fun x e1 => (r.ev e1).bind fun xs e2 => .ok (x :: xs) e2
  | .star a r => fun e => (a.ev e).frz.bind fun x e1 => (lift (itemsS x) e1).bind fun ys e2 => (r.ev e2).bind fun xs e3 => .ok (ys ++ xs) e3
noncomputable def As.ev : As → Env → Res (List AV)
  | .nil => fun e => .ok [] e
  | .v a r => fun e => (a.ev e).bind fun x e1 => (r.ev e1).bind fun xs e2 => .ok (.v x :: xs) e2
  | .ln i r => fun e => match e[i]? with
    | some (some _) => (r.ev e).bind fun xs e2 => .ok (.ln i :: xs) e2
    | _ => .fail
noncomputable def Ks.ev : Ks → Env → Res (List D)
  | .nil => fun e => .ok [] e
  | .cons _ a r => fun e => (a.ev e).frz.bind fun x e1 => (r.ev e1).bind fun xs e2 => .ok (x :: xs) e2
noncomputable def Oe.ev : Oe → Env → Res (Option Int)
  | .no => fun e => .ok none e
  | .some a => fun e => (a.ev e).frz.bind optI
noncomputable def It.ev : It → Env → Res (List D)
  | .seq a => fun e => (a.ev e).frz.bind fun x e1 => lift (walkS x) e1
  | .rng1 a => fun e => ((a.ev e).frz.bind fun x e1 => .ok [x] e1).bind fun xs e1 => if xs.length = 1 then lift (rangeS xs) e1 else .fail
  | .rng2 a b => fun e => ((a.ev e).frz.bind fun x e1 => (b.ev e1).frz.bind fun y e2 => .ok [x, y] e2).bind fun xs e1 => if xs.length = 2 then lift (rangeS xs) e1 else .fail
  | .enum a => fun e => (a.ev e).frz.bind fun x e1 => match itemsS x with
    | some ys => .ok (enumS 0 ys) e1
    | none => match x with
      | .fl ys => .ok (enumS 0 ys) e1
      | _ => .fail
  | .zip2 a b => fun e => ((a.ev e).frz.bind fun x e1 => (b.ev e1).frz.bind fun y e2 => .ok [x, y] e2).bind fun xs e1 => lift (zip2S xs) e1
noncomputable def Oc.ev : Oc → Env → Res Bool
  | .no => fun e => .ok true e
  | .yes t => t.ev
end
mutual
noncomputable def Tg.ev : Tg → D → Env → Res Fl
  | .n i => fun d e => .ok .nx (e.set i (some (.p d)))
  | .t ts => tupT ts.len ts.ev
  | .sub i b => subT i fun e => (b.ev Φ Γ e).frz
noncomputable def Tgs.ev : Tgs → List D → Env → Res Fl
  | .nil => nilT
  | .cons t r => consT t.ev r.ev
end
mutual
noncomputable def S.ev : S → Env → Res Fl
  | .pass => fun e => .ok .nx e
  | .brk => fun e => .ok .bk e
  | .cnt => fun e => .ok .ct e
  | .doc => fun e => .ok .nx e
  | .ex a => fun e => (a.ev Φ Γ e).bind fun _ e1 => .ok .nx e1
  | .ret a => fun e => (a.ev Φ Γ e).bind fun x e1 => .ok (.rt x) e1
  | .ret0 => fun e => .ok (.rt (.p .non)) e
  | .set i a => fun e => (a.ev Φ Γ e).bind fun v e1 => .ok .nx (e1.set i (some v))
  | .asg t a => fun e => (a.ev Φ Γ e).frz.bind (t.ev Φ Γ)
  | .par is es => fun e => (es.ev Φ Γ e).bind (parS is)
  | .aug o i a => augS o i fun e => (a.ev Φ Γ e).frz
  | .iff t a b => fun e => (t.ev Φ Γ e).bind fun z e1 => if z = true then a.ev e1 else b.ev e1
  | .whl t b => whileC (t.ev Φ Γ) b.ev
  | .fr t it b => fun e => (it.ev Φ Γ e).bind fun items e1 => forS (t.ev Φ Γ) b.ev items e1
  | .never => fun _ => .fail
  | .sat i c f a => satS c f i fun e => (a.ev Φ Γ e).frz
noncomputable def Ss.ev : Ss → Env → Res Fl
  | .nil => fun e => .ok .nx e
  | .cons s r => fun e => (s.ev e).seq r.ev
end
end
end M

set_option Elab.async false
set_option linter.all false
set_option maxRecDepth 100000
set_option maxHeartbeats 4000000
/-! M19: a look at the text; what is looked at runs as the data mean. -/
namespace M
open PySem PySem.Spec PyProof.Rows L2

structure Cc where
  N : List Str
  sc : Scope
  cells : List Str
  fs : List (Nat × Str × Nat × List (Nat × List Str × List Nat))
  gv : List (Nat × Str)
  cl : List (Str × List Str)
  ms : List (Nat × Str × Str × MK × Nat × List (Nat × List Str × List Nat))
def bltN : List Str := ["abs", "int", "len", "divmod", "max", "min", "sorted", "list", "tuple", "all", "any", "sum", "repr", "isinstance", "set", "range", "enumerate", "bool", "str", "dict", "zip"]
/-- stands among a class's names if the class is asked for by isinstance -/
def isMark : Str := Str.ofString "?"
structure Gd (Φ : Nat → Env → Res Val) (Γ : List D) (X : Cx) (W : WX) (c : Cc) : Prop where
  calm : X.calm = true
  N : X.N = c.N
  nd : c.N.Nodup
  sc : X.env.scope = c.sc
  cel : ∀ x ∈ c.cells, X.fn x = true
  tk : Takes X W
  hp : PassesOwn (model X.prog X.w) X.A X.env X.xe
  gd : X.A.guards = some []
  hu : X.A.units + 65 < cLine
  blt : ∀ x ∈ bltN, X.mg x = none
  cal : ∀ (f : Nat) (x : Str) (n : Nat) (sh : List (Nat × List Str × List Nat)), c.fs.lookup f = some (x, n, sh) → Cal X x n (Φ f) sh
  gvl : ∀ (j : Nat) (x : Str) (d : D), c.gv.lookup j = some x → Γ[j]? = some d → ∃ u v, X.mg x = some u ∧ RelV v u ∧ ∀ L H, Rp (tx X) L H d v
  cls : ∀ (x : Str) (as : List Str), c.cl.lookup x = some as → ClsOk X x as ∧ (isMark ∈ as → IsC X x)
  mth : ∀ (f : Nat) (x m : Str) (kd : MK) (n : Nat) (sh : List (Nat × List Str × List Nat)), c.ms.lookup f = some (x, m, kd, n, sh) → CalM X x m kd n (Φ f) sh
section
variable (c : Cc)
def nok (x : Str) : Bool := !(x == ("__debug__" : Str)) && !(x == ("__classdict__" : Str)) && !decide (x = "__name__")
def ckv (i : Nat) (x : Str) : Bool := decide (c.N[i]? = some x) && (match c.sc.names.lookup x with | some .local => true | some .cell => true | some .free => true | _ => false) && nok x
def ckt (i : Nat) (x : Str) : Bool := decide (c.N[i]? = some x) && (match c.sc.names.lookup x with | some .local => true | some .cell => decide (x ∈ c.cells) | _ => false)
def ckl (i : Nat) (x : Str) : Bool := decide (c.N[i]? = some x) && decide (c.sc.names.lookup x = some .local)
def ckg (x : Str) : Bool := decide (c.sc.names.lookup x = some .globalImplicit) && nok x
def ckm (f : Nat) (x m : Str) (kd : MK) (q : Nat × List Str × List Nat) : Bool := match c.ms.lookup f with
  | some (x', m', kd', _, sh) => decide (x' = x) && decide (m' = m) && decide (kd' = kd) && decide (q ∈ sh)
  | none => false
def ckc (x f : Str) : Bool := match c.cl.lookup x with
  | some as => decide (f ∈ as)
  | none => false
/-- no comprehension -/
def nco (v : Expr) : Bool := match v with
  | .ListComp _ _ _ _ => false
  | .SetComp _ _ _ _ => false
  | .DictComp _ _ _ _ _ => false
  | _ => true
/-- no set display -/
def nset (v : Expr) : Bool := match v with
  | .Set _ _ _ => false
  | _ => true
def isNm (v : Expr) : Bool := match v with
  | .Name _ _ => true
  | _ => false
def isTup (v : Expr) : Bool := match v with
  | .Tuple _ _ _ => true
  | _ => false
def ncall (v : Expr) : Bool := match v with
  | .Call _ _ _ _ => false
  | _ => true
/-- no call without arguments -/
def ncall0 (v : Expr) : Bool := match v with
  | .Call _ [] _ _ => false
  | _ => true
/-- the truth of the value is the test -/
def plT (v : Expr) : Bool := match v with
  | .UnaryOp .Not _ _ => false
  | .BoolOp _ _ _ => false
  | .IfExp _ _ _ _ => false
  | .Compare _ _ _ _ => false
  | _ => true
def blkCc (scope : Scope) : Cc := { c with sc := relS scope c.sc, cells := (scope.names.map (·.1)).filter fun x => scope.names.lookup x == some .cell }
def ownOf (vs : List Nat) : List (Str × Nat) := vs.filterMap fun i => c.N[i]?.map fun x => (x, i)
end
mutual
def ckE (c : Cc) : E → Expr → Bool
  | .k k => fun x => k.ck x
  | .v i => fun x => match x with
    | .Name n _ => ckv c i n
    | _ => false
  | .mv i => fun x => match x with
    | .Name n _ => ckv c i n
    | _ => false
  | .gv j => fun x => match x with
    | .Name n _ => ckg c n && decide (c.gv.lookup j = some n)
    | _ => false
  | .ty t => fun x => match x with
    | .Name n _ => ckg c n && decide (n = t.nm)
    | _ => false
  | .bop o a b => fun x => match x with
    | .BinOp l op r _ => decide (o.op = op) && ckE c a l && ckE c b r
    | _ => false
  | .neg a => fun x => match x with
    | .UnaryOp .USub y _ => ckE c a y
    | _ => false
  | .cmp o a b => fun x => match x with
    | .Compare l [op] [r] _ => decide (o.op = op) && ckE c a l && ckE c b r && nset r
    | _ => false
  | .cmp2 o o' a b d => fun x => match x with
    | .Compare l [op, op'] [r, r'] _ => decide (o.op = op) && decide (o'.op = op') && ckE c a l && ckE c b r && ckE c d r' && nset r && nset r'
    | _ => false
  | .no a => fun x => match x with
    | .UnaryOp .Not y _ => ckE c a y
    | _ => false
  | .and a b => fun x => match x with
    | .BoolOp .And (y :: z :: rest) pos => ckE c a y && (match rest with
      | [] => ckE c b z
      | _ => ckE c b (.BoolOp .And (z :: rest) pos))
    | _ => false
  | .or a b => fun x => match x with
    | .BoolOp .Or (y :: z :: rest) pos => ckE c a y && (match rest with
      | [] => ckE c b z
      | _ => ckE c b (.BoolOp .Or (z :: rest) pos))
    | _ => false
  | .ite t a b => fun x => match x with
    | .IfExp y z w _ => ckT c t y && ckE c a z && ckE c b w
    | _ => false
  | .tup es => fun x => match x with
    | .Tuple ys _ _ => ckEs c es ys
    | _ => false
  | .lst es => fun x => match x with
    | .List ys _ => ckEs c es ys
    | _ => false
  | .ix a b => fun x => match x with
    | .Subscript y z _ => ckE c a y && ckE c b z && nsl z
    | _ => false
  | .ixb i b => fun x => match x with
    | .Subscript (.Name n _) z _ => ckv c i n && ckE c b z && nsl z
    | _ => false
  | .sl a lo hi => fun x => match x with
    | .Subscript y (.Slice l h none _) _ => ckE c a y && ckO c lo l && ckO c hi h
    | _ => false
  | .bi b es => fun x => match x with
    | .Call (.Name n _) (y :: ys) [] _ => decide (n = b.nm) && ckg c n && ckEs c es (y :: ys) && (y :: ys).all ns
    | _ => false
  | .sset a => fun x => match x with
    | .Call (.Name n _) [.Call (.Name m _) [y] [] _] [] _ => decide (n = "sorted") && decide (m = "set") && ckg c n && ckg c m && ckE c a y && ns y
    | _ => false
  | .count a b => fun x => match x with
    | .Call (.Attribute y m ap) [z] [] cp => decide (m = "count") && ckE c a y && ckE c b z && ncall y && ns z && (ap.endLine == cp.line)
    | _ => false
  | .dsp r => fun x => match x with
    | .Dict (k :: ks) vs _ => ckPairs r (k :: ks) vs && decide ((k :: ks).length ≤ 15)
    | _ => false
  | .dsp0 => fun x => match x with
    | .Dict [] [] _ => true
    | _ => false
  | .lenb i => fun x => match x with
    | .Call (.Name n _) [.Name m _] [] _ => decide (n = "len") && ckg c n && ckv c i m
    | _ => false
  | .call f pm es => fun x => match x with
    | .Call (.Name n _) ys [] _ => ckg c n && ckAs c es ys && ys.all ns && (match c.fs.lookup f with
      | some (m, _, sh) => decide (n = m) && decide ((ys.length, [], pm) ∈ sh) && (!ys.isEmpty || pm.isEmpty)
      | none => false)
    | _ => false
  | .callk f pm es ks => fun x => match x with
    | .Call (.Name n _) ys kws _ => ckg c n && ckEs c es ys && ys.all ns && ckKs c ks kws && kws.all kwn && (match c.fs.lookup f with
      | some (m, _, sh) => decide (n = m) && decide ((ys.length, kws.filterMap (·.arg), pm) ∈ sh)
      | none => false)
    | _ => false
  | .comp a t it oc vs => fun x => match x with
    | .ListComp elt [g] scope _ => decide (g.is_async = 0) && blkC c.N c.sc scope (ownOf c vs) && decide ((ownOf c vs).map (·.2) = vs) && ckI c it g.target g.iter && nset g.iter && ckC (blkCc c scope) vs t g.target && ckOc (blkCc c scope) oc g.ifs && ckE (blkCc c scope) a elt
    | _ => false
  | .app i a => fun x => match x with
    | .Call (.Attribute (.Name n _) m ap) [z] [] cp => decide (m = "append") && ckv c i n && ckE c a z && ns z && (ap.endLine == cp.line)
    | _ => false
  | .fz a => fun x => ckE c a x
  | .never => fun _ => true
  | .at k f a => fun x => match x with
    | .Attribute y n _ => decide (n = f) && ckc c k f && ckE c a y && ncall0 y
    | _ => false
  | .atb k f i => fun x => match x with
    | .Attribute (.Name m _) n _ => decide (n = f) && ckc c k f && ckv c i m
    | _ => false
  | .new f k pm es => fun x => match x with
    | .Call (.Name n _) (y :: ys) [] _ => decide (n = k) && ckg c n && ckEs c es (y :: ys) && (y :: ys).all ns && ckm c f k "__init__" .init ((y :: ys).length + 1, [], 0 :: pm.map (· + 1))
    | _ => false
  | .meth f k m pm a es => fun x => match x with
    | .Call (.Attribute y n ap) ys [] pos => decide (n = m) && ckE c a y && ckAs c es ys && ys.all ns && (ncall y && (ap.endLine == pos.line) && decide (ys.length < 28)) && ckm c f k m .meth (ys.length + 1, [], pm) && (!ys.isEmpty || decide (pm = [0]))
    | _ => false
  | .prop f k m a => fun x => match x with
    | .Attribute y n _ => decide (n = m) && ckE c a y && ncall0 y && ckm c f k m .prop (1, [], [0])
    | _ => false
  | .lenO f k a => fun x => match x with
    | .Call (.Name n _) [y] [] _ => decide (n = "len") && ckg c n && ckE c a y && ns y && ckm c f k "__len__" .len (1, [], [0])
    | _ => false
  | .strO f k a => fun x => match x with
    | .Call (.Name n _) [y] [] _ => decide (n = "str") && ckg c n && ckE c a y && ns y && ckm c f k "__str__" .str (1, [], [0])
    | _ => false
  | .isC k a => fun x => match x with
    | .Call (.Name n _) [y, .Name m _] [] _ => decide (n = "isinstance") && ckg c n && ckE c a y && ns y && decide (m = k) && ckg c m && ckc c k isMark
    | _ => false
  | .lock i a => fun x => ckE c a x
  | .get2 i a b => fun x => match x with
    | .Call (.Attribute (.Name n _) m ap) [y, z] [] cp => decide (m = "get") && ckv c i n && ckE c a y && ckE c b z && ns y && ns z && (ap.endLine == cp.line)
    | _ => false
  | .join a b => fun x => match x with
    | .Call (.Attribute y m ap) [z] [] cp => decide (m = "join") && ckE c a y && ckE c b z && ncall y && ns z && (ap.endLine == cp.line)
    | _ => false
  | .split a b => fun x => match x with
    | .Call (.Attribute y m ap) [z] [] cp => decide (m = "split") && ckE c a y && ckE c b z && ncall y && ns z && (ap.endLine == cp.line)
    | _ => false
def ckT (c : Cc) : T → Expr → Bool
  | .tr a => fun x => ckE c a x && plT x
  | .cmp o a b => fun x => match x with
    | .Compare l [op] [r] _ => decide (o.op = op) && ckE c a l && ckE c b r && nset r
    | _ => false
  | .cmp2 o o' a b d => fun x => match x with
    | .Compare l [op, op'] [r, r'] _ => decide (o.op = op) && decide (o'.op = op') && ckE c a l && ckE c b r && ckE c d r' && nset r && nset r'
    | _ => false
  | .no a => fun x => match x with
    | .UnaryOp .Not y _ => ckT c a y
    | _ => false
  | .and a b => fun x => match x with
    | .BoolOp .And (y :: z :: rest) pos => ckT c a y && (match rest with
      | [] => ckT c b z
      | _ => ckT c b (.BoolOp .And (z :: rest) pos))
    | _ => false
  | .or a b => fun x => match x with
    | .BoolOp .Or (y :: z :: rest) pos => ckT c a y && (match rest with
      | [] => ckT c b z
      | _ => ckT c b (.BoolOp .Or (z :: rest) pos))
    | _ => false
def ckEs (c : Cc) : Es → List Expr → Bool
  | .nil => fun xs => xs.isEmpty
  | .cons a r => fun xs => match xs with
    | x :: xs => ckE c a x && ns x && ckEs c r xs
    | [] => false
  | .star a r => fun xs => match xs with
    | .Starred x _ :: xs => ckE c a x && ckEs c r xs
    | _ => false
def ckAs (c : Cc) : As → List Expr → Bool
  | .nil => fun xs => xs.isEmpty
  | .v a r => fun xs => match xs with
    | x :: xs => ckE c a x && ns x && ckAs c r xs
    | [] => false
  | .ln i r => fun xs => match xs with
    | .Name n _ :: xs => ckv c i n && ckAs c r xs
    | _ => false
def ckKs (c : Cc) : Ks → List Keyword → Bool
  | .nil => fun xs => xs.isEmpty
  | .cons n a r => fun xs => match xs with
    | k :: xs => ckE c a k.value && ckKs c r xs
    | [] => false
def ckO (c : Cc) : Oe → Option Expr → Bool
  | .no => fun x => x.isNone
  | .some a => fun x => match x with
    | some y => ckE c a y
    | none => false
def ckI (c : Cc) : It → Expr → Expr → Bool
  | .seq a => fun _ x => ckE c a x
  | .rng1 a => fun _ x => match x with
    | .Call (.Name n _) [y] [] _ => decide (n = "range") && ckg c n && ckE c a y && ns y
    | _ => false
  | .rng2 a b => fun _ x => match x with
    | .Call (.Name n _) [y, z] [] _ => decide (n = "range") && ckg c n && ckE c a y && ns y && ckE c b z && ns z
    | _ => false
  | .enum a => fun t x => match x with
    | .Call (.Name n _) [y] [] _ => decide (n = "enumerate") && ckg c n && ckE c a y && ns y && isTup t
    | _ => false
  | .zip2 a b => fun t x => match x with
    | .Call (.Name n _) [y, z] [] _ => decide (n = "zip") && ckg c n && ckE c a y && ns y && ckE c b z && ns z && isTup t
    | _ => false
def ckOc (c : Cc) : Oc → List Expr → Bool
  | .no => fun xs => xs.isEmpty
  | .yes t => fun xs => match xs with
    | [x] => ckT c t x
    | _ => false
def ckC (c : Cc) (vs : List Nat) : Tg → Expr → Bool
  | .n i => fun x => match x with
    | .Name n _ => ckt c i n && decide (i ∈ vs)
    | _ => false
  | .t ts => fun x => match x with
    | .Tuple es _ _ => ckCs c vs ts es && es.all nst && decide (ts.len = es.length)
    | _ => false
  | .sub _ _ => fun _ => false
def ckCs (c : Cc) (vs : List Nat) : Tgs → List Expr → Bool
  | .nil => fun xs => xs.isEmpty
  | .cons t r => fun xs => match xs with
    | x :: xs => ckC c vs t x && nst x && ckCs c vs r xs
    | [] => false
end
mutual
def ckG (c : Cc) : Tg → Expr → Bool
  | .n i => fun x => match x with
    | .Name n _ => ckt c i n
    | _ => false
  | .t ts => fun x => match x with
    | .Tuple es _ _ => ckGs c ts es && es.all nst && decide (ts.len = es.length)
    | _ => false
  | .sub i b => fun x => match x with
    | .Subscript (.Name n _) z _ => ckv c i n && ckE c b z && nsl z
    | _ => false
def ckGs (c : Cc) : Tgs → List Expr → Bool
  | .nil => fun xs => xs.isEmpty
  | .cons t r => fun xs => match xs with
    | x :: xs => ckG c t x && nst x && ckGs c r xs
    | [] => false
end
/-- a tuple on the left and one on the right, otherwise stored -/
def nloc (sc : Scope) (x : Expr) : Bool := match x with
  | .Name n _ => !decide (sc.names.lookup n = some .local)
  | _ => true
def swn (sc : Scope) (t v : Expr) : Bool := match t, v with
  | .Tuple ts _ _, .Tuple _ _ _ => ts.any (nloc sc)
  | .List _ _, .Tuple _ _ _ => false
  | _, _ => true
mutual
def ckS (c : Cc) : S → Stmt → Bool
  | .pass => fun x => match x with
    | .Pass _ => true
    | _ => false
  | .brk => fun x => match x with
    | .Break _ => true
    | _ => false
  | .cnt => fun x => match x with
    | .Continue _ => true
    | _ => false
  | .doc => fun x => match x with
    | .Expr (.Constant (.str _) _ _) _ => true
    | _ => false
  | .ex a => fun x => match x with
    | .Expr v _ => ckE c a v && nco v
    | _ => false
  | .ret a => fun x => match x with
    | .Return (some v) _ => ckE c a v
    | _ => false
  | .ret0 => fun x => match x with
    | .Return none _ => true
    | _ => false
  | .set i a => fun x => match x with
    | .Assign [.Name n p] v _ => ckt c i n && ckE c a v && (nco v || (match a, v with
      | .comp _ _ _ _ _, .ListComp _ _ s q => ckl c i n && (p.line == q.line) && !(s.names.any fun (m, k) => m == n && (k == .local || k == .cell)) && decide (c.sc.kind = .function)
      | _, _ => false))
    | _ => false
  | .asg t a => fun x => match x with
    | .Assign [g] v _ => ckG c t g && ckE c a v && nst g && nco v && swn c.sc g v
    | _ => false
  | .par is es => fun x => match x, is with
    | .Assign [.Tuple [.Name m p, .Name n q] _ _] (.Tuple [y, z] _ _) _, [i, j] => ckl c i m && ckl c j n && decide (i ≠ j) && ckAs c es [y, z] && decide (c.sc.kind = .function) && (p.line == q.line) && ns y && ns z && decide (m ≠ n) && !(foldedForSure 8 y && foldedForSure 8 z) && !(constantsAlone 8 y && constantsAlone 8 z)
    | .Assign [.Tuple [.Name m p, .Name n q, .Name o r] _ _] (.Tuple [y, z, w] _ _) _, [i, j, l] => ckl c i m && ckl c j n && ckl c l o && decide (i ≠ j) && decide (i ≠ l) && decide (j ≠ l) && ckAs c es [y, z, w] && decide (c.sc.kind = .function) && (p.line == q.line) && (p.line == r.line) && ns y && ns z && ns w && decide (m ≠ n) && decide (m ≠ o) && decide (n ≠ o)
        && !(foldedForSure 8 y && foldedForSure 8 z && foldedForSure 8 w) && !(constantsAlone 8 y && constantsAlone 8 z && constantsAlone 8 w)
    | _, _ => false
  | .aug o i a => fun x => match x with
    | .AugAssign (.Name n _) op v _ => decide (o.op = op) && ckt c i n && ckE c a v
    | _ => false
  | .iff t a b => fun x => match x with
    | .If y p q _ => ckT c t y && ckSs c a p && ckSs c b q
    | _ => false
  | .whl t b => fun x => match x with
    | .While y p [] _ => ckT c t y && ckSs c b p
    | _ => false
  | .fr t it b => fun x => match x with
    | .For g y p [] _ => ckG c t g && ckI c it g y && nset y && ckSs c b p
    | _ => false
  | .never => fun _ => true
  | .sat i k f a => fun x => match x with
    | .Assign [.Attribute (.Name n _) m _] v _ => decide (m = f) && ckc c k f && ckv c i n && ckE c a v && nco v
    | _ => false
def ckSs (c : Cc) : Ss → List Stmt → Bool
  | .nil => fun xs => xs.isEmpty
  | .cons s r => fun xs => match xs with
    | x :: xs => ckS c s x && ckSs c r xs
    | [] => false
end
end M

set_option Elab.async false
set_option linter.all false
set_option maxRecDepth 100000
set_option maxHeartbeats 8000000
/-! M20: soundness of the look. -/
namespace M
open PySem PySem.Spec PyProof.Rows L2
section
variable {Φ : Nat → Env → Res Val} {Γ : List D} {X : Cx} {W : WX} {c : Cc}
theorem nok_of {x : Str} (h : nok x = true) : (x == ("__debug__" : Str)) = false ∧ (x == ("__classdict__" : Str)) = false ∧ x ≠ "__name__" := by
  simpa [nok, and_assoc] using h
theorem ckv_of (g : Gd Φ Γ X W c) {i : Nat} {x : Str} (h : ckv c i x = true) : X.N[i]? = some x ∧ Vis X.env.scope x ∧ (x == ("__debug__" : Str)) = false ∧ (x == ("__classdict__" : Str)) = false := by
  unfold ckv at h
  simp only [Bool.and_eq_true, decide_eq_true_eq] at h
  obtain ⟨⟨h1, h2⟩, h3⟩ := h
  obtain ⟨n1, n2, _⟩ := nok_of h3
  refine ⟨by rw [g.N]; exact h1, ?_, n1, n2⟩
  rw [g.sc]
  split at h2 <;> first | exact .inl (by assumption) | exact .inr (.inl (by assumption)) | exact .inr (.inr (by assumption)) | cases h2
theorem ckt_of (g : Gd Φ Γ X W c) {i : Nat} {x : Str} (h : ckt c i x = true) : X.N[i]? = some x ∧ Loc X.env.scope x ∧ (X.fn x = true ∨ X.env.scope.names.lookup x = some .local) := by
  unfold ckt at h
  simp only [Bool.and_eq_true, decide_eq_true_eq] at h
  obtain ⟨h1, h2⟩ := h
  rw [g.N, g.sc]
  split at h2
  · rename_i e; exact ⟨h1, .inl e, .inr e⟩
  · rename_i e; exact ⟨h1, .inr e, .inl (g.cel x (of_decide_eq_true h2))⟩
  · cases h2
theorem ckl_of (g : Gd Φ Γ X W c) {i : Nat} {x : Str} (h : ckl c i x = true) : X.N[i]? = some x ∧ X.env.scope.names.lookup x = some .local := by
  unfold ckl at h
  simp only [Bool.and_eq_true, decide_eq_true_eq] at h
  rw [g.N, g.sc]
  exact h
theorem ckg_of (g : Gd Φ Γ X W c) {x : Str} (h : ckg c x = true) : Gl X x ∧ (x == ("__debug__" : Str)) = false ∧ x ≠ "__name__" := by
  unfold ckg at h
  simp only [Bool.and_eq_true, decide_eq_true_eq] at h
  obtain ⟨n1, _, n3⟩ := nok_of h.2
  refine ⟨?_, n1, n3⟩
  show X.env.scope.names.lookup x = _
  rw [g.sc]; exact h.1
theorem beh_of {op : CmpOp} {v : Expr} (h : nset v = true) : behindInMarks op v = false := by
  cases v <;> first | rfl | cases h
theorem fold_of {v : Expr} {env : PySem.Env} (h : nset v = true) : ∀ x, foldedSetIterable v env x = pure x := fun x => by
  cases v <;> first | rfl | cases h
theorem plT_of {v : Expr} {env : PySem.Env} (h : plT v = true) : ∀ whole, isTrue v env whole = (do let v' ← whole; standAt v.pos; holding [v'] (truthy v')) := fun whole => by
  cases v with
  | UnaryOp op _ _ => cases op <;> first | rfl | cases h
  | BoolOp _ _ _ => cases h
  | IfExp _ _ _ _ => cases h
  | Compare _ _ _ _ => cases h
  | _ => rfl
theorem nco_of {v : Expr} {t : Option Expr} {l : Nat} {env : PySem.Env} (h : nco v = true) : swapsWith v t l env = pure false := by
  cases v <;> first | rfl | cases h
theorem pe_thaw {a : Expr} {f : Env → Res D} (h : PE X a (rP X W f)) : PE X a (rE X W fun e => (f e).bind fun d e1 => .ok (.p d) e1) := by
  refine pe_imp h ?_
  rintro σ H Q ⟨U, L, lent, e, rel, p⟩
  exact rd_of rel p fun v L1 H1 x e1 s1 rel1 rx p1 => fin0 rel1 p1 rx
/-- within a comprehension's block -/
theorem Gd.blk (g : Gd Φ Γ X W c) {s : Shared} {H : Hp} {scope : Scope} {C : Addr} {cl : List (Str × Addr)} {fp : List Addr} : Gd Φ Γ (X.blk s H scope (compEnvC scope cl C X.env) fp) W0 (blkCc c scope) where
  calm := g.calm
  N := g.N
  nd := g.nd
  sc := by
    show relabel scope X.env = relS scope c.sc
    rw [← g.sc]; rfl
  cel := fun x hx => by
    have := (List.mem_filter.mp hx).2
    exact this
  tk := takes0
  hp := PassesOwn.never
  gd := g.gd
  hu := g.hu
  blt := g.blt
  cal := fun f x n sh h => ⟨(g.cal f x n sh h).ex⟩
  gvl := g.gvl
  cls := fun x as h => ⟨⟨(g.cls x as h).1.ex⟩, fun z => ⟨((g.cls x as h).2 z).ex⟩⟩
  mth := fun f x m kd n sh h => ⟨(g.mth f x m kd n sh h).ex⟩
theorem bi_ok (g : Gd Φ Γ X W c) (b : Bi) : (CallOk X (.builtin (match b with | .abs => "abs" | .len => "len" | .divmod => "divmod" | .max => "max" | .min => "min" | .sorted => "sorted" | .all => "all" | .any => "any" | .sum => "sum" | .repr => "repr" | .isi => "isinstance" | _ => "")) b.sem ∧ bootBuiltins b.nm = some (.builtin (match b with | .abs => "abs" | .len => "len" | .divmod => "divmod" | .max => "max" | .min => "min" | .sorted => "sorted" | .all => "all" | .any => "any" | .sum => "sum" | .repr => "repr" | .isi => "isinstance" | _ => ""))) ∨
    ∃ T, CallOk X (.type T) b.sem ∧ bootBuiltins b.nm = some (.type T) := by
  have hu : X.A.units + 64 < cLine := by have := g.hu; omega
  cases b with
  | abs => exact .inl ⟨ok_abs, by decide +kernel⟩
  | int => exact .inr ⟨"int", ok_int.or ok_intT, by decide +kernel⟩
  | len => exact .inl ⟨ok_len.or ok_lenD, by decide +kernel⟩
  | divmod => exact .inl ⟨ok_divmod, by decide +kernel⟩
  | max => exact .inl ⟨(ok_max2 g.calm).or (ok_maxL g.calm), by decide +kernel⟩
  | min => exact .inl ⟨(ok_min2 g.calm).or (ok_minL g.calm), by decide +kernel⟩
  | sorted => exact .inl ⟨ok_sort.or (ok_sortD g.calm), by decide +kernel⟩
  | list => exact .inr ⟨"list", ok_list, by decide +kernel⟩
  | tuple => exact .inr ⟨"tuple", ok_tuple, by decide +kernel⟩
  | all => exact .inl ⟨ok_all g.calm, by decide +kernel⟩
  | any => exact .inl ⟨ok_any g.calm, by decide +kernel⟩
  | sum => exact .inl ⟨ok_sum g.calm, by decide +kernel⟩
  | repr => exact .inl ⟨ok_repr g.gd hu, by decide +kernel⟩
  | isi => exact .inl ⟨ok_isi, by decide +kernel⟩
  | str => exact .inr ⟨"str", ok_str.or ok_strT, by decide +kernel⟩
theorem bi_none (g : Gd Φ Γ X W c) (b : Bi) : X.mg b.nm = none := g.blt _ (by cases b <;> decide +kernel)
theorem ty_pe (g : Gd Φ Γ X W c) (t : Ty) {p : Pos} (hg : Gl X t.nm) : PE X (.Name t.nm p) (tC (.ty t.nm)) := by
  refine pe_bltn (u := .type t.nm) hg (g.blt _ (by cases t <;> decide +kernel)) (by cases t <;> decide +kernel) rfl (by cases t <;> decide +kernel) (by cases t <;> decide +kernel)
theorem Es.len_of {c : Cc} : ∀ {es : Es} {xs : List Expr}, ckEs c es xs = true → es.len = xs.length
  | .nil, [], _ => rfl
  | .nil, _ :: _, h => by cases h
  | .cons a r, [], h => by cases h
  | .cons a r, x :: xs, h => by
    simp only [ckEs, Bool.and_eq_true] at h
    rw [Es.len, Es.len_of h.2, List.length_cons]
  | .star a r, [], h => by cases h
  | .star a r, x :: xs, h => by
    simp only [ckEs] at h
    split at h
    · rename_i e
      cases e
      simp only [Bool.and_eq_true] at h
      rw [Es.len, Es.len_of h.2, List.length_cons]
    · cases h
theorem As.len_of {c : Cc} : ∀ {es : As} {xs : List Expr}, ckAs c es xs = true → es.len = xs.length
  | .nil, [], _ => rfl
  | .nil, _ :: _, h => by cases h
  | .v a r, [], h => by cases h
  | .v a r, x :: xs, h => by
    simp only [ckAs, Bool.and_eq_true] at h
    rw [As.len, As.len_of h.2, List.length_cons]
  | .ln a r, [], h => by cases h
  | .ln a r, x :: xs, h => by
    simp only [ckAs] at h
    split at h
    · rename_i e
      cases e
      simp only [Bool.and_eq_true] at h
      rw [As.len, As.len_of h.2, List.length_cons]
    · cases h
theorem Ks.len_of {c : Cc} : ∀ {es : Ks} {xs : List Keyword}, ckKs c es xs = true → es.len = xs.length
  | .nil, [], _ => rfl
  | .nil, _ :: _, h => by cases h
  | .cons x a r, [], h => by cases h
  | .cons x a r, y :: xs, h => by
    simp only [ckKs, Bool.and_eq_true] at h
    rw [Ks.len, Ks.len_of h.2, List.length_cons]
theorem kws_len : ∀ {kws : List Keyword}, kws.all kwn = true → (kws.filterMap (·.arg)).length = kws.length
  | [], _ => rfl
  | ⟨none, _, _⟩ :: kws, h => by rw [List.all_cons] at h; cases h
  | ⟨some n, a, q⟩ :: kws, h => by
    rw [List.all_cons, Bool.and_eq_true] at h
    rw [List.filterMap_cons]
    simp only [List.length_cons, kws_len h.2]
theorem ckm_of (g : Gd Φ Γ X W c) {f : Nat} {x m : Str} {kd : MK} {q : Nat × List Str × List Nat} (h : ckm c f x m kd q = true) : ∃ n sh, CalM X x m kd n (Φ f) sh ∧ q ∈ sh := by
  unfold ckm at h
  split at h
  · rename_i x' m' kd' n sh hq
    simp only [Bool.and_eq_true, decide_eq_true_eq] at h
    obtain ⟨⟨⟨rfl, rfl⟩, rfl⟩, h4⟩ := h
    exact ⟨n, sh, g.mth f _ _ _ n sh hq, h4⟩
  · cases h
theorem ckc_of (g : Gd Φ Γ X W c) {x f : Str} (h : ckc c x f = true) : ∃ as, ClsOk X x as ∧ f ∈ as ∧ (isMark ∈ as → IsC X x) := by
  unfold ckc at h
  split at h
  · rename_i as hq
    exact ⟨as, (g.cls x as hq).1, of_decide_eq_true h, (g.cls x as hq).2⟩
  · cases h
/-- a test; of and, or, whatever stands around -/
def PX (X : Cx) (x : Expr) (t : TT) : Prop := PT X x t ∧ ((match x with | .BoolOp _ _ _ => true | _ => false) = true → PW X x t)
end
end M

set_option Elab.async false
set_option linter.all false
set_option maxRecDepth 100000
set_option maxHeartbeats 16000000
/-! M21: soundness: expressions. -/
namespace M
open PySem PySem.Spec PyProof.Rows L2
variable {Φ : Nat → Env → Res Val} {Γ : List D}
theorem pe_fail {X : Cx} {W : WX} {x : Expr} : PE X x (rE X W fun _ => .fail) := ⟨fun _ _ _ _ _ _ ⟨_, _, _, _, _, q⟩ => q.elim⟩
theorem ck_cons {c : Cc} {a : E} {r : Es} {x : Expr} {xs : List Expr} (h : ckEs c (.cons a r) (x :: xs) = true) : ckE c a x = true ∧ ns x = true ∧ ckEs c r xs = true := by
  simp only [ckEs, Bool.and_eq_true] at h
  exact ⟨h.1.1, h.1.2, h.2⟩
theorem star_all {pos : Pos} {env : PySem.Env} : ∀ {es : List Expr}, es.all ns = true → (backTo pos (starEach es env)).all (fun x => !x.1) = true
  | [], _ => rfl
  | e :: es, h => by
    rw [List.all_cons, Bool.and_eq_true] at h
    rw [star_ns h.1]
    show (true && (backTo pos (starEach es env)).all (fun x => !x.1)) = true
    rw [star_all h.2]; rfl
/-- the tree of a method's call on one line -/
theorem att_base0 {o : Expr} {attr : Str} {env : PySem.Env} {w : Sem Value} (h : ncall0 o = true) : attributeBase o attr env w = w := by
  cases o with
  | Call f args kws p =>
    cases args with
    | nil => cases h
    | cons a as => cases f <;> rfl
  | _ => rfl
theorem meth_tree {env : PySem.Env} {o : Expr} {m : Str} {apos pos : Pos} {args : List Expr} (hb : (match o with | .Call _ _ _ _ => false | _ => true) = true) (ha : args.all ns = true) (hn : args.length < 28) (hline : (apos.endLine == pos.line) = true) :
    eval (.Call (.Attribute o m apos) args [] pos) env = (do
      let ov ← eval o env
      standAt apos.atName
      let (f, first) ← holding [ov] (getMethod ov m (do return (← importBound o env).getD true))
      callWith pos f first (backTo pos (starEach args env)) (backToKw pos (keywordEach [] env))) := by
  have hf : methodCallForm (args.length + ([] : List Keyword).length) (backTo pos (starEach args env)) (backToKw pos (keywordEach [] env)) = true := by
    unfold methodCallForm
    rw [star_all ha]
    show (true && true && decide (args.length + 0 + 0 < 30)) = true
    rw [decide_eq_true (show args.length + 0 + 0 < 30 by omega)]; rfl
  have h1 : eval (.Call (.Attribute o m apos) args [] pos) env = (do
      let ov ← attributeBase o m env (eval o env)
      standAt apos.atName
      methodCall o m apos pos env ov (args.length + ([] : List Keyword).length) (backTo pos (starEach args env)) (backToKw pos (keywordEach [] env))) := by rw [eval]
  rw [h1, att_base hb]
  unfold methodCall calleeOf methodCallPos
  rw [hf]
  simp only [if_true, Bool.not_true, hline, Bool.or_true]
  rfl
mutual
theorem sE : ∀ (a : E) {X : Cx} {W : WX} {c : Cc} (g : Gd Φ Γ X W c) {x : Expr}, ckE c a x = true → PE X x (rE X W (a.ev Φ Γ))
  | .k k, X, W, c, g, x, h => pe_k (KD.pe h) fun L H => k.rp
  | .v i, X, W, c, g, x, h => by
    simp only [ckE] at h
    split at h
    · obtain ⟨h1, h2, h3, h4⟩ := ckv_of g h
      exact pe_getv h1 h2 h3 h4
    · cases h
  | .mv i, X, W, c, g, x, h => by
    simp only [ckE] at h
    split at h
    · obtain ⟨h1, h2, h3, h4⟩ := ckv_of g h
      exact pe_mvv h1 h2 h3 h4
    · cases h
  | .gv j, X, W, c, g, x, h => by
    simp only [ckE] at h
    split at h
    · rename_i n p
      simp only [Bool.and_eq_true, decide_eq_true_eq] at h
      obtain ⟨h1, h2, _⟩ := ckg_of g h.1
      simp only [E.ev]
      cases hd : Γ[j]? with
      | none => exact pe_fail
      | some d =>
        obtain ⟨u, v, h3, h4, h5⟩ := g.gvl j n d h.2 hd
        exact pe_k (pe_glob h1 h3 h4 h2) h5
    · cases h
  | .ty t, X, W, c, g, x, h => by
    simp only [ckE] at h
    split at h
    · rename_i n p
      simp only [Bool.and_eq_true, decide_eq_true_eq] at h
      obtain ⟨h1, h2⟩ := h
      subst h2
      exact pe_k (ty_pe g t (ckg_of g h1).1) fun _ _ => rfl
    · cases h
  | .bop o a b, X, W, c, g, x, h => by
    simp only [ckE] at h
    split at h
    · simp only [Bool.and_eq_true, decide_eq_true_eq] at h
      obtain ⟨⟨h1, h2⟩, h3⟩ := h
      subst h1
      exact pe_bop o (pe_frz (sE a g h2)) (pe_frz (sE b g h3))
    · cases h
  | .neg a, X, W, c, g, x, h => by
    simp only [ckE] at h
    split at h
    · exact pe_neg (pe_frz (sE a g h))
    · cases h
  | .cmp o a b, X, W, c, g, x, h => by
    simp only [ckE] at h
    split at h
    · simp only [Bool.and_eq_true, decide_eq_true_eq] at h
      obtain ⟨⟨⟨h1, h2⟩, h3⟩, h4⟩ := h
      subst h1
      exact pe_cop g.hu o (pe_frz (sE a g h2)) (pe_frz (sE b g h3)) (beh_of h4)
    · cases h
  | .cmp2 o o' a b d, X, W, c, g, x, h => by
    simp only [ckE] at h
    split at h
    · simp only [Bool.and_eq_true, decide_eq_true_eq] at h
      obtain ⟨⟨⟨⟨⟨⟨h1, h2⟩, h3⟩, h4⟩, h5⟩, h6⟩, h7⟩ := h
      subst h1 h2
      exact pe_cop2 g.hu o o' (pe_frz (sE a g h3)) (pe_frz (sE b g h4)) (pe_frz (sE d g h5)) (beh_of h7)
    · cases h
  | .no a, X, W, c, g, x, h => by
    simp only [ckE] at h
    split at h
    · exact pe_notM (pe_frz (sE a g h))
    · cases h
  | .and a b, X, W, c, g, x, h => by
    simp only [ckE] at h
    split at h
    · rename_i y z rest pos
      simp only [Bool.and_eq_true] at h
      obtain ⟨h1, h2⟩ := h
      refine pe_thaw (pe_andM (pe_frz (sE a g h1)) ?_)
      cases rest with
      | nil => exact pe_one (pe_frz (sE b g h2))
      | cons w rest => exact pe_frz (sE b g h2)
    · cases h
  | .or a b, X, W, c, g, x, h => by
    simp only [ckE] at h
    split at h
    · rename_i y z rest pos
      simp only [Bool.and_eq_true] at h
      obtain ⟨h1, h2⟩ := h
      refine pe_thaw (pe_orM (pe_frz (sE a g h1)) ?_)
      cases rest with
      | nil => exact pe_one (pe_frz (sE b g h2))
      | cons w rest => exact pe_frz (sE b g h2)
    · cases h
  | .ite t a b, X, W, c, g, x, h => by
    simp only [ckE] at h
    split at h
    · simp only [Bool.and_eq_true] at h
      obtain ⟨⟨h1, h2⟩, h3⟩ := h
      exact pe_iteM (sT t g h1).1 (sE a g h2) (sE b g h3)
    · cases h
  | .tup es, X, W, c, g, x, h => by
    simp only [ckE] at h
    split at h
    · exact pe_tupM (sEs es g h)
    · cases h
  | .lst es, X, W, c, g, x, h => by
    simp only [ckE] at h
    split at h
    · exact pe_lstM (sEs es g h)
    · cases h
  | .ix a b, X, W, c, g, x, h => by
    simp only [ckE] at h
    split at h
    · simp only [Bool.and_eq_true] at h
      obtain ⟨⟨h1, h2⟩, h3⟩ := h
      exact pe_idx (by have := g.hu; omega) (pe_frz (sE a g h1)) (pe_frz (sE b g h2)) h3
    · cases h
  | .ixb i b, X, W, c, g, x, h => by
    simp only [ckE] at h
    split at h
    · simp only [Bool.and_eq_true] at h
      obtain ⟨⟨h1, h2⟩, h3⟩ := h
      obtain ⟨v1, v2, v3, v4⟩ := ckv_of g h1
      exact pe_idxb (by have := g.hu; omega) v1 v2 v3 v4 (pe_frz (sE b g h2)) h3
    · cases h
  | .sl a lo hi, X, W, c, g, x, h => by
    simp only [ckE] at h
    split at h
    · simp only [Bool.and_eq_true] at h
      obtain ⟨⟨h1, h2⟩, h3⟩ := h
      exact pe_sliceM (pe_frz (sE a g h1)) (sO lo g h2) (sO hi g h3)
    · cases h
  | .bi b es, X, W, c, g, x, h => by
    simp only [ckE] at h
    split at h
    · rename_i n p y ys pos
      simp only [Bool.and_eq_true, decide_eq_true_eq] at h
      obtain ⟨⟨⟨h1, h2⟩, h3⟩, h4⟩ := h
      obtain ⟨g1, g2, g3⟩ := ckg_of g h2
      subst h1
      have ha := sEs es g h3
      rcases bi_ok g b with ⟨k1, k2⟩ | ⟨T, k1, k2⟩
      · exact pe_bi k1 g1 (bi_none g b) k2 ha (by simpa using h4) g3 g2
      · exact pe_bty k1 g1 (bi_none g b) k2 ha (by simpa using h4) g3 g2
    · cases h
  | .sset a, X, W, c, g, x, h => by
    simp only [ckE] at h
    split at h
    · simp only [Bool.and_eq_true, decide_eq_true_eq] at h
      obtain ⟨⟨⟨⟨⟨h1, h2⟩, h3⟩, h4⟩, h5⟩, h6⟩ := h
      subst h1 h2
      exact pe_srtSet g.calm (ckg_of g h3).1 (g.blt _ (by decide +kernel)) (ckg_of g h4).1 (g.blt _ (by decide +kernel)) (pe_frz (sE a g h5)) h6
    · cases h
  | .count a b, X, W, c, g, x, h => by
    simp only [ckE] at h
    split at h
    · simp only [Bool.and_eq_true, decide_eq_true_eq] at h
      obtain ⟨⟨⟨⟨⟨h1, h2⟩, h3⟩, h4⟩, h5⟩, h6⟩ := h
      subst h1
      exact pe_count (by unfold ncall at h4; exact h4) (pe_frz (sE a g h2)) (pe_frz (sE b g h3)) h5 h6
    · cases h
  | .dsp r, X, W, c, g, x, h => by
    simp only [ckE] at h
    split at h
    · simp only [Bool.and_eq_true, decide_eq_true_eq] at h
      exact pe_dispM h.1 (by simp) h.2
    · cases h
  | .dsp0, X, W, c, g, x, h => by
    simp only [ckE] at h
    split at h
    · exact pe_disp0
    · cases h
  | .lenb i, X, W, c, g, x, h => by
    simp only [ckE] at h
    split at h
    · simp only [Bool.and_eq_true, decide_eq_true_eq] at h
      obtain ⟨⟨h1, h2⟩, h3⟩ := h
      subst h1
      obtain ⟨v1, v2, v3, v4⟩ := ckv_of g h3
      exact pe_lenb v1 v2 v3 v4 (ckg_of g h2).1 (g.blt _ (by decide +kernel))
    · cases h
  | .call f pm es, X, W, c, g, x, h => by
    simp only [ckE] at h
    split at h
    · rename_i n p ys pos
      simp only [Bool.and_eq_true] at h
      obtain ⟨⟨⟨h1, h2⟩, h3⟩, h4⟩ := h
      split at h4
      · rename_i m ar sh hf
        simp only [Bool.and_eq_true, decide_eq_true_eq] at h4
        obtain ⟨⟨h5, h6⟩, h7⟩ := h4
        subst h5
        obtain ⟨g1, g2, g3⟩ := ckg_of g h1
        have hl := As.len_of h2
        have ha := sAs es g h2
        have cal := g.cal f _ _ _ hf
        simp only [E.ev, hl]
        cases ys with
        | nil =>
          have e0 : pm = [] := by simpa using h7
          subst e0
          cases es with
          | nil => exact pe_callG0 g.tk g.gd cal h6 g1 g2
          | v a r => simp [ckAs] at h2
          | ln i r => simp [ckAs] at h2
        | cons y ys => exact pe_callG g.tk g.gd cal h6 g1 ha h3 g2
      · cases h4
    · cases h
  | .callk f pm es ks, X, W, c, g, x, h => by
    simp only [ckE] at h
    split at h
    · rename_i n p ys kws pos
      simp only [Bool.and_eq_true] at h
      obtain ⟨⟨⟨⟨⟨h1, h2⟩, h3⟩, h4⟩, h5⟩, h6⟩ := h
      split at h6
      · rename_i m ar sh hf
        simp only [Bool.and_eq_true, decide_eq_true_eq] at h6
        obtain ⟨h7, h8⟩ := h6
        subst h7
        obtain ⟨g1, g2, g3⟩ := ckg_of g h1
        have hl := Es.len_of h2
        have hk := (Ks.len_of h4).trans (kws_len h5).symm
        have ha := sEs es g h2
        have hkw := sKs ks g h4
        have cal := g.cal f _ _ _ hf
        simp only [E.ev, hl, hk]
        cases ys with
        | nil =>
          cases es with
          | nil => exact pe_callKG0 g.tk g.gd cal h8 g1 hkw h5 rfl g2
          | cons a r => simp [ckEs] at h2
          | star i r => simp [ckEs] at h2
        | cons y ys => exact pe_callKG g.tk g.gd cal h8 g1 ha hkw h3 h5 rfl g2
      · cases h6
    · cases h
  | .comp a t it oc vs, X, W, c, g, x, h => by
    simp only [ckE] at h
    split at h
    · rename_i elt gen scope pos
      simp only [Bool.and_eq_true, decide_eq_true_eq] at h
      obtain ⟨⟨⟨⟨⟨⟨⟨h1, h2⟩, h3⟩, h4⟩, h5⟩, h6⟩, h7⟩, h8⟩ := h
      obtain ⟨tg, iter, ifs, asy⟩ := gen
      simp only at h1 h4 h5 h6 h7
      subst h1
      have ok : BlkOk X.N X.env.scope scope (ownOf c vs) := by rw [g.N, g.sc]; exact blkOk_by h2
      refine pe_imp (pe_lc (g := rC X vs t.ofC) (tt := rT X W0 (oc.ev Φ Γ)) (te := rP X W0 fun e => (a.ev Φ Γ e).frz) g.calm (by rw [g.N]; exact g.nd) (sI it g h4) ok (fun s H C cl fp => sC t vs (g.blk (s := s) (H := H) (C := C) (cl := cl) (fp := fp)) h6) (fun s H C cl fp => sOc oc (g.blk (s := s) (H := H) (C := C) (cl := cl) (fp := fp)) h7)
        (fun s H C cl fp => pe_frz (sE a (g.blk (s := s) (H := H) (C := C) (cl := cl) (fp := fp)) h8)) (fold_of h5)) fun σ H Q q => ?_
      rw [h3]
      exact lc_mid (wi := fun _ _ _ => False) (tt := fun _ _ _ => False) (te := fun _ _ _ => False) (X := X) (XB := X) rfl q
    · cases h
  | .app i a, X, W, c, g, x, h => by
    simp only [ckE] at h
    split at h
    · simp only [Bool.and_eq_true, decide_eq_true_eq] at h
      obtain ⟨⟨⟨⟨h1, h2⟩, h3⟩, h4⟩, h5⟩ := h
      subst h1
      obtain ⟨v1, v2, v3, v4⟩ := ckv_of g h2
      exact pe_app v1 v2 v3 v4 (pe_frz (sE a g h3)) h4 h5
    · cases h
  | .fz a, X, W, c, g, x, h => pe_thaw (pe_frz (sE a g (by simpa only [ckE] using h)))
  | .never, X, W, c, g, x, h => ⟨fun pins s σ H Q I ⟨_, _, _, _, _, q⟩ => q.elim⟩
  | .at k f a, X, W, c, g, x, h => by
    simp only [ckE] at h
    split at h
    · simp only [Bool.and_eq_true, decide_eq_true_eq] at h
      obtain ⟨⟨⟨rfl, h2⟩, h3⟩, h4⟩ := h
      obtain ⟨as, k1, k2, _⟩ := ckc_of g h2
      exact pe_at k1 k2 (pe_frz (sE a g h3)) (att_base0 h4)
    · cases h
  | .atb k f i, X, W, c, g, x, h => by
    simp only [ckE] at h
    split at h
    · simp only [Bool.and_eq_true, decide_eq_true_eq] at h
      obtain ⟨⟨rfl, h2⟩, h3⟩ := h
      obtain ⟨as, k1, k2, _⟩ := ckc_of g h2
      obtain ⟨v1, v2, v3, v4⟩ := ckv_of g h3
      exact pe_atb k1 k2 v1 v2 v3 v4
    · cases h
  | .new f k pm es, X, W, c, g, x, h => by
    simp only [ckE] at h
    split at h
    · rename_i n p y ys pos
      simp only [Bool.and_eq_true, decide_eq_true_eq] at h
      obtain ⟨⟨⟨⟨rfl, h2⟩, h3⟩, h4⟩, h5⟩ := h
      obtain ⟨g1, g2, g3⟩ := ckg_of g h2
      obtain ⟨nn, sh, cal, hs⟩ := ckm_of g h5
      have hl := Es.len_of h3
      simp only [E.ev, hl]
      exact pe_newG g.tk g.gd cal hs g1 (sEs es g h3) h4 g2
    · cases h
  | .meth f k m pm a es, X, W, c, g, x, h => by
    simp only [ckE] at h
    split at h
    · rename_i y n ap ys pos
      simp only [Bool.and_eq_true, decide_eq_true_eq] at h
      obtain ⟨⟨⟨⟨⟨⟨rfl, h2⟩, h3⟩, h4⟩, ⟨h5, h8⟩, h9⟩, h6⟩, h7⟩ := h
      obtain ⟨nn, sh, cal, hs⟩ := ckm_of g h6
      have hl := As.len_of h3
      have ht := meth_tree (env := X.env) (o := y) (m := n) (apos := ap) (pos := pos) (args := ys) (by unfold ncall at h5; exact h5) h4 h9 h8
      simp only [E.ev, hl]
      cases ys with
      | nil =>
        have e0 : pm = [0] := by simpa using h7
        subst e0
        cases es with
        | nil => exact pe_methG0 g.tk g.gd cal hs (pe_frz (sE a g h2)) ht
        | v a r => simp [ckAs] at h3
        | ln i r => simp [ckAs] at h3
      | cons z zs => exact pe_methG g.tk g.gd cal hs (pe_frz (sE a g h2)) (sAs es g h3) h4 ht
    · cases h
  | .prop f k m a, X, W, c, g, x, h => by
    simp only [ckE] at h
    split at h
    · simp only [Bool.and_eq_true, decide_eq_true_eq] at h
      obtain ⟨⟨⟨rfl, h2⟩, h3⟩, h4⟩ := h
      obtain ⟨nn, sh, cal, hs⟩ := ckm_of g h4
      exact pe_propG g.tk g.gd cal hs (pe_frz (sE a g h2)) (att_base0 h3)
    · cases h
  | .lenO f k a, X, W, c, g, x, h => by
    simp only [ckE] at h
    split at h
    · simp only [Bool.and_eq_true, decide_eq_true_eq] at h
      obtain ⟨⟨⟨⟨rfl, h2⟩, h3⟩, h4⟩, h5⟩ := h
      obtain ⟨nn, sh, cal, hs⟩ := ckm_of g h5
      exact pe_lenO g.gd cal hs (ckg_of g h2).1 (g.blt _ (by decide +kernel)) (pe_frz (sE a g h3)) h4
    · cases h
  | .strO f k a, X, W, c, g, x, h => by
    simp only [ckE] at h
    split at h
    · simp only [Bool.and_eq_true, decide_eq_true_eq] at h
      obtain ⟨⟨⟨⟨rfl, h2⟩, h3⟩, h4⟩, h5⟩ := h
      obtain ⟨nn, sh, cal, hs⟩ := ckm_of g h5
      exact pe_strO g.gd g.hu cal hs (ckg_of g h2).1 (g.blt _ (by decide +kernel)) (pe_frz (sE a g h3)) h4
    · cases h
  | .isC k a, X, W, c, g, x, h => by
    simp only [ckE] at h
    split at h
    · simp only [Bool.and_eq_true, decide_eq_true_eq] at h
      obtain ⟨⟨⟨⟨⟨⟨rfl, h2⟩, h3⟩, h4⟩, rfl⟩, h6⟩, h7⟩ := h
      obtain ⟨as, _, k2, k3⟩ := ckc_of g h7
      obtain ⟨g1, g2, _⟩ := ckg_of g h6
      exact pe_isC (k3 k2) (ckg_of g h2).1 (g.blt _ (by decide +kernel)) g1 g2 (pe_frz (sE a g h3)) h4
    · cases h
  | .lock i a, X, W, c, g, x, h => pe_lockM (sE a g (by simpa only [ckE] using h))
  | .get2 i a b, X, W, c, g, x, h => by
    simp only [ckE] at h
    split at h
    · simp only [Bool.and_eq_true, decide_eq_true_eq] at h
      obtain ⟨⟨⟨⟨⟨⟨rfl, h2⟩, h3⟩, h4⟩, h5⟩, h6⟩, h7⟩ := h
      obtain ⟨v1, v2, v3, v4⟩ := ckv_of g h2
      exact pe_get2 (by have := g.hu; omega) v1 v2 v3 v4 (pe_frz (sE a g h3)) (pe_frz (sE b g h4)) h5 h6 h7
    · cases h
  | .join a b, X, W, c, g, x, h => by
    simp only [ckE] at h
    split at h
    · simp only [Bool.and_eq_true, decide_eq_true_eq] at h
      obtain ⟨⟨⟨⟨⟨rfl, h2⟩, h3⟩, h4⟩, h5⟩, h6⟩ := h
      exact pe_join (by unfold ncall at h4; exact h4) (pe_frz (sE a g h2)) (pe_frz (sE b g h3)) h5 h6
    · cases h
  | .split a b, X, W, c, g, x, h => by
    simp only [ckE] at h
    split at h
    · simp only [Bool.and_eq_true, decide_eq_true_eq] at h
      obtain ⟨⟨⟨⟨⟨rfl, h2⟩, h3⟩, h4⟩, h5⟩, h6⟩ := h
      exact pe_split (by unfold ncall at h4; exact h4) (pe_frz (sE a g h2)) (pe_frz (sE b g h3)) h5 h6
    · cases h
theorem sT : ∀ (a : T) {X : Cx} {W : WX} {c : Cc} (g : Gd Φ Γ X W c) {x : Expr}, ckT c a x = true → PX X x (rT X W (a.ev Φ Γ))
  | .tr a, X, W, c, g, x, h => by
    simp only [ckT, Bool.and_eq_true] at h
    obtain ⟨h1, h2⟩ := h
    refine ⟨pt_tru (pe_frz (sE a g h1)) (plT_of h2), fun z => ?_⟩
    cases x <;> first | exact absurd (show false = true from h2) Bool.false_ne_true | exact absurd (show false = true from z) Bool.false_ne_true
  | .cmp o a b, X, W, c, g, x, h => by
    simp only [ckT] at h
    split at h
    · simp only [Bool.and_eq_true, decide_eq_true_eq] at h
      obtain ⟨⟨⟨h1, h2⟩, h3⟩, h4⟩ := h
      subst h1
      exact ⟨pt_cop g.hu o (pe_frz (sE a g h2)) (pe_frz (sE b g h3)) (beh_of h4), fun z => nomatch z⟩
    · cases h
  | .cmp2 o o' a b d, X, W, c, g, x, h => by
    simp only [ckT] at h
    split at h
    · simp only [Bool.and_eq_true, decide_eq_true_eq] at h
      obtain ⟨⟨⟨⟨⟨⟨h1, h2⟩, h3⟩, h4⟩, h5⟩, h6⟩, h7⟩ := h
      subst h1 h2
      exact ⟨pt_cop2 g.hu o o' (pe_frz (sE a g h3)) (pe_frz (sE b g h4)) (pe_frz (sE d g h5)) (beh_of h7), fun z => nomatch z⟩
    · cases h
  | .no a, X, W, c, g, x, h => by
    simp only [ckT] at h
    split at h
    · exact ⟨pt_neg (sT a g h).1, fun z => nomatch z⟩
    · cases h
  | .and a b, X, W, c, g, x, h => by
    simp only [ckT] at h
    split at h
    · rename_i y z rest pos
      simp only [Bool.and_eq_true] at h
      obtain ⟨h1, h2⟩ := h
      have : PW X (.BoolOp .And (y :: z :: rest) pos) (rT X W ((T.and a b).ev Φ Γ)) := by
        refine pw_andM (sT a g h1).1 ?_
        cases rest with
        | nil => exact pw_and1 (sT b g h2).1
        | cons w rest => exact (sT b g h2).2 rfl
      exact ⟨this.pt, fun _ => this⟩
    · cases h
  | .or a b, X, W, c, g, x, h => by
    simp only [ckT] at h
    split at h
    · rename_i y z rest pos
      simp only [Bool.and_eq_true] at h
      obtain ⟨h1, h2⟩ := h
      have : PW X (.BoolOp .Or (y :: z :: rest) pos) (rT X W ((T.or a b).ev Φ Γ)) := by
        refine pw_orM (sT a g h1).1 ?_
        cases rest with
        | nil => exact pw_or1 (sT b g h2).1
        | cons w rest => exact (sT b g h2).2 rfl
      exact ⟨this.pt, fun _ => this⟩
    · cases h
theorem sEs : ∀ (a : Es) {X : Cx} {W : WX} {c : Cc} (g : Gd Φ Γ X W c) {x : List Expr}, ckEs c a x = true → PA X x (rA X W (a.ev Φ Γ))
  | .nil, X, W, c, g, [], h => pa_nilM
  | .nil, X, W, c, g, _ :: _, h => by cases h
  | .cons a r, X, W, c, g, [], h => by cases h
  | .cons a r, X, W, c, g, x :: xs, h => by
    obtain ⟨h1, h2, h3⟩ := ck_cons h
    exact pa_consM (pe_frz (sE a g h1)) (sEs r g h3) h2
  | .star a r, X, W, c, g, xs, h => by
    simp only [ckEs] at h
    split at h
    · simp only [Bool.and_eq_true] at h
      exact pa_starM (pe_frz (sE a g h.1)) (sEs r g h.2)
    · cases h
theorem sAs : ∀ (a : As) {X : Cx} {W : WX} {c : Cc} (g : Gd Φ Γ X W c) {x : List Expr}, ckAs c a x = true → PA X x (rAV X W (a.ev Φ Γ))
  | .nil, X, W, c, g, [], h => pa_nilV
  | .nil, X, W, c, g, _ :: _, h => by cases h
  | .v a r, X, W, c, g, [], h => by cases h
  | .v a r, X, W, c, g, x :: xs, h => by
    simp only [ckAs, Bool.and_eq_true] at h
    exact pa_consV (sE a g h.1.1) (sAs r g h.2) h.1.2
  | .ln i r, X, W, c, g, xs, h => by
    simp only [ckAs] at h
    split at h
    · simp only [Bool.and_eq_true] at h
      obtain ⟨v1, v2, v3, v4⟩ := ckv_of g h.1
      exact pa_lendV v1 v2 v3 v4 (sAs r g h.2)
    · cases h
theorem sKs : ∀ (a : Ks) {X : Cx} {W : WX} {c : Cc} (g : Gd Φ Γ X W c) {x : List Keyword}, ckKs c a x = true → PK X x (rA X W (a.ev Φ Γ))
  | .nil, X, W, c, g, [], h => pk_nilM
  | .nil, X, W, c, g, _ :: _, h => by cases h
  | .cons n a r, X, W, c, g, [], h => by cases h
  | .cons n a r, X, W, c, g, ⟨nm, v, p⟩ :: xs, h => by
    simp only [ckKs, Bool.and_eq_true] at h
    exact pk_consM (pe_frz (sE a g h.1)) (sKs r g h.2)
theorem sO : ∀ (a : Oe) {X : Cx} {W : WX} {c : Cc} (g : Gd Φ Γ X W c) {x : Option Expr}, ckO c a x = true → PO X x (rO X W (a.ev Φ Γ))
  | .no, X, W, c, g, none, h => po_noneM
  | .no, X, W, c, g, some _, h => by cases h
  | .some a, X, W, c, g, none, h => by cases h
  | .some a, X, W, c, g, some x, h => po_someM (pe_frz (sE a g h))
theorem sI : ∀ (a : It) {X : Cx} {W : WX} {c : Cc} (g : Gd Φ Γ X W c) {t x : Expr}, ckI c a t x = true → PI X t x (rI X W (a.ev Φ Γ))
  | .seq a, X, W, c, g, t, x, h => pi_seqM (pe_frz (sE a g h))
  | .rng1 a, X, W, c, g, t, x, h => by
    simp only [ckI] at h
    split at h
    · simp only [Bool.and_eq_true, decide_eq_true_eq] at h
      obtain ⟨⟨⟨h1, h2⟩, h3⟩, h4⟩ := h
      subst h1
      exact pi_range1M (ckg_of g h2).1 (g.blt _ (by decide +kernel)) (pa_consM (pe_frz (sE a g h3)) pa_nilM h4) h4
    · cases h
  | .rng2 a b, X, W, c, g, t, x, h => by
    simp only [ckI] at h
    split at h
    · simp only [Bool.and_eq_true, decide_eq_true_eq] at h
      obtain ⟨⟨⟨⟨⟨h1, h2⟩, h3⟩, h4⟩, h5⟩, h6⟩ := h
      subst h1
      refine pi_imp (pi_range2M (W := W) (ckg_of g h2).1 (g.blt _ (by decide +kernel)) (pa_consM (pe_frz (sE a g h3)) (pa_consM (pe_frz (sE b g h5)) pa_nilM h6) h4) h4 h6) fun σ H R q => ?_
      obtain ⟨U, L, lent, e, rel, p⟩ := q
      refine ⟨U, L, lent, e, rel, ?_⟩
      simp only [It.ev] at p ⊢
      cases h7 : (a.ev Φ Γ e).frz with
      | fail => rw [h7] at p; exact p
      | exc _ _ _ => rw [h7] at p; exact p
      | ok d e1 =>
        rw [h7] at p
        simp only [bind_ok] at p ⊢
        cases h8 : (b.ev Φ Γ e1).frz with
        | fail => rw [h8] at p; exact p
        | exc _ _ _ => rw [h8] at p; exact p
        | ok d2 e2 => rw [h8] at p; exact p
    · cases h
  | .enum a, X, W, c, g, t, x, h => by
    simp only [ckI] at h
    split at h
    · simp only [Bool.and_eq_true, decide_eq_true_eq] at h
      obtain ⟨⟨⟨⟨h1, h2⟩, h3⟩, h4⟩, h5⟩ := h
      subst h1
      cases t <;> try cases h5
      exact pi_enumT (ckg_of g h2).1 (g.blt _ (by decide +kernel)) (pe_frz (sE a g h3)) h4
    · cases h
  | .zip2 a b, X, W, c, g, t, x, h => by
    simp only [ckI] at h
    split at h
    · simp only [Bool.and_eq_true, decide_eq_true_eq] at h
      obtain ⟨⟨⟨⟨⟨⟨rfl, h2⟩, h3⟩, h4⟩, h5⟩, h6⟩, h7⟩ := h
      cases t <;> try cases h7
      refine pi_imp (pi_zip2M (W := W) (ckg_of g h2).1 (g.blt _ (by decide +kernel)) (pa_consM (pe_frz (sE a g h3)) (pa_consM (pe_frz (sE b g h5)) pa_nilM h6) h4) h4 h6) fun σ H R q => ?_
      obtain ⟨U, L, lent, e, rel, p⟩ := q
      refine ⟨U, L, lent, e, rel, ?_⟩
      simp only [It.ev] at p ⊢
      cases h7 : (a.ev Φ Γ e).frz with
      | fail => rw [h7] at p; exact p
      | exc _ _ _ => rw [h7] at p; exact p
      | ok d e1 =>
        rw [h7] at p
        simp only [bind_ok] at p ⊢
        cases h8 : (b.ev Φ Γ e1).frz with
        | fail => rw [h8] at p; exact p
        | exc _ _ _ => rw [h8] at p; exact p
        | ok d2 e2 => rw [h8] at p; exact p
    · cases h
theorem sOc : ∀ (a : Oc) {X : Cx} {W : WX} {c : Cc} (g : Gd Φ Γ X W c) {x : List Expr}, ckOc c a x = true → PTs X x (rT X W (a.ev Φ Γ))
  | .no, X, W, c, g, [], h => ⟨fun pins s σ H Q I ⟨U, L, lent, e, rel, p⟩ => pts_nil.run pins s σ H Q I (finB rel p)⟩
  | .no, X, W, c, g, _ :: _, h => by cases h
  | .yes t, X, W, c, g, xs, h => by
    simp only [ckOc] at h
    split at h
    · exact pts_one (sT t g h).1
    · cases h
theorem sC : ∀ (a : Tg) (vs : List Nat) {X : Cx} {W : WX} {c : Cc} (g : Gd Φ Γ X W c) {x : Expr}, ckC c vs a x = true → PG X x (rC X vs a.ofC)
  | .n i, vs, X, W, c, g, x, h => by
    simp only [ckC] at h
    split at h
    · simp only [Bool.and_eq_true, decide_eq_true_eq] at h
      obtain ⟨t1, t2, t3⟩ := ckt_of g h.1
      exact pg_nameC (by rw [g.N]; exact g.nd) t1 t2 t3 h.2
    · cases h
  | .t ts, vs, X, W, c, g, x, h => by
    simp only [ckC] at h
    split at h
    · simp only [Bool.and_eq_true, decide_eq_true_eq] at h
      obtain ⟨⟨h1, h2⟩, h3⟩ := h
      simp only [Tg.ofC, h3]
      exact pg_tupC g.calm (sCs ts vs g h1) h2
    · cases h
  | .sub _ _, vs, X, W, c, g, x, h => by cases h
theorem sCs : ∀ (a : Tgs) (vs : List Nat) {X : Cx} {W : WX} {c : Cc} (g : Gd Φ Γ X W c) {x : List Expr}, ckCs c vs a x = true → PGs X x (rCs X vs a.ofC)
  | .nil, vs, X, W, c, g, [], h => pgs_nilC
  | .nil, vs, X, W, c, g, _ :: _, h => by cases h
  | .cons t r, vs, X, W, c, g, [], h => by cases h
  | .cons t r, vs, X, W, c, g, x :: xs, h => by
    simp only [ckCs, Bool.and_eq_true] at h
    exact pgs_consC (sC t vs g h.1.1) (sCs r vs g h.2) h.1.2
end
end M

set_option Elab.async false
set_option linter.all false
set_option maxRecDepth 100000
set_option maxHeartbeats 16000000
/-! M22: soundness: statements. -/
namespace M
open PySem PySem.Spec PyProof.Rows L2
variable {Φ : Nat → Env → Res Val} {Γ : List D}
theorem ps_fail {X : Cx} {W : WX} {x : Stmt} : PS X x (rS X W fun _ => .fail) := ⟨fun _ _ _ _ _ _ ⟨_, _, _, _, _, q⟩ => q.elim⟩
mutual
theorem sG : ∀ (a : Tg) {X : Cx} {W : WX} {c : Cc} (g : Gd Φ Γ X W c) {x : Expr}, ckG c a x = true → PG X x (rG X W (a.ev Φ Γ))
  | .n i, X, W, c, g, x, h => by
    simp only [ckG] at h
    split at h
    · obtain ⟨t1, t2, t3⟩ := ckt_of g h
      exact pg_nameM (by rw [g.N]; exact g.nd) t1 t2 t3
    · cases h
  | .t ts, X, W, c, g, x, h => by
    simp only [ckG] at h
    split at h
    · simp only [Bool.and_eq_true, decide_eq_true_eq] at h
      obtain ⟨⟨h1, h2⟩, h3⟩ := h
      simp only [Tg.ev, h3]
      exact pg_tupM g.calm (sGs ts g h1) h2
    · cases h
  | .sub i b, X, W, c, g, x, h => by
    simp only [ckG] at h
    split at h
    · simp only [Bool.and_eq_true, decide_eq_true_eq] at h
      obtain ⟨⟨h1, h2⟩, h3⟩ := h
      obtain ⟨v1, v2, v3, v4⟩ := ckv_of g h1
      exact pg_subM (by have := g.hu; omega) v1 v2 v3 v4 (pe_frz (sE b g h2)) fun v => by
        rename_i z _ 
        cases z <;> first | rfl | cases h3
    · cases h
theorem sGs : ∀ (a : Tgs) {X : Cx} {W : WX} {c : Cc} (g : Gd Φ Γ X W c) {x : List Expr}, ckGs c a x = true → PGs X x (rGs X W (a.ev Φ Γ))
  | .nil, X, W, c, g, [], h => pgs_nilM
  | .nil, X, W, c, g, _ :: _, h => by cases h
  | .cons t r, X, W, c, g, [], h => by cases h
  | .cons t r, X, W, c, g, x :: xs, h => by
    simp only [ckGs, Bool.and_eq_true] at h
    exact pgs_consM (sG t g h.1.1) (sGs r g h.2) h.1.2
end
theorem fm_short {sc : Scope} {f : Expr → Option Str} (hf : ∀ x, nloc sc x = true → f x = none) : ∀ {ts : List Expr}, ts.any (nloc sc) = true → (ts.filterMap f).length < ts.length
  | [], h => by cases h
  | y :: ys, h => by
    rw [List.filterMap_cons]
    cases hy : nloc sc y with
    | true =>
      rw [hf y hy]
      exact Nat.lt_succ_of_le (List.length_filterMap_le f ys)
    | false =>
      have h2 : ys.any (nloc sc) = true := by
        rw [List.any_cons, hy] at h
        simpa using h
      have ih := fm_short hf h2
      cases f y with
      | none => exact Nat.lt_succ_of_lt ih
      | some z => exact Nat.succ_lt_succ ih
theorem swn_of {t v : Expr} {env : PySem.Env} (h : swn env.scope t v = true) : swappedStores [t] v env = pure none := by
  unfold swappedStores
  cases t with
  | Tuple ts k p =>
    cases v with
    | Tuple vs k' p' =>
      have hx : ts.any (nloc env.scope) = true := h
      simp only
      split
      · rfl
      · split
        · rfl
        · split
          · rfl
          · rename_i hq
            exfalso
            apply hq
            simp only [Bool.or_eq_true, bne_iff_ne]
            refine .inl (Nat.ne_of_lt (fm_short (sc := env.scope) (fun x hx => ?_) hx))
            cases x <;> first | rfl | skip
            rename_i n pos
            have hn : ¬ env.scope.names.lookup n = some .local := by simpa [nloc] using hx
            have : (env.kindOf n == some NameKind.local) = false := by
              have : env.kindOf n = env.scope.names.lookup n := rfl
              rw [this]
              exact beq_false_of_ne hn
            simp only [this, Bool.false_and, Bool.false_eq_true, if_false]
    | _ => rfl
  | List ts p =>
    cases v with
    | Tuple vs k' p' => cases h
    | _ => rfl
  | _ => rfl
theorem blk_fn {env : PySem.Env} (h : env.scope.kind = .function) : env.blockKind = .function := by
  unfold Env.blockKind; rw [h]; rfl
theorem sw2 {x y : Str} {a b : Expr} {px py pt : Pos} {kt k2 : Nat} {pt2 : Pos} {env : PySem.Env} (hk : env.scope.kind = .function) (hx : env.scope.names.lookup x = some .local) (hy : env.scope.names.lookup y = some .local) (hl : (px.line == py.line) = true) (na : ns a = true) (nb : ns b = true) (hne : x ≠ y)
    (hf : (foldedForSure 8 a && foldedForSure 8 b) = false) (hc : (constantsAlone 8 a && constantsAlone 8 b) = false) : swappedStores [.Tuple [.Name x px, .Name y py] kt pt] (.Tuple [a, b] k2 pt2) env = pure (some [x, y]) := by
  have kx : env.kindOf x = some .local := hx
  have ky : env.kindOf y = some .local := hy
  have hl2 : (py.line == px.line) = true := by
    have := eq_of_beq hl
    rw [this]; exact beq_self_eq_true _
  have hyx : (y == x) = false := by simpa using fun q => hne q.symm
  have hxy : (x == y) = false := by simpa using hne
  unfold swappedStores
  simp only [blk_fn hk, List.length_cons, List.length_nil, List.any_cons, List.any_nil, List.head?_cons, Option.map_some, Option.getD_some, Expr.pos, List.filterMap_cons, List.filterMap_nil, kx, ky, hl2, beq_self_eq_true, Bool.and_self, if_true, List.all_cons, List.all_nil, Bool.and_true, hf, hc]
  simp [List.eraseDups_cons, hyx, hxy]
  intro q
  exfalso
  rcases q with q | q
  · cases a <;> first | exact absurd na Bool.false_ne_true | cases q
  · cases b <;> first | exact absurd nb Bool.false_ne_true | cases q
theorem sw3 {x y z : Str} {a b c : Expr} {px py pz pt : Pos} {kt k2 : Nat} {pt2 : Pos} {env : PySem.Env} (hk : env.scope.kind = .function) (hx : env.scope.names.lookup x = some .local) (hy : env.scope.names.lookup y = some .local) (hz : env.scope.names.lookup z = some .local)
    (hl : (px.line == py.line) = true) (hl' : (px.line == pz.line) = true) (na : ns a = true) (nb : ns b = true) (nc : ns c = true) (hne : x ≠ y) (hne2 : x ≠ z) (hne3 : y ≠ z)
    (hf : (foldedForSure 8 a && foldedForSure 8 b && foldedForSure 8 c) = false) (hc : (constantsAlone 8 a && constantsAlone 8 b && constantsAlone 8 c) = false) : swappedStores [.Tuple [.Name x px, .Name y py, .Name z pz] kt pt] (.Tuple [a, b, c] k2 pt2) env = pure (some [x, y, z]) := by
  have kx : env.kindOf x = some .local := hx
  have ky : env.kindOf y = some .local := hy
  have kz : env.kindOf z = some .local := hz
  have hl2 : (py.line == px.line) = true := by
    have := eq_of_beq hl
    rw [this]; exact beq_self_eq_true _
  have hl3 : (pz.line == px.line) = true := by
    have := eq_of_beq hl'
    rw [this]; exact beq_self_eq_true _
  have h1 : (y == x) = false := by simpa using fun q => hne q.symm
  have h2 : (z == x) = false := by simpa using fun q => hne2 q.symm
  have h3 : (z == y) = false := by simpa using fun q => hne3 q.symm
  rw [Bool.and_assoc] at hf hc
  unfold swappedStores
  simp only [blk_fn hk, List.length_cons, List.length_nil, List.any_cons, List.any_nil, List.head?_cons, Option.map_some, Option.getD_some, Expr.pos, List.filterMap_cons, List.filterMap_nil, kx, ky, kz, hl2, hl3, beq_self_eq_true, Bool.and_self, if_true, List.all_cons, List.all_nil, Bool.and_true, hf, hc]
  simp [List.eraseDups_cons, h1, h2, h3]
  intro q
  exfalso
  rcases q with q | q | q
  · cases a <;> first | exact absurd na Bool.false_ne_true | cases q
  · cases b <;> first | exact absurd nb Bool.false_ne_true | cases q
  · cases c <;> first | exact absurd nc Bool.false_ne_true | cases q
mutual
theorem sS : ∀ (a : S) {X : Cx} {W : WX} {c : Cc} (g : Gd Φ Γ X W c) {x : Stmt}, ckS c a x = true → PS X x (rS X W (a.ev Φ Γ))
  | .pass, X, W, c, g, x, h => by
    simp only [ckS] at h
    split at h
    · exact ps_passM
    · cases h
  | .brk, X, W, c, g, x, h => by
    simp only [ckS] at h
    split at h
    · exact ps_breakM
    · cases h
  | .cnt, X, W, c, g, x, h => by
    simp only [ckS] at h
    split at h
    · exact ps_contM
    · cases h
  | .doc, X, W, c, g, x, h => by
    simp only [ckS] at h
    split at h
    · exact ps_docM
    · cases h
  | .ex a, X, W, c, g, x, h => by
    simp only [ckS] at h
    split at h
    · simp only [Bool.and_eq_true] at h
      exact ps_exprM (sE a g h.1) (nco_of h.2)
    · cases h
  | .ret a, X, W, c, g, x, h => by
    simp only [ckS] at h
    split at h
    · exact ps_retM (sE a g h)
    · cases h
  | .ret0, X, W, c, g, x, h => by
    simp only [ckS] at h
    split at h
    · exact ps_retNM
    · cases h
  | .set i a, X, W, c, g, x, h => by
    simp only [ckS] at h
    split at h
    · rename_i n p v pos
      simp only [Bool.and_eq_true, Bool.or_eq_true] at h
      obtain ⟨⟨h1, h2⟩, h3⟩ := h
      obtain ⟨t1, t2, t3⟩ := ckt_of g h1
      have nd : X.N.Nodup := by rw [g.N]; exact g.nd
      rcases h3 with h3 | h3
      · exact ps_setM nd t1 t2 t3 (sE a g h2) (nco_of h3)
      · split at h3
        · rename_i a0 tg0 it0 oc0 vs0 elt gens scope q
          simp only [Bool.and_eq_true, decide_eq_true_eq] at h3
          obtain ⟨⟨⟨k1, k2⟩, k3⟩, k4⟩ := h3
          obtain ⟨l1, l2⟩ := ckl_of g k1
          simp only [ckE] at h2
          split at h2
          · rename_i e' gen scope' pos' heq
            cases heq
            simp only [Bool.and_eq_true, decide_eq_true_eq] at h2
            obtain ⟨⟨⟨⟨⟨⟨⟨b1, b2⟩, b3⟩, b4⟩, b5⟩, b6⟩, b7⟩, b8⟩ := h2
            obtain ⟨tg, iter, ifs, asy⟩ := gen
            simp only at b1 b4 b5 b6 b7
            subst b1
            have ok : BlkOk X.N X.env.scope scope (ownOf c vs0) := by rw [g.N, g.sc]; exact blkOk_by b2
            refine ps_imp (ps_setLc (g := rC X vs0 tg0.ofC) (tt := rT X W0 (oc0.ev Φ Γ)) (te := rP X W0 fun e => (a0.ev Φ Γ e).frz) g.calm nd l1 l2 (sw_true (by rw [g.sc]; exact k4) l2 k2 (by simpa using k3)) (sI it0 g b4) ok (fun s H C cl fp => sC tg0 vs0 (g.blk (s := s) (H := H) (C := C) (cl := cl) (fp := fp)) b6)
              (fun s H C cl fp => sOc oc0 (g.blk (s := s) (H := H) (C := C) (cl := cl) (fp := fp)) b7) (fun s H C cl fp => pe_frz (sE a0 (g.blk (s := s) (H := H) (C := C) (cl := cl) (fp := fp)) b8)) (fold_of b5)) fun D σ H q => ?_
            rw [b3]
            obtain ⟨U, L, lent, e, rel, p⟩ := q
            refine lc_mid (W := W) (wi := fun _ _ _ => False) (tt := fun _ _ _ => False) (te := fun _ _ _ => False) (X := X) (XB := X) rfl (H := H) (σ := σ) ?_
            exact rdS_of (f := (E.comp a0 tg0 it0 oc0 vs0).ev Φ Γ) rel p fun v L1 H1 y e1 s1 rel1 rx p1 => p1.nx_ (rel1.put rx)
          · cases h2
        · cases h3
    · cases h
  | .asg t a, X, W, c, g, x, h => by
    simp only [ckS] at h
    split at h
    · simp only [Bool.and_eq_true] at h
      obtain ⟨⟨⟨⟨h1, h2⟩, h3⟩, h4⟩, h5⟩ := h
      exact ps_asgM (pe_frz (sE a g h2)) (sG t g h1) (nco_of h4) (swn_of (by rw [g.sc]; exact h5)) (by rw [asg_star h3]; rfl)
    · cases h
  | .par is es, X, W, c, g, x, h => by
    have nd : X.N.Nodup := by rw [g.N]; exact g.nd
    simp only [ckS] at h
    split at h
    · simp only [Bool.and_eq_true, decide_eq_true_eq, Bool.not_eq_true'] at h
      obtain ⟨⟨⟨⟨⟨⟨⟨⟨⟨⟨h1, h2⟩, h3⟩, h4⟩, h5⟩, h6⟩, h7⟩, h8⟩, h9⟩, h10⟩, h11⟩ := h
      obtain ⟨l1, l2⟩ := ckl_of g h1
      obtain ⟨l3, l4⟩ := ckl_of g h2
      exact ps_par2M g.calm nd l1 l3 h3 l2 l4 (sAs es g h4) (sw2 (by rw [g.sc]; exact h5) l2 l4 h6 h7 h8 h9 h10 h11)
    · simp only [Bool.and_eq_true, decide_eq_true_eq, Bool.not_eq_true'] at h
      obtain ⟨⟨⟨⟨⟨⟨⟨⟨⟨⟨⟨⟨⟨⟨⟨⟨⟨h1, h2⟩, h3⟩, h4⟩, h5⟩, h6⟩, h7⟩, h8⟩, h9⟩, h10⟩, h11⟩, h12⟩, h13⟩, h14⟩, h15⟩, h16⟩, h17⟩, h18⟩ := h
      obtain ⟨l1, l2⟩ := ckl_of g h1
      obtain ⟨l3, l4⟩ := ckl_of g h2
      obtain ⟨l5, l6⟩ := ckl_of g h3
      exact ps_par3M g.calm nd l1 l3 l5 h4 h5 h6 l2 l4 l6 (sAs es g h7) (sw3 (by rw [g.sc]; exact h8) l2 l4 l6 h9 h10 h11 h12 h13 h14 h15 h16 h17 h18)
    · cases h
  | .aug o i a, X, W, c, g, x, h => by
    simp only [ckS] at h
    split at h
    · simp only [Bool.and_eq_true, decide_eq_true_eq] at h
      obtain ⟨⟨h1, h2⟩, h3⟩ := h
      subst h1
      obtain ⟨t1, t2, t3⟩ := ckt_of g h2
      exact ps_augM (by rw [g.N]; exact g.nd) t1 t2 t3 (pe_frz (sE a g h3))
    · cases h
  | .iff t a b, X, W, c, g, x, h => by
    simp only [ckS] at h
    split at h
    · simp only [Bool.and_eq_true] at h
      exact ps_ifM (sT t g h.1.1).1 (sSs a g h.1.2) (sSs b g h.2)
    · cases h
  | .whl t b, X, W, c, g, x, h => by
    simp only [ckS] at h
    split at h
    · simp only [Bool.and_eq_true] at h
      exact ps_whileM g.hp (sT t g h.1).1 (sSs b g h.2)
    · cases h
  | .fr t it b, X, W, c, g, x, h => by
    simp only [ckS] at h
    split at h
    · simp only [Bool.and_eq_true] at h
      obtain ⟨⟨⟨h1, h2⟩, h3⟩, h4⟩ := h
      exact ps_forM g.hp g.calm (sI it g h2) (sG t g h1) (sSs b g h4) (fold_of h3)
    · cases h
  | .never, X, W, c, g, x, h => ps_fail
  | .sat i k f a, X, W, c, g, x, h => by
    simp only [ckS] at h
    split at h
    · simp only [Bool.and_eq_true, decide_eq_true_eq] at h
      obtain ⟨⟨⟨⟨rfl, h2⟩, h3⟩, h4⟩, h5⟩ := h
      obtain ⟨as, k1, k2, _⟩ := ckc_of g h2
      obtain ⟨v1, v2, v3, v4⟩ := ckv_of g h3
      exact ps_sat k1 k2 v1 v2 v3 v4 (pe_frz (sE a g h4)) (nco_of h5)
    · cases h
theorem sSs : ∀ (a : Ss) {X : Cx} {W : WX} {c : Cc} (g : Gd Φ Γ X W c) {x : List Stmt}, ckSs c a x = true → PSs X x (rS X W (a.ev Φ Γ))
  | .nil, X, W, c, g, [], h => pss_nilM
  | .nil, X, W, c, g, _ :: _, h => by cases h
  | .cons s r, X, W, c, g, [], h => by cases h
  | .cons s r, X, W, c, g, x :: xs, h => by
    simp only [ckSs, Bool.and_eq_true] at h
    exact pss_consM (sS s g h.1) (sSs r g h.2)
end
end M

set_option Elab.async false
set_option linter.all false
set_option maxRecDepth 100000
set_option maxHeartbeats 4000000
/-! M23: a program's functions, one upon another; the law's end. -/
namespace M
open PySem PySem.Spec PyProof.Rows L2

/-- what stands of a function of the module -/
structure CalK (P : Program) (w : World) (K : PySem.W.Frag) (mg : Str → Option Value) (base : Heap) (k : Nat) (x : Str) (n : Nat) (F : Env → Res Val) (sh : List (Nat × List Str × List Nat)) : Prop where
  ex : ∃ (f : Addr) (fd : FuncData) (ps : List Str), FnG P w K mg base k f fd ps F ∧ mg x = some (.ref f) ∧ PySem.W.keepIn K (.ref f) = true ∧ ps.length = n ∧ ∀ q ∈ sh, q.2.2.length = n ∧ BindG K fd ps q.1 q.2.1 q.2.2
section
variable {P : Program} {w : World} {K : PySem.W.Frag} {mg : Str → Option Value} {base : Heap}
theorem FnG.mono {j k : Nat} {f : Addr} {fd : FuncData} {ps : List Str} {F : Env → Res Val} (h : FnG P w K mg base j f fd ps F) (hk : j ≤ k) : FnG P w K mg base k f fd ps F :=
  ⟨fun A outer s H args us vs Q E gd hr => h.run A outer s H args us vs Q E gd (hr.mono hk)⟩
theorem CalK.mono {j k : Nat} {x : Str} {n : Nat} {F : Env → Res Val} {sh : List (Nat × List Str × List Nat)} (h : CalK P w K mg base j x n F sh) (hk : j ≤ k) : CalK P w K mg base k x n F sh := by
  obtain ⟨f, fd, ps, h1, h2⟩ := h.ex
  exact ⟨f, fd, ps, h1.mono hk, h2⟩
abbrev Row := Nat × Str × Nat × List (Nat × List Str × List Nat)
abbrev MRow := Nat × Str × Str × MK × Nat × List (Nat × List Str × List Nat)
/-- what stands of a def of a class -/
structure CalKM (P : Program) (w : World) (K : PySem.W.Frag) (mg : Str → Option Value) (base : Heap) (k : Nat) (x m : Str) (kd : MK) (n : Nat) (F : Env → Res Val) (sh : List (Nat × List Str × List Nat)) : Prop where
  ex : ∃ (C : Addr) (j : Nat) (f : Addr) (fd : FuncData) (ps : List Str), mg x = some (.ref C) ∧ Cls K C ∧ MkF K C m f kd ∧ FnG P w K mg base j f fd ps F ∧ j + 3 ≤ k ∧ ps.length = n ∧ ∀ q ∈ sh, q.2.2.length = n ∧ BindG K fd ps q.1 q.2.1 q.2.2
theorem CalKM.mono {j k : Nat} {x m : Str} {kd : MK} {n : Nat} {F : Env → Res Val} {sh : List (Nat × List Str × List Nat)} (h : CalKM P w K mg base j x m kd n F sh) (hk : j ≤ k) : CalKM P w K mg base k x m kd n F sh := by
  obtain ⟨C, i, f, fd, ps, h1, h2, h3, h4, h5, h6⟩ := h.ex
  exact ⟨C, i, f, fd, ps, h1, h2, h3, h4, Nat.le_trans h5 hk, h6⟩
/-- the functions so far -/
structure Tab (Φ : Nat → Env → Res Val) (P : Program) (w : World) (K : PySem.W.Frag) (mg : Str → Option Value) (base : Heap) (k : Nat) (fs : List Row) (ms : List MRow) : Prop where
  cal : ∀ (f : Nat) (x : Str) (n : Nat) (sh : List (Nat × List Str × List Nat)), fs.lookup f = some (x, n, sh) → CalK P w K mg base k x n (Φ f) sh
  mth : ∀ (f : Nat) (x m : Str) (kd : MK) (n : Nat) (sh : List (Nat × List Str × List Nat)), ms.lookup f = some (x, m, kd, n, sh) → CalKM P w K mg base k x m kd n (Φ f) sh
theorem Tab.nil {Φ : Nat → Env → Res Val} {k : Nat} : Tab Φ P w K mg base k [] [] := ⟨fun f x n sh h => by simp at h, fun f x m kd n sh h => by simp at h⟩
theorem Tab.put {Φ : Nat → Env → Res Val} {k k' : Nat} {fs : List Row} {ms : List MRow} {i : Nat} {x : Str} {n : Nat} {sh : List (Nat × List Str × List Nat)} (t : Tab Φ P w K mg base k fs ms) (h : CalK P w K mg base k' x n (Φ i) sh) (hk : k ≤ k') : Tab Φ P w K mg base k' ((i, x, n, sh) :: fs) ms :=
  ⟨fun f y m s e => by
    rw [List.lookup_cons] at e
    split at e
    · rename_i hf
      have hf := eq_of_beq hf
      cases e
      rw [hf]
      exact h
    · exact (t.cal f y m s e).mono hk, fun f x m kd n sh e => (t.mth f x m kd n sh e).mono hk⟩
theorem Tab.putM {Φ : Nat → Env → Res Val} {k k' : Nat} {fs : List Row} {ms : List MRow} {i : Nat} {x m : Str} {kd : MK} {n : Nat} {sh : List (Nat × List Str × List Nat)} (t : Tab Φ P w K mg base k fs ms) (h : CalKM P w K mg base k' x m kd n (Φ i) sh) (hk : k ≤ k') : Tab Φ P w K mg base k' fs ((i, x, m, kd, n, sh) :: ms) :=
  ⟨fun f y m s e => (t.cal f y m s e).mono hk, fun f y q kd' n' s e => by
    rw [List.lookup_cons] at e
    split at e
    · rename_i hf
      have hf := eq_of_beq hf
      cases e
      rw [hf]
      exact h
    · exact (t.mth f y q kd' n' s e).mono hk⟩
theorem Tab.mono {Φ : Nat → Env → Res Val} {k k' : Nat} {fs : List Row} {ms : List MRow} (t : Tab Φ P w K mg base k fs ms) (hk : k ≤ k') : Tab Φ P w K mg base k' fs ms := ⟨fun f x n sh e => (t.cal f x n sh e).mono hk, fun f x m kd n sh e => (t.mth f x m kd n sh e).mono hk⟩
/-- what the top has left of an own class -/
structure ClsK (K : PySem.W.Frag) (mg : Str → Option Value) (x : Str) (as : List Str) : Prop where
  ex : ∃ C, mg x = some (.ref C) ∧ Cls K C ∧ (∀ f ∈ as, NoAttr K C f) ∧ (isMark ∈ as → PySem.W.keepIn K (.ref C) = true ∧ PySem.W.findIn K (.ref C) "__class__" = some (some (.builtin "object.__class__")) ∧ PySem.W.specialIn K (.builtin "object.__class__") "__get__" = some (some (.builtin "getset_descriptor.__get__")) ∧
    PySem.W.takesIn K (.builtin "object.__class__") = some true ∧ PySem.W.mroIn K C (.type "object") = some true ∧ PySem.W.kitOne K (.ref C) (.ref C) = some true ∧ (∀ T ∈ tyBs, PySem.W.kitOne K (.type T) (.ref C) = some false) ∧ ∀ T ∈ tyBs, PySem.W.kitOne K (.ref C) (.type T) = some false)
/-- what the module's top has left, besides the functions -/
structure Top (Γ : List D) (K : PySem.W.Frag) (mg : Str → Option Value) (gv : List (Nat × Str)) (cl : List (Str × List Str)) : Prop where
  cls : ∀ (x : Str) (as : List Str), cl.lookup x = some as → ClsK K mg x as
  blt : ∀ x ∈ bltN, mg x = none
  gvl : ∀ (j : Nat) (x : Str) (d : D), gv.lookup j = some x → Γ[j]? = some d → ∃ u v, mg x = some u ∧ RelV v u ∧ ∀ L H, Rp ⟨K, mg⟩ L H d v
/-- the names that a def's scope holds in cells -/
def cellsOf (sc : Scope) : List Str := (sc.names.filter fun p => p.2 == .cell).map (·.1)
def ccOf (N : List Str) (st : Stmt) (fs : List Row) (gv : List (Nat × Str)) (cl : List (Str × List Str)) (ms : List MRow) : Cc := ⟨N, defScope st, cellsOf (defScope st), fs, gv, cl, ms⟩
/-- a def: its text looked at, its run told by F -/
theorem fn_by {Φ : Nat → Env → Res Val} {Γ : List D} {k : Nat} {f : Addr} {name qual : Str} {st : Stmt} {kV doc pm cdv ct oc : Value} {an od : Option Addr} {osl : Array (Option Value)} {N ps : List Str} {gv : List (Nat × Str)} {cl : List (Str × List Str)} {fs : List Row} {ms : List MRow} {b : Ss} {F : Env → Res Val}
    (lk : K.lookup f = some ⟨oc, od, .func (PySem.W.fnOf name qual (defArgs st) (defBody st) (defScope st) .none kV doc pm an cdv ct), osl⟩) (hcd : PySem.W.codeIn K cdv qual = true) (tp : Top Γ K mg gv cl) (t : Tab Φ P w K mg base k fs ms)
    (hS : C8.scC N ps (defScope st) = true) (hck : ckSs (ccOf N st fs gv cl ms) b (defBody st) = true) (hF : ∀ e, F e ≠ .fail → runF (b.ev Φ Γ) N.length e = F e) :
    FnG P w K mg base (k + 1) f (PySem.W.fnOf name qual (defArgs st) (defBody st) (defScope st) .none kV doc pm an cdv ct) ps F := by
  have S := C8.fnScope_by hS
  refine fn_mkG lk hcd S hF fun A outer s H E hgd hr => ?_
  refine sSs b ?_ hck
  have hu := hr.units
  have hu2 := hr.un
  exact { calm := rfl, N := rfl, nd := S.nd, sc := rfl, cel := fun _ _ => rfl, tk := takes_of rfl rfl rfl rfl, hp := passes_of rfl, gd := hgd, hu := by
            show (A.deeper (envOfC qual (defScope st) s.heap.objs.size f cdv)).units + 65 < cLine
            omega, blt := tp.blt,
          cal := fun f x n sh e => by
            obtain ⟨g, fd, ps, h1, h2, h3, h4, h5⟩ := (t.cal f x n sh e).ex
            exact ⟨k, g, fd, ps, h1, hr, h2, h3, h4, h5⟩,
          gvl := tp.gvl,
          cls := fun x as h => by
            obtain ⟨C, h1, h2, h3, h4⟩ := (tp.cls x as h).ex
            exact ⟨⟨C, h1, h2, h3⟩, fun z => ⟨C, h1, h2, h4 z⟩⟩,
          mth := fun f x m kd n sh e => by
            obtain ⟨C, j, g, fd, ps, h1, h2, h3, h4, h5, h6⟩ := (t.mth f x m kd n sh e).ex
            exact ⟨C, j, g, fd, ps, h1, h2, h3, h4, hr.mono h5, h6⟩ }
end
/-! ### the law's end -/
/-- the law's function says True of every script -/
def Keeps (F : Env → Res Val) (n : Nat) : Prop := ∀ ns : List Int, ns.length ≤ n → F [some (.p (.fl (ns.map D.int)))] = .ok (.p (.bl true)) [none]
theorem law_end {P : Program} {w : World} {K : PySem.W.Frag} {mg mb : Str → Option Value} {k : Nat} {fa a : Addr} {fd : FuncData} {x : Str} {F : Env → Res Val} {n : Nat} {s₁ : Shared} {vs : List Value} {ns : List Int} (KX : K.In s₁.heap) (hns : s₁.heap.Ns mainGlobals mg) (hb : s₁.heap.Ns builtinsNs mb)
    (hbb : ∀ x : Str, x ≠ "__name__" → mb x = bootBuiltins x) (hlim : s₁.heap.NoLimit) (hg : s₁.gens = #[]) (ha : s₁.heap.get? a = some { cls := .type "list", data := .seq vs.toArray }) (hi : IntsAre vs ns) (hl : ns.length ≤ n) (hn : n ≤ sizeLine) (hr : Room k callerA)
    (hF : ∀ base : Heap, K.In base → base.Ns mainGlobals mg → FnG P w K mg base k fa fd [x] F) (hbind : ∀ (s : Shared) (u : Value), BindsTo s fd ⟨[u], []⟩ [(x, u)]) (keeps : Keeps F n) :
    codeAny (model P w) callerA (.call (.ref fa) ⟨[.ref a], []⟩) (fun r s' => r = .ok (.ret (.bool true)) ∧ OldK s₁.heap s'.heap ∧ s'.os = s₁.os ∧ AllBare s'.gens) s₁ := by
  have rv := vals_ints hi
  have hlen : vs.length ≤ sizeLine := by rw [hi.length]; exact Nat.le_trans hl hn
  -- the script is tracked, or the written part's own
  let H : Hp := fun b => if b = a ∧ K.lookup a = none then some (.frz { cls := .type "list", data := .seq vs.toArray } (.lst (ns.map V.int))) else none
  have Ha : ∀ b u, H b = some u → b = a ∧ K.lookup a = none ∧ u = .frz { cls := .type "list", data := .seq vs.toArray } (.lst (ns.map V.int)) := fun b u h => by
    by_cases c : b = a ∧ K.lookup a = none
    · have h := (if_pos c).symm.trans h
      exact ⟨c.1, c.2, (Option.some.inj h).symm⟩
    · have h := (if_neg c).symm.trans h
      cases h
  have ok : HOk P w H s₁.heap := fun b u h => by
    obtain ⟨rfl, _, rfl⟩ := Ha b u h
    exact ⟨ha, by rw [List.length_map]; exact Nat.le_trans hl hn, vs, _, rv, ha⟩
  have free : ∀ {b : Addr} {o : Obj}, s₁.heap.get? b = some o → H b = none → (hidT s₁.heap H).get? b = some o := fun e z => hidT_get e z
  have dictFree : ∀ {b : Addr} {o : Obj} {es : Array DictEntry} {ep : Nat}, s₁.heap.get? b = some o → o.data = .dict es ep → H b = none := fun {b o es ep} e d => by
    cases q : H b with
    | none => rfl
    | some u =>
      obtain ⟨rfl, _, _⟩ := Ha b u q
      rw [ha] at e; cases e; cases d
  have ns' : ∀ {b : Addr} {m : Str → Option Value}, s₁.heap.Ns b m → (hidT s₁.heap H).Ns b m := fun {b m} ⟨o, es, ep, e, d, r⟩ => ⟨o, es, ep, free e (dictFree e d), d, r⟩
  have kb : K.In (hidT s₁.heap H) := fun b o e => free (KX b o e) (by
    cases q : H b with
    | none => rfl
    | some u =>
      obtain ⟨rfl, z, _⟩ := Ha b u q
      rw [z] at e; cases e)
  have md : Mod K mg (hidT s₁.heap H) := ⟨kb, ns' hns, ⟨mb, ns' hb, hbb⟩, let ⟨mc, h1, h2⟩ := hlim; ⟨mc, ns' h1, h2⟩⟩
  have none' : ∀ {α : Type} (b : α) (p : Prop), b ∈ ([] : List α) → p := fun b p z => absurd z List.not_mem_nil
  have e0 : Env0 P w K mg (hidT s₁.heap H) callerA [] s₁ H := ⟨rfl, md, fun b o e => of_hidT e, Nat.le_of_eq (hidT_size _ _), trivial, fun b z => none' b _ z, ok, .of_eq hg⟩
  have at_ : LstAt ⟨K, mg⟩ (fun _ => False) H a (ns.map V.int) := by
    cases hk : K.lookup a with
    | none => exact .inl ⟨.inr ⟨_, if_pos ⟨rfl, hk⟩⟩, fun z => z⟩
    | some o =>
      have e := KX a o hk
      rw [ha] at e; cases e
      exact .inr ⟨_, vs.toArray, _, hk, rfl, rfl, rfl, by rw [List.size_toArray]; exact hlen, by simpa using rv⟩
  have rel : Rel ⟨K, mg⟩ (fun _ => False) (fun _ => False) (fun _ => 0) ([V.ref a].map some) H [some (.p (.fl (ns.map D.int)))] := by
    have one : ∀ {i : Nat} {y : Val}, ([some (.p (.fl (ns.map D.int)))] : Env)[i]? = some (some y) → i = 0 ∧ y = .p (.fl (ns.map D.int)) := fun {i y} h => by
      cases i with
      | zero => simp at h; exact ⟨rfl, h.symm⟩
      | succ i => simp at h
    refine ⟨fun _ z => z, fun _ z => z.elim, rfl, fun i y h => ?_, fun i j y z v _ h _ oy => ?_, fun i y h oy => ?_⟩
    · obtain ⟨rfl, rfl⟩ := one h
      exact ⟨.ref a, rfl, a, _, rfl, at_, RpL.ints ns⟩
    · obtain ⟨_, rfl⟩ := one h
      cases oy
    · obtain ⟨_, rfl⟩ := one h
      cases oy
  have sp : spF ⟨K, mg⟩ F [.ref a] H (fun v _ => v = .bl true) (fun _ _ _ => False) := ⟨_, _, _, _, rel, by
    rw [keeps ns hl]
    exact fun v L' H' _ _ rv => rv.1⟩
  refine codeAny_mono ((hF _ kb (ns' hns)).run callerA [] s₁ H ⟨[.ref a], []⟩ [.ref a] [.ref a] _ _ rfl hr e0 (hbind s₁ (.ref a)) (.cons rfl .nil) rfl sp) fun r s' h => ?_
  cases r with
  | error e =>
    obtain ⟨_, _, _, _, _, _, _, _, _, _, _, _, z⟩ := h
    exact z.elim
  | ok fl =>
    cases fl with
    | next => exact h.elim
    | brk => exact h.elim
    | cont => exact h.elim
    | ret u =>
      obtain ⟨v, H', os, bare, un, ok', r', q⟩ := h
      subst q
      obtain rfl : u = Value.bool true := r'
      refine ⟨rfl, OldK.of_keep fun b o e => ?_, os, bare⟩
      cases q : H b with
      | none => exact un.keep b o e q (fun z => none' b _ z) (by simp)
      | some u =>
        obtain ⟨rfl, _, rfl⟩ := Ha b u q
        obtain ⟨e2, _⟩ := ok' b _ (un.frzs b _ _ q)
        rw [ha] at e; cases e
        exact e2
/-- the goal that the head leaves -/
theorem walk_by {l : PySem.W.OpenLaw} {n k : Nat} {q : Program} {loose : List Str} {XP : (Str → Option Value) → Heap → Prop} {YP : World → Heap → Prop} {d : DefRec} {K : Params → PySem.W.Frag} {x : Str} {F : Env → Res Val} (hn : l.most = some n) (hn2 : n ≤ sizeLine) (hdf : d.params.defaults = []) (hr : Room k callerA)
    (hY : ∀ (w : World) (h : Heap), YP w h → (K w.params).In h)
    (G : ∀ (w : World) (mg : Str → Option Value) (fa : Addr) (h : Heap), (K w.params).In h → h.Ns mainGlobals mg → mg d.name = some (.ref fa) →
      ∃ fd : FuncData, (∀ (s : Shared) (u : Value), BindsTo s fd ⟨[u], []⟩ [(x, u)]) ∧ ∀ base : Heap, (K w.params).In base → base.Ns mainGlobals mg → FnG l.prog w (K w.params) mg base k fa fd [x] F)
    (keeps : Keeps F n) : PySem.W.WalkO q loose XP YP l.row.toRowW d [] (fun f vs => PySem.call f vs) := by
  refine Att.attach_call hn hdf fun w s₀ s₁ mg mb fa o pm cd doc a vs ns gr Y ho hd hcd hmg hobj hints hlen hg => ?_
  have KX := hY w _ Y
  obtain ⟨fd, hb, hF⟩ := G w mg fa _ KX gr.T.g hmg
  exact law_end KX gr.T.g gr.T.b gr.T.builtins gr.T.nolimit hg hobj hints hlen hn2 hr hF hb keeps
end M

set_option Elab.async false
set_option linter.all false
set_option maxRecDepth 100000
set_option maxHeartbeats 4000000
/-! M24: putting a program together. -/
namespace M
open PySem PySem.Spec PyProof.Rows L2
section
variable {P : Program} {w : World} {K : PySem.W.Frag} {mg : Str → Option Value} {base : Heap}
/-- how a def's arguments bind, whatever stands in its object -/
def Bd (x y : Str) (st : Stmt) (ps : List Str) (n : Nat) (sh : List (Nat × List Str × List Nat)) : Prop :=
  ∀ q ∈ sh, q.2.2.length = n ∧ ∀ (kV doc pm : Value) (an : Option Addr) (cdv ct : Value) (us ws : List Value), us.length = q.1 → ws.length = q.2.1.length →
    bindArgs (PySem.W.fnOf x y (defArgs st) (defBody st) (defScope st) .none kV doc pm an cdv ct) ⟨us, q.2.1.zip ws⟩ = pure (ps.zip (permL q.2.2 (us ++ ws)))
theorem Bd.nil {x y : Str} {st : Stmt} {ps : List Str} {n : Nat} : Bd x y st ps n [] := fun _ h => absurd h List.not_mem_nil
theorem Bd.cons {x y : Str} {st : Stmt} {ps : List Str} {n : Nat} {a : Nat} {ks : List Str} {pm : List Nat} {sh : List (Nat × List Str × List Nat)} (hl : pm.length = n)
    (h : ∀ (kV doc pm' : Value) (an : Option Addr) (cdv ct : Value) (us ws : List Value), us.length = a → ws.length = ks.length → bindArgs (PySem.W.fnOf x y (defArgs st) (defBody st) (defScope st) .none kV doc pm' an cdv ct) ⟨us, ks.zip ws⟩ = pure (ps.zip (permL pm (us ++ ws)))) (t : Bd x y st ps n sh) :
    Bd x y st ps n ((a, ks, pm) :: sh) := fun q hq => by
  rcases List.mem_cons.mp hq with rfl | hq
  · exact ⟨hl, h⟩
  · exact t q hq
/-- one more function stands -/
theorem Tab.more {Φ : Nat → Env → Res Val} {Γ : List D} {k : Nat} {f : Addr} {fd : FuncData} {x : Str} {st : Stmt} {N ps : List Str} {gv : List (Nat × Str)} {cl : List (Str × List Str)} {fs : List Row} {ms : List MRow} {i : Nat} {b : Ss} {n : Nat} {sh : List (Nat × List Str × List Nat)} (t : Tab Φ P w K mg base k fs ms) (tp : Top Γ K mg gv cl) (F : Fun K x x st f fd) (hm : mg x = some (.ref f)) (hn : ps.length = n)
    (hS : C8.scC N ps (defScope st) = true) (hck : ckSs (ccOf N st fs gv cl ms) b (defBody st) = true) (hF : ∀ e, Φ i e ≠ .fail → runF (b.ev Φ Γ) N.length e = Φ i e) (hb : Bd x x st ps n sh) : Tab Φ P w K mg base (k + 1) ((i, x, n, sh) :: fs) ms := by
  obtain ⟨oc, od, kV, doc, pm, an, cdv, ct, osl, rfl, lk, hcd⟩ := F.ex
  refine t.put ⟨f, _, ps, fn_by lk hcd tp t hS hck hF, hm, F.kp, hn, fun q hq => ?_⟩ (Nat.le_succ k)
  obtain ⟨h1, h2⟩ := hb q hq
  exact ⟨h1, fun s us ws _ hu hw => .of_eq (h2 kV doc pm an cdv ct us ws hu hw)⟩
/-- the law's function -/
theorem Tab.law {Φ : Nat → Env → Res Val} {Γ : List D} {k : Nat} {f fa : Addr} {fd : FuncData} {x y : Str} {st : Stmt} {N : List Str} {gv : List (Nat × Str)} {cl : List (Str × List Str)} {fs : List Row} {ms : List MRow} {b : Ss} {F : Env → Res Val} (t : ∀ base : Heap, K.In base → base.Ns mainGlobals mg → Tab Φ P w K mg base k fs ms) (tp : Top Γ K mg gv cl) (Fn : Fun K x x st f fd) (hm : mg x = some (.ref f)) (hfa : mg x = some (.ref fa))
    (hS : C8.scC N [y] (defScope st) = true) (hck : ckSs (ccOf N st fs gv cl ms) b (defBody st) = true) (hF : ∀ e, F e ≠ .fail → runF (b.ev Φ Γ) N.length e = F e)
    (hb : ∀ (kV doc pm : Value) (an : Option Addr) (cdv ct : Value) (u : Value), bindArgs (PySem.W.fnOf x x (defArgs st) (defBody st) (defScope st) .none kV doc pm an cdv ct) ⟨[u], []⟩ = pure [(y, u)]) :
    ∃ fd : FuncData, (∀ (s : Shared) (u : Value), BindsTo s fd ⟨[u], []⟩ [(y, u)]) ∧ ∀ base : Heap, K.In base → base.Ns mainGlobals mg → FnG P w K mg base (k + 1) fa fd [y] F := by
  have e := hfa.symm.trans hm
  cases e
  obtain ⟨oc, od, kV, doc, pm, an, cdv, ct, osl, rfl, lk, hcd⟩ := Fn.ex
  exact ⟨_, fun s u => .of_eq (hb kV doc pm an cdv ct u), fun base h1 h2 => fn_by lk hcd tp (t base h1 h2) hS hck hF⟩
end
end M

set_option Elab.async false
set_option linter.all false
set_option maxRecDepth 100000
set_option maxHeartbeats 4000000
/-! P1: for the plain part: how runs are reckoned. -/
namespace M
open PySem PySem.Spec PyProof.Rows L2
/-- the result of a call in the caller's slots -/
def Res.keep (r : Res Val) (e : Env) : Res Val := match r with
  | .ok x _ => .ok x e
  | .exc c y _ => .exc c y e
  | .fail => .fail
@[simp] theorem keep_ok {x : Val} {o e : Env} : (Res.ok x o).keep e = .ok x e := rfl
@[simp] theorem keep_fail {e : Env} : (Res.fail : Res Val).keep e = .fail := rfl
@[simp] theorem frz_ok {x : Val} {e : Env} : (Res.ok x e).frz = .ok x.frz e := rfl
@[simp] theorem frz_fail : (Res.fail : Res Val).frz = .fail := rfl
@[simp] theorem seq_nx {e : Env} {g : Env → Res Fl} : (Res.ok Fl.nx e).seq g = g e := rfl
@[simp] theorem seq_rt {x : Val} {e : Env} {g : Env → Res Fl} : (Res.ok (Fl.rt x) e).seq g = .ok (.rt x) e := rfl
@[simp] theorem turn_nx {e : Env} {g : Env → Res Fl} : (Res.ok Fl.nx e).turn g = g e := rfl
@[simp] theorem turn_rt {x : Val} {e : Env} {g : Env → Res Fl} : (Res.ok (Fl.rt x) e).turn g = .ok (.rt x) e := rfl
@[simp] theorem seq_fail {g : Env → Res Fl} : (Res.fail : Res Fl).seq g = .fail := rfl
@[simp] theorem turn_fail {g : Env → Res Fl} : (Res.fail : Res Fl).turn g = .fail := rfl
@[simp] theorem frz_p {d : D} : (Val.p d).frz = d := rfl
@[simp] theorem frz_own {t : Nat} {xs : List D} : (Val.own t xs).frz = .lst xs := rfl
@[simp] theorem frz_od {t : Nat} {ks : List Key} {xs : List D} : (Val.od t ks xs).frz = .dic ks xs := rfl
@[simp] theorem isOwn_p {d : D} : (Val.p d).isOwn = false := rfl
@[simp] theorem isOwn_own {t : Nat} {xs : List D} : (Val.own t xs).isOwn = true := rfl
@[simp] theorem isOwn_od {t : Nat} {ks : List Key} {xs : List D} : (Val.od t ks xs).isOwn = true := rfl
/-- calls with plain values -/
theorem callE_plain {F : Env → Res Val} {pm : List Nat} {avs : List AV} {e : Env} {ds : List D} (h : permL pm avs = plainA ds) (hn : pm.Nodup) (hl : ∀ i ∈ pm, i < avs.length) : callE F pm avs e = (F (ds.map fun d => some (.p d))).keep e := by
  have l0 : ∀ ds : List D, lns (plainA ds) = [] := fun ds => by
    induction ds with
    | nil => rfl
    | cons d ds ih => exact ih
  have a0 : ∀ (ds : List D) (k : Nat), argE e k (plainA ds) = some (ds.map fun d => some (.p d)) := fun ds => by
    induction ds with
    | nil => intro k; rfl
    | cons d ds ih => intro k; show (match valA e (.v (.p d)), argE e (k + 1) (plainA ds) with | some x, some r => some (some (x.retag (k + 1)) :: r) | _, _ => none) = _; rw [ih]; rfl
  have b0 : ∀ (ds : List D) (k : Nat) (e1 : Env), back e1 k (plainA ds) e = some e := fun ds => by
    induction ds with
    | nil => intro k e1; rfl
    | cons d ds ih => intro k e1; exact ih (k + 1) e1
  unfold callE
  rw [h, if_pos ⟨hn, hl, by rw [l0]; exact List.nodup_nil⟩, a0]
  simp only
  cases F (ds.map fun d => some (.p d)) with
  | ok x o => simp only [b0, lift_some, bind_ok, keep_ok]
  | exc c y o => simp only [b0, lift_some, bind_ok, Res.keep]
  | fail => rfl
@[simp] theorem callP1 {F : Env → Res Val} {a : D} {e : Env} : callP F 1 [0] [.v (.p a)] e = (F [some (.p a)]).keep e := by
  rw [show ∀ avs, callP F 1 [0] [avs] e = callE F [0] [avs] e from fun _ => rfl, callE_plain (ds := [a]) rfl (by decide) (by simp)]; rfl
@[simp] theorem callP2 {F : Env → Res Val} {a b : D} {e : Env} : callP F 2 [0, 1] [.v (.p a), .v (.p b)] e = (F [some (.p a), some (.p b)]).keep e := by
  rw [show ∀ p q, callP F 2 [0, 1] [p, q] e = callE F [0, 1] [p, q] e from fun _ _ => rfl, callE_plain (ds := [a, b]) rfl (by decide) (by simp)]; rfl
@[simp] theorem callP3 {F : Env → Res Val} {a b c : D} {e : Env} : callP F 3 [0, 1, 2] [.v (.p a), .v (.p b), .v (.p c)] e = (F [some (.p a), some (.p b), some (.p c)]).keep e := by
  rw [show ∀ p q r, callP F 3 [0, 1, 2] [p, q, r] e = callE F [0, 1, 2] [p, q, r] e from fun _ _ _ => rfl, callE_plain (ds := [a, b, c]) rfl (by decide) (by simp)]; rfl
@[simp] theorem callK1 {F : Env → Res Val} {a : D} {e : Env} : callKw F 0 1 [0] [] [a] e = (F [some (.p a)]).keep e := by
  unfold callKw; rw [if_pos ⟨rfl, rfl⟩, callE_plain (ds := [a]) rfl (by decide) (by simp [plainA])]; rfl
@[simp] theorem callK2 {F : Env → Res Val} {a b : D} {e : Env} : callKw F 0 2 [1, 0] [] [a, b] e = (F [some (.p b), some (.p a)]).keep e := by
  unfold callKw; rw [if_pos ⟨rfl, rfl⟩, callE_plain (ds := [b, a]) rfl (by decide) (by simp [plainA])]; rfl
@[simp] theorem callK3 {F : Env → Res Val} {a b c : D} {e : Env} : callKw F 0 3 [2, 1, 0] [] [a, b, c] e = (F [some (.p c), some (.p b), some (.p a)]).keep e := by
  unfold callKw; rw [if_pos ⟨rfl, rfl⟩, callE_plain (ds := [c, b, a]) rfl (by decide) (by simp [plainA])]; rfl
/-- the jar lent, and a value -/
theorem callJ2 {F : Env → Res Val} {j t : Nat} {xs ys : List D} {b : D} {x : Val} {o : Env} {e : Env} (he : e[j]? = some (some (.own t xs))) (hF : F [some (.own 1 xs), some (.p b)] = .ok x (some (.own 1 ys) :: o)) :
    callP F 2 [0, 1] [.ln j, .v (.p b)] e = .ok x (e.set j (some (.own t ys))) := by
  unfold callP callE
  simp only [permL, List.length_cons, List.length_nil, List.filterMap_cons, List.filterMap_nil, List.getElem?_cons_zero, List.getElem?_cons_succ, lns, argE, valA, he]
  simp [Val.retag, hF, back, he, Val.tag]
theorem callJ1 {F : Env → Res Val} {j t : Nat} {xs ys : List D} {x : Val} {o : Env} {e : Env} (he : e[j]? = some (some (.own t xs))) (hF : F [some (.own 1 xs)] = .ok x (some (.own 1 ys) :: o)) :
    callP F 1 [0] [.ln j] e = .ok x (e.set j (some (.own t ys))) := by
  unfold callP callE
  simp only [permL, List.length_cons, List.length_nil, List.filterMap_cons, List.filterMap_nil, List.getElem?_cons_zero, List.getElem?_cons_succ, lns, argE, valA, he]
  simp [Val.retag, hF, back, he, Val.tag]
/-- a new list handed over -/
theorem callN1 {F : Env → Res Val} {xs : List D} {x : Val} {o : Env} {e : Env} {t : Nat} (hF : F [some (.own 1 xs)] = .ok x o) : callP F 1 [0] [.v (.own t xs)] e = .ok x e := by
  unfold callP callE
  simp [permL, lns, argE, valA, Val.retag, hF, back]
/-! ### numbers -/
theorem mod_pos {i j : Int} (h : 0 < j) : modS (.int i) (.int j) = some (.p (.int (i % j))) := by
  show (if j ≠ 0 then some (Val.p (.int (i.fmod j))) else none) = _
  rw [if_pos (by omega), Int.fmod_eq_emod_of_nonneg i (by omega)]
theorem fdiv_pos {i j : Int} (h : 0 < j) (h2 : j < 1073741824) : fdivS (.int i) (.int j) = some (.p (.int (i / j))) := by
  show (if j ≠ 0 ∧ j.natAbs < 1073741824 then some (Val.p (.int (i.fdiv j))) else none) = _
  rw [if_pos ⟨by omega, by omega⟩, Int.fdiv_eq_ediv_of_nonneg i (by omega)]
theorem log_small {i : Int} (h : i.natAbs < 2 ^ 400000) : i.natAbs.log2 < 400000 := by
  by_cases z : i.natAbs = 0
  · rw [z]; decide
  · exact (Nat.log2_lt z).mpr h
theorem mul_small {i j : Int} (h : i.natAbs < 2 ^ 400000) (h' : j.natAbs < 2 ^ 400000) : mulS (.int i) (.int j) = some (.p (.int (i * j))) := by
  show (if i.natAbs.log2 + j.natAbs.log2 < 1000000 then some (Val.p (.int (i * j))) else none) = _
  have h1 := log_small h
  have h2 := log_small h'
  rw [if_pos (by omega)]
theorem mul_64 {i j : Int} (h : i.natAbs < 2 ^ 64) (h' : j.natAbs < 2 ^ 64) : mulS (.int i) (.int j) = some (.p (.int (i * j))) :=
  mul_small (Nat.lt_of_lt_of_le h (Nat.pow_le_pow_right (by decide) (by decide))) (Nat.lt_of_lt_of_le h' (Nat.pow_le_pow_right (by decide) (by decide)))
end M

set_option Elab.async false
set_option linter.all false
set_option maxRecDepth 100000
set_option maxHeartbeats 4000000
/-! P2: runs, step by step. -/
namespace M
open PySem PySem.Spec PyProof.Rows L2
section
variable {Φ : Nat → Env → Res Val} {Γ : List D} {e : Env}
theorem evE_k {c : KD} : E.ev Φ Γ (E.k c) e = (.ok (.p c.d) e : Res Val) := rfl
theorem evE_v {i : Nat} : E.ev Φ Γ (E.v i) e = (getv i e : Res Val) := rfl
theorem evE_mv {i : Nat} : E.ev Φ Γ (E.mv i) e = (mvv i e : Res Val) := rfl
theorem evE_gv {j : Nat} : E.ev Φ Γ (E.gv j) e = ((match Γ[j]? with | some d => .ok (.p d) e | none => .fail) : Res Val) := rfl
theorem evE_ty {t : Ty} : E.ev Φ Γ (E.ty t) e = (.ok (.p (.ty t.nm)) e : Res Val) := rfl
theorem evE_bop {o : Bop} {a : E} {b : E} : E.ev Φ Γ (E.bop o a b) e = ((a.ev Φ Γ e).frz.bind fun x e1 => (b.ev Φ Γ e1).frz.bind fun y e2 => lift (bopS o x y) e2 : Res Val) := rfl
theorem evE_neg {a : E} : E.ev Φ Γ (E.neg a) e = ((a.ev Φ Γ e).frz.bind fun x e1 => lift (negS x) e1 : Res Val) := rfl
theorem evE_cmp {o : Cop} {a : E} {b : E} : E.ev Φ Γ (E.cmp o a b) e = ((a.ev Φ Γ e).frz.bind fun x e1 => (b.ev Φ Γ e1).frz.bind fun y e2 => (lift (copS o x y) e2).bind fun z e3 => .ok (bv z) e3 : Res Val) := rfl
theorem evE_cmp2 {o : Cop} {o' : Cop} {a : E} {b : E} {c : E} : E.ev Φ Γ (E.cmp2 o o' a b c) e = ((a.ev Φ Γ e).frz.bind fun x e1 => (b.ev Φ Γ e1).frz.bind fun y e2 => (lift (copS o x y) e2).bind fun z e3 => if z = true then (c.ev Φ Γ e3).frz.bind fun u e4 => (lift (copS o' y u) e4).bind fun z' e5 => .ok (bv z') e5 else .ok (bv false) e3 : Res Val) := rfl
theorem evE_no {a : E} : E.ev Φ Γ (E.no a) e = ((a.ev Φ Γ e).frz.bind fun x e1 => (lift (truS x) e1).bind fun z e2 => .ok (bv (!z)) e2 : Res Val) := rfl
theorem evE_and {a : E} {b : E} : E.ev Φ Γ (E.and a b) e = (((a.ev Φ Γ e).frz.bind fun x e1 => (lift (truS x) e1).bind fun z e2 => if z = true then (b.ev Φ Γ e2).frz else .ok x e2).bind fun d e => .ok (.p d) e : Res Val) := rfl
theorem evE_or {a : E} {b : E} : E.ev Φ Γ (E.or a b) e = (((a.ev Φ Γ e).frz.bind fun x e1 => (lift (truS x) e1).bind fun z e2 => if z = true then .ok x e2 else (b.ev Φ Γ e2).frz).bind fun d e => .ok (.p d) e : Res Val) := rfl
theorem evE_ite {t : T} {a : E} {b : E} : E.ev Φ Γ (E.ite t a b) e = ((t.ev Φ Γ e).bind fun z e1 => if z = true then a.ev Φ Γ e1 else b.ev Φ Γ e1 : Res Val) := rfl
theorem evE_tup {es : Es} : E.ev Φ Γ (E.tup es) e = ((es.ev Φ Γ e).bind fun xs e1 => lift (tupS xs) e1 : Res Val) := rfl
theorem evE_lst {es : Es} : E.ev Φ Γ (E.lst es) e = ((es.ev Φ Γ e).bind fun xs e1 => lift (lstS xs) e1 : Res Val) := rfl
theorem evE_ix {a : E} {b : E} : E.ev Φ Γ (E.ix a b) e = ((a.ev Φ Γ e).frz.bind fun x e1 => (b.ev Φ Γ e1).frz.bind fun y e2 => (lift (idxS x y) e2).bind fun z e3 => .ok (.p z) e3 : Res Val) := rfl
theorem evE_ixb {i : Nat} {b : E} : E.ev Φ Γ (E.ixb i b) e = (idxb i (fun e => (b.ev Φ Γ e).frz) e : Res Val) := rfl
theorem evE_sl {a : E} {lo : Oe} {hi : Oe} : E.ev Φ Γ (E.sl a lo hi) e = ((a.ev Φ Γ e).frz.bind fun x e1 => (lo.ev Φ Γ e1).bind fun lo e2 => (hi.ev Φ Γ e2).bind fun hi e3 => lift (sliceS x lo hi) e3 : Res Val) := rfl
theorem evE_bi {b : Bi} {es : Es} : E.ev Φ Γ (E.bi b es) e = ((es.ev Φ Γ e).bind fun xs e1 => lift (b.sem xs) e1 : Res Val) := rfl
theorem evE_sset {a : E} : E.ev Φ Γ (E.sset a) e = ((a.ev Φ Γ e).frz.bind fun x e1 => lift (srtSetS x) e1 : Res Val) := rfl
theorem evE_count {a : E} {b : E} : E.ev Φ Γ (E.count a b) e = (countE (fun e => (a.ev Φ Γ e).frz) (fun e => (b.ev Φ Γ e).frz) e : Res Val) := rfl
theorem evE_dsp {r : List (KD × KD)} : E.ev Φ Γ (E.dsp r) e = (lift (dispS r) e : Res Val) := rfl
theorem evE_dsp0  : E.ev Φ Γ E.dsp0 e = (.ok (.od 0 [] []) e : Res Val) := rfl
theorem evE_lenb {i : Nat} : E.ev Φ Γ (E.lenb i) e = (lenb i e : Res Val) := rfl
theorem evE_call {f : Nat} {pm : List Nat} {es : As} : E.ev Φ Γ (E.call f pm es) e = ((es.ev Φ Γ e).bind (callP (Φ f) es.len pm) : Res Val) := rfl
theorem evE_callk {f : Nat} {pm : List Nat} {es : Es} {ks : Ks} : E.ev Φ Γ (E.callk f pm es ks) e = ((es.ev Φ Γ e).bind fun ds e1 => (ks.ev Φ Γ e1).bind fun kd e2 => callKw (Φ f) es.len ks.len pm ds kd e2 : Res Val) := rfl
theorem evE_comp {a : E} {t : Tg} {it : It} {c : Oc} {vs : List Nat} : E.ev Φ Γ (E.comp a t it c vs) e = ((it.ev Φ Γ e).bind fun items e1 => compS t.ofC (c.ev Φ Γ) (fun e => (a.ev Φ Γ e).frz) vs items [] e1 : Res Val) := rfl
theorem evE_app {i : Nat} {a : E} : E.ev Φ Γ (E.app i a) e = (appE i (fun e => (a.ev Φ Γ e).frz) e : Res Val) := rfl
theorem evE_fz {a : E} : E.ev Φ Γ (E.fz a) e = ((a.ev Φ Γ e).frz.bind fun d e1 => .ok (.p d) e1 : Res Val) := rfl
theorem evE_never  : E.ev Φ Γ E.never e = (.fail : Res Val) := rfl
theorem evT_tr {a : E} : T.ev Φ Γ (T.tr a) e = ((a.ev Φ Γ e).frz.bind fun x e1 => lift (truS x) e1 : Res Bool) := rfl
theorem evT_cmp {o : Cop} {a : E} {b : E} : T.ev Φ Γ (T.cmp o a b) e = ((a.ev Φ Γ e).frz.bind fun x e1 => (b.ev Φ Γ e1).frz.bind fun y e2 => lift (copS o x y) e2 : Res Bool) := rfl
theorem evT_cmp2 {o : Cop} {o' : Cop} {a : E} {b : E} {c : E} : T.ev Φ Γ (T.cmp2 o o' a b c) e = ((a.ev Φ Γ e).frz.bind fun x e1 => (b.ev Φ Γ e1).frz.bind fun y e2 => (lift (copS o x y) e2).bind fun z e3 => if z = true then (c.ev Φ Γ e3).frz.bind fun u e4 => lift (copS o' y u) e4 else .ok false e3 : Res Bool) := rfl
theorem evT_no {a : T} : T.ev Φ Γ (T.no a) e = ((a.ev Φ Γ e).bind fun z e1 => .ok (!z) e1 : Res Bool) := rfl
theorem evT_and {a : T} {b : T} : T.ev Φ Γ (T.and a b) e = ((a.ev Φ Γ e).bind fun z e1 => if z = true then b.ev Φ Γ e1 else .ok false e1 : Res Bool) := rfl
theorem evT_or {a : T} {b : T} : T.ev Φ Γ (T.or a b) e = ((a.ev Φ Γ e).bind fun z e1 => if z = true then .ok true e1 else b.ev Φ Γ e1 : Res Bool) := rfl
theorem evEs_nil  : Es.ev Φ Γ Es.nil e = (.ok [] e : Res (List D)) := rfl
theorem evEs_cons {a : E} {r : Es} : Es.ev Φ Γ (Es.cons a r) e = ((a.ev Φ Γ e).frz.bind fun x e1 => (r.ev Φ Γ e1).bind fun xs e2 => .ok (x :: xs) e2 : Res (List D)) := rfl
theorem evEs_star {a : E} {r : Es} : Es.ev Φ Γ (Es.star a r) e = ((a.ev Φ Γ e).frz.bind fun x e1 => (lift (itemsS x) e1).bind fun ys e2 => (r.ev Φ Γ e2).bind fun xs e3 => .ok (ys ++ xs) e3 : Res (List D)) := rfl
theorem evAs_nil  : As.ev Φ Γ As.nil e = (.ok [] e : Res (List AV)) := rfl
theorem evAs_v {a : E} {r : As} : As.ev Φ Γ (As.v a r) e = ((a.ev Φ Γ e).bind fun x e1 => (r.ev Φ Γ e1).bind fun xs e2 => .ok (.v x :: xs) e2 : Res (List AV)) := rfl
theorem evAs_ln {i : Nat} {r : As} : As.ev Φ Γ (As.ln i r) e = ((match e[i]? with | some (some _) => (r.ev Φ Γ e).bind fun xs e2 => .ok (.ln i :: xs) e2 | _ => .fail) : Res (List AV)) := rfl
theorem evKs_nil  : Ks.ev Φ Γ Ks.nil e = (.ok [] e : Res (List D)) := rfl
theorem evKs_cons {x : Str} {a : E} {r : Ks} : Ks.ev Φ Γ (Ks.cons x a r) e = ((a.ev Φ Γ e).frz.bind fun x e1 => (r.ev Φ Γ e1).bind fun xs e2 => .ok (x :: xs) e2 : Res (List D)) := rfl
theorem evOe_no  : Oe.ev Φ Γ Oe.no e = (.ok none e : Res (Option Int)) := rfl
theorem evOe_some {a : E} : Oe.ev Φ Γ (Oe.some a) e = ((a.ev Φ Γ e).frz.bind optI : Res (Option Int)) := rfl
theorem evIt_seq {a : E} : It.ev Φ Γ (It.seq a) e = ((a.ev Φ Γ e).frz.bind fun x e1 => lift (walkS x) e1 : Res (List D)) := rfl
theorem evIt_rng1 {a : E} : It.ev Φ Γ (It.rng1 a) e = ((a.ev Φ Γ e).frz.bind fun x e1 => lift (rangeS [x]) e1 : Res (List D)) := by
  show (((a.ev Φ Γ e).frz.bind fun x e1 => .ok [x] e1).bind fun xs e1 => if xs.length = 1 then lift (rangeS xs) e1 else .fail : Res (List D)) = _
  cases (a.ev Φ Γ e).frz with
  | ok x o => rw [bind_ok, bind_ok, bind_ok, if_pos (show [x].length = 1 from rfl)]
  | exc c y o => rfl
  | fail => rfl
theorem evIt_rng2 {a : E} {b : E} : It.ev Φ Γ (It.rng2 a b) e = (((a.ev Φ Γ e).frz.bind fun x e1 => (b.ev Φ Γ e1).frz.bind fun y e2 => .ok [x, y] e2).bind fun xs e1 => if xs.length = 2 then lift (rangeS xs) e1 else .fail : Res (List D)) := rfl
theorem evIt_enum {a : E} : It.ev Φ Γ (It.enum a) e = ((a.ev Φ Γ e).frz.bind fun x e1 => match itemsS x with | some ys => .ok (enumS 0 ys) e1 | none => match x with | .fl ys => .ok (enumS 0 ys) e1 | _ => .fail : Res (List D)) := rfl
theorem evOc_no  : Oc.ev Φ Γ Oc.no e = (.ok true e : Res Bool) := rfl
theorem evOc_yes {t : T} : Oc.ev Φ Γ (Oc.yes t) e = (t.ev Φ Γ e : Res Bool) := rfl
theorem evS_pass  : S.ev Φ Γ S.pass e = (.ok .nx e : Res Fl) := rfl
theorem evS_brk  : S.ev Φ Γ S.brk e = (.ok .bk e : Res Fl) := rfl
theorem evS_cnt  : S.ev Φ Γ S.cnt e = (.ok .ct e : Res Fl) := rfl
theorem evS_doc  : S.ev Φ Γ S.doc e = (.ok .nx e : Res Fl) := rfl
theorem evS_ex {a : E} : S.ev Φ Γ (S.ex a) e = ((a.ev Φ Γ e).bind fun _ e1 => .ok .nx e1 : Res Fl) := rfl
theorem evS_ret {a : E} : S.ev Φ Γ (S.ret a) e = ((a.ev Φ Γ e).bind fun x e1 => .ok (.rt x) e1 : Res Fl) := rfl
theorem evS_ret0  : S.ev Φ Γ S.ret0 e = (.ok (.rt (.p .non)) e : Res Fl) := rfl
theorem evS_set {i : Nat} {a : E} : S.ev Φ Γ (S.set i a) e = ((a.ev Φ Γ e).bind fun v e1 => .ok .nx (e1.set i (some v)) : Res Fl) := rfl
theorem evS_asg {t : Tg} {a : E} : S.ev Φ Γ (S.asg t a) e = ((a.ev Φ Γ e).frz.bind (t.ev Φ Γ) : Res Fl) := rfl
theorem evS_par {is : List Nat} {es : As} : S.ev Φ Γ (S.par is es) e = ((es.ev Φ Γ e).bind (parS is) : Res Fl) := rfl
theorem evS_aug {o : Bop} {i : Nat} {a : E} : S.ev Φ Γ (S.aug o i a) e = (augS o i (fun e => (a.ev Φ Γ e).frz) e : Res Fl) := rfl
theorem evS_iff {t : T} {a : Ss} {b : Ss} : S.ev Φ Γ (S.iff t a b) e = ((t.ev Φ Γ e).bind fun z e1 => if z = true then a.ev Φ Γ e1 else b.ev Φ Γ e1 : Res Fl) := rfl
theorem evS_whl {t : T} {b : Ss} : S.ev Φ Γ (S.whl t b) e = (whileC (t.ev Φ Γ) (b.ev Φ Γ) e : Res Fl) := rfl
theorem evS_fr {t : Tg} {it : It} {b : Ss} : S.ev Φ Γ (S.fr t it b) e = ((it.ev Φ Γ e).bind fun items e1 => forS (t.ev Φ Γ) (b.ev Φ Γ) items e1 : Res Fl) := rfl
theorem evS_never  : S.ev Φ Γ S.never e = (.fail : Res Fl) := rfl
theorem evSs_nil  : Ss.ev Φ Γ Ss.nil e = (.ok .nx e : Res Fl) := rfl
theorem evSs_cons {s : S} {r : Ss} : Ss.ev Φ Γ (Ss.cons s r) e = ((s.ev Φ Γ e).seq (r.ev Φ Γ) : Res Fl) := rfl
theorem evTg_n {i : Nat} {d : D} : Tg.ev Φ Γ (.n i) d e = .ok .nx (e.set i (some (.p d))) := rfl
theorem evTg_t {ts : Tgs} {d : D} : Tg.ev Φ Γ (.t ts) d e = tupT ts.len (ts.ev Φ Γ) d e := rfl
theorem evTg_sub {i : Nat} {b : E} {d : D} : Tg.ev Φ Γ (.sub i b) d e = subT i (fun e => (b.ev Φ Γ e).frz) d e := rfl
theorem evTgs_nil {ds : List D} : Tgs.ev Φ Γ .nil ds e = nilT ds e := rfl
theorem evTgs_cons {t : Tg} {r : Tgs} {ds : List D} : Tgs.ev Φ Γ (.cons t r) ds e = consT (t.ev Φ Γ) (r.ev Φ Γ) ds e := rfl
theorem cE_k {o0 : Option Val} {r0 : Env} {c : KD} : E.ev Φ Γ (E.k c) (o0 :: r0) = (fun (e : Env) => ((.ok (.p c.d) e : Res Val) : Res Val)) (o0 :: r0) := evE_k
theorem cE_v {o0 : Option Val} {r0 : Env} {i : Nat} : E.ev Φ Γ (E.v i) (o0 :: r0) = (fun (e : Env) => ((getv i e : Res Val) : Res Val)) (o0 :: r0) := evE_v
theorem cE_mv {o0 : Option Val} {r0 : Env} {i : Nat} : E.ev Φ Γ (E.mv i) (o0 :: r0) = (fun (e : Env) => ((mvv i e : Res Val) : Res Val)) (o0 :: r0) := evE_mv
theorem cE_gv {o0 : Option Val} {r0 : Env} {j : Nat} : E.ev Φ Γ (E.gv j) (o0 :: r0) = (fun (e : Env) => (((match Γ[j]? with | some d => .ok (.p d) e | none => .fail) : Res Val) : Res Val)) (o0 :: r0) := evE_gv
theorem cE_ty {o0 : Option Val} {r0 : Env} {t : Ty} : E.ev Φ Γ (E.ty t) (o0 :: r0) = (fun (e : Env) => ((.ok (.p (.ty t.nm)) e : Res Val) : Res Val)) (o0 :: r0) := evE_ty
theorem cE_bop {o0 : Option Val} {r0 : Env} {o : Bop} {a : E} {b : E} : E.ev Φ Γ (E.bop o a b) (o0 :: r0) = (fun (e : Env) => (((a.ev Φ Γ e).frz.bind fun x e1 => (b.ev Φ Γ e1).frz.bind fun y e2 => lift (bopS o x y) e2 : Res Val) : Res Val)) (o0 :: r0) := evE_bop
theorem cE_neg {o0 : Option Val} {r0 : Env} {a : E} : E.ev Φ Γ (E.neg a) (o0 :: r0) = (fun (e : Env) => (((a.ev Φ Γ e).frz.bind fun x e1 => lift (negS x) e1 : Res Val) : Res Val)) (o0 :: r0) := evE_neg
theorem cE_cmp {o0 : Option Val} {r0 : Env} {o : Cop} {a : E} {b : E} : E.ev Φ Γ (E.cmp o a b) (o0 :: r0) = (fun (e : Env) => (((a.ev Φ Γ e).frz.bind fun x e1 => (b.ev Φ Γ e1).frz.bind fun y e2 => (lift (copS o x y) e2).bind fun z e3 => .ok (bv z) e3 : Res Val) : Res Val)) (o0 :: r0) := evE_cmp
theorem cE_cmp2 {o0 : Option Val} {r0 : Env} {o : Cop} {o' : Cop} {a : E} {b : E} {c : E} : E.ev Φ Γ (E.cmp2 o o' a b c) (o0 :: r0) = (fun (e : Env) => (((a.ev Φ Γ e).frz.bind fun x e1 => (b.ev Φ Γ e1).frz.bind fun y e2 => (lift (copS o x y) e2).bind fun z e3 => if z = true then (c.ev Φ Γ e3).frz.bind fun u e4 => (lift (copS o' y u) e4).bind fun z' e5 => .ok (bv z') e5 else .ok (bv false) e3 : Res Val) : Res Val)) (o0 :: r0) := evE_cmp2
theorem cE_no {o0 : Option Val} {r0 : Env} {a : E} : E.ev Φ Γ (E.no a) (o0 :: r0) = (fun (e : Env) => (((a.ev Φ Γ e).frz.bind fun x e1 => (lift (truS x) e1).bind fun z e2 => .ok (bv (!z)) e2 : Res Val) : Res Val)) (o0 :: r0) := evE_no
theorem cE_and {o0 : Option Val} {r0 : Env} {a : E} {b : E} : E.ev Φ Γ (E.and a b) (o0 :: r0) = (fun (e : Env) => ((((a.ev Φ Γ e).frz.bind fun x e1 => (lift (truS x) e1).bind fun z e2 => if z = true then (b.ev Φ Γ e2).frz else .ok x e2).bind fun d e => .ok (.p d) e : Res Val) : Res Val)) (o0 :: r0) := evE_and
theorem cE_or {o0 : Option Val} {r0 : Env} {a : E} {b : E} : E.ev Φ Γ (E.or a b) (o0 :: r0) = (fun (e : Env) => ((((a.ev Φ Γ e).frz.bind fun x e1 => (lift (truS x) e1).bind fun z e2 => if z = true then .ok x e2 else (b.ev Φ Γ e2).frz).bind fun d e => .ok (.p d) e : Res Val) : Res Val)) (o0 :: r0) := evE_or
theorem cE_ite {o0 : Option Val} {r0 : Env} {t : T} {a : E} {b : E} : E.ev Φ Γ (E.ite t a b) (o0 :: r0) = (fun (e : Env) => (((t.ev Φ Γ e).bind fun z e1 => if z = true then a.ev Φ Γ e1 else b.ev Φ Γ e1 : Res Val) : Res Val)) (o0 :: r0) := evE_ite
theorem cE_tup {o0 : Option Val} {r0 : Env} {es : Es} : E.ev Φ Γ (E.tup es) (o0 :: r0) = (fun (e : Env) => (((es.ev Φ Γ e).bind fun xs e1 => lift (tupS xs) e1 : Res Val) : Res Val)) (o0 :: r0) := evE_tup
theorem cE_lst {o0 : Option Val} {r0 : Env} {es : Es} : E.ev Φ Γ (E.lst es) (o0 :: r0) = (fun (e : Env) => (((es.ev Φ Γ e).bind fun xs e1 => lift (lstS xs) e1 : Res Val) : Res Val)) (o0 :: r0) := evE_lst
theorem cE_ix {o0 : Option Val} {r0 : Env} {a : E} {b : E} : E.ev Φ Γ (E.ix a b) (o0 :: r0) = (fun (e : Env) => (((a.ev Φ Γ e).frz.bind fun x e1 => (b.ev Φ Γ e1).frz.bind fun y e2 => (lift (idxS x y) e2).bind fun z e3 => .ok (.p z) e3 : Res Val) : Res Val)) (o0 :: r0) := evE_ix
theorem cE_ixb {o0 : Option Val} {r0 : Env} {i : Nat} {b : E} : E.ev Φ Γ (E.ixb i b) (o0 :: r0) = (fun (e : Env) => ((idxb i (fun e => (b.ev Φ Γ e).frz) e : Res Val) : Res Val)) (o0 :: r0) := evE_ixb
theorem cE_sl {o0 : Option Val} {r0 : Env} {a : E} {lo : Oe} {hi : Oe} : E.ev Φ Γ (E.sl a lo hi) (o0 :: r0) = (fun (e : Env) => (((a.ev Φ Γ e).frz.bind fun x e1 => (lo.ev Φ Γ e1).bind fun lo e2 => (hi.ev Φ Γ e2).bind fun hi e3 => lift (sliceS x lo hi) e3 : Res Val) : Res Val)) (o0 :: r0) := evE_sl
theorem cE_bi {o0 : Option Val} {r0 : Env} {b : Bi} {es : Es} : E.ev Φ Γ (E.bi b es) (o0 :: r0) = (fun (e : Env) => (((es.ev Φ Γ e).bind fun xs e1 => lift (b.sem xs) e1 : Res Val) : Res Val)) (o0 :: r0) := evE_bi
theorem cE_sset {o0 : Option Val} {r0 : Env} {a : E} : E.ev Φ Γ (E.sset a) (o0 :: r0) = (fun (e : Env) => (((a.ev Φ Γ e).frz.bind fun x e1 => lift (srtSetS x) e1 : Res Val) : Res Val)) (o0 :: r0) := evE_sset
theorem cE_count {o0 : Option Val} {r0 : Env} {a : E} {b : E} : E.ev Φ Γ (E.count a b) (o0 :: r0) = (fun (e : Env) => ((countE (fun e => (a.ev Φ Γ e).frz) (fun e => (b.ev Φ Γ e).frz) e : Res Val) : Res Val)) (o0 :: r0) := evE_count
theorem cE_dsp {o0 : Option Val} {r0 : Env} {r : List (KD × KD)} : E.ev Φ Γ (E.dsp r) (o0 :: r0) = (fun (e : Env) => ((lift (dispS r) e : Res Val) : Res Val)) (o0 :: r0) := evE_dsp
theorem cE_dsp0 {o0 : Option Val} {r0 : Env}  : E.ev Φ Γ E.dsp0 (o0 :: r0) = (fun (e : Env) => ((.ok (.od 0 [] []) e : Res Val) : Res Val)) (o0 :: r0) := evE_dsp0
theorem cE_lenb {o0 : Option Val} {r0 : Env} {i : Nat} : E.ev Φ Γ (E.lenb i) (o0 :: r0) = (fun (e : Env) => ((lenb i e : Res Val) : Res Val)) (o0 :: r0) := evE_lenb
theorem cE_call {o0 : Option Val} {r0 : Env} {f : Nat} {pm : List Nat} {es : As} : E.ev Φ Γ (E.call f pm es) (o0 :: r0) = (fun (e : Env) => (((es.ev Φ Γ e).bind (callP (Φ f) es.len pm) : Res Val) : Res Val)) (o0 :: r0) := evE_call
theorem cE_callk {o0 : Option Val} {r0 : Env} {f : Nat} {pm : List Nat} {es : Es} {ks : Ks} : E.ev Φ Γ (E.callk f pm es ks) (o0 :: r0) = (fun (e : Env) => (((es.ev Φ Γ e).bind fun ds e1 => (ks.ev Φ Γ e1).bind fun kd e2 => callKw (Φ f) es.len ks.len pm ds kd e2 : Res Val) : Res Val)) (o0 :: r0) := evE_callk
theorem cE_comp {o0 : Option Val} {r0 : Env} {a : E} {t : Tg} {it : It} {c : Oc} {vs : List Nat} : E.ev Φ Γ (E.comp a t it c vs) (o0 :: r0) = (fun (e : Env) => (((it.ev Φ Γ e).bind fun items e1 => compS t.ofC (c.ev Φ Γ) (fun e => (a.ev Φ Γ e).frz) vs items [] e1 : Res Val) : Res Val)) (o0 :: r0) := evE_comp
theorem cE_app {o0 : Option Val} {r0 : Env} {i : Nat} {a : E} : E.ev Φ Γ (E.app i a) (o0 :: r0) = (fun (e : Env) => ((appE i (fun e => (a.ev Φ Γ e).frz) e : Res Val) : Res Val)) (o0 :: r0) := evE_app
theorem cE_fz {o0 : Option Val} {r0 : Env} {a : E} : E.ev Φ Γ (E.fz a) (o0 :: r0) = (fun (e : Env) => (((a.ev Φ Γ e).frz.bind fun d e1 => .ok (.p d) e1 : Res Val) : Res Val)) (o0 :: r0) := evE_fz
theorem cE_never {o0 : Option Val} {r0 : Env}  : E.ev Φ Γ E.never (o0 :: r0) = (fun (e : Env) => ((.fail : Res Val) : Res Val)) (o0 :: r0) := evE_never
theorem cT_tr {o0 : Option Val} {r0 : Env} {a : E} : T.ev Φ Γ (T.tr a) (o0 :: r0) = (fun (e : Env) => (((a.ev Φ Γ e).frz.bind fun x e1 => lift (truS x) e1 : Res Bool) : Res Bool)) (o0 :: r0) := evT_tr
theorem cT_cmp {o0 : Option Val} {r0 : Env} {o : Cop} {a : E} {b : E} : T.ev Φ Γ (T.cmp o a b) (o0 :: r0) = (fun (e : Env) => (((a.ev Φ Γ e).frz.bind fun x e1 => (b.ev Φ Γ e1).frz.bind fun y e2 => lift (copS o x y) e2 : Res Bool) : Res Bool)) (o0 :: r0) := evT_cmp
theorem cT_cmp2 {o0 : Option Val} {r0 : Env} {o : Cop} {o' : Cop} {a : E} {b : E} {c : E} : T.ev Φ Γ (T.cmp2 o o' a b c) (o0 :: r0) = (fun (e : Env) => (((a.ev Φ Γ e).frz.bind fun x e1 => (b.ev Φ Γ e1).frz.bind fun y e2 => (lift (copS o x y) e2).bind fun z e3 => if z = true then (c.ev Φ Γ e3).frz.bind fun u e4 => lift (copS o' y u) e4 else .ok false e3 : Res Bool) : Res Bool)) (o0 :: r0) := evT_cmp2
theorem cT_no {o0 : Option Val} {r0 : Env} {a : T} : T.ev Φ Γ (T.no a) (o0 :: r0) = (fun (e : Env) => (((a.ev Φ Γ e).bind fun z e1 => .ok (!z) e1 : Res Bool) : Res Bool)) (o0 :: r0) := evT_no
theorem cT_and {o0 : Option Val} {r0 : Env} {a : T} {b : T} : T.ev Φ Γ (T.and a b) (o0 :: r0) = (fun (e : Env) => (((a.ev Φ Γ e).bind fun z e1 => if z = true then b.ev Φ Γ e1 else .ok false e1 : Res Bool) : Res Bool)) (o0 :: r0) := evT_and
theorem cT_or {o0 : Option Val} {r0 : Env} {a : T} {b : T} : T.ev Φ Γ (T.or a b) (o0 :: r0) = (fun (e : Env) => (((a.ev Φ Γ e).bind fun z e1 => if z = true then .ok true e1 else b.ev Φ Γ e1 : Res Bool) : Res Bool)) (o0 :: r0) := evT_or
theorem cEs_nil {o0 : Option Val} {r0 : Env}  : Es.ev Φ Γ Es.nil (o0 :: r0) = (fun (e : Env) => ((.ok [] e : Res (List D)) : Res (List D))) (o0 :: r0) := evEs_nil
theorem cEs_cons {o0 : Option Val} {r0 : Env} {a : E} {r : Es} : Es.ev Φ Γ (Es.cons a r) (o0 :: r0) = (fun (e : Env) => (((a.ev Φ Γ e).frz.bind fun x e1 => (r.ev Φ Γ e1).bind fun xs e2 => .ok (x :: xs) e2 : Res (List D)) : Res (List D))) (o0 :: r0) := evEs_cons
theorem cEs_star {o0 : Option Val} {r0 : Env} {a : E} {r : Es} : Es.ev Φ Γ (Es.star a r) (o0 :: r0) = (fun (e : Env) => (((a.ev Φ Γ e).frz.bind fun x e1 => (lift (itemsS x) e1).bind fun ys e2 => (r.ev Φ Γ e2).bind fun xs e3 => .ok (ys ++ xs) e3 : Res (List D)) : Res (List D))) (o0 :: r0) := evEs_star
theorem cAs_nil {o0 : Option Val} {r0 : Env}  : As.ev Φ Γ As.nil (o0 :: r0) = (fun (e : Env) => ((.ok [] e : Res (List AV)) : Res (List AV))) (o0 :: r0) := evAs_nil
theorem cAs_v {o0 : Option Val} {r0 : Env} {a : E} {r : As} : As.ev Φ Γ (As.v a r) (o0 :: r0) = (fun (e : Env) => (((a.ev Φ Γ e).bind fun x e1 => (r.ev Φ Γ e1).bind fun xs e2 => .ok (.v x :: xs) e2 : Res (List AV)) : Res (List AV))) (o0 :: r0) := evAs_v
theorem cAs_ln {o0 : Option Val} {r0 : Env} {i : Nat} {r : As} : As.ev Φ Γ (As.ln i r) (o0 :: r0) = (fun (e : Env) => (((match e[i]? with | some (some _) => (r.ev Φ Γ e).bind fun xs e2 => .ok (.ln i :: xs) e2 | _ => .fail) : Res (List AV)) : Res (List AV))) (o0 :: r0) := evAs_ln
theorem cKs_nil {o0 : Option Val} {r0 : Env}  : Ks.ev Φ Γ Ks.nil (o0 :: r0) = (fun (e : Env) => ((.ok [] e : Res (List D)) : Res (List D))) (o0 :: r0) := evKs_nil
theorem cKs_cons {o0 : Option Val} {r0 : Env} {x : Str} {a : E} {r : Ks} : Ks.ev Φ Γ (Ks.cons x a r) (o0 :: r0) = (fun (e : Env) => (((a.ev Φ Γ e).frz.bind fun x e1 => (r.ev Φ Γ e1).bind fun xs e2 => .ok (x :: xs) e2 : Res (List D)) : Res (List D))) (o0 :: r0) := evKs_cons
theorem cOe_no {o0 : Option Val} {r0 : Env}  : Oe.ev Φ Γ Oe.no (o0 :: r0) = (fun (e : Env) => ((.ok none e : Res (Option Int)) : Res (Option Int))) (o0 :: r0) := evOe_no
theorem cOe_some {o0 : Option Val} {r0 : Env} {a : E} : Oe.ev Φ Γ (Oe.some a) (o0 :: r0) = (fun (e : Env) => (((a.ev Φ Γ e).frz.bind optI : Res (Option Int)) : Res (Option Int))) (o0 :: r0) := evOe_some
theorem cIt_seq {o0 : Option Val} {r0 : Env} {a : E} : It.ev Φ Γ (It.seq a) (o0 :: r0) = (fun (e : Env) => (((a.ev Φ Γ e).frz.bind fun x e1 => lift (walkS x) e1 : Res (List D)) : Res (List D))) (o0 :: r0) := evIt_seq
theorem cIt_rng1 {o0 : Option Val} {r0 : Env} {a : E} : It.ev Φ Γ (It.rng1 a) (o0 :: r0) = (fun (e : Env) => (((a.ev Φ Γ e).frz.bind fun x e1 => lift (rangeS [x]) e1 : Res (List D)) : Res (List D))) (o0 :: r0) := evIt_rng1
theorem cIt_rng2 {o0 : Option Val} {r0 : Env} {a : E} {b : E} : It.ev Φ Γ (It.rng2 a b) (o0 :: r0) = (fun (e : Env) => ((((a.ev Φ Γ e).frz.bind fun x e1 => (b.ev Φ Γ e1).frz.bind fun y e2 => .ok [x, y] e2).bind fun xs e1 => if xs.length = 2 then lift (rangeS xs) e1 else .fail : Res (List D)) : Res (List D))) (o0 :: r0) := evIt_rng2
theorem cIt_enum {o0 : Option Val} {r0 : Env} {a : E} : It.ev Φ Γ (It.enum a) (o0 :: r0) = (fun (e : Env) => (((a.ev Φ Γ e).frz.bind fun x e1 => match itemsS x with | some ys => .ok (enumS 0 ys) e1 | none => match x with | .fl ys => .ok (enumS 0 ys) e1 | _ => .fail : Res (List D)) : Res (List D))) (o0 :: r0) := evIt_enum
theorem cOc_no {o0 : Option Val} {r0 : Env}  : Oc.ev Φ Γ Oc.no (o0 :: r0) = (fun (e : Env) => ((.ok true e : Res Bool) : Res Bool)) (o0 :: r0) := evOc_no
theorem cOc_yes {o0 : Option Val} {r0 : Env} {t : T} : Oc.ev Φ Γ (Oc.yes t) (o0 :: r0) = (fun (e : Env) => ((t.ev Φ Γ e : Res Bool) : Res Bool)) (o0 :: r0) := evOc_yes
theorem cS_pass {o0 : Option Val} {r0 : Env}  : S.ev Φ Γ S.pass (o0 :: r0) = (fun (e : Env) => ((.ok .nx e : Res Fl) : Res Fl)) (o0 :: r0) := evS_pass
theorem cS_brk {o0 : Option Val} {r0 : Env}  : S.ev Φ Γ S.brk (o0 :: r0) = (fun (e : Env) => ((.ok .bk e : Res Fl) : Res Fl)) (o0 :: r0) := evS_brk
theorem cS_cnt {o0 : Option Val} {r0 : Env}  : S.ev Φ Γ S.cnt (o0 :: r0) = (fun (e : Env) => ((.ok .ct e : Res Fl) : Res Fl)) (o0 :: r0) := evS_cnt
theorem cS_doc {o0 : Option Val} {r0 : Env}  : S.ev Φ Γ S.doc (o0 :: r0) = (fun (e : Env) => ((.ok .nx e : Res Fl) : Res Fl)) (o0 :: r0) := evS_doc
theorem cS_ex {o0 : Option Val} {r0 : Env} {a : E} : S.ev Φ Γ (S.ex a) (o0 :: r0) = (fun (e : Env) => (((a.ev Φ Γ e).bind fun _ e1 => .ok .nx e1 : Res Fl) : Res Fl)) (o0 :: r0) := evS_ex
theorem cS_ret {o0 : Option Val} {r0 : Env} {a : E} : S.ev Φ Γ (S.ret a) (o0 :: r0) = (fun (e : Env) => (((a.ev Φ Γ e).bind fun x e1 => .ok (.rt x) e1 : Res Fl) : Res Fl)) (o0 :: r0) := evS_ret
theorem cS_ret0 {o0 : Option Val} {r0 : Env}  : S.ev Φ Γ S.ret0 (o0 :: r0) = (fun (e : Env) => ((.ok (.rt (.p .non)) e : Res Fl) : Res Fl)) (o0 :: r0) := evS_ret0
theorem cS_set {o0 : Option Val} {r0 : Env} {i : Nat} {a : E} : S.ev Φ Γ (S.set i a) (o0 :: r0) = (fun (e : Env) => (((a.ev Φ Γ e).bind fun v e1 => .ok .nx (e1.set i (some v)) : Res Fl) : Res Fl)) (o0 :: r0) := evS_set
theorem cS_asg {o0 : Option Val} {r0 : Env} {t : Tg} {a : E} : S.ev Φ Γ (S.asg t a) (o0 :: r0) = (fun (e : Env) => (((a.ev Φ Γ e).frz.bind (t.ev Φ Γ) : Res Fl) : Res Fl)) (o0 :: r0) := evS_asg
theorem cS_par {o0 : Option Val} {r0 : Env} {is : List Nat} {es : As} : S.ev Φ Γ (S.par is es) (o0 :: r0) = (fun (e : Env) => (((es.ev Φ Γ e).bind (parS is) : Res Fl) : Res Fl)) (o0 :: r0) := evS_par
theorem cS_aug {o0 : Option Val} {r0 : Env} {o : Bop} {i : Nat} {a : E} : S.ev Φ Γ (S.aug o i a) (o0 :: r0) = (fun (e : Env) => ((augS o i (fun e => (a.ev Φ Γ e).frz) e : Res Fl) : Res Fl)) (o0 :: r0) := evS_aug
theorem cS_iff {o0 : Option Val} {r0 : Env} {t : T} {a : Ss} {b : Ss} : S.ev Φ Γ (S.iff t a b) (o0 :: r0) = (fun (e : Env) => (((t.ev Φ Γ e).bind fun z e1 => if z = true then a.ev Φ Γ e1 else b.ev Φ Γ e1 : Res Fl) : Res Fl)) (o0 :: r0) := evS_iff
theorem cS_whl {o0 : Option Val} {r0 : Env} {t : T} {b : Ss} : S.ev Φ Γ (S.whl t b) (o0 :: r0) = (fun (e : Env) => ((whileC (t.ev Φ Γ) (b.ev Φ Γ) e : Res Fl) : Res Fl)) (o0 :: r0) := evS_whl
theorem cS_fr {o0 : Option Val} {r0 : Env} {t : Tg} {it : It} {b : Ss} : S.ev Φ Γ (S.fr t it b) (o0 :: r0) = (fun (e : Env) => (((it.ev Φ Γ e).bind fun items e1 => forS (t.ev Φ Γ) (b.ev Φ Γ) items e1 : Res Fl) : Res Fl)) (o0 :: r0) := evS_fr
theorem cS_never {o0 : Option Val} {r0 : Env}  : S.ev Φ Γ S.never (o0 :: r0) = (fun (e : Env) => ((.fail : Res Fl) : Res Fl)) (o0 :: r0) := evS_never
theorem cSs_nil {o0 : Option Val} {r0 : Env}  : Ss.ev Φ Γ Ss.nil (o0 :: r0) = (fun (e : Env) => ((.ok .nx e : Res Fl) : Res Fl)) (o0 :: r0) := evSs_nil
theorem cSs_cons {o0 : Option Val} {r0 : Env} {s : S} {r : Ss} : Ss.ev Φ Γ (Ss.cons s r) (o0 :: r0) = (fun (e : Env) => (((s.ev Φ Γ e).seq (r.ev Φ Γ) : Res Fl) : Res Fl)) (o0 :: r0) := evSs_cons
theorem cTg_n {o0 : Option Val} {r0 : Env} {i : Nat} {d : D} : Tg.ev Φ Γ (.n i) d (o0 :: r0) = (fun (e : Env) => (.ok .nx (e.set i (some (.p d))) : Res Fl)) (o0 :: r0) := evTg_n
theorem cTg_t {o0 : Option Val} {r0 : Env} {ts : Tgs} {d : D} : Tg.ev Φ Γ (.t ts) d (o0 :: r0) = (fun (e : Env) => (tupT ts.len (ts.ev Φ Γ) d e : Res Fl)) (o0 :: r0) := evTg_t
theorem cTg_sub {o0 : Option Val} {r0 : Env} {i : Nat} {b : E} {d : D} : Tg.ev Φ Γ (.sub i b) d (o0 :: r0) = (fun (e : Env) => (subT i (fun e => (b.ev Φ Γ e).frz) d e : Res Fl)) (o0 :: r0) := evTg_sub
theorem cTgs_nil {o0 : Option Val} {r0 : Env} {ds : List D} : Tgs.ev Φ Γ .nil ds (o0 :: r0) = (fun (e : Env) => (nilT ds e : Res Fl)) (o0 :: r0) := evTgs_nil
theorem cTgs_cons {o0 : Option Val} {r0 : Env} {t : Tg} {r : Tgs} {ds : List D} : Tgs.ev Φ Γ (.cons t r) ds (o0 :: r0) = (fun (e : Env) => (consT (t.ev Φ Γ) (r.ev Φ Γ) ds e : Res Fl)) (o0 :: r0) := evTgs_cons
theorem cE_at {o0 : Option Val} {r0 : Env} {c f : Str} {a : E} : E.ev Φ Γ (E.at c f a) (o0 :: r0) = ((a.ev Φ Γ (o0 :: r0)).frz.bind fun x e1 => (lift (atS c f x) e1).bind fun d e2 => .ok (.p d) e2) := rfl
theorem cE_atb {o0 : Option Val} {r0 : Env} {c f : Str} {i : Nat} : E.ev Φ Γ (E.atb c f i) (o0 :: r0) = atb c f i (o0 :: r0) := rfl
theorem cE_new {o0 : Option Val} {r0 : Env} {f : Nat} {c : Str} {pm : List Nat} {es : Es} : E.ev Φ Γ (E.new f c pm es) (o0 :: r0) = ((es.ev Φ Γ (o0 :: r0)).bind fun ds e1 => if ds.length = es.len then newE c (Φ f) pm ds e1 else .fail) := rfl
theorem cE_meth {o0 : Option Val} {r0 : Env} {f : Nat} {c m : Str} {pm : List Nat} {a : E} {es : As} : E.ev Φ Γ (E.meth f c m pm a es) (o0 :: r0) = ((a.ev Φ Γ (o0 :: r0)).frz.bind fun x e1 => if objOk c m x = true then (es.ev Φ Γ e1).bind fun xs e2 => callP (Φ f) (es.len + 1) pm (.v (.p x) :: xs) e2 else .fail) := rfl
theorem cE_prop {o0 : Option Val} {r0 : Env} {f : Nat} {c m : Str} {a : E} : E.ev Φ Γ (E.prop f c m a) (o0 :: r0) = ((a.ev Φ Γ (o0 :: r0)).frz.bind fun x e1 => if objOk c m x = true then noX (callP (Φ f) 1 [0] [.v (.p x)] e1) else .fail) := rfl
theorem cE_lenO {o0 : Option Val} {r0 : Env} {f : Nat} {c : Str} {a : E} : E.ev Φ Γ (E.lenO f c a) (o0 :: r0) = ((a.ev Φ Γ (o0 :: r0)).frz.bind fun x e1 => if objOk c "__len__" x = true then lenR (callP (Φ f) 1 [0] [.v (.p x)] e1) else .fail) := rfl
theorem cE_strO {o0 : Option Val} {r0 : Env} {f : Nat} {c : Str} {a : E} : E.ev Φ Γ (E.strO f c a) (o0 :: r0) = ((a.ev Φ Γ (o0 :: r0)).frz.bind fun x e1 => if objOk c "__str__" x = true then strR (callP (Φ f) 1 [0] [.v (.p x)] e1) else .fail) := rfl
theorem cE_isC {o0 : Option Val} {r0 : Env} {c : Str} {a : E} : E.ev Φ Γ (E.isC c a) (o0 :: r0) = ((a.ev Φ Γ (o0 :: r0)).frz.bind fun x e1 => (lift (isCS c x) e1).bind fun b e2 => .ok (bv b) e2) := rfl
theorem evE_lock {i : Nat} {a : E} : E.ev Φ Γ (E.lock i a) e = lockE i (a.ev Φ Γ) e := rfl
theorem cE_get2 {o0 : Option Val} {r0 : Env} {i : Nat} {a b : E} : E.ev Φ Γ (E.get2 i a b) (o0 :: r0) = get2E i (fun e => (a.ev Φ Γ e).frz) (fun e => (b.ev Φ Γ e).frz) (o0 :: r0) := rfl
theorem cE_join {o0 : Option Val} {r0 : Env} {a b : E} : E.ev Φ Γ (E.join a b) (o0 :: r0) = joinE (fun e => (a.ev Φ Γ e).frz) (fun e => (b.ev Φ Γ e).frz) (o0 :: r0) := rfl
theorem cE_split {o0 : Option Val} {r0 : Env} {a b : E} : E.ev Φ Γ (E.split a b) (o0 :: r0) = splitE (fun e => (a.ev Φ Γ e).frz) (fun e => (b.ev Φ Γ e).frz) (o0 :: r0) := rfl
theorem evE_split {a b : E} : E.ev Φ Γ (E.split a b) e = splitE (fun e => (a.ev Φ Γ e).frz) (fun e => (b.ev Φ Γ e).frz) e := rfl
theorem cIt_zip2 {o0 : Option Val} {r0 : Env} {a b : E} : It.ev Φ Γ (It.zip2 a b) (o0 :: r0) = (((a.ev Φ Γ (o0 :: r0)).frz.bind fun x e1 => (b.ev Φ Γ e1).frz.bind fun y e2 => .ok [x, y] e2).bind fun xs e1 => lift (zip2S xs) e1) := rfl
theorem cS_sat {o0 : Option Val} {r0 : Env} {i : Nat} {c f : Str} {a : E} : S.ev Φ Γ (S.sat i c f a) (o0 :: r0) = satS c f i (fun e => (a.ev Φ Γ e).frz) (o0 :: r0) := rfl
theorem satS_ev {c f : Str} {i : Nat} {fa : Env → Res D} {e0 : Env} : satS c f i fa e0 = (fa e0).bind fun d e1 => match e1[i]? with
  | some (some (.oo t c' ns vs)) => if c' = c ∧ ns.length < 1000 then .ok .nx (e1.set i (some (.oo t c (putN ns f) (putNV ns vs f d)))) else .fail
  | _ => .fail := rfl
theorem isOwn_oo {t : Nat} {c : Str} {ns : List Str} {xs : List D} : (Val.oo t c ns xs).isOwn = true := rfl
theorem frz_oo {t : Nat} {c : Str} {ns : List Str} {xs : List D} : (Val.oo t c ns xs).frz = .obj c ns xs := rfl
theorem noX_ok {v : Val} {e : Env} : noX (.ok v e) = .ok v e := rfl
theorem lenR_ok {n : Int} {e : Env} : lenR (.ok (.p (.int n)) e) = if 0 ≤ n ∧ n < 1000000 then .ok (.p (.int n)) e else .fail := rfl
theorem strR_ok {x : Str} {e : Env} : strR (.ok (.p (.str x)) e) = .ok (.p (.str x)) e := rfl
theorem tupT_ev {n : Nat} {g : List D → Env → Res Fl} {ds : List D} : tupT n g (.tup ds) e = if ds.length = n then g ds e else .fail := rfl
theorem consT_ev {f : D → Env → Res Fl} {g : List D → Env → Res Fl} {d : D} {ds : List D} : consT f g (d :: ds) e = (f d e).seq (g ds) := rfl
theorem nilT_ev : nilT [] e = .ok .nx e := rfl
theorem getv_p {i : Nat} {d : D} (h : e[i]? = some (some (.p d))) : getv i e = .ok (.p d) e := by simp [getv, h]
theorem runF_ev {fb : Env → Res Fl} {n : Nat} {e0 : Env} : runF fb n e0 = (match fb (e0 ++ List.replicate (n - e0.length) none) with
  | .ok (.rt x) e' => (lift (outE e0 e') e').bind fun o _ => .ok x o
  | .ok .nx e' => (lift (outE e0 e') e').bind fun o _ => .ok (.p .non) o
  | .exc c x e' => (lift (outE e0 e') e').bind fun o _ => .exc c x o
  | _ => .fail) := rfl
theorem forS_nil {ft : D → Env → Res Fl} {fb : Env → Res Fl} : forS ft fb [] e = .ok .nx e := rfl
theorem forS_cons {ft : D → Env → Res Fl} {fb : Env → Res Fl} {x : D} {xs : List D} : forS ft fb (x :: xs) e = (ft x e).seq fun e1 => (fb e1).turn (forS ft fb xs) := rfl
end
theorem eq_ii {i j : Int} : eqS (.int i) (.int j) = some (decide (i = j)) := rfl
theorem eq_ss {i j : Str} : eqS (.str i) (.str j) = some (decide (i = j)) := rfl
theorem eq_bb {i j : Bool} : eqS (.bl i) (.bl j) = some (decide (i = j)) := rfl
theorem eq_is {i : Int} {j : Str} : eqS (.int i) (.str j) = some false := rfl
theorem eq_si {i : Int} {j : Str} : eqS (.str j) (.int i) = some false := rfl
theorem bind_cg {α β : Type} {r r' : Res α} {k : α → Env → Res β} (h : r = r') : r.bind k = r'.bind k := by rw [h]
theorem seq_cg {r r' : Res Fl} {k : Env → Res Fl} (h : r = r') : r.seq k = r'.seq k := by rw [h]
theorem turn_cg {r r' : Res Fl} {k : Env → Res Fl} (h : r = r') : r.turn k = r'.turn k := by rw [h]
end M
local macro_rules
  | `(tactic| simp_arith [$ls,*]) => `(tactic| simp only [M.bind_ok, M.bind_fail, M.bind_exc, M.lift_some, M.lift_none, M.keep_ok, M.keep_fail, M.frz_ok, M.frz_fail, M.frz_p, M.frz_own, M.frz_od, M.seq_nx, M.seq_rt, M.seq_fail, M.turn_nx, M.turn_rt, M.turn_fail, M.isOwn_p, M.isOwn_own, M.isOwn_od, M.callP1, M.callP2, M.callP3, M.callK1, M.callK2, M.callK3, List.getElem?_cons_zero, List.getElem?_cons_succ, List.set_cons_zero, List.set_cons_succ, List.replicate_succ, List.replicate_zero, List.append_nil, List.nil_append, List.cons_append, List.length_cons, List.length_nil, List.map_cons, List.map_nil, if_true, if_false, ite_true, ite_false, Bool.false_eq_true, Bool.true_eq_false, reduceCtorEq, Nat.reduceAdd, Nat.reduceSub, Nat.zero_add, Nat.add_zero, Nat.sub_self, decide_true, decide_false, Bool.not_true, Bool.not_false, Bool.and_true, Bool.true_and, Bool.and_false, Bool.false_and, Bool.or_true, Bool.true_or, Bool.or_false, Bool.false_or, Option.map_some, Option.map_none, and_self, and_true, true_and, ne_eq, not_true_eq_false, not_false_eq_true, Nat.reduceEqDiff, Nat.reduceLeDiff, decide_eq_true_eq, Int.reduceNeg, Nat.zero_le, decide_not, Nat.succ_ne_zero, eq_self_iff_true, and_false, false_and, List.isEmpty_nil, List.isEmpty_cons, M.vals, M.parS, M.putsE, M.runF_ev, M.cE_k, M.cE_v, M.cE_mv, M.cE_gv, M.cE_ty, M.cE_bop, M.cE_neg, M.cE_cmp, M.cE_cmp2, M.cE_no, M.cE_ite, M.cE_tup, M.cE_lst, M.cE_ix, M.cE_ixb, M.cE_sl, M.cE_bi, M.cE_sset, M.cE_count, M.cE_dsp, M.cE_dsp0, M.cE_lenb, M.cE_call, M.cE_callk, M.cE_app, M.cE_fz, M.cE_never, M.cT_tr, M.cT_cmp, M.cT_cmp2, M.cT_no, M.cT_and, M.cT_or, M.cEs_nil, M.cEs_cons, M.cEs_star, M.cAs_nil, M.cAs_v, M.cAs_ln, M.cKs_nil, M.cKs_cons, M.cOe_no, M.cOe_some, M.cIt_seq, M.cIt_rng1, M.cIt_rng2, M.cIt_enum, M.cOc_no, M.cOc_yes, M.cS_pass, M.cS_brk, M.cS_cnt, M.cS_doc, M.cS_ex, M.cS_ret, M.cS_ret0, M.cS_set, M.cS_asg, M.cS_par, M.cS_aug, M.cS_iff, M.cS_whl, M.cS_fr, M.cS_never, M.cSs_nil, M.cSs_cons, M.cTg_n, M.cTg_t, M.cTg_sub, M.cTgs_nil, M.cTgs_cons, M.tupT_ev, M.consT_ev, M.nilT_ev, M.Es.len, M.As.len, M.Ks.len, M.Tgs.len, M.getv, M.mvv, M.idxb, M.KD.d, M.Ty.nm, M.bv, M.Bi.sem, M.outE, M.Val.tag, M.truS, M.copS, M.bopS, M.augS, M.eq_ii, M.eq_ss, M.eq_bb, M.eq_is, M.eq_si, M.Res.keep, List.length_append, M.cE_at, M.cE_atb, M.cE_new, M.cE_meth, M.cE_prop, M.cE_lenO, M.cE_strO, M.cE_isC, M.cE_get2, M.cE_join, M.cE_split, M.cIt_zip2, M.cS_sat, M.satS_ev, M.isOwn_oo, M.frz_oo, M.noX_ok, M.lenR_ok, M.strR_ok, $ls,*])

set_option Elab.async false
set_option linter.all false
set_option maxRecDepth 100000
set_option maxHeartbeats 4000000
/-! P3: texts of data; equality of rows. -/
namespace M
open PySem PySem.Spec PyProof.Rows L2
mutual
/-- small data: a bound of the weight -/
def smD : D → Option Nat
  | .non => some 0
  | .bl _ => some 0
  | .int i => if i.natAbs < 1000000000000 then some 40 else none
  | .str x => if PyData.strOk x = true then some x.cps.size else none
  | .tup xs => smDs xs
  | .lst xs => smDs xs
  | .fl xs => smDs xs
  | _ => none
def smDs : List D → Option Nat
  | [] => some 0
  | x :: xs => match smD x, smDs xs with
    | some a, some b => some (a + b + 1)
    | _, _ => none
end
mutual
def dpD : D → Nat
  | .tup xs => dpDs xs + 1
  | .lst xs => dpDs xs + 1
  | .fl xs => dpDs xs + 1
  | _ => 0
def dpDs : List D → Nat
  | [] => 0
  | x :: xs => max (dpD x) (dpDs xs)
end
/-- what small data are to the library -/
structure Sm (p : PyData) (w d : Nat) : Prop where
  lay : p.canLay0 = true
  sho : p.showable = true
  dic : p.hasDict = false
  ish : p.intsShort 13 = true
  wt : p.weight ≤ w
  dp : p.depth ≤ d
structure Sms (p : List PyData) (w d : Nat) : Prop where
  lay : PyData.canLayAll0 p = true
  sho : PyData.showableAll p = true
  dic : PyData.hasDictAll p = false
  ish : PyData.intsShortAll 13 p = true
  wt : PyData.weightAll p ≤ w
  dp : PyData.depthAll p ≤ d
theorem int_sm {i : Int} (h : i.natAbs < 1000000000000) : Sm (.int i) 40 0 := by
  have hl : i.natAbs.log2 < 40 := by
    by_cases z : i.natAbs = 0
    · rw [z]; decide
    · exact (Nat.log2_lt z).mpr (Nat.lt_of_lt_of_le h (by decide))
  refine ⟨rfl, ?_, rfl, ?_, ?_, Nat.le_refl _⟩
  · simp only [PyData.showable, decide_eq_true_eq]; omega
  · simp only [PyData.intsShort, decide_eq_true_eq]
    have e := int_text_length_le10 (a := i) (k := 12) (by decide) (by simpa using h)
    show (Str.ofString (toString i)).length ≤ 13
    rw [PySem.ofString_length]; exact e
  · simp only [PyData.weight]
    split <;> omega
mutual
theorem sm_of : ∀ (d : D) {w : Nat}, smD d = some w → ∃ p, d.py = some p ∧ Sm p w (dpD d)
  | .non, _, h => by cases h; exact ⟨_, rfl, rfl, rfl, rfl, rfl, Nat.le_refl _, Nat.le_refl _⟩
  | .bl _, _, h => by cases h; exact ⟨_, rfl, rfl, rfl, rfl, rfl, Nat.le_refl _, Nat.le_refl _⟩
  | .int i, _, h => by
    simp only [smD] at h
    split at h
    · cases h; rename_i hi; exact ⟨_, rfl, int_sm hi⟩
    · cases h
  | .str x, _, h => by
    simp only [smD] at h
    split at h
    · cases h; rename_i hx; exact ⟨_, rfl, hx, rfl, rfl, rfl, Nat.le_refl _, Nat.le_refl _⟩
    · cases h
  | .tup xs, w, h => by
    obtain ⟨ps, h1, h2⟩ := sms_of xs (w := w) (by simpa only [smD] using h)
    exact ⟨.tuple ps, by simp only [D.py, h1, Option.map_some], h2.lay, h2.sho, h2.dic, h2.ish, h2.wt, Nat.succ_le_succ h2.dp⟩
  | .lst xs, w, h => by
    obtain ⟨ps, h1, h2⟩ := sms_of xs (w := w) (by simpa only [smD] using h)
    exact ⟨.list ps, by simp only [D.py, h1, Option.map_some], h2.lay, h2.sho, h2.dic, h2.ish, h2.wt, Nat.succ_le_succ h2.dp⟩
  | .fl xs, w, h => by
    obtain ⟨ps, h1, h2⟩ := sms_of xs (w := w) (by simpa only [smD] using h)
    exact ⟨.list ps, by simp only [D.py, h1, Option.map_some], h2.lay, h2.sho, h2.dic, h2.ish, h2.wt, Nat.succ_le_succ h2.dp⟩
  | .dic _ _, _, h => by cases h
  | .obj _ _ _, _, h => by cases h
  | .glob _, _, h => by cases h
  | .ty _, _, h => by cases h
theorem sms_of : ∀ (ds : List D) {w : Nat}, smDs ds = some w → ∃ p, D.pys ds = some p ∧ Sms p w (dpDs ds)
  | [], _, h => by cases h; exact ⟨[], rfl, rfl, rfl, rfl, rfl, Nat.le_refl _, Nat.le_refl _⟩
  | d :: ds, w, h => by
    simp only [smDs] at h
    split at h
    · rename_i a b ha hb
      cases h
      obtain ⟨p, h1, s1⟩ := sm_of d ha
      obtain ⟨ps, h2, s2⟩ := sms_of ds hb
      refine ⟨p :: ps, by simp only [D.pys, h1, h2], ?_, ?_, ?_, ?_, ?_, ?_⟩
      · simp only [PyData.canLayAll0, s1.lay, s2.lay, Bool.and_self]
      · simp only [PyData.showableAll, s1.sho, s2.sho, Bool.and_self]
      · simp only [PyData.hasDictAll, s1.dic, s2.dic, Bool.or_self]
      · simp only [PyData.intsShortAll, s1.ish, s2.ish, Bool.and_self]
      · simp only [PyData.weightAll]; have := s1.wt; have := s2.wt; omega
      · simp only [PyData.depthAll, dpDs]; have := s1.dp; have := s2.dp; omega
    · cases h
end
/-- the text -/
def repT (d : D) : Str := (repS d).getD Str.empty
theorem rep_ok {d : D} {w : Nat} (h : smD d = some w) (hw : w ≤ 1000000) (hd : dpD d ≤ 40) : repS d = some (repT d) := by
  obtain ⟨p, h1, s⟩ := sm_of d h
  have hl : PyData.layable0 p = true := by
    unfold PyData.layable0
    have := s.dp
    have := s.wt
    simp only [s.lay, Bool.true_and, Bool.and_eq_true, decide_eq_true_eq]
    constructor <;> omega
  have hs := shown_le13 hl s.ish
  have : repS d = some p.shown := by
    unfold repS
    rw [h1]
    show (if _ then _ else _) = _
    rw [if_pos ⟨s.sho, s.dic, Nat.le_trans s.dp hd, Nat.le_trans hs (by decide)⟩]
  unfold repT
  rw [this]; rfl
theorem repr_ok {d : D} {w : Nat} (h : smD d = some w) (hw : w ≤ 1000000) (hd : dpD d ≤ 40) : reprS [d] = some (.p (.str (repT d))) := by
  show (repS d).map _ = _
  rw [rep_ok h hw hd]; rfl
theorem smDs_ints : ∀ {ns : List Int}, (∀ n ∈ ns, n.natAbs < 1000000000000) → smDs (ns.map D.int) = some (41 * ns.length)
  | [], _ => rfl
  | n :: ns, h => by
    rw [List.map_cons]
    simp only [smDs, smD, if_pos (h n List.mem_cons_self), smDs_ints fun m hm => h m (List.mem_cons_of_mem _ hm), List.length_cons, Option.some.injEq]
    omega
theorem dpDs_ints : ∀ (ns : List Int), dpDs (ns.map D.int) = 0
  | [] => rfl
  | n :: ns => by rw [List.map_cons]; simp only [dpDs, dpD, dpDs_ints ns]; rfl
theorem smDs_append : ∀ {xs ys : List D} {a b : Nat}, smDs xs = some a → smDs ys = some b → smDs (xs ++ ys) = some (a + b)
  | [], ys, a, b, h, h' => by cases h; simpa using h'
  | x :: xs, ys, a, b, h, h' => by
    simp only [smDs] at h
    split at h
    · rename_i p q hp hq
      cases h
      simp only [List.cons_append, smDs, hp, smDs_append hq h', Option.some.injEq]
      omega
    · cases h
theorem dpDs_append : ∀ {xs ys : List D}, dpDs (xs ++ ys) = max (dpDs xs) (dpDs ys)
  | [], ys => by simp [dpDs]
  | x :: xs, ys => by simp only [List.cons_append, dpDs, dpDs_append]; omega
/-- rows of whole numbers, compared -/
theorem pys_ints : ∀ ns : List Int, D.pys (ns.map D.int) = some (ns.map PyData.int)
  | [] => rfl
  | n :: ns => by rw [List.map_cons]; simp only [D.pys, D.py, pys_ints ns, List.map_cons]
theorem eqv_ints : ∀ ns ms : List Int, PyData.eqvAll (ns.map PyData.int) (ms.map PyData.int) = decide (ns = ms)
  | [], [] => rfl
  | [], _ :: _ => rfl
  | _ :: _, [] => rfl
  | n :: ns, m :: ms => by
    simp only [List.map_cons, PyData.eqvAll, PyData.eqv, eqv_ints ns ms, List.cons.injEq]
    by_cases h : n = m <;> simp [h]
theorem lay_ints : ∀ ns : List Int, PyData.canLayAll0 (ns.map PyData.int) = true
  | [] => rfl
  | n :: ns => by simp only [List.map_cons, PyData.canLayAll0, PyData.canLay0, lay_ints ns, Bool.and_self]
theorem dep_ints : ∀ ns : List Int, PyData.depthAll (ns.map PyData.int) = 0
  | [] => rfl
  | n :: ns => by simp only [List.map_cons, PyData.depthAll, PyData.depth, dep_ints ns]; rfl
theorem eq_ints (ns ms : List Int) : eqS (.lst (ns.map D.int)) (.lst (ms.map D.int)) = some (decide (ns = ms)) := by
  show (match (D.pys (ns.map D.int)).map PyData.list, (D.pys (ms.map D.int)).map PyData.list with
    | some a, some b => if SeqAt.shaped a = true ∧ SeqAt.shaped b = true then some (PyData.eqv a b) else none
    | _, _ => none) = _
  rw [pys_ints, pys_ints]
  have sh : ∀ ns : List Int, SeqAt.shaped (.list (ns.map PyData.int)) = true := fun ns => by
    unfold SeqAt.shaped
    simp only [PyData.canLay0, lay_ints, PyData.depth, dep_ints]
    rfl
  simp only [Option.map_some, if_pos (show SeqAt.shaped (PyData.list (ns.map PyData.int)) = true ∧ SeqAt.shaped (PyData.list (ms.map PyData.int)) = true from ⟨sh ns, sh ms⟩), PyData.eqv, eqv_ints]
end M

set_option Elab.async false
set_option linter.all false
set_option maxRecDepth 100000
set_option maxHeartbeats 4000000
/-! Q1: what the defs reckon, in plain Lean. -/
namespace M
open PySem PySem.Spec PyProof.Rows L2
abbrev En := M.Env
def f1 (f : D → Option Val) : En → Res Val
  | [some (.p a)] => match f a with
    | some v => .ok v [none]
    | none => .fail
  | _ => .fail
def f2 (f : D → D → Option Val) : En → Res Val
  | [some (.p a), some (.p b)] => match f a b with
    | some v => .ok v [none, none]
    | none => .fail
  | _ => .fail
def f3 (f : D → D → D → Option Val) : En → Res Val
  | [some (.p a), some (.p b), some (.p c)] => match f a b c with
    | some v => .ok v [none, none, none]
    | none => .fail
  | _ => .fail
theorem f1_ev {f : D → Option Val} {a : D} {v : Val} (h : f a = some v) : f1 f [some (.p a)] = .ok v [none] := by simp only [f1, h]
theorem f2_ev {f : D → D → Option Val} {a b : D} {v : Val} (h : f a b = some v) : f2 f [some (.p a), some (.p b)] = .ok v [none, none] := by simp only [f2, h]
theorem f3_ev {f : D → D → D → Option Val} {a b c : D} {v : Val} (h : f a b c = some v) : f3 f [some (.p a), some (.p b), some (.p c)] = .ok v [none, none, none] := by simp only [f3, h]
theorem f1_run {f : D → Option Val} {fb : En → Res Fl} {n : Nat} (h : ∀ a v, f a = some v → runF fb n [some (.p a)] = .ok v [none]) : ∀ e, f1 f e ≠ .fail → runF fb n e = f1 f e := by
  intro e he
  unfold f1 at he ⊢
  split at he
  · rename_i a
    split at he
    · rename_i v hv
      rw [h a v hv]
    · exact absurd rfl he
  · exact absurd rfl he
theorem f2_run {f : D → D → Option Val} {fb : En → Res Fl} {n : Nat} (h : ∀ a b v, f a b = some v → runF fb n [some (.p a), some (.p b)] = .ok v [none, none]) : ∀ e, f2 f e ≠ .fail → runF fb n e = f2 f e := by
  intro e he
  unfold f2 at he ⊢
  split at he
  · rename_i a b
    split at he
    · rename_i v hv
      rw [h a b v hv]
    · exact absurd rfl he
  · exact absurd rfl he
theorem f3_run {f : D → D → D → Option Val} {fb : En → Res Fl} {n : Nat} (h : ∀ a b c v, f a b c = some v → runF fb n [some (.p a), some (.p b), some (.p c)] = .ok v [none, none, none]) : ∀ e, f3 f e ≠ .fail → runF fb n e = f3 f e := by
  intro e he
  unfold f3 at he ⊢
  split at he
  · rename_i a b c
    split at he
    · rename_i v hv
      rw [h a b c v hv]
    · exact absurd rfl he
  · exact absurd rfl he
def isInt : D → Bool
  | .int _ => true
  | _ => false
def okD (d : D) : Bool := (tyS d).isSome
theorem isi_int {d : D} (h : okD d = true) : isiS [d, .ty "int"] = some (.p (.bl (match d with | .int _ => true | .bl _ => true | _ => false))) := by
  cases d <;> first | (simp [okD, tyS] at h; done) | rfl
theorem isi_bool {d : D} (h : okD d = true) : isiS [d, .ty "bool"] = some (.p (.bl (match d with | .bl _ => true | _ => false))) := by
  cases d <;> first | (simp [okD, tyS] at h; done) | rfl
theorem isi_str {d : D} (h : okD d = true) : isiS [d, .ty "str"] = some (.p (.bl (match d with | .str _ => true | _ => false))) := by
  cases d <;> first | (simp [okD, tyS] at h; done) | rfl
theorem isi_tup {d : D} (h : okD d = true) : isiS [d, .ty "tuple"] = some (.p (.bl (match d with | .tup _ => true | _ => false))) := by
  cases d <;> first | (simp [okD, tyS] at h; done) | rfl
abbrev bO (b : Bool) : Option Val := some (.p (.bl b))
def g_is_integer (d : D) : Option Val := if okD d = true then bO (isInt d) else none
def inR (v : D) (l h : Int) : Bool := match v with
  | .int i => decide (l ≤ i) && decide (i ≤ h)
  | _ => false
def g_is_between (v l h : D) : Option Val := match l, h with
  | .int l, .int h => if okD v = true then bO (inR v l h) else none
  | _, _ => none
def strsD : List D → Option (List Str)
  | [] => some []
  | .str x :: r => (strsD r).map (x :: ·)
  | _ :: _ => none
theorem strsD_eq : ∀ {xs : List D} {rs : List Str}, strsD xs = some rs → xs = rs.map D.str
  | [], _, h => by cases h; rfl
  | d :: xs, rs, h => by
    cases d <;> simp only [strsD, Option.map_eq_some_iff, reduceCtorEq] at h
    obtain ⟨qs, h1, h2⟩ := h
    subst h2
    rw [List.map_cons, ← strsD_eq h1]
theorem in_strs (x : Str) (rs : List Str) : inS (.str x) (.tup (rs.map D.str)) = some (rs.any fun r => r == x) := by
  show inSq true _ _ = _
  unfold inSq
  rw [if_pos ⟨rfl, by rw [List.all_map]; exact List.all_eq_true.mpr fun _ _ => rfl⟩]
  rw [List.any_map]
  rfl
def g_is_one_of (v ns : D) : Option Val := match ns with
  | .tup xs => match strsD xs with
    | some rs => if okD v = true then bO (match v with | .str x => rs.any fun r => r == x | _ => false) else none
    | none => none
  | _ => none
def numOk (v : D) (m : Int) : Bool := inR v (-m) m && (match v with | .int i => decide (i ≠ 0) | _ => false)
def g_is_number (v m : D) : Option Val := match m with
  | .int m => if okD v = true then bO (numOk v m) else none
  | _ => none
/-! ### dividing out -/
def stripF : Nat → Nat → Nat → Nat
  | 0, n, _ => n
  | k + 1, n, p => if n % p = 0 then stripF k (n / p) p else n
def strip (n p : Nat) : Nat := stripF n n p
def trialF : Nat → Nat → Nat → List Nat → Nat × List Nat
  | 0, n, _, acc => (n, acc)
  | k + 1, n, l, acc => if l * l ≤ n then (if n % l = 0 then trialF k (strip n l) (l + 1) (acc ++ [l]) else trialF k n (l + 1) acc) else (n, acc)
def trial (n : Nat) : List Nat := if 1 < (trialF n n 2 []).1 then (trialF n n 2 []).2 ++ [(trialF n n 2 []).1] else (trialF n n 2 []).2
def natsD (xs : List Nat) : List D := xs.map fun (n : Nat) => D.int (n : Int)
def BIG : Nat := 1000000000
def g_divisors (v : D) : Option Val := match v with
  | .int i => if 0 < i ∧ i.toNat < BIG then some (.own 0 (natsD (trial i.toNat))) else none
  | _ => none
def isPr (i : Int) : Bool := decide (2 ≤ i) && decide (i ≤ 999999) && decide (trial i.toNat = [i.toNat])
def prOk (v : D) : Bool := match v with
  | .int i => isPr i
  | _ => false
def g_is_prime (v : D) : Option Val := if okD v = true then bO (prOk v) else none
def REAL : Str := Str.ofString "real"
def plOk (v : D) : Bool := match v with
  | .str x => REAL == x
  | .int i => isPr i
  | _ => false
def g_is_place (v : D) : Option Val := if okD v = true then bO (plOk v) else none
def g_check_place (v : D) : Option Val := if okD v = true ∧ plOk v = true then some (.p .non) else none
def g_check_number (v : D) : Option Val := if okD v = true ∧ numOk v 1000000 = true then some (.p .non) else none
def g_check_numbers (v : D) : Option Val := match v with
  | .tup xs => if xs.all (fun x => okD x && numOk x 1000000) = true then some (.p .non) else none
  | _ => none
end M

set_option Elab.async false
set_option linter.all false
set_option maxRecDepth 100000
set_option maxHeartbeats 4000000
/-! Q2: what the defs reckon: signs. -/
namespace M
open PySem PySem.Spec PyProof.Rows L2
def splitF : Nat → Int → Int → Nat → Nat × Int
  | 0, a, _, m => (m, a)
  | k + 1, a, p, m => if a % p = 0 then splitF k (a / p) p (m + 1) else (m, a)
def split (a p : Int) : Nat × Int := splitF a.natAbs a p 0
def okA (a p : Int) : Bool := decide (a ≠ 0) && decide (2 ≤ p) && decide (p < 1000000000) && decide (a.natAbs < 1000000000)
def g_split (a p : D) : Option Val := match a, p with
  | .int a, .int p => if okA a p = true then some (.p (.tup [.int (split a p).1, .int (split a p).2])) else none
  | _, _ => none
def powF : Nat → Int → Int → Nat → Int → Int
  | 0, f, _, _, _ => f
  | k + 1, f, b, m, p => if 0 < m then powF k (if m % 2 = 1 then f * b % p else f) (b * b % p) (m / 2) p else f
def powR (b : Int) (m : Nat) (p : Int) : Int := powF (m + 1) 1 (b % p) m p
def okP (b p : Int) : Bool := decide (2 ≤ p) && decide (p < 1000000000) && decide (b.natAbs < 1000000000)
def g_power_rest (b m p : D) : Option Val := match b, m, p with
  | .int b, .int m, .int p => if okP b p = true ∧ 0 ≤ m ∧ m < 1000000000 then some (.p (.int (powR b m.toNat p))) else none
  | _, _, _ => none
def lea (b p : Int) : Bool := decide (powR b ((p - 1) / 2).toNat p = 1)
def g_leaves (b p : D) : Option Val := match b, p with
  | .int b, .int p => if okP b p = true then bO (lea b p) else none
  | _, _ => none
/-- the square at a place -/
def sqAt (a : Int) (pl : D) : Bool := match pl with
  | .int p => if (split a p).1 % 2 = 1 then false else if p = 2 then decide ((split a p).2 % 8 = 1) else lea (split a p).2 p
  | _ => decide (0 < a)
/-- a place that may be asked -/
def plA (a : Int) (pl : D) : Bool := match pl with
  | .int p => okA a p
  | .str x => REAL == x
  | _ => false
def g_sq_at (a pl : D) : Option Val := match a with
  | .int a => if plA a pl = true then bO (sqAt a pl) else none
  | _ => none
def odd2 (x y z : Bool) : Bool := (x ^^ y) ^^ z
def r35 (v : Int) : Bool := decide (v % 8 = 3) || decide (v % 8 = 5)
def two (a b : Int) : Bool := odd2 (decide ((split a 2).2 % 4 = 3) && decide ((split b 2).2 % 4 = 3)) (decide ((split a 2).1 % 2 = 1) && r35 (split b 2).2) (decide ((split b 2).1 % 2 = 1) && r35 (split a 2).2)
def odd (a b p : Int) : Bool := odd2 (decide ((split a p).1 % 2 = 1) && decide ((split b p).1 % 2 = 1) && decide (p % 4 = 3)) (decide ((split b p).1 % 2 = 1) && !lea (split a p).2 p) (decide ((split a p).1 % 2 = 1) && !lea (split b p).2 p)
def g_two (a b : D) : Option Val := match a, b with
  | .int a, .int b => if okA a 2 = true ∧ okA b 2 = true then bO (two a b) else none
  | _, _ => none
def g_odd (a b p : D) : Option Val := match a, b, p with
  | .int a, .int b, .int p => if okA a p = true ∧ okA b p = true then bO (odd a b p) else none
  | _, _, _ => none
def oddAt (a b : Int) (pl : D) : Bool := match pl with
  | .int p => if p = 2 then two a b else odd a b p
  | _ => decide (a < 0) && decide (b < 0)
def g_odd_at (a b pl : D) : Option Val := match a, b with
  | .int a, .int b => if plA a pl = true ∧ plA b pl = true then bO (oddAt a b pl) else none
  | _, _ => none
/-! ### what the fuel is good for -/
theorem split_le : ∀ {k : Nat} {a p : Int} {m : Nat}, 2 ≤ p → (splitF k a p m).2.natAbs ≤ a.natAbs
  | 0, _, _, _, _ => Nat.le_refl _
  | k + 1, a, p, m, hp => by
    unfold splitF
    split
    · refine Nat.le_trans (split_le hp) ?_
      have := Int.natAbs_ediv_le_natAbs a p
      exact this
    · exact Nat.le_refl _
theorem div_lt {a p : Int} (ha : a ≠ 0) (hp : 2 ≤ p) (hd : a % p = 0) : (a / p).natAbs < a.natAbs ∧ a / p ≠ 0 := by
  have e : a = p * (a / p) := by
    have := Int.mul_ediv_add_emod a p
    omega
  have h0 : a / p ≠ 0 := fun z => by rw [z, Int.mul_zero] at e; exact ha e
  refine ⟨?_, h0⟩
  have e2 : a.natAbs = p.natAbs * (a / p).natAbs := by
    conv => lhs; rw [e]
    exact Int.natAbs_mul p (a / p)
  have h1 : 2 ≤ p.natAbs := by omega
  have h2 : 0 < (a / p).natAbs := by omega
  rw [e2]
  calc (a / p).natAbs < 2 * (a / p).natAbs := by omega
    _ ≤ p.natAbs * (a / p).natAbs := Nat.mul_le_mul_right _ h1
theorem splitF_nz : ∀ {k : Nat} {a p : Int} {m : Nat}, a ≠ 0 → 2 ≤ p → (splitF k a p m).2 ≠ 0
  | 0, _, _, _, h, _ => h
  | k + 1, a, p, m, h, hp => by
    unfold splitF
    split
    · rename_i hd
      exact splitF_nz (div_lt h hp hd).2 hp
    · exact h
theorem strip_le : ∀ {k n p : Nat}, stripF k n p ≤ n
  | 0, _, _ => Nat.le_refl _
  | k + 1, n, p => by
    unfold stripF
    split
    · exact Nat.le_trans strip_le (Nat.div_le_self n p)
    · exact Nat.le_refl _
end M

set_option Elab.async false
set_option linter.all false
set_option maxRecDepth 100000
set_option maxHeartbeats 4000000
/-! Q3: the loops. -/
namespace M
open PySem L2
theorem wh_true {c : En → Res Bool} {b : En → Res Fl} {e e1 e2 : En} (hc : c e = .ok true e1) (hb : b e1 = .ok .nx e2) : whileC c b e = whileC c b e2 := by
  rw [whileC_unfold, hc, bind_ok, if_pos rfl, hb, turn_nx]
theorem wh_false {c : En → Res Bool} {b : En → Res Fl} {e e1 : En} (hc : c e = .ok false e1) : whileC c b e = .ok .nx e1 := by
  rw [whileC_unfold, hc, bind_ok, if_neg Bool.false_ne_true]
theorem strip_loop {c : En → Res Bool} {b : En → Res Fl} {st : Nat → En} {p : Nat} (hp : 2 ≤ p) (hc : ∀ n, 0 < n → n < BIG → c (st n) = .ok (decide (n % p = 0)) (st n)) (hb : ∀ n, 0 < n → n < BIG → b (st n) = .ok .nx (st (n / p))) :
    ∀ k n, 0 < n → n ≤ k → n < BIG → whileC c b (st n) = .ok .nx (st (stripF k n p)) ∧ 0 < stripF k n p
  | 0, n, h0, hk, _ => by omega
  | k + 1, n, h0, hk, hB => by
    unfold stripF
    by_cases h : n % p = 0
    · rw [if_pos h, wh_true (by rw [hc n h0 hB]; simp [h]) (hb n h0 hB)]
      have hlt : n / p < n := Nat.div_lt_self h0 hp
      have hpos : 0 < n / p := Nat.div_pos (Nat.le_of_dvd h0 (Nat.dvd_of_mod_eq_zero h)) (by omega)
      exact strip_loop hp hc hb k (n / p) hpos (by omega) (by omega)
    · rw [if_neg h]
      exact ⟨wh_false (by rw [hc n h0 hB]; simp [h]), h0⟩
theorem stripF_pos {p : Nat} (hp : 2 ≤ p) : ∀ {k n : Nat}, 0 < n → n ≤ k → 0 < stripF k n p
  | 0, n, h0, hk => by omega
  | k + 1, n, h0, hk => by
    unfold stripF
    split
    · rename_i h
      have hlt : n / p < n := Nat.div_lt_self h0 hp
      have hpos : 0 < n / p := Nat.div_pos (Nat.le_of_dvd h0 (Nat.dvd_of_mod_eq_zero h)) (by omega)
      exact stripF_pos hp hpos (by omega)
    · exact h0
def okT (n l : Nat) (acc : List Nat) : Prop := 0 < n ∧ n < BIG ∧ 2 ≤ l ∧ l ≤ 40000 ∧ acc.length ≤ l
theorem root_small {n l : Nat} (h : l * l ≤ n) (hn : n < BIG) : l + 1 ≤ 40000 := by
  by_cases c : l ≤ 39999
  · omega
  · have h1 : 40000 * 40000 ≤ l * l := Nat.mul_le_mul (by omega) (by omega)
    unfold BIG at hn
    omega
theorem okT_next {n l : Nat} {acc : List Nat} (h : okT n l acc) (hl : l * l ≤ n) : okT (strip n l) (l + 1) (acc ++ [l]) ∧ okT n (l + 1) acc := by
  obtain ⟨h1, h2, h3, h4, h5⟩ := h
  have hr := root_small hl h2
  exact ⟨⟨stripF_pos h3 h1 (Nat.le_refl _), Nat.lt_of_le_of_lt strip_le h2, by omega, hr, by simp; omega⟩, h1, h2, by omega, hr, by omega⟩
theorem trial_loop {c : En → Res Bool} {b : En → Res Fl} {st : Nat → Nat → List Nat → En} (hc : ∀ n l acc, okT n l acc → c (st n l acc) = .ok (decide (l * l ≤ n)) (st n l acc))
    (hb : ∀ n l acc, okT n l acc → l * l ≤ n → b (st n l acc) = .ok .nx (if n % l = 0 then st (strip n l) (l + 1) (acc ++ [l]) else st n (l + 1) acc)) :
    ∀ k n l acc, okT n l acc → n < l + k → ∃ l', whileC c b (st n l acc) = .ok .nx (st (trialF k n l acc).1 l' (trialF k n l acc).2) ∧ okT (trialF k n l acc).1 l' (trialF k n l acc).2
  | 0, n, l, acc, ok, hk => by
    have hlt : ¬ l * l ≤ n := by
      have := Nat.mul_le_mul ok.2.2.1 (Nat.le_refl l)
      omega
    simp only [trialF]
    exact ⟨l, wh_false (by rw [hc n l acc ok]; simp [hlt]), ok⟩
  | k + 1, n, l, acc, ok, hk => by
    unfold trialF
    by_cases h : l * l ≤ n
    · rw [if_pos h]
      obtain ⟨o1, o2⟩ := okT_next ok h
      have hbb := hb n l acc ok h
      by_cases hd : n % l = 0
      · rw [if_pos hd] at hbb ⊢
        rw [wh_true (by rw [hc n l acc ok]; simp [h]) hbb]
        exact trial_loop hc hb k _ _ _ o1 (by have := strip_le (k := n) (n := n) (p := l); unfold strip; omega)
      · rw [if_neg hd] at hbb ⊢
        rw [wh_true (by rw [hc n l acc ok]; simp [h]) hbb]
        exact trial_loop hc hb k _ _ _ o2 (by omega)
    · rw [if_neg h]
      exact ⟨l, wh_false (by rw [hc n l acc ok]; simp [h]), ok⟩
theorem split_loop {c : En → Res Bool} {b : En → Res Fl} {st : Int → Nat → En} {p : Int} (hp : 2 ≤ p) (hc : ∀ a m, a ≠ 0 → a.natAbs < BIG → c (st a m) = .ok (decide (a % p = 0)) (st a m)) (hb : ∀ a m, a ≠ 0 → a.natAbs < BIG → b (st a m) = .ok .nx (st (a / p) (m + 1))) :
    ∀ k a m, a ≠ 0 → a.natAbs ≤ k → a.natAbs < BIG → whileC c b (st a m) = .ok .nx (st (splitF k a p m).2 (splitF k a p m).1)
  | 0, a, m, h0, hk, _ => by omega
  | k + 1, a, m, h0, hk, hB => by
    unfold splitF
    by_cases h : a % p = 0
    · obtain ⟨d1, d2⟩ := div_lt h0 hp h
      rw [if_pos h, wh_true (by rw [hc a m h0 hB]; simp [h]) (hb a m h0 hB)]
      exact split_loop hp hc hb k (a / p) (m + 1) d2 (by omega) (by omega)
    · rw [if_neg h]
      exact wh_false (by rw [hc a m h0 hB]; simp [h])
def okW (f b p : Int) : Prop := f.natAbs < BIG ∧ b.natAbs < BIG
theorem mod_big {a p : Int} (h : 2 ≤ p) (h2 : p < 1000000000) : (a % p).natAbs < BIG := by
  have h3 := Int.emod_nonneg a (by omega : p ≠ 0)
  have h4 := Int.emod_lt_of_pos a (by omega : 0 < p)
  unfold BIG
  omega
theorem pow_loop {c : En → Res Bool} {b : En → Res Fl} {st : Int → Int → Nat → En} {p : Int} (hp : 2 ≤ p) (hp2 : p < 1000000000) (hc : ∀ f x m, okW f x p → m < BIG → c (st f x m) = .ok (decide (0 < m)) (st f x m))
    (hb : ∀ f x m, okW f x p → 0 < m → m < BIG → b (st f x m) = .ok .nx (st (if m % 2 = 1 then f * x % p else f) (x * x % p) (m / 2))) :
    ∀ k f x m, okW f x p → m < k → m < BIG → ∃ x' m', whileC c b (st f x m) = .ok .nx (st (powF k f x m p) x' m')
  | 0, f, x, m, _, hk, _ => by omega
  | k + 1, f, x, m, ok, hk, hB => by
    unfold powF
    by_cases h : 0 < m
    · rw [if_pos h, wh_true (by rw [hc f x m ok hB]; simp [h]) (hb f x m ok h hB)]
      refine pow_loop hp hp2 hc hb k _ _ _ ⟨?_, mod_big hp hp2⟩ (by omega) (by omega)
      split
      · exact mod_big hp hp2
      · exact ok.1
    · rw [if_neg h]
      exact ⟨x, m, wh_false (by rw [hc f x m ok hB]; simp [h])⟩
theorem mod0 (n l : Nat) : ((n : Int) % (l : Int) = 0) ↔ n % l = 0 := ⟨fun h => by
  have h : ((n % l : Nat) : Int) = 0 := h
  omega, fun h => by
  show ((n % l : Nat) : Int) = 0
  omega⟩
theorem modB (n l : Nat) : decide ((n : Int) % (l : Int) = 0) = decide (n % l = 0) := decide_eq_decide.mpr (mod0 n l)
theorem ndiv (n p : Nat) : (n : Int) / (p : Int) = ((n / p : Nat) : Int) := rfl
theorem natsD_snoc (xs : List Nat) (l : Nat) : natsD xs ++ [.int (l : Int)] = natsD (xs ++ [l]) := by simp [natsD]
theorem natsD_len (xs : List Nat) : (natsD xs).length = xs.length := by simp [natsD]
theorem natsD_nil : natsD [] = [] := rfl
theorem lt_SZ {n : Nat} (h : n ≤ 1000000) : n < SZ := Nat.lt_of_le_of_lt h (by decide)
theorem le_SZ {n : Nat} (h : n ≤ 1000000) : n ≤ SZ := Nat.le_trans h (by decide)
theorem nat64 {n : Nat} (h : n < BIG) : (n : Int).natAbs < 2 ^ 64 := by
  unfold BIG at h; omega
theorem trial_0 : trial 0 = [] := rfl
theorem trial_at {n : Nat} (h : 0 < n) (hB : n < BIG) {l' : Nat} (ok : okT (trialF n n 2 []).1 l' (trialF n n 2 []).2) : (trial n).length ≤ 50000 := by
  unfold trial
  have := ok.2.2.2.1
  have := ok.2.2.2.2
  split
  · rw [List.length_append]; simp; omega
  · omega
theorem natsD_ints (xs : List Nat) : natsD xs = (xs.map fun (n : Nat) => (n : Int)).map D.int := by simp [natsD]
theorem eq_nats (xs ys : List Nat) : eqS (.lst (natsD xs)) (.lst (natsD ys)) = some (decide (xs = ys)) := by
  rw [natsD_ints, natsD_ints, eq_ints]
  congr 1
  rw [decide_eq_decide]
  constructor
  · intro h
    have inj : ∀ {xs ys : List Nat}, (xs.map fun (n : Nat) => (n : Int)) = (ys.map fun (n : Nat) => (n : Int)) → xs = ys := by
      intro xs
      induction xs with
      | nil => intro ys h; cases ys with
        | nil => rfl
        | cons y ys => simp at h
      | cons x xs ih => intro ys h; cases ys with
        | nil => simp at h
        | cons y ys =>
          simp only [List.map_cons, List.cons.injEq] at h
          rw [ih h.2, show x = y by omega]
    exact inj h
  · intro h; rw [h]
section
variable {Φ : Nat → En → Res Val} {Γ : List D} {e : En}
theorem and_bb {a b : E} {x y : Bool} (ha : a.ev Φ Γ e = .ok (.p (.bl x)) e) (hb : b.ev Φ Γ e = .ok (.p (.bl y)) e) : (E.and a b).ev Φ Γ e = .ok (.p (.bl (x && y))) e := by
  rw [evE_and, ha]
  cases x
  · rfl
  · simp only [frz_ok, frz_p, bind_ok, truS, lift_some, if_true, hb, Bool.true_and]
theorem or_bb {a b : E} {x y : Bool} (ha : a.ev Φ Γ e = .ok (.p (.bl x)) e) (hb : b.ev Φ Γ e = .ok (.p (.bl y)) e) : (E.or a b).ev Φ Γ e = .ok (.p (.bl (x || y))) e := by
  rw [evE_or, ha]
  cases x
  · simp only [frz_ok, frz_p, bind_ok, truS, lift_some, Bool.false_eq_true, if_false, hb, Bool.false_or]
  · rfl
theorem tand_bb {a b : T} {x y : Bool} (ha : a.ev Φ Γ e = .ok x e) (hb : b.ev Φ Γ e = .ok y e) : (T.and a b).ev Φ Γ e = .ok (x && y) e := by
  rw [evT_and, ha]
  cases x
  · rfl
  · simp only [bind_ok, if_true, hb, Bool.true_and]
end
theorem par2 (m : Nat) : decide ((m : Int) % 2 = 1) = decide (m % 2 = 1) := decide_eq_decide.mpr (by omega)
theorem parP (m : Nat) : ((m : Int) % 2 = 1) = (m % 2 = 1) := propext (by omega)
theorem in35 (v : Int) : inS (.int (v % 8)) (.tup [.int 3, .int 5]) = some (r35 v) := by
  show inSq true _ _ = _
  unfold inSq
  rw [if_pos ⟨rfl, rfl⟩]
  simp only [List.any_cons, List.any_nil, eqF, Bool.or_false, r35]
  congr 1
  rw [show ((3 : Int) == v % 8) = decide (v % 8 = 3) by rw [Bool.beq_eq_decide_eq]; exact decide_eq_decide.mpr eq_comm, show ((5 : Int) == v % 8) = decide (v % 8 = 5) by rw [Bool.beq_eq_decide_eq]; exact decide_eq_decide.mpr eq_comm]
theorem odd2_ev (x y z : Bool) : decide (((if x = true then (1 : Int) else 0) + ((if y = true then (1 : Int) else 0) + (if z = true then (1 : Int) else 0))) % 2 = 1) = odd2 x y z := by cases x <;> cases y <;> cases z <;> rfl
theorem odd2_ev' (x y z : Bool) : decide (((if x = true then (1 : Int) else 0) + (if y = true then (1 : Int) else 0) + (if z = true then (1 : Int) else 0)) % 2 = 1) = odd2 x y z := by cases x <;> cases y <;> cases z <;> rfl
theorem okA_of {a p : Int} (h : okA a p = true) : a ≠ 0 ∧ 2 ≤ p ∧ p < 1000000000 ∧ a.natAbs < 1000000000 := by
  simpa [okA, and_assoc] using h
theorem okP_split {a p : Int} (h : okA a p = true) : okP (split a p).2 p = true := by
  obtain ⟨h1, h2, h3, h4⟩ := okA_of h
  have := split_le (k := a.natAbs) (a := a) (p := p) (m := 0) h2
  simp only [okP, split, Bool.and_eq_true, decide_eq_true_eq]
  exact ⟨⟨h2, h3⟩, decide_eq_true (Nat.lt_of_le_of_lt this h4)⟩
theorem intS_b (b : Bool) : intS [.bl b] = some (.p (.int (if b then 1 else 0))) := rfl
end M

set_option Elab.async false
set_option linter.all false
set_option maxRecDepth 100000
set_option maxHeartbeats 4000000
/-! Q4: what trial division finds; the places. -/
namespace M
open PySem L2
/-- without a small divisor -/
def pm (p : Nat) : Prop := 2 ≤ p ∧ ∀ d, 2 ≤ d → d * d ≤ p → p % d ≠ 0
/-- without a divisor below l -/
def rough (n l : Nat) : Prop := ∀ d, 2 ≤ d → d < l → n % d ≠ 0
theorem strip_dvd : ∀ {k n p : Nat}, stripF k n p ∣ n
  | 0, n, _ => Nat.dvd_refl n
  | k + 1, n, p => by
    unfold stripF
    split
    · rename_i h
      exact Nat.dvd_trans strip_dvd (Nat.div_dvd_of_dvd (Nat.dvd_of_mod_eq_zero h))
    · exact Nat.dvd_refl n
theorem strip_nd {p : Nat} (hp : 2 ≤ p) : ∀ {k n : Nat}, 0 < n → n ≤ k → stripF k n p % p ≠ 0
  | 0, n, h0, hk => by omega
  | k + 1, n, h0, hk => by
    unfold stripF
    split
    · rename_i h
      have hlt : n / p < n := Nat.div_lt_self h0 hp
      have hpos : 0 < n / p := Nat.div_pos (Nat.le_of_dvd h0 (Nat.dvd_of_mod_eq_zero h)) (by omega)
      exact strip_nd hp hpos (by omega)
    · assumption
theorem rough_dvd {n m l : Nat} (h : rough n l) (d : m ∣ n) : rough m l := fun x h1 h2 h3 => h x h1 h2 (Nat.mod_eq_zero_of_dvd (Nat.dvd_trans (Nat.dvd_of_mod_eq_zero h3) d))
theorem pm_of {n l : Nat} (h : rough n l) (h2 : 2 ≤ l) (hd : n % l = 0) : pm l :=
  ⟨h2, fun d a b c => h d a (by
    have := Nat.mul_le_mul_right d a
    omega) (Nat.mod_eq_zero_of_dvd (Nat.dvd_trans (Nat.dvd_of_mod_eq_zero c) (Nat.dvd_of_mod_eq_zero hd)))⟩
theorem half_le {n l : Nat} (hl : 2 ≤ l) : n / l ≤ n / 2 := Nat.div_le_div_left hl (by decide)
theorem strip_half {n l : Nat} (h0 : 0 < n) (hl : 2 ≤ l) (h : n % l = 0) : 2 * strip n l ≤ n := by
  unfold strip
  cases n with
  | zero => omega
  | succ k =>
    unfold stripF
    rw [if_pos h]
    have h1 : stripF k ((k + 1) / l) l ≤ (k + 1) / l := strip_le
    have h2 := half_le (n := k + 1) hl
    omega
theorem trialF_ok : ∀ {k n l : Nat} {acc : List Nat}, 0 < n → 2 ≤ l → n < l + k → rough n l → ∃ fs, (trialF k n l acc).2 = acc ++ fs ∧ (∀ p ∈ fs, pm p ∧ p ∣ n) ∧ 0 < (trialF k n l acc).1 ∧ (trialF k n l acc).1 ∣ n ∧ 2 ^ fs.length * (trialF k n l acc).1 ≤ n ∧ (∀ d, 2 ≤ d → d * d ≤ (trialF k n l acc).1 → (trialF k n l acc).1 % d ≠ 0)
  | 0, n, l, acc, h0, hl, hk, hr => by
    unfold trialF
    refine ⟨[], by simp, by simp, h0, Nat.dvd_refl _, by simp, fun d a b c => hr d a ?_ c⟩
    have := Nat.mul_le_mul_right d a
    show d < l
    omega
  | k + 1, n, l, acc, h0, hl, hk, hr => by
    unfold trialF
    by_cases h : l * l ≤ n
    · rw [if_pos h]
      by_cases hd : n % l = 0
      · rw [if_pos hd]
        have sp : 0 < strip n l := stripF_pos hl h0 (Nat.le_refl _)
        have sd : strip n l ∣ n := strip_dvd
        have sl : strip n l ≤ n := strip_le
        have sr : rough (strip n l) (l + 1) := fun d a b c => by
          by_cases e : d = l
          · subst e; exact strip_nd hl h0 (Nat.le_refl _) c
          · exact rough_dvd hr sd d a (by omega) c
        obtain ⟨fs, e1, e2, e3, e4, e5, e6⟩ := trialF_ok (k := k) (acc := acc ++ [l]) sp (by omega : 2 ≤ l + 1) (by omega) sr
        refine ⟨l :: fs, by rw [e1]; simp, ?_, e3, Nat.dvd_trans e4 sd, ?_, e6⟩
        · intro p hp
          rcases List.mem_cons.mp hp with e | e
          · subst e; exact ⟨pm_of hr hl hd, Nat.dvd_of_mod_eq_zero hd⟩
          · exact ⟨(e2 p e).1, Nat.dvd_trans (e2 p e).2 sd⟩
        · have := strip_half h0 hl hd
          rw [List.length_cons, Nat.pow_succ]
          rw [Nat.mul_right_comm]
          omega
      · rw [if_neg hd]
        exact trialF_ok (k := k) h0 (by omega) (by omega) fun d a b c => by
          by_cases e : d = l
          · subst e; exact hd c
          · exact hr d a (by omega) c
    · rw [if_neg h]
      refine ⟨[], by simp, by simp, h0, Nat.dvd_refl _, by simp, fun d a b c => ?_⟩
      refine hr d a ?_ c
      by_cases e : d < l
      · exact e
      · have := Nat.mul_le_mul (show l ≤ d by omega) (show l ≤ d by omega)
        have b : d * d ≤ n := b
        omega
theorem trial_ok {n : Nat} (h0 : 0 < n) : (∀ p ∈ trial n, pm p ∧ p ∣ n) ∧ 2 ^ (trial n).length ≤ n := by
  obtain ⟨fs, e1, e2, e3, e4, e5, e6⟩ := trialF_ok (k := n) (n := n) (l := 2) (acc := []) h0 (by omega) (by omega) (fun d a b => by omega)
  unfold trial
  rw [e1, List.nil_append]
  split
  · rename_i h1
    refine ⟨fun p hp => ?_, ?_⟩
    · rcases List.mem_append.mp hp with e | e
      · exact e2 p e
      · have e := List.mem_singleton.mp e
        subst e
        exact ⟨⟨h1, e6⟩, e4⟩
    · rw [List.length_append, List.length_singleton, Nat.pow_succ]
      exact Nat.le_trans (Nat.mul_le_mul_left _ h1) e5
  · exact ⟨e2, Nat.le_trans (Nat.le_mul_of_pos_right _ e3) e5⟩
theorem trialF_pm : ∀ {k n l : Nat} {acc : List Nat}, 2 ≤ l → (∀ d, 2 ≤ d → d * d ≤ n → n % d ≠ 0) → trialF k n l acc = (n, acc)
  | 0, _, _, _, _, _ => rfl
  | k + 1, n, l, acc, hl, h => by
    unfold trialF
    split
    · rename_i h1
      rw [if_neg (h l hl h1)]
      exact trialF_pm (by omega) h
    · rfl
theorem pm_trial {p : Nat} (h : pm p) : trial p = [p] := by
  unfold trial
  rw [trialF_pm (by omega) h.2]
  simp only [List.nil_append]
  rw [if_pos (by have := h.1; omega)]
theorem pm_isPr {p : Nat} (h : pm p) (hp : p ≤ 1000000) : isPr (p : Int) = true := by
  have h1 : p ≠ 1000000 := fun e => by subst e; exact h.2 2 (by decide) (by decide) (by decide)
  have h2 := h.1
  unfold isPr
  rw [Int.toNat_natCast, pm_trial h, decide_eq_true (show (2 : Int) ≤ (p : Int) by omega), decide_eq_true (show (p : Int) ≤ 999999 by omega), decide_eq_true rfl]
  rfl
theorem pm_by {p k : Nat} (h2 : 2 ≤ p) (hk : p < k * k) (h : ((List.range k).all fun d => decide (d < 2) || decide (p % d ≠ 0)) = true) : pm p := ⟨h2, fun d a b c => by
  have hd : d < k := by
    by_cases e : d < k
    · exact e
    · have := Nat.mul_le_mul (show k ≤ d by omega) (show k ≤ d by omega)
      omega
  have := List.all_eq_true.mp h d (List.mem_range.mpr hd)
  simp [c] at this
  omega⟩
theorem pm2 : pm 2 := pm_by (k := 2) (by decide) (by decide) (by decide)
theorem pm3 : pm 3 := pm_by (k := 2) (by decide) (by decide) (by decide)
theorem pm5 : pm 5 := pm_by (k := 3) (by decide) (by decide) (by decide)
theorem pm7 : pm 7 := pm_by (k := 3) (by decide) (by decide) (by decide)
theorem pm101 : pm 101 := pm_by (k := 11) (by decide) (by decide) (by decide +kernel)
theorem pm999979 : pm 999979 := pm_by (k := 1000) (by decide) (by decide) (by decide +kernel)
/-! ### the places -/
def tri (n : Int) : List Int := (trial n.natAbs).map fun (m : Nat) => (m : Int)
def triD (n : Int) : List D := natsD (trial n.natAbs)
theorem triD_eq (n : Int) : triD n = (tri n).map D.int := natsD_ints _
def plS (ns : List Int) : List Int := sortU (2 :: (ns.map tri).flatten)
def okN (n : Int) : Bool := decide (n ≠ 0) && decide (n.natAbs ≤ 1000000)
theorem okN_of {n : Int} (h : okN n = true) : n ≠ 0 ∧ n.natAbs ≤ 1000000 := by simpa [okN] using h
def ascN (l : Nat) : Nat → Nat
  | 0 => 1
  | j + 1 => l * ascN (l + 1) j
theorem ascN_mono : ∀ (j l m : Nat), l ≤ m → ascN l j ≤ ascN m j
  | 0, _, _, _ => Nat.le_refl _
  | j + 1, l, m, h => Nat.mul_le_mul h (ascN_mono j (l + 1) (m + 1) (by omega))
theorem strip_mul {n l : Nat} (h0 : 0 < n) (hl : 2 ≤ l) (hd : n % l = 0) : l * strip n l ≤ n := by
  cases n with
  | zero => omega
  | succ k =>
    unfold strip stripF
    rw [if_pos hd]
    exact Nat.le_trans (Nat.mul_le_mul_left l strip_le) (Nat.mul_div_le _ _)
theorem trialF_asc : ∀ (k n l : Nat) (acc : List Nat), 0 < n → 2 ≤ l → ∃ j, (trialF k n l acc).2.length = acc.length + j ∧ ascN l j * (trialF k n l acc).1 ≤ n
  | 0, n, l, acc, h0, hl => ⟨0, rfl, by simp [ascN, trialF]⟩
  | k + 1, n, l, acc, h0, hl => by
    unfold trialF
    split
    · split
      · rename_i hd
        obtain ⟨j, h1, h2⟩ := trialF_asc k (strip n l) (l + 1) (acc ++ [l]) (stripF_pos hl h0 (Nat.le_refl _)) (by omega)
        refine ⟨j + 1, by rw [h1]; simp; omega, ?_⟩
        rw [ascN, Nat.mul_assoc]
        exact Nat.le_trans (Nat.mul_le_mul_left l h2) (strip_mul h0 hl hd)
      · obtain ⟨j, h1, h2⟩ := trialF_asc k n (l + 1) acc h0 (by omega)
        exact ⟨j, h1, Nat.le_trans (Nat.mul_le_mul_right _ (ascN_mono j l (l + 1) (by omega))) h2⟩
    · exact ⟨0, rfl, by simp [ascN]⟩
theorem ascN_pos : ∀ (j l : Nat), 1 ≤ l → 1 ≤ ascN l j
  | 0, _, _ => Nat.le_refl _
  | j + 1, l, h => Nat.mul_le_mul h (ascN_pos j (l + 1) (by omega))
theorem ascN_big : ∀ j, 9 ≤ j → 3628800 ≤ ascN 2 j := by
  have h : ∀ i l, 1 ≤ l → ∀ m, ascN l i ≤ ascN l (i + m) := fun i => by
    induction i with
    | zero => exact fun l hl m => ascN_pos _ _ hl
    | succ i ih => exact fun l hl m => by rw [show i + 1 + m = (i + m) + 1 by omega]; exact Nat.mul_le_mul_left l (ih (l + 1) (by omega) m)
  intro j hj
  have := h 9 2 (by decide) (j - 9)
  rw [show 9 + (j - 9) = j by omega] at this
  exact Nat.le_trans (by decide) this
theorem tri_len {n : Int} (h : okN n = true) : (tri n).length ≤ 9 := by
  obtain ⟨h1, h2⟩ := okN_of h
  rw [tri, List.length_map]
  obtain ⟨j, h3, h4⟩ := trialF_asc n.natAbs n.natAbs 2 [] (by omega) (by omega)
  simp only [List.length_nil, Nat.zero_add] at h3
  by_cases c : j ≤ 8
  · unfold trial
    split
    · rw [List.length_append, h3]; simp; omega
    · omega
  · have h5 := ascN_big j (by omega)
    have h6 : 0 < (trialF n.natAbs n.natAbs 2 []).1 := by
      obtain ⟨fs, e1, e2, e3, _⟩ := trialF_ok (k := n.natAbs) (n := n.natAbs) (l := 2) (acc := []) (by omega) (by omega) (by omega) (fun d a b => by omega)
      exact e3
    have := Nat.mul_le_mul h5 h6
    omega
theorem tri_isPr {n q : Int} (h : okN n = true) (hq : q ∈ tri n) : isPr q = true := by
  obtain ⟨h1, h2⟩ := okN_of h
  obtain ⟨m, hm, rfl⟩ := List.mem_map.mp hq
  obtain ⟨h3, h4⟩ := (trial_ok (n := n.natAbs) (by omega)).1 m hm
  exact pm_isPr h3 (Nat.le_trans (Nat.le_of_dvd (by omega) h4) h2)
theorem plS_isPr {ns : List Int} {q : Int} (h : ns.all okN = true) (hq : q ∈ plS ns) : isPr q = true := by
  rcases List.mem_cons.mp (mem_sortU.mp hq) with e | e
  · subst e; exact pm_isPr pm2 (by decide)
  · obtain ⟨l, h1, h2⟩ := List.mem_flatten.mp e
    obtain ⟨n, h3, rfl⟩ := List.mem_map.mp h1
    exact tri_isPr (List.all_eq_true.mp h n h3) h2
/-- a key added -/
def addK (ks : List Int) (k : Int) : List Int := if k ∈ ks then ks else ks ++ [k]
theorem putD_add : ∀ (ks : List Int) (k : Int), putD (ks.map Sum.inl) (List.replicate ks.length (D.bl true)) (Sum.inl k) (.bl true) = ((addK ks k).map Sum.inl, List.replicate (addK ks k).length (.bl true))
  | [], k => rfl
  | q :: ks, k => by
    rw [List.map_cons, List.length_cons, List.replicate_succ]
    unfold putD
    by_cases h : q = k
    · subst h
      simp [addK, List.replicate_succ]
    · have h' : ¬ k = q := fun e => h e.symm
      rw [if_neg (by simpa using h), putD_add ks k]
      by_cases hm : k ∈ ks <;> simp [addK, hm, h', List.replicate_succ]
theorem addK_nd {ks : List Int} {k : Int} (h : ks.Nodup) : (addK ks k).Nodup := by
  unfold addK
  split
  · exact h
  · rename_i hm
    rw [List.nodup_append]
    exact ⟨h, by simp, fun a ha b hb => by rw [List.mem_singleton.mp hb]; intro e; subst e; exact hm ha⟩
theorem addK_len {ks : List Int} {k : Int} : (addK ks k).length ≤ ks.length + 1 := by
  unfold addK; split <;> simp
theorem mem_addK {ks : List Int} {k q : Int} : q ∈ addK ks k ↔ q ∈ ks ∨ q = k := by
  unfold addK
  split
  · rename_i h
    exact ⟨.inl, fun e => e.elim id fun e => e ▸ h⟩
  · simp
def addKs (ks : List Int) : List Int → List Int
  | [] => ks
  | q :: qs => addKs (addK ks q) qs
theorem addKs_ok : ∀ {qs ks : List Int}, ks.Nodup → (addKs ks qs).Nodup ∧ (addKs ks qs).length ≤ ks.length + qs.length ∧ ∀ q, q ∈ addKs ks qs ↔ q ∈ ks ∨ q ∈ qs
  | [], ks, h => ⟨h, by simp [addKs], fun q => by simp [addKs]⟩
  | p :: qs, ks, h => by
    obtain ⟨h1, h2, h3⟩ := addKs_ok (qs := qs) (addK_nd (k := p) h)
    have := addK_len (ks := ks) (k := p)
    refine ⟨h1, by simp only [addKs, List.length_cons]; omega, fun q => ?_⟩
    simp only [addKs, h3, mem_addK, List.mem_cons, or_assoc]
def addAll (ks : List Int) : List Int → List Int
  | [] => ks
  | n :: ns => addAll (addKs ks (tri n)) ns
theorem addAll_ok : ∀ {ns ks : List Int}, ks.Nodup → ns.all okN = true → (addAll ks ns).Nodup ∧ (addAll ks ns).length ≤ ks.length + 9 * ns.length ∧ ∀ q, q ∈ addAll ks ns ↔ q ∈ ks ∨ q ∈ (ns.map tri).flatten
  | [], ks, h, _ => ⟨h, by simp [addAll], fun q => by simp [addAll]⟩
  | n :: ns, ks, h, ho => by
    rw [List.all_cons, Bool.and_eq_true] at ho
    obtain ⟨h1, h2, h3⟩ := addKs_ok (qs := tri n) h
    obtain ⟨h4, h5, h6⟩ := addAll_ok (ns := ns) h1 ho.2
    have := tri_len ho.1
    refine ⟨h4, by simp only [addAll, List.length_cons]; omega, fun q => ?_⟩
    simp only [addAll, h6, h3, List.map_cons, List.flatten_cons, List.mem_append, or_assoc]
theorem sortI_nd {ks : List Int} (h : ks.Nodup) : (sortI ks).Pairwise (· < ·) := by
  have h1 := sortI_srt ks
  have h2 : (sortI ks).Nodup := (sortI_perm ks).nodup_iff.mpr h
  have : (sortI ks).Pairwise (fun a b => a ≤ b ∧ a ≠ b) := h1.and h2
  exact this.imp fun h => by omega
theorem places_eq {ns : List Int} (ho : ns.all okN = true) : sortI (addAll [2] ns) = plS ns := by
  obtain ⟨h1, h2, h3⟩ := addAll_ok (ks := [2]) (by simp) ho
  refine strict_uniq (fun k => ?_) (sortI_nd h1) sortU_srt
  rw [(sortI_perm _).mem_iff, h3]
  unfold plS
  rw [mem_sortU]
  simp
theorem keysI_map : ∀ ks : List Int, keysI (ks.map Sum.inl) = some ks
  | [] => rfl
  | k :: ks => by rw [List.map_cons]; simp only [keysI, keysI_map ks, Option.map_some]
def plD (ns : List Int) : List D := .str REAL :: (plS ns).map D.int
def g_places (v : D) : Option Val := match v with
  | .tup xs => match intsD xs with
    | some ns => if ns.all okN = true ∧ ns.length ≤ 6 then some (.p (.tup (plD ns))) else none
    | none => none
  | _ => none
/-- the numbers of a tuple or list -/
def seqI : D → Option (List Int)
  | .tup xs => intsD xs
  | .lst xs => intsD xs
  | _ => none
def g_placesL (v : D) : Option Val := match seqI v with
  | some ns => if ns.all okN = true ∧ ns.length ≤ 6 then some (.p (.tup (plD ns))) else none
  | none => none
end M

set_option Elab.async false
set_option linter.all false
set_option maxRecDepth 100000
set_option maxHeartbeats 4000000
/-! Q5: the jar. -/
namespace M
open PySem L2
structure J where
  x : Int
  y : Int
  n : Int
def J.d (j : J) : List D := [.int j.x, .int j.y, .int j.n]
def J.of : List D → Option J
  | [.int a, .int b, .int c] => some ⟨a, b, c⟩
  | _ => none
theorem J.of_eq {xs : List D} {j : J} (h : J.of xs = some j) : xs = j.d := by
  unfold J.of at h
  split at h
  · cases h; rfl
  · cases h
theorem J.of_d (j : J) : J.of j.d = some j := rfl
def okJ (k : Int) (j : J) : Prop := j.y.natAbs < 1000000000000 ∧ 0 ≤ j.n ∧ j.n ≤ k
instance (k : Int) (j : J) : Decidable (okJ k j) := by unfold okJ; infer_instance
def mixY (j : J) : Int := (j.y * 48271 + 60029 * (j.n + 1)) % 2147483399
def dipV (j : J) (t : Int) : Int := if 0 < j.x then j.x % t else mixY j / 512 % t
def dipJ (j : J) (t : Int) : J := if 0 < j.x then ⟨j.x / t, j.y, j.n + 1⟩ else ⟨j.x, mixY j, j.n + 1⟩
theorem dip_ok {k : Int} {j : J} {t : Int} (h : okJ k j) : okJ (k + 1) (dipJ j t) := by
  obtain ⟨h1, h2, h3⟩ := h
  unfold dipJ
  split
  · exact ⟨h1, by simp only; omega, by simp only; omega⟩
  · refine ⟨?_, by simp only; omega, by simp only; omega⟩
    simp only [mixY]
    have h3 := Int.emod_nonneg (j.y * 48271 + 60029 * (j.n + 1)) (by decide : (2147483399 : Int) ≠ 0)
    have h4 := Int.emod_lt_of_pos (j.y * 48271 + 60029 * (j.n + 1)) (by decide : (0 : Int) < 2147483399)
    omega
theorem dip_lt {j : J} {t : Int} (h : 0 < t) : 0 ≤ dipV j t ∧ dipV j t < t := by
  unfold dipV
  split
  · exact ⟨Int.emod_nonneg _ (by omega), Int.emod_lt_of_pos _ h⟩
  · exact ⟨Int.emod_nonneg _ (by omega), Int.emod_lt_of_pos _ h⟩
def fJ2 (f : J → D → Option (Val × J)) : En → Res Val
  | [some (.own 1 xs), some (.p b)] => match J.of xs with
    | some j => match f j b with
      | some (v, j') => .ok v [some (.own 1 j'.d), none]
      | none => .fail
    | none => .fail
  | _ => .fail
theorem fJ2_ev {f : J → D → Option (Val × J)} {j j' : J} {b : D} {v : Val} (h : f j b = some (v, j')) : fJ2 f [some (.own 1 j.d), some (.p b)] = .ok v [some (.own 1 j'.d), none] := by
  simp only [fJ2, J.of_d, h]
theorem fJ2_run {f : J → D → Option (Val × J)} {fb : En → Res Fl} {n : Nat} (h : ∀ j b v j', f j b = some (v, j') → runF fb n [some (.own 1 j.d), some (.p b)] = .ok v [some (.own 1 j'.d), none]) : ∀ e, fJ2 f e ≠ .fail → runF fb n e = fJ2 f e := by
  intro e he
  unfold fJ2 at he ⊢
  split at he
  · split at he
    · rename_i j hj
      rw [J.of_eq hj]
      split at he
      · rename_i v j' hv
        rw [h _ _ _ _ hv]
      · exact absurd rfl he
    · exact absurd rfl he
  · exact absurd rfl he
def fJ1 (f : J → Option (Val × J)) : En → Res Val
  | [some (.own 1 xs)] => match J.of xs with
    | some j => match f j with
      | some (v, j') => .ok v [some (.own 1 j'.d)]
      | none => .fail
    | none => .fail
  | _ => .fail
theorem fJ1_ev {f : J → Option (Val × J)} {j j' : J} {v : Val} (h : f j = some (v, j')) : fJ1 f [some (.own 1 j.d)] = .ok v [some (.own 1 j'.d)] := by
  simp only [fJ1, J.of_d, h]
theorem fJ1_run {f : J → Option (Val × J)} {fb : En → Res Fl} {n : Nat} (h : ∀ j v j', f j = some (v, j') → runF fb n [some (.own 1 j.d)] = .ok v [some (.own 1 j'.d)]) : ∀ e, fJ1 f e ≠ .fail → runF fb n e = fJ1 f e := by
  intro e he
  unfold fJ1 at he ⊢
  split at he
  · split at he
    · rename_i j hj
      rw [J.of_eq hj]
      split at he
      · rename_i v j' hv
        rw [h _ _ _ hv]
      · exact absurd rfl he
    · exact absurd rfl he
  · exact absurd rfl he
def g_dip (j : J) (t : D) : Option (Val × J) := match t with
  | .int t => if okJ 1000000 j ∧ 0 < t ∧ t < 1073741824 then some (.p (.int (dipV j t)), dipJ j t) else none
  | _ => none
def oneV (j : J) (xs : List D) : D := xs.getD (dipV j (xs.length : Int)).toNat .non
theorem oneV_mem {j : J} {xs : List D} (h : xs ≠ []) : oneV j xs ∈ xs := by
  have hl : 0 < xs.length := List.length_pos_iff.mpr h
  obtain ⟨h1, h2⟩ := dip_lt (j := j) (t := (xs.length : Int)) (by omega)
  unfold oneV
  rw [List.getD_eq_getElem?_getD, List.getElem?_eq_getElem (show (dipV j (xs.length : Int)).toNat < xs.length by omega)]
  exact List.getElem_mem _
def g_one (j : J) (xs : D) : Option (Val × J) := match xs with
  | .lst xs => if okJ 1000000 j ∧ xs ≠ [] ∧ xs.length ≤ 1000 then some (.p (oneV j xs), dipJ j (xs.length : Int)) else none
  | _ => none
/-- a comprehension -/
theorem comp_gen {ft : D → En → Option En} {fc : En → Res Bool} {fe : En → Res D} {vs : List Nat} (w : En) (p : D → Bool) (f : D → D) : ∀ (items acc : List D) (e : En), (∀ x ∈ items, ∃ e1 e2, ft x w = some e1 ∧ fc e1 = .ok (p x) e2 ∧ wipeE e2 vs = w ∧ (p x = true → ∃ e3, fe e2 = .ok (f x) e3 ∧ wipeE e3 vs = w)) → wipeE e vs = w → acc.length + items.length ≤ 1000 →
    compS ft fc fe vs items acc e = .ok (.own 0 (acc ++ (items.filter p).map f)) w
  | [], acc, e, _, hw, _ => by simp [compS, hw]
  | x :: xs, acc, e, h, hw, hl => by
    have hl' : acc.length + (xs.length + 1) ≤ 1000 := hl
    obtain ⟨e1, e2, h1, h2, h3, h4⟩ := h x List.mem_cons_self
    have ih := comp_gen (ft := ft) (fc := fc) (fe := fe) (vs := vs) w p f xs
    unfold compS
    rw [hw, h1]
    simp only [h2]
    cases hp : p x with
    | false =>
      simp only
      rw [ih acc e2 (fun y hy => h y (List.mem_cons_of_mem _ hy)) h3 (by omega), List.filter_cons, hp]
      rfl
    | true =>
      obtain ⟨e3, h5, h6⟩ := h4 hp
      simp only [h5]
      rw [if_pos (lt_SZ (show acc.length ≤ 1000000 by omega)), ih (acc ++ [f x]) e3 (fun y hy => h y (List.mem_cons_of_mem _ hy)) h6 (by simp; omega), List.filter_cons, hp]
      simp
def toI : D → Int
  | .int i => i
  | _ => 1
end M

set_option Elab.async false
set_option linter.all false
set_option maxRecDepth 100000
set_option maxHeartbeats 4000000
/-! N1: powers and rests. -/
namespace M
open PySem L2
theorem powF_eq {p : Int} (hp : 2 ≤ p) : ∀ (k : Nat) (f b : Int) (m : Nat), m < k → 0 ≤ f → f < p → powF k f b m p = f * b ^ m % p
  | 0, _, _, m, h, _, _ => by omega
  | k + 1, f, b, m, h, h0, h1 => by
    unfold powF
    by_cases hm : 0 < m
    · rw [if_pos hm]
      have hb : ∀ g : Int, 0 ≤ g → g < p → powF k g (b * b % p) (m / 2) p = g * (b * b) ^ (m / 2) % p := fun g g0 g1 => by
        rw [powF_eq hp k g (b * b % p) (m / 2) (by omega) g0 g1]
        have : ∀ (x : Int) (n : Nat), (g * (x % p) ^ n) % p = (g * x ^ n) % p := by
          intro x n
          induction n with
          | zero => simp
          | succ n ih =>
            rw [Int.pow_succ, Int.pow_succ, ← Int.mul_assoc, ← Int.mul_assoc, Int.mul_emod, ih, Int.emod_emod_of_dvd _ (Int.dvd_refl p), ← Int.mul_emod]
        exact this (b * b) (m / 2)
      by_cases ho : m % 2 = 1
      · rw [if_pos ho, hb _ (Int.emod_nonneg _ (by omega)) (Int.emod_lt_of_pos _ (by omega))]
        have e : m = 2 * (m / 2) + 1 := by omega
        conv => rhs; rw [e, Int.pow_succ, Int.pow_mul]
        rw [Int.mul_emod, Int.emod_emod_of_dvd _ (Int.dvd_refl p), ← Int.mul_emod]
        congr 1
        rw [show b ^ 2 = b * b from by rw [Int.pow_succ, Int.pow_succ, Int.pow_zero, Int.one_mul]]
        rw [Int.mul_assoc, Int.mul_comm b]
      · rw [if_neg ho, hb _ h0 h1]
        have e : m = 2 * (m / 2) := by omega
        conv => rhs; rw [e, Int.pow_mul]
        rw [show b ^ 2 = b * b from by rw [Int.pow_succ, Int.pow_succ, Int.pow_zero, Int.one_mul]]
    · have hm : m = 0 := by omega
      subst hm
      rw [if_neg (by omega), Int.pow_zero, Int.mul_one, Int.emod_eq_of_lt h0 h1]
theorem pow_mod (x p : Int) (n : Nat) : (x % p) ^ n % p = x ^ n % p := by
  induction n with
  | zero => simp
  | succ n ih => rw [Int.pow_succ, Int.pow_succ, Int.mul_emod, ih, Int.emod_emod_of_dvd _ (Int.dvd_refl p), ← Int.mul_emod]
theorem powR_eq {p : Int} (hp : 2 ≤ p) (b : Int) (m : Nat) : powR b m p = b ^ m % p := by
  unfold powR
  rw [powF_eq hp _ _ _ _ (by omega) (by omega) (by omega), Int.one_mul, pow_mod]
/-- primes -/
theorem pm_dvd {p d : Nat} (h : pm p) (hd : d ∣ p) : d = 1 ∨ d = p := by
  obtain ⟨c, hc⟩ := hd
  have h2 := h.1
  have hd0 : d ≠ 0 := fun e => by rw [e, Nat.zero_mul] at hc; omega
  have hc0 : c ≠ 0 := fun e => by rw [e, Nat.mul_zero] at hc; omega
  by_cases d1 : d = 1
  · exact .inl d1
  by_cases c1 : c = 1
  · right; rw [hc, c1, Nat.mul_one]
  exfalso
  by_cases hdc : d ≤ c
  · exact h.2 d (by omega) (by rw [hc]; exact Nat.mul_le_mul_left d hdc) (by rw [hc]; exact Nat.mul_mod_right d c)
  · exact h.2 c (by omega) (by rw [hc]; exact Nat.mul_le_mul_right c (by omega)) (by rw [hc]; exact Nat.mul_mod_left d c)
theorem pm_cop {p a : Nat} (h : pm p) (ha : ¬ p ∣ a) : Nat.Coprime p a := by
  rcases pm_dvd h (Nat.gcd_dvd_left p a) with e | e
  · exact e
  · exact absurd (e ▸ Nat.gcd_dvd_right p a) ha
theorem pm_mul {p a b : Nat} (h : pm p) (hd : p ∣ a * b) : p ∣ a ∨ p ∣ b := by
  by_cases ha : p ∣ a
  · exact .inl ha
  · exact .inr ((pm_cop h ha).dvd_of_dvd_mul_left hd)
theorem pm_mulI {p : Nat} {a b : Int} (h : pm p) (hd : (p : Int) ∣ a * b) : (p : Int) ∣ a ∨ (p : Int) ∣ b := by
  have : p ∣ (a * b).natAbs := Int.ofNat_dvd_left.mp hd
  rw [Int.natAbs_mul] at this
  rcases pm_mul h this with e | e
  · exact .inl (Int.ofNat_dvd_left.mpr e)
  · exact .inr (Int.ofNat_dvd_left.mpr e)
end M

set_option Elab.async false
set_option linter.all false
set_option maxRecDepth 100000
set_option maxHeartbeats 4000000
/-! N2: splitting at a prime. -/
namespace M
open PySem L2
theorem splitF_ok {p : Int} (hp : 2 ≤ p) : ∀ (k : Nat) (a : Int) (m : Nat), a ≠ 0 → a.natAbs ≤ k → ∃ n u, splitF k a p m = (m + n, u) ∧ a = p ^ n * u ∧ u % p ≠ 0
  | 0, a, m, h, hk => by omega
  | k + 1, a, m, h, hk => by
    unfold splitF
    by_cases hd : a % p = 0
    · rw [if_pos hd]
      obtain ⟨d1, d2⟩ := div_lt h hp hd
      obtain ⟨n, u, e1, e2, e3⟩ := splitF_ok hp k (a / p) (m + 1) d2 (by omega)
      refine ⟨n + 1, u, by rw [e1]; congr 1; omega, ?_, e3⟩
      have := Int.mul_ediv_add_emod a p
      rw [hd, Int.add_zero] at this
      rw [← this, e2, Int.pow_succ, Int.mul_comm (p ^ n) p, Int.mul_assoc]
    · rw [if_neg hd]
      exact ⟨0, a, rfl, by simp, hd⟩
theorem split_ok {a p : Int} (h : a ≠ 0) (hp : 2 ≤ p) : a = p ^ (split a p).1 * (split a p).2 ∧ (split a p).2 % p ≠ 0 := by
  obtain ⟨n, u, e1, e2, e3⟩ := splitF_ok hp a.natAbs a 0 h (Nat.le_refl _)
  unfold split
  rw [e1]
  simp only [Nat.zero_add]
  exact ⟨e2, e3⟩
theorem pow_uniq {p u w : Int} (hp : 2 ≤ p) (hu : u % p ≠ 0) (hw : w % p ≠ 0) : ∀ (n m : Nat), p ^ n * u = p ^ m * w → n = m ∧ u = w
  | 0, 0, h => ⟨rfl, by simpa using h⟩
  | 0, m + 1, h => by
    rw [Int.pow_zero, Int.one_mul, Int.pow_succ, Int.mul_comm (p ^ m) p, Int.mul_assoc] at h
    exact absurd (by rw [h]; exact Int.mul_emod_right p _) hu
  | n + 1, 0, h => by
    rw [Int.pow_zero, Int.one_mul, Int.pow_succ, Int.mul_comm (p ^ n) p, Int.mul_assoc] at h
    exact absurd (by rw [← h]; exact Int.mul_emod_right p _) hw
  | n + 1, m + 1, h => by
    rw [Int.pow_succ, Int.pow_succ, Int.mul_comm (p ^ n) p, Int.mul_comm (p ^ m) p, Int.mul_assoc, Int.mul_assoc] at h
    obtain ⟨e1, e2⟩ := pow_uniq hp hu hw n m (Int.eq_of_mul_eq_mul_left (by omega) h)
    exact ⟨by omega, e2⟩
theorem split_uniq {p u a : Int} {n : Nat} (hp : 2 ≤ p) (ha : a ≠ 0) (h : a = p ^ n * u) (hu : u % p ≠ 0) : split a p = (n, u) := by
  obtain ⟨h1, h2⟩ := split_ok ha hp
  obtain ⟨e1, e2⟩ := pow_uniq hp h2 hu _ _ (h1.symm.trans h)
  exact Prod.ext e1 e2
theorem nd_mul {p : Nat} {u w : Int} (h : pm p) (hu : u % (p : Int) ≠ 0) (hw : w % (p : Int) ≠ 0) : (u * w) % (p : Int) ≠ 0 := fun e => by
  rcases pm_mulI h (Int.dvd_of_emod_eq_zero e) with d | d
  · exact hu (Int.emod_eq_zero_of_dvd d)
  · exact hw (Int.emod_eq_zero_of_dvd d)
theorem split_mul {p : Nat} {a b : Int} (h : pm p) (ha : a ≠ 0) (hb : b ≠ 0) : split (a * b) p = ((split a p).1 + (split b p).1, (split a p).2 * (split b p).2) := by
  have hp : (2 : Int) ≤ (p : Int) := by have := h.1; omega
  obtain ⟨a1, a2⟩ := split_ok ha hp
  obtain ⟨b1, b2⟩ := split_ok hb hp
  refine split_uniq hp (Int.mul_ne_zero ha hb) ?_ (nd_mul h a2 b2)
  conv => lhs; rw [a1, b1]
  rw [Int.pow_add]
  simp only [Int.mul_assoc, Int.mul_left_comm, Int.mul_comm]
theorem split_neg {p : Nat} {a : Int} (h : pm p) (ha : a ≠ 0) : split (-a) p = ((split a p).1, -(split a p).2) := by
  have hp : (2 : Int) ≤ (p : Int) := by have := h.1; omega
  obtain ⟨a1, a2⟩ := split_ok ha hp
  refine split_uniq hp (by omega) ?_ ?_
  · conv => lhs; rw [a1]
    rw [Int.mul_neg]
  · intro e
    exact a2 (Int.emod_eq_zero_of_dvd (Int.dvd_neg.mp (Int.dvd_of_emod_eq_zero e)))
end M

set_option Elab.async false
set_option linter.all false
set_option maxRecDepth 100000
set_option maxHeartbeats 4000000
/-! N3: half the rests (the count of the rests above the half tells the power). -/
namespace M
theorem perm_of {α : Type} [DecidableEq α] : ∀ {xs ys : List α}, xs.Nodup → (∀ x ∈ xs, x ∈ ys) → ys.length ≤ xs.length → xs.Perm ys
  | [], ys, _, _, hl => by
    have : ys = [] := List.eq_nil_of_length_eq_zero (by simpa using hl)
    rw [this]
  | x :: xs, ys, hn, hs, hl => by
    have hx := hs x List.mem_cons_self
    obtain ⟨h1, h2⟩ := List.nodup_cons.mp hn
    have he := List.length_erase_of_mem hx
    have hp : 0 < ys.length := List.length_pos_of_mem hx
    refine ((perm_of (ys := ys.erase x) h2 (fun y hy => ?_) ?_).cons x).trans (List.perm_cons_erase hx).symm
    · exact (List.mem_erase_of_ne (fun e => by subst e; exact h1 hy)).mpr (hs y (List.mem_cons_of_mem _ hy))
    · have : (x :: xs).length = xs.length + 1 := rfl
      omega
def prodI : List Int → Int
  | [] => 1
  | x :: xs => x * prodI xs
theorem prodI_perm {xs ys : List Int} (h : xs.Perm ys) : prodI xs = prodI ys := by
  induction h with
  | nil => rfl
  | cons x _ ih => simp only [prodI, ih]
  | swap x y l => simp only [prodI]; rw [← Int.mul_assoc, ← Int.mul_assoc, Int.mul_comm x y]
  | trans _ _ h1 h2 => exact h1.trans h2
/-- 1 .. h -/
def upto (h : Nat) : List Int := (List.range h).map fun (i : Nat) => ((i + 1 : Nat) : Int)
theorem mem_upto {h : Nat} {x : Int} : x ∈ upto h ↔ 1 ≤ x ∧ x ≤ h := by
  unfold upto
  rw [List.mem_map]
  constructor
  · rintro ⟨i, hi, rfl⟩
    have := List.mem_range.mp hi
    omega
  · intro hx
    exact ⟨(x - 1).toNat, List.mem_range.mpr (by omega), by omega⟩
theorem upto_nodup (h : Nat) : (upto h).Nodup := List.Pairwise.map _ (fun a b hab e => hab (by omega)) List.nodup_range
theorem upto_len (h : Nat) : (upto h).length = h := by simp [upto]
section
variable {p h : Nat} {a : Int}
/-- the rest, or what it lacks -/
def sm (p h : Nat) (a i : Int) : Int := if a * i % (p : Int) ≤ (h : Int) then a * i % (p : Int) else (p : Int) - a * i % (p : Int)
def big (p h : Nat) (a i : Int) : Bool := decide ((h : Int) < a * i % (p : Int))
/-- how many rests lie above the half -/
def gs (p h : Nat) (a : Int) : Nat := ((upto h).filter (big p h a)).length
theorem rest_nz (hp : pm p) (hph : p = 2 * h + 1) (ha : a % (p : Int) ≠ 0) {i : Int} (hi : i ∈ upto h) : a * i % (p : Int) ≠ 0 := nd_mul hp ha (by
  have := mem_upto.mp hi
  rw [Int.emod_eq_of_lt (by omega) (by omega)]
  omega)
theorem sm_mem (hp : pm p) (hph : p = 2 * h + 1) (ha : a % (p : Int) ≠ 0) {i : Int} (hi : i ∈ upto h) : sm p h a i ∈ upto h := by
  have h0 := rest_nz hp hph ha hi
  have h1 := Int.emod_nonneg (a * i) (show (p : Int) ≠ 0 by omega)
  have h2 := Int.emod_lt_of_pos (a * i) (show (0 : Int) < p by omega)
  rw [mem_upto]
  unfold sm
  split <;> omega
theorem sm_inj (hp : pm p) (hph : p = 2 * h + 1) (ha : a % (p : Int) ≠ 0) {i j : Int} (hi : i ∈ upto h) (hj : j ∈ upto h) (e : sm p h a i = sm p h a j) : i = j := by
  have hi' := mem_upto.mp hi
  have hj' := mem_upto.mp hj
  have k1 := Int.mul_ediv_add_emod (a * i) p
  have k2 := Int.mul_ediv_add_emod (a * j) p
  have nd : ¬ (p : Int) ∣ a := fun d => ha (Int.emod_eq_zero_of_dvd d)
  have hd : (p : Int) ∣ a * (i - j) ∨ (p : Int) ∣ a * (i + j) := by
    unfold sm at e
    split at e <;> split at e
    · left; exact ⟨a * i / p - a * j / p, by rw [Int.mul_sub, Int.mul_sub]; omega⟩
    · right; exact ⟨a * i / p + a * j / p + 1, by rw [Int.mul_add, Int.mul_add, Int.mul_add]; omega⟩
    · right; exact ⟨a * i / p + a * j / p + 1, by rw [Int.mul_add, Int.mul_add, Int.mul_add]; omega⟩
    · left; exact ⟨a * i / p - a * j / p, by rw [Int.mul_sub, Int.mul_sub]; omega⟩
  rcases hd with hd | hd <;> rcases pm_mulI hp hd with d | d
  · exact absurd d nd
  · have := Int.emod_eq_zero_of_dvd d
    by_cases c : i = j
    · exact c
    · exfalso
      obtain ⟨q, hq⟩ := d
      have : q = 0 := by
        by_cases q0 : q = 0
        · exact q0
        · exfalso
          have hb : -(p : Int) < i - j ∧ i - j < p := by omega
          rcases Int.lt_or_gt_of_ne q0 with q1 | q1
          · have := Int.mul_le_mul_of_nonneg_left (show q ≤ -1 by omega) (show (0 : Int) ≤ p by omega); omega
          · have := Int.mul_le_mul_of_nonneg_left (show 1 ≤ q by omega) (show (0 : Int) ≤ p by omega); omega
      rw [this, Int.mul_zero] at hq
      omega
  · exact absurd d nd
  · exfalso
    have := Int.le_of_dvd (by omega) d
    omega
theorem sm_perm (hp : pm p) (hph : p = 2 * h + 1) (ha : a % (p : Int) ≠ 0) : ((upto h).map (sm p h a)).Perm (upto h) := by
  refine perm_of ?_ (fun x hx => ?_) (by rw [List.length_map]; exact Nat.le_refl _)
  · have : ∀ {xs : List Int}, xs.Nodup → (∀ x ∈ xs, x ∈ upto h) → (xs.map (sm p h a)).Nodup := by
      intro xs
      induction xs with
      | nil => intro _ _; simp
      | cons x xs ih =>
        intro hn hs
        obtain ⟨h1, h2⟩ := List.nodup_cons.mp hn
        rw [List.map_cons, List.nodup_cons]
        refine ⟨fun hm => ?_, ih h2 fun y hy => hs y (List.mem_cons_of_mem _ hy)⟩
        obtain ⟨y, hy, e⟩ := List.mem_map.mp hm
        have := sm_inj hp hph ha (hs y (List.mem_cons_of_mem _ hy)) (hs x List.mem_cons_self) e
        exact h1 (this ▸ hy)
    exact this (upto_nodup h) fun _ h => h
  · obtain ⟨i, hi, rfl⟩ := List.mem_map.mp hx
    exact sm_mem hp hph ha hi
/-- the product of the a i, modulo p -/
theorem prod_step (hph : p = 2 * h + 1) : ∀ xs : List Int, ∃ q : Int, a ^ xs.length * prodI xs = (-1) ^ ((xs.filter (big p h a)).length) * prodI (xs.map (sm p h a)) + (p : Int) * q
  | [] => ⟨0, by simp [prodI]⟩
  | x :: xs => by
    obtain ⟨q, ih⟩ := prod_step hph xs
    have k1 := Int.mul_ediv_add_emod (a * x) p
    have hs : ∃ t : Int, a * x = (if big p h a x then -1 else 1) * sm p h a x + (p : Int) * t := by
      unfold big sm
      by_cases c : a * x % (p : Int) ≤ (h : Int)
      · rw [if_pos c, if_neg (by simpa using c)]
        exact ⟨a * x / p, by omega⟩
      · rw [if_neg c, if_pos (by simpa using c)]
        exact ⟨a * x / p + 1, by rw [Int.mul_add]; omega⟩
    obtain ⟨t, ht⟩ := hs
    have e1 : a ^ (x :: xs).length * prodI (x :: xs) = (a * x) * (a ^ xs.length * prodI xs) := by
      simp only [List.length_cons, Int.pow_succ, prodI]
      simp only [Int.mul_assoc, Int.mul_left_comm, Int.mul_comm]
    have e2 : (-1 : Int) ^ (((x :: xs).filter (big p h a)).length) * prodI ((x :: xs).map (sm p h a)) = ((if big p h a x then -1 else 1) * sm p h a x) * ((-1) ^ ((xs.filter (big p h a)).length) * prodI (xs.map (sm p h a))) := by
      rw [List.filter_cons]
      cases big p h a x with
      | true =>
        simp only [if_true, List.length_cons, Int.pow_succ, List.map_cons, prodI]
        simp only [Int.mul_assoc, Int.mul_left_comm, Int.mul_comm]
      | false =>
        simp only [Bool.false_eq_true, if_false, List.map_cons, prodI, Int.one_mul]
        simp only [Int.mul_assoc, Int.mul_left_comm, Int.mul_comm]
    rw [e1, e2, ih, ht]
    generalize (if big p h a x then (-1 : Int) else 1) * sm p h a x = A
    generalize (-1 : Int) ^ ((xs.filter (big p h a)).length) * prodI (xs.map (sm p h a)) = B
    refine ⟨A * q + t * B + t * (p * q), ?_⟩
    simp only [Int.mul_add, Int.add_mul]
    simp only [Int.mul_assoc, Int.mul_left_comm, Int.mul_comm]
    omega
theorem prod_nd (hp : pm p) : ∀ xs : List Int, (∀ x ∈ xs, x % (p : Int) ≠ 0) → prodI xs % (p : Int) ≠ 0
  | [], _ => by
    have := hp.1
    rw [prodI, Int.emod_eq_of_lt (by omega) (by omega)]; omega
  | x :: xs, h => nd_mul hp (h x List.mem_cons_self) (prod_nd hp xs fun y hy => h y (List.mem_cons_of_mem _ hy))
/-- the power is told by the count -/
theorem gauss (hp : pm p) (hph : p = 2 * h + 1) (ha : a % (p : Int) ≠ 0) : ∃ q : Int, a ^ h = (-1) ^ gs p h a + (p : Int) * q := by
  obtain ⟨q, e⟩ := prod_step (a := a) hph (upto h)
  rw [upto_len, prodI_perm (sm_perm hp hph ha)] at e
  have hd : (p : Int) ∣ (a ^ h - (-1) ^ gs p h a) * prodI (upto h) := ⟨q, by rw [Int.sub_mul, e]; unfold gs; omega⟩
  rcases pm_mulI hp hd with d | d
  · obtain ⟨t, ht⟩ := d
    exact ⟨t, by omega⟩
  · refine absurd (Int.emod_eq_zero_of_dvd d) (prod_nd hp _ fun x hx => ?_)
    have := mem_upto.mp hx
    rw [Int.emod_eq_of_lt (by omega) (by omega)]
    omega
end
end M

set_option Elab.async false
set_option linter.all false
set_option maxRecDepth 100000
set_option maxHeartbeats 4000000
/-! N4: what leaves a square. -/
namespace M
theorem m1_pow (n : Nat) : (-1 : Int) ^ n = if n % 2 = 0 then 1 else -1 := by
  induction n with
  | zero => rfl
  | succ n ih =>
    rw [Int.pow_succ, ih]
    by_cases c : n % 2 = 0
    · rw [if_pos c, if_neg (by omega)]; rfl
    · rw [if_neg c, if_pos (by omega)]; rfl
section
variable {p h : Nat} {a b : Int}
theorem lea_pow (hp : pm p) (hph : p = 2 * h + 1) : lea a p = decide (a ^ h % (p : Int) = 1) := by
  have := hp.1
  unfold lea
  rw [show (((p : Int) - 1) / 2).toNat = h by omega, powR_eq (by omega)]
theorem lea_gs (hp : pm p) (hph : p = 2 * h + 1) (ha : a % (p : Int) ≠ 0) : lea a p = decide (gs p h a % 2 = 0) := by
  have h2 := hp.1
  have h3 : 3 ≤ p := by omega
  obtain ⟨q, e⟩ := gauss hp hph ha
  rw [lea_pow hp hph, e, Int.add_mul_emod_self_left, m1_pow]
  by_cases c : gs p h a % 2 = 0
  · rw [if_pos c, decide_eq_true c, Int.emod_eq_of_lt (by omega) (by omega)]; rfl
  · rw [if_neg c, decide_eq_false c]
    have : (-1 : Int) % (p : Int) = p - 1 := by
      rw [← Int.add_emod_right, Int.emod_eq_of_lt (by omega) (by omega)]; omega
    rw [this, decide_eq_false (by omega)]
theorem pow_pm (hp : pm p) (hph : p = 2 * h + 1) (ha : a % (p : Int) ≠ 0) : ∃ q : Int, a ^ h = (if lea a p then 1 else -1) + (p : Int) * q := by
  obtain ⟨q, e⟩ := gauss hp hph ha
  refine ⟨q, ?_⟩
  rw [e, m1_pow, lea_gs hp hph ha]
  by_cases c : gs p h a % 2 = 0 <;> simp [c]
theorem lea_mul (hp : pm p) (hph : p = 2 * h + 1) (ha : a % (p : Int) ≠ 0) (hb : b % (p : Int) ≠ 0) : lea (a * b) p = (lea a p == lea b p) := by
  have h2 := hp.1
  obtain ⟨q, e⟩ := pow_pm hp hph ha
  obtain ⟨t, f⟩ := pow_pm hp hph hb
  have hm : ∀ x y : Int, (x + (p : Int) * q) * (y + p * t) = x * y + p * (x * t + q * y + q * (p * t)) := by
    intro x y
    simp only [Int.mul_add, Int.add_mul]
    simp only [Int.mul_assoc, Int.mul_left_comm, Int.mul_comm]
    omega
  have m1 : (-1 : Int) % (p : Int) = p - 1 := by
    rw [← Int.add_emod_right, Int.emod_eq_of_lt (by omega) (by omega)]; omega
  have p1 : (1 : Int) % (p : Int) = 1 := Int.emod_eq_of_lt (by omega) (by omega)
  rw [lea_pow (a := a * b) hp hph, Int.mul_pow, e, f, hm, Int.add_mul_emod_self_left]
  cases lea a p <;> cases lea b p <;> simp [m1, p1] <;> omega
theorem lea_neg1 (hp : pm p) (hph : p = 2 * h + 1) : lea (-1) p = decide (h % 2 = 0) := by
  have h2 := hp.1
  have m1 : (-1 : Int) % (p : Int) = p - 1 := by
    rw [← Int.add_emod_right, Int.emod_eq_of_lt (by omega) (by omega)]; omega
  have p1 : (1 : Int) % (p : Int) = 1 := Int.emod_eq_of_lt (by omega) (by omega)
  rw [lea_pow hp hph, m1_pow]
  by_cases c : h % 2 = 0
  · rw [if_pos c, p1, decide_eq_true c]; rfl
  · rw [if_neg c, m1, decide_eq_false c, decide_eq_false (by omega)]
theorem lea_congr (hp : pm p) (hph : p = 2 * h + 1) (e : a % (p : Int) = b % (p : Int)) : lea a p = lea b p := by
  rw [lea_pow hp hph, lea_pow hp hph, ← pow_mod a, ← pow_mod b, e]
end
end M

set_option Elab.async false
set_option linter.all false
set_option maxRecDepth 100000
set_option maxHeartbeats 4000000
/-! N5: two primes; two. -/
namespace M
def sumI : List Int → Int
  | [] => 0
  | x :: xs => x + sumI xs
def sumN : List Nat → Nat
  | [] => 0
  | x :: xs => x + sumN xs
theorem sumI_perm {xs ys : List Int} (h : xs.Perm ys) : sumI xs = sumI ys := by
  induction h with
  | nil => rfl
  | cons x _ ih => simp only [sumI, ih]
  | swap x y l => simp only [sumI]; omega
  | trans _ _ h1 h2 => exact h1.trans h2
theorem half_count (k : Nat) (m : Int) (h0 : 0 ≤ m) : ((((upto k).filter fun j => decide (j ≤ m)).length : Nat) : Int) = if m ≤ k then m else (k : Int) := by
  have e : ∀ k : Nat, upto (k + 1) = upto k ++ [((k + 1 : Nat) : Int)] := fun k => by
    unfold upto; rw [List.range_succ, List.map_append]; rfl
  induction k with
  | zero => simp [upto]; omega
  | succ k ih =>
    rw [e, List.filter_append, List.length_append]
    by_cases c : ((k + 1 : Nat) : Int) ≤ m
    · rw [List.filter_cons, if_pos (by simpa using c)]
      simp only [List.filter_nil, List.length_cons, List.length_nil]
      split at ih <;> split <;> omega
    · rw [List.filter_cons, if_neg (by simpa using c)]
      simp only [List.filter_nil, List.length_nil]
      split at ih <;> split <;> omega
theorem sum_ind {f : Int → Nat} {P : Int → Bool} : ∀ ys : List Int, sumN (ys.map fun j => (if P j then 1 else 0) + f j) = (ys.filter P).length + sumN (ys.map f)
  | [] => rfl
  | y :: ys => by
    simp only [List.map_cons, sumN, sum_ind ys, List.filter_cons]
    cases P y <;> simp <;> omega
theorem sum_zero : ∀ ys : List Int, sumN (ys.map fun _ => 0) = 0
  | [] => rfl
  | y :: ys => by simp only [List.map_cons, sumN, sum_zero ys]
theorem fubini {P : Int → Int → Bool} (ys : List Int) : ∀ xs : List Int, sumN (xs.map fun i => (ys.filter (P i)).length) = sumN (ys.map fun j => (xs.filter fun i => P i j).length)
  | [] => by
    simp only [List.map_nil, sumN, List.filter_nil, List.length_nil]
    exact (sum_zero ys).symm
  | x :: xs => by
    simp only [List.map_cons, sumN]
    rw [fubini ys xs, ← sum_ind]
    congr 1
    refine List.map_congr_left fun j _ => ?_
    rw [List.filter_cons]
    cases P x j <;> simp <;> omega
theorem comp_count {P : Int → Bool} : ∀ xs : List Int, (xs.filter P).length + (xs.filter fun i => !P i).length = xs.length
  | [] => rfl
  | x :: xs => by
    have := comp_count (P := P) xs
    simp only [List.filter_cons]
    cases P x <;> simp <;> omega
theorem sum_comp {P : Int → Int → Bool} (xs : List Int) : ∀ ys : List Int, sumN (ys.map fun j => (xs.filter fun i => P i j).length) + sumN (ys.map fun j => (xs.filter fun i => !P i j).length) = ys.length * xs.length
  | [] => by simp [sumN]
  | y :: ys => by
    have h1 := sum_comp (P := P) xs ys
    have h2 := comp_count (P := fun i => P i y) xs
    simp only [List.map_cons, sumN, List.length_cons]
    rw [Nat.succ_mul]
    omega
section
variable {p h : Nat}
/-- parity: the count of the big rests and the quotients -/
theorem gs_step (hph : p = 2 * h + 1) {q : Int} (hq : q % 2 = 1) : ∀ xs : List Int, (sumI xs + sumI (xs.map fun i => q * i / p) + sumI (xs.map (sm p h q)) + ((xs.filter (big p h q)).length : Int)) % 2 = 0
  | [] => rfl
  | x :: xs => by
    have ih := gs_step hph hq xs
    have k1 := Int.mul_ediv_add_emod (q * x) p
    have k2 : ((p : Int) * (q * x / p)) % 2 = (q * x / p) % 2 := by
      rw [hph]
      generalize q * x / ((2 * h + 1 : Nat) : Int) = t
      have : ((2 * h + 1 : Nat) : Int) * t = 2 * ((h : Int) * t) + t := by
        rw [show ((2 * h + 1 : Nat) : Int) = 2 * (h : Int) + 1 by omega, Int.add_mul, Int.one_mul, Int.mul_assoc]
      omega
    have k3 : (q * x) % 2 = x % 2 := by
      have : q = 2 * (q / 2) + 1 := by omega
      rw [this, Int.add_mul, Int.one_mul, Int.mul_assoc]
      omega
    simp only [List.map_cons, sumI, List.filter_cons]
    unfold sm big at *
    generalize (p : Int) * (q * x / p) = A at *
    generalize q * x / (p : Int) = B at *
    generalize q * x % (p : Int) = R at *
    by_cases c : R ≤ (h : Int)
    · rw [if_pos c, if_neg (by simpa using c)]
      omega
    · rw [if_neg c, if_pos (by simpa using c)]
      simp only [List.length_cons]
      omega
theorem sumI_nat (f : Int → Nat) : ∀ xs : List Int, sumI (xs.map fun i => ((f i : Nat) : Int)) = ((sumN (xs.map f) : Nat) : Int)
  | [] => rfl
  | x :: xs => by simp only [List.map_cons, sumI, sumN, sumI_nat f xs]; omega
theorem gs_flo (hp : pm p) (hph : p = 2 * h + 1) {q : Int} (hq : q % 2 = 1) (hqp : q % (p : Int) ≠ 0) : (sumI ((upto h).map fun i => q * i / p) + (gs p h q : Int)) % 2 = 0 := by
  have e := gs_step hph hq (upto h)
  rw [sumI_perm (sm_perm hp hph hqp)] at e
  unfold gs
  omega
end
/-- quotients, counted as points below the diagonal -/
theorem quo_count {p h q k : Nat} (hp : pm p) (hph : p = 2 * h + 1) (hqk : q = 2 * k + 1) (hqp : (q : Int) % (p : Int) ≠ 0) : sumI ((upto h).map fun i => (q : Int) * i / p) = ((sumN ((upto h).map fun i => ((upto k).filter fun j => decide ((p : Int) * j < (q : Int) * i)).length) : Nat) : Int) := by
  rw [← sumI_nat]
  congr 1
  refine List.map_congr_left fun i hi => ?_
  have hi' := mem_upto.mp hi
  have h2 := hp.1
  have nz : (q : Int) * i % (p : Int) ≠ 0 := nd_mul hp hqp (by rw [Int.emod_eq_of_lt (by omega) (by omega)]; omega)
  have k1 := Int.mul_ediv_add_emod ((q : Int) * i) p
  have k2 := Int.emod_nonneg ((q : Int) * i) (show (p : Int) ≠ 0 by omega)
  have k3 := Int.emod_lt_of_pos ((q : Int) * i) (show (0 : Int) < p by omega)
  have h0 : 0 ≤ (q : Int) * i / p := Int.ediv_nonneg (Int.mul_nonneg (by omega) (by omega)) (by omega)
  have hle : (q : Int) * i / p ≤ k := by
    have : (q : Int) * i ≤ (q : Int) * h := Int.mul_le_mul_of_nonneg_left (by omega) (by omega)
    have h3 : (q : Int) * h < p * (k + 1) := by
      rw [hph, hqk]
      rw [show ((2 * k + 1 : Nat) : Int) = 2 * (k : Int) + 1 by omega, show ((2 * h + 1 : Nat) : Int) = 2 * (h : Int) + 1 by omega]
      simp only [Int.mul_add, Int.add_mul, Int.one_mul, Int.mul_one]
      have : 2 * (k : Int) * h = 2 * h * k := by rw [Int.mul_assoc, Int.mul_comm (k : Int), Int.mul_assoc]
      omega
    have h4 : (q : Int) * i / p < k + 1 := by
      by_cases c : (q : Int) * i / p < k + 1
      · exact c
      · exfalso
        have := Int.mul_le_mul_of_nonneg_left (show (k : Int) + 1 ≤ (q : Int) * i / p by omega) (show (0 : Int) ≤ p by omega)
        omega
    omega
  have hc := half_count k _ h0
  rw [if_pos hle] at hc
  rw [← hc]
  congr 2
  refine List.filter_congr fun j _ => ?_
  rw [decide_eq_decide]
  constructor
  · intro hj
    have := Int.mul_le_mul_of_nonneg_left hj (show (0 : Int) ≤ p by omega)
    omega
  · intro hj
    by_cases c : j ≤ (q : Int) * i / p
    · exact c
    · exfalso
      have := Int.mul_le_mul_of_nonneg_left (show (q : Int) * i / p + 1 ≤ j by omega) (show (0 : Int) ≤ p by omega)
      rw [Int.mul_add, Int.mul_one] at this
      omega
theorem recip {p h q k : Nat} (hp : pm p) (hq : pm q) (hph : p = 2 * h + 1) (hqk : q = 2 * k + 1) (hne : p ≠ q) : (gs p h q + gs q k p + h * k) % 2 = 0 := by
  have n1 : (q : Int) % (p : Int) ≠ 0 := fun e => by
    have := Int.ofNat_dvd.mp (Int.dvd_of_emod_eq_zero e)
    rcases pm_dvd hq this with c | c
    · have := hp.1; omega
    · exact hne c
  have n2 : (p : Int) % (q : Int) ≠ 0 := fun e => by
    have := Int.ofNat_dvd.mp (Int.dvd_of_emod_eq_zero e)
    rcases pm_dvd hp this with c | c
    · have := hq.1; omega
    · exact hne c.symm
  have e1 := gs_flo hp hph (q := (q : Int)) (by omega) n1
  have e2 := gs_flo hq hqk (q := (p : Int)) (by omega) n2
  rw [quo_count hp hph hqk n1] at e1
  rw [quo_count hq hqk hph n2] at e2
  have e3 := sum_comp (P := fun i j => decide ((p : Int) * j < (q : Int) * i)) (upto h) (upto k)
  have e4 := fubini (P := fun i j => decide ((p : Int) * j < (q : Int) * i)) (upto k) (upto h)
  have e5 : sumN ((upto k).map fun j => ((upto h).filter fun i => !decide ((p : Int) * j < (q : Int) * i)).length) = sumN ((upto k).map fun j => ((upto h).filter fun i => decide ((q : Int) * i < (p : Int) * j)).length) := by
    congr 1
    refine List.map_congr_left fun j hj => ?_
    congr 1
    refine List.filter_congr fun i hi => ?_
    have hi' := mem_upto.mp hi
    have ne : (p : Int) * j ≠ (q : Int) * i := fun e => by
      have nz : (q : Int) * i % (p : Int) ≠ 0 := nd_mul hp n1 (by rw [Int.emod_eq_of_lt (by omega) (by omega)]; omega)
      exact nz (by rw [← e]; exact Int.mul_emod_right _ _)
    rw [← decide_not, decide_eq_decide]
    omega
  simp only [upto_len] at e3
  rw [e5] at e3
  rw [e4] at e1
  have : k * h = h * k := Nat.mul_comm k h
  omega
end M

set_option Elab.async false
set_option linter.all false
set_option maxRecDepth 100000
set_option maxHeartbeats 4000000
/-! N6: two at an odd prime; two primes, in signs. -/
namespace M
section
variable {p h : Nat}
theorem gs_two (hph : p = 2 * h + 1) : gs p h 2 + h / 2 = h := by
  have e1 := comp_count (P := big p h 2) (upto h)
  rw [upto_len] at e1
  have e2 := half_count h (((h / 2 : Nat) : Nat) : Int) (by omega)
  rw [if_pos (by omega)] at e2
  have e3 : (upto h).filter (fun i => !big p h 2 i) = (upto h).filter (fun j => decide (j ≤ ((h / 2 : Nat) : Int))) := by
    refine List.filter_congr fun i hi => ?_
    have hi' := mem_upto.mp hi
    unfold big
    rw [Int.emod_eq_of_lt (show (0 : Int) ≤ 2 * i by omega) (by omega), ← decide_not, decide_eq_decide]
    omega
  rw [e3] at e1
  unfold gs
  omega
theorem lea_two (hp : pm p) (hph : p = 2 * h + 1) : lea 2 p = decide (p % 8 = 1 ∨ p % 8 = 7) := by
  have h2 := hp.1
  have e := gs_two hph
  rw [lea_gs hp hph (by rw [Int.emod_eq_of_lt (by omega) (by omega)]; omega), decide_eq_decide]
  omega
end
theorem lea_recip {p h q k : Nat} (hp : pm p) (hq : pm q) (hph : p = 2 * h + 1) (hqk : q = 2 * k + 1) (hne : p ≠ q) : (lea q p == lea p q) = decide (h * k % 2 = 0) := by
  have n1 : (q : Int) % (p : Int) ≠ 0 := fun e => by
    have := Int.ofNat_dvd.mp (Int.dvd_of_emod_eq_zero e)
    rcases pm_dvd hq this with c | c
    · have := hp.1; omega
    · exact hne c
  have n2 : (p : Int) % (q : Int) ≠ 0 := fun e => by
    have := Int.ofNat_dvd.mp (Int.dvd_of_emod_eq_zero e)
    rcases pm_dvd hp this with c | c
    · have := hq.1; omega
    · exact hne c.symm
  have e := recip hp hq hph hqk hne
  rw [lea_gs hp hph n1, lea_gs hq hqk n2]
  generalize h * k = m at *
  by_cases c1 : gs p h q % 2 = 0 <;> by_cases c2 : gs q k p % 2 = 0 <;> by_cases c3 : m % 2 = 0 <;> simp [c1, c2, c3] <;> omega
end M

set_option Elab.async false
set_option linter.all false
set_option maxRecDepth 100000
set_option maxHeartbeats 4000000
/-! N7: the sign: both ways alike, products. -/
namespace M
theorem isPr_pm {i : Int} (h : isPr i = true) : ∃ p : Nat, i = (p : Int) ∧ pm p ∧ p ≤ 999999 := by
  simp only [isPr, Bool.and_eq_true, decide_eq_true_eq] at h
  obtain ⟨⟨h1, h2⟩, h3⟩ := h
  refine ⟨i.toNat, by omega, ?_, by omega⟩
  exact ((trial_ok (n := i.toNat) (by omega)).1 i.toNat (by rw [h3]; exact List.mem_singleton.mpr rfl)).1
theorem pm_odd {p : Nat} (h : pm p) (h2 : p ≠ 2) : ∃ t, p = 2 * t + 1 := by
  refine ⟨p / 2, ?_⟩
  have h1 := h.1
  by_cases c : p % 2 = 0
  · exfalso
    rcases pm_dvd h (Nat.dvd_of_mod_eq_zero c) with e | e <;> omega
  · omega
theorem two_sym (a b : Int) : two a b = two b a := by
  unfold two odd2
  cases decide ((split a 2).2 % 4 = 3) <;> cases decide ((split b 2).2 % 4 = 3) <;> cases (decide ((split a 2).1 % 2 = 1) && r35 (split b 2).2) <;> cases (decide ((split b 2).1 % 2 = 1) && r35 (split a 2).2) <;> rfl
theorem odd_sym (a b p : Int) : odd a b p = odd b a p := by
  unfold odd odd2
  cases decide ((split a p).1 % 2 = 1) <;> cases decide ((split b p).1 % 2 = 1) <;> cases decide (p % 4 = 3) <;> cases lea (split a p).2 p <;> cases lea (split b p).2 p <;> rfl
theorem oddAt_sym (a b : Int) (pl : D) : oddAt a b pl = oddAt b a pl := by
  unfold oddAt
  cases pl <;> simp only [Bool.and_comm]
  split
  · exact two_sym a b
  · exact odd_sym a b _
theorem par_add (x y : Nat) : decide ((x + y) % 2 = 1) = (decide (x % 2 = 1) ^^ decide (y % 2 = 1)) := by
  by_cases c1 : x % 2 = 1 <;> by_cases c2 : y % 2 = 1 <;> simp [c1, c2] <;> omega
theorem odd8 {w : Int} (h : w % 2 ≠ 0) : w % 8 = 1 ∨ w % 8 = 3 ∨ w % 8 = 5 ∨ w % 8 = 7 := by omega
theorem mul8 (x y : Int) : (x * y) % 8 = ((x % 8) * (y % 8)) % 8 := Int.mul_emod x y 8
theorem m43 (x : Int) : decide (x % 4 = 3) = decide (x % 8 % 4 = 3) := decide_eq_decide.mpr (by omega)
theorem m43_mul {x y : Int} (hx : x % 2 ≠ 0) (hy : y % 2 ≠ 0) : decide ((x * y) % 4 = 3) = (decide (x % 4 = 3) ^^ decide (y % 4 = 3)) := by
  have e := mul8 x y
  rw [m43 (x * y), m43 x, m43 y]
  rcases odd8 hx with c | c | c | c <;> rcases odd8 hy with d | d | d | d <;> rw [c, d] at e <;> simp only [Int.reduceMul, Int.reduceMod] at e <;> simp only [e, c, d] <;> rfl
theorem r35_mul {x y : Int} (hx : x % 2 ≠ 0) (hy : y % 2 ≠ 0) : r35 (x * y) = (r35 x ^^ r35 y) := by
  have e := mul8 x y
  unfold r35
  rcases odd8 hx with c | c | c | c <;> rcases odd8 hy with d | d | d | d <;> rw [c, d] at e <;> simp only [Int.reduceMul, Int.reduceMod] at e <;> rw [e, c, d] <;> rfl
theorem two_mul {a b c : Int} (ha : a ≠ 0) (hb : b ≠ 0) (hc : c ≠ 0) : two a (b * c) = (two a b ^^ two a c) := by
  have s := split_mul pm2 hb hc
  have sb := (split_ok hb (show (2 : Int) ≤ 2 by decide)).2
  have sc := (split_ok hc (show (2 : Int) ≤ 2 by decide)).2
  have s : split (b * c) 2 = ((split b 2).1 + (split c 2).1, (split b 2).2 * (split c 2).2) := s
  unfold two
  rw [s]
  simp only
  rw [m43_mul sb sc, r35_mul sb sc, par_add]
  unfold odd2
  cases decide ((split a 2).2 % 4 = 3) <;> cases decide ((split a 2).1 % 2 = 1) <;> cases r35 (split a 2).2 <;> cases decide ((split b 2).2 % 4 = 3) <;> cases decide ((split b 2).1 % 2 = 1) <;> cases r35 (split b 2).2 <;> cases decide ((split c 2).2 % 4 = 3) <;> cases decide ((split c 2).1 % 2 = 1) <;> cases r35 (split c 2).2 <;> rfl
theorem odd_mul {p : Nat} (hp : pm p) (h2 : p ≠ 2) {a b c : Int} (ha : a ≠ 0) (hb : b ≠ 0) (hc : c ≠ 0) : odd a (b * c) p = (odd a b p ^^ odd a c p) := by
  obtain ⟨h, hph⟩ := pm_odd hp h2
  have hp2 : (2 : Int) ≤ (p : Int) := by have := hp.1; omega
  have s := split_mul hp hb hc
  have sb := (split_ok hb hp2).2
  have sc := (split_ok hc hp2).2
  unfold odd
  rw [s]
  simp only
  rw [lea_mul hp hph sb sc, par_add]
  unfold odd2
  cases decide ((split a p).1 % 2 = 1) <;> cases lea (split a p).2 p <;> cases decide ((split b p).1 % 2 = 1) <;> cases lea (split b p).2 p <;> cases decide ((split c p).1 % 2 = 1) <;> cases lea (split c p).2 p <;> cases decide ((p : Int) % 4 = 3) <;> rfl
theorem neg_mul (b c : Int) (hb : b ≠ 0) (hc : c ≠ 0) : decide (b * c < 0) = (decide (b < 0) ^^ decide (c < 0)) := by
  rcases Int.lt_or_gt_of_ne hb with h | h <;> rcases Int.lt_or_gt_of_ne hc with g | g
  · have := Int.mul_pos_of_neg_of_neg h g
    rw [decide_eq_false (by omega), decide_eq_true h, decide_eq_true g]; rfl
  · have := Int.mul_neg_of_neg_of_pos h g
    rw [decide_eq_true this, decide_eq_true h, decide_eq_false (by omega)]; rfl
  · have := Int.mul_neg_of_pos_of_neg h g
    rw [decide_eq_true this, decide_eq_true g, decide_eq_false (by omega)]; rfl
  · have := Int.mul_pos h g
    rw [decide_eq_false (by omega), decide_eq_false (by omega), decide_eq_false (by omega)]; rfl
/-- a place is a prime, or not a number -/
def placeN (pl : D) : Prop := match pl with
  | .int i => ∃ p : Nat, i = (p : Int) ∧ pm p
  | _ => True
theorem placeN_of {pl : D} (h : plOk pl = true) : placeN pl := by
  cases pl <;> simp only [plOk, Bool.false_eq_true] at h <;> try trivial
  obtain ⟨p, h1, h2, _⟩ := isPr_pm h
  exact ⟨p, h1, h2⟩
theorem oddAt_mul {a b c : Int} {pl : D} (hp : placeN pl) (ha : a ≠ 0) (hb : b ≠ 0) (hc : c ≠ 0) : oddAt a (b * c) pl = (oddAt a b pl ^^ oddAt a c pl) := by
  cases pl with
  | int i =>
    obtain ⟨p, rfl, hp⟩ := hp
    simp only [oddAt]
    by_cases c2 : (p : Int) = 2
    · simp only [c2, if_true]
      exact two_mul ha hb hc
    · simp only [c2, if_false]
      exact odd_mul hp (by omega) ha hb hc
  | _ =>
    simp only [oddAt, neg_mul b c hb hc]
    cases decide (a < 0) <;> cases decide (b < 0) <;> cases decide (c < 0) <;> rfl
end M

set_option Elab.async false
set_option linter.all false
set_option maxRecDepth 100000
set_option maxHeartbeats 4000000
/-! N8: over all places. -/
namespace M
/-- places: none is the real one -/
def plc : Option Nat → D
  | none => .str REAL
  | some p => .int (p : Int)
def okc : Option Nat → Prop
  | none => True
  | some p => pm p
def oa (a b : Int) (o : Option Nat) : Bool := oddAt a b (plc o)
theorem okc_pl {o : Option Nat} (h : okc o) : placeN (plc o) := by
  cases o with
  | none => trivial
  | some p => exact ⟨p, rfl, h⟩
theorem oa_mul {a b c : Int} {o : Option Nat} (h : okc o) (ha : a ≠ 0) (hb : b ≠ 0) (hc : c ≠ 0) : oa a (b * c) o = (oa a b o ^^ oa a c o) := oddAt_mul (okc_pl h) ha hb hc
theorem oa_sym (a b : Int) (o : Option Nat) : oa a b o = oa b a o := oddAt_sym a b _
def xorL {α : Type} (f : α → Bool) : List α → Bool
  | [] => false
  | x :: xs => f x ^^ xorL f xs
theorem xorL_perm {α : Type} {f : α → Bool} {xs ys : List α} (h : xs.Perm ys) : xorL f xs = xorL f ys := by
  induction h with
  | nil => rfl
  | cons x _ ih => simp only [xorL, ih]
  | swap x y l => simp only [xorL]; cases f x <;> cases f y <;> cases xorL f l <;> rfl
  | trans _ _ h1 h2 => exact h1.trans h2
theorem xorL_xor {α : Type} {f g k : α → Bool} : ∀ {xs : List α}, (∀ x ∈ xs, k x = (f x ^^ g x)) → xorL k xs = (xorL f xs ^^ xorL g xs)
  | [], _ => rfl
  | x :: xs, h => by
    simp only [xorL, h x List.mem_cons_self, xorL_xor fun y hy => h y (List.mem_cons_of_mem _ hy)]
    cases f x <;> cases g x <;> cases xorL f xs <;> cases xorL g xs <;> rfl
theorem xorL_filter {α : Type} {f : α → Bool} (P : α → Bool) : ∀ {xs : List α}, (∀ x ∈ xs, P x = false → f x = false) → xorL f (xs.filter P) = xorL f xs
  | [], _ => rfl
  | x :: xs, h => by
    have ih := xorL_filter P (f := f) (xs := xs) fun y hy => h y (List.mem_cons_of_mem _ hy)
    rw [List.filter_cons]
    cases hp : P x with
    | true => simp only [if_true, xorL, ih]
    | false => simp only [Bool.false_eq_true, if_false, xorL, ih, h x List.mem_cons_self hp, Bool.false_xor]
theorem xorL_len {α : Type} {f : α → Bool} : ∀ xs : List α, xorL f xs = decide ((xs.filter f).length % 2 = 1)
  | [] => rfl
  | x :: xs => by
    rw [xorL, xorL_len xs, List.filter_cons]
    cases f x with
    | true =>
      simp only [if_true, List.length_cons, Bool.true_xor]
      by_cases c : (xs.filter f).length % 2 = 1 <;> simp [c] <;> omega
    | false => simp only [Bool.false_eq_true, if_false, Bool.false_xor]
/-- where nothing but S counts -/
theorem xorL_sub {f : Option Nat → Bool} {S L : List (Option Nat)} (hS : S.Nodup) (hL : L.Nodup) (hs : ∀ o ∈ S, o ∈ L) (hf : ∀ o ∈ L, o ∉ S → f o = false) : xorL f L = xorL f S := by
  rw [← xorL_filter (fun o => decide (o ∈ S)) (f := f) (xs := L) fun o ho hp => hf o ho (by simpa using hp)]
  refine xorL_perm (List.Perm.symm (perm_of hS (fun o ho => List.mem_filter.mpr ⟨hs o ho, by simpa using ho⟩) ?_))
  have hn : (L.filter fun o => decide (o ∈ S)).Nodup := hL.filter _
  have hsub : ∀ o ∈ L.filter (fun o => decide (o ∈ S)), o ∈ S := fun o ho => by simpa using (List.mem_filter.mp ho).2
  have : ∀ {xs ys : List (Option Nat)}, xs.Nodup → (∀ x ∈ xs, x ∈ ys) → xs.length ≤ ys.length := by
    intro xs
    induction xs with
    | nil => intro ys _ _; exact Nat.zero_le _
    | cons x xs ih =>
      intro ys hn hs
      obtain ⟨h1, h2⟩ := List.nodup_cons.mp hn
      have hx := hs x List.mem_cons_self
      have := ih (ys := ys.erase x) h2 fun y hy => (List.mem_erase_of_ne (fun e => by subst e; exact h1 hy)).mpr (hs y (List.mem_cons_of_mem _ hy))
      rw [List.length_erase_of_mem hx] at this
      have := List.length_pos_of_mem hx
      simp only [List.length_cons]
      omega
  exact this hn hsub
theorem unit_split {p : Nat} {a : Int} (hp : pm p) (ha : a ≠ 0) (h : a % (p : Int) ≠ 0) : split a p = (0, a) := split_uniq (by have := hp.1; omega) ha (by simp) h
theorem unit_off {p : Nat} {a b : Int} (hp : pm p) (h2 : p ≠ 2) (ha : a ≠ 0) (hb : b ≠ 0) (h : a % (p : Int) ≠ 0) (h' : b % (p : Int) ≠ 0) : oa a b (some p) = false := by
  show (if (p : Int) = 2 then two a b else odd a b p) = false
  rw [if_neg (by omega)]
  unfold odd
  rw [unit_split hp ha h, unit_split hp hb h']
  rfl
end M

set_option Elab.async false
set_option linter.all false
set_option maxRecDepth 100000
set_option maxHeartbeats 4000000
/-! N9: over all places the signs of two numbers are an even number of times -1. -/
namespace M
/-- a row of places that holds all that matter -/
structure full (a b : Int) (L : List (Option Nat)) : Prop where
  nd : L.Nodup
  ok : ∀ o ∈ L, okc o
  re : none ∈ L
  two : some 2 ∈ L
  pr : ∀ p : Nat, pm p → (a % (p : Int) = 0 ∨ b % (p : Int) = 0) → some p ∈ L
def PF (a b : Int) : Prop := ∀ L, full a b L → xorL (oa a b) L = false
theorem full.sym {a b : Int} {L : List (Option Nat)} (h : full a b L) : full b a L := ⟨h.nd, h.ok, h.re, h.two, fun p hp d => h.pr p hp d.symm⟩
theorem PF.sym {a b : Int} (h : PF a b) : PF b a := fun L f => by
  rw [show oa b a = oa a b from funext fun o => oa_sym b a o]
  exact h L f.sym
theorem PF.of {a b : Int} (S : List (Option Nat)) (hS : S.Nodup) (hs : ∀ L, full a b L → ∀ o ∈ S, o ∈ L) (hf : ∀ o, okc o → o ∉ S → oa a b o = false) (hx : xorL (oa a b) S = false) : PF a b := fun L f => by
  rw [xorL_sub hS f.nd (hs L f) fun o ho hn => hf o (f.ok o ho) hn]
  exact hx
theorem oa_one {a : Int} {o : Option Nat} (h : okc o) (ha : a ≠ 0) : oa a 1 o = false := by
  have := oa_mul h ha (show (1 : Int) ≠ 0 by decide) (show (1 : Int) ≠ 0 by decide)
  rw [Int.mul_one] at this
  cases e : oa a 1 o with
  | false => rfl
  | true => rw [e] at this; cases this
theorem oa_sq {a b : Int} {o : Option Nat} (h : okc o) (ha : a ≠ 0) (hb : b ≠ 0) : oa a (b * b) o = false := by
  rw [oa_mul h ha hb hb, Bool.xor_self]
theorem small_nd {p : Nat} (hp : pm p) (h2 : p ≠ 2) : (-1 : Int) % (p : Int) ≠ 0 ∧ (2 : Int) % (p : Int) ≠ 0 ∧ (1 : Int) % (p : Int) ≠ 0 := by
  have h1 := hp.1
  refine ⟨fun e => ?_, fun e => ?_, fun e => ?_⟩
  · have := Int.emod_emod_of_dvd (-1 : Int) (Int.dvd_refl (p : Int))
    have : (p : Int) ∣ -1 := Int.dvd_of_emod_eq_zero e
    have := Int.le_of_dvd (by decide) (Int.dvd_neg.mpr this)
    omega
  · have := Int.le_of_dvd (by decide) (Int.dvd_of_emod_eq_zero e)
    omega
  · have := Int.le_of_dvd (by decide) (Int.dvd_of_emod_eq_zero e)
    omega
theorem pr_nd {p q : Nat} (hp : pm p) (hq : pm q) (hne : p ≠ q) : (q : Int) % (p : Int) ≠ 0 := fun e => by
  have : p ∣ q := Int.natCast_dvd_natCast.mp (Int.dvd_of_emod_eq_zero e)
  rcases pm_dvd hq this with c | c
  · have := hp.1; omega
  · exact hne c
theorem split_self {p : Nat} (hp : pm p) : split (p : Int) p = (1, 1) := by
  have h1 := hp.1
  refine split_uniq (by omega) (by omega) (by rw [Int.pow_succ]; simp) (fun e => ?_)
  have := Int.le_of_dvd (by decide) (Int.dvd_of_emod_eq_zero e)
  omega
theorem odd_nd2 {q : Nat} (hq : pm q) (h2 : q ≠ 2) : (q : Int) % ((2 : Nat) : Int) ≠ 0 := pr_nd pm2 hq fun e => h2 e.symm
theorem oa_two {a b : Int} : oa a b (some 2) = two a b := rfl
theorem oa_odd {a b : Int} {p : Nat} (h : p ≠ 2) : oa a b (some p) = odd a b p := by
  show (if (p : Int) = 2 then two a b else odd a b p) = _
  rw [if_neg (by omega)]
theorem h4 {h q : Nat} (e : q = 2 * h + 1) : decide ((q : Int) % 4 = 3) = decide (h % 2 = 1) := decide_eq_decide.mpr (by omega)
theorem PF_m1m1 : PF (-1) (-1) := by
  refine PF.of [none, some 2] (by decide) (fun L f o ho => ?_) (fun o ho hn => ?_) (by decide)
  · rcases List.mem_cons.mp ho with rfl | ho
    · exact f.re
    · rcases List.mem_cons.mp ho with rfl | ho
      · exact f.two
      · cases ho
  · cases o with
    | none => exact absurd (by simp) hn
    | some p =>
      have h2 : p ≠ 2 := fun e => hn (by rw [e]; simp)
      exact unit_off ho h2 (by decide) (by decide) (small_nd ho h2).1 (small_nd ho h2).1
theorem PF_m12 : PF (-1) 2 := by
  refine PF.of [none, some 2] (by decide) (fun L f o ho => ?_) (fun o ho hn => ?_) (by decide)
  · rcases List.mem_cons.mp ho with rfl | ho
    · exact f.re
    · rcases List.mem_cons.mp ho with rfl | ho
      · exact f.two
      · cases ho
  · cases o with
    | none => exact absurd (by simp) hn
    | some p =>
      have h2 : p ≠ 2 := fun e => hn (by rw [e]; simp)
      exact unit_off ho h2 (by decide) (by decide) (small_nd ho h2).1 (small_nd ho h2).2.1
theorem PF_22 : PF 2 2 := by
  refine PF.of [none, some 2] (by decide) (fun L f o ho => ?_) (fun o ho hn => ?_) (by decide)
  · rcases List.mem_cons.mp ho with rfl | ho
    · exact f.re
    · rcases List.mem_cons.mp ho with rfl | ho
      · exact f.two
      · cases ho
  · cases o with
    | none => exact absurd (by simp) hn
    | some p =>
      have h2 : p ≠ 2 := fun e => hn (by rw [e]; simp)
      exact unit_off ho h2 (by decide) (by decide) (small_nd ho h2).2.1 (small_nd ho h2).2.1
theorem mem3 {a b : Int} {q : Nat} (hq : pm q) (hd : a % (q : Int) = 0 ∨ b % (q : Int) = 0) : ∀ L, full a b L → ∀ o ∈ [none, some 2, some q], o ∈ L := fun L f o ho => by
  rcases List.mem_cons.mp ho with rfl | ho
  · exact f.re
  · rcases List.mem_cons.mp ho with rfl | ho
    · exact f.two
    · rcases List.mem_cons.mp ho with rfl | ho
      · exact f.pr q hq hd
      · cases ho
theorem self_mod {q : Nat} : (q : Int) % (q : Int) = 0 := Int.emod_self
theorem PF_m1q {q : Nat} (hq : pm q) (h2 : q ≠ 2) : PF (-1) (q : Int) := by
  obtain ⟨h, hph⟩ := pm_odd hq h2
  have hq0 : (q : Int) ≠ 0 := by have := hq.1; omega
  refine PF.of [none, some 2, some q] (by simp; omega) (mem3 hq (.inr self_mod)) (fun o ho hn => ?_) ?_
  · cases o with
    | none => exact absurd (by simp) hn
    | some p =>
      have e2 : p ≠ 2 := fun e => hn (by rw [e]; simp)
      have eq : p ≠ q := fun e => hn (by rw [e]; simp)
      exact unit_off ho e2 (by decide) hq0 (small_nd ho e2).1 (pr_nd ho hq eq)
  · simp only [xorL, oa_two, oa_odd h2]
    have e0 : oa (-1) (q : Int) none = false := by
      show (decide ((-1 : Int) < 0) && decide ((q : Int) < 0)) = false
      rw [decide_eq_false (show ¬ (q : Int) < 0 by omega), Bool.and_false]
    have s2 : split (q : Int) 2 = (0, (q : Int)) := unit_split pm2 hq0 (odd_nd2 hq h2)
    have e1 : two (-1) (q : Int) = decide (h % 2 = 1) := by
      unfold two
      rw [s2, show split (-1) 2 = (0, -1) from by decide, ← h4 hph]
      show odd2 (true && _) (false && _) (false && _) = _
      unfold odd2
      simp
    have e3 : odd (-1) (q : Int) q = decide (h % 2 = 1) := by
      unfold odd
      rw [split_self hq, unit_split hq (by decide) (small_nd hq h2).1]
      show odd2 (false && _) (true && !lea (-1) q) (false && _) = _
      rw [lea_neg1 hq hph]
      unfold odd2
      by_cases c : h % 2 = 0 <;> simp [c]
      · omega
    rw [e0, e1, e3]
    cases decide (h % 2 = 1) <;> rfl
theorem PF_2q {q : Nat} (hq : pm q) (h2 : q ≠ 2) : PF 2 (q : Int) := by
  obtain ⟨h, hph⟩ := pm_odd hq h2
  have hq0 : (q : Int) ≠ 0 := by have := hq.1; omega
  refine PF.of [none, some 2, some q] (by simp; omega) (mem3 hq (.inr self_mod)) (fun o ho hn => ?_) ?_
  · cases o with
    | none => exact absurd (by simp) hn
    | some p =>
      have e2 : p ≠ 2 := fun e => hn (by rw [e]; simp)
      have eq : p ≠ q := fun e => hn (by rw [e]; simp)
      exact unit_off ho e2 (by decide) hq0 (small_nd ho e2).2.1 (pr_nd ho hq eq)
  · simp only [xorL, oa_two, oa_odd h2]
    have e0 : oa 2 (q : Int) none = false := rfl
    have s2 : split (q : Int) 2 = (0, (q : Int)) := unit_split pm2 hq0 (odd_nd2 hq h2)
    have e1 : two 2 (q : Int) = r35 q := by
      unfold two
      rw [s2, show split 2 2 = (1, 1) from by decide]
      show odd2 (false && _) (true && _) (false && _) = _
      unfold odd2
      simp
    have e3 : odd 2 (q : Int) q = !lea 2 q := by
      unfold odd
      rw [split_self hq, unit_split hq (by decide) (small_nd hq h2).2.1]
      show odd2 (false && _) (true && !lea 2 q) (false && _) = _
      unfold odd2
      simp
    rw [e0, e1, e3, lea_two hq hph]
    unfold r35
    have : ((q : Int) % 8 = 3 ↔ q % 8 = 3) := by omega
    have : ((q : Int) % 8 = 5 ↔ q % 8 = 5) := by omega
    by_cases c1 : q % 8 = 1 ∨ q % 8 = 7
    · simp [c1]; omega
    · simp [c1]; omega
theorem lea_1 {q h : Nat} (hq : pm q) (hph : q = 2 * h + 1) : lea 1 q = true := by
  have h2 : (2 : Int) ≤ (q : Int) := by have := hq.1; omega
  rw [lea_pow hq hph, Int.one_pow]
  exact decide_eq_true (Int.emod_eq_of_lt (by decide) (by omega))
theorem PF_pq {p q : Nat} (hp : pm p) (hq : pm q) (p2 : p ≠ 2) (q2 : q ≠ 2) (hne : p ≠ q) : PF (p : Int) (q : Int) := by
  obtain ⟨h, hph⟩ := pm_odd hp p2
  obtain ⟨k, hqk⟩ := pm_odd hq q2
  have hp0 : (p : Int) ≠ 0 := by have := hp.1; omega
  have hq0 : (q : Int) ≠ 0 := by have := hq.1; omega
  refine PF.of [none, some 2, some p, some q] (by simp; omega) (fun L f o ho => ?_) (fun o ho hn => ?_) ?_
  · rcases List.mem_cons.mp ho with rfl | ho
    · exact f.re
    · rcases List.mem_cons.mp ho with rfl | ho
      · exact f.two
      · rcases List.mem_cons.mp ho with rfl | ho
        · exact f.pr p hp (.inl self_mod)
        · rcases List.mem_cons.mp ho with rfl | ho
          · exact f.pr q hq (.inr self_mod)
          · cases ho
  · cases o with
    | none => exact absurd (by simp) hn
    | some r =>
      have e2 : r ≠ 2 := fun e => hn (by rw [e]; simp)
      have ep : r ≠ p := fun e => hn (by rw [e]; simp)
      have eq : r ≠ q := fun e => hn (by rw [e]; simp)
      exact unit_off ho e2 hp0 hq0 (pr_nd ho hp ep) (pr_nd ho hq eq)
  · simp only [xorL, oa_two, oa_odd p2, oa_odd q2]
    have e0 : oa (p : Int) (q : Int) none = false := by
      show (decide ((p : Int) < 0) && decide ((q : Int) < 0)) = false
      rw [decide_eq_false (show ¬ (p : Int) < 0 by omega), Bool.false_and]
    have e1 : two (p : Int) (q : Int) = (decide (h % 2 = 1) && decide (k % 2 = 1)) := by
      unfold two
      rw [show split (p : Int) 2 = (0, (p : Int)) from unit_split pm2 hp0 (odd_nd2 hp p2), show split (q : Int) 2 = (0, (q : Int)) from unit_split pm2 hq0 (odd_nd2 hq q2), ← h4 hph, ← h4 hqk]
      show odd2 _ (false && _) (false && _) = _
      unfold odd2
      simp
    have e3 : odd (p : Int) (q : Int) p = !lea q p := by
      unfold odd
      rw [split_self hp, unit_split hp hq0 (pr_nd hp hq hne)]
      show odd2 (true && (false) && _) (false && _) (true && !lea q p) = _
      unfold odd2
      simp
    have e4 : odd (p : Int) (q : Int) q = !lea p q := by
      unfold odd
      rw [split_self hq, unit_split hq hp0 (pr_nd hq hp fun e => hne e.symm)]
      show odd2 (false && _ && _) (true && !lea p q) (false && _) = _
      unfold odd2
      simp
    rw [e0, e1, e3, e4]
    have r := lea_recip hp hq hph hqk hne
    have hm : decide (h * k % 2 = 0) = !(decide (h % 2 = 1) && decide (k % 2 = 1)) := by
      rw [Nat.mul_mod]
      rcases Nat.mod_two_eq_zero_or_one h with c | c <;> rcases Nat.mod_two_eq_zero_or_one k with d | d <;> rw [c, d] <;> rfl
    rw [hm] at r
    revert r
    cases lea (q : Int) p <;> cases lea (p : Int) q <;> cases (decide (h % 2 = 1) && decide (k % 2 = 1)) <;> simp
end M

set_option Elab.async false
set_option linter.all false
set_option maxRecDepth 100000
set_option maxHeartbeats 4000000
/-! N10: over all places, any two numbers. -/
namespace M
theorem neg8 {w : Int} (h : w % 2 ≠ 0) : r35 (-w) = r35 w := by
  unfold r35
  rcases odd8 h with c | c | c | c
  · have : (-w) % 8 = 7 := by omega
    rw [this, c]; rfl
  · have : (-w) % 8 = 5 := by omega
    rw [this, c]; rfl
  · have : (-w) % 8 = 3 := by omega
    rw [this, c]; rfl
  · have : (-w) % 8 = 1 := by omega
    rw [this, c]; rfl
/-- a number and its opposite -/
theorem oa_neg {a : Int} {o : Option Nat} (ho : okc o) (ha : a ≠ 0) : oa a (-a) o = false := by
  cases o with
  | none =>
    show (decide (a < 0) && decide (-a < 0)) = false
    by_cases c : a < 0
    · rw [decide_eq_false (show ¬ -a < 0 by omega), Bool.and_false]
    · rw [decide_eq_false c, Bool.false_and]
  | some p =>
    have hs := split_neg ho ha
    have hu := (split_ok ha (show (2 : Int) ≤ (p : Int) by have := ho.1; omega)).2
    by_cases h2 : p = 2
    · subst h2
      rw [oa_two]
      have hs : split (-a) 2 = ((split a 2).1, -(split a 2).2) := hs
      have hu : (split a 2).2 % 2 ≠ 0 := hu
      unfold two
      rw [hs]
      simp only
      rw [neg8 hu]
      have : (decide ((split a 2).2 % 4 = 3) && decide (-(split a 2).2 % 4 = 3)) = false := by
        by_cases c : (split a 2).2 % 4 = 3
        · rw [decide_eq_false (show ¬ -(split a 2).2 % 4 = 3 by omega), Bool.and_false]
        · rw [decide_eq_false c, Bool.false_and]
      rw [this]
      unfold odd2
      cases (decide ((split a 2).1 % 2 = 1) && r35 (split a 2).2) <;> rfl
    · obtain ⟨h, hph⟩ := pm_odd ho h2
      rw [oa_odd h2]
      unfold odd
      rw [hs]
      simp only
      have e : lea (-(split a p).2) p = (lea (-1) p == lea (split a p).2 p) := by
        rw [← lea_mul ho hph (small_nd ho h2).1 hu]
        congr 1
        omega
      rw [e, lea_neg1 ho hph, h4 hph]
      have : decide (h % 2 = 0) = !decide (h % 2 = 1) := by
        rcases Nat.mod_two_eq_zero_or_one h with c | c <;> rw [c] <;> rfl
      rw [this]
      unfold odd2
      cases decide ((split a p).1 % 2 = 1) <;> cases lea (split a p).2 p <;> cases decide (h % 2 = 1) <;> rfl
theorem oa_self {a : Int} {o : Option Nat} (ho : okc o) (ha : a ≠ 0) : oa a a o = oa a (-1) o := by
  have h := oa_mul ho ha (show (-1 : Int) ≠ 0 by decide) (show -a ≠ 0 by omega)
  rw [oa_neg ho ha, Bool.xor_false] at h
  rw [← h]
  congr 1
  omega
theorem PF.mul {a b c : Int} (ha : a ≠ 0) (hb : b ≠ 0) (hc : c ≠ 0) (h1 : PF a b) (h2 : PF a c) : PF a (b * c) := fun L f => by
  have fb : full a b L := ⟨f.nd, f.ok, f.re, f.two, fun p hp d => f.pr p hp (d.imp id fun e => by
    rw [Int.mul_emod, e, Int.zero_mul, Int.zero_emod])⟩
  have fc : full a c L := ⟨f.nd, f.ok, f.re, f.two, fun p hp d => f.pr p hp (d.imp id fun e => by
    rw [Int.mul_emod, e, Int.mul_zero, Int.zero_emod])⟩
  rw [xorL_xor (f := oa a b) (g := oa a c) fun o ho => oa_mul (f.ok o ho) ha hb hc, h1 L fb, h2 L fc]
  rfl
theorem xorL_false {α : Type} {f : α → Bool} : ∀ {xs : List α}, (∀ x ∈ xs, f x = false) → xorL f xs = false
  | [], _ => rfl
  | x :: xs, h => by rw [xorL, h x List.mem_cons_self, xorL_false fun y hy => h y (List.mem_cons_of_mem _ hy)]; rfl
theorem PF_one {a : Int} (ha : a ≠ 0) : PF a 1 := fun L f => xorL_false fun o ho => oa_one (f.ok o ho) ha
theorem PF_self {a : Int} (ha : a ≠ 0) (h : PF a (-1)) : PF a a := fun L f => by
  have fb : full a (-1) L := ⟨f.nd, f.ok, f.re, f.two, fun p hp d => f.pr p hp (d.elim .inl fun e => by
    exfalso
    by_cases h2 : p = 2
    · subst h2; revert e; decide
    · exact (small_nd hp h2).1 e)⟩
  rw [xorL_xor (f := oa a (-1)) (g := fun _ => false) (k := oa a a) fun o ho => by rw [oa_self (f.ok o ho) ha, Bool.xor_false], h L fb, xorL_false fun _ _ => rfl]
  rfl
/-- the generators -/
def gnr (g : Int) : Prop := g = -1 ∨ ∃ p : Nat, pm p ∧ g = (p : Int)
theorem gnr.nz {g : Int} (h : gnr g) : g ≠ 0 := by
  rcases h with rfl | ⟨p, hp, rfl⟩
  · decide
  · have := hp.1; omega
theorem PF_gen {a b : Int} (ha : gnr a) (hb : gnr b) : PF a b := by
  have m1 : ∀ {q : Nat}, pm q → PF (-1) (q : Int) := fun {q} hq => by
    by_cases h2 : q = 2
    · subst h2; exact PF_m12
    · exact PF_m1q hq h2
  rcases ha with rfl | ⟨p, hp, rfl⟩
  · rcases hb with rfl | ⟨q, hq, rfl⟩
    · exact PF_m1m1
    · exact m1 hq
  · rcases hb with rfl | ⟨q, hq, rfl⟩
    · exact (m1 hp).sym
    · have hp0 : (p : Int) ≠ 0 := by have := hp.1; omega
      by_cases hne : p = q
      · subst hne
        exact PF_self hp0 (m1 hp).sym
      · by_cases p2 : p = 2
        · subst p2
          exact PF_2q hq fun e => hne e.symm
        · by_cases q2 : q = 2
          · subst q2
            exact (PF_2q hp p2).sym
          · exact PF_pq hp hq p2 q2 hne
/-- a least divisor is a prime -/
theorem ex_pm : ∀ {n : Nat}, 2 ≤ n → ∃ p, pm p ∧ p ∣ n := by
  intro n
  induction n using Nat.strongRecOn with
  | ind n ih =>
    intro h
    by_cases c : ∀ d, 2 ≤ d → d * d ≤ n → n % d ≠ 0
    · exact ⟨n, ⟨h, c⟩, Nat.dvd_refl n⟩
    · have : ∃ d, 2 ≤ d ∧ d * d ≤ n ∧ n % d = 0 := Classical.byContradiction fun hn => c fun d h1 h2 h3 => hn ⟨d, h1, h2, h3⟩
      obtain ⟨d, h1, h2, h3⟩ := this
      have hlt : d < n := Nat.lt_of_lt_of_le (Nat.lt_mul_self_iff.mpr (by omega)) h2
      obtain ⟨p, hp, hd⟩ := ih d hlt h1
      exact ⟨p, hp, Nat.dvd_trans hd (Nat.dvd_of_mod_eq_zero h3)⟩
/-- a number by its primes -/
theorem by_gen {P : Int → Prop} (h1 : P 1) (hm : P (-1)) (hs : ∀ (p : Nat) (c : Int), pm p → c ≠ 0 → P c → P ((p : Int) * c)) : ∀ (n : Nat) (a : Int), a.natAbs = n → a ≠ 0 → P a := by
  intro n
  induction n using Nat.strongRecOn with
  | ind n ih =>
    intro a ha h0
    by_cases c : n = 1
    · rcases Int.natAbs_eq a with e | e
      · rw [e, ha, c]; exact h1
      · rw [e, ha, c]; exact hm
    · obtain ⟨p, hp, hd⟩ := ex_pm (n := n) (by omega)
      have : (p : Int) ∣ a := Int.dvd_natAbs.mp (Int.natCast_dvd_natCast.mpr (by rw [ha]; exact hd))
      obtain ⟨c, rfl⟩ := this
      have hc : c ≠ 0 := fun e => h0 (by rw [e, Int.mul_zero])
      have hp1 := hp.1
      have hlt : c.natAbs < n := by
        rw [Int.natAbs_mul, Int.natAbs_natCast] at ha
        have : 0 < c.natAbs := Int.natAbs_pos.mpr hc
        have : 2 * c.natAbs ≤ p * c.natAbs := Nat.mul_le_mul_right _ hp1
        omega
      exact hs p c hp hc (ih _ hlt c rfl hc)
/-- over all places -/
theorem PF_all {a b : Int} (ha : a ≠ 0) (hb : b ≠ 0) : PF a b := by
  have g1 : ∀ {g : Int}, gnr g → ∀ (c : Int), c ≠ 0 → PF g c := fun {g} hg c hc =>
    by_gen (P := fun c => PF g c) (PF_one hg.nz) (PF_gen hg (.inl rfl)) (fun p c hp hc h => PF.mul hg.nz (by have := hp.1; omega) hc (PF_gen hg (.inr ⟨p, hp, rfl⟩)) h) _ c rfl hc
  exact (by_gen (P := fun c => PF b c) (PF_one hb) (g1 (.inl rfl) b hb).sym (fun p c hp hc h => PF.mul hb (by have := hp.1; omega) hc (g1 (.inr ⟨p, hp, rfl⟩) b hb).sym h) _ a rfl ha).sym
end M

set_option Elab.async false
set_option linter.all false
set_option maxRecDepth 100000
set_option maxHeartbeats 4000000
/-! N11: the primes of a number are all told; the odd places are even in number; squares. -/
namespace M
theorem stripF_all {q l : Nat} (hq : pm q) : ∀ (k n : Nat), q ∣ n → q ∣ l ∨ q ∣ stripF k n l
  | 0, n, h => .inr h
  | k + 1, n, h => by
    unfold stripF
    split
    · rename_i hd
      have : n = l * (n / l) := (Nat.mul_div_cancel' (Nat.dvd_of_mod_eq_zero hd)).symm
      rw [this] at h
      rcases pm_mul hq h with e | e
      · exact .inl e
      · exact stripF_all hq k _ e
    · exact .inr h
theorem trialF_acc : ∀ (k n l : Nat) (acc : List Nat), ∀ r ∈ acc, r ∈ (trialF k n l acc).2
  | 0, n, l, acc, r, h => h
  | k + 1, n, l, acc, r, h => by
    unfold trialF
    split
    · split
      · exact trialF_acc k _ _ _ r (List.mem_append_left _ h)
      · exact trialF_acc k _ _ _ r h
    · exact h
theorem trialF_all {q : Nat} (hq : pm q) : ∀ (k n l : Nat) (acc : List Nat), q ∣ n → (∃ r ∈ (trialF k n l acc).2, q ∣ r) ∨ q ∣ (trialF k n l acc).1
  | 0, n, l, acc, h => .inr h
  | k + 1, n, l, acc, h => by
    unfold trialF
    split
    · split
      · rcases stripF_all (l := l) hq n n h with e | e
        · exact .inl ⟨l, trialF_acc k _ _ _ l (List.mem_append_right _ (List.mem_singleton.mpr rfl)), e⟩
        · exact trialF_all hq k _ _ _ e
      · exact trialF_all hq k _ _ _ h
    · exact .inr h
theorem mem_trial {n q : Nat} (h0 : 0 < n) (hq : pm q) (hd : q ∣ n) : q ∈ trial n := by
  have ok := (trial_ok h0).1
  have fin : ∀ r ∈ trial n, q ∣ r → q ∈ trial n := fun r hr d => by
    rcases pm_dvd (ok r hr).1 d with e | e
    · have := hq.1; omega
    · rw [e]; exact hr
  rcases trialF_all hq n n 2 [] hd with ⟨r, hr, d⟩ | d
  · refine fin r ?_ d
    unfold trial
    split
    · exact List.mem_append_left _ hr
    · exact hr
  · obtain ⟨fs, e1, e2, e3, e4, e5, e6⟩ := trialF_ok (k := n) (n := n) (l := 2) (acc := []) h0 (by omega) (by omega) (fun d a b => by omega)
    have h2 := hq.1
    have := Nat.le_of_dvd e3 d
    refine fin (trialF n n 2 []).1 ?_ d
    unfold trial
    rw [if_pos (by omega)]
    exact List.mem_append_right _ (List.mem_singleton.mpr rfl)
theorem mem_tri {n : Int} {q : Nat} (h0 : n ≠ 0) (hq : pm q) (hd : n % (q : Int) = 0) : (q : Int) ∈ tri n := by
  have : q ∣ n.natAbs := Int.natCast_dvd_natCast.mp (Int.dvd_natAbs.mpr (Int.dvd_of_emod_eq_zero hd))
  exact List.mem_map.mpr ⟨q, mem_trial (by omega) hq this, rfl⟩
/-- the places that matter, by their numbers -/
def plO (ns : List Int) : List (Option Nat) := none :: (plS ns).map fun q => some q.toNat
theorem plO_plc {ns : List Int} (h : ns.all okN = true) : (plO ns).map plc = plD ns := by
  unfold plO plD
  simp only [List.map_cons, List.map_map]
  congr 1
  refine List.map_congr_left fun q hq => ?_
  have := plS_isPr h hq
  simp only [isPr, Bool.and_eq_true, decide_eq_true_eq] at this
  show D.int ((q.toNat : Nat) : Int) = D.int q
  congr 1
  omega
theorem plO_full {a b : Int} (ha : okN a = true) (hb : okN b = true) : full a b (plO [a, b]) := by
  have h : [a, b].all okN = true := by simp [ha, hb]
  have pos : ∀ q ∈ plS [a, b], 2 ≤ q := fun q hq => by
    have := plS_isPr h hq
    simp only [isPr, Bool.and_eq_true, decide_eq_true_eq] at this
    exact this.1.1
  have hin : ∀ q : Nat, (q : Int) ∈ plS [a, b] → some q ∈ plO [a, b] := fun q hq => by
    refine List.mem_cons_of_mem _ (List.mem_map.mpr ⟨(q : Int), hq, by simp⟩)
  refine ⟨?_, fun o ho => ?_, List.mem_cons_self, hin 2 ?_, fun p hp d => hin p ?_⟩
  · unfold plO
    refine List.nodup_cons.mpr ⟨fun z => ?_, ?_⟩
    · obtain ⟨_, _, e⟩ := List.mem_map.mp z
      cases e
    · unfold List.Nodup
      refine List.pairwise_map.mpr (List.Pairwise.imp_of_mem ?_ (sortU_srt (xs := 2 :: ([a, b].map tri).flatten)))
      intro x y hx hy hlt e
      have := pos x hx
      have := pos y hy
      have e := Option.some.inj e
      omega
  · rcases List.mem_cons.mp ho with rfl | ho
    · trivial
    · obtain ⟨q, hq, rfl⟩ := List.mem_map.mp ho
      obtain ⟨p, e, hp, _⟩ := isPr_pm (plS_isPr h hq)
      rw [e]
      simpa [okc] using hp
  · exact mem_sortU.mpr List.mem_cons_self
  · refine mem_sortU.mpr (List.mem_cons_of_mem _ ?_)
    simp only [List.map_cons, List.map_nil, List.flatten_cons, List.flatten_nil, List.append_nil]
    rcases d with d | d
    · exact List.mem_append_left _ (mem_tri (okN_of ha).1 hp d)
    · exact List.mem_append_right _ (mem_tri (okN_of hb).1 hp d)
theorem odd_even {a b : Int} (ha : okN a = true) (hb : okN b = true) : ((plD [a, b]).filter fun pl => oddAt a b pl).length % 2 = 0 := by
  have h : [a, b].all okN = true := by simp [ha, hb]
  have hf := PF_all (okN_of ha).1 (okN_of hb).1 _ (plO_full ha hb)
  rw [xorL_len] at hf
  have hf := of_decide_eq_false hf
  rw [← plO_plc h, List.filter_map, List.length_map]
  have : ((plO [a, b]).filter ((fun pl => oddAt a b pl) ∘ plc)) = (plO [a, b]).filter (oa a b) := rfl
  rw [this]
  omega
/-! ### squares -/
theorem sq_oa {a b : Int} {pl : D} (hp : placeN pl) (ha : a ≠ 0) (hb : b ≠ 0) (h : sqAt a pl = true) : oddAt a b pl = false := by
  cases pl with
  | int i =>
    obtain ⟨p, rfl, hp⟩ := hp
    simp only [sqAt] at h
    simp only [oddAt]
    split at h
    · cases h
    · rename_i hi
      by_cases c2 : (p : Int) = 2
      · rw [if_pos c2] at h ⊢
        rw [c2] at h hi
        have h := of_decide_eq_true h
        unfold two odd2 r35
        rw [decide_eq_false hi, h, show decide ((split a 2).2 % 4 = 3) = false from decide_eq_false (by omega)]
        simp
      · rw [if_neg c2] at h ⊢
        unfold odd odd2
        rw [decide_eq_false hi, h]
        simp
  | _ =>
    simp only [sqAt] at h
    simp only [oddAt]
    rw [decide_eq_false (show ¬ a < 0 by have := of_decide_eq_true h; omega), Bool.false_and]
theorem sq_mul {a b : Int} {pl : D} (hp : placeN pl) (ha : a ≠ 0) (hb : b ≠ 0) (h : sqAt a pl = true) : sqAt (a * b) pl = sqAt b pl := by
  cases pl with
  | int i =>
    obtain ⟨p, rfl, hp⟩ := hp
    have s := split_mul hp ha hb
    have hp2 : (2 : Int) ≤ (p : Int) := by have := hp.1; omega
    have ua := (split_ok ha hp2).2
    have ub := (split_ok hb hp2).2
    simp only [sqAt, s] at h ⊢
    split at h
    · cases h
    · rename_i hi
      have e : ((split a p).1 + (split b p).1) % 2 = (split b p).1 % 2 := by omega
      rw [e]
      by_cases c2 : (p : Int) = 2
      · rw [if_pos c2] at h
        have h := of_decide_eq_true h
        have : ((split a p).2 * (split b p).2) % 8 = (split b p).2 % 8 := by
          rw [Int.mul_emod, h, Int.one_mul, Int.emod_emod_of_dvd _ (Int.dvd_refl 8)]
        rw [if_pos c2, if_pos c2, this]
      · rw [if_neg c2] at h ⊢
        rw [if_neg c2]
        obtain ⟨k, hk⟩ := pm_odd hp (by omega)
        rw [lea_mul hp hk ua ub, h]
        cases lea (split b p).2 p <;> rfl
  | _ =>
    simp only [sqAt] at h ⊢
    have h := of_decide_eq_true h
    have : (0 < a * b) = (0 < b) := propext ⟨fun z => Int.pos_of_mul_pos_right z (by omega) , fun z => Int.mul_pos h z⟩
    simp only [this]
theorem sq_sq {a : Int} {pl : D} (hp : placeN pl) (ha : a ≠ 0) : sqAt (a * a) pl = true := by
  cases pl with
  | int i =>
    obtain ⟨p, rfl, hp⟩ := hp
    have s := split_mul hp ha ha
    have hp2 : (2 : Int) ≤ (p : Int) := by have := hp.1; omega
    have ua := (split_ok ha hp2).2
    simp only [sqAt, s]
    rw [if_neg (by omega)]
    by_cases c2 : (p : Int) = 2
    · rw [if_pos c2]
      rw [c2] at ua ⊢
      have e := mul8 (split a 2).2 (split a 2).2
      rcases odd8 ua with c | c | c | c <;> rw [c] at e <;> simp only [Int.reduceMul, Int.reduceMod] at e <;> exact decide_eq_true e
    · rw [if_neg c2]
      obtain ⟨k, hk⟩ := pm_odd hp (by omega)
      rw [lea_mul hp hk ua ua]
      cases lea (split a p).2 p <;> rfl
  | _ =>
    simp only [sqAt]
    refine decide_eq_true ?_
    rcases Int.lt_or_gt_of_ne ha with c | c
    · exact Int.mul_pos_of_neg_of_neg c c
    · exact Int.mul_pos c c
end M

set_option Elab.async false
set_option linter.all false
set_option maxRecDepth 100000
set_option maxHeartbeats 4000000
/-! N12: a number and what lacks to 1; few odd places; a number that is no square has a sign -1 with some other. -/
namespace M
theorem split_unit2 {a : Int} (h : a % 2 ≠ 0) : split a 2 = (0, a) := unit_split pm2 (by omega) h
theorem ste_even {a : Int} (ha : a ≠ 0) (h : a % 2 = 0) : two a (1 - a) = false := by
  have s1 := split_ok ha (show (2 : Int) ≤ 2 by decide)
  have s2 : split (1 - a) 2 = (0, 1 - a) := split_unit2 (by omega)
  revert s1
  generalize hi : (split a 2).1 = i
  generalize hu : (split a 2).2 = u
  intro s1
  obtain ⟨e, hod⟩ := s1
  unfold two
  rw [s2, hi, hu]
  simp only
  match i, e with
  | 0, e => exfalso; rw [Int.pow_zero, Int.one_mul] at e; omega
  | 1, e =>
    rw [Int.pow_succ, Int.pow_zero, Int.one_mul] at e
    have h1 : ((1 - a) % 4 = 3) := by omega
    have h2 : r35 (1 - a) = decide (u % 4 = 3) := by
      unfold r35
      by_cases c : u % 4 = 3
      · have : (1 - a) % 8 = 3 := by omega
        rw [this, decide_eq_true c]; rfl
      · have : (1 - a) % 8 = 7 := by omega
        rw [this, decide_eq_false c]; rfl
    rw [decide_eq_true h1, h2]
    cases decide (u % 4 = 3) <;> rfl
  | 2, e =>
    have e : a = 4 * u := e
    have h1 : ¬ ((1 - a) % 4 = 3) := by omega
    rw [decide_eq_false h1]
    simp [odd2]
  | k + 3, e =>
    have e : a = 8 * (2 ^ k * u) := by
      rw [e, Int.pow_add]
      rw [show (2 : Int) ^ 3 = 8 from rfl, Int.mul_comm (2 ^ k) 8, Int.mul_assoc]
    have h1 : (1 - a) % 8 = 1 := by omega
    have h2 : ¬ ((1 - a) % 4 = 3) := by omega
    have h3 : r35 (1 - a) = false := by unfold r35; rw [h1]; rfl
    rw [decide_eq_false h2, h3]
    simp [odd2]
theorem ste_odd {p : Nat} (hp : pm p) (h2 : p ≠ 2) {a : Int} (ha : a ≠ 0) (h : a % (p : Int) = 0) (hb : 1 - a ≠ 0) : odd a (1 - a) p = false := by
  obtain ⟨k, hk⟩ := pm_odd hp h2
  have hp2 := hp.1
  obtain ⟨c, e⟩ := Int.dvd_of_emod_eq_zero h
  have h1 : (1 - a) % (p : Int) = 1 := by
    rw [e, Int.sub_eq_add_neg, ← Int.mul_neg, Int.add_mul_emod_self_left]
    exact Int.emod_eq_of_lt (by decide) (by omega)
  have s2 : split (1 - a) p = (0, 1 - a) := unit_split hp hb (by omega)
  have hl : lea (1 - a) p = true := by
    have e1 : (1 - a) % (p : Int) = (1 : Int) % (p : Int) := by rw [h1]; exact (Int.emod_eq_of_lt (by decide) (by omega)).symm
    rw [lea_congr hp hk e1]
    exact lea_1 hp hk
  unfold odd
  rw [s2, hl]
  simp [odd2]
theorem steinberg {a : Int} {pl : D} (hp : placeN pl) (ha : a ≠ 0) (hb : 1 - a ≠ 0) : oddAt a (1 - a) pl = false := by
  cases pl with
  | int i =>
    obtain ⟨p, rfl, hp⟩ := hp
    have hs : (1 : Int) - (1 - a) = a := by omega
    by_cases h2 : p = 2
    · subst h2
      show two a (1 - a) = false
      by_cases c : a % 2 = 0
      · exact ste_even ha c
      · rw [two_sym]
        have := ste_even hb (show (1 - a) % 2 = 0 by omega)
        rwa [hs] at this
    · show (if (p : Int) = 2 then two a (1 - a) else odd a (1 - a) p) = false
      rw [if_neg (by omega)]
      by_cases c : a % (p : Int) = 0
      · exact ste_odd hp h2 ha c hb
      · by_cases c2 : (1 - a) % (p : Int) = 0
        · rw [odd_sym]
          have := ste_odd hp h2 hb c2 (by omega)
          rwa [hs] at this
        · have := unit_off hp h2 ha hb c c2
          rwa [oa_odd h2] at this
  | _ =>
    simp only [oddAt]
    by_cases c : a < 0
    · rw [decide_eq_false (show ¬ 1 - a < 0 by omega), Bool.and_false]
    · rw [decide_eq_false c, Bool.false_and]
/-! ### few odd places -/
theorem few_odd : ∀ n : Nat, n ≤ 900 → ((trial n).filter fun p => decide (p ≠ 2)).length ≤ 3 := by
  have h : (List.range 901).all (fun n => decide (((trial n).filter fun p => decide (p ≠ 2)).length ≤ 3)) = true := by decide +kernel
  intro n hn
  exact of_decide_eq_true (List.all_eq_true.mp h n (List.mem_range.mpr (by omega)))
theorem len_sub : ∀ {xs ys : List Int}, xs.Nodup → (∀ x ∈ xs, x ∈ ys) → xs.length ≤ ys.length
  | [], _, _, _ => Nat.zero_le _
  | x :: xs, ys, hn, hs => by
    obtain ⟨h1, h2⟩ := List.nodup_cons.mp hn
    have hx := hs x List.mem_cons_self
    have := len_sub (xs := xs) (ys := ys.erase x) h2 fun y hy => (List.mem_erase_of_ne (fun e => by subst e; exact h1 hy)).mpr (hs y (List.mem_cons_of_mem _ hy))
    rw [List.length_erase_of_mem hx] at this
    have := List.length_pos_of_mem hx
    simp only [List.length_cons]
    omega
theorem plS_nd (ns : List Int) : (plS ns).Nodup := by
  unfold List.Nodup
  exact List.Pairwise.imp (fun h e => by rw [e] at h; exact Int.lt_irrefl _ h) sortU_srt
theorem few {a b : Int} (ha : a.natAbs ≤ 900) (hb : b.natAbs ≤ 900) : (plS [a, b]).length ≤ 7 := by
  have fl : ∀ n : Int, n.natAbs ≤ 900 → ((tri n).filter fun q => decide (q ≠ 2)).length ≤ 3 := fun n hn => by
    unfold tri
    rw [List.filter_map, List.length_map]
    have := few_odd n.natAbs hn
    have e : ((fun q : Int => decide (q ≠ 2)) ∘ fun (m : Nat) => (m : Int)) = fun m : Nat => decide (m ≠ 2) := by
      funext m
      show decide ((m : Int) ≠ 2) = decide (m ≠ 2)
      exact decide_eq_decide.mpr (by omega)
    rw [e]
    exact this
  have h1 := fl a ha
  have h2 := fl b hb
  refine Nat.le_trans (len_sub (ys := 2 :: ((tri a).filter (fun q => decide (q ≠ 2)) ++ (tri b).filter (fun q => decide (q ≠ 2)))) (plS_nd _) fun q hq => ?_) ?_
  · have hq := mem_sortU.mp hq
    simp only [List.map_cons, List.map_nil, List.flatten_cons, List.flatten_nil, List.append_nil] at hq
    by_cases c : q = 2
    · rw [c]; exact List.mem_cons_self
    · refine List.mem_cons_of_mem _ ?_
      rcases List.mem_cons.mp hq with e | hq
      · exact absurd e c
      · rcases List.mem_append.mp hq with hq | hq
        · exact List.mem_append_left _ (List.mem_filter.mpr ⟨hq, by simpa using c⟩)
        · exact List.mem_append_right _ (List.mem_filter.mpr ⟨hq, by simpa using c⟩)
  · simp only [List.length_cons, List.length_append]
    omega
theorem odd_len {a b : Int} (ha : okN a = true) (hb : okN b = true) (ha9 : a.natAbs ≤ 900) (hb9 : b.natAbs ≤ 900) : ((plD [a, b]).filter fun pl => oddAt a b pl).length ∈ [0, 2, 4, 6, 8] := by
  have h1 := odd_even ha hb
  have h2 := List.length_filter_le (fun pl => oddAt a b pl) (plD [a, b])
  have h3 := few ha9 hb9
  have h4 : (plD [a, b]).length = (plS [a, b]).length + 1 := by simp [plD]
  simp only [List.mem_cons, List.not_mem_nil, or_false]
  omega
/-! ### some other number -/
theorem odd_by {p : Nat} (hp : pm p) (h2 : p ≠ 2) {a v : Int} (hv : v ≠ 0) (hu : v % (p : Int) ≠ 0) (hl : lea v p = false) (hi : (split a p).1 % 2 = 1) : odd a v p = true := by
  unfold odd
  rw [unit_split hp hv hu, hl, decide_eq_true hi]
  simp [odd2]
theorem odd_p {p : Nat} (hp : pm p) {a : Int} (hl : lea (split a p).2 p = false) (hi : ¬ (split a p).1 % 2 = 1) : odd a p p = true := by
  unfold odd
  rw [split_self hp, hl, decide_eq_false hi]
  simp [odd2]
theorem no_sq {a : Int} {pl : D} (ha : a ≠ 0) (hs : sqAt a pl = false) (hpl : pl = .str REAL ∨ pl = .int 2 ∨ pl = .int 3 ∨ pl = .int 5 ∨ pl = .int 7) :
    ∃ x : Int, (x ∈ [(-1 : Int), 2, 5] ∨ pl = .int x) ∧ oddAt a x pl = true := by
  rcases hpl with rfl | rfl | rfl | rfl | rfl
  · refine ⟨-1, .inl (by simp), ?_⟩
    have : ¬ 0 < a := of_decide_eq_false hs
    show (decide (a < 0) && decide ((-1 : Int) < 0)) = true
    rw [decide_eq_true (show a < 0 by omega)]; rfl
  · have hu := (split_ok ha (show (2 : Int) ≤ 2 by decide)).2
    have hs : (if (split a 2).1 % 2 = 1 then false else if (2 : Int) = 2 then decide ((split a 2).2 % 8 = 1) else lea (split a 2).2 2) = false := hs
    rw [if_pos (rfl : (2 : Int) = 2)] at hs
    show ∃ x : Int, _ ∧ two a x = true
    by_cases hi : (split a 2).1 % 2 = 1
    · refine ⟨5, .inl (by simp), ?_⟩
      unfold two
      rw [show split 5 2 = (0, 5) from by decide, decide_eq_true hi]
      simp [odd2, r35]
    · rw [if_neg hi] at hs
      have hs := of_decide_eq_false hs
      rcases odd8 hu with c | c | c | c
      · exact absurd c hs
      · refine ⟨-1, .inl (by simp), ?_⟩
        unfold two
        rw [show split (-1) 2 = (0, -1) from by decide, decide_eq_false hi, decide_eq_true (show (split a 2).2 % 4 = 3 by omega)]
        simp [odd2]
      · refine ⟨2, .inl (by simp), ?_⟩
        unfold two
        rw [show split 2 2 = (1, 1) from by decide, decide_eq_false hi, decide_eq_false (show ¬ (split a 2).2 % 4 = 3 by omega)]
        simp [odd2, r35, c]
      · refine ⟨-1, .inl (by simp), ?_⟩
        unfold two
        rw [show split (-1) 2 = (0, -1) from by decide, decide_eq_false hi, decide_eq_true (show (split a 2).2 % 4 = 3 by omega)]
        simp [odd2]
  · have hs : (if (split a 3).1 % 2 = 1 then false else if (3 : Int) = 2 then decide ((split a 3).2 % 8 = 1) else lea (split a 3).2 3) = false := hs
    rw [if_neg (show ¬ (3 : Int) = 2 by decide)] at hs
    show ∃ x : Int, _ ∧ odd a x ((3 : Nat) : Int) = true
    by_cases hi : (split a 3).1 % 2 = 1
    · exact ⟨-1, .inl (by simp), odd_by pm3 (by decide) (by decide) (by decide) (by decide) hi⟩
    · rw [if_neg hi] at hs
      exact ⟨3, .inr rfl, odd_p pm3 hs hi⟩
  · have hs : (if (split a 5).1 % 2 = 1 then false else if (5 : Int) = 2 then decide ((split a 5).2 % 8 = 1) else lea (split a 5).2 5) = false := hs
    rw [if_neg (show ¬ (5 : Int) = 2 by decide)] at hs
    show ∃ x : Int, _ ∧ odd a x ((5 : Nat) : Int) = true
    by_cases hi : (split a 5).1 % 2 = 1
    · exact ⟨2, .inl (by simp), odd_by pm5 (by decide) (by decide) (by decide) (by decide) hi⟩
    · rw [if_neg hi] at hs
      exact ⟨5, .inr rfl, odd_p pm5 hs hi⟩
  · have hs : (if (split a 7).1 % 2 = 1 then false else if (7 : Int) = 2 then decide ((split a 7).2 % 8 = 1) else lea (split a 7).2 7) = false := hs
    rw [if_neg (show ¬ (7 : Int) = 2 by decide)] at hs
    show ∃ x : Int, _ ∧ odd a x ((7 : Nat) : Int) = true
    by_cases hi : (split a 7).1 % 2 = 1
    · exact ⟨-1, .inl (by simp), odd_by pm7 (by decide) (by decide) (by decide) (by decide) hi⟩
    · rw [if_neg hi] at hs
      exact ⟨7, .inr rfl, odd_p pm7 hs hi⟩
end M

set_option Elab.async false
set_option linter.all false
set_option maxRecDepth 100000
set_option maxHeartbeats 4000000
/-! W1: what is wished of a run: the rules of the wish. -/
namespace M
open PySem PySem.Spec PyProof.Rows L2
abbrev XQ := Str → Option (Str × D) → Env → Prop
/-- the run ends so: Q of its value and slots, X of an exception -/
def WX {α : Type} (r : Res α) (Q : α → Env → Prop) (X : XQ) : Prop := match r with
  | .ok a e => Q a e
  | .exc c x e => X c x e
  | .fail => False
abbrev nX : XQ := fun _ _ _ => False
/-- no exception -/
abbrev WP {α : Type} (r : Res α) (Q : α → Env → Prop) : Prop := WX r Q nX
section
variable {α β : Type} {Q Q' : α → Env → Prop} {X X' : XQ} {e : Env}
theorem wx_ok {a : α} : WX (.ok a e) Q X = Q a e := rfl
theorem wx_exc {c : Str} {x : Option (Str × D)} : WX (.exc c x e : Res α) Q X = X c x e := rfl
theorem wx_fail : WX (.fail : Res α) Q X = False := rfl
theorem wx_bind {r : Res β} {k : β → Env → Res α} : WX (r.bind k) Q X = WX r (fun a e => WX (k a e) Q X) X := by cases r <;> rfl
theorem wx_frz {r : Res Val} {Q : D → Env → Prop} : WX r.frz Q X = WX r (fun v e => Q v.frz e) X := by cases r <;> rfl
theorem wx_keep {r : Res Val} {Q : Val → Env → Prop} : WX (r.keep e) Q X = WX r (fun v _ => Q v e) (fun c x _ => X c x e) := by cases r <;> rfl
theorem wx_ite {c : Prop} [Decidable c] {r r' : Res α} : WX (if c then r else r') Q X = if c then WX r Q X else WX r' Q X := by split <;> rfl
theorem WX.mono {r : Res α} (h : WX r Q X) (hq : ∀ a e, Q a e → Q' a e) (hx : ∀ c x e, X c x e → X' c x e) : WX r Q' X' := by
  cases r with
  | ok a e => exact hq a e h
  | exc c x e => exact hx c x e h
  | fail => exact h
theorem WX.imp {r : Res α} (h : WX r Q nX) (hq : ∀ a e, Q a e → Q' a e) : WX r Q' X := h.mono hq fun _ _ _ z => z.elim
theorem WX.eq {r : Res α} {a : α} (h : r = .ok a e) (hq : Q a e) : WX r Q X := by rw [h]; exact hq
/-- what follows a statement: only behind a plain end -/
def seqK (Q : Fl → Env → Prop) (P : Env → Prop) : Fl → Env → Prop
  | .nx, e => P e
  | .bk, e => Q .bk e
  | .ct, e => Q .ct e
  | .rt v, e => Q (.rt v) e
def turnK (Q : Fl → Env → Prop) (P : Env → Prop) : Fl → Env → Prop
  | .nx, e => P e
  | .ct, e => P e
  | .bk, e => Q .nx e
  | .rt v, e => Q (.rt v) e
theorem seqK_nx {Q : Fl → Env → Prop} {P : Env → Prop} : seqK Q P .nx e = P e := rfl
theorem seqK_bk {Q : Fl → Env → Prop} {P : Env → Prop} : seqK Q P .bk e = Q .bk e := rfl
theorem seqK_ct {Q : Fl → Env → Prop} {P : Env → Prop} : seqK Q P .ct e = Q .ct e := rfl
theorem seqK_rt {Q : Fl → Env → Prop} {P : Env → Prop} {v : Val} : seqK Q P (.rt v) e = Q (.rt v) e := rfl
theorem turnK_nx {Q : Fl → Env → Prop} {P : Env → Prop} : turnK Q P .nx e = P e := rfl
theorem turnK_bk {Q : Fl → Env → Prop} {P : Env → Prop} : turnK Q P .bk e = Q .nx e := rfl
theorem turnK_ct {Q : Fl → Env → Prop} {P : Env → Prop} : turnK Q P .ct e = P e := rfl
theorem turnK_rt {Q : Fl → Env → Prop} {P : Env → Prop} {v : Val} : turnK Q P (.rt v) e = Q (.rt v) e := rfl
theorem wx_seq {r : Res Fl} {k : Env → Res Fl} {Q : Fl → Env → Prop} : WX (r.seq k) Q X = WX r (seqK Q fun e => WX (k e) Q X) X := by
  cases r with
  | ok fl e => cases fl <;> rfl
  | exc c x e => rfl
  | fail => rfl
theorem wx_turn {r : Res Fl} {k : Env → Res Fl} {Q : Fl → Env → Prop} : WX (r.turn k) Q X = WX r (turnK Q fun e => WX (k e) Q X) X := by
  cases r with
  | ok fl e => cases fl <;> rfl
  | exc c x e => rfl
  | fail => rfl
/-! ### loops -/
theorem wx_for {ft : D → Env → Res Fl} {fb : Env → Res Fl} {Q : Fl → Env → Prop} {items : List D} (I : List D → Env → Prop) (h0 : I items e) (hd : ∀ e, I [] e → Q .nx e)
    (hs : ∀ x xs e, I (x :: xs) e → WX (ft x e) (seqK Q fun e1 => WX (fb e1) (turnK Q fun e2 => I xs e2) X) X) : WX (forS ft fb items e) Q X := by
  induction items generalizing e with
  | nil => exact hd e h0
  | cons x xs ih =>
    rw [forS_cons, wx_seq]
    refine (hs x xs e h0).mono (fun fl e1 h => ?_) fun _ _ _ h => h
    cases fl with
    | nx =>
      show WX ((fb e1).turn (forS ft fb xs)) Q X
      rw [wx_turn]
      refine WX.mono (show WX _ _ _ from h) (fun fl e2 h => ?_) fun _ _ _ h => h
      cases fl with
      | nx => exact ih h
      | ct => exact ih h
      | bk => exact h
      | rt v => exact h
    | bk => exact h
    | ct => exact h
    | rt v => exact h
theorem wx_while {c : Env → Res Bool} {b : Env → Res Fl} {Q : Fl → Env → Prop} (I : Nat → Env → Prop) {n : Nat} (h0 : I n e)
    (hs : ∀ n e, I n e → WX (c e) (fun t e1 => if t = true then WX (b e1) (turnK Q fun e2 => ∃ m, m < n ∧ I m e2) X else Q .nx e1) X) : WX (whileC c b e) Q X := by
  induction n using Nat.strongRecOn generalizing e with
  | ind n ih =>
    rw [whileC_unfold, wx_bind]
    refine (hs n e h0).mono (fun t e1 h => ?_) fun _ _ _ h => h
    cases t with
    | false => exact h
    | true =>
      show WX ((b e1).turn (whileC c b)) Q X
      rw [wx_turn]
      refine WX.mono (show WX _ _ _ from h) (fun fl e2 h => ?_) fun _ _ _ h => h
      cases fl with
      | nx => obtain ⟨m, hm, h⟩ := h; exact ih m hm h
      | ct => obtain ⟨m, hm, h⟩ := h; exact ih m hm h
      | bk => exact h
      | rt v => exact h
/-- a comprehension: I of what is left, what is made, the slots -/
theorem wx_comp {ft : D → Env → Option Env} {fc : Env → Res Bool} {fe : Env → Res D} {vs : List Nat} {Q : Val → Env → Prop} {items acc : List D} (I : List D → List D → Env → Prop) (h0 : I items acc (wipeE e vs)) (hd : ∀ acc e, I [] acc e → Q (.own 0 acc) e)
    (hs : ∀ x xs acc e, I (x :: xs) acc e → ∃ e1, ft x e = some e1 ∧ WP (fc e1) fun t e2 => if t = true then WP (fe e2) fun y e3 => acc.length < SZ ∧ I xs (acc ++ [y]) (wipeE e3 vs) else I xs acc (wipeE e2 vs)) :
    WX (compS ft fc fe vs items acc e) Q X := by
  induction items generalizing e acc with
  | nil => exact hd acc _ h0
  | cons x xs ih =>
    obtain ⟨e1, h1, h2⟩ := hs x xs acc _ h0
    unfold compS
    rw [h1]
    simp only
    cases hc : fc e1 with
    | fail => rw [hc] at h2; exact h2.elim
    | exc _ _ _ => rw [hc] at h2; exact h2.elim
    | ok t e2 =>
      rw [hc] at h2
      cases t with
      | false =>
        simp only [wx_ok, Bool.false_eq_true, if_false] at h2
        exact ih h2
      | true =>
        simp only [wx_ok, if_true] at h2
        simp only
        cases hy : fe e2 with
        | fail => rw [hy] at h2; exact h2.elim
        | exc _ _ _ => rw [hy] at h2; exact h2.elim
        | ok y e3 =>
          rw [hy] at h2
          obtain ⟨h3, h4⟩ := h2
          simp only
          rw [if_pos h3]
          exact ih h4
/-- all elements, one value each -/
theorem wx_map {ft : D → Env → Option Env} {fc : Env → Res Bool} {fe : Env → Res D} {vs : List Nat} {Q : Val → Env → Prop} {items : List D} (w : Env) (R : D → D → Prop) (hw : wipeE e vs = w) (hl : items.length ≤ 1000000)
    (hs : ∀ x ∈ items, ∃ e1 e2, ft x w = some e1 ∧ fc e1 = .ok true e2 ∧ WP (fe e2) fun y e3 => R x y ∧ wipeE e3 vs = w) (hd : ∀ ys : List D, ys.length = items.length → (∀ y ∈ ys, ∃ x ∈ items, R x y) → Q (.own 0 ys) w) :
    WX (compS ft fc fe vs items [] e) Q X := by
  refine wx_comp (fun xs acc e => e = w ∧ acc.length + xs.length = items.length ∧ (∀ x ∈ xs, x ∈ items) ∧ ∀ y ∈ acc, ∃ x ∈ items, R x y) ⟨hw, by simp, fun _ h => h, fun _ h => absurd h List.not_mem_nil⟩ ?_ ?_
  · rintro acc e ⟨rfl, h1, _, h2⟩
    exact hd acc (by simpa using h1) h2
  · rintro x xs acc e ⟨rfl, h1, h3, h2⟩
    obtain ⟨e1, e2, g1, g2, g3⟩ := hs x (h3 x List.mem_cons_self)
    refine ⟨e1, g1, ?_⟩
    rw [g2]
    show WP (fe e2) _
    refine g3.mono (fun y e3 ⟨k1, k2⟩ => ⟨?_, k2, ?_, fun z hz => h3 z (List.mem_cons_of_mem _ hz), fun z hz => ?_⟩) fun _ _ _ z => z
    · rw [List.length_cons] at h1
      exact lt_SZ (show acc.length ≤ 1000000 by omega)
    · rw [List.length_cons] at h1
      simp only [List.length_append, List.length_cons, List.length_nil]
      omega
    · rcases List.mem_append.mp hz with hz | hz
      · exact h2 z hz
      · rw [List.mem_singleton.mp hz]
        exact ⟨x, h3 x List.mem_cons_self, k1⟩
end
/-! ### statement by statement -/
section
variable {Φ : Nat → Env → Res Val} {Γ : List D} {e e1 : Env} {Q : Fl → Env → Prop} {X : XQ}
theorem wx_cons {s : S} {r : Ss} (h : WX (S.ev Φ Γ s e) (seqK Q fun e' => WX (Ss.ev Φ Γ r e') Q X) X) : WX (Ss.ev Φ Γ (.cons s r) e) Q X := by
  show WX ((s.ev Φ Γ e).seq (r.ev Φ Γ)) Q X
  rw [wx_seq]; exact h
/-- if t: .. , t false -/
theorem wx_ifF {t : T} {a r : Ss} (h : T.ev Φ Γ t e = .ok false e1) (hn : WX (Ss.ev Φ Γ r e1) Q X) : WX (Ss.ev Φ Γ (.cons (.iff t a .nil) r) e) Q X := by
  refine wx_cons ?_
  show WX ((t.ev Φ Γ e).bind fun z e1 => if z = true then a.ev Φ Γ e1 else Ss.ev Φ Γ .nil e1) _ _
  rw [h]; exact hn
/-- if t: .. , t true -/
theorem wx_ifT {t : T} {a b r : Ss} (h : T.ev Φ Γ t e = .ok true e1) (hn : WX (Ss.ev Φ Γ a e1) (seqK Q fun e' => WX (Ss.ev Φ Γ r e') Q X) X) : WX (Ss.ev Φ Γ (.cons (.iff t a b) r) e) Q X := by
  refine wx_cons ?_
  show WX ((t.ev Φ Γ e).bind fun z e1 => if z = true then a.ev Φ Γ e1 else b.ev Φ Γ e1) _ _
  rw [h]; exact hn
/-- else -/
theorem wx_ifE {t : T} {a b r : Ss} (h : T.ev Φ Γ t e = .ok false e1) (hn : WX (Ss.ev Φ Γ b e1) (seqK Q fun e' => WX (Ss.ev Φ Γ r e') Q X) X) : WX (Ss.ev Φ Γ (.cons (.iff t a b) r) e) Q X := by
  refine wx_cons ?_
  show WX ((t.ev Φ Γ e).bind fun z e1 => if z = true then a.ev Φ Γ e1 else b.ev Φ Γ e1) _ _
  rw [h]; exact hn
/-- i = a -/
theorem wx_set {a : E} {i : Nat} {r : Ss} {v : Val} (h : E.ev Φ Γ a e = .ok v e1) (hn : WX (Ss.ev Φ Γ r (e1.set i (some v))) Q X) : WX (Ss.ev Φ Γ (.cons (.set i a) r) e) Q X := by
  refine wx_cons ?_
  show WX ((a.ev Φ Γ e).bind fun v e1 => (.ok Fl.nx (e1.set i (some v)) : Res Fl)) _ _
  rw [h]; exact hn
/-- for .. -/
theorem wx_fr {t : Tg} {it : It} {b r : Ss} {items : List D} (h : It.ev Φ Γ it e = .ok items e1) (hn : WX (forS (t.ev Φ Γ) (b.ev Φ Γ) items e1) (seqK Q fun e' => WX (Ss.ev Φ Γ r e') Q X) X) : WX (Ss.ev Φ Γ (.cons (.fr t it b) r) e) Q X := by
  refine wx_cons ?_
  show WX ((it.ev Φ Γ e).bind fun items e1 => forS (t.ev Φ Γ) (b.ev Φ Γ) items e1) _ _
  rw [h]; exact hn
/-- return a -/
theorem wx_ret {a : E} {r : Ss} {v : Val} (h : E.ev Φ Γ a e = .ok v e1) (hn : Q (.rt v) e1) : WX (Ss.ev Φ Γ (.cons (.ret a) r) e) Q X := by
  refine wx_cons ?_
  show WX ((a.ev Φ Γ e).bind fun v e1 => (.ok (Fl.rt v) e1 : Res Fl)) _ _
  rw [h]; exact hn
/-- for, over a name's target: I of what is left and the slots -/
theorem wx_forN {i : Nat} {b : Ss} {items : List D} (I : List D → Env → Prop) (h0 : I items e) (hd : ∀ e, I [] e → Q .nx e)
    (hs : ∀ x xs e, I (x :: xs) e → WX (b.ev Φ Γ (e.set i (some (.p x)))) (turnK Q fun e2 => I xs e2) X) : WX (forS (Tg.ev Φ Γ (.n i)) (b.ev Φ Γ) items e) Q X :=
  wx_for I h0 hd fun x xs e h => hs x xs e h
end
/-! ### a def by its body -/
theorem wx_run {fb : Env → Res Fl} {n : Nat} {e0 : Env} {Q : Val → Env → Prop} {X : XQ} (h : WX (fb (e0 ++ List.replicate (n - e0.length) none)) (fun fl e' => ∃ o, outE e0 e' = some o ∧ match fl with
    | .rt x => Q x o
    | .nx => Q (.p .non) o
    | _ => False) (fun c x e' => ∃ o, outE e0 e' = some o ∧ X c x o)) : WX (runF fb n e0) Q X := by
  unfold runF
  cases hr : fb (e0 ++ List.replicate (n - e0.length) none) with
  | fail => rw [hr] at h; exact h
  | ok fl e' =>
    rw [hr] at h
    obtain ⟨o, ho, h⟩ := h
    cases fl with
    | nx => simp only [ho]; exact h
    | rt v => simp only [ho]; exact h
    | bk => exact h
    | ct => exact h
  | exc c x e' =>
    rw [hr] at h
    obtain ⟨o, ho, h⟩ := h
    simp only [ho]
    exact h
/-! ### calls that lend -/
theorem wx_ln1 {F : Env → Res Val} {e : Env} {j t : Nat} {xs : List D} {Q : Val → Env → Prop} {X : XQ} (he : e[j]? = some (some (.own t xs)))
    (h : WX (F [some (.own 1 xs)]) (fun v o => ∃ ys o', o = some (.own 1 ys) :: o' ∧ Q v (e.set j (some (.own t ys)))) (fun c x o => ∃ ys o', o = some (.own 1 ys) :: o' ∧ X c x (e.set j (some (.own t ys))))) : WX (callP F 1 [0] [.ln j] e) Q X := by
  unfold callP callE
  simp only [permL, List.length_cons, List.length_nil, List.filterMap_cons, List.filterMap_nil, List.getElem?_cons_zero, List.getElem?_cons_succ, lns, argE, valA, he]
  cases hF : F [some (.own 1 xs)] with
  | fail => rw [hF] at h; exact h.elim
  | ok v o =>
    rw [hF] at h
    obtain ⟨ys, o', rfl, h⟩ := h
    simpa [Val.retag, hF, back, he, Val.tag, WX] using h
  | exc c x o =>
    rw [hF] at h
    obtain ⟨ys, o', rfl, h⟩ := h
    simpa [Val.retag, hF, back, he, Val.tag, WX] using h
theorem wx_ln2 {F : Env → Res Val} {e : Env} {j t : Nat} {xs : List D} {b : D} {Q : Val → Env → Prop} {X : XQ} (he : e[j]? = some (some (.own t xs)))
    (h : WX (F [some (.own 1 xs), some (.p b)]) (fun v o => ∃ ys o', o = some (.own 1 ys) :: o' ∧ Q v (e.set j (some (.own t ys)))) (fun c x o => ∃ ys o', o = some (.own 1 ys) :: o' ∧ X c x (e.set j (some (.own t ys))))) : WX (callP F 2 [0, 1] [.ln j, .v (.p b)] e) Q X := by
  unfold callP callE
  simp only [permL, List.length_cons, List.length_nil, List.filterMap_cons, List.filterMap_nil, List.getElem?_cons_zero, List.getElem?_cons_succ, lns, argE, valA, he]
  cases hF : F [some (.own 1 xs), some (.p b)] with
  | fail => rw [hF] at h; exact h.elim
  | ok v o =>
    rw [hF] at h
    obtain ⟨ys, o', rfl, h⟩ := h
    simpa [Val.retag, hF, back, he, Val.tag, WX] using h
  | exc c x o =>
    rw [hF] at h
    obtain ⟨ys, o', rfl, h⟩ := h
    simpa [Val.retag, hF, back, he, Val.tag, WX] using h
theorem wx_ln3 {F : Env → Res Val} {e : Env} {j t : Nat} {xs : List D} {b c : D} {Q : Val → Env → Prop} {X : XQ} (he : e[j]? = some (some (.own t xs)))
    (h : WX (F [some (.own 1 xs), some (.p b), some (.p c)]) (fun v o => ∃ ys o', o = some (.own 1 ys) :: o' ∧ Q v (e.set j (some (.own t ys)))) (fun c x o => ∃ ys o', o = some (.own 1 ys) :: o' ∧ X c x (e.set j (some (.own t ys))))) : WX (callP F 3 [0, 1, 2] [.ln j, .v (.p b), .v (.p c)] e) Q X := by
  unfold callP callE
  simp only [permL, List.length_cons, List.length_nil, List.filterMap_cons, List.filterMap_nil, List.getElem?_cons_zero, List.getElem?_cons_succ, lns, argE, valA, he]
  cases hF : F [some (.own 1 xs), some (.p b), some (.p c)] with
  | fail => rw [hF] at h; exact h.elim
  | ok v o =>
    rw [hF] at h
    obtain ⟨ys, o', rfl, h⟩ := h
    simpa [Val.retag, hF, back, he, Val.tag, WX] using h
  | exc c x o =>
    rw [hF] at h
    obtain ⟨ys, o', rfl, h⟩ := h
    simpa [Val.retag, hF, back, he, Val.tag, WX] using h
/-- a new list handed over -/
theorem wx_new1 {F : Env → Res Val} {e : Env} {t : Nat} {xs : List D} {Q : Val → Env → Prop} {X : XQ} (h : WX (F [some (.own 1 xs)]) (fun v _ => Q v e) (fun c x _ => X c x e)) : WX (callP F 1 [0] [.v (.own t xs)] e) Q X := by
  unfold callP callE
  simp only [permL, List.length_cons, List.length_nil, List.filterMap_cons, List.filterMap_nil, List.getElem?_cons_zero, List.getElem?_cons_succ, lns, argE, valA]
  cases hF : F [some (.own 1 xs)] with
  | fail => rw [hF] at h; exact h.elim
  | ok v o => rw [hF] at h; simpa [Val.retag, hF, back, WX] using h
  | exc c x o => rw [hF] at h; simpa [Val.retag, hF, back, WX] using h
/-! ### small facts for simp -/
theorem szle {n : Nat} (h : n ≤ 1000000) : (n ≤ SZ) = True := eq_true (le_SZ h)
theorem szlt {n : Nat} (h : n ≤ 1000000) : (n < SZ) = True := eq_true (lt_SZ h)
/-! ### one more function, its meaning put into the table -/
def updF (Φ : Nat → Env → Res Val) (i : Nat) (F : Env → Res Val) : Nat → Env → Res Val := fun f => if f = i then F else Φ f
theorem updF_self {Φ : Nat → Env → Res Val} {i : Nat} {F : Env → Res Val} : updF Φ i F i = F := if_pos rfl
section
variable {P : Program} {w : World} {K : PySem.W.Frag} {mg : Str → Option Value} {base : Heap}
theorem look_has {β : Type} {f : Nat} : ∀ {l : List (Nat × β)} {v : β}, l.lookup f = some v → (l.map (·.1)).contains f = true
  | [], v, h => by simp at h
  | (a1, a2) :: l, v, h => by
    rw [List.lookup_cons] at h
    rw [List.map_cons, List.contains_cons]
    split at h
    · rename_i q; rw [q]; rfl
    · rw [look_has h, Bool.or_true]
theorem Tab.upd {Φ : Nat → Env → Res Val} {k : Nat} {fs : List Row} {ms : List MRow} {i : Nat} (t : Tab Φ P w K mg base k fs ms) (F : Env → Res Val) (hi : (fs.map (·.1)).contains i = false) (hi2 : (ms.map (·.1)).contains i = false) : Tab (updF Φ i F) P w K mg base k fs ms :=
  ⟨fun f x n sh e => by
    have hf : f ≠ i := fun z => by
      have := look_has e
      rw [z, hi] at this
      cases this
    have : updF Φ i F f = Φ f := if_neg hf
    rw [this]
    exact t.cal f x n sh e, fun f x m kd n sh e => by
    have hf : f ≠ i := fun z => by
      have := look_has e
      rw [z, hi2] at this
      cases this
    have : updF Φ i F f = Φ f := if_neg hf
    rw [this]
    exact t.mth f x m kd n sh e⟩
/-- one more function stands, told by F, which is its body's run wherever F tells anything -/
theorem Tab.next {Φ : Nat → Env → Res Val} {Γ : List D} {k : Nat} {f : Addr} {fd : FuncData} {x : Str} {st : Stmt} {N ps : List Str} {gv : List (Nat × Str)} {cl : List (Str × List Str)} {fs : List Row} {ms : List MRow} {i : Nat} {b : Ss} {n : Nat} {sh : List (Nat × List Str × List Nat)} (t : Tab Φ P w K mg base k fs ms) (F' : Env → Res Val) (tp : Top Γ K mg gv cl) (F : Fun K x x st f fd) (hm : mg x = some (.ref f)) (hn : ps.length = n)
    (hi : (fs.map (·.1)).contains i = false) (hi2 : (ms.map (·.1)).contains i = false) (hS : C8.scC N ps (defScope st) = true) (hck : ckSs (ccOf N st fs gv cl ms) b (defBody st) = true) (hF : ∀ e, F' e ≠ .fail → runF (b.ev Φ Γ) N.length e = F' e) (hb : Bd x x st ps n sh) : Tab (updF Φ i F') P w K mg base (k + 1) ((i, x, n, sh) :: fs) ms := by
  obtain ⟨oc, od, kV, doc, pm, an, cdv, ct, osl, rfl, lk, hcd⟩ := F.ex
  refine (t.upd F' hi hi2).put ?_ (Nat.le_succ k)
  rw [updF_self]
  refine ⟨f, _, ps, fn_by lk hcd tp t hS hck hF, hm, F.kp, hn, fun q hq => ?_⟩
  obtain ⟨h1, h2⟩ := hb q hq
  exact ⟨h1, fun s us ws _ hu hw => .of_eq (h2 kV doc pm an cdv ct us ws hu hw)⟩
/-- one more def of a class -/
theorem Tab.nextM {Φ : Nat → Env → Res Val} {Γ : List D} {k : Nat} {C f : Addr} {fd : FuncData} {x m q : Str} {kd : MK} {st : Stmt} {N ps : List Str} {gv : List (Nat × Str)} {cl : List (Str × List Str)} {fs : List Row} {ms : List MRow} {i : Nat} {b : Ss} {n : Nat} {sh : List (Nat × List Str × List Nat)} (t : Tab Φ P w K mg base k fs ms) (F' : Env → Res Val) (tp : Top Γ K mg gv cl) (F : Fun K m q st f fd)
    (hm : mg x = some (.ref C)) (hc : Cls K C) (hk : MkF K C m f kd) (hn : ps.length = n)
    (hi : (fs.map (·.1)).contains i = false) (hi2 : (ms.map (·.1)).contains i = false) (hS : C8.scC N ps (defScope st) = true) (hck : ckSs (ccOf N st fs gv cl ms) b (defBody st) = true) (hF : ∀ e, F' e ≠ .fail → runF (b.ev Φ Γ) N.length e = F' e) (hb : Bd m q st ps n sh) : Tab (updF Φ i F') P w K mg base (k + 4) fs ((i, x, m, kd, n, sh) :: ms) := by
  obtain ⟨oc, od, kV, doc, pm, an, cdv, ct, osl, rfl, lk, hcd⟩ := F.ex
  refine (t.upd F' hi hi2).putM ?_ (Nat.le_add_right k 4)
  rw [updF_self]
  refine ⟨C, k + 1, f, _, ps, hm, hc, hk, fn_by lk hcd tp t hS hck hF, Nat.le_refl _, hn, fun q hq => ?_⟩
  obtain ⟨h1, h2⟩ := hb q hq
  exact ⟨h1, fun s us ws _ hu hw => .of_eq (h2 kV doc pm an cdv ct us ws hu hw)⟩
end
end M
local macro_rules
  | `(tactic| simp_arith! [$ls,*]) => `(tactic| simp only [M.bind_ok, M.bind_fail, M.bind_exc, M.lift_some, M.lift_none, M.keep_ok, M.keep_fail, M.frz_ok, M.frz_fail, M.frz_p, M.frz_own, M.frz_od, M.seq_nx, M.seq_rt, M.seq_fail, M.turn_nx, M.turn_rt, M.turn_fail, M.isOwn_p, M.isOwn_own, M.isOwn_od, M.callP1, M.callP2, M.callP3, M.callK1, M.callK2, M.callK3, List.getElem?_cons_zero, List.getElem?_cons_succ, List.set_cons_zero, List.set_cons_succ, List.replicate_succ, List.replicate_zero, List.append_nil, List.nil_append, List.cons_append, List.length_cons, List.length_nil, List.map_cons, List.map_nil, if_true, if_false, ite_true, ite_false, Bool.false_eq_true, Bool.true_eq_false, reduceCtorEq, Nat.reduceAdd, Nat.reduceSub, Nat.zero_add, Nat.add_zero, Nat.sub_self, decide_true, decide_false, Bool.not_true, Bool.not_false, Bool.and_true, Bool.true_and, Bool.and_false, Bool.false_and, Bool.or_true, Bool.true_or, Bool.or_false, Bool.false_or, Option.map_some, Option.map_none, and_self, and_true, true_and, ne_eq, not_true_eq_false, not_false_eq_true, Nat.reduceEqDiff, Nat.reduceLeDiff, decide_eq_true_eq, Int.reduceNeg, Nat.zero_le, decide_not, Nat.succ_ne_zero, eq_self_iff_true, and_false, false_and, List.isEmpty_nil, List.isEmpty_cons, M.vals, M.parS, M.putsE, M.cE_k, M.cE_v, M.cE_mv, M.cE_gv, M.cE_ty, M.cE_bop, M.cE_neg, M.cE_cmp, M.cE_cmp2, M.cE_no, M.cE_ite, M.cE_tup, M.cE_lst, M.cE_ix, M.cE_ixb, M.cE_sl, M.cE_bi, M.cE_sset, M.cE_count, M.cE_dsp, M.cE_dsp0, M.cE_lenb, M.cE_call, M.cE_callk, M.cE_app, M.cE_fz, M.cE_never, M.cT_tr, M.cT_cmp, M.cT_cmp2, M.cT_no, M.cT_and, M.cT_or, M.cEs_nil, M.cEs_cons, M.cEs_star, M.cAs_nil, M.cAs_v, M.cAs_ln, M.cKs_nil, M.cKs_cons, M.cOe_no, M.cOe_some, M.cIt_seq, M.cIt_rng1, M.cIt_rng2, M.cIt_enum, M.cOc_no, M.cOc_yes, M.cS_pass, M.cS_brk, M.cS_cnt, M.cS_doc, M.cS_ex, M.cS_ret, M.cS_ret0, M.cS_set, M.cS_asg, M.cS_par, M.cS_aug, M.cS_iff, M.cS_whl, M.cS_fr, M.cS_never, M.cSs_nil, M.cSs_cons, M.cTg_n, M.cTg_t, M.cTg_sub, M.cTgs_nil, M.cTgs_cons, M.tupT_ev, M.consT_ev, M.nilT_ev, M.Es.len, M.As.len, M.Ks.len, M.Tgs.len, M.getv, M.mvv, M.idxb, M.KD.d, M.Ty.nm, M.bv, M.Bi.sem, M.outE, M.Val.tag, M.truS, M.copS, M.bopS, M.augS, M.eq_ii, M.eq_ss, M.eq_bb, M.eq_is, M.eq_si, List.length_append, M.cE_and, M.cE_or, M.cE_comp, M.wx_ok, M.wx_exc, M.wx_fail, M.wx_bind, M.wx_frz, M.wx_keep, M.wx_ite, M.wx_seq, M.wx_turn, M.seqK_nx, M.seqK_bk, M.seqK_ct, M.seqK_rt, M.turnK_nx, M.turnK_bk, M.turnK_ct, M.turnK_rt, M.szle, M.szlt, M.lstS, M.tupS, M.cE_at, M.cE_atb, M.cE_new, M.cE_meth, M.cE_prop, M.cE_lenO, M.cE_strO, M.cE_isC, M.cE_get2, M.cE_join, M.cE_split, M.cIt_zip2, M.cS_sat, M.satS_ev, M.isOwn_oo, M.frz_oo, M.noX_ok, M.lenR_ok, M.strR_ok, $ls,*])

set_option Elab.async false
set_option linter.all false
/-! PdG: the program's own constants, by the numbers of gen.py's GL. -/
namespace PG
open PySem L2 M
def gvD : List D := [.int 1000000, .str (Str.ofString "real"), .int 6, .int 100, .int 20, .str (Str.ofString "0123456789"), .int 3, .int 200, .int 4, .int 10, .str (Str.ofString "abcdefghijklmnopqrstuvwxyz"), .int 8, .str (Str.ofString "alike"), .str (Str.ofString "unlike"), .str (Str.ofString "nought"), .str (Str.ofString "round"), .str (Str.ofString "gives"), .str (Str.ofString "misses"), .int 40]
end PG

set_option Elab.async false
set_option linter.all false
set_option maxRecDepth 100000
set_option maxHeartbeats 4000000
namespace PG
open PySem L2 M
/-! 0: is_integer -/
abbrev N_p_is_integer : List Str := [Str.ofString "value"]
abbrev A_p_is_integer : List Str := [Str.ofString "value"]
def b_p_is_integer : Ss := (.cons (.ret (.and (.bi .isi (.cons (.v 0) (.cons (.ty .int) .nil))) (.no (.bi .isi (.cons (.v 0) (.cons (.ty .bool) .nil)))))) .nil)
/-! 1: is_between -/
abbrev N_p_is_between : List Str := [Str.ofString "value", Str.ofString "low", Str.ofString "high"]
abbrev A_p_is_between : List Str := [Str.ofString "value", Str.ofString "low", Str.ofString "high"]
def b_p_is_between : Ss := (.cons (.ret (.and (.call 0 [0] (.v (.v 0) .nil)) (.cmp2 .le .le (.v 1) (.v 0) (.v 2)))) .nil)
/-! 2: is_one_of -/
abbrev N_p_is_one_of : List Str := [Str.ofString "value", Str.ofString "names"]
abbrev A_p_is_one_of : List Str := [Str.ofString "value", Str.ofString "names"]
def b_p_is_one_of : Ss := (.cons (.ret (.and (.bi .isi (.cons (.v 0) (.cons (.ty .str) .nil))) (.cmp .isin (.v 0) (.v 1)))) .nil)
/-! 3: is_number -/
abbrev N_p_is_number : List Str := [Str.ofString "value", Str.ofString "most"]
abbrev A_p_is_number : List Str := [Str.ofString "value", Str.ofString "most"]
def b_p_is_number : Ss := (.cons (.ret (.and (.call 1 [0, 1, 2] (.v (.v 0) (.v (.fz (.neg (.v 1))) (.v (.v 1) .nil)))) (.cmp .ne (.v 0) (.k (.int 0))))) .nil)
/-! 4: divisors_of -/
abbrev N_p_divisors_of : List Str := [Str.ofString "number", Str.ofString "found", Str.ofString "least"]
abbrev A_p_divisors_of : List Str := [Str.ofString "number"]
def b_p_divisors_of : Ss := (.cons (.par [1, 2] (.v (.lst .nil) (.v (.k (.int 2)) .nil))) (.cons (.whl (.cmp .le (.bop .mul (.v 2) (.v 2)) (.v 0)) (.cons (.iff (.cmp .eq (.bop .mod (.v 0) (.v 2)) (.k (.int 0))) (.cons (.ex (.app 1 (.v 2))) (.cons (.whl (.cmp .eq (.bop .mod (.v 0) (.v 2)) (.k (.int 0))) (.cons (.aug .fdiv 0 (.v 2)) .nil)) .nil)) .nil) (.cons (.aug .add 2 (.k (.int 1))) .nil))) (.cons (.ret (.ite (.cmp .gt (.v 0) (.k (.int 1))) (.lst (.star (.v 1) (.cons (.v 0) .nil))) (.mv 1))) .nil)))
/-! 5: is_prime -/
abbrev N_p_is_prime : List Str := [Str.ofString "value"]
abbrev A_p_is_prime : List Str := [Str.ofString "value"]
def b_p_is_prime : Ss := (.cons (.ret (.and (.call 1 [0, 1, 2] (.v (.v 0) (.v (.k (.int 2)) (.v (.fz (.bop .sub (.gv 0) (.k (.int 1)))) .nil)))) (.cmp .eq (.call 4 [0] (.v (.v 0) .nil)) (.lst (.cons (.v 0) .nil))))) .nil)
/-! 6: is_place -/
abbrev N_p_is_place : List Str := [Str.ofString "value"]
abbrev A_p_is_place : List Str := [Str.ofString "value"]
def b_p_is_place : Ss := (.cons (.ret (.or (.call 2 [0, 1] (.v (.v 0) (.v (.tup (.cons (.gv 1) .nil)) .nil))) (.call 5 [0] (.v (.v 0) .nil)))) .nil)
/-! 7: check_place -/
abbrev N_p_check_place : List Str := [Str.ofString "value"]
abbrev A_p_check_place : List Str := [Str.ofString "value"]
def b_p_check_place : Ss := (.cons (.iff (.no (.tr (.call 6 [0] (.v (.v 0) .nil)))) (.cons .never .nil) .nil) .nil)
/-! 8: check_number -/
abbrev N_p_check_number : List Str := [Str.ofString "value"]
abbrev A_p_check_number : List Str := [Str.ofString "value"]
def b_p_check_number : Ss := (.cons (.iff (.no (.tr (.call 3 [0, 1] (.v (.v 0) (.v (.gv 0) .nil))))) (.cons .never .nil) .nil) .nil)
/-! 9: check_numbers -/
abbrev N_p_check_numbers : List Str := [Str.ofString "values", Str.ofString "index", Str.ofString "value"]
abbrev A_p_check_numbers : List Str := [Str.ofString "values"]
def b_p_check_numbers : Ss := (.cons (.iff (.no (.tr (.bi .isi (.cons (.v 0) (.cons (.ty .tuple) .nil))))) (.cons .never .nil) .nil) (.cons (.fr (.t (.cons (.n 1) (.cons (.n 2) .nil))) (.enum (.v 0)) (.cons (.iff (.no (.tr (.call 3 [0, 1] (.v (.v 2) (.v (.gv 0) .nil))))) (.cons .never .nil) .nil) .nil)) .nil))
/-! 10: split_at -/
abbrev N_p_split_at : List Str := [Str.ofString "number", Str.ofString "prime", Str.ofString "many"]
abbrev A_p_split_at : List Str := [Str.ofString "number", Str.ofString "prime"]
def b_p_split_at : Ss := (.cons (.set 2 (.k (.int 0))) (.cons (.whl (.cmp .eq (.bop .mod (.v 0) (.v 1)) (.k (.int 0))) (.cons (.aug .fdiv 0 (.v 1)) (.cons (.aug .add 2 (.k (.int 1))) .nil))) (.cons (.ret (.tup (.cons (.v 2) (.cons (.v 0) .nil)))) .nil)))
/-! 11: power_rest -/
abbrev N_p_power_rest : List Str := [Str.ofString "base", Str.ofString "exponent", Str.ofString "modulus", Str.ofString "found"]
abbrev A_p_power_rest : List Str := [Str.ofString "base", Str.ofString "exponent", Str.ofString "modulus"]
def b_p_power_rest : Ss := (.cons (.par [3, 0] (.v (.k (.int 1)) (.v (.bop .mod (.v 0) (.v 2)) .nil))) (.cons (.whl (.cmp .gt (.v 1) (.k (.int 0))) (.cons (.iff (.cmp .eq (.bop .mod (.v 1) (.k (.int 2))) (.k (.int 1))) (.cons (.set 3 (.bop .mod (.bop .mul (.v 3) (.v 0)) (.v 2))) .nil) .nil) (.cons (.set 0 (.bop .mod (.bop .mul (.v 0) (.v 0)) (.v 2))) (.cons (.aug .fdiv 1 (.k (.int 2))) .nil)))) (.cons (.ret (.v 3)) .nil)))
/-! 12: leaves_square -/
abbrev N_p_leaves_square : List Str := [Str.ofString "number", Str.ofString "prime"]
abbrev A_p_leaves_square : List Str := [Str.ofString "number", Str.ofString "prime"]
def b_p_leaves_square : Ss := (.cons (.ret (.cmp .eq (.call 11 [0, 1, 2] (.v (.v 0) (.v (.fz (.bop .fdiv (.bop .sub (.v 1) (.k (.int 1))) (.k (.int 2)))) (.v (.v 1) .nil)))) (.k (.int 1)))) .nil)
/-! 13: is_square_at -/
abbrev N_p_is_square_at : List Str := [Str.ofString "number", Str.ofString "place", Str.ofString "many", Str.ofString "left"]
abbrev A_p_is_square_at : List Str := [Str.ofString "number", Str.ofString "place"]
def b_p_is_square_at : Ss := (.cons (.iff (.cmp .eq (.v 1) (.gv 1)) (.cons (.ret (.cmp .gt (.v 0) (.k (.int 0)))) .nil) .nil) (.cons (.asg (.t (.cons (.n 2) (.cons (.n 3) .nil))) (.call 10 [0, 1] (.v (.v 0) (.v (.v 1) .nil)))) (.cons (.iff (.cmp .eq (.bop .mod (.v 2) (.k (.int 2))) (.k (.int 1))) (.cons (.ret (.k (.bl false))) .nil) .nil) (.cons (.ret (.ite (.cmp .eq (.v 1) (.k (.int 2))) (.cmp .eq (.bop .mod (.v 3) (.k (.int 8))) (.k (.int 1))) (.call 12 [0, 1] (.v (.v 3) (.v (.v 1) .nil))))) .nil))))
/-! 14: sign_at_two -/
abbrev N_p_sign_at_two : List Str := [Str.ofString "a", Str.ofString "b", Str.ofString "many", Str.ofString "left", Str.ofString "more", Str.ofString "other", Str.ofString "odd"]
abbrev A_p_sign_at_two : List Str := [Str.ofString "a", Str.ofString "b"]
def b_p_sign_at_two : Ss := (.cons (.asg (.t (.cons (.n 2) (.cons (.n 3) .nil))) (.call 10 [0, 1] (.v (.v 0) (.v (.k (.int 2)) .nil)))) (.cons (.asg (.t (.cons (.n 4) (.cons (.n 5) .nil))) (.call 10 [0, 1] (.v (.v 1) (.v (.k (.int 2)) .nil)))) (.cons (.set 6 (.bi .int (.cons (.and (.cmp .eq (.bop .mod (.v 3) (.k (.int 4))) (.k (.int 3))) (.cmp .eq (.bop .mod (.v 5) (.k (.int 4))) (.k (.int 3)))) .nil))) (.cons (.aug .add 6 (.bop .add (.bi .int (.cons (.and (.cmp .eq (.bop .mod (.v 2) (.k (.int 2))) (.k (.int 1))) (.cmp .isin (.bop .mod (.v 5) (.k (.int 8))) (.tup (.cons (.k (.int 3)) (.cons (.k (.int 5)) .nil))))) .nil)) (.bi .int (.cons (.and (.cmp .eq (.bop .mod (.v 4) (.k (.int 2))) (.k (.int 1))) (.cmp .isin (.bop .mod (.v 3) (.k (.int 8))) (.tup (.cons (.k (.int 3)) (.cons (.k (.int 5)) .nil))))) .nil)))) (.cons (.ret (.cmp .eq (.bop .mod (.v 6) (.k (.int 2))) (.k (.int 1)))) .nil)))))
/-! 15: sign_at_odd -/
abbrev N_p_sign_at_odd : List Str := [Str.ofString "a", Str.ofString "b", Str.ofString "prime", Str.ofString "many", Str.ofString "left", Str.ofString "more", Str.ofString "other", Str.ofString "odd"]
abbrev A_p_sign_at_odd : List Str := [Str.ofString "a", Str.ofString "b", Str.ofString "prime"]
def b_p_sign_at_odd : Ss := (.cons (.asg (.t (.cons (.n 3) (.cons (.n 4) .nil))) (.call 10 [0, 1] (.v (.v 0) (.v (.v 2) .nil)))) (.cons (.asg (.t (.cons (.n 5) (.cons (.n 6) .nil))) (.call 10 [0, 1] (.v (.v 1) (.v (.v 2) .nil)))) (.cons (.set 7 (.bi .int (.cons (.and (.cmp .eq (.bop .mod (.v 3) (.k (.int 2))) (.k (.int 1))) (.and (.cmp .eq (.bop .mod (.v 5) (.k (.int 2))) (.k (.int 1))) (.cmp .eq (.bop .mod (.v 2) (.k (.int 4))) (.k (.int 3))))) .nil))) (.cons (.aug .add 7 (.bi .int (.cons (.and (.cmp .eq (.bop .mod (.v 5) (.k (.int 2))) (.k (.int 1))) (.no (.call 12 [0, 1] (.v (.v 4) (.v (.v 2) .nil))))) .nil))) (.cons (.aug .add 7 (.bi .int (.cons (.and (.cmp .eq (.bop .mod (.v 3) (.k (.int 2))) (.k (.int 1))) (.no (.call 12 [0, 1] (.v (.v 6) (.v (.v 2) .nil))))) .nil))) (.cons (.ret (.cmp .eq (.bop .mod (.v 7) (.k (.int 2))) (.k (.int 1)))) .nil))))))
/-! 16: is_odd_at -/
abbrev N_p_is_odd_at : List Str := [Str.ofString "a", Str.ofString "b", Str.ofString "place"]
abbrev A_p_is_odd_at : List Str := [Str.ofString "a", Str.ofString "b", Str.ofString "place"]
def b_p_is_odd_at : Ss := (.cons (.iff (.cmp .eq (.v 2) (.gv 1)) (.cons (.ret (.and (.cmp .lt (.v 0) (.k (.int 0))) (.cmp .lt (.v 1) (.k (.int 0))))) .nil) .nil) (.cons (.ret (.ite (.cmp .eq (.v 2) (.k (.int 2))) (.call 14 [0, 1] (.v (.v 0) (.v (.v 1) .nil))) (.call 15 [0, 1, 2] (.v (.v 0) (.v (.v 1) (.v (.v 2) .nil)))))) .nil))
/-! 17: places_for -/
abbrev N_p_places_for : List Str := [Str.ofString "numbers", Str.ofString "found", Str.ofString "number", Str.ofString "prime"]
abbrev A_p_places_for : List Str := [Str.ofString "numbers"]
def b_p_places_for : Ss := (.cons (.set 1 (.dsp [((.int 2), (.bl true))])) (.cons (.fr (.n 2) (.seq (.v 0)) (.cons (.fr (.n 3) (.seq (.call 4 [0] (.v (.fz (.bi .abs (.cons (.v 2) .nil))) .nil))) (.cons (.asg (.sub 1 (.v 3)) (.k (.bl true))) .nil)) .nil)) (.cons (.ret (.tup (.cons (.gv 1) (.star (.bi .sorted (.cons (.v 1) .nil)) .nil)))) .nil)))
/-! 18: is_square -/
abbrev N_p_is_square : List Str := [Str.ofString "number", Str.ofString "place"]
abbrev A_p_is_square : List Str := [Str.ofString "number", Str.ofString "place"]
def b_p_is_square : Ss := (.cons (.ex (.call 8 [0] (.v (.v 0) .nil))) (.cons (.ex (.call 7 [0] (.v (.v 1) .nil))) (.cons (.ret (.call 13 [0, 1] (.v (.v 0) (.v (.v 1) .nil)))) .nil)))
/-! 19: sign -/
abbrev N_p_sign : List Str := [Str.ofString "a", Str.ofString "b", Str.ofString "place"]
abbrev A_p_sign : List Str := [Str.ofString "a", Str.ofString "b", Str.ofString "place"]
def b_p_sign : Ss := (.cons (.ex (.call 8 [0] (.v (.v 0) .nil))) (.cons (.ex (.call 8 [0] (.v (.v 1) .nil))) (.cons (.ex (.call 7 [0] (.v (.v 2) .nil))) (.cons (.ret (.ite (.tr (.call 16 [0, 1, 2] (.v (.v 0) (.v (.v 1) (.v (.v 2) .nil))))) (.neg (.k (.int 1))) (.k (.int 1)))) .nil))))
/-! 20: matter -/
abbrev N_p_matter : List Str := [Str.ofString "numbers"]
abbrev A_p_matter : List Str := [Str.ofString "numbers"]
def b_p_matter : Ss := (.cons (.ex (.call 9 [0] (.v (.v 0) .nil))) (.cons (.ret (.call 17 [0] (.v (.v 0) .nil))) .nil))
/-! 21: odd_places -/
abbrev N_p_odd_places : List Str := [Str.ofString "a", Str.ofString "b", Str.ofString "place"]
abbrev A_p_odd_places : List Str := [Str.ofString "a", Str.ofString "b"]
def b_p_odd_places : Ss := (.cons (.ex (.call 8 [0] (.v (.v 0) .nil))) (.cons (.ex (.call 8 [0] (.v (.v 1) .nil))) (.cons (.ret (.bi .tuple (.cons (.comp (.v 2) (.n 2) (.seq (.call 17 [0] (.v (.tup (.cons (.v 0) (.cons (.v 1) .nil))) .nil))) (.yes (.tr (.call 16 [0, 1, 2] (.v (.v 0) (.v (.v 1) (.v (.v 2) .nil)))))) [2]) .nil))) .nil)))
/-! 22: _law_dip -/
abbrev N_l_dip : List Str := [Str.ofString "_law_jar_here", Str.ofString "_law_top", Str.ofString "_law_digit"]
abbrev A_l_dip : List Str := [Str.ofString "_law_jar_here", Str.ofString "_law_top"]
def b_l_dip : Ss := (.cons (.asg (.sub 0 (.k (.int 2))) (.bop .add (.ixb 0 (.k (.int 2))) (.k (.int 1)))) (.cons (.iff (.cmp .gt (.ixb 0 (.k (.int 0))) (.k (.int 0))) (.cons (.asg (.t (.cons (.sub 0 (.k (.int 0))) (.cons (.n 2) .nil))) (.bi .divmod (.cons (.ixb 0 (.k (.int 0))) (.cons (.v 1) .nil)))) (.cons (.ret (.v 2)) .nil)) .nil) (.cons (.asg (.sub 0 (.k (.int 1))) (.bop .mod (.bi .int (.cons (.bop .add (.bop .mul (.ixb 0 (.k (.int 1))) (.k (.int 48271))) (.bop .mul (.k (.int 60029)) (.ixb 0 (.k (.int 2))))) .nil)) (.k (.int 2147483399)))) (.cons (.ret (.bop .mod (.bi .int (.cons (.bop .fdiv (.ixb 0 (.k (.int 1))) (.k (.int 512))) .nil)) (.v 1))) .nil))))
/-! 23: _law_one_of -/
abbrev N_l_one_of : List Str := [Str.ofString "_law_jar_here", Str.ofString "_law_some"]
abbrev A_l_one_of : List Str := [Str.ofString "_law_jar_here", Str.ofString "_law_some"]
def b_l_one_of : Ss := (.cons (.ret (.ixb 1 (.call 22 [0, 1] (.ln 0 (.v (.fz (.bi .len (.cons (.v 1) .nil))) .nil))))) .nil)
/-! 24: _law_number -/
abbrev N_l_number : List Str := [Str.ofString "_law_jar_here", Str.ofString "_law_top", Str.ofString "_law_menu", Str.ofString "_law_way", Str.ofString "_law_found"]
abbrev A_l_number : List Str := [Str.ofString "_law_jar_here", Str.ofString "_law_top"]
def b_l_number : Ss := (.cons (.set 2 (.lst (.cons (.k (.int 1)) (.cons (.k (.int 2)) (.cons (.k (.int 3)) (.cons (.k (.int 5)) (.cons (.k (.int 6)) (.cons (.k (.int 7)) (.cons (.k (.int 10)) (.cons (.k (.int 11)) (.cons (.k (.int 12)) (.cons (.k (.int 13)) (.cons (.k (.int 14)) (.cons (.k (.int 15)) (.cons (.k (.int 17)) (.cons (.k (.int 18)) (.cons (.k (.int 20)) (.cons (.k (.int 21)) (.cons (.k (.int 22)) (.cons (.k (.int 30)) (.cons (.k (.int 49)) (.cons (.k (.int 75)) .nil)))))))))))))))))))))) (.cons (.set 3 (.call 22 [0, 1] (.ln 0 (.v (.k (.int 3)) .nil)))) (.cons (.set 4 (.ite (.cmp .eq (.v 3) (.k (.int 0))) (.bop .add (.k (.int 1)) (.call 22 [0, 1] (.ln 0 (.v (.v 1) .nil)))) (.call 23 [0, 1] (.ln 0 (.v (.v 2) .nil))))) (.cons (.set 4 (.ite (.cmp .le (.v 4) (.v 1)) (.v 4) (.bop .add (.k (.int 1)) (.call 22 [0, 1] (.ln 0 (.v (.v 1) .nil)))))) (.cons (.ret (.ite (.cmp .eq (.call 22 [0, 1] (.ln 0 (.v (.k (.int 2)) .nil))) (.k (.int 0))) (.v 4) (.neg (.v 4)))) .nil)))))
/-! 25: _law_primes_of -/
abbrev N_l_primes_of : List Str := [Str.ofString "_law_number_here", Str.ofString "_law_rest", Str.ofString "_law_found", Str.ofString "_law_least"]
abbrev A_l_primes_of : List Str := [Str.ofString "_law_number_here"]
def b_l_primes_of : Ss := (.cons (.par [1, 2, 3] (.v (.bi .abs (.cons (.v 0) .nil)) (.v (.lst .nil) (.v (.k (.int 2)) .nil)))) (.cons (.whl (.cmp .le (.bop .mul (.v 3) (.v 3)) (.v 1)) (.cons (.iff (.cmp .eq (.bop .mod (.bi .int (.cons (.v 1) .nil)) (.v 3)) (.k (.int 0))) (.cons (.ex (.app 2 (.v 3))) .nil) .nil) (.cons (.whl (.cmp .eq (.bop .mod (.bi .int (.cons (.v 1) .nil)) (.v 3)) (.k (.int 0))) (.cons (.set 1 (.bop .fdiv (.v 1) (.v 3))) .nil)) (.cons (.set 3 (.bop .add (.v 3) (.k (.int 1)))) .nil)))) (.cons (.ret (.ite (.cmp .gt (.v 1) (.k (.int 1))) (.bop .add (.v 2) (.lst (.cons (.v 1) .nil))) (.mv 2))) .nil)))
/-! 26: _law_places -/
abbrev N_l_places : List Str := [Str.ofString "_law_numbers", Str.ofString "_law_found", Str.ofString "_law_number_here"]
abbrev A_l_places : List Str := [Str.ofString "_law_numbers"]
def b_l_places : Ss := (.cons (.set 1 (.lst (.cons (.k (.int 2)) .nil))) (.cons (.fr (.n 2) (.seq (.v 0)) (.cons (.set 1 (.bop .add (.v 1) (.call 25 [0] (.v (.v 2) .nil)))) .nil)) (.cons (.ret (.bop .add (.lst (.cons (.k (.str (Str.ofString "real"))) .nil)) (.sset (.v 1)))) .nil)))
/-! 27: _law_split -/
abbrev N_l_split : List Str := [Str.ofString "_law_number_here", Str.ofString "_law_prime", Str.ofString "_law_many"]
abbrev A_l_split : List Str := [Str.ofString "_law_number_here", Str.ofString "_law_prime"]
def b_l_split : Ss := (.cons (.set 2 (.k (.int 0))) (.cons (.whl (.cmp .eq (.bop .mod (.bi .int (.cons (.v 0) .nil)) (.v 1)) (.k (.int 0))) (.cons (.par [0, 2] (.v (.bop .fdiv (.v 0) (.v 1)) (.v (.bop .add (.v 2) (.k (.int 1))) .nil))) .nil)) (.cons (.ret (.tup (.cons (.v 2) (.cons (.v 0) .nil)))) .nil)))
/-! 28: _law_is_rest -/
abbrev N_l_is_rest : List Str := [Str.ofString "_law_number_here", Str.ofString "_law_prime", Str.ofString "_law_found", Str.ofString "_law_base", Str.ofString "_law_many"]
abbrev A_l_is_rest : List Str := [Str.ofString "_law_number_here", Str.ofString "_law_prime"]
def b_l_is_rest : Ss := (.cons (.par [2, 3, 4] (.v (.k (.int 1)) (.v (.bop .mod (.bi .int (.cons (.v 0) .nil)) (.v 1)) (.v (.bop .fdiv (.bop .sub (.v 1) (.k (.int 1))) (.k (.int 2))) .nil)))) (.cons (.whl (.cmp .gt (.v 4) (.k (.int 0))) (.cons (.set 2 (.ite (.cmp .eq (.bop .mod (.bi .int (.cons (.v 4) .nil)) (.k (.int 2))) (.k (.int 1))) (.bop .mod (.bi .int (.cons (.bop .mul (.v 2) (.v 3)) .nil)) (.v 1)) (.v 2))) (.cons (.par [3, 4] (.v (.bop .mod (.bi .int (.cons (.bop .mul (.v 3) (.v 3)) .nil)) (.v 1)) (.v (.bop .fdiv (.v 4) (.k (.int 2))) .nil))) .nil))) (.cons (.ret (.cmp .eq (.v 2) (.k (.int 1)))) .nil)))
/-! 29: _law_sign -/
abbrev N_l_sign : List Str := [Str.ofString "_law_a", Str.ofString "_law_b", Str.ofString "_law_place", Str.ofString "_law_i", Str.ofString "_law_u", Str.ofString "_law_j", Str.ofString "_law_v", Str.ofString "_law_odd"]
abbrev A_l_sign : List Str := [Str.ofString "_law_a", Str.ofString "_law_b", Str.ofString "_law_place"]
def b_l_sign : Ss := (.cons (.iff (.cmp .eq (.v 2) (.k (.str (Str.ofString "real")))) (.cons (.ret (.ite (.and (.cmp .lt (.v 0) (.k (.int 0))) (.cmp .lt (.v 1) (.k (.int 0)))) (.neg (.k (.int 1))) (.k (.int 1)))) .nil) .nil) (.cons (.asg (.t (.cons (.t (.cons (.n 3) (.cons (.n 4) .nil))) (.cons (.t (.cons (.n 5) (.cons (.n 6) .nil))) .nil))) (.tup (.cons (.call 27 [0, 1] (.v (.v 0) (.v (.v 2) .nil))) (.cons (.call 27 [0, 1] (.v (.v 1) (.v (.v 2) .nil))) .nil)))) (.cons (.par [3, 5] (.v (.cmp .eq (.bop .mod (.bi .int (.cons (.v 3) .nil)) (.k (.int 2))) (.k (.int 1))) (.v (.cmp .eq (.bop .mod (.bi .int (.cons (.v 5) .nil)) (.k (.int 2))) (.k (.int 1))) .nil))) (.cons (.iff (.cmp .eq (.v 2) (.k (.int 2))) (.cons (.set 7 (.lst (.cons (.and (.cmp .eq (.bop .mod (.bi .int (.cons (.v 4) .nil)) (.k (.int 4))) (.k (.int 3))) (.cmp .eq (.bop .mod (.bi .int (.cons (.v 6) .nil)) (.k (.int 4))) (.k (.int 3)))) (.cons (.and (.v 3) (.cmp .isin (.bop .mod (.bi .int (.cons (.v 6) .nil)) (.k (.int 8))) (.lst (.cons (.k (.int 3)) (.cons (.k (.int 5)) .nil))))) (.cons (.and (.v 5) (.cmp .isin (.bop .mod (.bi .int (.cons (.v 4) .nil)) (.k (.int 8))) (.lst (.cons (.k (.int 3)) (.cons (.k (.int 5)) .nil))))) .nil))))) .nil) (.cons (.set 7 (.lst (.cons (.and (.v 3) (.and (.v 5) (.cmp .eq (.bop .mod (.bi .int (.cons (.v 2) .nil)) (.k (.int 4))) (.k (.int 3))))) (.cons (.and (.v 5) (.no (.call 28 [0, 1] (.v (.v 4) (.v (.v 2) .nil))))) (.cons (.and (.v 3) (.no (.call 28 [0, 1] (.v (.v 6) (.v (.v 2) .nil))))) .nil))))) .nil)) (.cons (.ret (.bop .sub (.k (.int 1)) (.bop .mul (.k (.int 2)) (.bi .int (.cons (.cmp .isin (.count (.v 7) (.k (.bl true))) (.lst (.cons (.k (.int 1)) (.cons (.k (.int 3)) .nil)))) .nil))))) .nil)))))
/-! 30: _law_is_square -/
abbrev N_l_is_square : List Str := [Str.ofString "_law_number_here", Str.ofString "_law_place", Str.ofString "_law_many", Str.ofString "_law_left"]
abbrev A_l_is_square : List Str := [Str.ofString "_law_number_here", Str.ofString "_law_place"]
def b_l_is_square : Ss := (.cons (.iff (.cmp .eq (.v 1) (.k (.str (Str.ofString "real")))) (.cons (.ret (.cmp .gt (.v 0) (.k (.int 0)))) .nil) .nil) (.cons (.asg (.t (.cons (.n 2) (.cons (.n 3) .nil))) (.call 27 [0, 1] (.v (.v 0) (.v (.v 1) .nil)))) (.cons (.iff (.cmp .eq (.bop .mod (.bi .int (.cons (.v 2) .nil)) (.k (.int 2))) (.k (.int 1))) (.cons (.ret (.k (.bl false))) .nil) .nil) (.cons (.ret (.ite (.cmp .eq (.v 1) (.k (.int 2))) (.cmp .eq (.bop .mod (.bi .int (.cons (.v 3) .nil)) (.k (.int 8))) (.k (.int 1))) (.call 28 [0, 1] (.v (.v 3) (.v (.v 1) .nil))))) .nil))))
/-! 31: _law_jar -/
abbrev N_l_jar : List Str := [Str.ofString "_law_cells", Str.ofString "_law_turn", Str.ofString "_law_cell", Str.ofString "_law_mixed", Str.ofString "_law_each"]
abbrev A_l_jar : List Str := [Str.ofString "_law_cells", Str.ofString "_law_turn"]
def b_l_jar : Ss := (.cons (.set 2 (.ite (.cmp .lt (.v 1) (.bi .len (.cons (.v 0) .nil))) (.ixb 0 (.v 1)) (.bop .add (.bop .mul (.k (.int 19)) (.v 1)) (.k (.int 3))))) (.cons (.set 3 (.bop .add (.k (.int 90011)) (.bop .mul (.k (.int 6029)) (.v 1)))) (.cons (.fr (.n 4) (.seq (.bop .add (.sl (.v 0) .no (.some (.k (.int 5)))) (.lst (.cons (.v 2) .nil)))) (.cons (.set 3 (.bop .mod (.bi .int (.cons (.bop .add (.bop .mul (.v 3) (.k (.int 24043))) (.v 4)) .nil)) (.k (.int 2147482951)))) .nil)) (.cons (.ret (.lst (.cons (.ite (.or (.cmp .lt (.v 2) (.k (.int 0))) (.cmp .ge (.v 2) (.bop .pow (.k (.int 10)) (.k (.int 18))))) (.bi .abs (.cons (.v 2) .nil)) (.k (.int 0))) (.cons (.v 3) (.cons (.k (.int 0)) .nil))))) .nil))))
/-! 32: _law_right -/
abbrev N_l_right_k02 : List Str := [Str.ofString "_law_jar_here", Str.ofString "_law_turn", Str.ofString "_law_a", Str.ofString "_law_b", Str.ofString "_law_due", Str.ofString "_law_places_here", Str.ofString "_law_place", Str.ofString "_law_told", Str.ofString "_law_odd"]
abbrev A_l_right_k02 : List Str := [Str.ofString "_law_jar_here"]
def b_l_right_k02 : Ss := (.cons (.fr (.n 1) (.rng1 (.k (.int 4))) (.cons (.set 2 (.call 23 [0, 1] (.ln 0 (.v (.fz (.lst (.cons (.call 24 [0, 1] (.ln 0 (.v (.k (.int 1000000)) .nil))) (.cons (.bop .mul (.call 24 [0, 1] (.ln 0 (.v (.k (.int 90)) .nil))) (.k (.int 11))) (.cons (.bop .mul (.call 24 [0, 1] (.ln 0 (.v (.k (.int 60)) .nil))) (.k (.int 4))) .nil))))) .nil)))) (.cons (.set 3 (.call 23 [0, 1] (.ln 0 (.v (.fz (.lst (.cons (.call 24 [0, 1] (.ln 0 (.v (.k (.int 1000)) .nil))) (.cons (.v 2) (.cons (.neg (.v 2)) (.cons (.k (.int 999983)) (.cons (.neg (.k (.int 999983))) (.cons (.bop .mul (.call 24 [0, 1] (.ln 0 (.v (.k (.int 90)) .nil))) (.k (.int 9))) .nil)))))))) .nil)))) (.cons (.set 4 (.call 26 [0] (.v (.fz (.lst (.cons (.v 2) (.cons (.v 3) .nil)))) .nil))) (.cons (.iff (.cmp .ne (.bi .repr (.cons (.lst (.cons (.call 20 [0] (.v (.tup (.cons (.v 2) (.cons (.v 3) .nil))) .nil)) (.cons (.callk 20 [0] .nil (.cons (Str.ofString "numbers") (.tup (.cons (.v 2) (.cons (.v 3) .nil))) .nil)) (.cons (.call 20 [0] (.v (.tup .nil) .nil)) .nil)))) .nil)) (.bi .repr (.cons (.bop .add (.bop .mul (.lst (.cons (.bi .tuple (.cons (.v 4) .nil)) .nil)) (.k (.int 2))) (.lst (.cons (.tup (.cons (.k (.str (Str.ofString "real"))) (.cons (.k (.int 2)) .nil))) .nil))) .nil))) (.cons (.ret (.k (.bl false))) .nil) .nil) (.cons (.set 5 (.bop .add (.v 4) (.lst (.cons (.k (.int 3)) (.cons (.k (.int 5)) (.cons (.k (.int 7)) (.cons (.k (.int 101)) (.cons (.k (.int 999979)) .nil)))))))) (.cons (.fr (.n 6) (.seq (.v 5)) (.cons (.set 7 (.lst (.cons (.call 19 [0, 1, 2] (.v (.v 2) (.v (.v 3) (.v (.v 6) .nil)))) (.cons (.callk 19 [2, 1, 0] .nil (.cons (Str.ofString "place") (.v 6) (.cons (Str.ofString "b") (.v 3) (.cons (Str.ofString "a") (.v 2) .nil)))) .nil)))) (.cons (.iff (.cmp .ne (.bi .repr (.cons (.v 7) .nil)) (.bi .repr (.cons (.bop .mul (.lst (.cons (.call 29 [0, 1, 2] (.v (.v 2) (.v (.v 3) (.v (.v 6) .nil)))) .nil)) (.k (.int 2))) .nil))) (.cons (.ret (.k (.bl false))) .nil) .nil) (.cons (.set 7 (.lst (.cons (.call 18 [0, 1] (.v (.v 2) (.v (.v 6) .nil))) (.cons (.callk 18 [1, 0] .nil (.cons (Str.ofString "place") (.v 6) (.cons (Str.ofString "number") (.v 2) .nil))) .nil)))) (.cons (.iff (.cmp .ne (.bi .repr (.cons (.v 7) .nil)) (.bi .repr (.cons (.bop .mul (.lst (.cons (.call 30 [0, 1] (.v (.v 2) (.v (.v 6) .nil))) .nil)) (.k (.int 2))) .nil))) (.cons (.ret (.k (.bl false))) .nil) .nil) .nil))))) (.cons (.set 8 (.bi .tuple (.cons (.comp (.v 6) (.n 6) (.seq (.v 4)) (.yes (.cmp .eq (.call 29 [0, 1, 2] (.v (.v 2) (.v (.v 3) (.v (.v 6) .nil)))) (.neg (.k (.int 1))))) [6]) .nil))) (.cons (.iff (.cmp .ne (.bi .repr (.cons (.lst (.cons (.call 21 [0, 1] (.v (.v 2) (.v (.v 3) .nil))) (.cons (.callk 21 [1, 0] .nil (.cons (Str.ofString "b") (.v 3) (.cons (Str.ofString "a") (.v 2) .nil))) .nil))) .nil)) (.bi .repr (.cons (.lst (.cons (.v 8) (.cons (.v 8) .nil))) .nil))) (.cons (.ret (.k (.bl false))) .nil) .nil) .nil))))))))) (.cons (.ret (.k (.bl true))) .nil))
/-! 33: law -/
abbrev N_law_k02 : List Str := [Str.ofString "_law_cells", Str.ofString "_law_turn"]
abbrev A_law_k02 : List Str := [Str.ofString "_law_cells"]
def b_law_k02 : Ss := (.cons (.ret (.bi .all (.cons (.comp (.call 32 [0] (.v (.call 31 [0, 1] (.v (.v 0) (.v (.v 1) .nil))) .nil)) (.n 1) (.rng1 (.bi .max (.cons (.k (.int 2)) (.cons (.bi .min (.cons (.bi .len (.cons (.v 0) .nil)) (.cons (.k (.int 6)) .nil))) .nil)))) .no [1]) .nil))) .nil)
end PG

set_option Elab.async false
set_option linter.all false
set_option maxRecDepth 100000
set_option maxHeartbeats 4000000
namespace PG
open PySem L2 M
section
variable {Φ : Nat → En → Res Val}
theorem gv0 : gvD[0]? = some (.int 1000000) := rfl
theorem gv1 : gvD[1]? = some (.str REAL) := rfl
theorem run_p_is_integer : ∀ e, f1 g_is_integer e ≠ .fail → runF (b_p_is_integer.ev Φ gvD) N_p_is_integer.length e = f1 g_is_integer e := by
  refine f1_run fun d v h => ?_
  unfold g_is_integer at h
  split at h
  · rename_i hd
    cases h
    simp_arith [b_p_is_integer, evE_and, isi_int hd, isi_bool hd]
    cases d <;> rfl
  · cases h
theorem run_p_is_between (P0 : Φ 0 = f1 g_is_integer) : ∀ e, f3 g_is_between e ≠ .fail → runF (b_p_is_between.ev Φ gvD) N_p_is_between.length e = f3 g_is_between e := by
  refine f3_run fun d l u v h => ?_
  unfold g_is_between at h
  split at h
  · split at h
    · rename_i l u hd
      cases h
      have e0 : f1 g_is_integer [some (.p d)] = .ok (.p (.bl (isInt d))) [none] := f1_ev (by simp [g_is_integer, hd])
      simp_arith [b_p_is_between, evE_and, P0, e0]
      cases d <;> simp_arith [isInt, inR]
      rename_i i
      by_cases c : l ≤ i <;> simp_arith [c]
    · cases h
  · cases h
theorem run_p_is_one_of : ∀ e, f2 g_is_one_of e ≠ .fail → runF (b_p_is_one_of.ev Φ gvD) N_p_is_one_of.length e = f2 g_is_one_of e := by
  refine f2_run fun d ns v h => ?_
  unfold g_is_one_of at h
  split at h
  · split at h
    · split at h
      · rename_i xs rs hrs hd
        cases h
        have e := strsD_eq hrs
        subst e
        simp_arith [b_p_is_one_of, evE_and, isi_str hd]
        cases d <;> simp_arith [in_strs]
      · cases h
    · cases h
  · cases h
theorem run_p_is_number (P1 : Φ 1 = f3 g_is_between) : ∀ e, f2 g_is_number e ≠ .fail → runF (b_p_is_number.ev Φ gvD) N_p_is_number.length e = f2 g_is_number e := by
  refine f2_run fun d m v h => ?_
  unfold g_is_number at h
  split at h
  · split at h
    · rename_i m hd
      cases h
      have e0 : f3 g_is_between [some (.p d), some (.p (.int (-m))), some (.p (.int m))] = .ok (.p (.bl (inR d (-m) m))) [none, none, none] := f3_ev (by simp [g_is_between, hd])
      simp_arith [b_p_is_number, evE_and, P1, negS, e0]
      cases d <;> simp_arith [inR, numOk]
      rename_i i
      by_cases c : -m ≤ i <;> by_cases c2 : i ≤ m <;> simp_arith [c, c2, eqS]
    · cases h
  · cases h
def stA (n l : Nat) (acc : List Nat) : En := [some (.p (.int (n : Int))), some (.own 0 (natsD acc)), some (.p (.int (l : Int)))]
abbrev cA : T := .cmp .le (.bop .mul (.v 2) (.v 2)) (.v 0)
abbrev ciA : T := .cmp .eq (.bop .mod (.v 0) (.v 2)) (.k (.int 0))
abbrev biA : Ss := .cons (.aug .fdiv 0 (.v 2)) .nil
abbrev bA : Ss := .cons (.iff ciA (.cons (.ex (.app 1 (.v 2))) (.cons (.whl ciA biA) .nil)) .nil) (.cons (.aug .add 2 (.k (.int 1))) .nil)
theorem cA_ev (n l : Nat) (acc : List Nat) (ok : okT n l acc) : T.ev Φ gvD cA (stA n l acc) = .ok (decide (l * l ≤ n)) (stA n l acc) := by
  have : (l : Int).natAbs < 2 ^ 64 := by have := ok.2.2.2.1; omega
  simp_arith [cA, stA, mul_64 this this]
  norm_cast
theorem ciA_ev0 (n l : Nat) (X : Option Val) (hl : 2 ≤ l) : T.ev Φ gvD ciA [some (.p (.int (n : Int))), X, some (.p (.int (l : Int)))] = .ok (decide (n % l = 0)) [some (.p (.int (n : Int))), X, some (.p (.int (l : Int)))] := by
  simp_arith [mod_pos (show (0 : Int) < (l : Int) by omega), modB]
theorem ciA_ev (n l : Nat) (acc : List Nat) (hl : 2 ≤ l) : T.ev Φ gvD ciA (stA n l acc) = .ok (decide (n % l = 0)) (stA n l acc) := ciA_ev0 n l _ hl
theorem iA_ev (n l : Nat) (acc : List Nat) (h0 : 0 < n) (hB : n < BIG) (hl : 2 ≤ l) (hl2 : l ≤ 40000) : whileC (T.ev Φ gvD ciA) (Ss.ev Φ gvD biA) (stA n l acc) = .ok .nx (stA (strip n l) l acc) := by
  refine (strip_loop (st := fun n => stA n l acc) hl (fun n h0 hB => ciA_ev n l acc hl) (fun n h0 hB => ?_) n n h0 (Nat.le_refl _) hB).1
  simp_arith [biA, stA, iopS, show CDiv (n : Int) (l : Int) from ⟨by omega, by omega⟩, ndiv]
theorem bA_ev (n l : Nat) (acc : List Nat) (ok : okT n l acc) (hl : l * l ≤ n) : Ss.ev Φ gvD bA (stA n l acc) = .ok .nx (if n % l = 0 then stA (strip n l) (l + 1) (acc ++ [l]) else stA n (l + 1) acc) := by
  obtain ⟨h1, h2, h3, h4, h5⟩ := ok
  have hw := iA_ev (Φ := Φ) n l (acc ++ [l]) h1 h2 h3 h4
  have hc := ciA_ev (Φ := Φ) n l acc h3
  simp only [bA, evSs_cons, evS_iff, hc, bind_ok]
  by_cases hd : n % l = 0
  · simp only [hd, decide_true, if_true]
    simp only [stA] at hw ⊢
    simp_arith [appE, appS, natsD_len, natsD_snoc, hw, iopS, lt_SZ (show acc.length ≤ 1000000 by omega)]
    rfl
  · simp_arith [hd, stA, iopS]
    rfl
theorem run_p_divisors_of : ∀ e, f1 g_divisors e ≠ .fail → runF (b_p_divisors_of.ev Φ gvD) N_p_divisors_of.length e = f1 g_divisors e := by
  refine f1_run fun d v h => ?_
  unfold g_divisors at h
  split at h
  · split at h
    · rename_i i hi
      cases h
      obtain ⟨n, rfl⟩ := Int.eq_ofNat_of_zero_le (Int.le_of_lt hi.1)
      have hB : n < BIG := hi.2
      have hz : 0 < n := by omega
      simp only [Int.toNat_natCast]
      obtain ⟨l', h1, h2⟩ := trial_loop (cA_ev (Φ := Φ)) (bA_ev (Φ := Φ)) n n 2 [] ⟨hz, hB, by omega, by omega, by simp⟩ (by omega)
      simp only [stA, natsD_nil, show ((2 : Nat) : Int) = (2 : Int) from rfl, cA, bA, ciA, biA] at h1
      have hlen := h2.2.2.2.2
      have hl4 := h2.2.2.2.1
      simp_arith [b_p_divisors_of, lstS, h1]
      by_cases hr : 1 < (trialF n n 2 []).1
      · simp_arith [trial, hr, natsD_snoc, itemsS, lstS, natsD_len, show (1 : Int) < ((trialF n n 2 []).1 : Int) by omega, le_SZ (show (trialF n n 2 []).2.length + 1 ≤ 1000000 by omega)]
      · simp_arith [trial, hr, show ¬ (1 : Int) < ((trialF n n 2 []).1 : Int) by omega]
    · cases h
  · cases h
theorem run_p_is_prime (P1 : Φ 1 = f3 g_is_between) (P4 : Φ 4 = f1 g_divisors) : ∀ e, f1 g_is_prime e ≠ .fail → runF (b_p_is_prime.ev Φ gvD) N_p_is_prime.length e = f1 g_is_prime e := by
  refine f1_run fun d v h => ?_
  unfold g_is_prime at h
  split at h
  · rename_i hd
    cases h
    have e0 : f3 g_is_between [some (.p d), some (.p (.int 2)), some (.p (.int (1000000 - 1)))] = .ok (.p (.bl (inR d 2 999999))) [none, none, none] := f3_ev (by simp [g_is_between, hd])
    cases hr : inR d 2 999999 with
    | false =>
      simp_arith [b_p_is_prime, evE_and, P1, gv0, gv1, subS, e0, hr]
      have : prOk d = false := by
        cases d <;> simp [inR, prOk, isPr] at hr ⊢
        intro a b; omega
      rw [this]
    | true =>
      cases d <;> simp [inR] at hr
      rename_i i
      obtain ⟨n, rfl⟩ := Int.eq_ofNat_of_zero_le (show 0 ≤ i by omega)
      have e1 : f1 g_divisors [some (.p (.int (n : Int)))] = .ok (.own 0 (natsD (trial n))) [none] := f1_ev (by
        show (if 0 < (n : Int) ∧ ((n : Int)).toNat < BIG then some (Val.own 0 (natsD (trial (n : Int).toNat))) else none) = _
        rw [if_pos ⟨by omega, by unfold BIG; omega⟩]; rfl)
      simp_arith [b_p_is_prime, evE_and, P1, P4, gv0, gv1, subS, e0, inR, e1, hr.1, hr.2, lstS, show 1 ≤ SZ from by decide, show [D.int (n : Int)] = natsD [n] from rfl, eq_nats, natsD_len, prOk, isPr, Int.toNat_natCast]
  · cases h
theorem run_p_is_place (P2 : Φ 2 = f2 g_is_one_of) (P5 : Φ 5 = f1 g_is_prime) : ∀ e, f1 g_is_place e ≠ .fail → runF (b_p_is_place.ev Φ gvD) N_p_is_place.length e = f1 g_is_place e := by
  refine f1_run fun d v h => ?_
  unfold g_is_place at h
  split at h
  · rename_i hd
    cases h
    have e0 : f2 g_is_one_of [some (.p d), some (.p (.tup [.str REAL]))] = .ok (.p (.bl (match d with | .str x => REAL == x | _ => false))) [none, none] := f2_ev (by cases d <;> simp [g_is_one_of, strsD, hd])
    have e1 : f1 g_is_prime [some (.p d)] = .ok (.p (.bl (prOk d))) [none] := f1_ev (by simp [g_is_prime, hd])
    simp_arith [b_p_is_place, evE_or, P2, P5, gv0, gv1, tupS, show 1 ≤ SZ from by decide, show Str.ofString "real" = REAL from rfl, e0, e1]
    cases d <;> simp_arith [prOk, plOk]
    rename_i x
    by_cases hx : (REAL == x) = true
    · simp_arith [hx]
    · simp_arith [show (REAL == x) = false by simpa using hx]
  · cases h
theorem run_p_check_place (P6 : Φ 6 = f1 g_is_place) : ∀ e, f1 g_check_place e ≠ .fail → runF (b_p_check_place.ev Φ gvD) N_p_check_place.length e = f1 g_check_place e := by
  refine f1_run fun d v h => ?_
  unfold g_check_place at h
  split at h
  · rename_i hd
    cases h
    have e1 : f1 g_is_place [some (.p d)] = .ok (.p (.bl (plOk d))) [none] := f1_ev (by simp [g_is_place, hd.1])
    simp_arith [b_p_check_place, P6, e1, hd.2]
  · cases h
theorem run_p_check_number (P3 : Φ 3 = f2 g_is_number) : ∀ e, f1 g_check_number e ≠ .fail → runF (b_p_check_number.ev Φ gvD) N_p_check_number.length e = f1 g_check_number e := by
  refine f1_run fun d v h => ?_
  unfold g_check_number at h
  split at h
  · rename_i hd
    cases h
    have e1 : f2 g_is_number [some (.p d), some (.p (.int 1000000))] = .ok (.p (.bl (numOk d 1000000))) [none, none] := f2_ev (by simp [g_is_number, hd.1])
    simp_arith [b_p_check_number, P3, gv0, gv1, e1, hd.2]
  · cases h
theorem run_p_check_numbers (P3 : Φ 3 = f2 g_is_number) : ∀ e, f1 g_check_numbers e ≠ .fail → runF (b_p_check_numbers.ev Φ gvD) N_p_check_numbers.length e = f1 g_check_numbers e := by
  refine f1_run fun d v h => ?_
  unfold g_check_numbers at h
  split at h
  · split at h
    · rename_i xs hx
      cases h
      have lp : ∀ (xs : List D) (k : Nat) (d : D) (p q : Option Val), (xs.all fun x => okD x && numOk x 1000000) = true → ∃ p' q', forS (Tg.ev Φ gvD (.t (.cons (.n 1) (.cons (.n 2) .nil)))) (Ss.ev Φ gvD (.cons (.iff (.no (.tr (.call 3 [0, 1] (.v (.v 2) (.v (.gv 0) .nil))))) (.cons .never .nil) .nil) .nil)) (enumS k xs) [some (.p d), p, q] = .ok .nx [some (.p d), p', q'] := by
        intro xs
        induction xs with
        | nil => intro k d p q _; exact ⟨p, q, rfl⟩
        | cons x xs ih =>
          intro k d p q h
          rw [List.all_cons, Bool.and_eq_true, Bool.and_eq_true] at h
          obtain ⟨p', q', hi⟩ := ih (k + 1) d (some (.p (.int (k : Int)))) (some (.p x)) h.2
          have e1 : f2 g_is_number [some (.p x), some (.p (.int 1000000))] = .ok (.p (.bl (numOk x 1000000))) [none, none] := f2_ev (by simp [g_is_number, h.1.1])
          refine ⟨p', q', ?_⟩
          rw [enumS]
          simp_arith [forS_cons, P3, gv0, gv1, e1, h.1.2]
          exact hi
      obtain ⟨p', q', hl⟩ := lp xs 0 (.tup xs) none none hx
      simp_arith [b_p_check_numbers, isi_tup (d := .tup xs) rfl, itemsS, hl]
    · cases h
  · cases h
theorem run_p_split_at : ∀ e, f2 g_split e ≠ .fail → runF (b_p_split_at.ev Φ gvD) N_p_split_at.length e = f2 g_split e := by
  refine f2_run fun a p v h => ?_
  unfold g_split at h
  split at h
  · split at h
    · rename_i a p hk
      cases h
      simp only [okA, Bool.and_eq_true, decide_eq_true_eq] at hk
      obtain ⟨⟨⟨h1, h2⟩, h3⟩, h4⟩ := hk
      have lp := split_loop (st := fun a m => [some (.p (.int a)), some (.p (.int p)), some (.p (.int (m : Int)))]) (c := T.ev Φ gvD (.cmp .eq (.bop .mod (.v 0) (.v 1)) (.k (.int 0)))) (b := Ss.ev Φ gvD (.cons (.aug .fdiv 0 (.v 1)) (.cons (.aug .add 2 (.k (.int 1))) .nil))) h2
        (fun a m _ _ => by simp_arith [mod_pos (show (0 : Int) < p by omega)]) (fun a m _ _ => by simp_arith [iopS, show CDiv a p from ⟨by omega, by omega⟩]; rfl) a.natAbs a 0 h1 (Nat.le_refl _) (by unfold BIG; omega)
      simp only [show ((0 : Nat) : Int) = (0 : Int) from rfl] at lp
      simp_arith [b_p_split_at, lp, tupS, show 2 ≤ SZ from by decide, split]
    · cases h
  · cases h
theorem okB {b p : Int} (h : okP b p = true) : 2 ≤ p ∧ p < 1000000000 ∧ b.natAbs < 1000000000 := by
  simpa [okP, and_assoc] using h
theorem run_p_power_rest : ∀ e, f3 g_power_rest e ≠ .fail → runF (b_p_power_rest.ev Φ gvD) N_p_power_rest.length e = f3 g_power_rest e := by
  refine f3_run fun b m p v h => ?_
  unfold g_power_rest at h
  split at h
  · split at h
    · rename_i b m p hk
      cases h
      obtain ⟨h1, h2, h3⟩ := okB hk.1
      obtain ⟨m, rfl⟩ := Int.eq_ofNat_of_zero_le hk.2.1
      have b64 : ∀ {x : Int}, x.natAbs < BIG → x.natAbs < 2 ^ 64 := fun h => by unfold BIG at h; omega
      obtain ⟨x', m', lp⟩ := pow_loop (st := fun f x m => [some (.p (.int x)), some (.p (.int (m : Int))), some (.p (.int p)), some (.p (.int f))]) (c := T.ev Φ gvD (.cmp .gt (.v 1) (.k (.int 0)))) (b := Ss.ev Φ gvD (.cons (.iff (.cmp .eq (.bop .mod (.v 1) (.k (.int 2))) (.k (.int 1))) (.cons (.set 3 (.bop .mod (.bop .mul (.v 3) (.v 0)) (.v 2))) .nil) .nil) (.cons (.set 0 (.bop .mod (.bop .mul (.v 0) (.v 0)) (.v 2))) (.cons (.aug .fdiv 1 (.k (.int 2))) .nil)))) h1 h2
        (fun f x m _ _ => by simp_arith [show decide ((0 : Int) < (m : Int)) = decide (0 < m) from decide_eq_decide.mpr (by omega)])
        (fun f x m ok _ _ => by
          have hp : (0 : Int) < p := by omega
          by_cases hm : m % 2 = 1
          · simp_arith [mod_pos (show (0 : Int) < 2 by decide), mod_pos hp, show ((m : Int) % 2 = 1) = True from eq_true (by omega), mul_64 (b64 ok.1) (b64 ok.2), mul_64 (b64 ok.2) (b64 ok.2), iopS, show CDiv (m : Int) 2 from ⟨by decide, by decide⟩, hm]
            rfl
          · simp_arith [mod_pos (show (0 : Int) < 2 by decide), mod_pos hp, show ((m : Int) % 2 = 1) = False from eq_false (by omega), mul_64 (b64 ok.2) (b64 ok.2), iopS, show CDiv (m : Int) 2 from ⟨by decide, by decide⟩, hm]
            rfl)
        (m + 1) 1 (b % p) m ⟨by unfold BIG; decide, mod_big h1 h2⟩ (by omega) (by unfold BIG; omega)
      simp_arith [b_p_power_rest, mod_pos (show (0 : Int) < p by omega), lp, powR, Int.toNat_natCast]
    · cases h
  · cases h
theorem run_p_leaves_square (P11 : Φ 11 = f3 g_power_rest) : ∀ e, f2 g_leaves e ≠ .fail → runF (b_p_leaves_square.ev Φ gvD) N_p_leaves_square.length e = f2 g_leaves e := by
  refine f2_run fun b p v h => ?_
  unfold g_leaves at h
  split at h
  · split at h
    · rename_i b p hk
      cases h
      obtain ⟨h1, h2, h3⟩ := okB hk
      have e1 : f3 g_power_rest [some (.p (.int b)), some (.p (.int ((p - 1) / 2))), some (.p (.int p))] = .ok (.p (.int (powR b ((p - 1) / 2).toNat p))) [none, none, none] := f3_ev (by
        show (if _ then _ else _) = _
        rw [if_pos ⟨hk, by omega, by omega⟩])
      simp_arith [b_p_leaves_square, P11, subS, fdiv_pos (show (0 : Int) < 2 by decide) (show (2 : Int) < 1073741824 by decide), e1, lea]
    · cases h
  · cases h
theorem sp_ev {a p : Int} (h : okA a p = true) : f2 g_split [some (.p (.int a)), some (.p (.int p))] = .ok (.p (.tup [.int (split a p).1, .int (split a p).2])) [none, none] := f2_ev (by
  show (if okA a p = true then _ else _) = _
  rw [if_pos h])
theorem le_ev {b p : Int} (h : okP b p = true) : f2 g_leaves [some (.p (.int b)), some (.p (.int p))] = .ok (.p (.bl (lea b p))) [none, none] := f2_ev (by
  show (if okP b p = true then _ else _) = _
  rw [if_pos h])
theorem run_p_is_square_at (P10 : Φ 10 = f2 g_split) (P12 : Φ 12 = f2 g_leaves) : ∀ e, f2 g_sq_at e ≠ .fail → runF (b_p_is_square_at.ev Φ gvD) N_p_is_square_at.length e = f2 g_sq_at e := by
  refine f2_run fun a pl v h => ?_
  unfold g_sq_at at h
  split at h
  · split at h
    · rename_i a hk
      cases h
      cases pl <;> simp only [plA, Bool.false_eq_true] at hk
      · rename_i p
        simp_arith [b_p_is_square_at, gv1, P10, sp_ev hk, mod_pos (show (0 : Int) < 2 by decide), parP]
        by_cases hm : (split a p).1 % 2 = 1
        · simp_arith [hm, sqAt]
        · by_cases hp : p = 2
          · subst hp
            simp_arith [hm, sqAt, mod_pos (show (0 : Int) < 8 by decide)]
          · simp_arith [hm, hp, sqAt, P12, le_ev (okP_split hk)]
      · rename_i x
        have hx : x = REAL := (by simpa using hk : REAL = x).symm
        subst hx
        simp_arith [b_p_is_square_at, gv1, sqAt]
    · cases h
  · cases h
theorem i2 : (0 : Int) < 2 := by decide
theorem i4 : (0 : Int) < 4 := by decide
theorem i8 : (0 : Int) < 8 := by decide
theorem run_p_sign_at_two (P10 : Φ 10 = f2 g_split) : ∀ e, f2 g_two e ≠ .fail → runF (b_p_sign_at_two.ev Φ gvD) N_p_sign_at_two.length e = f2 g_two e := by
  refine f2_run fun a b v h => ?_
  unfold g_two at h
  split at h
  · split at h
    · rename_i a b hk
      cases h
      have e1 : ∀ (i j : Nat) (u w : Int) (X : Option Val), (E.and (.cmp .eq (.bop .mod (.v 3) (.k (.int 4))) (.k (.int 3))) (.cmp .eq (.bop .mod (.v 5) (.k (.int 4))) (.k (.int 3)))).ev Φ gvD [some (.p (.int a)), some (.p (.int b)), some (.p (.int i)), some (.p (.int u)), some (.p (.int j)), some (.p (.int w)), X] = .ok (.p (.bl (decide (u % 4 = 3) && decide (w % 4 = 3)))) [some (.p (.int a)), some (.p (.int b)), some (.p (.int i)), some (.p (.int u)), some (.p (.int j)), some (.p (.int w)), X] :=
        fun i j u w X => and_bb (by simp_arith [mod_pos i4]) (by simp_arith [mod_pos i4])
      have e2 : ∀ (i j : Nat) (u w : Int) (X : Option Val), (E.and (.cmp .eq (.bop .mod (.v 2) (.k (.int 2))) (.k (.int 1))) (.cmp .isin (.bop .mod (.v 5) (.k (.int 8))) (.tup (.cons (.k (.int 3)) (.cons (.k (.int 5)) .nil))))).ev Φ gvD [some (.p (.int a)), some (.p (.int b)), some (.p (.int i)), some (.p (.int u)), some (.p (.int j)), some (.p (.int w)), X] = .ok (.p (.bl (decide (i % 2 = 1) && r35 w))) [some (.p (.int a)), some (.p (.int b)), some (.p (.int i)), some (.p (.int u)), some (.p (.int j)), some (.p (.int w)), X] :=
        fun i j u w X => and_bb (by simp_arith [mod_pos i2, par2]) (by simp_arith [mod_pos i8, tupS, show 2 ≤ SZ from by decide, in35])
      have e3 : ∀ (i j : Nat) (u w : Int) (X : Option Val), (E.and (.cmp .eq (.bop .mod (.v 4) (.k (.int 2))) (.k (.int 1))) (.cmp .isin (.bop .mod (.v 3) (.k (.int 8))) (.tup (.cons (.k (.int 3)) (.cons (.k (.int 5)) .nil))))).ev Φ gvD [some (.p (.int a)), some (.p (.int b)), some (.p (.int i)), some (.p (.int u)), some (.p (.int j)), some (.p (.int w)), X] = .ok (.p (.bl (decide (j % 2 = 1) && r35 u))) [some (.p (.int a)), some (.p (.int b)), some (.p (.int i)), some (.p (.int u)), some (.p (.int j)), some (.p (.int w)), X] :=
        fun i j u w X => and_bb (by simp_arith [mod_pos i2, par2]) (by simp_arith [mod_pos i8, tupS, show 2 ≤ SZ from by decide, in35])
      simp_arith [b_p_sign_at_two, P10, sp_ev hk.1, sp_ev hk.2, e1, e2, e3, orB, intS_b, addS, iopS, mod_pos i2, odd2_ev, two]
    · cases h
  · cases h
theorem run_p_sign_at_odd (P10 : Φ 10 = f2 g_split) (P12 : Φ 12 = f2 g_leaves) : ∀ e, f3 g_odd e ≠ .fail → runF (b_p_sign_at_odd.ev Φ gvD) N_p_sign_at_odd.length e = f3 g_odd e := by
  refine f3_run fun a b p v h => ?_
  unfold g_odd at h
  split at h
  · split at h
    · rename_i a b p hk
      cases h
      have l1 := le_ev (okP_split hk.1)
      have l2 := le_ev (okP_split hk.2)
      generalize hi : (split a p).1 = i at *
      generalize hu : (split a p).2 = u at *
      generalize hj : (split b p).1 = j at *
      generalize hw : (split b p).2 = w at *
      have e1 : ∀ X : Option Val, (E.and (.cmp .eq (.bop .mod (.v 3) (.k (.int 2))) (.k (.int 1))) (.and (.cmp .eq (.bop .mod (.v 5) (.k (.int 2))) (.k (.int 1))) (.cmp .eq (.bop .mod (.v 2) (.k (.int 4))) (.k (.int 3))))).ev Φ gvD [some (.p (.int a)), some (.p (.int b)), some (.p (.int p)), some (.p (.int i)), some (.p (.int u)), some (.p (.int j)), some (.p (.int w)), X] = .ok (.p (.bl (decide (i % 2 = 1) && (decide (j % 2 = 1) && decide (p % 4 = 3))))) [some (.p (.int a)), some (.p (.int b)), some (.p (.int p)), some (.p (.int i)), some (.p (.int u)), some (.p (.int j)), some (.p (.int w)), X] :=
        fun X => and_bb (by simp_arith [mod_pos i2, par2]) (and_bb (by simp_arith [mod_pos i2, par2]) (by simp_arith [mod_pos i4]))
      have e2 : ∀ X : Option Val, (E.and (.cmp .eq (.bop .mod (.v 5) (.k (.int 2))) (.k (.int 1))) (.no (.call 12 [0, 1] (.v (.v 4) (.v (.v 2) .nil))))).ev Φ gvD [some (.p (.int a)), some (.p (.int b)), some (.p (.int p)), some (.p (.int i)), some (.p (.int u)), some (.p (.int j)), some (.p (.int w)), X] = .ok (.p (.bl (decide (j % 2 = 1) && !lea u p))) [some (.p (.int a)), some (.p (.int b)), some (.p (.int p)), some (.p (.int i)), some (.p (.int u)), some (.p (.int j)), some (.p (.int w)), X] :=
        fun X => and_bb (by simp_arith [mod_pos i2, par2]) (by simp_arith [P12, l1])
      have e3 : ∀ X : Option Val, (E.and (.cmp .eq (.bop .mod (.v 3) (.k (.int 2))) (.k (.int 1))) (.no (.call 12 [0, 1] (.v (.v 6) (.v (.v 2) .nil))))).ev Φ gvD [some (.p (.int a)), some (.p (.int b)), some (.p (.int p)), some (.p (.int i)), some (.p (.int u)), some (.p (.int j)), some (.p (.int w)), X] = .ok (.p (.bl (decide (i % 2 = 1) && !lea w p))) [some (.p (.int a)), some (.p (.int b)), some (.p (.int p)), some (.p (.int i)), some (.p (.int u)), some (.p (.int j)), some (.p (.int w)), X] :=
        fun X => and_bb (by simp_arith [mod_pos i2, par2]) (by simp_arith [P12, l2])
      simp_arith [b_p_sign_at_odd, P10, sp_ev hk.1, sp_ev hk.2, hi, hu, hj, hw, e1, e2, e3, orB, intS_b, addS, iopS, mod_pos i2, odd2_ev', odd, Bool.and_assoc]
    · cases h
  · cases h
theorem run_p_is_odd_at (P14 : Φ 14 = f2 g_two) (P15 : Φ 15 = f3 g_odd) : ∀ e, f3 g_odd_at e ≠ .fail → runF (b_p_is_odd_at.ev Φ gvD) N_p_is_odd_at.length e = f3 g_odd_at e := by
  refine f3_run fun a b pl v h => ?_
  unfold g_odd_at at h
  split at h
  · split at h
    · rename_i a b hk
      cases h
      cases pl <;> simp only [plA, Bool.false_eq_true, false_and] at hk
      · rename_i p
        by_cases hp : p = 2
        · subst hp
          have e1 : f2 g_two [some (.p (.int a)), some (.p (.int b))] = .ok (.p (.bl (two a b))) [none, none] := f2_ev (by show (if _ then _ else _) = _; rw [if_pos hk])
          simp_arith [b_p_is_odd_at, gv1, P14, e1, oddAt]
        · have e1 : f3 g_odd [some (.p (.int a)), some (.p (.int b)), some (.p (.int p))] = .ok (.p (.bl (odd a b p))) [none, none, none] := f3_ev (by show (if _ then _ else _) = _; rw [if_pos hk])
          simp_arith [b_p_is_odd_at, gv1, P15, e1, oddAt, hp]
      · rename_i x
        have hx : x = REAL := (by simpa using hk : REAL = x).symm
        subst hx
        have e1 : (E.and (.cmp .lt (.v 0) (.k (.int 0))) (.cmp .lt (.v 1) (.k (.int 0)))).ev Φ gvD [some (.p (.int a)), some (.p (.int b)), some (.p (.str REAL))] = .ok (.p (.bl (decide (a < 0) && decide (b < 0)))) [some (.p (.int a)), some (.p (.int b)), some (.p (.str REAL))] := and_bb (by simp_arith []) (by simp_arith [])
        simp_arith [b_p_is_odd_at, gv1, e1, oddAt]
    · cases h
  · cases h
end
end PG

set_option Elab.async false
set_option linter.all false
set_option maxRecDepth 100000
set_option maxHeartbeats 4000000
namespace PG
open PySem L2 M
section
variable {Φ : Nat → En → Res Val}
/-! ### the places -/
def stP (d : D) (ks : List Int) (x p : Option Val) : En := [some (.p d), some (.od 0 (ks.map Sum.inl) (List.replicate ks.length (.bl true))), x, p]
theorem pl_one (d : D) (x : Option Val) : ∀ (qs : List Int) (ks : List Int) (p : Option Val), ks.Nodup → ks.length + qs.length ≤ 1000 → ∃ p', forS (Tg.ev Φ gvD (.n 3)) (Ss.ev Φ gvD (.cons (.asg (.sub 1 (.v 3)) (.k (.bl true))) .nil)) (qs.map D.int) (stP d ks x p) = .ok .nx (stP d (addKs ks qs) x p')
  | [], ks, p, _, _ => ⟨p, rfl⟩
  | q :: qs, ks, p, hn, hl => by
    have hl' : ks.length + (qs.length + 1) ≤ 1000 := hl
    have hnd : (ks.map (Sum.inl : Int → Key)).Nodup := List.Pairwise.map _ (fun a b h e => h (Sum.inl.inj e)) hn
    obtain ⟨p', h⟩ := pl_one d x qs (addK ks q) (some (.p (.int q))) (addK_nd hn) (by have := addK_len (ks := ks) (k := q); omega)
    refine ⟨p', ?_⟩
    rw [List.map_cons]
    simp only [stP] at h ⊢
    simp_arith [forS_cons, subT, setS, M.keyOf, Option.bind_some, List.length_map, List.length_replicate, hnd, lt_SZ (show ks.length ≤ 1000000 by omega), putD_add]
    exact h
theorem pl_all (P4 : Φ 4 = f1 g_divisors) (d : D) : ∀ (ns : List Int) (ks : List Int) (x p : Option Val), ks.Nodup → ns.all okN = true → ks.length + 9 * ns.length ≤ 1000 → ∃ x' p', forS (Tg.ev Φ gvD (.n 2)) (Ss.ev Φ gvD (.cons (.fr (.n 3) (.seq (.call 4 [0] (.v (.fz (.bi .abs (.cons (.v 2) .nil))) .nil))) (.cons (.asg (.sub 1 (.v 3)) (.k (.bl true))) .nil)) .nil)) (ns.map D.int) (stP d ks x p) = .ok .nx (stP d (addAll ks ns) x' p')
  | [], ks, x, p, _, _, _ => ⟨x, p, rfl⟩
  | n :: ns, ks, x, p, hn, ho, hl => by
    have hl' : ks.length + 9 * (ns.length + 1) ≤ 1000 := hl
    rw [List.all_cons, Bool.and_eq_true] at ho
    obtain ⟨h1, h2⟩ := okN_of ho.1
    have h3 := tri_len ho.1
    obtain ⟨k1, k2, k3⟩ := addKs_ok (qs := tri n) hn
    obtain ⟨p1, e1⟩ := pl_one (Φ := Φ) d (some (.p (.int n))) (tri n) ks p hn (by omega)
    obtain ⟨x', p', h⟩ := pl_all P4 d ns (addKs ks (tri n)) (some (.p (.int n))) p1 k1 ho.2 (by omega)
    refine ⟨x', p', ?_⟩
    rw [List.map_cons]
    have e2 : f1 g_divisors [some (.p (.int (if n < 0 then -n else n)))] = .ok (.own 0 ((tri n).map D.int)) [none] := f1_ev (by
      have ea : (if n < 0 then -n else n) = (n.natAbs : Int) := by split <;> omega
      rw [ea]
      show (if 0 < (n.natAbs : Int) ∧ ((n.natAbs : Int)).toNat < BIG then some (Val.own 0 (natsD (trial (n.natAbs : Int).toNat))) else none) = _
      rw [if_pos ⟨by omega, by unfold BIG; omega⟩, Int.toNat_natCast, natsD_ints]; rfl)
    simp only [stP] at h e1 ⊢
    simp_arith [forS_cons, absS, P4, e2, walkS, e1]
    exact h
theorem seqI_eq {d : D} {ns : List Int} (h : seqI d = some ns) : d = .tup (ns.map D.int) ∨ d = .lst (ns.map D.int) := by
  unfold seqI at h
  split at h
  · exact .inl (by rw [intsD_eq h])
  · exact .inr (by rw [intsD_eq h])
  · cases h
theorem run_p_places_for (P4 : Φ 4 = f1 g_divisors) : ∀ e, f1 g_placesL e ≠ .fail → runF (b_p_places_for.ev Φ gvD) N_p_places_for.length e = f1 g_placesL e := by
  refine f1_run fun d v h => ?_
  unfold g_placesL at h
  split at h
  · split at h
    · rename_i ns hx hk
      cases h
      rcases seqI_eq hx with e | e <;> subst e
      · obtain ⟨x', p', h⟩ := pl_all P4 (.tup (ns.map D.int)) ns [2] none none (by simp) hk.1 (by simp; omega)
        obtain ⟨h1, h2, h3⟩ := addAll_ok (ns := ns) (ks := [2]) (by simp) hk.1
        simp only [stP, List.map_cons, List.map_nil, List.length_cons, List.length_nil, List.replicate_succ, List.replicate_zero] at h
        have hl : (addAll [2] ns).length < 64 := by simp at h2; omega
        have hl2 : (plS ns).length ≤ 1000 := by rw [← places_eq hk.1, (sortI_perm _).length_eq]; omega
        simp_arith [b_p_places_for, dispS, dispK, KD.key, show ([Sum.inl 2] : List Key).Nodup ∧ [((KD.int 2), (KD.bl true))].length ≤ 15 ∧ [((KD.int 2), (KD.bl true))] ≠ [] from ⟨by simp, by decide, by simp⟩, walkS, h, gv1, orB, sortS, sortDS, keysI_map, hl, places_eq hk.1, itemsS, tupS, List.length_map, List.append_nil, le_SZ (show (plS ns).length + 1 ≤ 1000000 by omega), plD]
      · obtain ⟨x', p', h⟩ := pl_all P4 (.lst (ns.map D.int)) ns [2] none none (by simp) hk.1 (by simp; omega)
        obtain ⟨h1, h2, h3⟩ := addAll_ok (ns := ns) (ks := [2]) (by simp) hk.1
        simp only [stP, List.map_cons, List.map_nil, List.length_cons, List.length_nil, List.replicate_succ, List.replicate_zero] at h
        have hl : (addAll [2] ns).length < 64 := by simp at h2; omega
        have hl2 : (plS ns).length ≤ 1000 := by rw [← places_eq hk.1, (sortI_perm _).length_eq]; omega
        simp_arith [b_p_places_for, dispS, dispK, KD.key, show ([Sum.inl 2] : List Key).Nodup ∧ [((KD.int 2), (KD.bl true))].length ≤ 15 ∧ [((KD.int 2), (KD.bl true))] ≠ [] from ⟨by simp, by decide, by simp⟩, walkS, h, gv1, orB, sortS, sortDS, keysI_map, hl, places_eq hk.1, itemsS, tupS, List.length_map, List.append_nil, le_SZ (show (plS ns).length + 1 ≤ 1000000 by omega), plD]
    · cases h
  · cases h
/-! ### the asked ones -/
theorem plA_of {n : Int} {pl : D} (h : okN n = true) (hp : plOk pl = true) : plA n pl = true := by
  obtain ⟨h1, h2⟩ := okN_of h
  cases pl <;> simp only [plOk, Bool.false_eq_true] at hp
  · rename_i i
    simp only [isPr, Bool.and_eq_true, decide_eq_true_eq] at hp
    simp only [plA, okA, Bool.and_eq_true, decide_eq_true_eq]
    refine ⟨⟨⟨h1, ?_⟩, ?_⟩, ?_⟩ <;> omega
  · exact hp
theorem num_of {n : Int} (h : okN n = true) : okD (.int n) = true ∧ numOk (.int n) 1000000 = true := by
  obtain ⟨h1, h2⟩ := okN_of h
  refine ⟨rfl, ?_⟩
  simp only [numOk, inR, Bool.and_eq_true, decide_eq_true_eq]
  exact ⟨⟨by omega, by omega⟩, h1⟩
theorem okD_of {pl : D} (hp : plOk pl = true) : okD pl = true ∧ plOk pl = true := ⟨by cases pl <;> first | (simp [plOk] at hp; done) | rfl, hp⟩
theorem cn_ev {n : Int} (h : okN n = true) : f1 g_check_number [some (.p (.int n))] = .ok (.p .non) [none] := f1_ev (if_pos (num_of h))
theorem cp_ev {pl : D} (h : plOk pl = true) : f1 g_check_place [some (.p pl)] = .ok (.p .non) [none] := f1_ev (if_pos (okD_of h))
theorem sq_ev {n : Int} {pl : D} (h : plA n pl = true) : f2 g_sq_at [some (.p (.int n)), some (.p pl)] = .ok (.p (.bl (sqAt n pl))) [none, none] := f2_ev (if_pos h)
theorem oa_ev {a b : Int} {pl : D} (h : plA a pl = true) (h' : plA b pl = true) : f3 g_odd_at [some (.p (.int a)), some (.p (.int b)), some (.p pl)] = .ok (.p (.bl (oddAt a b pl))) [none, none, none] := f3_ev (if_pos ⟨h, h'⟩)
def g_is_square (n pl : D) : Option Val := match n with
  | .int n => if okN n = true ∧ plOk pl = true then bO (sqAt n pl) else none
  | _ => none
theorem run_p_is_square (P8 : Φ 8 = f1 g_check_number) (P7 : Φ 7 = f1 g_check_place) (P13 : Φ 13 = f2 g_sq_at) : ∀ e, f2 g_is_square e ≠ .fail → runF (b_p_is_square.ev Φ gvD) N_p_is_square.length e = f2 g_is_square e := by
  refine f2_run fun n pl v h => ?_
  unfold g_is_square at h
  split at h
  · split at h
    · rename_i n hk
      cases h
      simp_arith [b_p_is_square, P8, P7, P13, cn_ev hk.1, cp_ev hk.2, sq_ev (plA_of hk.1 hk.2)]
    · cases h
  · cases h
def sgn (a b : Int) (pl : D) : Int := if oddAt a b pl = true then -1 else 1
def g_sign (a b pl : D) : Option Val := match a, b with
  | .int a, .int b => if okN a = true ∧ okN b = true ∧ plOk pl = true then some (.p (.int (sgn a b pl))) else none
  | _, _ => none
theorem run_p_sign (P8 : Φ 8 = f1 g_check_number) (P7 : Φ 7 = f1 g_check_place) (P16 : Φ 16 = f3 g_odd_at) : ∀ e, f3 g_sign e ≠ .fail → runF (b_p_sign.ev Φ gvD) N_p_sign.length e = f3 g_sign e := by
  refine f3_run fun a b pl v h => ?_
  unfold g_sign at h
  split at h
  · split at h
    · rename_i a b hk
      cases h
      simp_arith [b_p_sign, P8, P7, P16, cn_ev hk.1, cn_ev hk.2.1, cp_ev hk.2.2, oa_ev (plA_of hk.1 hk.2.2) (plA_of hk.2.1 hk.2.2), sgn, negS]
      cases oddAt a b pl <;> rfl
    · cases h
  · cases h
theorem pls_ev {ns : List Int} (h : ns.all okN = true) (hl : ns.length ≤ 6) : f1 g_places [some (.p (.tup (ns.map D.int)))] = .ok (.p (.tup (plD ns))) [none] := f1_ev (by
  have : intsD (ns.map D.int) = some ns := by
    clear h hl
    induction ns with
    | nil => rfl
    | cons n ns ih => rw [List.map_cons]; simp only [intsD, ih, Option.map_some]
  simp only [g_places, this]
  rw [if_pos ⟨h, hl⟩])
theorem intsD_maps (ns : List Int) : intsD (ns.map D.int) = some ns := by
  induction ns with
  | nil => rfl
  | cons n ns ih => rw [List.map_cons]; simp only [intsD, ih, Option.map_some]
theorem plsL_ev {d : D} {ns : List Int} (hd : seqI d = some ns) (h : ns.all okN = true) (hl : ns.length ≤ 6) : f1 g_placesL [some (.p d)] = .ok (.p (.tup (plD ns))) [none] := f1_ev (by
  simp only [g_placesL, hd]
  rw [if_pos ⟨h, hl⟩])
theorem seqI_t (ns : List Int) : seqI (.tup (ns.map D.int)) = some ns := intsD_maps ns
theorem seqI_l (ns : List Int) : seqI (.lst (ns.map D.int)) = some ns := intsD_maps ns
theorem run_p_matter (P9 : Φ 9 = f1 g_check_numbers) (P17 : Φ 17 = f1 g_placesL) : ∀ e, f1 g_places e ≠ .fail → runF (b_p_matter.ev Φ gvD) N_p_matter.length e = f1 g_places e := by
  refine f1_run fun d v h => ?_
  have h0 := h
  unfold g_places at h
  split at h
  · split at h
    · split at h
      · rename_i xs ns hx hk
        cases h
        have e := intsD_eq hx
        subst e
        have e1 : f1 g_check_numbers [some (.p (.tup (ns.map D.int)))] = .ok (.p .non) [none] := f1_ev (by
          show (if ((ns.map D.int).all fun x => okD x && numOk x 1000000) = true then _ else _) = _
          rw [if_pos]
          rw [List.all_map]
          refine List.all_eq_true.mpr fun n hn => ?_
          obtain ⟨q1, q2⟩ := num_of (List.all_eq_true.mp hk.1 n hn)
          simp only [Function.comp, q1, q2, Bool.and_self])
        simp_arith [b_p_matter, P9, P17, e1, plsL_ev (seqI_t ns) hk.1 hk.2]
      · cases h
    · cases h
  · cases h
def okPl (ns : List Int) (pl : D) : Prop := ∀ n ∈ ns, plA n pl = true
theorem plD_ok {ns : List Int} (h : ns.all okN = true) : ∀ pl ∈ plD ns, plOk pl = true := by
  intro pl hp
  rcases List.mem_cons.mp hp with e | e
  · subst e; simp [plOk]
  · obtain ⟨q, hq, rfl⟩ := List.mem_map.mp e
    exact plS_isPr h hq
theorem plD_len {ns : List Int} (h : ns.all okN = true) (hl : ns.length ≤ 6) : (plD ns).length ≤ 60 := by
  obtain ⟨h1, h2, h3⟩ := addAll_ok (ns := ns) (ks := [2]) (by simp) h
  rw [plD, List.length_cons, List.length_map, ← places_eq h, (sortI_perm _).length_eq]
  simp at h2; omega
def g_odd_places (a b : D) : Option Val := match a, b with
  | .int a, .int b => if okN a = true ∧ okN b = true then some (.p (.tup ((plD [a, b]).filter fun pl => oddAt a b pl))) else none
  | _, _ => none
theorem run_p_odd_places (P8 : Φ 8 = f1 g_check_number) (P17 : Φ 17 = f1 g_placesL) (P16 : Φ 16 = f3 g_odd_at) : ∀ e, f2 g_odd_places e ≠ .fail → runF (b_p_odd_places.ev Φ gvD) N_p_odd_places.length e = f2 g_odd_places e := by
  refine f2_run fun a b v h => ?_
  unfold g_odd_places at h
  split at h
  · split at h
    · rename_i a b hk
      cases h
      have ho : [a, b].all okN = true := by simp [hk.1, hk.2]
      have cp : ∀ pls : List D, (∀ pl ∈ pls, plOk pl = true) → pls.length ≤ 1000 → compS (Tg.ofC (.n 2)) (Oc.ev Φ gvD (.yes (.tr (.call 16 [0, 1, 2] (.v (.v 0) (.v (.v 1) (.v (.v 2) .nil))))))) (fun e => (E.ev Φ gvD (.v 2) e).frz) [2] pls [] [some (.p (.int a)), some (.p (.int b)), none] = .ok (.own 0 (pls.filter fun pl => oddAt a b pl)) [some (.p (.int a)), some (.p (.int b)), none] := fun pls h hl => by
        have := comp_gen (ft := Tg.ofC (.n 2)) (fc := Oc.ev Φ gvD (.yes (.tr (.call 16 [0, 1, 2] (.v (.v 0) (.v (.v 1) (.v (.v 2) .nil))))))) (fe := fun e => (E.ev Φ gvD (.v 2) e).frz) (vs := [2]) [some (.p (.int a)), some (.p (.int b)), none] (fun pl => oddAt a b pl) id pls [] [some (.p (.int a)), some (.p (.int b)), none]
          (fun pl hp => ⟨_, _, rfl, by
            have hp := h pl hp
            simp_arith [P16, oa_ev (plA_of hk.1 hp) (plA_of hk.2 hp)]
            rfl, rfl, fun _ => ⟨_, rfl, rfl⟩⟩) rfl (by simpa using hl)
        simpa using this
      have e2 := plsL_ev (seqI_t [a, b]) ho (by simp)
      simp only [List.map_cons, List.map_nil] at e2
      have hl := plD_len (ns := [a, b]) ho (by simp)
      have ec : (E.comp (.v 2) (.n 2) (.seq (.call 17 [0] (.v (.tup (.cons (.v 0) (.cons (.v 1) .nil))) .nil))) (.yes (.tr (.call 16 [0, 1, 2] (.v (.v 0) (.v (.v 1) (.v (.v 2) .nil)))))) [2]).ev Φ gvD [some (.p (.int a)), some (.p (.int b)), none] = .ok (.own 0 ((plD [a, b]).filter fun pl => oddAt a b pl)) [some (.p (.int a)), some (.p (.int b)), none] := by
        have ei : (It.seq (.call 17 [0] (.v (.tup (.cons (.v 0) (.cons (.v 1) .nil))) .nil))).ev Φ gvD [some (.p (.int a)), some (.p (.int b)), none] = .ok (plD [a, b]) [some (.p (.int a)), some (.p (.int b)), none] := by
          simp_arith [P17, tupS, show 2 ≤ SZ from by decide, e2, walkS]
        rw [evE_comp, ei, bind_ok]
        exact cp (plD [a, b]) (plD_ok ho) (by omega)
      simp_arith [b_p_odd_places, P8, cn_ev hk.1, cn_ev hk.2, ec, tupleS]
    · cases h
  · cases h
end
end PG

set_option Elab.async false
set_option linter.all false
set_option maxRecDepth 100000
set_option maxHeartbeats 4000000
namespace PG
open PySem L2 M
section
variable {Φ : Nat → En → Res Val}
theorem bigJ {k : Int} {j : J} (h : okJ k j) (hk : k ≤ 1000000) : j.y.natAbs < 2 ^ 64 ∧ (j.n + 1).natAbs < 2 ^ 64 := by
  obtain ⟨h1, h2, h3⟩ := h
  constructor <;> omega
theorem at0 (a b c : D) : atI [a, b, c] 0 = some a := rfl
theorem at1 (a b c : D) : atI [a, b, c] 1 = some b := rfl
theorem at2 (a b c : D) : atI [a, b, c] 2 = some c := rfl
theorem ix30 : ixN 3 0 = some 0 := rfl
theorem ix31 : ixN 3 1 = some 1 := rfl
theorem ix32 : ixN 3 2 = some 2 := rfl
theorem run_l_dip : ∀ e, fJ2 g_dip e ≠ .fail → runF (b_l_dip.ev Φ gvD) N_l_dip.length e = fJ2 g_dip e := by
  refine fJ2_run fun j t v j' h => ?_
  unfold g_dip at h
  split at h
  · split at h
    · rename_i t hk
      cases h
      obtain ⟨b1, b2⟩ := bigJ hk.1 (by decide)
      by_cases c : 0 < j.x
      · simp_arith [b_l_dip, J.d, idxS, at2, addS, subT, setS, ix32, Option.map_some, at0, c, divmodS, hk.2.1, hk.2.2, ix30, dipV, dipJ]
      · simp_arith [b_l_dip, J.d, idxS, at2, at1, addS, subT, setS, ix32, Option.map_some, at0, c, mul_64 b1 (show (48271 : Int).natAbs < 2 ^ 64 by decide), mul_64 (show (60029 : Int).natAbs < 2 ^ 64 by decide) b2, orB, intS, mod_pos (show (0 : Int) < 2147483399 by decide), ix31, fdiv_pos (show (0 : Int) < 512 by decide) (show (512 : Int) < 1073741824 by decide), mod_pos hk.2.1, dipV, dipJ, mixY]
    · cases h
  · cases h
theorem dip_ev {j : J} {t : Int} (h : okJ 1000000 j) (h1 : 0 < t) (h2 : t < 1073741824) : fJ2 g_dip [some (.own 1 j.d), some (.p (.int t))] = .ok (.p (.int (dipV j t))) [some (.own 1 (dipJ j t).d), none] := fJ2_ev (if_pos ⟨h, h1, h2⟩)
theorem one_ev {j : J} {xs : List D} (h : okJ 1000000 j) (h1 : xs ≠ []) (h2 : xs.length ≤ 1000) : fJ2 g_one [some (.own 1 j.d), some (.p (.lst xs))] = .ok (.p (oneV j xs)) [some (.own 1 (dipJ j (xs.length : Int)).d), none] := fJ2_ev (if_pos ⟨h, h1, h2⟩)
theorem oneV_at {j : J} {xs : List D} (h : xs ≠ []) : atI xs (dipV j (xs.length : Int)) = some (oneV j xs) := by
  have hl : 0 < xs.length := List.length_pos_iff.mpr h
  obtain ⟨h1, h2⟩ := dip_lt (j := j) (t := (xs.length : Int)) (by omega)
  unfold oneV
  show (ixN xs.length (dipV j xs.length)).bind _ = _
  unfold ixN
  rw [if_pos h1, if_pos h2, Option.bind_some, List.getD_eq_getElem?_getD, List.getElem?_eq_getElem (show (dipV j (xs.length : Int)).toNat < xs.length by omega)]
  rfl
theorem run_l_one_of (P22 : Φ 22 = fJ2 g_dip) : ∀ e, fJ2 g_one e ≠ .fail → runF (b_l_one_of.ev Φ gvD) N_l_one_of.length e = fJ2 g_one e := by
  refine fJ2_run fun j t v j' h => ?_
  unfold g_one at h
  split at h
  · split at h
    · rename_i xs hk
      cases h
      have hl : 0 < xs.length := List.length_pos_iff.mpr hk.2.1
      have e1 := callJ2 (e := [some (.own 1 j.d), some (.p (.lst xs))]) (j := 0) (t := 1) rfl (dip_ev hk.1 (show (0 : Int) < (xs.length : Int) by omega) (by omega))
      simp_arith [b_l_one_of, orB, lenS, P22, e1, idxS, oneV_at hk.2.1]
    · cases h
  · cases h
def menuL : List D := [.int 1, .int 2, .int 3, .int 5, .int 6, .int 7, .int 10, .int 11, .int 12, .int 13, .int 14, .int 15, .int 17, .int 18, .int 20, .int 21, .int 22, .int 30, .int 49, .int 75]
/-- a number -/
def nuA (j : J) (t : Int) : Int × J := if dipV j 3 = 0 then (1 + dipV (dipJ j 3) t, dipJ (dipJ j 3) t) else (toI (oneV (dipJ j 3) menuL), dipJ (dipJ j 3) (menuL.length : Int))
def nuB (q : Int × J) (t : Int) : Int × J := if q.1 ≤ t then q else (1 + dipV q.2 t, dipJ q.2 t)
def nuC (q : Int × J) : Int × J := (if dipV q.2 2 = 0 then q.1 else -q.1, dipJ q.2 2)
def numJ (j : J) (t : Int) : Int × J := nuC (nuB (nuA j t) t)
def g_num (j : J) (t : D) : Option (Val × J) := match t with
  | .int t => if okJ 999990 j ∧ 0 < t ∧ t ≤ 1000000 then some (.p (.int (numJ j t).1), (numJ j t).2) else none
  | _ => none
theorem menu_int {d : D} (h : d ∈ menuL) : ∃ i : Int, d = .int i ∧ 0 < i := by
  have : ∀ d ∈ menuL, ∃ i : Int, d = .int i ∧ 0 < i := by
    intro d hd
    simp only [menuL, List.mem_cons, List.not_mem_nil, or_false] at hd
    rcases hd with h | h | h | h | h | h | h | h | h | h | h | h | h | h | h | h | h | h | h | h <;> exact ⟨_, h, by decide⟩
  exact this d h
theorem nuA_ok {k : Int} {j : J} {t : Int} (h : okJ k j) (ht : 0 < t) : okJ (k + 2) (nuA j t).2 ∧ 0 < (nuA j t).1 := by
  unfold nuA
  have h1 := dip_ok (t := 3) h
  split
  · have h2 := dip_ok (t := t) h1
    have := (dip_lt (j := dipJ j 3) ht).1
    refine ⟨?_, by simp only; omega⟩
    simp only
    rwa [Int.add_assoc] at h2
  · have h2 := dip_ok (t := (menuL.length : Int)) h1
    obtain ⟨i, hi, hp⟩ := menu_int (oneV_mem (j := dipJ j 3) (xs := menuL) (by decide))
    refine ⟨?_, by simp only [hi, toI]; exact hp⟩
    simp only
    rwa [Int.add_assoc] at h2
theorem okJ_mono {k l : Int} {j : J} (h : okJ k j) (hl : k ≤ l) : okJ l j := ⟨h.1, h.2.1, Int.le_trans h.2.2 hl⟩
theorem nuB_ok {k : Int} {q : Int × J} {t : Int} (h : okJ k q.2) (hq : 0 < q.1) (ht : 0 < t) : okJ (k + 1) (nuB q t).2 ∧ 0 < (nuB q t).1 ∧ (nuB q t).1 ≤ t := by
  unfold nuB
  split
  · rename_i hl
    exact ⟨okJ_mono h (by omega), hq, hl⟩
  · obtain ⟨h1, h2⟩ := dip_lt (j := q.2) ht
    exact ⟨dip_ok h, by simp only; omega, by simp only; omega⟩
theorem numJ_ok {k : Int} {j : J} {t : Int} (h : okJ k j) (ht : 0 < t) : okJ (k + 4) (numJ j t).2 ∧ (numJ j t).1 ≠ 0 ∧ (numJ j t).1.natAbs ≤ t.toNat := by
  obtain ⟨h1, h2⟩ := nuA_ok h ht
  obtain ⟨h3, h4, h5⟩ := nuB_ok h1 h2 ht
  have h6 := dip_ok (t := 2) h3
  unfold numJ nuC
  refine ⟨by simp only; exact okJ_mono h6 (by omega), ?_⟩
  simp only
  split <;> constructor <;> omega
theorem run_l_number (P22 : Φ 22 = fJ2 g_dip) (P23 : Φ 23 = fJ2 g_one) : ∀ e, fJ2 g_num e ≠ .fail → runF (b_l_number.ev Φ gvD) N_l_number.length e = fJ2 g_num e := by
  refine fJ2_run fun j t v j' h => ?_
  unfold g_num at h
  split at h
  · split at h
    · rename_i t hk
      cases h
      obtain ⟨k1, k2, k3⟩ := hk
      have j0 : okJ 1000000 j := okJ_mono k1 (by decide)
      have j1 := dip_ok (t := 3) k1
      have e1 : ∀ a b c : Option Val, callP (fJ2 g_dip) 2 [0, 1] [.ln 0, .v (.p (.int 3))] [some (.own 1 j.d), some (.p (.int t)), a, b, c] = .ok (.p (.int (dipV j 3))) [some (.own 1 (dipJ j 3).d), some (.p (.int t)), a, b, c] := fun a b c => callJ2 rfl (dip_ev j0 (by decide) (by decide))
      have e2 : ∀ a b c : Option Val, callP (fJ2 g_dip) 2 [0, 1] [.ln 0, .v (.p (.int t))] [some (.own 1 (dipJ j 3).d), some (.p (.int t)), a, b, c] = .ok (.p (.int (dipV (dipJ j 3) t))) [some (.own 1 (dipJ (dipJ j 3) t).d), some (.p (.int t)), a, b, c] := fun a b c => callJ2 rfl (dip_ev (okJ_mono j1 (by decide)) k2 (by omega))
      have e3 : ∀ a b c : Option Val, callP (fJ2 g_one) 2 [0, 1] [.ln 0, .v (.p (.lst menuL))] [some (.own 1 (dipJ j 3).d), some (.p (.int t)), a, b, c] = .ok (.p (oneV (dipJ j 3) menuL)) [some (.own 1 (dipJ (dipJ j 3) (menuL.length : Int)).d), some (.p (.int t)), a, b, c] := fun a b c => callJ2 rfl (one_ev (okJ_mono j1 (by decide)) (by decide) (by decide))
      obtain ⟨a1, a2⟩ := nuA_ok k1 k2
      obtain ⟨a3, a4, a5⟩ := nuB_ok a1 a2 k2
      have e4 : ∀ a b c : Option Val, callP (fJ2 g_dip) 2 [0, 1] [.ln 0, .v (.p (.int t))] [some (.own 1 (nuA j t).2.d), some (.p (.int t)), a, b, c] = .ok (.p (.int (dipV (nuA j t).2 t))) [some (.own 1 (dipJ (nuA j t).2 t).d), some (.p (.int t)), a, b, c] := fun a b c => callJ2 rfl (dip_ev (okJ_mono a1 (by decide)) k2 (by omega))
      have e5 : ∀ a b c : Option Val, callP (fJ2 g_dip) 2 [0, 1] [.ln 0, .v (.p (.int 2))] [some (.own 1 (nuB (nuA j t) t).2.d), some (.p (.int t)), a, b, c] = .ok (.p (.int (dipV (nuB (nuA j t) t).2 2))) [some (.own 1 (dipJ (nuB (nuA j t) t).2 2).d), some (.p (.int t)), a, b, c] := fun a b c => callJ2 rfl (dip_ev (okJ_mono a3 (by decide)) (by decide) (by decide))
      have s1 : ∀ b : Option Val, (E.ite (.cmp .eq (.v 3) (.k (.int 0))) (.bop .add (.k (.int 1)) (.call 22 [0, 1] (.ln 0 (.v (.v 1) .nil)))) (.call 23 [0, 1] (.ln 0 (.v (.v 2) .nil)))).ev Φ gvD [some (.own 1 (dipJ j 3).d), some (.p (.int t)), some (.own 0 menuL), some (.p (.int (dipV j 3))), b] = .ok (.p (.int (nuA j t).1)) [some (.own 1 (nuA j t).2.d), some (.p (.int t)), if dipV j 3 = 0 then some (.own 0 menuL) else some (.p (.lst menuL)), some (.p (.int (dipV j 3))), b] := by
        intro b
        by_cases c : dipV j 3 = 0
        · simp_arith [c, P22, e2, addS, nuA]
        · obtain ⟨i, hi, hp⟩ := menu_int (oneV_mem (j := dipJ j 3) (xs := menuL) (by decide))
          simp_arith [c, P23, e3, nuA, hi, toI]
      have s2 : ∀ m b : Option Val, (E.ite (.cmp .le (.v 4) (.v 1)) (.v 4) (.bop .add (.k (.int 1)) (.call 22 [0, 1] (.ln 0 (.v (.v 1) .nil))))).ev Φ gvD [some (.own 1 (nuA j t).2.d), some (.p (.int t)), m, b, some (.p (.int (nuA j t).1))] = .ok (.p (.int (nuB (nuA j t) t).1)) [some (.own 1 (nuB (nuA j t) t).2.d), some (.p (.int t)), m, b, some (.p (.int (nuA j t).1))] := by
        intro m b
        by_cases c : (nuA j t).1 ≤ t
        · simp_arith [c, nuB]
        · simp_arith [c, nuB, P22, e4, addS]
      have s3 : ∀ m b : Option Val, (E.ite (.cmp .eq (.call 22 [0, 1] (.ln 0 (.v (.k (.int 2)) .nil))) (.k (.int 0))) (.v 4) (.neg (.v 4))).ev Φ gvD [some (.own 1 (nuB (nuA j t) t).2.d), some (.p (.int t)), m, b, some (.p (.int (nuB (nuA j t) t).1))] = .ok (.p (.int (numJ j t).1)) [some (.own 1 (numJ j t).2.d), some (.p (.int t)), m, b, some (.p (.int (nuB (nuA j t) t).1))] := by
        intro m b
        by_cases c : dipV (nuB (nuA j t) t).2 2 = 0
        · simp_arith [P22, e5, c, numJ, nuC]
        · simp_arith [P22, e5, c, numJ, nuC, negS]
      have s0 : ∀ (o0 : Option Val) (r0 : En), (E.lst (.cons (.k (.int 1)) (.cons (.k (.int 2)) (.cons (.k (.int 3)) (.cons (.k (.int 5)) (.cons (.k (.int 6)) (.cons (.k (.int 7)) (.cons (.k (.int 10)) (.cons (.k (.int 11)) (.cons (.k (.int 12)) (.cons (.k (.int 13)) (.cons (.k (.int 14)) (.cons (.k (.int 15)) (.cons (.k (.int 17)) (.cons (.k (.int 18)) (.cons (.k (.int 20)) (.cons (.k (.int 21)) (.cons (.k (.int 22)) (.cons (.k (.int 30)) (.cons (.k (.int 49)) (.cons (.k (.int 75)) .nil))))))))))))))))))))).ev Φ gvD (o0 :: r0) = .ok (.own 0 menuL) (o0 :: r0) := by
        intro o0 r0
        simp_arith [lstS, show 20 ≤ SZ from by decide, menuL]
      have t0 : b_l_number.ev Φ gvD [some (.own 1 j.d), some (.p (.int t)), none, none, none] = .ok (.rt (.p (.int (numJ j t).1))) [some (.own 1 (numJ j t).2.d), some (.p (.int t)), if dipV j 3 = 0 then some (.own 0 menuL) else some (.p (.lst menuL)), some (.p (.int (dipV j 3))), some (.p (.int (nuB (nuA j t) t).1))] := by
        unfold b_l_number
        simp only [evSs_cons, evS_set, evS_ret, s0, bind_ok, List.set_cons_succ, List.set_cons_zero, seq_nx]
        simp_arith [P22, e1, s1, s2, s3]
      show runF _ 5 _ = _
      simp_arith [t0]
    · cases h
  · cases h
end
end PG

set_option Elab.async false
set_option linter.all false
set_option maxRecDepth 100000
set_option maxHeartbeats 4000000
namespace PG
open PySem L2 M
section
variable {Φ : Nat → En → Res Val}
theorem strip_not {n l : Nat} (h : n % l ≠ 0) : strip n l = n := by
  unfold strip
  cases n with
  | zero => rfl
  | succ k => unfold stripF; rw [if_neg h]
def stL (x : Option Val) (n l : Nat) (acc : List Nat) : En := [x, some (.p (.int (n : Int))), some (.own 0 (natsD acc)), some (.p (.int (l : Int)))]
abbrev cL : T := .cmp .le (.bop .mul (.v 3) (.v 3)) (.v 1)
abbrev ciL : T := .cmp .eq (.bop .mod (.bi .int (.cons (.v 1) .nil)) (.v 3)) (.k (.int 0))
abbrev biL : Ss := .cons (.set 1 (.bop .fdiv (.v 1) (.v 3))) .nil
abbrev bL : Ss := .cons (.iff ciL (.cons (.ex (.app 2 (.v 3))) .nil) .nil) (.cons (.whl ciL biL) (.cons (.set 3 (.bop .add (.v 3) (.k (.int 1)))) .nil))
theorem cL_ev (x : Option Val) (n l : Nat) (acc : List Nat) (ok : okT n l acc) : T.ev Φ gvD cL (stL x n l acc) = .ok (decide (l * l ≤ n)) (stL x n l acc) := by
  have : (l : Int).natAbs < 2 ^ 64 := by have := ok.2.2.2.1; omega
  simp_arith [cL, stL, mul_64 this this]
  norm_cast
theorem ciL_ev (x : Option Val) (n l : Nat) (acc : List Nat) (hl : 2 ≤ l) : T.ev Φ gvD ciL (stL x n l acc) = .ok (decide (n % l = 0)) (stL x n l acc) := by
  simp_arith [stL, orB, intS, mod_pos (show (0 : Int) < (l : Int) by omega), modB]
theorem iL_ev (x : Option Val) (n l : Nat) (acc : List Nat) (h0 : 0 < n) (hB : n < BIG) (hl : 2 ≤ l) (hl2 : l ≤ 40000) : whileC (T.ev Φ gvD ciL) (Ss.ev Φ gvD biL) (stL x n l acc) = .ok .nx (stL x (strip n l) l acc) := by
  refine (strip_loop (st := fun n => stL x n l acc) hl (fun n h0 hB => ciL_ev x n l acc hl) (fun n h0 hB => ?_) n n h0 (Nat.le_refl _) hB).1
  simp_arith [biL, stL, fdiv_pos (show (0 : Int) < (l : Int) by omega) (show (l : Int) < 1073741824 by omega), ndiv]
theorem bL_ev (x : Option Val) (n l : Nat) (acc : List Nat) (ok : okT n l acc) (hl : l * l ≤ n) : Ss.ev Φ gvD bL (stL x n l acc) = .ok .nx (if n % l = 0 then stL x (strip n l) (l + 1) (acc ++ [l]) else stL x n (l + 1) acc) := by
  obtain ⟨h1, h2, h3, h4, h5⟩ := ok
  have hw := iL_ev (Φ := Φ) x n l (acc ++ [l]) h1 h2 h3 h4
  have hw0 := iL_ev (Φ := Φ) x n l acc h1 h2 h3 h4
  have hc := ciL_ev (Φ := Φ) x n l acc h3
  simp only [bL, evSs_cons, evS_iff, hc, bind_ok]
  by_cases hd : n % l = 0
  · simp only [hd, decide_true, if_true]
    simp only [stL] at hw ⊢
    simp_arith [appE, appS, natsD_len, natsD_snoc, hw, addS, lt_SZ (show acc.length ≤ 1000000 by omega)]
    rfl
  · rw [strip_not hd] at hw0
    simp only [stL] at hw0 ⊢
    simp_arith [hd, hw0, addS]
    rfl
def g_lprimes (v : D) : Option Val := match v with
  | .int n => if okN n = true then some (.own 0 ((tri n).map D.int)) else none
  | _ => none
theorem run_l_primes_of : ∀ e, f1 g_lprimes e ≠ .fail → runF (b_l_primes_of.ev Φ gvD) N_l_primes_of.length e = f1 g_lprimes e := by
  refine f1_run fun d v h => ?_
  unfold g_lprimes at h
  split at h
  · split at h
    · rename_i i hi
      cases h
      obtain ⟨h1, h2⟩ := okN_of hi
      have ea : (if i < 0 then -i else i) = (i.natAbs : Int) := by split <;> omega
      have ht : (tri i).map D.int = natsD (trial i.natAbs) := (triD_eq i).symm
      generalize hn : i.natAbs = n at *
      have hB : n < BIG := by unfold BIG; omega
      have hz : 0 < n := by omega
      obtain ⟨l', h3, h4⟩ := trial_loop (cL_ev (Φ := Φ) (some (.p (.int i)))) (bL_ev (Φ := Φ) (some (.p (.int i)))) n n 2 [] ⟨hz, hB, by omega, by omega, by simp⟩ (by omega)
      simp only [stL, natsD_nil, show ((2 : Nat) : Int) = (2 : Int) from rfl, cL, bL, ciL, biL] at h3
      have hlen := h4.2.2.2.2
      have hl4 := h4.2.2.2.1
      rw [ht]
      simp_arith [b_l_primes_of, absS, ea, lstS, h3]
      by_cases hr : 1 < (trialF n n 2 []).1
      · simp_arith [trial, hr, natsD_snoc, addS, lstS, natsD_len, show (1 : Int) < ((trialF n n 2 []).1 : Int) by omega, le_SZ (show 1 ≤ 1000000 by omega), le_SZ (show (trialF n n 2 []).2.length + 1 ≤ 1000000 by omega)]
      · simp_arith [trial, hr, show ¬ (1 : Int) < ((trialF n n 2 []).1 : Int) by omega]
    · cases h
  · cases h
theorem lp_ev {n : Int} (h : okN n = true) : f1 g_lprimes [some (.p (.int n))] = .ok (.own 0 ((tri n).map D.int)) [none] := f1_ev (if_pos h)
theorem intsD_map : ∀ ns : List Int, intsD (ns.map D.int) = some ns
  | [] => rfl
  | n :: ns => by rw [List.map_cons]; simp only [intsD, intsD_map ns, Option.map_some]
def g_lplaces (v : D) : Option Val := match v with
  | .lst xs => match intsD xs with
    | some ns => if ns.all okN = true ∧ ns.length ≤ 6 then some (.own 0 (plD ns)) else none
    | none => none
  | _ => none
theorem lpl_all (P25 : Φ 25 = f1 g_lprimes) (d : Option Val) : ∀ (ns : List Int) (ks : List Int) (v x : Option Val), (v = some (.own 0 (ks.map D.int)) ∨ v = some (.p (.lst (ks.map D.int)))) → ns.all okN = true → ks.length + 9 * ns.length ≤ 1000 → ∃ v' x', forS (Tg.ev Φ gvD (.n 2)) (Ss.ev Φ gvD (.cons (.set 1 (.bop .add (.v 1) (.call 25 [0] (.v (.v 2) .nil)))) .nil)) (ns.map D.int) [d, v, x] = .ok .nx [d, v', x'] ∧ (v' = some (.own 0 ((ks ++ (ns.map tri).flatten).map D.int)) ∨ v' = some (.p (.lst ((ks ++ (ns.map tri).flatten).map D.int))))
  | [], ks, v, x, hv, _, _ => ⟨v, x, rfl, by simpa using hv⟩
  | n :: ns, ks, v, x, hv, ho, hl => by
    have hl' : ks.length + 9 * (ns.length + 1) ≤ 1000 := hl
    rw [List.all_cons, Bool.and_eq_true] at ho
    have h3 := tri_len ho.1
    obtain ⟨v', x', h, hw⟩ := lpl_all P25 d ns (ks ++ tri n) (some (.own 0 ((ks ++ tri n).map D.int))) (some (.p (.int n))) (.inl rfl) ho.2 (by rw [List.length_append]; omega)
    refine ⟨v', x', ?_, by simpa using hw⟩
    rw [List.map_cons]
    rcases hv with hv | hv <;> subst hv
    · simp_arith [forS_cons, P25, lp_ev ho.1, addS, List.length_map, le_SZ (show ks.length + (tri n).length ≤ 1000000 by omega)]
      rw [← List.map_append]
      exact h
    · simp_arith [forS_cons, P25, lp_ev ho.1, addS, List.length_map, le_SZ (show ks.length + (tri n).length ≤ 1000000 by omega)]
      rw [← List.map_append]
      exact h
theorem fl_len {ns : List Int} (h : ns.all okN = true) : (ns.map tri).flatten.length ≤ 9 * ns.length := by
  induction ns with
  | nil => simp
  | cons n ns ih =>
    rw [List.all_cons, Bool.and_eq_true] at h
    have := tri_len h.1
    have := ih h.2
    simp only [List.map_cons, List.flatten_cons, List.length_append, List.length_cons]
    omega
theorem run_l_places (P25 : Φ 25 = f1 g_lprimes) : ∀ e, f1 g_lplaces e ≠ .fail → runF (b_l_places.ev Φ gvD) N_l_places.length e = f1 g_lplaces e := by
  refine f1_run fun d v h => ?_
  unfold g_lplaces at h
  split at h
  · split at h
    · split at h
      · rename_i xs ns hx hk
        cases h
        have e := intsD_eq hx
        subst e
        obtain ⟨v', x', h, hw⟩ := lpl_all P25 (some (.p (.lst (ns.map D.int)))) ns [2] (some (.own 0 [.int 2])) none (.inl rfl) hk.1 (by simp; omega)
        have hf := fl_len hk.1
        have h2 : 1 + (ns.map tri).flatten.length < 64 := by omega
        have hl2 : (plS ns).length ≤ 1000 := by
          have := plD_len hk.1 hk.2
          rw [plD, List.length_cons, List.length_map] at this; omega
        have hs : srtSetS (.lst (.int 2 :: (ns.map tri).flatten.map D.int)) = some (.own 0 ((plS ns).map D.int)) := by
          have : srtSetS (.lst ((2 :: (ns.map tri).flatten).map D.int)) = some (.own 0 ((plS ns).map D.int)) := by
            simp only [srtSetS, intsD_map, Option.bind_some]
            rw [if_pos (by simpa [Nat.add_comm] using h2)]
            rfl
          exact this
        rcases hw with hw | hw <;> subst hw <;> simp_arith [b_l_places, lstS, show 1 ≤ SZ from by decide, walkS, h, hs, addS, List.length_map, le_SZ (show 1 + (plS ns).length ≤ 1000000 by omega), plD, show Str.ofString "real" = REAL from rfl]
      · cases h
    · cases h
  · cases h
theorem run_l_split : ∀ e, f2 g_split e ≠ .fail → runF (b_l_split.ev Φ gvD) N_l_split.length e = f2 g_split e := by
  refine f2_run fun a p v h => ?_
  unfold g_split at h
  split at h
  · split at h
    · rename_i a p hk
      cases h
      obtain ⟨h1, h2, h3, h4⟩ := okA_of hk
      have lp := split_loop (st := fun a m => [some (.p (.int a)), some (.p (.int p)), some (.p (.int (m : Int)))]) (c := T.ev Φ gvD (.cmp .eq (.bop .mod (.bi .int (.cons (.v 0) .nil)) (.v 1)) (.k (.int 0)))) (b := Ss.ev Φ gvD (.cons (.par [0, 2] (.v (.bop .fdiv (.v 0) (.v 1)) (.v (.bop .add (.v 2) (.k (.int 1))) .nil))) .nil)) h2
        (fun a m _ _ => by simp_arith [orB, intS, mod_pos (show (0 : Int) < p by omega)]) (fun a m _ _ => by simp_arith [addS, fdiv_pos (show (0 : Int) < p by omega) (show p < 1073741824 by omega)]; rfl) a.natAbs a 0 h1 (Nat.le_refl _) (by unfold BIG; omega)
      simp only [show ((0 : Nat) : Int) = (0 : Int) from rfl] at lp
      simp_arith [b_l_split, lp, tupS, show 2 ≤ SZ from by decide, split]
    · cases h
  · cases h
theorem run_l_is_rest : ∀ e, f2 g_leaves e ≠ .fail → runF (b_l_is_rest.ev Φ gvD) N_l_is_rest.length e = f2 g_leaves e := by
  refine f2_run fun b p v h => ?_
  unfold g_leaves at h
  split at h
  · split at h
    · rename_i b p hk
      cases h
      obtain ⟨h1, h2, h3⟩ := okB hk
      have b64 : ∀ {x : Int}, x.natAbs < BIG → x.natAbs < 2 ^ 64 := fun h => by unfold BIG at h; omega
      have hm0 : (((p - 1) / 2).toNat : Int) = (p - 1) / 2 := by omega
      obtain ⟨x', m', lp⟩ := pow_loop (st := fun f x m => [some (.p (.int b)), some (.p (.int p)), some (.p (.int f)), some (.p (.int x)), some (.p (.int (m : Int)))]) (c := T.ev Φ gvD (.cmp .gt (.v 4) (.k (.int 0)))) (b := Ss.ev Φ gvD (.cons (.set 2 (.ite (.cmp .eq (.bop .mod (.bi .int (.cons (.v 4) .nil)) (.k (.int 2))) (.k (.int 1))) (.bop .mod (.bi .int (.cons (.bop .mul (.v 2) (.v 3)) .nil)) (.v 1)) (.v 2))) (.cons (.par [3, 4] (.v (.bop .mod (.bi .int (.cons (.bop .mul (.v 3) (.v 3)) .nil)) (.v 1)) (.v (.bop .fdiv (.v 4) (.k (.int 2))) .nil))) .nil))) h1 h2
        (fun f x m _ _ => by simp_arith [show decide ((0 : Int) < (m : Int)) = decide (0 < m) from decide_eq_decide.mpr (by omega)])
        (fun f x m ok _ _ => by
          have hp : (0 : Int) < p := by omega
          by_cases hm : m % 2 = 1
          · simp_arith [orB, intS, mod_pos (show (0 : Int) < 2 by decide), mod_pos hp, show ((m : Int) % 2 = 1) = True from eq_true (by omega), mul_64 (b64 ok.1) (b64 ok.2), mul_64 (b64 ok.2) (b64 ok.2), fdiv_pos (show (0 : Int) < 2 by decide) (show (2 : Int) < 1073741824 by decide), hm]
            rfl
          · simp_arith [orB, intS, mod_pos (show (0 : Int) < 2 by decide), mod_pos hp, show ((m : Int) % 2 = 1) = False from eq_false (by omega), mul_64 (b64 ok.2) (b64 ok.2), fdiv_pos (show (0 : Int) < 2 by decide) (show (2 : Int) < 1073741824 by decide), hm]
            rfl)
        (((p - 1) / 2).toNat + 1) 1 (b % p) ((p - 1) / 2).toNat ⟨by unfold BIG; decide, mod_big h1 h2⟩ (by omega) (by unfold BIG; omega)
      rw [hm0] at lp
      simp_arith [b_l_is_rest, orB, intS, mod_pos (show (0 : Int) < p by omega), subS, fdiv_pos (show (0 : Int) < 2 by decide) (show (2 : Int) < 1073741824 by decide), lp, lea, powR]
      rfl
    · cases h
  · cases h
theorem run_l_is_square (P27 : Φ 27 = f2 g_split) (P28 : Φ 28 = f2 g_leaves) : ∀ e, f2 g_sq_at e ≠ .fail → runF (b_l_is_square.ev Φ gvD) N_l_is_square.length e = f2 g_sq_at e := by
  refine f2_run fun a pl v h => ?_
  unfold g_sq_at at h
  split at h
  · split at h
    · rename_i a hk
      cases h
      cases pl <;> simp only [plA, Bool.false_eq_true] at hk
      · rename_i p
        simp_arith [b_l_is_square, P27, sp_ev hk, orB, intS, mod_pos (show (0 : Int) < 2 by decide), parP]
        by_cases hm : (split a p).1 % 2 = 1
        · simp_arith [hm, sqAt]
        · by_cases hp : p = 2
          · subst hp
            simp_arith [hm, sqAt, orB, intS, mod_pos (show (0 : Int) < 8 by decide)]
          · simp_arith [hm, hp, sqAt, P28, le_ev (okP_split hk)]
      · rename_i x
        have hx : x = REAL := (by simpa using hk : REAL = x).symm
        subst hx
        simp_arith [b_l_is_square, show Str.ofString "real" = REAL from rfl, sqAt]
    · cases h
  · cases h
end
end PG

set_option Elab.async false
set_option linter.all false
set_option maxRecDepth 100000
set_option maxHeartbeats 4000000
namespace PG
open PySem L2 M
section
variable {Φ : Nat → En → Res Val}
theorem fin_ev (x y z : Bool) (A B C I U K V : Option Val) : (E.bop .sub (.k (.int 1)) (.bop .mul (.k (.int 2)) (.bi .int (.cons (.cmp .isin (.count (.v 7) (.k (.bl true))) (.lst (.cons (.k (.int 1)) (.cons (.k (.int 3)) .nil)))) .nil)))).ev Φ gvD [A, B, C, I, U, K, V, some (.own 0 [.bl x, .bl y, .bl z])] = .ok (.p (.int (if odd2 x y z = true then -1 else 1))) [A, B, C, I, U, K, V, some (.p (.lst [.bl x, .bl y, .bl z]))] := by
  cases x <;> cases y <;> cases z <;> rfl
def g_lsign (a b pl : D) : Option Val := match a, b with
  | .int a, .int b => if plA a pl = true ∧ plA b pl = true then some (.p (.int (sgn a b pl))) else none
  | _, _ => none
theorem in35l (v : Int) : inS (.int (v % 8)) (.lst [.int 3, .int 5]) = some (r35 v) := in35 v
theorem bvv {i : Nat} {x : Bool} {e : En} (h : e[i]? = some (some (.p (.bl x)))) : (E.v i).ev Φ gvD e = .ok (.p (.bl x)) e := by
  rw [evE_v]; simp [getv, h]
theorem run_l_sign (P27 : Φ 27 = f2 g_split) (P28 : Φ 28 = f2 g_leaves) : ∀ e, f3 g_lsign e ≠ .fail → runF (b_l_sign.ev Φ gvD) N_l_sign.length e = f3 g_lsign e := by
  refine f3_run fun a b pl v h => ?_
  unfold g_lsign at h
  split at h
  · split at h
    · rename_i a b hk
      cases h
      cases pl <;> simp only [plA, Bool.false_eq_true, false_and] at hk
      · rename_i p
        have l1 := le_ev (okP_split hk.1)
        have l2 := le_ev (okP_split hk.2)
        have s1 := sp_ev hk.1
        have s2 := sp_ev hk.2
        by_cases hp : p = 2
        · subst hp
          have hsg : sgn a b (.int 2) = if odd2 (decide ((split a 2).2 % 4 = 3) && decide ((split b 2).2 % 4 = 3)) (decide ((split a 2).1 % 2 = 1) && r35 (split b 2).2) (decide ((split b 2).1 % 2 = 1) && r35 (split a 2).2) = true then -1 else 1 := rfl
          rw [hsg]
          clear hsg l1 l2
          generalize hi : (split a 2).1 = i at *
          generalize hu : (split a 2).2 = u at *
          generalize hj : (split b 2).1 = j at *
          generalize hw : (split b 2).2 = w at *
          generalize hI : decide (i % 2 = 1) = I
          generalize hJ : decide (j % 2 = 1) = Jb
          have e1 : ∀ X Y Z : Option Val, (E.and (.cmp .eq (.bop .mod (.bi .int (.cons (.v 4) .nil)) (.k (.int 4))) (.k (.int 3))) (.cmp .eq (.bop .mod (.bi .int (.cons (.v 6) .nil)) (.k (.int 4))) (.k (.int 3)))).ev Φ gvD [some (.p (.int a)), some (.p (.int b)), Z, X, some (.p (.int u)), Y, some (.p (.int w)), none] = .ok (.p (.bl (decide (u % 4 = 3) && decide (w % 4 = 3)))) [some (.p (.int a)), some (.p (.int b)), Z, X, some (.p (.int u)), Y, some (.p (.int w)), none] :=
            fun X Y Z => and_bb (by simp_arith [orB, intS, mod_pos i4]) (by simp_arith [orB, intS, mod_pos i4])
          have e2 : ∀ Y Z : Option Val, (E.and (.v 3) (.cmp .isin (.bop .mod (.bi .int (.cons (.v 6) .nil)) (.k (.int 8))) (.lst (.cons (.k (.int 3)) (.cons (.k (.int 5)) .nil))))).ev Φ gvD [some (.p (.int a)), some (.p (.int b)), Z, some (.p (.bl I)), some (.p (.int u)), Y, some (.p (.int w)), none] = .ok (.p (.bl (I && r35 w))) [some (.p (.int a)), some (.p (.int b)), Z, some (.p (.bl I)), some (.p (.int u)), Y, some (.p (.int w)), none] :=
            fun Y Z => and_bb (bvv rfl) (by simp_arith [orB, intS, mod_pos i8, lstS, show 2 ≤ SZ from by decide, in35l])
          have e3 : ∀ Y Z : Option Val, (E.and (.v 5) (.cmp .isin (.bop .mod (.bi .int (.cons (.v 4) .nil)) (.k (.int 8))) (.lst (.cons (.k (.int 3)) (.cons (.k (.int 5)) .nil))))).ev Φ gvD [some (.p (.int a)), some (.p (.int b)), Z, Y, some (.p (.int u)), some (.p (.bl Jb)), some (.p (.int w)), none] = .ok (.p (.bl (Jb && r35 u))) [some (.p (.int a)), some (.p (.int b)), Z, Y, some (.p (.int u)), some (.p (.bl Jb)), some (.p (.int w)), none] :=
            fun Y Z => and_bb (bvv rfl) (by simp_arith [orB, intS, mod_pos i8, lstS, show 2 ≤ SZ from by decide, in35l])
          simp_arith [b_l_sign, P27, s1, s2, hi, hj, hu, hw, tupS, show 2 ≤ SZ from by decide, orB, intS, mod_pos i2, par2, hI, hJ, e1, e2, e3, lstS, show 3 ≤ SZ from by decide, ↓fin_ev]
        · have hsg : sgn a b (.int p) = if odd2 (decide ((split a p).1 % 2 = 1) && decide ((split b p).1 % 2 = 1) && decide (p % 4 = 3)) (decide ((split b p).1 % 2 = 1) && !lea (split a p).2 p) (decide ((split a p).1 % 2 = 1) && !lea (split b p).2 p) = true then -1 else 1 := by
            show (if (if p = 2 then two a b else odd a b p) = true then _ else _) = _
            rw [if_neg hp]; rfl
          rw [hsg]
          clear hsg
          generalize hi : (split a p).1 = i at *
          generalize hu : (split a p).2 = u at *
          generalize hj : (split b p).1 = j at *
          generalize hw : (split b p).2 = w at *
          generalize hI : decide (i % 2 = 1) = I
          generalize hJ : decide (j % 2 = 1) = Jb
          have e1 : (E.and (.v 3) (.and (.v 5) (.cmp .eq (.bop .mod (.bi .int (.cons (.v 2) .nil)) (.k (.int 4))) (.k (.int 3))))).ev Φ gvD [some (.p (.int a)), some (.p (.int b)), some (.p (.int p)), some (.p (.bl I)), some (.p (.int u)), some (.p (.bl Jb)), some (.p (.int w)), none] = .ok (.p (.bl (I && (Jb && decide (p % 4 = 3))))) [some (.p (.int a)), some (.p (.int b)), some (.p (.int p)), some (.p (.bl I)), some (.p (.int u)), some (.p (.bl Jb)), some (.p (.int w)), none] :=
            and_bb (bvv rfl) (and_bb (bvv rfl) (by simp_arith [orB, intS, mod_pos i4]))
          have e2 : (E.and (.v 5) (.no (.call 28 [0, 1] (.v (.v 4) (.v (.v 2) .nil))))).ev Φ gvD [some (.p (.int a)), some (.p (.int b)), some (.p (.int p)), some (.p (.bl I)), some (.p (.int u)), some (.p (.bl Jb)), some (.p (.int w)), none] = .ok (.p (.bl (Jb && !lea u p))) [some (.p (.int a)), some (.p (.int b)), some (.p (.int p)), some (.p (.bl I)), some (.p (.int u)), some (.p (.bl Jb)), some (.p (.int w)), none] :=
            and_bb (bvv rfl) (by simp_arith [P28, l1])
          have e3 : (E.and (.v 3) (.no (.call 28 [0, 1] (.v (.v 6) (.v (.v 2) .nil))))).ev Φ gvD [some (.p (.int a)), some (.p (.int b)), some (.p (.int p)), some (.p (.bl I)), some (.p (.int u)), some (.p (.bl Jb)), some (.p (.int w)), none] = .ok (.p (.bl (I && !lea w p))) [some (.p (.int a)), some (.p (.int b)), some (.p (.int p)), some (.p (.bl I)), some (.p (.int u)), some (.p (.bl Jb)), some (.p (.int w)), none] :=
            and_bb (bvv rfl) (by simp_arith [P28, l2])
          simp_arith [b_l_sign, P27, s1, s2, hi, hj, hu, hw, hp, tupS, show 2 ≤ SZ from by decide, orB, intS, mod_pos i2, par2, hI, hJ, e1, e2, e3, lstS, show 3 ≤ SZ from by decide, ↓fin_ev, Bool.and_assoc]
      · rename_i x
        have hx : x = REAL := (by simpa using hk : REAL = x).symm
        subst hx
        have e1 : (T.and (.cmp .lt (.v 0) (.k (.int 0))) (.cmp .lt (.v 1) (.k (.int 0)))).ev Φ gvD [some (.p (.int a)), some (.p (.int b)), some (.p (.str REAL)), none, none, none, none, none] = .ok (decide (a < 0) && decide (b < 0)) [some (.p (.int a)), some (.p (.int b)), some (.p (.str REAL)), none, none, none, none, none] := tand_bb (by simp_arith []) (by simp_arith [])
        have e2 : (E.ite (.and (.cmp .lt (.v 0) (.k (.int 0))) (.cmp .lt (.v 1) (.k (.int 0)))) (.neg (.k (.int 1))) (.k (.int 1))).ev Φ gvD [some (.p (.int a)), some (.p (.int b)), some (.p (.str REAL)), none, none, none, none, none] = .ok (.p (.int (if (decide (a < 0) && decide (b < 0)) = true then -1 else 1))) [some (.p (.int a)), some (.p (.int b)), some (.p (.str REAL)), none, none, none, none, none] := by
          rw [evE_ite, e1, bind_ok]
          cases (decide (a < 0) && decide (b < 0)) <;> rfl
        have t0 : b_l_sign.ev Φ gvD [some (.p (.int a)), some (.p (.int b)), some (.p (.str REAL)), none, none, none, none, none] = .ok (.rt (.p (.int (sgn a b (.str REAL))))) [some (.p (.int a)), some (.p (.int b)), some (.p (.str REAL)), none, none, none, none, none] := by
          unfold b_l_sign
          rw [evSs_cons, evS_iff]
          have : (T.cmp .eq (.v 2) (.k (.str (Str.ofString "real")))).ev Φ gvD [some (.p (.int a)), some (.p (.int b)), some (.p (.str REAL)), none, none, none, none, none] = .ok true [some (.p (.int a)), some (.p (.int b)), some (.p (.str REAL)), none, none, none, none, none] := by
            simp_arith [show Str.ofString "real" = REAL from rfl]
          rw [this, bind_ok, if_pos rfl, evSs_cons, evS_ret, e2, bind_ok, seq_rt, seq_rt]
          rfl
        show runF _ 8 _ = _
        simp_arith [t0]
    · cases h
  · cases h
/-! ### the jar -/
def ct5 (ns : List Int) : List Int := (ns.drop (HT.sIx ns.length 0 none)).take (HT.sIx ns.length ns.length (some 5) - HT.sIx ns.length 0 none)
def cellJ (ns : List Int) (t : Nat) : Int := if (t : Int) < (ns.length : Int) then ns.getD t 0 else 19 * (t : Int) + 3
def mixF : Int → List Int → Int
  | y, [] => y
  | y, c :: cs => mixF ((y * 24043 + c) % 2147482951) cs
def jarJ (ns : List Int) (t : Nat) : J := ⟨if cellJ ns t < 0 ∨ 10 ^ 18 ≤ cellJ ns t then (if cellJ ns t < 0 then -cellJ ns t else cellJ ns t) else 0, mixF (90011 + 6029 * (t : Int)) (ct5 ns ++ [cellJ ns t]), 0⟩
theorem mix_small : ∀ {cs : List Int} {y : Int}, y.natAbs < 1000000000000 → (mixF y cs).natAbs < 1000000000000
  | [], _, h => h
  | c :: cs, y, h => mix_small (cs := cs) (by
    have h3 := Int.emod_nonneg (y * 24043 + c) (by decide : (2147482951 : Int) ≠ 0)
    have h4 := Int.emod_lt_of_pos (y * 24043 + c) (by decide : (0 : Int) < 2147482951)
    omega)
theorem jar_ok {ns : List Int} {t : Nat} (h : t < 64) : okJ 0 (jarJ ns t) := ⟨mix_small (by omega), Int.le_refl _, Int.le_refl _⟩
def g_jar (c t : D) : Option Val := match c, t with
  | .fl xs, .int t => match intsD xs with
    | some ns => if 0 ≤ t ∧ t < 64 ∧ ns.length ≤ 100 then some (.own 0 (jarJ ns t.toNat).d) else none
    | none => none
  | _, _ => none
theorem cut_ct (ns : List Int) : cutD (ns.map D.int) none (some 5) = (ct5 ns).map D.int := by
  simp only [cutD, ct5, List.length_map, List.map_take, List.map_drop]
theorem ct_len (ns : List Int) : (ct5 ns).length ≤ ns.length := by
  unfold ct5
  rw [List.length_take, List.length_drop]
  omega
theorem mix_loop (A B C : Option Val) : ∀ (cs : List Int) (y : Int) (X : Option Val), y.natAbs < 1000000000000 → ∃ X', forS (Tg.ev Φ gvD (.n 4)) (Ss.ev Φ gvD (.cons (.set 3 (.bop .mod (.bi .int (.cons (.bop .add (.bop .mul (.v 3) (.k (.int 24043))) (.v 4)) .nil)) (.k (.int 2147482951)))) .nil)) (cs.map D.int) [A, B, C, some (.p (.int y)), X] = .ok .nx [A, B, C, some (.p (.int (mixF y cs))), X']
  | [], y, X, _ => ⟨X, rfl⟩
  | c :: cs, y, X, h => by
    obtain ⟨X', hi⟩ := mix_loop A B C cs ((y * 24043 + c) % 2147482951) (some (.p (.int c))) (mix_small (cs := [c]) h)
    refine ⟨X', ?_⟩
    rw [List.map_cons]
    simp_arith [forS_cons, mul_64 (show y.natAbs < 2 ^ 64 by omega) (show (24043 : Int).natAbs < 2 ^ 64 by decide), addS, orB, intS, mod_pos (show (0 : Int) < 2147482951 by decide)]
    exact hi
theorem pow18 : powS (.int 10) (.int 18) = some (.p (.int (10 ^ 18))) := rfl
theorem run_l_jar : ∀ e, f2 g_jar e ≠ .fail → runF (b_l_jar.ev Φ gvD) N_l_jar.length e = f2 g_jar e := by
  refine f2_run fun c t v h => ?_
  unfold g_jar at h
  split at h
  · split at h
    · split at h
      · rename_i xs t ns hx hk
        cases h
        have e := intsD_eq hx
        subst e
        obtain ⟨t, rfl⟩ := Int.eq_ofNat_of_zero_le hk.1
        simp only [Int.toNat_natCast]
        have b1 : (t : Int).natAbs < 2 ^ 64 := by omega
        have e1 : ∀ X Y Z : Option Val, (E.ite (.cmp .lt (.v 1) (.bi .len (.cons (.v 0) .nil))) (.ixb 0 (.v 1)) (.bop .add (.bop .mul (.k (.int 19)) (.v 1)) (.k (.int 3)))).ev Φ gvD [some (.p (.fl (ns.map D.int))), some (.p (.int (t : Int))), X, Y, Z] = .ok (.p (.int (cellJ ns t))) [some (.p (.fl (ns.map D.int))), some (.p (.int (t : Int))), X, Y, Z] := by
          intro X Y Z
          by_cases c : (t : Int) < (ns.length : Int)
          · have ha : atI (ns.map D.int) (t : Int) = some (.int (cellJ ns t)) := by
              unfold atI ixN
              rw [List.length_map, if_pos (by omega), if_pos c, Option.bind_some, Int.toNat_natCast, List.getElem?_map, List.getElem?_eq_getElem (show t < ns.length by omega)]
              unfold cellJ
              rw [if_pos c, List.getD_eq_getElem?_getD, List.getElem?_eq_getElem (show t < ns.length by omega)]
              rfl
            simp_arith [orB, lenS, List.length_map, c, idxS, ha]
          · simp_arith [orB, lenS, List.length_map, c, mul_64 (show (19 : Int).natAbs < 2 ^ 64 by decide) b1, addS, cellJ]
        have hy : ((90011 : Int) + 6029 * (t : Int)).natAbs < 1000000000000 := by omega
        obtain ⟨X', e2⟩ := mix_loop (Φ := Φ) (some (.p (.fl (ns.map D.int)))) (some (.p (.int (t : Int)))) (some (.p (.int (cellJ ns t)))) (ct5 ns ++ [cellJ ns t]) (90011 + 6029 * (t : Int)) none hy
        have hl := ct_len ns
        have ec : ∀ Y Z : Option Val, (E.ite (.or (.cmp .lt (.v 2) (.k (.int 0))) (.cmp .ge (.v 2) (.bop .pow (.k (.int 10)) (.k (.int 18))))) (.bi .abs (.cons (.v 2) .nil)) (.k (.int 0))).ev Φ gvD [some (.p (.fl (ns.map D.int))), some (.p (.int (t : Int))), some (.p (.int (cellJ ns t))), Y, Z] = .ok (.p (.int (jarJ ns t).x)) [some (.p (.fl (ns.map D.int))), some (.p (.int (t : Int))), some (.p (.int (cellJ ns t))), Y, Z] := by
          intro Y Z
          have ex : (jarJ ns t).x = if cellJ ns t < 0 ∨ 10 ^ 18 ≤ cellJ ns t then (if cellJ ns t < 0 then -cellJ ns t else cellJ ns t) else 0 := rfl
          rw [ex]
          generalize cellJ ns t = q
          by_cases c1 : q < 0
          · simp_arith [c1, absS]
            rw [if_pos (Or.inl trivial)]
          · by_cases c2 : (10 : Int) ^ 18 ≤ q
            · simp_arith [c1, pow18, c2, absS]
              rw [if_pos (Or.inr trivial)]
            · simp_arith [c1, pow18, c2]
              rw [if_neg (by simp)]
        have en : (E.sl (.v 0) .no (.some (.k (.int 5)))).ev Φ gvD [some (.p (.fl (ns.map D.int))), some (.p (.int (t : Int))), some (.p (.int (cellJ ns t))), some (.p (.int (90011 + 6029 * (t : Int)))), none] = .ok (.own 0 ((ct5 ns).map D.int)) [some (.p (.fl (ns.map D.int))), some (.p (.int (t : Int))), some (.p (.int (cellJ ns t))), some (.p (.int (90011 + 6029 * (t : Int)))), none] := by
          simp_arith [optI, sliceS, cut_ct]
        have hm : (ct5 ns).map D.int ++ [.int (cellJ ns t)] = (ct5 ns ++ [cellJ ns t]).map D.int := by simp
        simp_arith [b_l_jar, e1, mul_64 (show (6029 : Int).natAbs < 2 ^ 64 by decide) b1, addS, en, lstS, show 1 ≤ SZ from by decide, show 3 ≤ SZ from by decide, List.length_map, le_SZ (show (ct5 ns).length + 1 ≤ 1000000 by omega), hm, walkS, e2, ec, J.d]
        rfl
      · cases h
    · cases h
  · cases h
end
end PG

set_option Elab.async false
set_option linter.all false
set_option maxRecDepth 100000
set_option maxHeartbeats 4000000
namespace PG
open PySem L2 M
theorem num_ev {j : J} {t : Int} (h : okJ 999990 j) (h1 : 0 < t) (h2 : t ≤ 1000000) : fJ2 g_num [some (.own 1 j.d), some (.p (.int t))] = .ok (.p (.int (numJ j t).1)) [some (.own 1 (numJ j t).2.d), none] := fJ2_ev (if_pos ⟨h, h1, h2⟩)
theorem num_call {j : J} {t : Int} {R : En} (h : okJ 999990 j) (h1 : 0 < t) (h2 : t ≤ 1000000) : callP (fJ2 g_num) 2 [0, 1] [.ln 0, .v (.p (.int t))] (some (.own 1 j.d) :: R) = .ok (.p (.int (numJ j t).1)) (some (.own 1 (numJ j t).2.d) :: R) := callJ2 rfl (num_ev h h1 h2)
theorem one_call {j : J} {xs : List D} {R : En} (h : okJ 1000000 j) (h1 : xs ≠ []) (h2 : xs.length ≤ 1000) : callP (fJ2 g_one) 2 [0, 1] [.ln 0, .v (.p (.lst xs))] (some (.own 1 j.d) :: R) = .ok (.p (oneV j xs)) (some (.own 1 (dipJ j (xs.length : Int)).d) :: R) := callJ2 rfl (one_ev h h1 h2)
def gA1 (j : J) := numJ j 1000000
def gA2 (j : J) := numJ (gA1 j).2 90
def gA3 (j : J) := numJ (gA2 j).2 60
def lA (j : J) : List D := [.int (gA1 j).1, .int ((gA2 j).1 * 11), .int ((gA3 j).1 * 4)]
def aJ (j : J) : Int := toI (oneV (gA3 j).2 (lA j))
def jA (j : J) : J := dipJ (gA3 j).2 3
def gB1 (j : J) := numJ (jA j) 1000
def gB2 (j : J) := numJ (gB1 j).2 90
def lB (j : J) : List D := [.int (gB1 j).1, .int (aJ j), .int (-aJ j), .int 999983, .int (-999983), .int ((gB2 j).1 * 9)]
def bJ (j : J) : Int := toI (oneV (gB2 j).2 (lB j))
def jB (j : J) : J := dipJ (gB2 j).2 6
theorem okN_by {n : Int} (h : n ≠ 0) (h2 : n.natAbs ≤ 1000000) : okN n = true := by simp [okN, h, h2]
theorem A_ok {k : Int} {j : J} (h : okJ k j) : okJ (k + 4) (gA1 j).2 ∧ okJ (k + 8) (gA2 j).2 ∧ okJ (k + 12) (gA3 j).2 ∧ okJ (k + 13) (jA j) ∧ okN (aJ j) = true ∧ oneV (gA3 j).2 (lA j) = .int (aJ j) ∧ (gA2 j).1.natAbs ≤ 90 ∧ (gA3 j).1.natAbs ≤ 60 := by
  obtain ⟨h1, n1, m1⟩ := numJ_ok (t := 1000000) h (by decide)
  obtain ⟨h2, n2, m2⟩ := numJ_ok (t := 90) h1 (by decide)
  obtain ⟨h3, n3, m3⟩ := numJ_ok (t := 60) h2 (by decide)
  have h4 := dip_ok (t := 3) h3
  have hm : oneV (gA3 j).2 (lA j) ∈ lA j := oneV_mem (by simp [lA])
  have m1 : (gA1 j).1.natAbs ≤ 1000000 := m1
  have m2 : (gA2 j).1.natAbs ≤ 90 := m2
  have m3 : (gA3 j).1.natAbs ≤ 60 := m3
  have n1 : (gA1 j).1 ≠ 0 := n1
  have n2 : (gA2 j).1 ≠ 0 := n2
  have n3 : (gA3 j).1 ≠ 0 := n3
  have hv : ∃ i : Int, oneV (gA3 j).2 (lA j) = .int i ∧ okN i = true := by
    rcases List.mem_cons.mp hm with e | hm
    · exact ⟨_, e, okN_by n1 m1⟩
    rcases List.mem_cons.mp hm with e | hm
    · exact ⟨_, e, okN_by (by omega) (by omega)⟩
    exact ⟨_, List.mem_singleton.mp hm, okN_by (by omega) (by omega)⟩
  obtain ⟨i, hi, ho⟩ := hv
  have hai : aJ j = i := by unfold aJ; rw [hi]; rfl
  refine ⟨h1, okJ_mono h2 (by omega), okJ_mono h3 (by omega), okJ_mono h4 (by omega), by rw [hai]; exact ho, by rw [hai]; exact hi, m2, m3⟩
theorem B_ok {k : Int} {j : J} (h : okJ k j) : okJ (k + 17) (gB1 j).2 ∧ okJ (k + 21) (gB2 j).2 ∧ okJ (k + 22) (jB j) ∧ okN (bJ j) = true ∧ oneV (gB2 j).2 (lB j) = .int (bJ j) ∧ (gB2 j).1.natAbs ≤ 90 := by
  obtain ⟨_, _, _, h0, ha, _⟩ := A_ok h
  obtain ⟨ha1, ha2⟩ := okN_of ha
  obtain ⟨h1, n1, m1⟩ := numJ_ok (t := 1000) h0 (by decide)
  obtain ⟨h2, n2, m2⟩ := numJ_ok (t := 90) h1 (by decide)
  have h4 := dip_ok (t := 6) h2
  have hm : oneV (gB2 j).2 (lB j) ∈ lB j := oneV_mem (by simp [lB])
  have m1 : (gB1 j).1.natAbs ≤ 1000 := m1
  have m2 : (gB2 j).1.natAbs ≤ 90 := m2
  have n1 : (gB1 j).1 ≠ 0 := n1
  have n2 : (gB2 j).1 ≠ 0 := n2
  have hv : ∃ i : Int, oneV (gB2 j).2 (lB j) = .int i ∧ okN i = true := by
    rcases List.mem_cons.mp hm with e | hm
    · exact ⟨_, e, okN_by n1 (by omega)⟩
    rcases List.mem_cons.mp hm with e | hm
    · exact ⟨_, e, ha⟩
    rcases List.mem_cons.mp hm with e | hm
    · exact ⟨_, e, okN_by (by omega) (by omega)⟩
    rcases List.mem_cons.mp hm with e | hm
    · exact ⟨_, e, by decide⟩
    rcases List.mem_cons.mp hm with e | hm
    · exact ⟨_, e, by decide⟩
    exact ⟨_, List.mem_singleton.mp hm, okN_by (by omega) (by omega)⟩
  obtain ⟨i, hi, ho⟩ := hv
  have hai : bJ j = i := by unfold bJ; rw [hi]; rfl
  exact ⟨okJ_mono h1 (by omega), okJ_mono h2 (by omega), okJ_mono h4 (by omega), by rw [hai]; exact ho, by rw [hai]; exact hi, m2⟩
/-! ### texts -/
theorem plS_small {ns : List Int} (h : ns.all okN = true) : ∀ q ∈ plS ns, q.natAbs < 1000000000000 := fun q hq => by
  have := plS_isPr h hq
  simp only [isPr, Bool.and_eq_true, decide_eq_true_eq] at this
  omega
theorem realOk : PyData.strOk REAL = true := by decide +kernel
theorem smR : smD (.str REAL) = some 4 := by
  simp only [smD]
  rw [if_pos realOk]
  rfl
theorem sm_plD {ns : List Int} (h : ns.all okN = true) (hl : ns.length ≤ 3) : ∃ w, smDs (plD ns) = some w ∧ w ≤ 3000 ∧ dpDs (plD ns) = 0 := by
  have h1 := plD_len h (by omega)
  rw [plD, List.length_cons, List.length_map] at h1
  exact ⟨4 + 41 * (plS ns).length + 1, by unfold plD; simp only [smDs, smR, smDs_ints (plS_small h)], by omega, by unfold plD; simp only [dpDs, dpD, dpDs_ints]; rfl⟩
theorem sm_filter {p : D → Bool} : ∀ {xs : List D} {w : Nat}, smDs xs = some w → ∃ w', smDs (xs.filter p) = some w' ∧ w' ≤ w ∧ dpDs (xs.filter p) ≤ dpDs xs
  | [], w, h => ⟨w, h, Nat.le_refl _, Nat.le_refl _⟩
  | x :: xs, w, h => by
    simp only [smDs] at h
    split at h
    · rename_i a b ha hb
      cases h
      obtain ⟨w', h1, h2, h3⟩ := sm_filter (p := p) hb
      rw [List.filter_cons]
      split
      · exact ⟨a + w' + 1, by simp only [smDs, ha, h1], by omega, by simp only [dpDs]; omega⟩
      · exact ⟨w', h1, by omega, by simp only [dpDs]; omega⟩
    · cases h
theorem rep_pls {ns : List Int} (h : ns.all okN = true) (hl : ns.length ≤ 3) : reprS [.lst [.tup (plD ns), .tup (plD ns), .tup [.str REAL, .int 2]]] = some (.p (.str (repT (.lst [.tup (plD ns), .tup (plD ns), .tup [.str REAL, .int 2]])))) := by
  obtain ⟨w, h1, h2, h3⟩ := sm_plD h hl
  have h4 : smDs [.str REAL, .int 2] = some 46 := by
    simp only [smDs, smR]
    rfl
  exact repr_ok (w := w + (w + (46 + 0 + 1) + 1) + 1) (by simp only [smD, smDs, h1] at h4 ⊢; rw [h4]) (by omega) (by simp only [dpD, dpDs, h3]; decide)
theorem rep_two {x : D} {w : Nat} (h : smD x = some w) (hw : w ≤ 10000) (hd : dpD x ≤ 5) : reprS [.lst [x, x]] = some (.p (.str (repT (.lst [x, x])))) :=
  repr_ok (w := w + (w + 0 + 1) + 1) (by simp only [smD, smDs, h]) (by omega) (by simp only [dpD, dpDs]; omega)
theorem rep_sgn (a b : Int) (pl : D) : reprS [.lst [.int (sgn a b pl), .int (sgn a b pl)]] = some (.p (.str (repT (.lst [.int (sgn a b pl), .int (sgn a b pl)])))) :=
  rep_two (w := 40) (by unfold sgn; split <;> rfl) (by decide) (by simp [dpD])
theorem rep_bl (q : Bool) : reprS [.lst [.bl q, .bl q]] = some (.p (.str (repT (.lst [.bl q, .bl q])))) := rep_two (w := 0) rfl (by decide) (by simp [dpD])
theorem rep_odd {a b : Int} (h : [a, b].all okN = true) (p : D → Bool) : reprS [.lst [.tup ((plD [a, b]).filter p), .tup ((plD [a, b]).filter p)]] = some (.p (.str (repT (.lst [.tup ((plD [a, b]).filter p), .tup ((plD [a, b]).filter p)])))) := by
  obtain ⟨w, h1, h2, h3⟩ := sm_plD h (by simp)
  obtain ⟨w', h4, h5, h6⟩ := sm_filter (p := p) h1
  exact rep_two (w := w') (by simp only [smD, h4]) (by omega) (by simp only [dpD]; omega)
section
variable {Φ : Nat → En → Res Val}
theorem stA_ev (P23 : Φ 23 = fJ2 g_one) (P24 : Φ 24 = fJ2 g_num) {j : J} (h : okJ 999900 j) (R : En) : (E.call 23 [0, 1] (.ln 0 (.v (.fz (.lst (.cons (.call 24 [0, 1] (.ln 0 (.v (.k (.int 1000000)) .nil))) (.cons (.bop .mul (.call 24 [0, 1] (.ln 0 (.v (.k (.int 90)) .nil))) (.k (.int 11))) (.cons (.bop .mul (.call 24 [0, 1] (.ln 0 (.v (.k (.int 60)) .nil))) (.k (.int 4))) .nil))))) .nil))).ev Φ gvD (some (.own 1 j.d) :: R) = .ok (.p (.int (aJ j))) (some (.own 1 (jA j).d) :: R) := by
  obtain ⟨h1, h2, h3, h4, h5, h6, m2, m3⟩ := A_ok h
  have c1 := num_call (R := R) (t := 1000000) (okJ_mono h (by decide)) (by decide) (by decide)
  have c2 := num_call (R := R) (t := 90) (okJ_mono h1 (by decide)) (by decide) (by decide)
  have c3 := num_call (R := R) (t := 60) (okJ_mono h2 (by decide)) (by decide) (by decide)
  have c4 := one_call (R := R) (xs := lA j) (okJ_mono h3 (by decide)) (by simp [lA]) (by simp [lA])
  simp only [show (numJ j 1000000) = gA1 j from rfl, show (numJ (gA1 j).2 90) = gA2 j from rfl, show (numJ (gA2 j).2 60) = gA3 j from rfl, h6] at c1 c2 c3 c4
  have hl : ((lA j).length : Int) = 3 := rfl
  rw [hl] at c4
  simp only [lA] at c4
  simp_arith [P23, P24, c1, c2, c3, mul_64 (show (gA2 j).1.natAbs < 2 ^ 64 by omega) (show (11 : Int).natAbs < 2 ^ 64 by decide), mul_64 (show (gA3 j).1.natAbs < 2 ^ 64 by omega) (show (4 : Int).natAbs < 2 ^ 64 by decide), lstS, show 3 ≤ SZ from by decide, c4]
  rfl
theorem stB_ev (P23 : Φ 23 = fJ2 g_one) (P24 : Φ 24 = fJ2 g_num) {j : J} (h : okJ 999900 j) (T : Option Val) (R : En) : (E.call 23 [0, 1] (.ln 0 (.v (.fz (.lst (.cons (.call 24 [0, 1] (.ln 0 (.v (.k (.int 1000)) .nil))) (.cons (.v 2) (.cons (.neg (.v 2)) (.cons (.k (.int 999983)) (.cons (.neg (.k (.int 999983))) (.cons (.bop .mul (.call 24 [0, 1] (.ln 0 (.v (.k (.int 90)) .nil))) (.k (.int 9))) .nil)))))))) .nil))).ev Φ gvD (some (.own 1 (jA j).d) :: T :: some (.p (.int (aJ j))) :: R) = .ok (.p (.int (bJ j))) (some (.own 1 (jB j).d) :: T :: some (.p (.int (aJ j))) :: R) := by
  obtain ⟨_, _, _, h0, _, _, _, _⟩ := A_ok h
  obtain ⟨h1, h2, h4, h5, h6, m2⟩ := B_ok h
  have c1 := num_call (R := T :: some (.p (.int (aJ j))) :: R) (t := 1000) (okJ_mono h0 (by decide)) (by decide) (by decide)
  have c2 := num_call (R := T :: some (.p (.int (aJ j))) :: R) (t := 90) (okJ_mono h1 (by decide)) (by decide) (by decide)
  have c4 := one_call (R := T :: some (.p (.int (aJ j))) :: R) (xs := lB j) (okJ_mono h2 (by decide)) (by simp [lB]) (by simp [lB])
  simp only [show (numJ (jA j) 1000) = gB1 j from rfl, show (numJ (gB1 j).2 90) = gB2 j from rfl, h6] at c1 c2 c4
  have hl : ((lB j).length : Int) = 6 := rfl
  rw [hl] at c4
  simp only [lB] at c4
  simp_arith [P23, P24, c1, c2, negS, mul_64 (show (gB2 j).1.natAbs < 2 ^ 64 by omega) (show (9 : Int).natAbs < 2 ^ 64 by decide), lstS, show 6 ≤ SZ from by decide, c4]
  rfl
theorem mul2 (x : D) : mulS (.lst [x]) (.int 2) = some (.own 0 [x, x]) := rfl
theorem sgn_odd (a b : Int) (pl : D) : decide (sgn a b pl = -1) = oddAt a b pl := by
  unfold sgn
  cases oddAt a b pl <;> rfl
theorem sg_ev {a b : Int} {pl : D} (h : okN a = true) (h' : okN b = true) (hp : plOk pl = true) : f3 g_sign [some (.p (.int a)), some (.p (.int b)), some (.p pl)] = .ok (.p (.int (sgn a b pl))) [none, none, none] := f3_ev (if_pos ⟨h, h', hp⟩)
theorem is_ev {a : Int} {pl : D} (h : okN a = true) (hp : plOk pl = true) : f2 g_is_square [some (.p (.int a)), some (.p pl)] = .ok (.p (.bl (sqAt a pl))) [none, none] := f2_ev (if_pos ⟨h, hp⟩)
theorem ls_ev {a b : Int} {pl : D} (h : okN a = true) (h' : okN b = true) (hp : plOk pl = true) : f3 g_lsign [some (.p (.int a)), some (.p (.int b)), some (.p pl)] = .ok (.p (.int (sgn a b pl))) [none, none, none] := f3_ev (if_pos ⟨plA_of h hp, plA_of h' hp⟩)
abbrev bIn : Ss := (.cons (.set 7 (.lst (.cons (.call 19 [0, 1, 2] (.v (.v 2) (.v (.v 3) (.v (.v 6) .nil)))) (.cons (.callk 19 [2, 1, 0] .nil (.cons (Str.ofString "place") (.v 6) (.cons (Str.ofString "b") (.v 3) (.cons (Str.ofString "a") (.v 2) .nil)))) .nil)))) (.cons (.iff (.cmp .ne (.bi .repr (.cons (.v 7) .nil)) (.bi .repr (.cons (.bop .mul (.lst (.cons (.call 29 [0, 1, 2] (.v (.v 2) (.v (.v 3) (.v (.v 6) .nil)))) .nil)) (.k (.int 2))) .nil))) (.cons (.ret (.k (.bl false))) .nil) .nil) (.cons (.set 7 (.lst (.cons (.call 18 [0, 1] (.v (.v 2) (.v (.v 6) .nil))) (.cons (.callk 18 [1, 0] .nil (.cons (Str.ofString "place") (.v 6) (.cons (Str.ofString "number") (.v 2) .nil))) .nil)))) (.cons (.iff (.cmp .ne (.bi .repr (.cons (.v 7) .nil)) (.bi .repr (.cons (.bop .mul (.lst (.cons (.call 30 [0, 1] (.v (.v 2) (.v (.v 6) .nil))) .nil)) (.k (.int 2))) .nil))) (.cons (.ret (.k (.bl false))) .nil) .nil) .nil))))
theorem in_loop (P19 : Φ 19 = f3 g_sign) (P29 : Φ 29 = f3 g_lsign) (P18 : Φ 18 = f2 g_is_square) (P30 : Φ 30 = f2 g_sq_at) {a b : Int} (ha : okN a = true) (hb : okN b = true) (A T C E8 F : Option Val) : ∀ (pls : List D) (X Y : Option Val), (∀ pl ∈ pls, plOk pl = true) → ∃ X' Y', forS (Tg.ev Φ gvD (.n 6)) (Ss.ev Φ gvD bIn) pls [A, T, some (.p (.int a)), some (.p (.int b)), C, F, X, Y, E8] = .ok .nx [A, T, some (.p (.int a)), some (.p (.int b)), C, F, X', Y', E8]
  | [], X, Y, _ => ⟨X, Y, rfl⟩
  | pl :: pls, X, Y, h => by
    have hp := h pl List.mem_cons_self
    obtain ⟨X', Y', hi⟩ := in_loop P19 P29 P18 P30 ha hb A T C E8 F pls (some (.p pl)) (some (.p (.lst [.bl (sqAt a pl), .bl (sqAt a pl)]))) (fun p q => h p (List.mem_cons_of_mem _ q))
    refine ⟨X', Y', ?_⟩
    have hx : ∀ e : En, e = [A, T, some (.p (.int a)), some (.p (.int b)), C, F, some (.p pl), Y, E8] → Ss.ev Φ gvD bIn e = .ok .nx [A, T, some (.p (.int a)), some (.p (.int b)), C, F, some (.p pl), some (.p (.lst [.bl (sqAt a pl), .bl (sqAt a pl)])), E8] := by
      intro e he
      subst he
      simp_arith [bIn, P19, P29, P18, P30, sg_ev ha hb hp, ls_ev ha hb hp, is_ev ha hp, sq_ev (plA_of ha hp), lstS, show 1 ≤ SZ from by decide, show 2 ≤ SZ from by decide, mul2, rep_sgn, rep_bl]
    rw [forS_cons, evTg_n, seq_nx]
    simp only [List.set_cons_succ, List.set_cons_zero]
    rw [hx _ rfl, turn_nx]
    exact hi
end
end PG

set_option Elab.async false
set_option linter.all false
set_option maxRecDepth 100000
set_option maxHeartbeats 4000000
namespace PG
open PySem L2 M
section
variable {Φ : Nat → En → Res Val}
def g_right (j : J) : Option (Val × J) := if okJ 900000 j then some (.p (.bl true), jB (jB (jB (jB j)))) else none
abbrev bR : Ss := match b_l_right_k02 with
  | .cons (.fr _ _ b) _ => b
  | _ => .nil
theorem right_eq : b_l_right_k02 = .cons (.fr (.n 1) (.rng1 (.k (.int 4))) bR) (.cons (.ret (.k (.bl true))) .nil) := rfl
theorem due_cmp (P20 : Φ 20 = f1 g_places) {a b : Int} (ho : [a, b].all okN = true) (A T X5 X6 X7 X8 : Option Val) : (M.T.cmp .ne (.bi .repr (.cons (.lst (.cons (.call 20 [0] (.v (.tup (.cons (.v 2) (.cons (.v 3) .nil))) .nil)) (.cons (.callk 20 [0] .nil (.cons (Str.ofString "numbers") (.tup (.cons (.v 2) (.cons (.v 3) .nil))) .nil)) (.cons (.call 20 [0] (.v (.tup .nil) .nil)) .nil)))) .nil)) (.bi .repr (.cons (.bop .add (.bop .mul (.lst (.cons (.bi .tuple (.cons (.v 4) .nil)) .nil)) (.k (.int 2))) (.lst (.cons (.tup (.cons (.k (.str (Str.ofString "real"))) (.cons (.k (.int 2)) .nil))) .nil))) .nil))).ev Φ gvD [A, T, some (.p (.int a)), some (.p (.int b)), some (.own 0 (plD [a, b])), X5, X6, X7, X8] = .ok false [A, T, some (.p (.int a)), some (.p (.int b)), some (.p (.lst (plD [a, b]))), X5, X6, X7, X8] := by
  have e2 := pls_ev (ns := [a, b]) ho (by simp)
  have e3 := pls_ev (ns := []) (by simp) (by simp)
  simp only [List.map_cons, List.map_nil] at e2 e3
  rw [show plD [] = [.str REAL, .int 2] from rfl] at e3
  have hr := rep_pls ho (by simp)
  simp_arith [P20, tupS, show 2 ≤ SZ from by decide, e2, e3, lstS, show 3 ≤ SZ from by decide, show 1 ≤ SZ from by decide, tupleS, mul2, addS, show Str.ofString "real" = REAL from rfl, hr]
theorem odd_cmp (P21 : Φ 21 = f2 g_odd_places) {a b : Int} (ha : okN a = true) (hb : okN b = true) (A T X4 X5 X6 X7 : Option Val) : (M.T.cmp .ne (.bi .repr (.cons (.lst (.cons (.call 21 [0, 1] (.v (.v 2) (.v (.v 3) .nil))) (.cons (.callk 21 [1, 0] .nil (.cons (Str.ofString "b") (.v 3) (.cons (Str.ofString "a") (.v 2) .nil))) .nil))) .nil)) (.bi .repr (.cons (.lst (.cons (.v 8) (.cons (.v 8) .nil))) .nil))).ev Φ gvD [A, T, some (.p (.int a)), some (.p (.int b)), X4, X5, X6, X7, some (.p (.tup ((plD [a, b]).filter fun pl => oddAt a b pl)))] = .ok false [A, T, some (.p (.int a)), some (.p (.int b)), X4, X5, X6, X7, some (.p (.tup ((plD [a, b]).filter fun pl => oddAt a b pl)))] := by
  have ho : [a, b].all okN = true := by simp [ha, hb]
  have e1 : f2 g_odd_places [some (.p (.int a)), some (.p (.int b))] = .ok (.p (.tup ((plD [a, b]).filter fun pl => oddAt a b pl))) [none, none] := f2_ev (if_pos ⟨ha, hb⟩)
  have hr := rep_odd ho (fun pl => oddAt a b pl)
  simp_arith [P21, e1, lstS, show 2 ≤ SZ from by decide, hr]
theorem odd_set (P29 : Φ 29 = f3 g_lsign) {a b : Int} (ha : okN a = true) (hb : okN b = true) (A T X5 X6 X7 X8 : Option Val) : (E.comp (.v 6) (.n 6) (.seq (.v 4)) (.yes (.cmp .eq (.call 29 [0, 1, 2] (.v (.v 2) (.v (.v 3) (.v (.v 6) .nil)))) (.neg (.k (.int 1))))) [6]).ev Φ gvD [A, T, some (.p (.int a)), some (.p (.int b)), some (.p (.lst (plD [a, b]))), X5, X6, X7, X8] = .ok (.own 0 ((plD [a, b]).filter fun pl => oddAt a b pl)) [A, T, some (.p (.int a)), some (.p (.int b)), some (.p (.lst (plD [a, b]))), X5, none, X7, X8] := by
  have ho : [a, b].all okN = true := by simp [ha, hb]
  have ei : (It.seq (.v 4)).ev Φ gvD [A, T, some (.p (.int a)), some (.p (.int b)), some (.p (.lst (plD [a, b]))), X5, X6, X7, X8] = .ok (plD [a, b]) [A, T, some (.p (.int a)), some (.p (.int b)), some (.p (.lst (plD [a, b]))), X5, X6, X7, X8] := by
    simp_arith [walkS]
  have hl := plD_len ho (by simp)
  have := comp_gen (ft := Tg.ofC (.n 6)) (fc := Oc.ev Φ gvD (.yes (.cmp .eq (.call 29 [0, 1, 2] (.v (.v 2) (.v (.v 3) (.v (.v 6) .nil)))) (.neg (.k (.int 1)))))) (fe := fun e => (E.ev Φ gvD (.v 6) e).frz) (vs := [6]) [A, T, some (.p (.int a)), some (.p (.int b)), some (.p (.lst (plD [a, b]))), X5, none, X7, X8] (fun pl => oddAt a b pl) id (plD [a, b]) [] [A, T, some (.p (.int a)), some (.p (.int b)), some (.p (.lst (plD [a, b]))), X5, X6, X7, X8]
    (fun pl hp => ⟨_, _, rfl, by
      have hp := plD_ok ho pl hp
      simp_arith [P29, ls_ev ha hb hp, negS, sgn_odd]
      rfl, rfl, fun _ => ⟨_, rfl, rfl⟩⟩) rfl (by simp; omega)
  rw [evE_comp, ei, bind_ok]
  simpa using this
theorem body_ev (P18 : Φ 18 = f2 g_is_square) (P19 : Φ 19 = f3 g_sign) (P20 : Φ 20 = f1 g_places) (P21 : Φ 21 = f2 g_odd_places) (P23 : Φ 23 = fJ2 g_one) (P24 : Φ 24 = fJ2 g_num) (P26 : Φ 26 = f1 g_lplaces) (P29 : Φ 29 = f3 g_lsign) (P30 : Φ 30 = f2 g_sq_at) {j : J} (h : okJ 999900 j) (T x2 x3 x4 x5 x6 x7 x8 : Option Val) :
    ∃ y2 y3 y4 y5 y6 y7 y8, Ss.ev Φ gvD bR [some (.own 1 j.d), T, x2, x3, x4, x5, x6, x7, x8] = .ok .nx [some (.own 1 (jB j).d), T, y2, y3, y4, y5, y6, y7, y8] := by
  obtain ⟨_, _, _, _, ha, _⟩ := A_ok h
  obtain ⟨_, _, _, hb, _⟩ := B_ok h
  have ho : [aJ j, bJ j].all okN = true := by simp [ha, hb]
  have sA := stA_ev (Φ := Φ) P23 P24 h [T, x2, x3, x4, x5, x6, x7, x8]
  have sB := stB_ev (Φ := Φ) P23 P24 h T [x3, x4, x5, x6, x7, x8]
  have e4 : f1 g_lplaces [some (.p (.lst [.int (aJ j), .int (bJ j)]))] = .ok (.own 0 (plD [aJ j, bJ j])) [none] := f1_ev (by
    show (match intsD ([aJ j, bJ j].map D.int) with | some ns => if ns.all okN = true ∧ ns.length ≤ 6 then some (Val.own 0 (plD ns)) else none | none => none) = _
    rw [intsD_map]
    simp only
    rw [if_pos ⟨ho, by simp⟩])
  generalize hA : aJ j = a at *
  generalize hB : bJ j = b at *
  have hl := plD_len ho (by simp)
  have h5 : ∀ pl ∈ plD [a, b] ++ [.int 3, .int 5, .int 7, .int 101, .int 999979], plOk pl = true := by
    intro pl hp
    rcases List.mem_append.mp hp with e | e
    · exact plD_ok ho pl e
    · simp only [List.mem_cons, List.not_mem_nil, or_false] at e
      rcases e with e | e | e | e | e <;> subst e
      · exact pm_isPr pm3 (by decide)
      · exact pm_isPr pm5 (by decide)
      · exact pm_isPr pm7 (by decide)
      · exact pm_isPr pm101 (by decide)
      · exact pm_isPr pm999979 (by decide)
  obtain ⟨X', Y', lp⟩ := in_loop (Φ := Φ) P19 P29 P18 P30 ha hb (some (.own 1 (jB j).d)) T (some (.p (.lst (plD [a, b])))) x8 (some (.p (.lst (plD [a, b] ++ [.int 3, .int 5, .int 7, .int 101, .int 999979])))) (plD [a, b] ++ [.int 3, .int 5, .int 7, .int 101, .int 999979]) x6 x7 h5
  have dc := due_cmp (Φ := Φ) P20 ho (some (.own 1 (jB j).d)) T x5 x6 x7 x8
  have os := odd_set (Φ := Φ) P29 ha hb (some (.own 1 (jB j).d)) T (some (.p (.lst (plD [a, b] ++ [.int 3, .int 5, .int 7, .int 101, .int 999979])))) X' Y' x8
  have oc := odd_cmp (Φ := Φ) P21 ha hb (some (.own 1 (jB j).d)) T (some (.p (.lst (plD [a, b])))) (some (.p (.lst (plD [a, b] ++ [.int 3, .int 5, .int 7, .int 101, .int 999979])))) none Y'
  refine ⟨some (.p (.int a)), some (.p (.int b)), some (.p (.lst (plD [a, b]))), some (.p (.lst (plD [a, b] ++ [.int 3, .int 5, .int 7, .int 101, .int 999979]))), none, Y', some (.p (.tup ((plD [a, b]).filter fun pl => oddAt a b pl))), ?_⟩
  have q4 : (E.call 26 [0] (.v (.fz (.lst (.cons (.v 2) (.cons (.v 3) .nil)))) .nil)).ev Φ gvD [some (.own 1 (jB j).d), T, some (.p (.int a)), some (.p (.int b)), x4, x5, x6, x7, x8] = .ok (.own 0 (plD [a, b])) [some (.own 1 (jB j).d), T, some (.p (.int a)), some (.p (.int b)), x4, x5, x6, x7, x8] := by
    simp_arith [P26, lstS, show 2 ≤ SZ from by decide, e4]
  have q5 : (E.bop .add (.v 4) (.lst (.cons (.k (.int 3)) (.cons (.k (.int 5)) (.cons (.k (.int 7)) (.cons (.k (.int 101)) (.cons (.k (.int 999979)) .nil))))))).ev Φ gvD [some (.own 1 (jB j).d), T, some (.p (.int a)), some (.p (.int b)), some (.p (.lst (plD [a, b]))), x5, x6, x7, x8] = .ok (.own 0 (plD [a, b] ++ [.int 3, .int 5, .int 7, .int 101, .int 999979])) [some (.own 1 (jB j).d), T, some (.p (.int a)), some (.p (.int b)), some (.p (.lst (plD [a, b]))), x5, x6, x7, x8] := by
    simp_arith [lstS, show 5 ≤ SZ from by decide, addS, le_SZ (show (plD [a, b]).length + 5 ≤ 1000000 by omega)]
  have q6 : (It.seq (.v 5)).ev Φ gvD [some (.own 1 (jB j).d), T, some (.p (.int a)), some (.p (.int b)), some (.p (.lst (plD [a, b]))), some (.own 0 (plD [a, b] ++ [.int 3, .int 5, .int 7, .int 101, .int 999979])), x6, x7, x8] = .ok (plD [a, b] ++ [.int 3, .int 5, .int 7, .int 101, .int 999979]) [some (.own 1 (jB j).d), T, some (.p (.int a)), some (.p (.int b)), some (.p (.lst (plD [a, b]))), some (.p (.lst (plD [a, b] ++ [.int 3, .int 5, .int 7, .int 101, .int 999979]))), x6, x7, x8] := by
    rw [evIt_seq, evE_v]
    simp only [getv, List.getElem?_cons_succ, List.getElem?_cons_zero, isOwn_own, if_true, frz_own, List.set_cons_succ, List.set_cons_zero, frz_ok, frz_p, bind_ok, walkS, lift_some]
  show Ss.ev Φ gvD (.cons _ (.cons _ (.cons _ (.cons (.iff _ _ .nil) (.cons _ (.cons (.fr _ _ bIn) (.cons (.set 8 (.bi .tuple (.cons _ .nil))) (.cons (.iff _ _ .nil) .nil)))))))) _ = _
  simp only [evSs_cons, evSs_nil, evS_set, evS_iff, evS_fr, sA, sB, q4, dc, q5, q6, lp, evE_bi, evEs_cons, evEs_nil, os, oc, bind_ok, frz_ok, frz_own, frz_p, seq_nx, lift_some, Bool.false_eq_true, if_false, List.set_cons_succ, List.set_cons_zero, Bi.sem, tupleS]
theorem run_l_right_k02 (P18 : Φ 18 = f2 g_is_square) (P19 : Φ 19 = f3 g_sign) (P20 : Φ 20 = f1 g_places) (P21 : Φ 21 = f2 g_odd_places) (P23 : Φ 23 = fJ2 g_one) (P24 : Φ 24 = fJ2 g_num) (P26 : Φ 26 = f1 g_lplaces) (P29 : Φ 29 = f3 g_lsign) (P30 : Φ 30 = f2 g_sq_at) : ∀ e, fJ1 g_right e ≠ .fail → runF (b_l_right_k02.ev Φ gvD) N_l_right_k02.length e = fJ1 g_right e := by
  rw [right_eq]
  refine fJ1_run fun j v j' h => ?_
  unfold g_right at h
  split at h
  · rename_i hk
    cases h
    obtain ⟨_, _, k1, _⟩ := B_ok hk
    obtain ⟨_, _, k2, _⟩ := B_ok k1
    obtain ⟨_, _, k3, _⟩ := B_ok k2
    obtain ⟨a2, a3, a4, a5, a6, a7, a8, s1⟩ := body_ev (Φ := Φ) P18 P19 P20 P21 P23 P24 P26 P29 P30 (okJ_mono hk (by decide)) (some (.p (.int 0))) none none none none none none none
    obtain ⟨b2, b3, b4, b5, b6, b7, b8, s2⟩ := body_ev (Φ := Φ) P18 P19 P20 P21 P23 P24 P26 P29 P30 (okJ_mono k1 (by decide)) (some (.p (.int 1))) a2 a3 a4 a5 a6 a7 a8
    obtain ⟨c2, c3, c4, c5, c6, c7, c8, s3⟩ := body_ev (Φ := Φ) P18 P19 P20 P21 P23 P24 P26 P29 P30 (okJ_mono k2 (by decide)) (some (.p (.int 2))) b2 b3 b4 b5 b6 b7 b8
    obtain ⟨d2, d3, d4, d5, d6, d7, d8, s4⟩ := body_ev (Φ := Φ) P18 P19 P20 P21 P23 P24 P26 P29 P30 (okJ_mono k3 (by decide)) (some (.p (.int 3))) c2 c3 c4 c5 c6 c7 c8
    have hr : rangeS [.int 4] = some [.int 0, .int 1, .int 2, .int 3] := rfl
    generalize bR = B at *
    simp_arith [hr, forS_cons, forS_nil, s1, s2, s3, s4]
  · cases h
end
end PG

set_option Elab.async false
set_option linter.all false
set_option maxRecDepth 100000
set_option maxHeartbeats 4000000
namespace PG
open PySem L2 M
section
variable {Φ : Nat → En → Res Val}
theorem right_ev {j : J} (h : okJ 900000 j) : fJ1 g_right [some (.own 1 j.d)] = .ok (.p (.bl true)) [some (.own 1 (jB (jB (jB (jB j)))).d)] := fJ1_ev (by
  unfold g_right
  rw [if_pos h])
theorem rng6 {m : Nat} (h : m ≤ 6) : rangeS [.int (m : Int)] = some (upS 0 m) := by
  have h1 : -4096 ≤ (m : Int) ∧ (m : Int) < 4096 := ⟨by omega, by omega⟩
  unfold rangeS
  simp only [h1, and_self, if_true, Int.toNat_natCast]
theorem all_rep (m : Nat) : allS [.lst (List.replicate m (.bl true))] = some (.p (.bl true)) := by
  have : blsD (List.replicate m (.bl true)) = some (List.replicate m true) := by
    induction m with
    | zero => rfl
    | succ m ih => rw [List.replicate_succ, List.replicate_succ]; simp only [blsD, ih, Option.map_some]
  simp only [allS, this, Option.map_some]
  congr 3
  exact List.all_eq_true.mpr fun b hb => List.eq_of_mem_replicate hb
theorem jar_ev {ns : List Int} (hn : ns.length ≤ 63) {t : Nat} (ht : t < 64) : f2 g_jar [some (.p (.fl (ns.map D.int))), some (.p (.int (t : Int)))] = .ok (.own 0 (jarJ ns t).d) [none, none] := f2_ev (by
  simp only [g_jar, intsD_map]
  rw [if_pos ⟨by omega, by omega, by omega⟩, Int.toNat_natCast])
def turns (n : Int) : Int := if (if 6 < n then 6 else n) > 2 then (if 6 < n then 6 else n) else 2
theorem turns_ok (n : Nat) : ∃ m : Nat, m ≤ 6 ∧ turns (n : Int) = (m : Int) := by
  refine ⟨(turns (n : Int)).toNat, ?_, ?_⟩ <;> unfold turns <;> split <;> (try split) <;> omega
theorem rng1_ev {a : E} {e e' : En} {m : Nat} (h : a.ev Φ gvD e = .ok (.p (.int (m : Int))) e') (hm : m ≤ 6) : (It.rng1 a).ev Φ gvD e = .ok (upS 0 m) e' := by
  rw [evIt_rng1, h, frz_ok, frz_p, bind_ok, rng6 hm, lift_some]
theorem turns_ev (n : Int) : max2S [.int 2, .int (if 6 < n then 6 else n)] = some (.p (.int (turns n))) := rfl
theorem cnt_ev (ns : List Int) : (E.bi .max (.cons (.k (.int 2)) (.cons (.bi .min (.cons (.bi .len (.cons (.v 0) .nil)) (.cons (.k (.int 6)) .nil))) .nil))).ev Φ gvD [some (.p (.fl (ns.map D.int))), none] = .ok (.p (.int (turns (ns.length : Int)))) [some (.p (.fl (ns.map D.int))), none] := by
  generalize hn : (ns.length : Int) = n
  have h1 : lenS [.fl (ns.map D.int)] = some (.p (.int n)) := by rw [← hn]; simp [lenS]
  have h2 : min2S [.int n, .int 6] = some (.p (.int (if 6 < n then 6 else n))) := rfl
  generalize ns.map D.int = xs at *
  simp_arith [orB, h1, h2, turns_ev]
theorem items_ev {ns : List Int} {m : Nat} (hm6 : m ≤ 6) (hm : turns (ns.length : Int) = (m : Int)) : (It.rng1 (.bi .max (.cons (.k (.int 2)) (.cons (.bi .min (.cons (.bi .len (.cons (.v 0) .nil)) (.cons (.k (.int 6)) .nil))) .nil)))).ev Φ gvD [some (.p (.fl (ns.map D.int))), none] = .ok (upS 0 m) [some (.p (.fl (ns.map D.int))), none] := by
  refine rng1_ev ?_ hm6
  rw [← hm]
  exact cnt_ev ns
theorem elt_ev (P31 : Φ 31 = f2 g_jar) (P32 : Φ 32 = fJ1 g_right) {ns : List Int} (hn : ns.length ≤ 63) {t : Nat} (ht : t < 64) : (E.call 32 [0] (.v (.call 31 [0, 1] (.v (.v 0) (.v (.v 1) .nil))) .nil)).ev Φ gvD [some (.p (.fl (ns.map D.int))), some (.p (.int (t : Int)))] = .ok (.p (.bl true)) [some (.p (.fl (ns.map D.int))), some (.p (.int (t : Int)))] := by
  have hf := right_ev (okJ_mono (jar_ok (ns := ns) ht) (by decide))
  have hj := jar_ev hn ht
  have hc := callN1 (e := [some (.p (.fl (ns.map D.int))), some (.p (.int (t : Int)))]) (t := 0) hf
  simp_arith [P31, P32, hj, hc]
theorem comp_ev (P31 : Φ 31 = f2 g_jar) (P32 : Φ 32 = fJ1 g_right) {ns : List Int} (hn : ns.length ≤ 63) {m : Nat} (hm6 : m ≤ 6) : compS (Tg.ofC (.n 1)) (Oc.ev Φ gvD .no) (fun e => (E.ev Φ gvD (.call 32 [0] (.v (.call 31 [0, 1] (.v (.v 0) (.v (.v 1) .nil))) .nil)) e).frz) [1] (upS 0 m) [] [some (.p (.fl (ns.map D.int))), none] = .ok (.own 0 (List.replicate m (.bl true))) [some (.p (.fl (ns.map D.int))), none] := by
  have hl : (upS 0 m).length = m := by simp [upS]
  have cg := comp_gen (ft := Tg.ofC (.n 1)) (fc := Oc.ev Φ gvD .no) (fe := fun e => (E.ev Φ gvD (.call 32 [0] (.v (.call 31 [0, 1] (.v (.v 0) (.v (.v 1) .nil))) .nil)) e).frz) (vs := [1]) [some (.p (.fl (ns.map D.int))), none] (fun _ => true) (fun _ => .bl true) (upS 0 m) [] [some (.p (.fl (ns.map D.int))), none]
    (fun d hd => ⟨[some (.p (.fl (ns.map D.int))), some (.p d)], [some (.p (.fl (ns.map D.int))), some (.p d)], rfl, rfl, rfl, fun _ => by
      obtain ⟨t, ht, rfl⟩ := List.mem_map.mp hd
      have ht := List.mem_range.mp ht
      rw [show (0 : Int) + ((t : Nat) : Int) = ((t : Nat) : Int) by omega]
      refine ⟨[some (.p (.fl (ns.map D.int))), some (.p (.int (t : Int)))], ?_, rfl⟩
      rw [elt_ev P31 P32 hn (show t < 64 by omega)]
      rfl⟩) rfl (by rw [hl, List.length_nil]; omega)
  rw [cg, List.nil_append, List.filter_eq_self.mpr (fun _ _ => rfl), List.map_const', hl]
theorem run_law_k02 (P31 : Φ 31 = f2 g_jar) (P32 : Φ 32 = fJ1 g_right) {ns : List Int} (hn : ns.length ≤ 63) : runF (b_law_k02.ev Φ gvD) N_law_k02.length [some (.p (.fl (ns.map D.int)))] = .ok (.p (.bl true)) [none] := by
  obtain ⟨m, hm6, hm⟩ := turns_ok ns.length
  have ec : (E.comp (.call 32 [0] (.v (.call 31 [0, 1] (.v (.v 0) (.v (.v 1) .nil))) .nil)) (.n 1) (.rng1 (.bi .max (.cons (.k (.int 2)) (.cons (.bi .min (.cons (.bi .len (.cons (.v 0) .nil)) (.cons (.k (.int 6)) .nil))) .nil)))) .no [1]).ev Φ gvD [some (.p (.fl (ns.map D.int))), none] = .ok (.own 0 (List.replicate m (.bl true))) [some (.p (.fl (ns.map D.int))), none] := by
    rw [evE_comp, items_ev hm6 hm, bind_ok, comp_ev P31 P32 hn hm6]
  have hb := all_rep m
  simp_arith [b_law_k02, ↓ec, hb]
end
end PG

set_option Elab.async false
set_option linter.all false
set_option maxRecDepth 100000
set_option maxHeartbeats 4000000
/-! W2: draws, told by what they can be; the law's own def, of the laws that draw from jars. -/
namespace PG
open PySem L2 M
section
variable {Φ : Nat → En → Res Val} {Q : Val → En → Prop} {X : XQ} {e : En} {i t0 : Nat} {k : Int} {j : J}
theorem dip_wx (P : Φ 22 = fJ2 g_dip) {t : Int} (he : e[i]? = some (some (.own t0 j.d))) (h : okJ k j) (hk : k ≤ 1000000) (h1 : 0 < t) (h2 : t < 1073741824)
    (hq : ∀ (d : Int) (j' : J), 0 ≤ d → d < t → okJ (k + 1) j' → Q (.p (.int d)) (e.set i (some (.own t0 j'.d)))) : WX (callP (Φ 22) 2 [0, 1] [.ln i, .v (.p (.int t))] e) Q X := by
  rw [P]
  refine wx_ln2 he ?_
  rw [dip_ev (okJ_mono h hk) h1 h2]
  exact ⟨_, _, rfl, hq _ _ (dip_lt h1).1 (dip_lt h1).2 (dip_ok h)⟩
theorem one_wx (P : Φ 23 = fJ2 g_one) {xs : List D} (he : e[i]? = some (some (.own t0 j.d))) (h : okJ k j) (hk : k ≤ 1000000) (h1 : xs ≠ []) (h2 : xs.length ≤ 1000)
    (hq : ∀ (d : D) (j' : J), d ∈ xs → okJ (k + 1) j' → Q (.p d) (e.set i (some (.own t0 j'.d)))) : WX (callP (Φ 23) 2 [0, 1] [.ln i, .v (.p (.lst xs))] e) Q X := by
  rw [P]
  refine wx_ln2 he ?_
  rw [one_ev (okJ_mono h hk) h1 h2]
  exact ⟨_, _, rfl, hq _ _ (oneV_mem h1) (dip_ok h)⟩
theorem num_wx (P : Φ 24 = fJ2 g_num) {t : Int} (he : e[i]? = some (some (.own t0 j.d))) (h : okJ k j) (hk : k ≤ 999990) (h1 : 0 < t) (h2 : t ≤ 1000000)
    (hq : ∀ (n : Int) (j' : J), n ≠ 0 → (n.natAbs : Int) ≤ t → okJ (k + 4) j' → Q (.p (.int n)) (e.set i (some (.own t0 j'.d)))) : WX (callP (Φ 24) 2 [0, 1] [.ln i, .v (.p (.int t))] e) Q X := by
  rw [P]
  refine wx_ln2 he ?_
  rw [num_ev (okJ_mono h hk) h1 h2]
  obtain ⟨a, b, c⟩ := numJ_ok (t := t) h h1
  exact ⟨_, _, rfl, hq _ _ b (by omega) a⟩
/-! ### the law's own def -/
def fLaw : En → Res Val
  | [some (.p (.fl xs))] => match intsD xs with
    | some ns => if ns.length ≤ 63 then .ok (.p (.bl true)) [none] else .fail
    | none => .fail
  | _ => .fail
theorem law_eq {ns : List Int} (h : ns.length ≤ 63) : fLaw [some (.p (.fl (ns.map D.int)))] = .ok (.p (.bl true)) [none] := by
  simp only [fLaw, intsD_map]
  rw [if_pos h]
theorem law_keeps : Keeps fLaw 63 := fun ns h => law_eq h
theorem law_by {b : Ss} {n : Nat} (h : ∀ ns : List Int, ns.length ≤ 63 → runF (b.ev Φ gvD) n [some (.p (.fl (ns.map D.int)))] = .ok (.p (.bl true)) [none]) : ∀ e, fLaw e ≠ .fail → runF (b.ev Φ gvD) n e = fLaw e := by
  intro e hd
  unfold fLaw at hd
  split at hd
  · split at hd
    · rename_i xs ns hx
      have e := intsD_eq hx
      subst e
      split at hd
      · rename_i hn
        rw [law_eq hn]
        exact h ns hn
      · exact absurd rfl hd
    · exact absurd rfl hd
  · exact absurd rfl hd
/-- the law's function: all turns of so many at most are right -/
abbrev lawB (N : Int) (jar right : Nat) : Ss := .cons (.ret (.bi .all (.cons (.comp (.call right [0] (.v (.call jar [0, 1] (.v (.v 0) (.v (.v 1) .nil))) .nil)) (.n 1) (.rng1 (.bi .max (.cons (.k (.int 2)) (.cons (.bi .min (.cons (.bi .len (.cons (.v 0) .nil)) (.cons (.k (.int N)) .nil))) .nil)))) .no [1]) .nil))) .nil
theorem rng63 {m : Nat} (h : m ≤ 63) : rangeS [.int (m : Int)] = some (upS 0 m) := by
  have h1 : -4096 ≤ (m : Int) ∧ (m : Int) < 4096 := ⟨by omega, by omega⟩
  unfold rangeS
  simp only [h1, and_self, if_true, Int.toNat_natCast]
def turnsN (N n : Int) : Int := if (if N < n then N else n) > 2 then (if N < n then N else n) else 2
theorem run_lawB {N : Int} {jar right : Nat} (h2 : 2 ≤ N) (h63 : N ≤ 63) (Pj : Φ jar = f2 g_jar) (Pr : ∀ j : J, okJ 0 j → WP (Φ right [some (.own 1 j.d)]) fun v _ => v = .p (.bl true)) : ∀ e, fLaw e ≠ .fail → runF ((lawB N jar right).ev Φ gvD) 2 e = fLaw e := by
  refine law_by fun ns hn => ?_
  have hw : WP (runF ((lawB N jar right).ev Φ gvD) 2 [some (.p (.fl (ns.map D.int)))]) fun v o => v = .p (.bl true) ∧ o = [none] := by
    refine wx_run ?_
    have hc : ∀ n : Int, max2S [.int 2, .int (if N < n then N else n)] = some (.p (.int (turnsN N n))) := fun n => rfl
    have hm : ∀ n : Int, min2S [.int n, .int N] = some (.p (.int (if N < n then N else n))) := fun n => rfl
    obtain ⟨m, hm1, hm2⟩ : ∃ m : Nat, turnsN N (ns.length : Int) = (m : Int) ∧ m ≤ 63 := by
      refine ⟨(turnsN N (ns.length : Int)).toNat, ?_, ?_⟩ <;> unfold turnsN <;> split <;> (try split) <;> omega
    have hr := rng63 hm2
    have hl : lenS [.fl (ns.map D.int)] = some (.p (.int (ns.length : Int))) := by simp [lenS]
    generalize hns : ns.map D.int = xs at *
    have hq : (E.bi .max (.cons (.k (.int 2)) (.cons (.bi .min (.cons (.bi .len (.cons (.v 0) .nil)) (.cons (.k (.int N)) .nil))) .nil))).ev Φ gvD [some (.p (.fl xs)), none] = .ok (.p (.int (m : Int))) [some (.p (.fl xs)), none] := by
      simp_arith [orB, hl, hm, hc, hm1]
    have hi : (It.rng1 (.bi .max (.cons (.k (.int 2)) (.cons (.bi .min (.cons (.bi .len (.cons (.v 0) .nil)) (.cons (.k (.int N)) .nil))) .nil)))).ev Φ gvD [some (.p (.fl xs)), none] = .ok (upS 0 m) [some (.p (.fl xs)), none] := by
      rw [evIt_rng1, hq, frz_ok, frz_p, bind_ok, hr, lift_some]
    show WX (Ss.ev Φ gvD (lawB N jar right) [some (.p (.fl xs)), none]) _ _
    rw [evSs_cons, evS_ret, evE_bi, evEs_cons, evE_comp, hi, bind_ok]
    simp only [wx_seq, wx_bind, wx_frz]
    refine wx_comp (fun zs acc e => e = [some (.p (.fl xs)), none] ∧ zs.length + acc.length ≤ 63 ∧ (∀ z ∈ zs, ∃ t : Nat, t < 64 ∧ z = .int (t : Int)) ∧ ∃ r, acc = List.replicate r (.bl true)) ?_ ?_ ?_
    · refine ⟨rfl, by simp [upS]; omega, fun z hz => ?_, 0, rfl⟩
      obtain ⟨t, ht, rfl⟩ := List.mem_map.mp hz
      have ht := List.mem_range.mp ht
      exact ⟨t, by omega, by show D.int (0 + (t : Int)) = D.int (t : Int); rw [Int.zero_add]⟩
    · rintro acc e ⟨rfl, _, _, r, rfl⟩
      simp_arith! [all_rep]
      exact ⟨_, rfl, rfl⟩
    · rintro x zs acc e ⟨rfl, h1, h3, r, rfl⟩
      obtain ⟨t, ht, rfl⟩ := h3 x List.mem_cons_self
      refine ⟨_, rfl, ?_⟩
      have hj := jar_ev hn ht
      rw [hns] at hj
      simp_arith! [Pj, hj]
      refine wx_new1 ((Pr _ (jar_ok ht)).mono (fun v o hv => ?_) fun _ _ _ z => z)
      subst hv
      rw [List.length_cons, List.length_replicate] at h1
      refine ⟨by rw [List.length_replicate]; exact lt_SZ (by omega), rfl, ?_, fun z hz => h3 z (List.mem_cons_of_mem _ hz), r + 1, ?_⟩
      · simp; omega
      · rw [List.replicate_succ']; rfl
  cases hr : runF ((lawB N jar right).ev Φ gvD) 2 [some (.p (.fl (ns.map D.int)))] with
  | ok v o => rw [hr] at hw; obtain ⟨rfl, rfl⟩ := hw; rfl
  | exc _ _ _ => rw [hr] at hw; exact hw.elim
  | fail => rw [hr] at hw; exact hw.elim
end
end PG

set_option Elab.async false
set_option linter.all false
set_option maxRecDepth 100000
set_option maxHeartbeats 4000000
/-! C0: what is reckoned of forms, in plain Lean. -/
namespace M
open PySem L2
/-- how many are below 0 -/
def bel (ns : List Int) : Nat := (ns.filter fun n => decide (n < 0)).length
/-- an odd number of pairs with the sign -1 -/
def pairX (pl : D) (pre : List Int) : List Int → Bool
  | [] => false
  | n :: ns => (xorL (fun m => oddAt m n pl) pre) ^^ pairX pl (pre ++ [n]) ns
def oddForm (ns : List Int) (pl : D) : Bool := pairX pl [] ns
/-- the exponents together, of the primes found -/
def vs : List Int → Int → Nat
  | [], _ => 0
  | n :: ns, k => (if k ∈ tri n then (split n k).1 else 0) + vs ns k
def coreK (ns : List Int) : List Int := (addAll [] ns).filter fun k => decide (vs ns k % 2 = 1)
def sgnK (ns : List Int) : Int := if bel ns % 2 = 1 then -1 else 1
def coreI (ns : List Int) : Int := sgnK ns * prodI (coreK ns)
def oddPl (ns : List Int) : List Int := (plS ns).filter fun q => oddForm ns (.int q)
def kindD (ns : List Int) : D := .tup [.int (ns.length : Int), .int (coreI ns), .int (bel ns : Int), .tup ((oddPl ns).map D.int)]
def okF (ns : List Int) : Prop := ns.all okN = true ∧ ns.length ≤ 6
theorem WP.eq {α : Type} {r : Res α} {a : α} {e : Env} (h : WP r fun v o => v = a ∧ o = e) : r = .ok a e := by
  cases r with
  | ok v o => obtain ⟨rfl, rfl⟩ := h; rfl
  | exc _ _ _ => exact h.elim
  | fail => exact h.elim
theorem walk_seq {d : D} {ns : List Int} (h : seqI d = some ns) : walkS d = some (ns.map D.int) := by
  cases d <;> simp only [seqI, reduceCtorEq] at h
  · rw [intsD_eq h]; rfl
  · rw [intsD_eq h]; rfl
theorem items_seq {d : D} {ns : List Int} (h : seqI d = some ns) : itemsS d = some (ns.map D.int) := by
  cases d <;> simp only [seqI, reduceCtorEq] at h
  · rw [intsD_eq h]; rfl
  · rw [intsD_eq h]; rfl
theorem len_seq {d : D} {ns : List Int} (h : seqI d = some ns) : lenS [d] = some (.p (.int (ns.length : Int))) := by
  cases d <;> simp only [seqI, reduceCtorEq] at h
  · rw [intsD_eq h]; simp [lenS]
  · rw [intsD_eq h]; simp [lenS]
/-! ### a dict of exponents -/
def upV (V : Int → Nat) (q : Int) (s : Nat) : Int → Nat := fun k => if k = q then V k + s else V k
theorem putD_up (V : Int → Nat) (q : Int) (s : Nat) : ∀ ks : List Int, (q ∉ ks → V q = 0) → ks.Nodup → putD (ks.map Sum.inl) (ks.map fun k => D.int (V k : Int)) (Sum.inl q) (.int ((V q + s : Nat) : Int)) = ((addK ks q).map Sum.inl, (addK ks q).map fun k => D.int (upV V q s k : Int))
  | [], h, _ => by
    simp [putD, addK, upV]
  | k :: ks, h, hn => by
    rw [List.map_cons, List.map_cons]
    unfold putD
    have hk := List.nodup_cons.mp hn
    have away : ∀ l : List Int, q ∉ l → l.map (fun k => D.int (upV V q s k : Int)) = l.map fun k => D.int (V k : Int) := fun l hl => List.map_congr_left fun a ha => by
      show D.int (((if a = q then V a + s else V a) : Nat) : Int) = _
      rw [if_neg (show ¬ a = q from fun e => hl (e ▸ ha))]
    by_cases c : k = q
    · subst c
      rw [if_pos rfl]
      have : addK (k :: ks) k = k :: ks := by simp [addK]
      rw [this, List.map_cons, List.map_cons, away ks hk.1]
      simp [upV]
    · rw [if_neg (fun e => c (Sum.inl.inj e)), putD_up V q s ks (fun hm => h (by simp [hm]; exact fun e => c e.symm)) hk.2]
      have c' : ¬ q = k := fun e => c e.symm
      by_cases hm : q ∈ ks
      · simp [addK, hm, upV, c]
      · simp [addK, hm, upV, c, c']
theorem valD_up (V : Int → Nat) (q : Int) : ∀ ks : List Int, (q ∉ ks → V q = 0) → (valD (ks.map Sum.inl) (ks.map fun k => D.int (V k : Int)) (Sum.inl q)).getD (.int 0) = .int (V q : Int)
  | [], h => by simp [valD, h]
  | k :: ks, h => by
    rw [List.map_cons, List.map_cons]
    unfold valD
    by_cases c : k = q
    · subst c; simp
    · rw [if_neg (fun e => c (Sum.inl.inj e))]
      exact valD_up V q ks fun hm => h (by simp [hm]; exact fun e => c e.symm)
theorem valD_in (V : Int → Nat) (q : Int) : ∀ ks : List Int, q ∈ ks → valD (ks.map Sum.inl) (ks.map fun k => D.int (V k : Int)) (Sum.inl q) = some (.int (V q : Int))
  | [], h => by simp at h
  | k :: ks, h => by
    rw [List.map_cons, List.map_cons]
    unfold valD
    by_cases c : k = q
    · subst c; simp
    · rw [if_neg (fun e => c (Sum.inl.inj e))]
      exact valD_in V q ks (by rcases List.mem_cons.mp h with e | e; exact absurd e.symm c; exact e)
/-- the exponents with those of n -/
def vAdd (V : Int → Nat) (n : Int) (qs : List Int) : Int → Nat := fun k => if k ∈ qs then V k + (split n k).1 else V k
def vAll (V : Int → Nat) : List Int → Int → Nat
  | [] => V
  | n :: ns => vAll (vAdd V n (tri n)) ns
theorem vAll_vs : ∀ (ns : List Int) (V : Int → Nat) (k : Int), vAll V ns k = V k + vs ns k
  | [], V, k => rfl
  | n :: ns, V, k => by
    rw [vAll, vAll_vs ns, vs, vAdd]
    split <;> omega
theorem trialF_nd : ∀ (k n l : Nat) (acc : List Nat), 0 < n → 2 ≤ l → acc.Nodup → (∀ p ∈ acc, p < l ∧ n % p ≠ 0) → (trialF k n l acc).2.Nodup ∧ ∀ p ∈ (trialF k n l acc).2, (trialF k n l acc).1 % p ≠ 0
  | 0, n, l, acc, _, _, h, h2 => ⟨h, fun p hp => (h2 p hp).2⟩
  | k + 1, n, l, acc, h0, hl, h, h2 => by
    unfold trialF
    split
    · split
      · rename_i hd
        refine trialF_nd k (strip n l) (l + 1) (acc ++ [l]) (stripF_pos hl h0 (Nat.le_refl _)) (by omega) ?_ fun p hp => ?_
        · rw [List.nodup_append]
          exact ⟨h, by simp, fun a ha b hb => by rw [List.mem_singleton.mp hb]; have := (h2 a ha).1; omega⟩
        · rcases List.mem_append.mp hp with e | e
          · have := h2 p e
            exact ⟨by omega, fun z => this.2 (Nat.mod_eq_zero_of_dvd (Nat.dvd_trans (Nat.dvd_of_mod_eq_zero z) strip_dvd))⟩
          · rw [List.mem_singleton.mp e]
            exact ⟨by omega, strip_nd hl h0 (Nat.le_refl _)⟩
      · exact trialF_nd k n (l + 1) acc h0 (by omega) h fun p hp => ⟨by have := (h2 p hp).1; omega, (h2 p hp).2⟩
    · exact ⟨h, fun p hp => (h2 p hp).2⟩
theorem tri_nd {n : Int} (h : okN n = true) : (tri n).Nodup := by
  obtain ⟨h1, h2⟩ := okN_of h
  obtain ⟨a, b⟩ := trialF_nd n.natAbs n.natAbs 2 [] (by omega) (by omega) List.nodup_nil (by simp)
  have : (trial n.natAbs).Nodup := by
    unfold trial
    split
    · rw [List.nodup_append]
      exact ⟨a, by simp, fun x hx y hy => by rw [List.mem_singleton.mp hy]; intro e; subst e; exact b _ hx (Nat.mod_self _)⟩
    · exact a
  exact List.Pairwise.map _ (fun a b h e => h (by omega)) this
theorem prodI_small : ∀ xs : List Int, (∀ x ∈ xs, x.natAbs ≤ 1000000) → (prodI xs).natAbs ≤ 1000000 ^ xs.length
  | [], _ => by decide
  | x :: xs, h => by
    rw [prodI, Int.natAbs_mul, List.length_cons, Nat.pow_succ, Nat.mul_comm (1000000 ^ xs.length)]
    exact Nat.mul_le_mul (h x List.mem_cons_self) (prodI_small xs fun y hy => h y (List.mem_cons_of_mem _ hy))
theorem big_pow {n k : Nat} (h : n ≤ 1000000 ^ k) (hk : k ≤ 1000) : n < 2 ^ 400000 := by
  have h1 : (1000000 : Nat) ^ k ≤ (2 ^ 20) ^ k := Nat.pow_le_pow_left (by decide) k
  rw [← Nat.pow_mul] at h1
  have h2 : (2 : Nat) ^ (20 * k) < 2 ^ 400000 := Nat.pow_lt_pow_right (by decide) (by omega)
  omega
theorem addAll_pr {ns : List Int} (h : ns.all okN = true) : ∀ q ∈ addAll [] ns, isPr q = true := fun q hq => by
  obtain ⟨_, _, h3⟩ := addAll_ok (ns := ns) (ks := []) List.nodup_nil h
  rcases (h3 q).mp hq with e | e
  · simp at e
  · obtain ⟨l, h1, h2⟩ := List.mem_flatten.mp e
    obtain ⟨n, h4, rfl⟩ := List.mem_map.mp h1
    exact tri_isPr (List.all_eq_true.mp h n h4) h2
theorem isPr_le {q : Int} (h : isPr q = true) : q.natAbs ≤ 1000000 ∧ 2 ≤ q := by
  simp only [isPr, Bool.and_eq_true, decide_eq_true_eq] at h
  omega
end M

set_option Elab.async false
set_option linter.all false
set_option maxRecDepth 100000
set_option maxHeartbeats 4000000
namespace PG
open PySem L2 M
/-! 36: product_of -/
abbrev N_p_product_of : List Str := [Str.ofString "numbers", Str.ofString "found", Str.ofString "number"]
abbrev A_p_product_of : List Str := [Str.ofString "numbers"]
def b_p_product_of : Ss := (.cons (.set 1 (.k (.int 1))) (.cons (.fr (.n 2) (.seq (.v 0)) (.cons (.aug .mul 1 (.v 2)) .nil)) (.cons (.ret (.v 1)) .nil)))
/-! 37: core_of -/
abbrev N_p_core_of : List Str := [Str.ofString "numbers", Str.ofString "odd", Str.ofString "number", Str.ofString "prime", Str.ofString "core"]
abbrev A_p_core_of : List Str := [Str.ofString "numbers"]
def b_p_core_of : Ss := (.cons (.set 1 .dsp0) (.cons (.fr (.n 2) (.seq (.v 0)) (.cons (.fr (.n 3) (.seq (.call 4 [0] (.v (.fz (.bi .abs (.cons (.v 2) .nil))) .nil))) (.cons (.asg (.sub 1 (.v 3)) (.bop .add (.get2 1 (.v 3) (.k (.int 0))) (.ix (.call 10 [0, 1] (.v (.v 2) (.v (.v 3) .nil))) (.k (.int 0))))) .nil)) .nil)) (.cons (.set 4 (.call 36 [0] (.v (.fz (.lock 1 (.comp (.v 3) (.n 3) (.seq (.v 1)) (.yes (.cmp .eq (.bop .mod (.ixb 1 (.v 3)) (.k (.int 2))) (.k (.int 1)))) [3]))) .nil))) (.cons (.ret (.ite (.cmp .eq (.bop .mod (.bi .len (.cons (.comp (.v 2) (.n 2) (.seq (.v 0)) (.yes (.cmp .lt (.v 2) (.k (.int 0)))) [2]) .nil)) (.k (.int 2))) (.k (.int 1))) (.neg (.v 4)) (.v 4))) .nil))))
/-! 38: is_odd_form -/
abbrev N_p_is_odd_form : List Str := [Str.ofString "weights", Str.ofString "place", Str.ofString "many", Str.ofString "index", Str.ofString "weight", Str.ofString "other"]
abbrev A_p_is_odd_form : List Str := [Str.ofString "weights", Str.ofString "place"]
def b_p_is_odd_form : Ss := (.cons (.set 2 (.k (.int 0))) (.cons (.fr (.t (.cons (.n 3) (.cons (.n 4) .nil))) (.enum (.v 0)) (.cons (.aug .add 2 (.bi .len (.cons (.comp (.v 5) (.n 5) (.seq (.sl (.v 0) .no (.some (.v 3)))) (.yes (.tr (.call 16 [0, 1, 2] (.v (.v 5) (.v (.v 4) (.v (.v 1) .nil)))))) [5]) .nil))) .nil)) (.cons (.ret (.cmp .eq (.bop .mod (.v 2) (.k (.int 2))) (.k (.int 1)))) .nil)))
/-! 39: kind_of -/
abbrev N_p_kind_of : List Str := [Str.ofString "weights", Str.ofString "below", Str.ofString "weight", Str.ofString "odd", Str.ofString "place"]
abbrev A_p_kind_of : List Str := [Str.ofString "weights"]
def b_p_kind_of : Ss := (.cons (.set 1 (.bi .len (.cons (.comp (.v 2) (.n 2) (.seq (.v 0)) (.yes (.cmp .lt (.v 2) (.k (.int 0)))) [2]) .nil))) (.cons (.set 3 (.comp (.v 4) (.n 4) (.seq (.sl (.call 17 [0] (.v (.v 0) .nil)) (.some (.k (.int 1))) .no)) (.yes (.tr (.call 38 [0, 1] (.v (.v 0) (.v (.v 4) .nil))))) [4])) (.cons (.ret (.tup (.cons (.bi .len (.cons (.v 0) .nil)) (.cons (.call 37 [0] (.v (.v 0) .nil)) (.cons (.v 1) (.cons (.bi .tuple (.cons (.v 3) .nil)) .nil)))))) .nil)))
/-! 40: weights_until -/
abbrev N_p_weights_until : List Str := [Str.ofString "weights", Str.ofString "index", Str.ofString "weight"]
abbrev A_p_weights_until : List Str := [Str.ofString "weights"]
def b_p_weights_until : Ss := (.cons (.fr (.t (.cons (.n 1) (.cons (.n 2) .nil))) (.enum (.v 0)) (.cons (.iff (.no (.tr (.call 3 [0, 1] (.v (.v 2) (.v (.gv 0) .nil))))) (.cons (.ret (.v 1)) .nil) .nil) .nil)) (.cons (.ret (.k .non)) .nil))
/-! 41: Form.__init__ -/
abbrev N_p_Form_init : List Str := [Str.ofString "self", Str.ofString "weights", Str.ofString "index", Str.ofString "place"]
abbrev A_p_Form_init : List Str := [Str.ofString "self", Str.ofString "weights"]
def b_p_Form_init : Ss := (.cons (.iff (.or (.no (.tr (.bi .isi (.cons (.v 1) (.cons (.ty .tuple) .nil))))) (.no (.cmp2 .le .le (.k (.int 1)) (.bi .len (.cons (.v 1) .nil)) (.gv 2)))) (.cons .never .nil) .nil) (.cons (.set 2 (.call 40 [0] (.v (.v 1) .nil))) (.cons (.iff (.cmp .notN (.v 2) (.k .non)) (.cons .never .nil) .nil) (.cons (.sat 0 (Str.ofString "Form") (Str.ofString "row") (.v 1)) (.cons (.sat 0 (Str.ofString "Form") (Str.ofString "told") (.call 39 [0] (.v (.v 1) .nil))) (.cons (.sat 0 (Str.ofString "Form") (Str.ofString "places") (.call 17 [0] (.v (.v 1) .nil))) (.cons (.sat 0 (Str.ofString "Form") (Str.ofString "minus") (.bi .tuple (.cons (.comp (.v 3) (.n 3) (.seq (.atb (Str.ofString "Form") (Str.ofString "places") 0)) (.yes (.tr (.call 38 [0, 1] (.v (.v 1) (.v (.v 3) .nil))))) [3]) .nil))) .nil)))))))
/-! 42: Form.kind -/
abbrev N_p_Form_kind : List Str := [Str.ofString "self"]
abbrev A_p_Form_kind : List Str := [Str.ofString "self"]
def b_p_Form_kind : Ss := (.cons (.ret (.atb (Str.ofString "Form") (Str.ofString "told") 0)) .nil)
/-! 43: is_free -/
abbrev N_p_is_free : List Str := [Str.ofString "number", Str.ofString "least"]
abbrev A_p_is_free : List Str := [Str.ofString "number"]
def b_p_is_free : Ss := (.cons (.set 1 (.k (.int 2))) (.cons (.whl (.cmp .le (.bop .mul (.v 1) (.v 1)) (.bi .abs (.cons (.v 0) .nil))) (.cons (.iff (.cmp .eq (.bop .mod (.v 0) (.bop .mul (.v 1) (.v 1))) (.k (.int 0))) (.cons (.ret (.k (.bl false))) .nil) .nil) (.cons (.aug .add 1 (.k (.int 1))) .nil))) (.cons (.ret (.k (.bl true))) .nil)))
/-! 44: are_primes -/
abbrev N_p_are_primes : List Str := [Str.ofString "value", Str.ofString "index", Str.ofString "prime"]
abbrev A_p_are_primes : List Str := [Str.ofString "value"]
def b_p_are_primes : Ss := (.cons (.iff (.no (.tr (.bi .isi (.cons (.v 0) (.cons (.ty .tuple) .nil))))) (.cons (.ret (.k (.bl false))) .nil) .nil) (.cons (.fr (.t (.cons (.n 1) (.cons (.n 2) .nil))) (.enum (.v 0)) (.cons (.iff (.or (.no (.tr (.call 5 [0] (.v (.v 2) .nil)))) (.and (.cmp .gt (.v 1) (.k (.int 0))) (.cmp .le (.v 2) (.ixb 0 (.bop .sub (.v 1) (.k (.int 1))))))) (.cons (.ret (.k (.bl false))) .nil) .nil) .nil)) (.cons (.ret (.k (.bl true))) .nil)))
/-! 45: check_kind -/
abbrev N_p_check_kind : List Str := [Str.ofString "value"]
abbrev A_p_check_kind : List Str := [Str.ofString "value"]
def b_p_check_kind : Ss := (.cons (.iff (.or (.no (.tr (.bi .isi (.cons (.v 0) (.cons (.ty .tuple) .nil))))) (.or (.cmp .ne (.bi .len (.cons (.v 0) .nil)) (.k (.int 4))) (.no (.tr (.call 1 [0, 1, 2] (.v (.ixb 0 (.k (.int 0))) (.v (.k (.int 1)) (.v (.gv 2) .nil)))))))) (.cons .never .nil) .nil) (.cons (.iff (.or (.no (.tr (.call 3 [0, 1] (.v (.ixb 0 (.k (.int 1))) (.v (.gv 0) .nil))))) (.no (.tr (.call 43 [0] (.v (.ixb 0 (.k (.int 1))) .nil))))) (.cons .never .nil) .nil) (.cons (.iff (.or (.no (.tr (.call 1 [0, 1, 2] (.v (.ixb 0 (.k (.int 2))) (.v (.k (.int 0)) (.v (.gv 2) .nil)))))) (.no (.tr (.call 44 [0] (.v (.ixb 0 (.k (.int 3))) .nil))))) (.cons .never .nil) .nil) .nil)))
/-! 46: can_be -/
abbrev N_p_can_be : List Str := [Str.ofString "kind", Str.ofString "size", Str.ofString "core", Str.ofString "below", Str.ofString "odd", Str.ofString "prime"]
abbrev A_p_can_be : List Str := [Str.ofString "kind"]
def b_p_can_be : Ss := (.cons (.ex (.call 45 [0] (.v (.v 0) .nil))) (.cons (.asg (.t (.cons (.n 1) (.cons (.n 2) (.cons (.n 3) (.cons (.n 4) .nil))))) (.v 0)) (.cons (.iff (.or (.cmp .gt (.v 3) (.v 1)) (.or (.cmp .ne (.cmp .lt (.v 2) (.k (.int 0))) (.cmp .eq (.bop .mod (.v 3) (.k (.int 2))) (.k (.int 1)))) (.cmp .ne (.cmp .eq (.bop .mod (.bi .len (.cons (.v 4) .nil)) (.k (.int 2))) (.k (.int 0))) (.cmp .isin (.bop .mod (.v 3) (.k (.int 4))) (.tup (.cons (.k (.int 0)) (.cons (.k (.int 1)) .nil))))))) (.cons (.ret (.k (.bl false))) .nil) .nil) (.cons (.iff (.cmp .eq (.v 1) (.k (.int 1))) (.cons (.ret (.cmp .eq (.v 4) (.tup .nil))) .nil) .nil) (.cons (.ret (.or (.cmp .gt (.v 1) (.k (.int 2))) (.no (.bi .any (.cons (.comp (.call 13 [0, 1] (.v (.fz (.neg (.v 2))) (.v (.v 5) .nil))) (.n 5) (.seq (.v 4)) .no [5]) .nil))))) .nil)))))
/-! 47: _law_form_sign -/
abbrev N_l_form_sign : List Str := [Str.ofString "_law_some", Str.ofString "_law_place", Str.ofString "_law_found", Str.ofString "_law_k", Str.ofString "_law_j"]
abbrev A_l_form_sign : List Str := [Str.ofString "_law_some", Str.ofString "_law_place"]
def b_l_form_sign : Ss := (.cons (.set 2 (.k (.int 1))) (.cons (.fr (.n 3) (.rng1 (.bi .len (.cons (.v 0) .nil))) (.cons (.fr (.n 4) (.rng1 (.v 3)) (.cons (.set 2 (.bop .mul (.v 2) (.call 29 [0, 1, 2] (.v (.ixb 0 (.v 4)) (.v (.ixb 0 (.v 3)) (.v (.v 1) .nil)))))) .nil)) .nil)) (.cons (.ret (.v 2)) .nil)))
/-! 48: _law_core -/
abbrev N_l_core : List Str := [Str.ofString "_law_numbers", Str.ofString "_law_found", Str.ofString "_law_known", Str.ofString "_law_number_here", Str.ofString "_law_prime"]
abbrev A_l_core : List Str := [Str.ofString "_law_numbers"]
def b_l_core : Ss := (.cons (.par [1, 2] (.v (.k (.int 1)) (.v .dsp0 .nil))) (.cons (.fr (.n 3) (.seq (.v 0)) (.cons (.set 1 (.ite (.cmp .gt (.v 3) (.k (.int 0))) (.v 1) (.neg (.v 1)))) (.cons (.fr (.n 4) (.seq (.call 25 [0] (.v (.v 3) .nil))) (.cons (.asg (.sub 2 (.v 4)) (.bop .add (.get2 2 (.v 4) (.k (.int 0))) (.ix (.call 27 [0, 1] (.v (.v 3) (.v (.v 4) .nil))) (.k (.int 0))))) .nil)) .nil))) (.cons (.fr (.n 4) (.seq (.bi .sorted (.cons (.v 2) .nil))) (.cons (.set 1 (.ite (.cmp .eq (.bop .mod (.bi .int (.cons (.ixb 2 (.v 4)) .nil)) (.k (.int 2))) (.k (.int 1))) (.bop .mul (.v 1) (.v 4)) (.v 1))) .nil)) (.cons (.ret (.v 1)) .nil))))
/-! 49: _law_kind -/
abbrev N_l_kind : List Str := [Str.ofString "_law_some", Str.ofString "_law_odd", Str.ofString "_law_place", Str.ofString "_law_each"]
abbrev A_l_kind : List Str := [Str.ofString "_law_some"]
def b_l_kind : Ss := (.cons (.set 1 (.comp (.v 2) (.n 2) (.seq (.sl (.call 26 [0] (.v (.v 0) .nil)) (.some (.k (.int 1))) .no)) (.yes (.cmp .eq (.call 47 [0, 1] (.v (.v 0) (.v (.v 2) .nil))) (.neg (.k (.int 1))))) [2])) (.cons (.ret (.tup (.cons (.bi .len (.cons (.v 0) .nil)) (.cons (.call 48 [0] (.v (.v 0) .nil)) (.cons (.bi .len (.cons (.comp (.v 3) (.n 3) (.seq (.v 0)) (.yes (.cmp .lt (.v 3) (.k (.int 0)))) [3]) .nil)) (.cons (.bi .tuple (.cons (.v 1) .nil)) .nil)))))) .nil))
/-! 50: _law_weights -/
abbrev N_l_weights : List Str := [Str.ofString "_law_jar_here", Str.ofString "_law_most", Str.ofString "_law_top", Str.ofString "_law_k"]
abbrev A_l_weights : List Str := [Str.ofString "_law_jar_here", Str.ofString "_law_most", Str.ofString "_law_top"]
def b_l_weights : Ss := (.cons (.ret (.comp (.call 24 [0, 1] (.ln 0 (.v (.v 2) .nil))) (.n 3) (.rng1 (.bop .add (.k (.int 1)) (.call 22 [0, 1] (.ln 0 (.v (.v 1) .nil))))) .no [3])) .nil)
/-! 51: _law_can -/
abbrev N_l_can : List Str := [Str.ofString "_law_told", Str.ofString "_law_size", Str.ofString "_law_bulk", Str.ofString "_law_minus", Str.ofString "_law_spots", Str.ofString "_law_spot"]
abbrev A_l_can : List Str := [Str.ofString "_law_told"]
def b_l_can : Ss := (.cons (.asg (.t (.cons (.n 1) (.cons (.n 2) (.cons (.n 3) (.cons (.n 4) .nil))))) (.v 0)) (.cons (.iff (.or (.cmp .gt (.v 3) (.v 1)) (.or (.cmp .ne (.cmp .lt (.v 2) (.k (.int 0))) (.cmp .eq (.bop .mod (.bi .int (.cons (.v 3) .nil)) (.k (.int 2))) (.k (.int 1)))) (.cmp .ne (.cmp .eq (.bop .mod (.bi .len (.cons (.v 4) .nil)) (.k (.int 2))) (.k (.int 0))) (.cmp .isin (.bop .mod (.bi .int (.cons (.v 3) .nil)) (.k (.int 4))) (.lst (.cons (.k (.int 0)) (.cons (.k (.int 1)) .nil))))))) (.cons (.ret (.k (.bl false))) .nil) .nil) (.cons (.iff (.cmp .eq (.v 1) (.k (.int 1))) (.cons (.ret (.cmp .eq (.v 4) (.tup .nil))) .nil) .nil) (.cons (.ret (.or (.cmp .gt (.v 1) (.k (.int 2))) (.cmp .eq (.comp (.v 5) (.n 5) (.seq (.v 4)) (.yes (.tr (.call 30 [0, 1] (.v (.fz (.neg (.v 2))) (.v (.v 5) .nil))))) [5]) (.lst .nil)))) .nil))))
/-! 52: _law_bent -/
abbrev N_l_bent : List Str := [Str.ofString "_law_pot", Str.ofString "_law_told", Str.ofString "_law_found", Str.ofString "_law_way", Str.ofString "_law_turn", Str.ofString "_law_spot", Str.ofString "_law_each"]
abbrev A_l_bent : List Str := [Str.ofString "_law_pot", Str.ofString "_law_told"]
def b_l_bent : Ss := (.cons (.par [2, 3] (.v (.bi .list (.cons (.v 1) .nil)) (.v (.call 22 [0, 1] (.ln 0 (.v (.k (.int 6)) .nil))) .nil))) (.cons (.iff (.cmp .eq (.v 3) (.k (.int 0))) (.cons (.asg (.sub 2 (.k (.int 0))) (.bop .add (.k (.int 1)) (.call 22 [0, 1] (.ln 0 (.v (.k (.int 6)) .nil))))) .nil) .nil) (.cons (.iff (.cmp .eq (.v 3) (.k (.int 1))) (.cons (.asg (.sub 2 (.k (.int 1))) (.neg (.ixb 2 (.k (.int 1))))) .nil) .nil) (.cons (.iff (.cmp .eq (.v 3) (.k (.int 2))) (.cons (.asg (.sub 2 (.k (.int 2))) (.call 22 [0, 1] (.ln 0 (.v (.k (.int 7)) .nil)))) .nil) .nil) (.cons (.iff (.cmp .gt (.v 3) (.k (.int 2))) (.cons (.fr (.n 4) (.rng1 (.bop .sub (.v 3) (.k (.int 2)))) (.cons (.set 5 (.call 23 [0, 1] (.ln 0 (.v (.fz (.lst (.cons (.k (.int 2)) (.cons (.k (.int 3)) (.cons (.k (.int 5)) (.cons (.k (.int 7)) (.cons (.k (.int 11)) (.cons (.k (.int 999983)) .nil)))))))) .nil)))) (.cons (.asg (.sub 2 (.k (.int 3))) (.ite (.cmp .isin (.v 5) (.ixb 2 (.k (.int 3)))) (.comp (.v 6) (.n 6) (.seq (.ixb 2 (.k (.int 3)))) (.yes (.cmp .ne (.v 6) (.v 5))) [6]) (.bop .add (.bi .list (.cons (.ixb 2 (.k (.int 3))) .nil)) (.lst (.cons (.v 5) .nil))))) .nil))) .nil) .nil) (.cons (.ret (.tup (.cons (.ixb 2 (.k (.int 0))) (.cons (.ixb 2 (.k (.int 1))) (.cons (.ixb 2 (.k (.int 2))) (.cons (.bi .tuple (.cons (.bi .sorted (.cons (.ixb 2 (.k (.int 3))) .nil)) .nil)) .nil)))))) .nil))))))
/-! 53: _law_right -/
abbrev N_l_right_k29 : List Str := [Str.ofString "_law_pot", Str.ofString "_law_turn", Str.ofString "_law_some", Str.ofString "_law_told", Str.ofString "_law_near", Str.ofString "_law_a", Str.ofString "_law_b"]
abbrev A_l_right_k29 : List Str := [Str.ofString "_law_pot"]
def b_l_right_k29 : Ss := (.cons (.fr (.n 1) (.rng1 (.k (.int 12))) (.cons (.set 2 (.call 50 [0, 1, 2] (.ln 0 (.v (.fz (.bop .add (.k (.int 1)) (.call 22 [0, 1] (.ln 0 (.v (.k (.int 6)) .nil))))) (.v (.k (.int 15)) .nil))))) (.cons (.set 3 (.call 49 [0] (.v (.v 2) .nil))) (.cons (.iff (.cmp .le (.bi .abs (.cons (.ixb 3 (.k (.int 1))) .nil)) (.bop .pow (.k (.int 10)) (.k (.int 6)))) (.cons (.iff (.or (.cmp .notN (.call 46 [0] (.v (.v 3) .nil)) (.k (.bl true))) (.cmp .notN (.callk 46 [0] .nil (.cons (Str.ofString "kind") (.prop 42 (Str.ofString "Form") (Str.ofString "kind") (.new 41 (Str.ofString "Form") [0] (.cons (.bi .tuple (.cons (.v 2) .nil)) .nil))) .nil)) (.k (.bl true)))) (.cons (.ret (.k (.bl false))) .nil) .nil) (.cons (.set 4 (.call 52 [0, 1] (.ln 0 (.v (.v 3) .nil)))) (.cons (.iff (.cmp .ne (.bi .repr (.cons (.lst (.cons (.call 46 [0] (.v (.v 4) .nil)) (.cons (.callk 46 [0] .nil (.cons (Str.ofString "kind") (.v 4) .nil)) .nil))) .nil)) (.bi .repr (.cons (.bop .mul (.lst (.cons (.call 51 [0] (.v (.v 4) .nil)) .nil)) (.k (.int 2))) .nil))) (.cons (.ret (.k (.bl false))) .nil) .nil) (.cons (.par [5, 6] (.v (.call 24 [0, 1] (.ln 0 (.v (.k (.int 20)) .nil))) (.v (.call 24 [0, 1] (.ln 0 (.v (.k (.int 20)) .nil))) .nil))) (.cons (.iff (.and (.cmp .eq (.call 49 [0] (.v (.fz (.lst (.cons (.v 5) (.cons (.v 6) .nil)))) .nil)) (.v 4)) (.no (.tr (.call 46 [0] (.v (.v 4) .nil))))) (.cons (.ret (.k (.bl false))) .nil) .nil) .nil))))) .nil) .nil)))) (.cons (.ret (.k (.bl true))) .nil))
/-! 54: law -/
abbrev N_law_k29 : List Str := [Str.ofString "_law_cells", Str.ofString "_law_turn"]
abbrev A_law_k29 : List Str := [Str.ofString "_law_cells"]
def b_law_k29 : Ss := (.cons (.ret (.bi .all (.cons (.comp (.call 53 [0] (.v (.call 31 [0, 1] (.v (.v 0) (.v (.v 1) .nil))) .nil)) (.n 1) (.rng1 (.bi .max (.cons (.k (.int 2)) (.cons (.bi .min (.cons (.bi .len (.cons (.v 0) .nil)) (.cons (.k (.int 5)) .nil))) .nil)))) .no [1]) .nil))) .nil)
end PG

set_option Elab.async false
set_option linter.all false
set_option maxRecDepth 100000
set_option maxHeartbeats 4000000
/-! CA: forms' kinds, reckoned by the program. -/
namespace PG
open PySem L2 M
section
variable {Φ : Nat → En → Res Val}
theorem run_p_product_of {xs : List Int} (hs : ∀ x ∈ xs, x.natAbs ≤ 1000000) (hl : xs.length ≤ 64) : runF (b_p_product_of.ev Φ gvD) N_p_product_of.length [some (.p (.lst (xs.map D.int)))] = .ok (.p (.int (prodI xs))) [none] := by
  refine WP.eq (wx_run ?_)
  simp_arith! [b_p_product_of, walkS]
  refine wx_forN (fun zs e => ∃ (ys : List Int) (f : Int) (x2 : Option Val), zs = ys.map D.int ∧ (∀ y ∈ ys, y.natAbs ≤ 1000000) ∧ ys.length ≤ 64 ∧ f.natAbs ≤ 1000000 ^ (64 - ys.length) ∧ f * prodI ys = prodI xs ∧ e = [some (.p (.lst (xs.map D.int))), some (.p (.int f)), x2]) ?_ ?_ ?_
  · exact ⟨xs, 1, none, rfl, hs, hl, Nat.one_le_pow _ _ (by decide), by rw [Int.one_mul], rfl⟩
  · rintro e ⟨ys, f, x2, h1, _, _, _, h4, rfl⟩
    have : ys = [] := List.map_eq_nil_iff.mp h1.symm
    subst this
    simp_arith! []
    exact ⟨_, rfl, by rw [← h4]; simp [prodI], rfl⟩
  · rintro x zs e ⟨ys, f, x2, h1, h2, h3, h4, h5, rfl⟩
    cases ys with
    | nil => cases h1
    | cons y ys =>
      rw [List.map_cons] at h1
      obtain ⟨rfl, rfl⟩ := List.cons.inj h1
      have hy := h2 y List.mem_cons_self
      have hm : iopS .mul (.int f) (.int y) = some (.int (f * y)) := if_pos (.inr ⟨by omega, by omega⟩)
      simp_arith! [hm]
      refine ⟨ys, f * y, _, rfl, fun z hz => h2 z (List.mem_cons_of_mem _ hz), ?_, ?_, ?_, rfl⟩
      · simp only [List.length_cons] at h3; omega
      · rw [Int.natAbs_mul]
        simp only [List.length_cons] at h3 h4
        have : 64 - ys.length = (64 - (ys.length + 1)) + 1 := by omega
        rw [this, Nat.pow_succ]
        exact Nat.mul_le_mul h4 hy
      · rw [← h5, prodI, Int.mul_assoc]
theorem noLs_ints (l : List Int) : noLs (l.map D.int) = true := by
  induction l with
  | nil => rfl
  | cons x l ih => simp only [List.map_cons, noLs, noL, ih]; rfl
theorem bel_map (ns : List Int) : ((ns.map D.int).filter fun k => match k with | .int k => decide (k < 0) | _ => false).map id = (ns.filter fun n => decide (n < 0)).map D.int := by
  rw [List.map_id, List.filter_map]; rfl
/-- one number's exponents put in -/
theorem core_in (P10 : Φ 10 = f2 g_split) (d : D) {n : Int} (hn : okN n = true) (x4 : Option Val) {X : XQ} {Q : Fl → En → Prop} : ∀ (qs ks : List Int) (V : Int → Nat) (x3 : Option Val), (∀ q ∈ qs, isPr q = true) → qs.Nodup → ks.Nodup → (∀ q, q ∉ ks → V q = 0) → ks.length + qs.length ≤ 1000 →
    (∀ x3', Q .nx [some (.p d), some (.od 0 ((addKs ks qs).map Sum.inl) ((addKs ks qs).map fun k => D.int (vAdd V n qs k : Int))), some (.p (.int n)), x3', x4]) →
    WX (forS (Tg.ev Φ gvD (.n 3)) (Ss.ev Φ gvD (.cons (.asg (.sub 1 (.v 3)) (.bop .add (.get2 1 (.v 3) (.k (.int 0))) (.ix (.call 10 [0, 1] (.v (.v 2) (.v (.v 3) .nil))) (.k (.int 0))))) .nil)) (qs.map D.int) [some (.p d), some (.od 0 (ks.map Sum.inl) (ks.map fun k => D.int (V k : Int))), some (.p (.int n)), x3, x4]) Q X
  | [], ks, V, x3, _, _, _, _, _, hq => by
    rw [List.map_nil, forS_nil]
    have : vAdd V n [] = V := funext fun k => by simp [vAdd]
    have := hq x3
    rw [‹vAdd V n [] = V›] at this
    exact this
  | q :: qs, ks, V, x3, hp, hqn, hk, hV, hl, hq => by
    have hl' : ks.length + (qs.length + 1) ≤ 1000 := hl
    have hnd : (ks.map (Sum.inl : Int → Key)).Nodup := List.Pairwise.map _ (fun a b h e => h (Sum.inl.inj e)) hk
    have hpq := isPr_le (hp q List.mem_cons_self)
    have hok : okA n q = true := by
      obtain ⟨a1, a2⟩ := okN_of hn
      simp only [okA, Bool.and_eq_true, decide_eq_true_eq]
      refine ⟨⟨⟨a1, hpq.2⟩, by omega⟩, by omega⟩
    have hc := (List.nodup_cons.mp hqn)
    have ih := core_in P10 d hn x4 (X := X) (Q := Q) qs (addK ks q) (upV V q (split n q).1) (some (.p (.int q))) (fun r hr => hp r (List.mem_cons_of_mem _ hr)) hc.2 (addK_nd hk)
      (fun r hr => by
        have h1 : r ∉ ks := fun z => hr (mem_addK.mpr (.inl z))
        have h2 : r ≠ q := fun z => hr (mem_addK.mpr (.inr z))
        show (if r = q then _ else V r) = 0
        rw [if_neg h2]; exact hV r h1) (by have := addK_len (ks := ks) (k := q); omega)
      (fun x3' => by
        have e : vAdd (upV V q (split n q).1) n qs = vAdd V n (q :: qs) := funext fun k => by
          unfold vAdd upV
          by_cases c : k = q
          · subst c; simp [hc.1]
          · simp [c]
        rw [e]
        exact hq x3')
    rw [List.map_cons, forS_cons]
    simp_arith! [P10, sp_ev hok, get2E, M.keyOf, valD_up V q ks (hV q), show ∀ a b : D, idxS (.tup [a, b]) (.int 0) = some a from fun _ _ => rfl, addS, subT, setS, Option.bind_some, List.length_map, hnd, lt_SZ (show ks.length ≤ 1000000 by omega)]
    rw [show ((V q : Int) + ((split n q).1 : Int)) = ((V q + (split n q).1 : Nat) : Int) from rfl, putD_up V q _ ks (hV q) hk]
    exact ih
/-- all numbers' exponents -/
theorem core_all (P4 : Φ 4 = f1 g_divisors) (P10 : Φ 10 = f2 g_split) (d : D) (x4 : Option Val) {X : XQ} {Q : Fl → En → Prop} : ∀ (ns ks : List Int) (V : Int → Nat) (x2 x3 : Option Val), (x2 = none ∨ ∃ n : Int, x2 = some (.p (.int n))) → ns.all okN = true → ks.Nodup → (∀ q, q ∉ ks → V q = 0) → ks.length + 9 * ns.length ≤ 1000 →
    (∀ x2' x3', (x2' = none ∨ ∃ n : Int, x2' = some (.p (.int n))) → Q .nx [some (.p d), some (.od 0 ((addAll ks ns).map Sum.inl) ((addAll ks ns).map fun k => D.int (vAll V ns k : Int))), x2', x3', x4]) →
    WX (forS (Tg.ev Φ gvD (.n 2)) (Ss.ev Φ gvD (.cons (.fr (.n 3) (.seq (.call 4 [0] (.v (.fz (.bi .abs (.cons (.v 2) .nil))) .nil))) (.cons (.asg (.sub 1 (.v 3)) (.bop .add (.get2 1 (.v 3) (.k (.int 0))) (.ix (.call 10 [0, 1] (.v (.v 2) (.v (.v 3) .nil))) (.k (.int 0))))) .nil)) .nil)) (ns.map D.int) [some (.p d), some (.od 0 (ks.map Sum.inl) (ks.map fun k => D.int (V k : Int))), x2, x3, x4]) Q X
  | [], ks, V, x2, x3, hx, _, _, _, _, hq => by
    rw [List.map_nil, forS_nil]
    exact hq x2 x3 hx
  | n :: ns, ks, V, x2, x3, _, ho, hk, hV, hl, hq => by
    have hl' : ks.length + 9 * (ns.length + 1) ≤ 1000 := hl
    rw [List.all_cons, Bool.and_eq_true] at ho
    obtain ⟨h1, h2⟩ := okN_of ho.1
    have h3 := tri_len ho.1
    obtain ⟨k1, k2, k3⟩ := addKs_ok (qs := tri n) hk
    have e2 : f1 g_divisors [some (.p (.int (if n < 0 then -n else n)))] = .ok (.own 0 ((tri n).map D.int)) [none] := f1_ev (by
      have ea : (if n < 0 then -n else n) = (n.natAbs : Int) := by split <;> omega
      rw [ea]
      show (if 0 < (n.natAbs : Int) ∧ ((n.natAbs : Int)).toNat < BIG then some (Val.own 0 (natsD (trial (n.natAbs : Int).toNat))) else none) = _
      rw [if_pos ⟨by omega, by unfold BIG; omega⟩, Int.toNat_natCast, natsD_ints]; rfl)
    rw [List.map_cons, forS_cons]
    simp_arith! [P4, absS, e2, walkS]
    refine core_in P10 d ho.1 x4 (tri n) ks V x3 (fun q hq => tri_isPr ho.1 hq) (tri_nd ho.1) hk hV (by omega) fun x3' => ?_
    rw [seqK_nx]
    simp_arith! []
    refine core_all P4 P10 d x4 ns (addKs ks (tri n)) (vAdd V n (tri n)) (some (.p (.int n))) x3' (.inr ⟨_, rfl⟩) ho.2 k1 (fun q hq => ?_) (by omega) hq
    have hq1 : ¬ (q ∈ ks ∨ q ∈ tri n) := fun z => hq ((k3 q).mpr z)
    rw [not_or] at hq1
    show (if q ∈ tri n then _ else V q) = 0
    rw [if_neg hq1.2]; exact hV q hq1.1
theorem run_p_core_of (P4 : Φ 4 = f1 g_divisors) (P10 : Φ 10 = f2 g_split) (P36 : ∀ xs : List Int, (∀ x ∈ xs, x.natAbs ≤ 1000000) → xs.length ≤ 64 → Φ 36 [some (.p (.lst (xs.map D.int)))] = .ok (.p (.int (prodI xs))) [none])
    {d : D} {ns : List Int} (hd : seqI d = some ns) (h : okF ns) : runF (b_p_core_of.ev Φ gvD) N_p_core_of.length [some (.p d)] = .ok (.p (.int (coreI ns))) [none] := by
  refine WP.eq (wx_run ?_)
  simp_arith! [b_p_core_of, walk_seq hd]
  refine core_all P4 P10 d none ns [] (fun _ => 0) none none (.inl rfl) h.1 List.nodup_nil (fun _ _ => rfl) (by have := h.2; simp; omega) fun x2 x3 hx2 => ?_
  rw [seqK_nx]
  obtain ⟨k1, k2, k3⟩ := addAll_ok (ns := ns) (ks := []) List.nodup_nil h.1
  have hpr := addAll_pr h.1
  have hlen : (addAll [] ns).length ≤ 60 := by have := h.2; simp at k2; omega
  have hv : vAll (fun _ => 0) ns = vs ns := funext fun k => by rw [vAll_vs]; simp
  rw [hv]
  have hw : walkS d = some (ns.map D.int) := walk_seq hd
  have hl6 := h.2
  generalize hK : addAll [] ns = ks at *
  have hc : ∀ x2 x3, noLe [some (.p d), some (.od 0 (ks.map Sum.inl) (ks.map fun k => D.int (vs ns k : Int))), x2, none, none] = true → E.ev Φ gvD (.lock 1 (.comp (.v 3) (.n 3) (.seq (.v 1)) (.yes (.cmp .eq (.bop .mod (.ixb 1 (.v 3)) (.k (.int 2))) (.k (.int 1)))) [3])) [some (.p d), some (.od 0 (ks.map Sum.inl) (ks.map fun k => D.int (vs ns k : Int))), x2, x3, none] = .ok (.own 0 ((ks.filter fun k => decide (vs ns k % 2 = 1)).map D.int)) [some (.p d), some (.od 0 (ks.map Sum.inl) (ks.map fun k => D.int (vs ns k : Int))), x2, none, none] := fun x2 x3 hne => by
    have hc := comp_gen (ft := Tg.ofC (.n 3)) (fc := Oc.ev Φ gvD (.yes (.cmp .eq (.bop .mod (.ixb 1 (.v 3)) (.k (.int 2))) (.k (.int 1))))) (fe := fun e => (E.ev Φ gvD (.v 3) e).frz) (vs := [3])
      [some (.p d), some (.p (.dicL (ks.map Sum.inl) (ks.map fun k => D.int (vs ns k : Int)))), x2, none, none] (fun k => match k with | .int k => decide (vs ns k % 2 = 1) | _ => false) id (ks.map D.int) []
      [some (.p d), some (.p (.dicL (ks.map Sum.inl) (ks.map fun k => D.int (vs ns k : Int)))), x2, x3, none]
      (fun x hx => by
        obtain ⟨k, hk, rfl⟩ := List.mem_map.mp hx
        refine ⟨_, [some (.p d), some (.p (.dicL (ks.map Sum.inl) (ks.map fun k => D.int (vs ns k : Int)))), x2, some (.p (.int k)), none], rfl, ?_, rfl, fun _ => ⟨_, rfl, rfl⟩⟩
        simp_arith [idxS, M.keyOf, Option.bind_some, valD_in _ k ks hk, mod_pos (show (0 : Int) < 2 by decide), par2]) rfl (by simp; omega)
    have hf : ((ks.map D.int).filter fun k => match k with | .int k => decide (vs ns k % 2 = 1) | _ => false).map id = (ks.filter fun k => decide (vs ns k % 2 = 1)).map D.int := by
      rw [List.map_id, List.filter_map]; rfl
    rw [hf, List.nil_append] at hc
    have hw : (ks.map (Sum.inl : Int → Key)).map keyD = ks.map D.int := by rw [List.map_map]; rfl
    rw [evE_lock]
    unfold lockE
    simp only [List.getElem?_cons_succ, List.getElem?_cons_zero, List.set_cons_succ, List.set_cons_zero]
    have hi : (It.seq (.v 1)).ev Φ gvD [some (.p d), some (.p (.dicL (ks.map Sum.inl) (ks.map fun k => D.int (vs ns k : Int)))), x2, x3, none] = .ok (ks.map D.int) [some (.p d), some (.p (.dicL (ks.map Sum.inl) (ks.map fun k => D.int (vs ns k : Int)))), x2, x3, none] := by
      simp_arith [walkS, hw]
    rw [evE_comp, hi, bind_ok, hc]
    simp only
    rw [if_pos]
    · rfl
    · exact ⟨rfl, noLs_ints _, hne⟩
  have hne : noLe [some (.p d), some (.od 0 (ks.map Sum.inl) (ks.map fun k => D.int (vs ns k : Int))), x2, none, none] = true := by
    have h1 : noL d = true := by rcases seqI_eq hd with e | e <;> subst e <;> exact noLs_ints ns
    have h2 : noLs (ks.map fun k => D.int (vs ns k : Int)) = true := by
      clear hc hpr hlen k1 k2 k3 hK
      induction ks with
      | nil => rfl
      | cons k ks ih => simp only [List.map_cons, noLs, noL, ih]; rfl
    show (noL d && (noLs (ks.map fun k => D.int (vs ns k : Int)) && noLe [x2, none, none])) = true
    rw [h1, h2]
    rcases hx2 with e | ⟨n, e⟩ <;> subst e <;> rfl
  have hp := P36 (ks.filter fun k => decide (vs ns k % 2 = 1)) (fun x hx => (isPr_le (hpr x (List.mem_filter.mp hx).1)).1) (by have := List.length_filter_le (fun k => decide (vs ns k % 2 = 1)) ks; omega)
  have hb := comp_gen (ft := Tg.ofC (.n 2)) (fc := Oc.ev Φ gvD (.yes (.cmp .lt (.v 2) (.k (.int 0))))) (fe := fun e => (E.ev Φ gvD (.v 2) e).frz) (vs := [2])
      [some (.p d), some (.od 0 (ks.map Sum.inl) (ks.map fun k => D.int (vs ns k : Int))), none, none, some (.p (.int (prodI (ks.filter fun k => decide (vs ns k % 2 = 1)))))] (fun k => match k with | .int k => decide (k < 0) | _ => false) id (ns.map D.int) []
      [some (.p d), some (.od 0 (ks.map Sum.inl) (ks.map fun k => D.int (vs ns k : Int))), x2, none, some (.p (.int (prodI (ks.filter fun k => decide (vs ns k % 2 = 1)))))]
      (fun x hx => by
        obtain ⟨k, hk, rfl⟩ := List.mem_map.mp hx
        refine ⟨_, [some (.p d), some (.od 0 (ks.map Sum.inl) (ks.map fun k => D.int (vs ns k : Int))), some (.p (.int k)), none, some (.p (.int (prodI (ks.filter fun k => decide (vs ns k % 2 = 1)))))], rfl, ?_, rfl, fun _ => ⟨_, rfl, rfl⟩⟩
        simp_arith []) rfl (by simp; omega)
  rw [bel_map, List.nil_append] at hb
  have hl : ∀ l : List Int, lenS [.lst (l.map D.int)] = some (.p (.int (l.length : Int))) := fun l => by simp [lenS]
  simp_arith! [↓hc _ _ hne, P36, hp, hw, hb, orB, hl, mod_pos (show (0 : Int) < 2 by decide), negS, parP]
  unfold coreI sgnK coreK bel
  rw [hK]
  split
  · exact ⟨_, rfl, by simp, rfl⟩
  · exact ⟨_, rfl, by simp, rfl⟩
theorem enum_cons (i : Nat) (x : D) (xs : List D) : enumS i (x :: xs) = .tup [.int i, x] :: enumS (i + 1) xs := rfl
theorem cut_pre {d : D} {pre : List Int} {rest : List Int} (h : seqI d = some (pre ++ rest)) : ∃ v, sliceS d none (some (pre.length : Int)) = some v ∧ walkS v.frz = some (pre.map D.int) := by
  have hc : cutD ((pre ++ rest).map D.int) none (some (pre.length : Int)) = pre.map D.int := by
    have h1 : HT.sIx ((pre ++ rest).map D.int).length ((pre ++ rest).map D.int).length (some (pre.length : Int)) = pre.length := by
      rw [HT.sIx_nat]; simp
    unfold cutD
    rw [h1]
    simp [HT.sIx]
  rcases seqI_eq h with e | e <;> subst e
  · exact ⟨_, rfl, by simp only [frz_p, walkS, hc]⟩
  · exact ⟨_, rfl, by simp only [frz_own, walkS, hc]⟩
abbrev bOF : Ss := match b_p_is_odd_form with
  | .cons _ (.cons (.fr _ _ b) _) => b
  | _ => .nil
theorem run_p_is_odd_form (P16 : Φ 16 = f3 g_odd_at) {d pl : D} {ns : List Int} (hd : seqI d = some ns) (h : okF ns) (hp : plOk pl = true) : runF (b_p_is_odd_form.ev Φ gvD) N_p_is_odd_form.length [some (.p d), some (.p pl)] = .ok (.p (.bl (oddForm ns pl))) [none, none] := by
  refine WP.eq (wx_run ?_)
  simp_arith! [b_p_is_odd_form, items_seq hd]
  refine wx_for (fun zs e => ∃ (pre rest : List Int) (m : Nat) (x3 x4 : Option Val), ns = pre ++ rest ∧ zs = enumS pre.length (rest.map D.int) ∧ (decide (m % 2 = 1) ^^ pairX pl pre rest) = oddForm ns pl ∧ e = [some (.p d), some (.p pl), some (.p (.int (m : Int))), x3, x4, none]) ?_ ?_ ?_
  · exact ⟨[], ns, 0, none, none, rfl, rfl, by simp [oddForm], rfl⟩
  · rintro e ⟨pre, rest, m, x3, x4, h1, h2, h3, rfl⟩
    have : rest = [] := by
      cases rest with
      | nil => rfl
      | cons _ _ => cases h2
    subst this
    simp only [pairX, Bool.xor_false] at h3
    simp_arith! [mod_pos (show (0 : Int) < 2 by decide), par2, h3]
    exact ⟨_, rfl, rfl⟩
  · rintro x zs e ⟨pre, rest, m, x3, x4, h1, h2, h3, rfl⟩
    cases rest with
    | nil => cases h2
    | cons n rest =>
      rw [List.map_cons, enum_cons] at h2
      obtain ⟨rfl, rfl⟩ := List.cons.inj h2
      have hok : ∀ k ∈ ns, okN k = true := fun k hk => List.all_eq_true.mp h.1 k hk
      have hn : okN n = true := hok n (by rw [h1]; simp)
      obtain ⟨v, hv1, hv2⟩ := cut_pre (pre := pre) (rest := n :: rest) (by rw [hd, h1])
      have hlen : pre.length ≤ 6 := by have := h.2; rw [h1, List.length_append] at this; omega
      have hb := comp_gen (ft := Tg.ofC (.n 5)) (fc := Oc.ev Φ gvD (.yes (.tr (.call 16 [0, 1, 2] (.v (.v 5) (.v (.v 4) (.v (.v 1) .nil))))))) (fe := fun e => (E.ev Φ gvD (.v 5) e).frz) (vs := [5])
          [some (.p d), some (.p pl), some (.p (.int (m : Int))), some (.p (.int (pre.length : Int))), some (.p (.int n)), none] (fun k => match k with | .int k => oddAt k n pl | _ => false) id (pre.map D.int) []
          [some (.p d), some (.p pl), some (.p (.int (m : Int))), some (.p (.int (pre.length : Int))), some (.p (.int n)), none]
          (fun x hx => by
            obtain ⟨k, hk, rfl⟩ := List.mem_map.mp hx
            have ho := hok k (by rw [h1]; exact List.mem_append_left _ hk)
            refine ⟨_, [some (.p d), some (.p pl), some (.p (.int (m : Int))), some (.p (.int (pre.length : Int))), some (.p (.int n)), some (.p (.int k))], rfl, ?_, rfl, fun _ => ⟨_, rfl, rfl⟩⟩
            simp_arith [P16, oa_ev (plA_of ho hp) (plA_of hn hp)]) rfl (by simp; omega)
      have hf : ((pre.map D.int).filter fun k => match k with | .int k => oddAt k n pl | _ => false).map id = (pre.filter fun k => oddAt k n pl).map D.int := by
        rw [List.map_id, List.filter_map]; rfl
      rw [hf, List.nil_append] at hb
      have hl : ∀ l : List Int, lenS [.lst (l.map D.int)] = some (.p (.int (l.length : Int))) := fun l => by simp [lenS]
      simp_arith! [optI, hv1, hv2, hb, orB, hl, iopS]
      refine ⟨pre ++ [n], rest, m + (pre.filter fun k => oddAt k n pl).length, _, _, by simp [h1], by simp, ?_, by rw [Int.natCast_add]⟩
      rw [← h3, pairX, xorL_len, par_add, Bool.xor_assoc]
theorem cut_one (x : D) (xs : List D) : cutD (x :: xs) (some 1) none = xs := by
  unfold cutD
  have : HT.sIx (x :: xs).length 0 (some 1) = 1 := by
    show HT.sIx _ _ (some ((1 : Nat) : Int)) = 1
    rw [HT.sIx_nat]; simp
  rw [this, HT.sIx_none]
  simp
theorem ln_ev {l : List Int} : orB lenS lenDS [.lst (l.map D.int)] = some (.p (.int (l.length : Int))) := by simp [orB, lenS]
theorem plD_pl {ns : List Int} (h : okF ns) : (plD ns).length ≤ 60 := plD_len h.1 h.2
theorem odd_map (ns qs : List Int) : ((qs.map D.int).filter fun pl => oddForm ns pl).map id = (qs.filter fun q => oddForm ns (.int q)).map D.int := by
  rw [List.map_id, List.filter_map]; rfl
/-- those below 0, as they stand anywhere -/
theorem below_ev {d : D} {ns : List Int} (hd : seqI d = some ns) (h6 : ns.length ≤ 6) (x1 x3 x4 x2 : Option Val) : E.ev Φ gvD (.bi .len (.cons (.comp (.v 2) (.n 2) (.seq (.v 0)) (.yes (.cmp .lt (.v 2) (.k (.int 0)))) [2]) .nil)) [some (.p d), x1, x2, x3, x4] = .ok (.p (.int (bel ns : Int))) [some (.p d), x1, none, x3, x4] := by
  have hb := comp_gen (ft := Tg.ofC (.n 2)) (fc := Oc.ev Φ gvD (.yes (.cmp .lt (.v 2) (.k (.int 0))))) (fe := fun e => (E.ev Φ gvD (.v 2) e).frz) (vs := [2])
      [some (.p d), x1, none, x3, x4] (fun k => match k with | .int k => decide (k < 0) | _ => false) id (ns.map D.int) []
      [some (.p d), x1, x2, x3, x4]
      (fun x hx => by
        obtain ⟨k, hk, rfl⟩ := List.mem_map.mp hx
        refine ⟨_, [some (.p d), x1, some (.p (.int k)), x3, x4], rfl, ?_, rfl, fun _ => ⟨_, rfl, rfl⟩⟩
        simp_arith []) rfl (by simp; omega)
  rw [bel_map, List.nil_append] at hb
  simp_arith [cE_comp, walk_seq hd, hb, ln_ev, bel]
theorem run_p_kind_of (P17 : Φ 17 = f1 g_placesL) (P37 : ∀ (d : D) (ns : List Int), seqI d = some ns → okF ns → Φ 37 [some (.p d)] = .ok (.p (.int (coreI ns))) [none])
    (P38 : ∀ (d pl : D) (ns : List Int), seqI d = some ns → okF ns → plOk pl = true → Φ 38 [some (.p d), some (.p pl)] = .ok (.p (.bl (oddForm ns pl))) [none, none])
    {d : D} {ns : List Int} (hd : seqI d = some ns) (h : okF ns) : runF (b_p_kind_of.ev Φ gvD) N_p_kind_of.length [some (.p d)] = .ok (.p (kindD ns)) [none] := by
  refine WP.eq (wx_run ?_)
  have hpl := plD_ok h.1
  have hlen := plD_pl h
  have hc := comp_gen (ft := Tg.ofC (.n 4)) (fc := Oc.ev Φ gvD (.yes (.tr (.call 38 [0, 1] (.v (.v 0) (.v (.v 4) .nil)))))) (fe := fun e => (E.ev Φ gvD (.v 4) e).frz) (vs := [4])
      [some (.p d), some (.p (.int (bel ns : Int))), none, none, none] (fun pl => oddForm ns pl) id ((plS ns).map D.int) []
      [some (.p d), some (.p (.int (bel ns : Int))), none, none, none]
      (fun x hx => by
        refine ⟨_, [some (.p d), some (.p (.int (bel ns : Int))), none, none, some (.p x)], rfl, ?_, rfl, fun _ => ⟨_, rfl, rfl⟩⟩
        simp_arith [P38 d x ns hd h (hpl x (by unfold plD; exact List.mem_cons_of_mem _ hx))]) rfl (by simp only [plD, List.length_cons, List.length_map] at hlen; simp; omega)
  rw [odd_map, List.nil_append] at hc
  have hs : sliceS (.tup (plD ns)) (some 1) none = some (.p (.tup ((plS ns).map D.int))) := by
    show some (Val.p (.tup (cutD (plD ns) (some 1) none))) = _
    unfold plD
    rw [cut_one]
  have hl : orB lenS lenDS [d] = some (.p (.int (ns.length : Int))) := by unfold orB; rw [len_seq hd]
  have e1 := below_ev (Φ := Φ) hd h.2 none none none none
  simp_arith! [b_p_kind_of, ↓e1, P17, plsL_ev hd h.1 h.2, optI, hs, walkS, hc, hl, P37 d ns hd h, tupleS]
  exact ⟨_, rfl, rfl, rfl⟩
theorem run_p_weights_until (P3 : Φ 3 = f2 g_is_number) {ns : List Int} (h : okF ns) : runF (b_p_weights_until.ev Φ gvD) N_p_weights_until.length [some (.p (.tup (ns.map D.int)))] = .ok (.p .non) [none] := by
  refine WP.eq (wx_run ?_)
  simp_arith! [b_p_weights_until, items_seq (seqI_t ns)]
  refine wx_for (fun zs e => ∃ (i : Nat) (rest : List Int) (x1 x2 : Option Val), (∀ k ∈ rest, okN k = true) ∧ zs = enumS i (rest.map D.int) ∧ e = [some (.p (.tup (ns.map D.int))), x1, x2]) ?_ ?_ ?_
  · exact ⟨0, ns, none, none, fun k hk => List.all_eq_true.mp h.1 k hk, rfl, rfl⟩
  · rintro e ⟨i, rest, x1, x2, _, _, rfl⟩
    simp_arith! []
    exact ⟨_, rfl, rfl⟩
  · rintro x zs e ⟨i, rest, x1, x2, h1, h2, rfl⟩
    cases rest with
    | nil => cases h2
    | cons n rest =>
      rw [List.map_cons, enum_cons] at h2
      obtain ⟨rfl, rfl⟩ := List.cons.inj h2
      obtain ⟨n1, n2⟩ := num_of (h1 n List.mem_cons_self)
      have e1 : f2 g_is_number [some (.p (.int n)), some (.p (.int 1000000))] = .ok (.p (.bl true)) [none, none] := f2_ev (by
        show (if okD (.int n) = true then bO (numOk (.int n) 1000000) else none) = _
        rw [if_pos n1, n2])
      simp_arith! [P3, gv0, e1]
      exact ⟨i + 1, rest, _, _, fun k hk => h1 k (List.mem_cons_of_mem _ hk), rfl, rfl⟩
def formN : List Str := [Str.ofString "row", Str.ofString "told", Str.ofString "places", Str.ofString "minus"]
def formV (ns : List Int) : List D := [.tup (ns.map D.int), kindD ns, .tup (plD ns), .tup ((plD ns).filter fun pl => oddForm ns pl)]
def formD (ns : List Int) : D := .obj (Str.ofString "Form") formN (formV ns)
abbrev sR : Str := Str.ofString "row"
abbrev sT : Str := Str.ofString "told"
abbrev sP : Str := Str.ofString "places"
abbrev sM : Str := Str.ofString "minus"
theorem ne_rt : ¬ sR = sT := by decide +kernel
theorem ne_rp : ¬ sR = sP := by decide +kernel
theorem ne_rm : ¬ sR = sM := by decide +kernel
theorem ne_tp : ¬ sT = sP := by decide +kernel
theorem ne_tm : ¬ sT = sM := by decide +kernel
theorem ne_pm : ¬ sP = sM := by decide +kernel
theorem pn1 : putN [] sR = [sR] := rfl
theorem pn2 : putN [sR] sT = [sR, sT] := by simp only [putN, if_neg ne_rt]
theorem pn3 : putN [sR, sT] sP = [sR, sT, sP] := by simp only [putN, if_neg ne_rp, if_neg ne_tp]
theorem pn4 : putN [sR, sT, sP] sM = [sR, sT, sP, sM] := by simp only [putN, if_neg ne_rm, if_neg ne_tm, if_neg ne_pm]
theorem pv1 {a : D} : putNV [] [] sR a = [a] := rfl
theorem pv2 {a b : D} : putNV [sR] [a] sT b = [a, b] := by simp only [putNV, if_neg ne_rt]
theorem pv3 {a b c : D} : putNV [sR, sT] [a, b] sP c = [a, b, c] := by simp only [putNV, if_neg ne_rp, if_neg ne_tp]
theorem pv4 {a b c d : D} : putNV [sR, sT, sP] [a, b, c] sM d = [a, b, c, d] := by simp only [putNV, if_neg ne_rm, if_neg ne_tm, if_neg ne_pm]
theorem atb_places {a b c : D} {r : En} {k : Nat} : atb (Str.ofString "Form") sP 0 (some (.oo k (Str.ofString "Form") [sR, sT, sP] [a, b, c]) :: r) = .ok (.p c) (some (.oo k (Str.ofString "Form") [sR, sT, sP] [a, b, c]) :: r) := by
  simp only [atb, List.getElem?_cons_zero, lookN, if_true, if_neg ne_rp, if_neg ne_tp, lift_some, bind_ok]
theorem gv2 : gvD[2]? = some (.int 6) := rfl
theorem run_p_Form_init (P17 : Φ 17 = f1 g_placesL) (P40 : ∀ ns : List Int, okF ns → Φ 40 [some (.p (.tup (ns.map D.int)))] = .ok (.p .non) [none])
    (P39 : ∀ (d : D) (ns : List Int), seqI d = some ns → okF ns → Φ 39 [some (.p d)] = .ok (.p (kindD ns)) [none])
    (P38 : ∀ (d pl : D) (ns : List Int), seqI d = some ns → okF ns → plOk pl = true → Φ 38 [some (.p d), some (.p pl)] = .ok (.p (.bl (oddForm ns pl))) [none, none])
    {ns : List Int} (h : okF ns) (h1 : ns ≠ []) : runF (b_p_Form_init.ev Φ gvD) N_p_Form_init.length [some (.oo 1 (Str.ofString "Form") [] []), some (.p (.tup (ns.map D.int)))] = .ok (.p .non) [some (.oo 1 (Str.ofString "Form") formN (formV ns)), none] := by
  refine WP.eq (wx_run ?_)
  have hpl := plD_ok h.1
  have hlen := plD_pl h
  have h0 : 0 < ns.length := List.length_pos_iff.mpr h1
  have hl : orB lenS lenDS [.tup (ns.map D.int)] = some (.p (.int (ns.length : Int))) := by simp [orB, lenS]
  have c1 : (1 : Int) ≤ (ns.length : Int) := by omega
  have c2 : (ns.length : Int) ≤ 6 := by have := h.2; omega
  simp_arith! [b_p_Form_init, isi_tup (d := .tup (ns.map D.int)) rfl, gv2, hl, c1, c2, P40 ns h, isNS, Option.map_some]
  have hc := comp_gen (ft := Tg.ofC (.n 3)) (fc := Oc.ev Φ gvD (.yes (.tr (.call 38 [0, 1] (.v (.v 1) (.v (.v 3) .nil)))))) (fe := fun e => (E.ev Φ gvD (.v 3) e).frz) (vs := [3])
      [some (.oo 1 (Str.ofString "Form") [sR, sT, sP] [.tup (ns.map D.int), kindD ns, .tup (plD ns)]), some (.p (.tup (ns.map D.int))), some (.p .non), none] (fun pl => oddForm ns pl) id (plD ns) []
      [some (.oo 1 (Str.ofString "Form") [sR, sT, sP] [.tup (ns.map D.int), kindD ns, .tup (plD ns)]), some (.p (.tup (ns.map D.int))), some (.p .non), none]
      (fun x hx => by
        refine ⟨_, [some (.oo 1 (Str.ofString "Form") [sR, sT, sP] [.tup (ns.map D.int), kindD ns, .tup (plD ns)]), some (.p (.tup (ns.map D.int))), some (.p .non), some (.p x)], rfl, ?_, rfl, fun _ => ⟨_, rfl, rfl⟩⟩
        simp_arith [P38 _ x ns (seqI_t ns) h (hpl x hx)]) rfl (by simp; omega)
  rw [List.map_id, List.nil_append] at hc
  simp_arith! [show (0 : Nat) < 1000 from by decide, P39 _ ns (seqI_t ns) h, P17, plsL_ev (seqI_t ns) h.1 h.2, pn1, pn2, pn3, pn4, pv1, pv2, pv3, pv4, show (1 : Nat) < 1000 from by decide, show (2 : Nat) < 1000 from by decide, show (3 : Nat) < 1000 from by decide, atb_places, walkS, hc, tupleS]
  exact ⟨_, rfl, rfl⟩
theorem ev_told {ns : List Int} : E.ev Φ gvD (.atb (Str.ofString "Form") (Str.ofString "told") 0) [some (.p (formD ns))] = .ok (.p (kindD ns)) [some (.p (formD ns))] := by
  rw [cE_atb]
  simp only [atb, List.getElem?_cons_zero, formD, formN, formV, atS, lookN, if_true, if_neg ne_rt, lift_some, bind_ok]
theorem run_p_Form_kind {ns : List Int} : runF (b_p_Form_kind.ev Φ gvD) N_p_Form_kind.length [some (.p (formD ns))] = .ok (.p (kindD ns)) [none] := by
  refine WP.eq (wx_run ?_)
  simp_arith! [b_p_Form_kind, ↓ev_told]
  exact ⟨_, rfl, rfl⟩
/-- a form made -/
theorem newForm (P41 : ∀ ns : List Int, okF ns → ns ≠ [] → Φ 41 [some (.oo 1 (Str.ofString "Form") [] []), some (.p (.tup (ns.map D.int)))] = .ok (.p .non) [some (.oo 1 (Str.ofString "Form") formN (formV ns)), none]) {ns : List Int} (h : okF ns) (h1 : ns ≠ []) (e : En) :
    newE (Str.ofString "Form") (Φ 41) [0] [.tup (ns.map D.int)] e = .ok (.oo 0 (Str.ofString "Form") formN (formV ns)) e := by
  unfold newE
  rw [if_pos (by simp)]
  simp only [permL, List.filterMap_cons, List.filterMap_nil, List.getElem?_cons_zero, List.map_cons, List.map_nil, P41 ns h h1, if_true]
end
end PG

set_option Elab.async false
set_option linter.all false
set_option maxRecDepth 100000
set_option maxHeartbeats 4000000
/-! E1: == of data. -/
namespace M
open PySem PySem.Spec PyProof.Rows L2
mutual
/-- data whose equality the library tells -/
def lyD : D → Bool
  | .non => true
  | .bl _ => true
  | .int _ => true
  | .str x => PyData.strOk x
  | .tup xs => lyDs xs
  | .lst xs => lyDs xs
  | .fl xs => lyDs xs
  | _ => false
def lyDs : List D → Bool
  | [] => true
  | x :: xs => lyD x && lyDs xs
end
mutual
/-- no truth values, no lists of the script -/
def nbD : D → Bool
  | .non => true
  | .int _ => true
  | .str x => PyData.strOk x
  | .tup xs => nbDs xs
  | .lst xs => nbDs xs
  | _ => false
def nbDs : List D → Bool
  | [] => true
  | x :: xs => nbD x && nbDs xs
end
def eqD (x y : D) : Bool := match x.py, y.py with
  | some a, some b => PyData.eqv a b
  | _, _ => false
def eqDs (x y : List D) : Bool := match D.pys x, D.pys y with
  | some a, some b => PyData.eqvAll a b
  | _, _ => false
mutual
theorem ly_py : ∀ (d : D), lyD d = true → ∃ p, d.py = some p ∧ p.canLay0 = true ∧ p.depth ≤ dpD d
  | .non, _ => ⟨_, rfl, rfl, Nat.le_refl _⟩
  | .bl _, _ => ⟨_, rfl, rfl, Nat.le_refl _⟩
  | .int i, _ => ⟨_, rfl, rfl, Nat.le_refl _⟩
  | .str x, h => ⟨_, rfl, h, Nat.le_refl _⟩
  | .tup xs, h => by
    obtain ⟨ps, h1, h2, h3⟩ := lys_py xs h
    exact ⟨.tuple ps, by simp only [D.py, h1, Option.map_some], h2, by simp only [PyData.depth, dpD]; omega⟩
  | .lst xs, h => by
    obtain ⟨ps, h1, h2, h3⟩ := lys_py xs h
    exact ⟨.list ps, by simp only [D.py, h1, Option.map_some], h2, by simp only [PyData.depth, dpD]; omega⟩
  | .fl xs, h => by
    obtain ⟨ps, h1, h2, h3⟩ := lys_py xs h
    exact ⟨.list ps, by simp only [D.py, h1, Option.map_some], h2, by simp only [PyData.depth, dpD]; omega⟩
theorem lys_py : ∀ (ds : List D), lyDs ds = true → ∃ ps, D.pys ds = some ps ∧ PyData.canLayAll0 ps = true ∧ PyData.depthAll ps ≤ dpDs ds
  | [], _ => ⟨[], rfl, rfl, Nat.le_refl _⟩
  | x :: xs, h => by
    simp only [lyDs, Bool.and_eq_true] at h
    obtain ⟨p, h1, h2, h3⟩ := ly_py x h.1
    obtain ⟨ps, k1, k2, k3⟩ := lys_py xs h.2
    exact ⟨p :: ps, by simp only [D.pys, h1, k1], by simp only [PyData.canLayAll0, h2, k2]; rfl, by simp only [PyData.depthAll, dpDs]; omega⟩
end
theorem eq_gen {x y : D} (hx : lyD x = true) (hy : lyD y = true) (dx : dpD x ≤ 64) (dy : dpD y ≤ 64) : eqS x y = some (eqD x y) := by
  obtain ⟨p, h1, h2, h3⟩ := ly_py x hx
  obtain ⟨q, k1, k2, k3⟩ := ly_py y hy
  have sp : SeqAt.shaped p = true := by
    unfold SeqAt.shaped; rw [h2, decide_eq_true (show p.depth ≤ 64 by omega)]; rfl
  have sq : SeqAt.shaped q = true := by
    unfold SeqAt.shaped; rw [k2, decide_eq_true (show q.depth ≤ 64 by omega)]; rfl
  have gen : (match x.py, y.py with
      | some a, some b => if SeqAt.shaped a = true ∧ SeqAt.shaped b = true then some (PyData.eqv a b) else none
      | _, _ => none) = some (eqD x y) := by
    unfold eqD
    rw [h1, k1]
    simp only
    rw [if_pos ⟨sp, sq⟩]
  cases x <;> cases y <;> first | exact gen | (simp only [lyD, Bool.false_eq_true] at hx; done) | (simp only [lyD, Bool.false_eq_true] at hy; done) | (simp only [eqS, eqD, D.py, PyData.eqv]; done) | (simp only [eqS, eqD, D.py, PyData.eqv]; rename_i a b; by_cases c : a = b <;> simp [c])
mutual
theorem nb_ly : ∀ (d : D), nbD d = true → lyD d = true
  | .non, _ => rfl
  | .int i, _ => rfl
  | .str x, h => h
  | .tup xs, h => nbs_ly xs h
  | .lst xs, h => nbs_ly xs h
theorem nbs_ly : ∀ (ds : List D), nbDs ds = true → lyDs ds = true
  | [], _ => rfl
  | x :: xs, h => by
    simp only [nbDs, Bool.and_eq_true] at h
    simp only [lyDs, nb_ly x h.1, nbs_ly xs h.2]; rfl
end
theorem eqD_refl {x : D} (h : lyD x = true) : eqD x x = true := by
  obtain ⟨p, h1, h2, _⟩ := ly_py x h
  unfold eqD
  rw [h1]
  exact PySem.SeqAt.eqv_refl p h2
theorem eqDs_cons {x y : D} {xs ys : List D} (h1 : lyD x = true) (h2 : lyD y = true) (h3 : lyDs xs = true) (h4 : lyDs ys = true) : eqDs (x :: xs) (y :: ys) = (eqD x y && eqDs xs ys) := by
  obtain ⟨p, e1, _⟩ := ly_py x h1
  obtain ⟨q, e2, _⟩ := ly_py y h2
  obtain ⟨ps, e3, _⟩ := lys_py xs h3
  obtain ⟨qs, e4, _⟩ := lys_py ys h4
  unfold eqDs eqD
  simp only [D.pys, e1, e2, e3, e4, PyData.eqvAll]
theorem eqDs_nil : eqDs [] [] = true := rfl
theorem eqD_tup (xs ys : List D) : eqD (.tup xs) (.tup ys) = eqDs xs ys := by
  unfold eqD eqDs
  simp only [D.py]
  cases D.pys xs <;> cases D.pys ys <;> rfl
theorem eqD_lst (xs ys : List D) : eqD (.lst xs) (.lst ys) = eqDs xs ys := by
  unfold eqD eqDs
  simp only [D.py]
  cases D.pys xs <;> cases D.pys ys <;> rfl
mutual
theorem nb_eq : ∀ (x y : D), nbD x = true → nbD y = true → eqD x y = true → x = y
  | .non, y, _, hy, h => by cases y <;> first | rfl | (simp [nbD] at hy; done) | (simp [eqD, D.py, PyData.eqv] at h; done) | (simp only [nbD] at hy; obtain ⟨ps, e, _⟩ := lys_py _ (nbs_ly _ hy); simp [eqD, D.py, e, PyData.eqv] at h)
  | .int i, y, _, hy, h => by cases y <;> first | (simp [nbD] at hy; done) | (simp [eqD, D.py, PyData.eqv] at h; first | (subst h; rfl) | done) | (simp only [nbD] at hy; obtain ⟨ps, e, _⟩ := lys_py _ (nbs_ly _ hy); simp [eqD, D.py, e, PyData.eqv] at h)
  | .str x, y, _, hy, h => by cases y <;> first | (simp [nbD] at hy; done) | (simp [eqD, D.py, PyData.eqv] at h; first | (subst h; rfl) | done) | (simp only [nbD] at hy; obtain ⟨ps, e, _⟩ := lys_py _ (nbs_ly _ hy); simp [eqD, D.py, e, PyData.eqv] at h)
  | .tup xs, y, hx, hy, h => by
    have hx : nbDs xs = true := hx
    cases y with
    | tup ys => rw [eqD_tup] at h; rw [nbs_eq xs ys hx hy h]
    | _ => 
      obtain ⟨ps, e, _⟩ := lys_py _ (nbs_ly _ hx)
      first | (simp [nbD] at hy; done) | (simp [eqD, D.py, e, PyData.eqv] at h; done) | (simp only [nbD] at hy; obtain ⟨qs, e2, _⟩ := lys_py _ (nbs_ly _ hy); simp [eqD, D.py, e, e2, PyData.eqv] at h)
  | .lst xs, y, hx, hy, h => by
    have hx : nbDs xs = true := hx
    cases y with
    | lst ys => rw [eqD_lst] at h; rw [nbs_eq xs ys hx hy h]
    | _ => 
      obtain ⟨ps, e, _⟩ := lys_py _ (nbs_ly _ hx)
      first | (simp [nbD] at hy; done) | (simp [eqD, D.py, e, PyData.eqv] at h; done) | (simp only [nbD] at hy; obtain ⟨qs, e2, _⟩ := lys_py _ (nbs_ly _ hy); simp [eqD, D.py, e, e2, PyData.eqv] at h)
theorem nbs_eq : ∀ (xs ys : List D), nbDs xs = true → nbDs ys = true → eqDs xs ys = true → xs = ys
  | [], [], _, _, _ => rfl
  | [], y :: ys, _, hy, h => by
    obtain ⟨ps, e, _⟩ := lys_py _ (nbs_ly _ hy)
    simp only [D.pys] at e
    split at e
    · rename_i h1 h2; simp [eqDs, D.pys, h1, h2, PyData.eqvAll] at h
    · cases e
  | x :: xs, [], hx, _, h => by
    obtain ⟨ps, e, _⟩ := lys_py _ (nbs_ly _ hx)
    simp only [D.pys] at e
    split at e
    · rename_i h1 h2; simp [eqDs, D.pys, h1, h2, PyData.eqvAll] at h
    · cases e
  | x :: xs, y :: ys, hx, hy, h => by
    simp only [nbDs, Bool.and_eq_true] at hx hy
    rw [eqDs_cons (nb_ly _ hx.1) (nb_ly _ hy.1) (nbs_ly _ hx.2) (nbs_ly _ hy.2), Bool.and_eq_true] at h
    rw [nb_eq x y hx.1 hy.1 h.1, nbs_eq xs ys hx.2 hy.2 h.2]
end
/-- data without truth values are equal if they are the same -/
theorem eq_nb {x y : D} (hx : nbD x = true) (hy : nbD y = true) (dx : dpD x ≤ 64) (dy : dpD y ≤ 64) : ∃ b, eqS x y = some b ∧ (b = true ↔ x = y) :=
  ⟨eqD x y, eq_gen (nb_ly x hx) (nb_ly y hy) dx dy, fun h => nb_eq x y hx hy h, fun h => by rw [h]; exact eqD_refl (nb_ly y hy)⟩
theorem eq_same {x : D} (hx : lyD x = true) (dx : dpD x ≤ 64) : eqS x x = some true := by rw [eq_gen hx hx dx dx, eqD_refl hx]
end M

set_option Elab.async false
set_option linter.all false
set_option maxRecDepth 100000
set_option maxHeartbeats 4000000
/-! CB: kinds that can be, reckoned by the program. -/
namespace M
open PySem L2
/-- no square but 1 divides -/
def freeZ (c : Int) : Prop := ∀ l : Int, 2 ≤ l → c % (l * l) ≠ 0
def canB (s c b : Int) (od : List Int) : Bool :=
  if b > s ∨ (decide (c < 0)) ≠ decide (b % 2 = 1) ∨ decide (od.length % 2 = 0) ≠ decide (b % 4 = 0 ∨ b % 4 = 1) then false
  else if s = 1 then decide (od = []) else decide (2 < s) || !(od.any fun p => sqAt (-c) (.int p))
structure okK (s c b : Int) (od : List Int) : Prop where
  s1 : 1 ≤ s
  s6 : s ≤ 6
  c0 : c ≠ 0
  cl : c.natAbs ≤ 1000000
  cf : freeZ c
  b0 : 0 ≤ b
  b6 : b ≤ 6
  pr : ∀ q ∈ od, isPr q = true
  up : od.Pairwise (· < ·)
  ln : od.length ≤ 64
def kD (s c b : Int) (od : List Int) : D := .tup [.int s, .int c, .int b, .tup (od.map D.int)]
end M
namespace PG
open PySem L2 M
section
variable {Φ : Nat → En → Res Val}
theorem run_p_is_free {c : Int} (hf : freeZ c) (hc : c.natAbs ≤ 1000000) : runF (b_p_is_free.ev Φ gvD) N_p_is_free.length [some (.p (.int c))] = .ok (.p (.bl true)) [none] := by
  refine WP.eq (wx_run ?_)
  simp_arith! [b_p_is_free]
  refine wx_while (fun n e => ∃ l : Nat, n = 1001 - l ∧ 2 ≤ l ∧ l ≤ 1001 ∧ e = [some (.p (.int c)), some (.p (.int (l : Int)))]) (n := 999) ⟨2, rfl, by decide, by decide, rfl⟩ ?_
  rintro n e ⟨l, rfl, h2, h3, rfl⟩
  have hm := mul_64 (i := (l : Int)) (j := (l : Int)) (by omega) (by omega)
  have ha : absS [.int c] = some (.p (.int (c.natAbs : Int))) := by
    show some (Val.p (.int (if c < 0 then -c else c))) = _
    congr 3
    split <;> omega
  have h0 := hf (l : Int) (by omega)
  have hp : (0 : Int) < (l : Int) * l := Int.mul_pos (by omega) (by omega)
  simp_arith! [hm, ha, mod_pos hp, h0, iopS]
  by_cases hle : (l : Int) * l ≤ (c.natAbs : Int)
  · simp_arith! [hle]
    have : l ≤ 1000 := by
      by_cases q : l ≤ 1000
      · exact q
      · have h5 : 1001 * 1001 ≤ l * l := Nat.mul_le_mul (by omega) (by omega)
        have h6 : ((l * l : Nat) : Int) ≤ (c.natAbs : Int) := by rw [Int.natCast_mul]; exact hle
        omega
    exact ⟨1001 - (l + 1), by omega, l + 1, rfl, by omega, by omega, rfl⟩
  · simp_arith! [hle]
    exact ⟨_, rfl, rfl⟩
theorem isp_ev {q : Int} (h : isPr q = true) : f1 g_is_prime [some (.p (.int q))] = .ok (.p (.bl true)) [none] := f1_ev (by
  show (if okD (.int q) = true then bO (isPr q) else none) = _
  rw [if_pos (show okD (.int q) = true from rfl), h])
theorem at_mid {pre rest : List Int} {q : Int} : idxS (.tup ((pre ++ [q] ++ rest).map D.int)) (.int (pre.length : Int)) = some (.int q) := by
  show atI _ _ = _
  have h : ixN ((pre ++ [q] ++ rest).map D.int).length (pre.length : Int) = some pre.length := by
    unfold ixN
    rw [if_pos (by omega), if_pos (by simp; omega), Int.toNat_natCast]
  unfold atI
  rw [h, Option.bind_some]
  simp
theorem run_p_are_primes (P5 : Φ 5 = f1 g_is_prime) {od : List Int} (h1 : ∀ q ∈ od, isPr q = true) (h2 : od.Pairwise (· < ·)) : runF (b_p_are_primes.ev Φ gvD) N_p_are_primes.length [some (.p (.tup (od.map D.int)))] = .ok (.p (.bl true)) [none] := by
  refine WP.eq (wx_run ?_)
  simp_arith! [b_p_are_primes, isi_tup (d := .tup (od.map D.int)) rfl, items_seq (seqI_t od)]
  refine wx_for (fun zs e => ∃ (pre rest : List Int) (x1 x2 : Option Val), od = pre ++ rest ∧ zs = enumS pre.length (rest.map D.int) ∧ e = [some (.p (.tup (od.map D.int))), x1, x2]) ?_ ?_ ?_
  · exact ⟨[], od, none, none, rfl, rfl, rfl⟩
  · rintro e ⟨pre, rest, x1, x2, _, _, rfl⟩
    simp_arith! []
    exact ⟨_, rfl, rfl⟩
  · rintro x zs e ⟨pre, rest, x1, x2, e1, e2, rfl⟩
    cases rest with
    | nil => cases e2
    | cons n rest =>
      rw [List.map_cons, enum_cons] at e2
      obtain ⟨rfl, rfl⟩ := List.cons.inj e2
      have hn : isPr n = true := h1 n (by rw [e1]; simp)
      rcases List.eq_nil_or_concat pre with rfl | ⟨p0, q, rfl⟩
      · simp_arith! [P5, isp_ev hn, show ¬ (0 : Int) < ((([] : List Int).length : Nat) : Int) from by decide]
        exact ⟨[n], rest, _, _, by simpa using e1, rfl, rfl⟩
      · have hq : ¬ n ≤ q := by
          rw [e1] at h2
          have := (List.pairwise_append.mp h2).2.2 q (by simp) n (by simp)
          omega
        have e3 : ((p0.concat q).length : Int) - 1 = (p0.length : Int) := by simp
        have e4 : (0 : Int) < ((p0.concat q).length : Int) := by simp
        have e5 : idxS (.tup (od.map D.int)) (.int (p0.length : Int)) = some (.int q) := by
          rw [e1, List.concat_eq_append]; exact at_mid
        simp_arith! [P5, isp_ev hn, e4, subS, e3, e5, hq]
        exact ⟨p0.concat q ++ [n], rest, _, _, by simp [e1], by simp, rfl⟩
theorem run_p_check_kind (P1 : Φ 1 = f3 g_is_between) (P3 : Φ 3 = f2 g_is_number) (P43 : ∀ c : Int, freeZ c → c.natAbs ≤ 1000000 → Φ 43 [some (.p (.int c))] = .ok (.p (.bl true)) [none])
    (P44 : ∀ od : List Int, (∀ q ∈ od, isPr q = true) → od.Pairwise (· < ·) → Φ 44 [some (.p (.tup (od.map D.int)))] = .ok (.p (.bl true)) [none])
    {s c b : Int} {od : List Int} (h : okK s c b od) : runF (b_p_check_kind.ev Φ gvD) N_p_check_kind.length [some (.p (kD s c b od))] = .ok (.p .non) [none] := by
  refine WP.eq (wx_run ?_)
  have bt : ∀ {v l m : Int}, l ≤ v → v ≤ m → f3 g_is_between [some (.p (.int v)), some (.p (.int l)), some (.p (.int m))] = .ok (.p (.bl true)) [none, none, none] := fun {v l m} h1 h2 => f3_ev (by
    show (if okD (.int v) = true then bO (decide (l ≤ v) && decide (v ≤ m)) else none) = _
    rw [if_pos (show okD (.int v) = true from rfl), decide_eq_true h1, decide_eq_true h2]; rfl)
  have n1 : f2 g_is_number [some (.p (.int c)), some (.p (.int 1000000))] = .ok (.p (.bl true)) [none, none] := f2_ev (by
    obtain ⟨q1, q2⟩ := num_of (n := c) (okN_by h.c0 h.cl)
    show (if okD (.int c) = true then bO (numOk (.int c) 1000000) else none) = _
    rw [if_pos q1, q2])
  have i0 : ∀ a b c d : D, idxS (.tup [a, b, c, d]) (.int 0) = some a := fun _ _ _ _ => rfl
  have i1 : ∀ a b c d : D, idxS (.tup [a, b, c, d]) (.int 1) = some b := fun _ _ _ _ => rfl
  have i2 : ∀ a b c d : D, idxS (.tup [a, b, c, d]) (.int 2) = some c := fun _ _ _ _ => rfl
  have i3 : ∀ a b c d : D, idxS (.tup [a, b, c, d]) (.int 3) = some d := fun _ _ _ _ => rfl
  have hl : ∀ a b c d : D, orB lenS lenDS [.tup [a, b, c, d]] = some (.p (.int 4)) := fun _ _ _ _ => rfl
  have ht : ∀ xs : List D, isiS [.tup xs, .ty "tuple"] = some (.p (.bl true)) := fun xs => isi_tup (d := .tup xs) rfl
  simp_arith! [b_p_check_kind, kD, ht, hl, i0, i1, i2, i3, P1, P3, gv0, gv2, bt h.s1 h.s6, bt h.b0 h.b6, n1, P43 c h.cf h.cl, P44 od h.pr h.up, Option.map_some]
  exact ⟨_, rfl, rfl⟩
theorem any_of {α : Type} (f : α → Bool) : ∀ xs : List α, anyS [.lst (xs.map fun x => D.bl (f x))] = some (.p (.bl (xs.any f))) := by
  intro xs
  have : blsD (xs.map fun x => D.bl (f x)) = some (xs.map f) := by
    induction xs with
    | nil => rfl
    | cons x xs ih => simp only [List.map_cons, blsD, ih, Option.map_some]
  simp only [anyS, this, Option.map_some, List.any_map]
  rfl
theorem in01t (v : Int) : inS (.int v) (.tup [.int 0, .int 1]) = some (decide (v = 0 ∨ v = 1)) := by
  show inSq true _ _ = _
  unfold inSq
  rw [if_pos ⟨rfl, rfl⟩]
  simp only [List.any_cons, List.any_nil, eqF, Bool.or_false]
  congr 1
  rw [Bool.decide_or, Bool.beq_eq_decide_eq, Bool.beq_eq_decide_eq, decide_eq_decide.mpr (eq_comm (a := (0 : Int)) (b := v)), decide_eq_decide.mpr (eq_comm (a := (1 : Int)) (b := v))]
theorem in01l (v : Int) : inS (.int v) (.lst [.int 0, .int 1]) = some (decide (v = 0 ∨ v = 1)) := by
  show inSq false _ _ = _
  unfold inSq
  rw [if_pos ⟨rfl, rfl⟩]
  simp only [List.any_cons, List.any_nil, eqF, Bool.or_false]
  congr 1
  rw [Bool.decide_or, Bool.beq_eq_decide_eq, Bool.beq_eq_decide_eq, decide_eq_decide.mpr (eq_comm (a := (0 : Int)) (b := v)), decide_eq_decide.mpr (eq_comm (a := (1 : Int)) (b := v))]
theorem nbDs_ints (l : List Int) : nbDs (l.map D.int) = true := by
  induction l with
  | nil => rfl
  | cons x l ih => simp only [List.map_cons, nbDs, nbD, ih]; rfl
theorem eq_by {x y : D} {c : Bool} (hx : nbD x = true) (hy : nbD y = true) (dx : dpD x ≤ 64) (dy : dpD y ≤ 64) (h : c = true ↔ x = y) : eqS x y = some c := by
  obtain ⟨b, h1, h2⟩ := eq_nb hx hy dx dy
  rw [h1]
  congr 1
  cases b <;> cases c <;> simp_all
theorem eq_nilT (od : List Int) : eqS (.tup (od.map D.int)) (.tup []) = some (decide (od = [])) :=
  eq_by (nbDs_ints od) rfl (by simp only [dpD, dpDs_ints]; decide) (by decide) (by simp)
theorem neg_okA {c q : Int} (h0 : c ≠ 0) (h1 : c.natAbs ≤ 1000000) (hq : isPr q = true) : plA (-c) (.int q) = true := plA_of (okN_by (by omega) (by omega)) hq
theorem run_p_can_be (P13 : Φ 13 = f2 g_sq_at) (P45 : ∀ (s c b : Int) (od : List Int), okK s c b od → Φ 45 [some (.p (kD s c b od))] = .ok (.p .non) [none])
    {s c b : Int} {od : List Int} (h : okK s c b od) : runF (b_p_can_be.ev Φ gvD) N_p_can_be.length [some (.p (kD s c b od))] = .ok (.p (.bl (canB s c b od))) [none] := by
  refine WP.eq (wx_run ?_)
  have hl : lenS [.tup (od.map D.int)] = some (.p (.int (od.length : Int))) := by simp [lenS]
  have hk : kD s c b od = .tup [.int s, .int c, .int b, .tup (od.map D.int)] := rfl
  have m2 : ((od.length : Int) % 2 = 0) = (od.length % 2 = 0) := propext (by omega)
  have hc : ∀ (x0 x1 x3 : Option Val), compS (Tg.ofC (.n 5)) (Oc.ev Φ gvD .no) (fun e => (E.ev Φ gvD (.call 13 [0, 1] (.v (.fz (.neg (.v 2))) (.v (.v 5) .nil))) e).frz) [5] (od.map D.int) [] [x0, x1, some (.p (.int c)), x3, some (.p (.tup (od.map D.int))), none] = .ok (.own 0 (od.map fun q => D.bl (sqAt (-c) (.int q)))) [x0, x1, some (.p (.int c)), x3, some (.p (.tup (od.map D.int))), none] := fun x0 x1 x3 => by
    have := comp_gen (ft := Tg.ofC (.n 5)) (fc := Oc.ev Φ gvD .no) (fe := fun e => (E.ev Φ gvD (.call 13 [0, 1] (.v (.fz (.neg (.v 2))) (.v (.v 5) .nil))) e).frz) (vs := [5]) [x0, x1, some (.p (.int c)), x3, some (.p (.tup (od.map D.int))), none] (fun _ => true)
      (fun d => match d with | .int q => .bl (sqAt (-c) (.int q)) | _ => .non) (od.map D.int) [] [x0, x1, some (.p (.int c)), x3, some (.p (.tup (od.map D.int))), none]
      (fun x hx => by
        obtain ⟨k, hk, rfl⟩ := List.mem_map.mp hx
        refine ⟨_, [x0, x1, some (.p (.int c)), x3, some (.p (.tup (od.map D.int))), some (.p (.int k))], rfl, rfl, rfl, fun _ => ⟨[x0, x1, some (.p (.int c)), x3, some (.p (.tup (od.map D.int))), some (.p (.int k))], ?_, rfl⟩⟩
        simp_arith [negS, P13, sq_ev (neg_okA h.c0 h.cl (h.pr k hk))]) rfl (by have := h.ln; simp; omega)
    rw [List.filter_eq_self.mpr (fun _ _ => rfl), List.map_map, List.nil_append] at this
    exact this
  have e45 := P45 s c b od h
  rw [hk] at e45
  simp_arith! [b_p_can_be, e45, hk, mod_pos (show (0 : Int) < 2 by decide), mod_pos (show (0 : Int) < 4 by decide), hl, m2, in01t, Option.map_some, eq_nilT, walkS, hc, any_of, orB]
  unfold canB
  by_cases c1 : s < b
  · rw [if_pos c1, if_pos (Or.inl c1)]
    exact ⟨_, rfl, rfl, rfl⟩
  rw [if_neg c1]
  by_cases c2 : decide (c < 0) = decide (b % 2 = 1)
  rotate_left 1
  · rw [if_pos (by simp [c2]), if_pos (Or.inr (Or.inl c2))]
    exact ⟨_, rfl, rfl, rfl⟩
  rw [if_neg (by simp [c2])]
  by_cases c3 : decide (od.length % 2 = 0) = decide (b % 4 = 0 ∨ b % 4 = 1)
  rotate_left 1
  · rw [if_pos (by rw [decide_eq_false c3]; rfl), if_pos (Or.inr (Or.inr c3))]
    exact ⟨_, rfl, rfl, rfl⟩
  rw [if_neg (by rw [decide_eq_true c3]; decide), if_neg (show ¬ (b > s ∨ decide (c < 0) ≠ decide (b % 2 = 1) ∨ decide (od.length % 2 = 0) ≠ decide (b % 4 = 0 ∨ b % 4 = 1)) from by simp only [not_or, ne_eq, Decidable.not_not]; exact ⟨c1, c2, c3⟩)]
  by_cases c4 : s = 1
  · rw [if_pos c4, if_pos c4]
    exact ⟨_, rfl, rfl, rfl⟩
  rw [if_neg c4, if_neg c4]
  by_cases c5 : 2 < s
  · rw [if_pos c5]
    exact ⟨_, rfl, by simp [c5], rfl⟩
  · rw [if_neg c5]
    exact ⟨_, rfl, by simp [c5], rfl⟩
end
end PG

set_option Elab.async false
set_option linter.all false
set_option maxRecDepth 100000
set_option maxHeartbeats 4000000
/-! CL: forms' kinds, reckoned by the laws. -/
namespace M
open PySem L2
def sg (x : Bool) : Int := if x = true then -1 else 1
theorem sg_mul (x y : Bool) : sg x * sg y = sg (x ^^ y) := by cases x <;> cases y <;> rfl
theorem upS_cons (i m : Nat) : upS (i : Int) (m + 1) = .int (i : Int) :: upS ((i + 1 : Nat) : Int) m := by
  unfold upS
  rw [List.range_succ_eq_map, List.map_cons, List.map_map]
  refine List.cons_eq_cons.mpr ⟨by simp, List.map_congr_left fun a _ => ?_⟩
  show D.int ((i : Int) + ((a + 1 : Nat) : Int)) = D.int (((i + 1 : Nat) : Int) + (a : Int))
  congr 1
  omega
end M
namespace PG
open PySem L2 M
section
variable {Φ : Nat → En → Res Val}
theorem at_lst {p r : List Int} {a : Int} : idxS (.lst ((p ++ a :: r).map D.int)) (.int (p.length : Int)) = some (.int a) := by
  show atI _ _ = _
  have h : ixN ((p ++ a :: r).map D.int).length (p.length : Int) = some p.length := by
    unfold ixN
    rw [if_pos (by omega), if_pos (by simp; omega), Int.toNat_natCast]
  unfold atI
  rw [h, Option.bind_some]
  simp
theorem run_l_form_sign (P29 : Φ 29 = f3 g_lsign) {pl : D} {ns : List Int} (h : okF ns) (hp : plOk pl = true) : runF (b_l_form_sign.ev Φ gvD) N_l_form_sign.length [some (.p (.lst (ns.map D.int))), some (.p pl)] = .ok (.p (.int (sg (oddForm ns pl)))) [none, none] := by
  refine WP.eq (wx_run ?_)
  have hl : lenS [.lst (ns.map D.int)] = some (.p (.int (ns.length : Int))) := by simp [lenS]
  have hok : ∀ k ∈ ns, okN k = true := fun k hk => List.all_eq_true.mp h.1 k hk
  simp_arith! [b_l_form_sign, orB, hl, rng63 (show ns.length ≤ 63 from by have := h.2; omega)]
  refine wx_forN (fun zs e => ∃ (pre rest : List Int) (m : Bool) (x3 x4 : Option Val), ns = pre ++ rest ∧ zs = upS (pre.length : Int) rest.length ∧ (m ^^ pairX pl pre rest) = oddForm ns pl ∧ e = [some (.p (.lst (ns.map D.int))), some (.p pl), some (.p (.int (sg m))), x3, x4]) ?_ ?_ ?_
  · exact ⟨[], ns, false, none, none, rfl, rfl, by simp [oddForm], rfl⟩
  · rintro e ⟨pre, rest, m, x3, x4, h1, h2, h3, rfl⟩
    have : rest = [] := by
      cases rest with
      | nil => rfl
      | cons _ _ => rw [List.length_cons, upS_cons] at h2; cases h2
    subst this
    simp only [pairX, Bool.xor_false] at h3
    simp_arith! [h3]
    exact ⟨_, rfl, rfl⟩
  · rintro x zs e ⟨pre, rest, m, x3, x4, h1, h2, h3, rfl⟩
    cases rest with
    | nil => cases h2
    | cons n rest =>
      rw [List.length_cons, upS_cons] at h2
      obtain ⟨rfl, rfl⟩ := List.cons.inj h2
      have hn : okN n = true := hok n (by rw [h1]; simp)
      have hlen : pre.length ≤ 63 := by have := h.2; rw [h1, List.length_append] at this; omega
      simp_arith! [rng63 hlen]
      refine wx_forN (fun zs e => ∃ (p1 p2 : List Int) (a : Bool) (x4 : Option Val), pre = p1 ++ p2 ∧ zs = upS (p1.length : Int) p2.length ∧ (a ^^ xorL (fun m => oddAt m n pl) p2) = (m ^^ xorL (fun m => oddAt m n pl) pre) ∧ e = [some (.p (.lst (ns.map D.int))), some (.p pl), some (.p (.int (sg a))), some (.p (.int (pre.length : Int))), x4]) ?_ ?_ ?_
      · exact ⟨[], pre, m, x4, rfl, rfl, rfl, rfl⟩
      · rintro e ⟨p1, p2, a, x4, g1, g2, g3, rfl⟩
        have : p2 = [] := by
          cases p2 with
          | nil => rfl
          | cons _ _ => rw [List.length_cons, upS_cons] at g2; cases g2
        subst this
        simp only [xorL, Bool.xor_false] at g3
        simp_arith! []
        refine ⟨pre ++ [n], rest, a, _, _, by simp [h1], by simp, ?_, rfl⟩
        rw [← h3, pairX, g3, Bool.xor_assoc]
      · rintro x zs e ⟨p1, p2, a, x4, g1, g2, g3, rfl⟩
        cases p2 with
        | nil => cases g2
        | cons c p2 =>
          rw [List.length_cons, upS_cons] at g2
          obtain ⟨rfl, rfl⟩ := List.cons.inj g2
          have hc : okN c = true := hok c (by rw [h1, g1]; simp)
          have i1 : idxS (.lst (ns.map D.int)) (.int (p1.length : Int)) = some (.int c) := by
            rw [h1, g1, List.append_assoc, List.cons_append]; exact at_lst
          have i2 : idxS (.lst (ns.map D.int)) (.int (pre.length : Int)) = some (.int n) := by
            rw [h1]; exact at_lst
          have hm : mulS (.int (sg a)) (.int (sg (oddAt c n pl))) = some (.p (.int (sg a * sg (oddAt c n pl)))) := mul_64 (by cases a <;> decide) (by cases oddAt c n pl <;> decide)
          simp_arith! [i1, i2, P29, ls_ev hc hn hp, show sgn c n pl = sg (oddAt c n pl) from rfl, hm, sg_mul]
          refine ⟨p1 ++ [c], p2, _, _, by simp [g1], by simp, ?_, rfl⟩
          rw [← g3, xorL, Bool.xor_assoc]
/-- one number's exponents put in, by the law -/
theorem lcore_in (P27 : Φ 27 = f2 g_split) (d : D) {n : Int} (hn : okN n = true) (x1 : Option Val) {X : XQ} {Q : Fl → En → Prop} : ∀ (qs ks : List Int) (V : Int → Nat) (x4 : Option Val), (∀ q ∈ qs, isPr q = true) → qs.Nodup → ks.Nodup → (∀ q, q ∉ ks → V q = 0) → ks.length + qs.length ≤ 1000 →
    (∀ x4', Q .nx [some (.p d), x1, some (.od 0 ((addKs ks qs).map Sum.inl) ((addKs ks qs).map fun k => D.int (vAdd V n qs k : Int))), some (.p (.int n)), x4']) →
    WX (forS (Tg.ev Φ gvD (.n 4)) (Ss.ev Φ gvD (.cons (.asg (.sub 2 (.v 4)) (.bop .add (.get2 2 (.v 4) (.k (.int 0))) (.ix (.call 27 [0, 1] (.v (.v 3) (.v (.v 4) .nil))) (.k (.int 0))))) .nil)) (qs.map D.int) [some (.p d), x1, some (.od 0 (ks.map Sum.inl) (ks.map fun k => D.int (V k : Int))), some (.p (.int n)), x4]) Q X
  | [], ks, V, x4, _, _, _, _, _, hq => by
    rw [List.map_nil, forS_nil]
    have e : vAdd V n [] = V := funext fun k => by simp [vAdd]
    have := hq x4
    rw [e] at this
    exact this
  | q :: qs, ks, V, x4, hp, hqn, hk, hV, hl, hq => by
    have hl' : ks.length + (qs.length + 1) ≤ 1000 := hl
    have hnd : (ks.map (Sum.inl : Int → Key)).Nodup := List.Pairwise.map _ (fun a b h e => h (Sum.inl.inj e)) hk
    have hpq := isPr_le (hp q List.mem_cons_self)
    have hok : okA n q = true := by
      obtain ⟨a1, a2⟩ := okN_of hn
      simp only [okA, Bool.and_eq_true, decide_eq_true_eq]
      refine ⟨⟨⟨a1, hpq.2⟩, by omega⟩, by omega⟩
    have hc := (List.nodup_cons.mp hqn)
    have ih := lcore_in P27 d hn x1 (X := X) (Q := Q) qs (addK ks q) (upV V q (split n q).1) (some (.p (.int q))) (fun r hr => hp r (List.mem_cons_of_mem _ hr)) hc.2 (addK_nd hk)
      (fun r hr => by
        have h1 : r ∉ ks := fun z => hr (mem_addK.mpr (.inl z))
        have h2 : r ≠ q := fun z => hr (mem_addK.mpr (.inr z))
        show (if r = q then _ else V r) = 0
        rw [if_neg h2]; exact hV r h1) (by have := addK_len (ks := ks) (k := q); omega)
      (fun x4' => by
        have e : vAdd (upV V q (split n q).1) n qs = vAdd V n (q :: qs) := funext fun k => by
          unfold vAdd upV
          by_cases c : k = q
          · subst c; simp [hc.1]
          · simp [c]
        rw [e]
        exact hq x4')
    rw [List.map_cons, forS_cons]
    simp_arith! [P27, sp_ev hok, get2E, M.keyOf, valD_up V q ks (hV q), show ∀ a b : D, idxS (.tup [a, b]) (.int 0) = some a from fun _ _ => rfl, addS, subT, setS, Option.bind_some, List.length_map, hnd, lt_SZ (show ks.length ≤ 1000000 by omega)]
    rw [show ((V q : Int) + ((split n q).1 : Int)) = ((V q + (split n q).1 : Nat) : Int) from rfl, putD_up V q _ ks (hV q) hk]
    exact ih
/-- the sign of numbers together -/
theorem sgnK_cons (n : Int) (ns : List Int) (h : n ≠ 0) : (if 0 < n then (1 : Int) else -1) * sgnK ns = sgnK (n :: ns) := by
  have hb : bel (n :: ns) = (if n < 0 then 1 else 0) + bel ns := by
    unfold bel
    by_cases c : n < 0
    · rw [List.filter_cons_of_pos (by simpa using c), if_pos c, List.length_cons]; omega
    · rw [List.filter_cons_of_neg (by simpa using c), if_neg c]; omega
  unfold sgnK
  rw [hb]
  by_cases c : n < 0
  · rw [if_neg (show ¬ 0 < n by omega), if_pos c]
    by_cases p : bel ns % 2 = 1
    · rw [if_pos p, if_neg (by omega)]; rfl
    · rw [if_neg p, if_pos (by omega)]; rfl
  · rw [if_pos (show 0 < n by omega), if_neg c, Int.one_mul, Nat.zero_add]
theorem sgnK_abs (ns : List Int) : (sgnK ns).natAbs = 1 := by unfold sgnK; split <;> rfl
theorem lcore_all (P25 : Φ 25 = f1 g_lprimes) (P27 : Φ 27 = f2 g_split) (d : D) {X : XQ} {Q : Fl → En → Prop} : ∀ (ns ks : List Int) (V : Int → Nat) (f : Int) (x3 x4 : Option Val), ns.all okN = true → ks.Nodup → (∀ q, q ∉ ks → V q = 0) → ks.length + 9 * ns.length ≤ 1000 →
    (∀ x3' x4', Q .nx [some (.p d), some (.p (.int (f * sgnK ns))), some (.od 0 ((addAll ks ns).map Sum.inl) ((addAll ks ns).map fun k => D.int (vAll V ns k : Int))), x3', x4']) →
    WX (forS (Tg.ev Φ gvD (.n 3)) (Ss.ev Φ gvD (.cons (.set 1 (.ite (.cmp .gt (.v 3) (.k (.int 0))) (.v 1) (.neg (.v 1)))) (.cons (.fr (.n 4) (.seq (.call 25 [0] (.v (.v 3) .nil))) (.cons (.asg (.sub 2 (.v 4)) (.bop .add (.get2 2 (.v 4) (.k (.int 0))) (.ix (.call 27 [0, 1] (.v (.v 3) (.v (.v 4) .nil))) (.k (.int 0))))) .nil)) .nil))) (ns.map D.int) [some (.p d), some (.p (.int f)), some (.od 0 (ks.map Sum.inl) (ks.map fun k => D.int (V k : Int))), x3, x4]) Q X
  | [], ks, V, f, x3, x4, _, _, _, _, hq => by
    rw [List.map_nil, forS_nil]
    have := hq x3 x4
    rw [show sgnK [] = 1 from rfl, Int.mul_one] at this
    exact this
  | n :: ns, ks, V, f, x3, x4, ho, hk, hV, hl, hq => by
    have hl' : ks.length + 9 * (ns.length + 1) ≤ 1000 := hl
    rw [List.all_cons, Bool.and_eq_true] at ho
    obtain ⟨h1, h2⟩ := okN_of ho.1
    have h3 := tri_len ho.1
    obtain ⟨k1, k2, k3⟩ := addKs_ok (qs := tri n) hk
    rw [List.map_cons, forS_cons]
    have key : ∀ g : Int, g = f * (if 0 < n then 1 else -1) → WX (forS (Tg.ev Φ gvD (.n 4)) (Ss.ev Φ gvD (.cons (.asg (.sub 2 (.v 4)) (.bop .add (.get2 2 (.v 4) (.k (.int 0))) (.ix (.call 27 [0, 1] (.v (.v 3) (.v (.v 4) .nil))) (.k (.int 0))))) .nil)) ((tri n).map D.int) [some (.p d), some (.p (.int g)), some (.od 0 (ks.map Sum.inl) (ks.map fun k => D.int (V k : Int))), some (.p (.int n)), x4])
        (seqK (turnK Q fun e2 => WX (forS (Tg.ev Φ gvD (.n 3)) (Ss.ev Φ gvD (.cons (.set 1 (.ite (.cmp .gt (.v 3) (.k (.int 0))) (.v 1) (.neg (.v 1)))) (.cons (.fr (.n 4) (.seq (.call 25 [0] (.v (.v 3) .nil))) (.cons (.asg (.sub 2 (.v 4)) (.bop .add (.get2 2 (.v 4) (.k (.int 0))) (.ix (.call 27 [0, 1] (.v (.v 3) (.v (.v 4) .nil))) (.k (.int 0))))) .nil)) .nil))) (ns.map D.int) e2) Q X) fun e2 => WX (Ss.ev Φ gvD .nil e2) (turnK Q fun e2 => WX (forS (Tg.ev Φ gvD (.n 3)) (Ss.ev Φ gvD (.cons (.set 1 (.ite (.cmp .gt (.v 3) (.k (.int 0))) (.v 1) (.neg (.v 1)))) (.cons (.fr (.n 4) (.seq (.call 25 [0] (.v (.v 3) .nil))) (.cons (.asg (.sub 2 (.v 4)) (.bop .add (.get2 2 (.v 4) (.k (.int 0))) (.ix (.call 27 [0, 1] (.v (.v 3) (.v (.v 4) .nil))) (.k (.int 0))))) .nil)) .nil))) (ns.map D.int) e2) Q X) X) X := fun g hg => by
      refine lcore_in P27 d ho.1 _ (tri n) ks V x4 (fun q hq => tri_isPr ho.1 hq) (tri_nd ho.1) hk hV (by omega) fun x4' => ?_
      rw [seqK_nx, evSs_nil, wx_ok, turnK_nx]
      refine lcore_all P25 P27 d ns (addKs ks (tri n)) (vAdd V n (tri n)) g (some (.p (.int n))) x4' ho.2 k1 (fun q hq => ?_) (by omega) fun x3' x4'' => ?_
      · have hq1 : ¬ (q ∈ ks ∨ q ∈ tri n) := fun z => hq ((k3 q).mpr z)
        rw [not_or] at hq1
        show (if q ∈ tri n then _ else V q) = 0
        rw [if_neg hq1.2]; exact hV q hq1.1
      · have := hq x3' x4''
        rw [← sgnK_cons n ns h1, ← Int.mul_assoc, ← hg] at this
        exact this
    by_cases c : 0 < n
    · simp_arith! [c, P25, lp_ev ho.1, walkS]
      exact key f (by simp [c])
    · simp_arith! [c, negS, P25, lp_ev ho.1, walkS]
      exact key (-f) (by simp [c])
theorem run_l_core (P25 : Φ 25 = f1 g_lprimes) (P27 : Φ 27 = f2 g_split) {ns : List Int} (h : okF ns) : runF (b_l_core.ev Φ gvD) N_l_core.length [some (.p (.lst (ns.map D.int)))] = .ok (.p (.int (coreI ns))) [none] := by
  refine WP.eq (wx_run ?_)
  simp_arith! [b_l_core, walkS]
  refine lcore_all P25 P27 _ ns [] (fun _ => 0) 1 none none h.1 List.nodup_nil (fun _ _ => rfl) (by have := h.2; simp; omega) fun x3 x4 => ?_
  rw [seqK_nx]
  obtain ⟨k1, k2, k3⟩ := addAll_ok (ns := ns) (ks := []) List.nodup_nil h.1
  have hpr := addAll_pr h.1
  have hlen : (addAll [] ns).length ≤ 60 := by have := h.2; simp at k2; omega
  have hv : vAll (fun _ => 0) ns = vs ns := funext fun k => by rw [vAll_vs]; simp
  rw [hv, Int.one_mul]
  have hco : coreI ns = sgnK ns * prodI ((sortI (addAll [] ns)).filter fun k => decide (vs ns k % 2 = 1)) := by
    unfold coreI coreK
    rw [prodI_perm ((sortI_perm (addAll [] ns)).filter _)]
  generalize hK : addAll [] ns = ks at *
  have hs : sortDS [.dic (ks.map Sum.inl) (ks.map fun k => D.int (vs ns k : Int))] = some (.own 0 ((sortI ks).map D.int)) := by
    simp only [sortDS, keysI_map]
    rw [if_pos (by omega)]
  have hs0 : sortS [.dic (ks.map Sum.inl) (ks.map fun k => D.int (vs ns k : Int))] = none := rfl
  have hsl : (sortI ks).length ≤ 60 := by rw [(sortI_perm ks).length_eq]; exact hlen
  have hsm : ∀ q ∈ sortI ks, q ∈ ks := fun q hq => (sortI_perm ks).mem_iff.mp hq
  generalize hS : sortI ks = ss at *
  simp_arith! [orB, hs0, hs, walkS]
  refine wx_forN (fun zs e => ∃ (ys : List Int) (f : Int) (x4 : Option Val), zs = ys.map D.int ∧ (∀ y ∈ ys, y ∈ ks) ∧ ys.length ≤ 60 ∧ f.natAbs ≤ 1000000 ^ (60 - ys.length) ∧ f * prodI (ys.filter fun k => decide (vs ns k % 2 = 1)) = coreI ns ∧ e = [some (.p (.lst (ns.map D.int))), some (.p (.int f)), some (.p (.dic (ks.map Sum.inl) (ks.map fun k => D.int (vs ns k : Int)))), x3, x4]) ?_ ?_ ?_
  · exact ⟨ss, sgnK ns, x4, rfl, hsm, hsl, by rw [sgnK_abs]; exact Nat.one_le_pow _ _ (by decide), hco.symm, rfl⟩
  · rintro e ⟨ys, f, x4, h1, _, _, _, h4, rfl⟩
    have : ys = [] := List.map_eq_nil_iff.mp h1.symm
    subst this
    simp only [List.filter_nil, prodI, Int.mul_one] at h4
    simp_arith! [h4]
    exact ⟨_, rfl, rfl⟩
  · rintro x zs e ⟨ys, f, x4, h1, h2, h3, h4, h5, rfl⟩
    cases ys with
    | nil => cases h1
    | cons y ys =>
      rw [List.map_cons] at h1
      obtain ⟨rfl, rfl⟩ := List.cons.inj h1
      have hy := h2 y List.mem_cons_self
      have hy2 := (isPr_le (hpr y hy)).1
      have hm := mul_small (i := f) (j := y) (big_pow h4 (by omega)) (big_pow (k := 1) hy2 (by decide))
      have hi : idxS (.dic (ks.map Sum.inl) (ks.map fun k => D.int (vs ns k : Int))) (.int y) = some (.int (vs ns y : Int)) := by
        show (M.keyOf (.int y)).bind _ = _
        rw [show M.keyOf (.int y) = some (Sum.inl y) from rfl, Option.bind_some, valD_in _ y ks hy]
      simp_arith! [hi, intS, orB, mod_pos (show (0 : Int) < 2 by decide), parP]
      simp only [List.length_cons] at h3 h4
      have hp : 60 - ys.length = (60 - (ys.length + 1)) + 1 := by omega
      by_cases c : vs ns y % 2 = 1
      · simp_arith! [c, hm]
        refine ⟨ys, f * y, _, rfl, fun z hz => h2 z (List.mem_cons_of_mem _ hz), by omega, ?_, ?_, rfl⟩
        · rw [Int.natAbs_mul, hp, Nat.pow_succ]
          exact Nat.mul_le_mul h4 hy2
        · rw [← h5, List.filter_cons_of_pos (by simpa using c), prodI, Int.mul_assoc]
      · simp_arith! [c]
        refine ⟨ys, f, _, rfl, fun z hz => h2 z (List.mem_cons_of_mem _ hz), by omega, ?_, ?_, rfl⟩
        · rw [hp, Nat.pow_succ]
          exact Nat.le_trans h4 (Nat.le_mul_of_pos_right _ (by decide))
        · rw [← h5, List.filter_cons_of_neg (by simpa using c)]
theorem sg_m1 (x : Bool) : decide (sg x = -1) = x := by cases x <;> rfl
theorem run_l_kind (P26 : Φ 26 = f1 g_lplaces) (P48 : ∀ ns : List Int, okF ns → Φ 48 [some (.p (.lst (ns.map D.int)))] = .ok (.p (.int (coreI ns))) [none])
    (P47 : ∀ (ns : List Int) (pl : D), okF ns → plOk pl = true → Φ 47 [some (.p (.lst (ns.map D.int))), some (.p pl)] = .ok (.p (.int (sg (oddForm ns pl)))) [none, none])
    {ns : List Int} (h : okF ns) : runF (b_l_kind.ev Φ gvD) N_l_kind.length [some (.p (.lst (ns.map D.int)))] = .ok (.p (kindD ns)) [none] := by
  refine WP.eq (wx_run ?_)
  have hpl := plD_ok h.1
  have hlen := plD_pl h
  have hc := comp_gen (ft := Tg.ofC (.n 2)) (fc := Oc.ev Φ gvD (.yes (.cmp .eq (.call 47 [0, 1] (.v (.v 0) (.v (.v 2) .nil))) (.neg (.k (.int 1)))))) (fe := fun e => (E.ev Φ gvD (.v 2) e).frz) (vs := [2])
      [some (.p (.lst (ns.map D.int))), none, none, none] (fun pl => oddForm ns pl) id ((plS ns).map D.int) []
      [some (.p (.lst (ns.map D.int))), none, none, none]
      (fun x hx => by
        refine ⟨_, [some (.p (.lst (ns.map D.int))), none, some (.p x), none], rfl, ?_, rfl, fun _ => ⟨_, rfl, rfl⟩⟩
        simp_arith [P47 ns x h (hpl x (by unfold plD; exact List.mem_cons_of_mem _ hx)), negS, sg_m1]) rfl (by simp only [plD, List.length_cons, List.length_map] at hlen; simp; omega)
  rw [odd_map, List.nil_append] at hc
  have hs : sliceS (.lst (plD ns)) (some 1) none = some (.own 0 ((plS ns).map D.int)) := by
    show some (Val.own 0 (cutD (plD ns) (some 1) none)) = _
    unfold plD
    rw [cut_one]
  have hp : f1 g_lplaces [some (.p (.lst (ns.map D.int)))] = .ok (.own 0 (plD ns)) [none] := f1_ev (by
    simp only [g_lplaces, intsD_map]
    rw [if_pos ⟨h.1, h.2⟩])
  have hb := comp_gen (ft := Tg.ofC (.n 3)) (fc := Oc.ev Φ gvD (.yes (.cmp .lt (.v 3) (.k (.int 0))))) (fe := fun e => (E.ev Φ gvD (.v 3) e).frz) (vs := [3])
      [some (.p (.lst (ns.map D.int))), some (.own 0 ((oddPl ns).map D.int)), none, none] (fun k => match k with | .int k => decide (k < 0) | _ => false) id (ns.map D.int) []
      [some (.p (.lst (ns.map D.int))), some (.own 0 ((oddPl ns).map D.int)), none, none]
      (fun x hx => by
        obtain ⟨k, hk, rfl⟩ := List.mem_map.mp hx
        refine ⟨_, [some (.p (.lst (ns.map D.int))), some (.own 0 ((oddPl ns).map D.int)), none, some (.p (.int k))], rfl, ?_, rfl, fun _ => ⟨_, rfl, rfl⟩⟩
        simp_arith []) rfl (by have := h.2; simp; omega)
  rw [List.map_id, List.filter_map, List.nil_append] at hb
  have hl : ∀ l : List Int, lenS [.lst (l.map D.int)] = some (.p (.int (l.length : Int))) := fun l => by simp [lenS]
  rw [show (plS ns).filter (fun q => oddForm ns (.int q)) = oddPl ns from rfl] at hc
  simp_arith! [b_l_kind, P26, hp, optI, negS, hs, walkS, hc, orB, hl, P48 ns h, hb, tupleS]
  exact ⟨_, rfl, rfl, rfl⟩
/-- weights drawn -/
theorem run_l_weights (P22 : Φ 22 = fJ2 g_dip) (P24 : Φ 24 = fJ2 g_num) {j : J} {k most top : Int} (hj : okJ k j) (hk : k ≤ 900000) (m1 : 1 ≤ most) (m6 : most ≤ 6) (t1 : 1 ≤ top) (t6 : top ≤ 1000000) :
    WP (runF (b_l_weights.ev Φ gvD) N_l_weights.length [some (.own 1 j.d), some (.p (.int most)), some (.p (.int top))]) fun v o => ∃ (ns : List Int) (j' : J), v = .own 0 (ns.map D.int) ∧ ns ≠ [] ∧ (ns.length : Int) ≤ most ∧ (∀ n ∈ ns, n ≠ 0 ∧ (n.natAbs : Int) ≤ top) ∧ okJ (k + 25) j' ∧ o = [some (.own 1 j'.d), none, none] := by
  refine wx_run ?_
  simp_arith! [b_l_weights]
  refine dip_wx P22 rfl hj (by omega) (by omega) (by omega) fun d j1 d0 d1 h1 => ?_
  have hr : rangeS [.int (1 + d)] = some (upS 0 (d.toNat + 1)) := by
    have := rng63 (m := d.toNat + 1) (by omega)
    rw [show ((d.toNat + 1 : Nat) : Int) = 1 + d by omega] at this
    exact this
  simp_arith! [addS, hr]
  refine wx_comp (fun zs acc e => ∃ (ns : List Int) (j2 : J), acc = ns.map D.int ∧ zs.length + ns.length = d.toNat + 1 ∧ (∀ n ∈ ns, n ≠ 0 ∧ (n.natAbs : Int) ≤ top) ∧ okJ (k + 1 + 4 * (ns.length : Int)) j2 ∧ e = [some (.own 1 j2.d), some (.p (.int most)), some (.p (.int top)), none]) ?_ ?_ ?_
  · exact ⟨[], j1, rfl, by simp [upS], by simp, okJ_mono h1 (by simp), rfl⟩
  · rintro acc e ⟨ns, j2, rfl, g1, g2, g3, rfl⟩
    simp only [List.length_nil] at g1
    exact ⟨_, rfl, ns, j2, rfl, fun z => by subst z; simp at g1, by omega, g2, okJ_mono g3 (by omega), rfl⟩
  · rintro x zs acc e ⟨ns, j2, rfl, g1, g2, g3, rfl⟩
    rw [List.length_cons] at g1
    refine ⟨[some (.own 1 j2.d), some (.p (.int most)), some (.p (.int top)), some (.p x)], rfl, ?_⟩
    simp_arith! []
    refine num_wx P24 rfl g3 (by omega) (by omega) t6 fun n j3 n0 n1 h3 => ?_
    refine ⟨by rw [List.length_map]; exact lt_SZ (by omega), ns ++ [n], j3, by simp, by simp; omega, fun z hz => ?_, ?_, rfl⟩
    · rcases List.mem_append.mp hz with hz | hz
      · exact g2 z hz
      · rw [List.mem_singleton.mp hz]; exact ⟨n0, n1⟩
    · refine okJ_mono h3 ?_
      simp only [List.length_append, List.length_cons, List.length_nil]; omega
end
end PG

set_option Elab.async false
set_option linter.all false
set_option maxRecDepth 100000
set_option maxHeartbeats 4000000
/-! K29b: kinds that can be, by the law. -/
namespace PG
open PySem L2 M
section
variable {Φ : Nat → En → Res Val}
theorem run_l_can (P30 : Φ 30 = f2 g_sq_at) {s c b : Int} {od : List Int} (h : okK s c b od) : runF (b_l_can.ev Φ gvD) N_l_can.length [some (.p (kD s c b od))] = .ok (.p (.bl (canB s c b od))) [none] := by
  refine WP.eq (wx_run ?_)
  have hl : lenS [.tup (od.map D.int)] = some (.p (.int (od.length : Int))) := by simp [lenS]
  have hk : kD s c b od = .tup [.int s, .int c, .int b, .tup (od.map D.int)] := rfl
  have m2 : ((od.length : Int) % 2 = 0) = (od.length % 2 = 0) := propext (by omega)
  have hc : ∀ (x0 x1 x3 : Option Val), compS (Tg.ofC (.n 5)) (Oc.ev Φ gvD (.yes (.tr (.call 30 [0, 1] (.v (.fz (.neg (.v 2))) (.v (.v 5) .nil)))))) (fun e => (E.ev Φ gvD (.v 5) e).frz) [5] (od.map D.int) [] [x0, x1, some (.p (.int c)), x3, some (.p (.tup (od.map D.int))), none] = .ok (.own 0 ((od.filter fun q => sqAt (-c) (.int q)).map D.int)) [x0, x1, some (.p (.int c)), x3, some (.p (.tup (od.map D.int))), none] := fun x0 x1 x3 => by
    have := comp_gen (ft := Tg.ofC (.n 5)) (fc := Oc.ev Φ gvD (.yes (.tr (.call 30 [0, 1] (.v (.fz (.neg (.v 2))) (.v (.v 5) .nil)))))) (fe := fun e => (E.ev Φ gvD (.v 5) e).frz) (vs := [5]) [x0, x1, some (.p (.int c)), x3, some (.p (.tup (od.map D.int))), none] (fun d => sqAt (-c) d)
      id (od.map D.int) [] [x0, x1, some (.p (.int c)), x3, some (.p (.tup (od.map D.int))), none]
      (fun x hx => by
        obtain ⟨k, hk, rfl⟩ := List.mem_map.mp hx
        refine ⟨_, [x0, x1, some (.p (.int c)), x3, some (.p (.tup (od.map D.int))), some (.p (.int k))], rfl, ?_, rfl, fun _ => ⟨_, rfl, rfl⟩⟩
        simp_arith [negS, P30, sq_ev (neg_okA h.c0 h.cl (h.pr k hk))]) rfl (by have := h.ln; simp; omega)
    rw [List.map_id, List.filter_map, List.nil_append] at this
    exact this
  have he : ∀ l : List Int, eqS (.lst (l.map D.int)) (.lst []) = some (decide (l = [])) := fun l =>
    eq_by (nbDs_ints l) rfl (by simp only [dpD, dpDs_ints]; decide) (by decide) (by simp)
  simp_arith! [b_l_can, hk, mod_pos (show (0 : Int) < 2 by decide), mod_pos (show (0 : Int) < 4 by decide), hl, m2, in01l, Option.map_some, eq_nilT, walkS, hc, he, intS, orB]
  unfold canB
  by_cases c1 : s < b
  · rw [if_pos c1, if_pos (Or.inl c1)]
    exact ⟨_, rfl, rfl, rfl⟩
  rw [if_neg c1]
  by_cases c2 : decide (c < 0) = decide (b % 2 = 1)
  rotate_left 1
  · rw [if_pos (by simp [c2]), if_pos (Or.inr (Or.inl c2))]
    exact ⟨_, rfl, rfl, rfl⟩
  rw [if_neg (by simp [c2])]
  by_cases c3 : decide (od.length % 2 = 0) = decide (b % 4 = 0 ∨ b % 4 = 1)
  rotate_left 1
  · rw [if_pos (by rw [decide_eq_false c3]; rfl), if_pos (Or.inr (Or.inr c3))]
    exact ⟨_, rfl, rfl, rfl⟩
  rw [if_neg (by rw [decide_eq_true c3]; decide), if_neg (show ¬ (b > s ∨ decide (c < 0) ≠ decide (b % 2 = 1) ∨ decide (od.length % 2 = 0) ≠ decide (b % 4 = 0 ∨ b % 4 = 1)) from by simp only [not_or, ne_eq, Decidable.not_not]; exact ⟨c1, c2, c3⟩)]
  by_cases c4 : s = 1
  · rw [if_pos c4, if_pos c4]
    exact ⟨_, rfl, rfl, rfl⟩
  rw [if_neg c4, if_neg c4]
  by_cases c5 : 2 < s
  · rw [if_pos c5]
    exact ⟨_, rfl, by simp [c5], rfl⟩
  · rw [if_neg c5]
    refine ⟨_, rfl, ?_, rfl⟩
    simp only [c5, decide_false, Bool.false_or]
    congr 2
    cases ha : od.any fun p => sqAt (-c) (.int p) with
    | false => exact decide_eq_true (List.filter_eq_nil_iff.mpr fun q hq => by
        have := List.any_eq_false.mp ha q hq
        exact this)
    | true =>
      refine decide_eq_false fun z => ?_
      obtain ⟨q, hq, h2⟩ := List.any_eq_true.mp ha
      exact List.filter_eq_nil_iff.mp z q hq h2
end
end PG

set_option Elab.async false
set_option linter.all false
set_option maxRecDepth 100000
set_option maxHeartbeats 4000000
/-! K29c: kinds bent. -/
namespace PG
open PySem L2 M
section
variable {Φ : Nat → En → Res Val}
abbrev bEnd : Ss := match b_l_bent with
  | .cons _ (.cons _ (.cons _ (.cons _ (.cons _ r)))) => r
  | _ => .nil
theorem sort_seq {x : D} {od : List Int} (h : seqI x = some od) : sortS [x] = some (.own 0 ((sortI od).map D.int)) := by
  rcases seqI_eq h with e | e <;> subst e <;> simp only [sortS, intsD_maps, Option.map_some]
theorem list_seq {x : D} {od : List Int} (h : seqI x = some od) : listS [x] = some (.own 0 (od.map D.int)) := by
  rcases seqI_eq h with e | e <;> subst e <;> rfl
theorem in_seq {x : D} {od : List Int} (h : seqI x = some od) (q : Int) : inS (.int q) x = some (decide (q ∈ od)) := by
  have hf : ∀ l : List Int, (l.map D.int).all flatD = true := fun l => by
    induction l with
    | nil => rfl
    | cons a l ih => rw [List.map_cons, List.all_cons, ih]; rfl
  have ha : ∀ l : List Int, (l.map D.int).any (fun y => eqF y (.int q)) = decide (q ∈ l) := fun l => by
    induction l with
    | nil => rfl
    | cons a l ih =>
      rw [List.map_cons, List.any_cons, ih]
      by_cases c : a = q
      · subst c; simp [eqF]
      · have c' : ¬ q = a := fun e => c e.symm
        simp [eqF, c, c']
  rcases seqI_eq h with e | e <;> subst e
  · show inSq true _ _ = _
    unfold inSq
    rw [if_pos ⟨rfl, hf od⟩, ha]
  · show inSq false _ _ = _
    unfold inSq
    rw [if_pos ⟨rfl, hf od⟩, ha]
theorem pm11 : pm 11 := pm_by (k := 4) (by decide) (by decide) (by decide)
theorem pm999983 : pm 999983 := pm_by (k := 1000) (by decide) (by decide) (by decide +kernel)
def bentQ (k : Int) (v : Val) (o : En) : Prop := ∃ (s c b : Int) (od : List Int) (j : J), v = .p (kD s c b od) ∧ okK s c b od ∧ okJ (k + 10) j ∧ o = [some (.own 1 j.d), none]
theorem bent_end {s c b : Int} {od : List Int} {j : J} {k : Int} {x : D} {e1 x3 x4 x5 x6 : Option Val} {e0 : D} (hx : seqI x = some od) (s1 : 1 ≤ s) (s6 : s ≤ 6) (c0 : c ≠ 0) (cl : c.natAbs ≤ 1000000) (cf : freeZ c) (b0 : 0 ≤ b) (b6 : b ≤ 6) (pr : ∀ q ∈ od, isPr q = true) (nd : od.Nodup) (ln : od.length ≤ 64) (hj : okJ (k + 10) j) :
    WP (Ss.ev Φ gvD bEnd [some (.own 1 j.d), some (.p e0), some (.own 0 [.int s, .int c, .int b, x]), x3, x4, x5, x6]) fun fl e' => ∃ o, outE [some (.own 1 j.d), some (.p e0)] e' = some o ∧ match fl with
      | .rt v => bentQ k v o
      | .nx => bentQ k (.p .non) o
      | _ => False := by
  have i0 : ∀ a b c d : D, idxS (.lst [a, b, c, d]) (.int 0) = some a := fun _ _ _ _ => rfl
  have i1 : ∀ a b c d : D, idxS (.lst [a, b, c, d]) (.int 1) = some b := fun _ _ _ _ => rfl
  have i2 : ∀ a b c d : D, idxS (.lst [a, b, c, d]) (.int 2) = some c := fun _ _ _ _ => rfl
  have i3 : ∀ a b c d : D, idxS (.lst [a, b, c, d]) (.int 3) = some d := fun _ _ _ _ => rfl
  simp_arith! [bEnd, b_l_bent, i0, i1, i2, i3, orB, sort_seq hx, tupleS]
  exact ⟨_, rfl, s, c, b, sortI od, j, rfl, ⟨s1, s6, c0, cl, cf, b0, b6, fun q hq => pr q ((sortI_perm od).mem_iff.mp hq), sortI_nd nd, by rw [(sortI_perm od).length_eq]; exact ln⟩, hj, rfl⟩
abbrev bBody : Ss := match b_l_bent with
  | .cons _ (.cons _ (.cons _ (.cons _ (.cons (.iff _ (.cons (.fr _ _ b) _) _) _)))) => b
  | _ => .nil
theorem set3 (t : Nat) (a b c x v : D) : setS (.own t [a, b, c, x]) (.int 3) v = some (.own t [a, b, c, v]) := rfl
theorem get3 (a b c x : D) : idxS (.lst [a, b, c, x]) (.int 3) = some x := rfl
theorem bent_fin {s c b : Int} {od : List Int} {j : J} {k : Int} (s1 : 1 ≤ s) (s6 : s ≤ 6) (c0 : c ≠ 0) (cl : c.natAbs ≤ 1000000) (cf : freeZ c) (b0 : 0 ≤ b) (b6 : b ≤ 6) (pr : ∀ q ∈ od, isPr q = true) (nd : od.Nodup) (ln : od.length ≤ 64) (hj : okJ (k + 10) j) :
    ∃ o, some [some (.own 1 j.d), none] = some o ∧ bentQ k (.p (.tup [.int s, .int c, .int b, .tup ((sortI od).map D.int)])) o :=
  ⟨_, rfl, s, c, b, sortI od, j, rfl, ⟨s1, s6, c0, cl, cf, b0, b6, fun q hq => pr q ((sortI_perm od).mem_iff.mp hq), sortI_nd nd, by rw [(sortI_perm od).length_eq]; exact ln⟩, hj, rfl⟩
theorem bent_turn (P23 : Φ 23 = fJ2 g_one) {s c b : D} {od : List Int} {j : J} {k : Int} {x e0 : D} {x3 x4 x5 : Option Val} (hx : seqI x = some od) (pr : ∀ q ∈ od, isPr q = true) (nd : od.Nodup) (ln : od.length ≤ 63) (hj : okJ k j) (hk : k ≤ 900020) :
    WP (Ss.ev Φ gvD bBody [some (.own 1 j.d), some (.p e0), some (.own 0 [s, c, b, x]), x3, x4, x5, none]) fun fl e' => fl = .nx ∧ ∃ (od' : List Int) (x' : D) (j' : J) (y5 : Option Val), seqI x' = some od' ∧ (∀ q ∈ od', isPr q = true) ∧ od'.Nodup ∧ od'.length ≤ od.length + 1 ∧ okJ (k + 1) j' ∧ e' = [some (.own 1 j'.d), some (.p e0), some (.own 0 [s, c, b, x']), x3, x4, y5, none] := by
  simp_arith! [bBody, b_l_bent]
  refine one_wx P23 rfl hj (by omega) (by simp) (by simp) fun d j1 hd h1 => ?_
  have hq : ∃ q : Int, d = .int q ∧ isPr q = true := by
    simp only [List.mem_cons, List.not_mem_nil, or_false] at hd
    rcases hd with rfl | rfl | rfl | rfl | rfl | rfl
    · exact ⟨_, rfl, pm_isPr pm2 (by decide)⟩
    · exact ⟨_, rfl, pm_isPr pm3 (by decide)⟩
    · exact ⟨_, rfl, pm_isPr pm5 (by decide)⟩
    · exact ⟨_, rfl, pm_isPr pm7 (by decide)⟩
    · exact ⟨_, rfl, pm_isPr pm11 (by decide)⟩
    · exact ⟨_, rfl, pm_isPr pm999983 (by decide)⟩
  obtain ⟨q, rfl, hqp⟩ := hq
  by_cases c1 : q ∈ od
  · have hc := comp_gen (ft := Tg.ofC (.n 6)) (fc := Oc.ev Φ gvD (.yes (.cmp .ne (.v 6) (.v 5)))) (fe := fun e => (E.ev Φ gvD (.v 6) e).frz) (vs := [6])
      [some (.own 1 j1.d), some (.p e0), some (.own 0 [s, c, b, x]), x3, x4, some (.p (.int q)), none] (fun d => match d with | .int i => !decide (i = q) | _ => false) id (od.map D.int) []
      [some (.own 1 j1.d), some (.p e0), some (.own 0 [s, c, b, x]), x3, x4, some (.p (.int q)), none]
      (fun y hy => by
        obtain ⟨i, hi, rfl⟩ := List.mem_map.mp hy
        refine ⟨_, [some (.own 1 j1.d), some (.p e0), some (.own 0 [s, c, b, x]), x3, x4, some (.p (.int q)), some (.p (.int i))], rfl, ?_, rfl, fun _ => ⟨_, rfl, rfl⟩⟩
        simp_arith [Option.map_some]) rfl (by simp; omega)
    rw [List.map_id, List.filter_map, List.nil_append] at hc
    simp_arith! [get3, in_seq hx, c1, walk_seq hx, hc, subT, set3]
    refine ⟨_, _, j1, _, seqI_l _, fun r hr => pr r (List.mem_filter.mp hr).1, nd.filter _, ?_, h1, rfl⟩
    exact Nat.le_succ_of_le (List.length_filter_le _ _)
  · simp_arith! [get3, in_seq hx, c1, list_seq hx, addS, List.length_map, szle (show od.length + 1 ≤ 1000000 by omega), subT, set3]
    refine ⟨od ++ [q], _, j1, _, by rw [← seqI_l (od ++ [q]), List.map_append]; rfl, fun r hr => ?_, ?_, by simp, h1, rfl⟩
    · rcases List.mem_append.mp hr with hr | hr
      · exact pr r hr
      · rw [List.mem_singleton.mp hr]; exact hqp
    · rw [List.nodup_append]
      exact ⟨nd, by simp, fun a ha b hb => by rw [List.mem_singleton.mp hb]; intro e; subst e; exact c1 ha⟩
theorem free_neg {c : Int} (h : freeZ c) : freeZ (-c) := fun l hl e => h l hl (by
  have := Int.dvd_of_emod_eq_zero e
  exact Int.emod_eq_zero_of_dvd ((Int.dvd_neg).mp this))
theorem run_l_bent (P22 : Φ 22 = fJ2 g_dip) (P23 : Φ 23 = fJ2 g_one) {s c b : Int} {od : List Int} {j : J} {k : Int} (h : okK s c b od) (hl : od.length ≤ 60) (hj : okJ k j) (hk : k ≤ 900000) :
    WP (runF (b_l_bent.ev Φ gvD) N_l_bent.length [some (.own 1 j.d), some (.p (kD s c b od))]) (bentQ k) := by
  refine wx_run ?_
  have nd : od.Nodup := h.up.imp fun h => by omega
  have l4 : listS [kD s c b od] = some (.own 0 [.int s, .int c, .int b, .tup (od.map D.int)]) := rfl
  simp_arith! [b_l_bent, l4]
  refine dip_wx P22 rfl hj (by omega) (by decide) (by decide) fun w j1 w0 w6 h1 => ?_
  simp_arith! []
  have s0 : ∀ a b c d v : D, setS (.own 0 [a, b, c, d]) (.int 0) v = some (.own 0 [v, b, c, d]) := fun _ _ _ _ _ => rfl
  have s1 : ∀ a b c d v : D, setS (.own 0 [a, b, c, d]) (.int 1) v = some (.own 0 [a, v, c, d]) := fun _ _ _ _ _ => rfl
  have s2 : ∀ a b c d v : D, setS (.own 0 [a, b, c, d]) (.int 2) v = some (.own 0 [a, b, v, d]) := fun _ _ _ _ _ => rfl
  have i1 : ∀ a b c d : D, idxS (.lst [a, b, c, d]) (.int 1) = some b := fun _ _ _ _ => rfl
  have i0 : ∀ a b c d : D, idxS (.lst [a, b, c, d]) (.int 0) = some a := fun _ _ _ _ => rfl
  have i2 : ∀ a b c d : D, idxS (.lst [a, b, c, d]) (.int 2) = some c := fun _ _ _ _ => rfl
  have tt : ∀ l : List Int, tupleS [.lst (l.map D.int)] = some (.p (.tup (l.map D.int))) := fun _ => rfl
  by_cases c0 : w = 0
  · simp_arith! [eq_true c0, eq_false (show ¬ w = 1 by omega), eq_false (show ¬ w = 2 by omega), eq_false (show ¬ 2 < w by omega)]
    refine dip_wx P22 rfl h1 (by omega) (by decide) (by decide) fun d j2 d0 d6 h2 => ?_
    simp_arith! [addS, subT, s0, eq_true c0, eq_false (show ¬ w = 1 by omega), eq_false (show ¬ w = 2 by omega), eq_false (show ¬ 2 < w by omega), i0, i1, i2, get3, orB, sort_seq (seqI_t od), tt]
    exact bent_fin (s := 1 + d) (by omega) (by omega) h.c0 h.cl h.cf h.b0 h.b6 h.pr nd h.ln (okJ_mono h2 (by omega))
  by_cases c1 : w = 1
  · simp_arith! [eq_false c0, eq_true c1, eq_false (show ¬ w = 2 by omega), eq_false (show ¬ 2 < w by omega), i1, negS, subT, s1, i0, i2, get3, orB, sort_seq (seqI_t od), tt]
    exact bent_fin (c := -c) h.s1 h.s6 (by have := h.c0; omega) (by have := h.cl; omega) (free_neg h.cf) h.b0 h.b6 h.pr nd h.ln (okJ_mono h1 (by omega))
  by_cases c2 : w = 2
  · simp_arith! [eq_false c0, eq_false c1, eq_true c2, eq_false (show ¬ 2 < w by omega)]
    refine dip_wx P22 rfl h1 (by omega) (by decide) (by decide) fun d j2 d0 d7 h2 => ?_
    simp_arith! [subT, s2, eq_false (show ¬ 2 < w by omega), i0, i1, i2, get3, orB, sort_seq (seqI_t od), tt]
    exact bent_fin (b := d) h.s1 h.s6 h.c0 h.cl h.cf (by omega) (by omega) h.pr nd h.ln (okJ_mono h2 (by omega))
  have c3 : 2 < w := by omega
  have hr : rangeS [.int (w - 2)] = some (upS 0 (w - 2).toNat) := by
    have := rng63 (m := (w - 2).toNat) (by omega)
    rwa [show (((w - 2).toNat : Nat) : Int) = w - 2 by omega] at this
  have hul : (upS 0 (w - 2).toNat).length ≤ 3 := by simp [upS]; omega
  generalize upS 0 (w - 2).toNat = its at *
  simp_arith! [c0, c1, c2, c3, subS, hr]
  refine wx_forN (fun zs e => ∃ (od' : List Int) (x' : D) (j' : J) (y4 y5 : Option Val), seqI x' = some od' ∧ (∀ q ∈ od', isPr q = true) ∧ od'.Nodup ∧ od'.length + zs.length ≤ 63 ∧ okJ (k + 1 + (3 - (zs.length : Int))) j' ∧ zs.length ≤ 3 ∧ e = [some (.own 1 j'.d), some (.p (kD s c b od)), some (.own 0 [.int s, .int c, .int b, x']), some (.p (.int w)), y4, y5, none]) ?_ ?_ ?_
  · exact ⟨od, _, j1, _, _, seqI_t od, h.pr, nd, by omega, okJ_mono h1 (by omega), hul, rfl⟩
  · rintro e ⟨od', x', j', y4, y5, g1, g2, g3, g4, g5, _, rfl⟩
    simp_arith! [i0, i1, i2, get3, orB, sort_seq g1, tt]
    exact bent_fin (s := s) (c := c) (b := b) h.s1 h.s6 h.c0 h.cl h.cf h.b0 h.b6 g2 g3 (by omega) (okJ_mono g5 (by simp; omega))
  · rintro z zs e ⟨od', x', j', y4, y5, g1, g2, g3, g4, g5, g6, rfl⟩
    simp only [List.length_cons] at g4 g5 g6
    refine WX.mono (bent_turn P23 g1 g2 g3 (by omega) g5 (by omega)) (fun fl e he => ?_) fun _ _ _ z => z.elim
    obtain ⟨rfl, od2, x2, j2, y5', f1, f2, f3, f4, f5, rfl⟩ := he
    exact ⟨od2, x2, j2, _, _, f1, f2, f3, by omega, okJ_mono f5 (by omega), by omega, rfl⟩
end
end PG

set_option Elab.async false
set_option linter.all false
set_option maxRecDepth 100000
set_option maxHeartbeats 4000000
/-! C1: laws of cores and of the places of forms. -/
namespace M
open PySem L2
theorem sgnK_cons' (n : Int) (ns : List Int) (h : n ≠ 0) : (if 0 < n then (1 : Int) else -1) * sgnK ns = sgnK (n :: ns) := by
  have hb : bel (n :: ns) = (if n < 0 then 1 else 0) + bel ns := by
    unfold bel
    by_cases c : n < 0
    · rw [List.filter_cons_of_pos (by simpa using c), if_pos c, List.length_cons]; omega
    · rw [List.filter_cons_of_neg (by simpa using c), if_neg c]; omega
  unfold sgnK
  rw [hb]
  by_cases c : n < 0
  · rw [if_neg (show ¬ 0 < n by omega), if_pos c]
    by_cases p : bel ns % 2 = 1
    · rw [if_pos p, if_neg (by omega)]; rfl
    · rw [if_neg p, if_pos (by omega)]; rfl
  · rw [if_pos (show 0 < n by omega), if_neg c, Int.one_mul, Nat.zero_add]
theorem sgn_prod : ∀ ns : List Int, (∀ n ∈ ns, n ≠ 0) → 0 < sgnK ns * prodI ns
  | [], _ => by decide
  | n :: ns, h => by
    have ih := sgn_prod ns fun m hm => h m (List.mem_cons_of_mem _ hm)
    have hn := h n List.mem_cons_self
    rw [← sgnK_cons' n ns hn, prodI]
    have e : (if 0 < n then (1 : Int) else -1) * sgnK ns * (n * prodI ns) = ((if 0 < n then (1 : Int) else -1) * n) * (sgnK ns * prodI ns) := by
      simp only [Int.mul_assoc, Int.mul_comm, Int.mul_left_comm]
    rw [e]
    refine Int.mul_pos ?_ ih
    split <;> omega
theorem prod_nz : ∀ ns : List Int, (∀ n ∈ ns, n ≠ 0) → prodI ns ≠ 0 := fun ns h z => by
  have := sgn_prod ns h
  rw [z, Int.mul_zero] at this
  omega
theorem prod_pos : ∀ ks : List Int, (∀ k ∈ ks, 0 < k) → 0 < prodI ks
  | [], _ => by decide
  | k :: ks, h => Int.mul_pos (h k List.mem_cons_self) (prod_pos ks fun m hm => h m (List.mem_cons_of_mem _ hm))
/-! ### exponents -/
def vp (a : Int) (p : Nat) : Nat := (split a p).1
theorem vp_mul {p : Nat} {a b : Int} (h : pm p) (ha : a ≠ 0) (hb : b ≠ 0) : vp (a * b) p = vp a p + vp b p := by unfold vp; rw [split_mul h ha hb]
theorem vp_off {p : Nat} {a : Int} (h : pm p) (ha : a ≠ 0) (hd : a % (p : Int) ≠ 0) : vp a p = 0 := by unfold vp; rw [unit_split h ha hd]
theorem vp_neg {p : Nat} {a : Int} (h : pm p) (ha : a ≠ 0) : vp (-a) p = vp a p := by unfold vp; rw [split_neg h ha]
theorem vp_vs {p : Nat} (h : pm p) : ∀ ns : List Int, (∀ n ∈ ns, n ≠ 0) → vp (prodI ns) p = vs ns (p : Int)
  | [], _ => vp_off h (by decide) fun e => by
    have h5 : (p : Int) ≤ 1 := Int.le_of_dvd (by decide) (Int.dvd_of_emod_eq_zero e)
    have := h.1
    omega
  | n :: ns, hn => by
    have h0 := hn n List.mem_cons_self
    rw [prodI, vp_mul h h0 (prod_nz ns fun m hm => hn m (List.mem_cons_of_mem _ hm)), vp_vs h ns fun m hm => hn m (List.mem_cons_of_mem _ hm), vs]
    congr 1
    by_cases c : (p : Int) ∈ tri n
    · rw [if_pos c]; rfl
    · rw [if_neg c]
      exact vp_off h h0 fun e => c (mem_tri h0 h e)
theorem vs_mem : ∀ {ns : List Int} {k : Int}, vs ns k ≠ 0 → k ∈ (ns.map tri).flatten
  | [], _, h => absurd rfl h
  | n :: ns, k, h => by
    rw [List.map_cons, List.flatten_cons, List.mem_append]
    by_cases c : k ∈ tri n
    · exact .inl c
    · rw [vs, if_neg c, Nat.zero_add] at h
      exact .inr (vs_mem h)
/-- a product of primes, each once -/
theorem vp_primes {p : Nat} (h : pm p) : ∀ ks : List Int, ks.Nodup → (∀ k ∈ ks, isPr k = true) → vp (prodI ks) p = if (p : Int) ∈ ks then 1 else 0
  | [], _, _ => vp_off h (by decide) fun e => by
    have h5 : (p : Int) ≤ 1 := Int.le_of_dvd (by decide) (Int.dvd_of_emod_eq_zero e)
    have := h.1
    omega
  | k :: ks, hd, hp => by
    obtain ⟨q, rfl, hq, _⟩ := isPr_pm (hp k List.mem_cons_self)
    have hk := List.nodup_cons.mp hd
    have hpos := prod_pos ks fun m hm => by have := isPr_le (hp m (List.mem_cons_of_mem _ hm)); omega
    have := hq.1
    rw [prodI, vp_mul h (by omega) (by omega), vp_primes h ks hk.2 fun m hm => hp m (List.mem_cons_of_mem _ hm)]
    by_cases c : p = q
    · subst c
      rw [if_neg hk.1, if_pos List.mem_cons_self]
      unfold vp
      rw [split_self h]
    · rw [vp_off h (by omega) (pr_nd h hq c), Nat.zero_add]
      have e : ((p : Int) ∈ (q : Int) :: ks) = ((p : Int) ∈ ks) := propext ⟨fun z => (List.mem_cons.mp z).resolve_left fun e => c (by omega), List.mem_cons_of_mem _⟩
      rw [show (if (p : Int) ∈ (q : Int) :: ks then 1 else 0) = if (p : Int) ∈ ks then 1 else 0 from by simp only [e]]
theorem coreK_ok {ns : List Int} (h : ns.all okN = true) : (coreK ns).Nodup ∧ (∀ k ∈ coreK ns, isPr k = true) ∧ ∀ k, k ∈ coreK ns ↔ vs ns k % 2 = 1 := by
  obtain ⟨h1, h2, h3⟩ := addAll_ok (ns := ns) (ks := []) List.nodup_nil h
  refine ⟨h1.filter _, fun k hk => addAll_pr h k (List.mem_filter.mp hk).1, fun k => ?_⟩
  unfold coreK
  rw [List.mem_filter, h3]
  constructor
  · exact fun z => by simpa using z.2
  · exact fun z => ⟨.inr (vs_mem (by omega)), by simpa using z⟩
theorem nz_all {ns : List Int} (h : ns.all okN = true) : ∀ n ∈ ns, n ≠ 0 := fun n hn => (okN_of (List.all_eq_true.mp h n hn)).1
theorem coreK_pos {ns : List Int} (h : ns.all okN = true) : 0 < prodI (coreK ns) := prod_pos _ fun k hk => by have := isPr_le ((coreK_ok h).2.1 k hk); omega
theorem core_nz {ns : List Int} (h : ns.all okN = true) : coreI ns ≠ 0 := by
  have := coreK_pos h
  unfold coreI sgnK
  split <;> omega
theorem core_vp {ns : List Int} {p : Nat} (h : ns.all okN = true) (hp : pm p) : vp (coreI ns) p = vs ns (p : Int) % 2 := by
  obtain ⟨k1, k2, k3⟩ := coreK_ok h
  have h0 := coreK_pos h
  have e : vp (coreI ns) p = vp (prodI (coreK ns)) p := by
    unfold coreI sgnK
    split
    · rw [show (-1 : Int) * prodI (coreK ns) = -prodI (coreK ns) by omega, vp_neg hp (by omega)]
    · rw [Int.one_mul]
  rw [e, vp_primes hp _ k1 k2]
  by_cases c : vs ns (p : Int) % 2 = 1
  · rw [if_pos ((k3 _).mpr c), c]
  · rw [if_neg fun z => c ((k3 _).mp z)]; omega
/-- even exponents: a square -/
theorem sq_of : ∀ (N : Nat) (z : Int), z.natAbs = N → 0 < z → (∀ p : Nat, pm p → vp z p % 2 = 0) → ∃ w : Int, z = w * w := by
  intro N
  induction N using Nat.strongRecOn with
  | ind N ih =>
    intro z hN h0 hv
    by_cases c : N = 1
    · exact ⟨1, by omega⟩
    · obtain ⟨p, hp, hd⟩ := ex_pm (n := N) (by omega)
      have hp2 := hp.1
      obtain ⟨e, hu⟩ := split_ok (a := z) (p := (p : Int)) (by omega) (by omega)
      have he := hv p hp
      unfold vp at he
      generalize hn : (split z p).1 = n at *
      generalize hw : (split z p).2 = u at *
      have hzp : z % (p : Int) = 0 := by
        have : (p : Int) ∣ z := by
          rw [← Int.dvd_natAbs, hN]
          exact Int.natCast_dvd_natCast.mpr hd
        exact Int.emod_eq_zero_of_dvd this
      have hn0 : n ≠ 0 := fun e0 => by
        subst e0
        rw [Int.pow_zero, Int.one_mul] at e
        rw [e] at hzp
        exact hu hzp
      have hx : (p : Int) ^ n = (p : Int) ^ (n / 2) * (p : Int) ^ (n / 2) := by
        rw [← Int.pow_add]
        congr 1
        omega
      have hq : 0 < (p : Int) ^ (n / 2) := Int.pow_pos (by omega)
      have hq2 : 2 ≤ (p : Int) ^ (n / 2) := by
        obtain ⟨m, hm⟩ : ∃ m, n / 2 = m + 1 := ⟨n / 2 - 1, by omega⟩
        rw [hm, Int.pow_succ]
        have : 0 < (p : Int) ^ m := Int.pow_pos (by omega)
        have h5 := Int.mul_le_mul (show (1 : Int) ≤ (p : Int) ^ m by omega) (show (2 : Int) ≤ (p : Int) by omega) (by decide) (by omega)
        omega
      generalize (p : Int) ^ (n / 2) = x at *
      rw [hx] at e
      have hu0 : 0 < u := by
        have hxx : 0 < x * x := Int.mul_pos hq hq
        by_cases q : 0 < u
        · exact q
        · have := Int.mul_nonpos_of_nonneg_of_nonpos (Int.le_of_lt hxx) (show u ≤ 0 by omega)
          omega
      have hlt : u < z := by
        rw [e]
        have h4 : 4 ≤ x * x := by
          have := Int.mul_le_mul hq2 hq2 (by decide) (by omega)
          omega
        have h6 := Int.mul_le_mul_of_nonneg_right h4 (Int.le_of_lt hu0)
        omega
      obtain ⟨w, hw⟩ := ih u.natAbs (by omega) u rfl hu0 fun q hq' => by
        have h1 := hv q hq'
        rw [e, vp_mul hq' (by have := Int.mul_pos hq hq; omega) (by omega), vp_mul hq' (by omega) (by omega)] at h1
        omega
      exact ⟨x * w, by rw [e, hw]; simp only [Int.mul_assoc, Int.mul_comm, Int.mul_left_comm]⟩
/-- a core is the numbers' product, but for a square -/
theorem core_sq {ns : List Int} (h : ns.all okN = true) : ∃ w : Int, w ≠ 0 ∧ coreI ns * prodI ns = w * w := by
  have hn := nz_all h
  have h1 := coreK_pos h
  have h2 := sgn_prod ns hn
  have hpos : 0 < coreI ns * prodI ns := by
    unfold coreI
    rw [show sgnK ns * prodI (coreK ns) * prodI ns = prodI (coreK ns) * (sgnK ns * prodI ns) by simp only [Int.mul_assoc, Int.mul_comm, Int.mul_left_comm]]
    exact Int.mul_pos h1 h2
  obtain ⟨w, hw⟩ := sq_of _ (coreI ns * prodI ns) rfl hpos fun p hp => by
    rw [vp_mul hp (core_nz h) (prod_nz ns hn), core_vp h hp, vp_vs hp ns hn]
    omega
  exact ⟨w, fun z => by rw [hw, z] at hpos; simp at hpos, hw⟩
theorem core_free {ns : List Int} (h : ns.all okN = true) : ∀ l : Int, 2 ≤ l → coreI ns % (l * l) ≠ 0 := fun l hl hd => by
  obtain ⟨p, hp, hpl⟩ := ex_pm (n := l.toNat) (by omega)
  obtain ⟨m, hm⟩ := hpl
  have e1 : l = (p : Int) * (m : Int) := by
    rw [← Int.natCast_mul, ← hm]; omega
  obtain ⟨y, hy⟩ := Int.dvd_of_emod_eq_zero hd
  have h0 := core_nz h
  have hp2 := hp.1
  have e2 : coreI ns = ((p : Int) * (p : Int)) * ((m : Int) * (m : Int) * y) := by
    rw [hy, e1]; simp only [Int.mul_assoc, Int.mul_comm, Int.mul_left_comm]
  have hy0 : (m : Int) * (m : Int) * y ≠ 0 := fun z => h0 (by rw [e2, z, Int.mul_zero])
  have h3 := core_vp h hp
  have hpp : vp (p : Int) p = 1 := by unfold vp; rw [split_self hp]
  rw [e2, vp_mul hp (by have := Int.mul_pos (show (0 : Int) < p by omega) (show (0 : Int) < p by omega); omega) hy0, vp_mul hp (by omega) (by omega), hpp] at h3
  omega
end M

set_option Elab.async false
set_option linter.all false
set_option maxRecDepth 100000
set_option maxHeartbeats 4000000
/-! C2: the signs of a form over all places. -/
namespace M
open PySem L2
theorem plO_fullN {ns : List Int} {a b : Int} (h : ns.all okN = true) (ha : a ∈ ns) (hb : b ∈ ns) : full a b (plO ns) := by
  have pos : ∀ q ∈ plS ns, 2 ≤ q := fun q hq => by
    have := plS_isPr h hq
    simp only [isPr, Bool.and_eq_true, decide_eq_true_eq] at this
    exact this.1.1
  have hin : ∀ q : Nat, (q : Int) ∈ plS ns → some q ∈ plO ns := fun q hq => List.mem_cons_of_mem _ (List.mem_map.mpr ⟨(q : Int), hq, by simp⟩)
  refine ⟨?_, fun o ho => ?_, List.mem_cons_self, hin 2 ?_, fun p hp d => hin p ?_⟩
  · unfold plO
    refine List.nodup_cons.mpr ⟨fun z => ?_, ?_⟩
    · obtain ⟨_, _, e⟩ := List.mem_map.mp z
      cases e
    · unfold List.Nodup
      refine List.pairwise_map.mpr (List.Pairwise.imp_of_mem ?_ (sortU_srt (xs := 2 :: (ns.map tri).flatten)))
      intro x y hx hy hlt e
      have := pos x hx
      have := pos y hy
      have e := Option.some.inj e
      omega
  · rcases List.mem_cons.mp ho with rfl | ho
    · trivial
    · obtain ⟨q, hq, rfl⟩ := List.mem_map.mp ho
      obtain ⟨p, e, hp, _⟩ := isPr_pm (plS_isPr h hq)
      rw [e]
      simpa [okc] using hp
  · exact mem_sortU.mpr List.mem_cons_self
  · refine mem_sortU.mpr (List.mem_cons_of_mem _ (List.mem_flatten.mpr ?_))
    rcases d with d | d
    · exact ⟨tri a, List.mem_map.mpr ⟨a, ha, rfl⟩, mem_tri (nz_all h a ha) hp d⟩
    · exact ⟨tri b, List.mem_map.mpr ⟨b, hb, rfl⟩, mem_tri (nz_all h b hb) hp d⟩
theorem xor_pre {n : Int} {L : List (Option Nat)} : ∀ pre : List Int, (∀ m ∈ pre, xorL (oa m n) L = false) → xorL (fun o => xorL (fun m => oddAt m n (plc o)) pre) L = false
  | [], _ => xorL_false fun _ _ => rfl
  | m :: pre, h => by
    rw [xorL_xor (k := fun o => xorL (fun m => oddAt m n (plc o)) (m :: pre)) (f := oa m n) (g := fun o => xorL (fun m => oddAt m n (plc o)) pre) fun o _ => rfl, h m List.mem_cons_self, xor_pre pre fun k hk => h k (List.mem_cons_of_mem _ hk)]
    rfl
theorem xor_pair {L : List (Option Nat)} : ∀ rest pre : List Int, (∀ m n, m ∈ pre ++ rest → n ∈ pre ++ rest → xorL (oa m n) L = false) → xorL (fun o => pairX (plc o) pre rest) L = false
  | [], pre, _ => xorL_false fun _ _ => rfl
  | n :: rest, pre, h => by
    rw [xorL_xor (k := fun o => pairX (plc o) pre (n :: rest)) (f := fun o => xorL (fun m => oddAt m n (plc o)) pre) (g := fun o => pairX (plc o) (pre ++ [n]) rest) fun o _ => rfl,
      xor_pre pre fun m hm => h m n (List.mem_append_left _ hm) (by simp), xor_pair rest (pre ++ [n]) fun a b ha hb => h a b (by simpa using ha) (by simpa using hb)]
    rfl
/-- over all places the signs of a form are an even number of times -1 -/
theorem form_even {ns : List Int} (h : ns.all okN = true) : xorL (fun pl => oddForm ns pl) (plD ns) = false := by
  rw [← plO_plc h]
  have hm : ∀ L : List (Option Nat), xorL (fun pl => oddForm ns pl) (L.map plc) = xorL (fun o => oddForm ns (plc o)) L := fun L => by
    induction L with
    | nil => rfl
    | cons o L ih => rw [List.map_cons, xorL, xorL, ih]
  rw [hm]
  exact xor_pair ns [] fun a b ha hb => PF_all (nz_all h a (by simpa using ha)) (nz_all h b (by simpa using hb)) _ (plO_fullN h (by simpa using ha) (by simpa using hb))
def T2 (b : Nat) : Bool := decide (b % 4 = 2 ∨ b % 4 = 3)
theorem T2_succ (b : Nat) : T2 (b + 1) = (T2 b ^^ decide (b % 2 = 1)) := by
  unfold T2
  have h : b % 4 = 0 ∨ b % 4 = 1 ∨ b % 4 = 2 ∨ b % 4 = 3 := by omega
  have e1 : (b + 1) % 4 = (b % 4 + 1) % 4 := by omega
  have e2 : b % 2 = b % 4 % 2 := by omega
  rw [e1, e2]
  rcases h with h | h | h | h <;> rw [h] <;> decide
theorem bel_app (xs ys : List Int) : bel (xs ++ ys) = bel xs + bel ys := by unfold bel; rw [List.filter_append, List.length_append]
theorem bel_one (n : Int) : bel [n] = if n < 0 then 1 else 0 := by
  unfold bel
  by_cases c : n < 0
  · rw [List.filter_cons_of_pos (by simpa using c), if_pos c]; rfl
  · rw [List.filter_cons_of_neg (by simpa using c), if_neg c]; rfl
theorem xor_real (n : Int) (pre : List Int) : xorL (fun m => oddAt m n (.str REAL)) pre = (decide (n < 0) && decide (bel pre % 2 = 1)) := by
  induction pre with
  | nil => simp [xorL, bel]
  | cons m pre ih =>
    have hb : bel (m :: pre) = bel [m] + bel pre := bel_app [m] pre
    rw [xorL, ih, hb, par_add, bel_one]
    show ((decide (m < 0) && decide (n < 0)) ^^ _) = _
    by_cases c1 : m < 0 <;> by_cases c2 : n < 0 <;> simp [c1, c2]
theorem pair_real : ∀ rest pre : List Int, pairX (.str REAL) pre rest = (T2 (bel pre + bel rest) ^^ T2 (bel pre))
  | [], pre => by simp [pairX, bel]
  | n :: rest, pre => by
    have hb : bel (n :: rest) = bel [n] + bel rest := bel_app [n] rest
    rw [pairX, pair_real rest, xor_real, bel_app, hb, bel_one]
    by_cases c : n < 0
    · rw [if_pos c, decide_eq_true c, Bool.true_and, ← Nat.add_assoc, T2_succ (bel pre)]
      cases T2 (bel pre + 1 + bel rest) <;> cases T2 (bel pre) <;> cases decide (bel pre % 2 = 1) <;> rfl
    · rw [if_neg c, decide_eq_false c, Bool.false_and, Nat.add_zero, Nat.zero_add, Bool.false_xor]
theorem form_real (ns : List Int) : oddForm ns (.str REAL) = T2 (bel ns) := by
  unfold oddForm
  rw [pair_real]
  have h0 : bel [] = 0 := rfl
  have h1 : T2 0 = false := by decide
  rw [h0, h1, Nat.zero_add, Bool.xor_false]
theorem odd_len2 {ns : List Int} (h : ns.all okN = true) : decide ((oddPl ns).length % 2 = 1) = T2 (bel ns) := by
  have h1 := form_even h
  unfold plD at h1
  rw [xorL, form_real] at h1
  have hm : ∀ L : List Int, xorL (fun pl => oddForm ns pl) (L.map D.int) = xorL (fun q => oddForm ns (.int q)) L := fun L => by
    induction L with
    | nil => rfl
    | cons o L ih => rw [List.map_cons, xorL, xorL, ih]
  rw [hm, xorL_len] at h1
  unfold oddPl
  revert h1
  cases T2 (bel ns) <;> cases decide ((List.filter (fun q => oddForm ns (.int q)) (plS ns)).length % 2 = 1) <;> simp
/-- of two weights: no square at a prime with the sign -1 -/
theorem two_sq {a b : Int} {q : Int} (h : [a, b].all okN = true) (hq : q ∈ oddPl [a, b]) : sqAt (-(coreI [a, b])) (.int q) = false := by
  have hn := nz_all h
  have ha := hn a (by simp)
  have hb := hn b (by simp)
  obtain ⟨hq1, hq2⟩ := List.mem_filter.mp hq
  obtain ⟨p, rfl, hp, _⟩ := isPr_pm (plS_isPr h hq1)
  have ho : okc (some p) := hp
  have hab : oa a b (some p) = true := by
    simp only [oddForm, pairX, xorL, List.nil_append, Bool.xor_false, Bool.false_xor] at hq2
    exact hq2
  cases hs : sqAt (-(coreI [a, b])) (.int (p : Int)) with
  | false => rfl
  | true =>
    exfalso
    obtain ⟨w, w0, hw⟩ := core_sq h
    have c0 := core_nz h
    have e0 : prodI [a, b] = a * b := by simp [prodI]
    rw [e0] at hw
    have h1 : oa a (-(coreI [a, b])) (some p) = false := by
      rw [oa_sym]
      exact sq_oa (okc_pl ho) (by omega) ha hs
    have h2 : oa a (coreI [a, b] * (a * b)) (some p) = false := by rw [hw]; exact oa_sq ho ha w0
    rw [oa_mul ho ha c0 (Int.mul_ne_zero ha hb), oa_mul ho ha ha hb, oa_self ho ha, hab] at h2
    rw [show -(coreI [a, b]) = (-1) * coreI [a, b] by omega, oa_mul ho ha (by decide) c0] at h1
    revert h1 h2
    cases oa a (-1) (some p) <;> cases oa a (coreI [a, b]) (some p) <;> simp
theorem one_odd (a : Int) : oddPl [a] = [] := by
  unfold oddPl
  refine List.filter_eq_nil_iff.mpr fun q _ => ?_
  simp [oddForm, pairX, xorL]
theorem core_neg {ns : List Int} (h : ns.all okN = true) : decide (coreI ns < 0) = decide (bel ns % 2 = 1) := by
  have h0 := coreK_pos h
  unfold coreI sgnK
  split <;> rename_i c
  · rw [decide_eq_true c, decide_eq_true (by omega)]
  · rw [decide_eq_false c, decide_eq_false (by omega)]
theorem bel_len (ns : List Int) : bel ns ≤ ns.length := List.length_filter_le _ _
end M

set_option Elab.async false
set_option linter.all false
set_option maxRecDepth 100000
set_option maxHeartbeats 4000000
/-! K29d: the kinds of forms can be. -/
namespace PG
open PySem L2 M
theorem kind_eq (ns : List Int) : kindD ns = kD (ns.length : Int) (coreI ns) (bel ns : Int) (oddPl ns) := rfl
theorem kind_ok {ns : List Int} (h : okF ns) (h0 : ns ≠ []) (hc : (coreI ns).natAbs ≤ 1000000) : okK (ns.length : Int) (coreI ns) (bel ns : Int) (oddPl ns) := by
  have h1 := List.length_pos_iff.mpr h0
  have h2 := bel_len ns
  have h6 := h.2
  have hl := plD_pl h
  rw [plD, List.length_cons, List.length_map] at hl
  have hf : (oddPl ns).length ≤ (plS ns).length := List.length_filter_le _ _
  exact ⟨by omega, by omega, core_nz h.1, hc, core_free h.1, by omega, by omega, fun q hq => plS_isPr h.1 (List.mem_filter.mp hq).1, sortU_srt.filter _, by omega⟩
theorem kind_can {ns : List Int} (h : okF ns) (h0 : ns ≠ []) : canB (ns.length : Int) (coreI ns) (bel ns : Int) (oddPl ns) = true := by
  have h1 := bel_len ns
  have h2 := core_neg h.1
  have h3 := odd_len2 h.1
  have e2 : decide ((bel ns : Int) % 2 = 1) = decide (bel ns % 2 = 1) := decide_eq_decide.mpr (by omega)
  have e4 : decide ((bel ns : Int) % 4 = 0 ∨ (bel ns : Int) % 4 = 1) = !T2 (bel ns) := by
    unfold T2
    rw [← decide_not]
    exact decide_eq_decide.mpr (by omega)
  have e3 : decide ((oddPl ns).length % 2 = 0) = !decide ((oddPl ns).length % 2 = 1) := by
    rw [← decide_not]
    exact decide_eq_decide.mpr (by omega)
  unfold canB
  rw [if_neg (by
    simp only [not_or, ne_eq, Decidable.not_not]
    exact ⟨by omega, by rw [h2, e2], by rw [e3, e4, h3]⟩)]
  match ns, h, h0 with
  | [a], h, _ =>
    rw [if_pos (by rfl), one_odd]
    rfl
  | [a, b], h, _ =>
    rw [if_neg (by simp)]
    simp only [Bool.or_eq_true, Bool.not_eq_true', List.any_eq_false]
    exact .inr fun q hq => by rw [two_sq h.1 hq]; exact Bool.false_ne_true
  | a :: b :: c :: r, h, _ =>
    rw [if_neg (by simp only [List.length_cons]; omega)]
    simp only [Bool.or_eq_true, decide_eq_true_eq]
    exact .inl (by simp only [List.length_cons]; omega)
end PG

set_option Elab.async false
set_option linter.all false
set_option maxRecDepth 100000
set_option maxHeartbeats 4000000
/-! K29e: the law's own def. -/
namespace PG
open PySem L2 M
section
variable {Φ : Nat → En → Res Val}
abbrev bR29 : Ss := match b_l_right_k29 with
  | .cons (.fr _ _ b) _ => b
  | _ => .nil
theorem right29_eq : b_l_right_k29 = .cons (.fr (.n 1) (.rng1 (.k (.int 12))) bR29) (.cons (.ret (.k (.bl true))) .nil) := rfl
theorem nb_kD (s c b : Int) (od : List Int) : nbD (kD s c b od) = true := by
  simp only [kD, nbD, nbDs, nbDs_ints]; rfl
theorem dp_kD (s c b : Int) (od : List Int) : dpD (kD s c b od) ≤ 64 := by
  simp only [kD, dpD, dpDs, dpDs_ints]; decide
theorem kD_inj {s c b s' c' b' : Int} {od od' : List Int} (h : kD s c b od = kD s' c' b' od') : s = s' ∧ c = c' ∧ b = b' ∧ od = od' := by
  simp only [kD, D.tup.injEq, List.cons.injEq, D.int.injEq, and_true] at h
  refine ⟨h.1, h.2.1, h.2.2.1, ?_⟩
  have := congrArg intsD h.2.2.2
  rw [intsD_maps, intsD_maps] at this
  exact Option.some.inj this
theorem okF_of {ns : List Int} {t : Int} (h6 : (ns.length : Int) ≤ 6) (h : ∀ n ∈ ns, n ≠ 0 ∧ (n.natAbs : Int) ≤ t) (ht : t ≤ 1000000) : okF ns :=
  ⟨List.all_eq_true.mpr fun n hn => okN_by (h n hn).1 (by have := (h n hn).2; omega), by omega⟩
theorem turn29 (P22 : Φ 22 = fJ2 g_dip) (P24 : Φ 24 = fJ2 g_num)
    (P41 : ∀ ns : List Int, okF ns → ns ≠ [] → Φ 41 [some (.oo 1 (Str.ofString "Form") [] []), some (.p (.tup (ns.map D.int)))] = .ok (.p .non) [some (.oo 1 (Str.ofString "Form") formN (formV ns)), none])
    (P42 : ∀ ns : List Int, Φ 42 [some (.p (formD ns))] = .ok (.p (kindD ns)) [none])
    (P46 : ∀ (s c b : Int) (od : List Int), okK s c b od → Φ 46 [some (.p (kD s c b od))] = .ok (.p (.bl (canB s c b od))) [none])
    (P49 : ∀ ns : List Int, okF ns → Φ 49 [some (.p (.lst (ns.map D.int)))] = .ok (.p (kindD ns)) [none])
    (P50 : ∀ (j : J) (k most top : Int), okJ k j → k ≤ 900000 → 1 ≤ most → most ≤ 6 → 1 ≤ top → top ≤ 1000000 → WP (Φ 50 [some (.own 1 j.d), some (.p (.int most)), some (.p (.int top))]) fun v o => ∃ (ns : List Int) (j' : J), v = .own 0 (ns.map D.int) ∧ ns ≠ [] ∧ (ns.length : Int) ≤ most ∧ (∀ n ∈ ns, n ≠ 0 ∧ (n.natAbs : Int) ≤ top) ∧ okJ (k + 25) j' ∧ o = [some (.own 1 j'.d), none, none])
    (P51 : ∀ (s c b : Int) (od : List Int), okK s c b od → Φ 51 [some (.p (kD s c b od))] = .ok (.p (.bl (canB s c b od))) [none])
    (P52 : ∀ (s c b : Int) (od : List Int) (j : J) (k : Int), okK s c b od → od.length ≤ 60 → okJ k j → k ≤ 900000 → WP (Φ 52 [some (.own 1 j.d), some (.p (kD s c b od))]) (bentQ k))
    {k : Int} {j : J} (hj : okJ k j) (hk : k ≤ 5000) (T x2 x3 x4 x5 x6 : Option Val) :
    WP (Ss.ev Φ gvD bR29 [some (.own 1 j.d), T, x2, x3, x4, x5, x6]) fun fl e => fl = .nx ∧ ∃ j' y2 y3 y4 y5 y6, okJ (k + 50) j' ∧ e = [some (.own 1 j'.d), T, y2, y3, y4, y5, y6] := by
  refine wx_cons ?_
  simp_arith! []
  refine dip_wx P22 rfl hj (by omega) (by decide) (by decide) fun d j1 d0 d6 h1 => ?_
  simp_arith! [addS]
  refine wx_ln3 rfl ((P50 j1 (k + 1) (1 + d) 15 h1 (by omega) (by omega) (by omega) (by decide) (by decide)).mono (fun v o hv => ?_) fun _ _ _ z => z.elim)
  obtain ⟨ns, j2, rfl, n0, n6, nn, h2, rfl⟩ := hv
  refine ⟨_, _, rfl, ?_⟩
  have hF : okF ns := okF_of (by omega) nn (by decide)
  have hpw : powS (.int 10) (.int 6) = some (.p (.int 1000000)) := by
    show (if (0 : Int) ≤ 6 ∧ (6 : Int) ≤ 1000000 ∧ (10 : Int).natAbs < 2 ^ 64 then some (Val.p (.int (10 ^ (6 : Int).toNat))) else none) = _
    rw [if_pos (by decide)]; rfl
  have hab : absS [.int (coreI ns)] = some (.p (.int ((coreI ns).natAbs : Int))) := by
    show some (Val.p (.int (if coreI ns < 0 then -coreI ns else coreI ns))) = _
    congr 3
    split <;> omega
  have i1 : ∀ a b c d : D, idxS (.tup [a, b, c, d]) (.int 1) = some b := fun _ _ _ _ => rfl
  have hkd : idxS (kindD ns) (.int 1) = some (.int (coreI ns)) := rfl
  have ns1 : ∀ b : Bool, copS .notN (.bl b) (.bl true) = some (!b) := fun b => by cases b <;> rfl
  by_cases hc : (coreI ns).natAbs ≤ 1000000
  rotate_left 1
  · have hci : ¬ ((coreI ns).natAbs : Int) ≤ 1000000 := by omega
    simp_arith! [P49 ns hF, hkd, hab, hpw, hci]
    exact ⟨_, _, _, _, _, _, okJ_mono h2 (by omega), rfl⟩
  have hci : ((coreI ns).natAbs : Int) ≤ 1000000 := by omega
  have hok := kind_ok hF n0 hc
  have hcan := P46 _ _ _ _ hok
  rw [kind_can hF n0, ← kind_eq] at hcan
  have htu : tupleS [.lst (ns.map D.int)] = some (.p (.tup (ns.map D.int))) := rfl
  have hob : objOk (Str.ofString "Form") (Str.ofString "kind") (.obj (Str.ofString "Form") formN (formV ns)) = true := by
    show (decide (Str.ofString "Form" = Str.ofString "Form") && decide (Str.ofString "kind" ∉ formN)) = true
    decide +kernel
  have h42 : Φ 42 [some (.p (.obj (Str.ofString "Form") formN (formV ns)))] = .ok (.p (kindD ns)) [none] := P42 ns
  have hpl := plD_pl hF
  have hol : (oddPl ns).length ≤ 60 := by
    rw [plD, List.length_cons, List.length_map] at hpl
    exact Nat.le_trans (List.length_filter_le _ _) (by omega)
  have h52 : WP (Φ 52 [some (.own 1 j2.d), some (.p (kindD ns))]) (bentQ (k + 1 + 25)) := P52 _ _ _ _ j2 (k + 1 + 25) hok hol h2 (by omega)
  simp_arith! [P49 ns hF, hkd, hab, hpw, hci, hcan, isNS, htu, newForm P41 hF n0, hob, h42, Option.map_some]
  refine wx_ln2 rfl (h52.mono (fun v o hv => ?_) fun _ _ _ z => z.elim)
  obtain ⟨s, c, b, od, j3, rfl, hk2, h3, rfl⟩ := hv
  refine ⟨_, _, rfl, ?_⟩
  have e46 := P46 _ _ _ _ hk2
  have e51 := P51 _ _ _ _ hk2
  have mul2 : ∀ x : D, mulS (.lst [x]) (.int 2) = some (.own 0 [x, x]) := fun _ => rfl
  simp_arith! [e46, e51, rep_bl, mul2, Option.map_some]
  refine num_wx P24 rfl h3 (by omega) (by decide) (by decide) fun a j4 a0 a9 h4 => ?_
  simp_arith! []
  refine num_wx P24 rfl h4 (by omega) (by decide) (by decide) fun b2 j5 b0 b9 h5 => ?_
  have hF2 : okF [a, b2] := ⟨by simp [okN_by a0 (show a.natAbs ≤ 1000000 by omega), okN_by b0 (show b2.natAbs ≤ 1000000 by omega)], by simp⟩
  have e49 : Φ 49 [some (.p (.lst [.int a, .int b2]))] = .ok (.p (kindD [a, b2])) [none] := P49 [a, b2] hF2
  have hcb : kindD [a, b2] = kD s c b od → canB s c b od = true := fun e => by
    rw [kind_eq] at e
    obtain ⟨q1, q2, q3, q4⟩ := kD_inj e
    rw [← q1, ← q2, ← q3, ← q4]
    exact kind_can hF2 (by simp)
  obtain ⟨q, hq1, hq2⟩ := eq_nb (x := kindD [a, b2]) (y := kD s c b od) (by rw [kind_eq]; exact nb_kD _ _ _ _) (nb_kD _ _ _ _) (by rw [kind_eq]; exact dp_kD _ _ _ _) (dp_kD _ _ _ _)
  have hfin : ∀ y3 y4 y5 y6 : Option Val, (∃ j' y2 y3' y4' y5' y6', okJ (k + 50) j' ∧ [some (.own 1 j5.d), T, some (.p (.lst (ns.map D.int))), y3, y4, y5, y6] = [some (.own 1 j'.d), T, y2, y3', y4', y5', y6']) := fun y3 y4 y5 y6 => ⟨j5, _, _, _, _, _, okJ_mono h5 (by omega), rfl⟩
  cases q with
  | false =>
    simp_arith! [e49, hq1]
    exact hfin _ _ _ _
  | true =>
    have hct := hcb (hq2.mp rfl)
    rw [hct] at e46
    simp_arith! [e49, hq1, e46]
    exact hfin _ _ _ _
theorem rng12 : rangeS [.int 12] = some (upS 0 12) := rng63 (m := 12) (by decide)
theorem right29 (P22 : Φ 22 = fJ2 g_dip) (P24 : Φ 24 = fJ2 g_num)
    (P41 : ∀ ns : List Int, okF ns → ns ≠ [] → Φ 41 [some (.oo 1 (Str.ofString "Form") [] []), some (.p (.tup (ns.map D.int)))] = .ok (.p .non) [some (.oo 1 (Str.ofString "Form") formN (formV ns)), none])
    (P42 : ∀ ns : List Int, Φ 42 [some (.p (formD ns))] = .ok (.p (kindD ns)) [none])
    (P46 : ∀ (s c b : Int) (od : List Int), okK s c b od → Φ 46 [some (.p (kD s c b od))] = .ok (.p (.bl (canB s c b od))) [none])
    (P49 : ∀ ns : List Int, okF ns → Φ 49 [some (.p (.lst (ns.map D.int)))] = .ok (.p (kindD ns)) [none])
    (P50 : ∀ (j : J) (k most top : Int), okJ k j → k ≤ 900000 → 1 ≤ most → most ≤ 6 → 1 ≤ top → top ≤ 1000000 → WP (Φ 50 [some (.own 1 j.d), some (.p (.int most)), some (.p (.int top))]) fun v o => ∃ (ns : List Int) (j' : J), v = .own 0 (ns.map D.int) ∧ ns ≠ [] ∧ (ns.length : Int) ≤ most ∧ (∀ n ∈ ns, n ≠ 0 ∧ (n.natAbs : Int) ≤ top) ∧ okJ (k + 25) j' ∧ o = [some (.own 1 j'.d), none, none])
    (P51 : ∀ (s c b : Int) (od : List Int), okK s c b od → Φ 51 [some (.p (kD s c b od))] = .ok (.p (.bl (canB s c b od))) [none])
    (P52 : ∀ (s c b : Int) (od : List Int) (j : J) (k : Int), okK s c b od → od.length ≤ 60 → okJ k j → k ≤ 900000 → WP (Φ 52 [some (.own 1 j.d), some (.p (kD s c b od))]) (bentQ k))
    {j : J} (hj : okJ 0 j) : WP (runF (b_l_right_k29.ev Φ gvD) N_l_right_k29.length [some (.own 1 j.d)]) fun v _ => v = .p (.bl true) := by
  refine wx_run ?_
  rw [right29_eq]
  refine wx_fr (items := upS 0 12) (e1 := [some (.own 1 j.d), none, none, none, none, none, none]) (by simp_arith [rng12]) ?_
  refine wx_forN (fun xs e => ∃ j' x1 x2 x3 x4 x5 x6, xs.length ≤ 12 ∧ okJ (600 - 50 * (xs.length : Int)) j' ∧ e = [some (.own 1 j'.d), x1, x2, x3, x4, x5, x6]) ⟨j, _, _, _, _, _, _, by simp [upS], okJ_mono hj (by simp [upS]), rfl⟩ ?_ ?_
  · rintro e ⟨j', x1, x2, x3, x4, x5, x6, _, h, rfl⟩
    rw [seqK_nx]
    refine wx_ret (v := .p (.bl true)) (e1 := [some (.own 1 j'.d), x1, x2, x3, x4, x5, x6]) (by rfl) ?_
    exact ⟨_, rfl, rfl⟩
  · rintro x xs e ⟨j', x1, x2, x3, x4, x5, x6, hl, h, rfl⟩
    simp only [List.length_cons] at hl h
    refine (turn29 P22 P24 P41 P42 P46 P49 P50 P51 P52 h (by omega) (some (.p x)) x2 x3 x4 x5 x6).imp (fun fl e hq => ?_)
    obtain ⟨rfl, j2, y2, y3, y4, y5, y6, h2, rfl⟩ := hq
    exact ⟨j2, _, _, _, _, _, _, by omega, okJ_mono h2 (by omega), rfl⟩
theorem run_law_k29 (P31 : Φ 31 = f2 g_jar) (Pr : ∀ j : J, okJ 0 j → WP (Φ 53 [some (.own 1 j.d)]) fun v _ => v = .p (.bl true)) : ∀ e, fLaw e ≠ .fail → runF (b_law_k29.ev Φ gvD) N_law_k29.length e = fLaw e := run_lawB (N := 5) (by decide) (by decide) P31 Pr
end
end PG

set_option Elab.async false
set_option linter.all false
set_option maxRecDepth 100000
set_option maxHeartbeats 4000000
namespace K29
open PySem L2 M PG
def top (i : Nat) : Stmt := PySem.Challenge.pw_placeforms_k29_whole_kinds_that_can_be.main.body.getD i (.Pass ⟨0, 0, 0, 0⟩)
def gvN : List (Nat × Str) := [(0, (Str.ofString "MOST_WEIGHT")), (1, (Str.ofString "REAL")), (2, (Str.ofString "MOST_WEIGHTS"))]
def clN : List (Str × List Str) := [((Str.ofString "Form"), [(Str.ofString "row"), (Str.ofString "told"), (Str.ofString "places"), (Str.ofString "minus")])]
def tb0 : List M.Row := []
def tm0 : List M.MRow := []
def tb1 : List M.Row := (0, (Str.ofString "is_integer"), 1, [(1, [], [0])]) :: tb0
def tm1 : List M.MRow := tm0
abbrev st_p_is_integer : Stmt := top 10
theorem ck_p_is_integer : ckSs (ccOf N_p_is_integer st_p_is_integer tb0 gvN clN tm0) b_p_is_integer (defBody st_p_is_integer) = true := by decide +kernel
theorem sc_p_is_integer : C8.scC N_p_is_integer A_p_is_integer (defScope st_p_is_integer) = true := by decide +kernel
def tb2 : List M.Row := (1, (Str.ofString "is_between"), 3, [(3, [], [0, 1, 2])]) :: tb1
def tm2 : List M.MRow := tm1
abbrev st_p_is_between : Stmt := top 11
theorem ck_p_is_between : ckSs (ccOf N_p_is_between st_p_is_between tb1 gvN clN tm1) b_p_is_between (defBody st_p_is_between) = true := by decide +kernel
theorem sc_p_is_between : C8.scC N_p_is_between A_p_is_between (defScope st_p_is_between) = true := by decide +kernel
def tb3 : List M.Row := (3, (Str.ofString "is_number"), 2, [(2, [], [0, 1])]) :: tb2
def tm3 : List M.MRow := tm2
abbrev st_p_is_number : Stmt := top 15
theorem ck_p_is_number : ckSs (ccOf N_p_is_number st_p_is_number tb2 gvN clN tm2) b_p_is_number (defBody st_p_is_number) = true := by decide +kernel
theorem sc_p_is_number : C8.scC N_p_is_number A_p_is_number (defScope st_p_is_number) = true := by decide +kernel
def tb4 : List M.Row := (4, (Str.ofString "divisors_of"), 1, [(1, [], [0])]) :: tb3
def tm4 : List M.MRow := tm3
abbrev st_p_divisors_of : Stmt := top 20
theorem ck_p_divisors_of : ckSs (ccOf N_p_divisors_of st_p_divisors_of tb3 gvN clN tm3) b_p_divisors_of (defBody st_p_divisors_of) = true := by decide +kernel
theorem sc_p_divisors_of : C8.scC N_p_divisors_of A_p_divisors_of (defScope st_p_divisors_of) = true := by decide +kernel
def tb5 : List M.Row := (5, (Str.ofString "is_prime"), 1, [(1, [], [0])]) :: tb4
def tm5 : List M.MRow := tm4
abbrev st_p_is_prime : Stmt := top 21
theorem ck_p_is_prime : ckSs (ccOf N_p_is_prime st_p_is_prime tb4 gvN clN tm4) b_p_is_prime (defBody st_p_is_prime) = true := by decide +kernel
theorem sc_p_is_prime : C8.scC N_p_is_prime A_p_is_prime (defScope st_p_is_prime) = true := by decide +kernel
def tb6 : List M.Row := (10, (Str.ofString "split_at"), 2, [(2, [], [0, 1])]) :: tb5
def tm6 : List M.MRow := tm5
abbrev st_p_split_at : Stmt := top 24
theorem ck_p_split_at : ckSs (ccOf N_p_split_at st_p_split_at tb5 gvN clN tm5) b_p_split_at (defBody st_p_split_at) = true := by decide +kernel
theorem sc_p_split_at : C8.scC N_p_split_at A_p_split_at (defScope st_p_split_at) = true := by decide +kernel
def tb7 : List M.Row := (11, (Str.ofString "power_rest"), 3, [(3, [], [0, 1, 2])]) :: tb6
def tm7 : List M.MRow := tm6
abbrev st_p_power_rest : Stmt := top 25
theorem ck_p_power_rest : ckSs (ccOf N_p_power_rest st_p_power_rest tb6 gvN clN tm6) b_p_power_rest (defBody st_p_power_rest) = true := by decide +kernel
theorem sc_p_power_rest : C8.scC N_p_power_rest A_p_power_rest (defScope st_p_power_rest) = true := by decide +kernel
def tb8 : List M.Row := (12, (Str.ofString "leaves_square"), 2, [(2, [], [0, 1])]) :: tb7
def tm8 : List M.MRow := tm7
abbrev st_p_leaves_square : Stmt := top 26
theorem ck_p_leaves_square : ckSs (ccOf N_p_leaves_square st_p_leaves_square tb7 gvN clN tm7) b_p_leaves_square (defBody st_p_leaves_square) = true := by decide +kernel
theorem sc_p_leaves_square : C8.scC N_p_leaves_square A_p_leaves_square (defScope st_p_leaves_square) = true := by decide +kernel
def tb9 : List M.Row := (13, (Str.ofString "is_square_at"), 2, [(2, [], [0, 1])]) :: tb8
def tm9 : List M.MRow := tm8
abbrev st_p_is_square_at : Stmt := top 27
theorem ck_p_is_square_at : ckSs (ccOf N_p_is_square_at st_p_is_square_at tb8 gvN clN tm8) b_p_is_square_at (defBody st_p_is_square_at) = true := by decide +kernel
theorem sc_p_is_square_at : C8.scC N_p_is_square_at A_p_is_square_at (defScope st_p_is_square_at) = true := by decide +kernel
def tb10 : List M.Row := (14, (Str.ofString "sign_at_two"), 2, [(2, [], [0, 1])]) :: tb9
def tm10 : List M.MRow := tm9
abbrev st_p_sign_at_two : Stmt := top 28
theorem ck_p_sign_at_two : ckSs (ccOf N_p_sign_at_two st_p_sign_at_two tb9 gvN clN tm9) b_p_sign_at_two (defBody st_p_sign_at_two) = true := by decide +kernel
theorem sc_p_sign_at_two : C8.scC N_p_sign_at_two A_p_sign_at_two (defScope st_p_sign_at_two) = true := by decide +kernel
def tb11 : List M.Row := (15, (Str.ofString "sign_at_odd"), 3, [(3, [], [0, 1, 2])]) :: tb10
def tm11 : List M.MRow := tm10
abbrev st_p_sign_at_odd : Stmt := top 29
theorem ck_p_sign_at_odd : ckSs (ccOf N_p_sign_at_odd st_p_sign_at_odd tb10 gvN clN tm10) b_p_sign_at_odd (defBody st_p_sign_at_odd) = true := by decide +kernel
theorem sc_p_sign_at_odd : C8.scC N_p_sign_at_odd A_p_sign_at_odd (defScope st_p_sign_at_odd) = true := by decide +kernel
def tb12 : List M.Row := (16, (Str.ofString "is_odd_at"), 3, [(3, [], [0, 1, 2])]) :: tb11
def tm12 : List M.MRow := tm11
abbrev st_p_is_odd_at : Stmt := top 30
theorem ck_p_is_odd_at : ckSs (ccOf N_p_is_odd_at st_p_is_odd_at tb11 gvN clN tm11) b_p_is_odd_at (defBody st_p_is_odd_at) = true := by decide +kernel
theorem sc_p_is_odd_at : C8.scC N_p_is_odd_at A_p_is_odd_at (defScope st_p_is_odd_at) = true := by decide +kernel
def tb13 : List M.Row := (17, (Str.ofString "places_for"), 1, [(1, [], [0])]) :: tb12
def tm13 : List M.MRow := tm12
abbrev st_p_places_for : Stmt := top 31
theorem ck_p_places_for : ckSs (ccOf N_p_places_for st_p_places_for tb12 gvN clN tm12) b_p_places_for (defBody st_p_places_for) = true := by decide +kernel
theorem sc_p_places_for : C8.scC N_p_places_for A_p_places_for (defScope st_p_places_for) = true := by decide +kernel
def tb14 : List M.Row := (36, (Str.ofString "product_of"), 1, [(1, [], [0])]) :: tb13
def tm14 : List M.MRow := tm13
abbrev st_p_product_of : Stmt := top 33
theorem ck_p_product_of : ckSs (ccOf N_p_product_of st_p_product_of tb13 gvN clN tm13) b_p_product_of (defBody st_p_product_of) = true := by decide +kernel
theorem sc_p_product_of : C8.scC N_p_product_of A_p_product_of (defScope st_p_product_of) = true := by decide +kernel
def tb15 : List M.Row := (37, (Str.ofString "core_of"), 1, [(1, [], [0])]) :: tb14
def tm15 : List M.MRow := tm14
abbrev st_p_core_of : Stmt := top 34
theorem ck_p_core_of : ckSs (ccOf N_p_core_of st_p_core_of tb14 gvN clN tm14) b_p_core_of (defBody st_p_core_of) = true := by decide +kernel
theorem sc_p_core_of : C8.scC N_p_core_of A_p_core_of (defScope st_p_core_of) = true := by decide +kernel
def tb16 : List M.Row := (38, (Str.ofString "is_odd_form"), 2, [(2, [], [0, 1])]) :: tb15
def tm16 : List M.MRow := tm15
abbrev st_p_is_odd_form : Stmt := top 35
theorem ck_p_is_odd_form : ckSs (ccOf N_p_is_odd_form st_p_is_odd_form tb15 gvN clN tm15) b_p_is_odd_form (defBody st_p_is_odd_form) = true := by decide +kernel
theorem sc_p_is_odd_form : C8.scC N_p_is_odd_form A_p_is_odd_form (defScope st_p_is_odd_form) = true := by decide +kernel
def tb17 : List M.Row := (39, (Str.ofString "kind_of"), 1, [(1, [], [0])]) :: tb16
def tm17 : List M.MRow := tm16
abbrev st_p_kind_of : Stmt := top 36
theorem ck_p_kind_of : ckSs (ccOf N_p_kind_of st_p_kind_of tb16 gvN clN tm16) b_p_kind_of (defBody st_p_kind_of) = true := by decide +kernel
theorem sc_p_kind_of : C8.scC N_p_kind_of A_p_kind_of (defScope st_p_kind_of) = true := by decide +kernel
def tb18 : List M.Row := (40, (Str.ofString "weights_until"), 1, [(1, [], [0])]) :: tb17
def tm18 : List M.MRow := tm17
abbrev st_p_weights_until : Stmt := top 37
theorem ck_p_weights_until : ckSs (ccOf N_p_weights_until st_p_weights_until tb17 gvN clN tm17) b_p_weights_until (defBody st_p_weights_until) = true := by decide +kernel
theorem sc_p_weights_until : C8.scC N_p_weights_until A_p_weights_until (defScope st_p_weights_until) = true := by decide +kernel
def tb19 : List M.Row := tb18
def tm19 : List M.MRow := (41, (Str.ofString "Form"), (Str.ofString "__init__"), .init, 2, [(2, [], [0, 1])]) :: tm18
abbrev st_p_Form_init : Stmt := inClass (top 39) 0
theorem ck_p_Form_init : ckSs (ccOf N_p_Form_init st_p_Form_init tb18 gvN clN tm18) b_p_Form_init (defBody st_p_Form_init) = true := by decide +kernel
theorem sc_p_Form_init : C8.scC N_p_Form_init A_p_Form_init (defScope st_p_Form_init) = true := by decide +kernel
def tb20 : List M.Row := tb19
def tm20 : List M.MRow := (42, (Str.ofString "Form"), (Str.ofString "kind"), .prop, 1, [(1, [], [0])]) :: tm19
abbrev st_p_Form_kind : Stmt := inClass (top 39) 4
theorem ck_p_Form_kind : ckSs (ccOf N_p_Form_kind st_p_Form_kind tb19 gvN clN tm19) b_p_Form_kind (defBody st_p_Form_kind) = true := by decide +kernel
theorem sc_p_Form_kind : C8.scC N_p_Form_kind A_p_Form_kind (defScope st_p_Form_kind) = true := by decide +kernel
def tb21 : List M.Row := (43, (Str.ofString "is_free"), 1, [(1, [], [0])]) :: tb20
def tm21 : List M.MRow := tm20
abbrev st_p_is_free : Stmt := top 41
theorem ck_p_is_free : ckSs (ccOf N_p_is_free st_p_is_free tb20 gvN clN tm20) b_p_is_free (defBody st_p_is_free) = true := by decide +kernel
theorem sc_p_is_free : C8.scC N_p_is_free A_p_is_free (defScope st_p_is_free) = true := by decide +kernel
def tb22 : List M.Row := (44, (Str.ofString "are_primes"), 1, [(1, [], [0])]) :: tb21
def tm22 : List M.MRow := tm21
abbrev st_p_are_primes : Stmt := top 42
theorem ck_p_are_primes : ckSs (ccOf N_p_are_primes st_p_are_primes tb21 gvN clN tm21) b_p_are_primes (defBody st_p_are_primes) = true := by decide +kernel
theorem sc_p_are_primes : C8.scC N_p_are_primes A_p_are_primes (defScope st_p_are_primes) = true := by decide +kernel
def tb23 : List M.Row := (45, (Str.ofString "check_kind"), 1, [(1, [], [0])]) :: tb22
def tm23 : List M.MRow := tm22
abbrev st_p_check_kind : Stmt := top 43
theorem ck_p_check_kind : ckSs (ccOf N_p_check_kind st_p_check_kind tb22 gvN clN tm22) b_p_check_kind (defBody st_p_check_kind) = true := by decide +kernel
theorem sc_p_check_kind : C8.scC N_p_check_kind A_p_check_kind (defScope st_p_check_kind) = true := by decide +kernel
def tb24 : List M.Row := (46, (Str.ofString "can_be"), 1, [(0, [(Str.ofString "kind")], [0]), (1, [], [0])]) :: tb23
def tm24 : List M.MRow := tm23
abbrev st_p_can_be : Stmt := top 44
theorem ck_p_can_be : ckSs (ccOf N_p_can_be st_p_can_be tb23 gvN clN tm23) b_p_can_be (defBody st_p_can_be) = true := by decide +kernel
theorem sc_p_can_be : C8.scC N_p_can_be A_p_can_be (defScope st_p_can_be) = true := by decide +kernel
def tb25 : List M.Row := (31, (Str.ofString "_law_jar"), 2, [(2, [], [0, 1])]) :: tb24
def tm25 : List M.MRow := tm24
abbrev st_l_jar : Stmt := top 46
theorem ck_l_jar : ckSs (ccOf N_l_jar st_l_jar tb24 gvN clN tm24) b_l_jar (defBody st_l_jar) = true := by decide +kernel
theorem sc_l_jar : C8.scC N_l_jar A_l_jar (defScope st_l_jar) = true := by decide +kernel
def tb26 : List M.Row := (22, (Str.ofString "_law_dip"), 2, [(2, [], [0, 1])]) :: tb25
def tm26 : List M.MRow := tm25
abbrev st_l_dip : Stmt := top 47
theorem ck_l_dip : ckSs (ccOf N_l_dip st_l_dip tb25 gvN clN tm25) b_l_dip (defBody st_l_dip) = true := by decide +kernel
theorem sc_l_dip : C8.scC N_l_dip A_l_dip (defScope st_l_dip) = true := by decide +kernel
def tb27 : List M.Row := (23, (Str.ofString "_law_one_of"), 2, [(2, [], [0, 1])]) :: tb26
def tm27 : List M.MRow := tm26
abbrev st_l_one_of : Stmt := top 48
theorem ck_l_one_of : ckSs (ccOf N_l_one_of st_l_one_of tb26 gvN clN tm26) b_l_one_of (defBody st_l_one_of) = true := by decide +kernel
theorem sc_l_one_of : C8.scC N_l_one_of A_l_one_of (defScope st_l_one_of) = true := by decide +kernel
def tb28 : List M.Row := (24, (Str.ofString "_law_number"), 2, [(2, [], [0, 1])]) :: tb27
def tm28 : List M.MRow := tm27
abbrev st_l_number : Stmt := top 49
theorem ck_l_number : ckSs (ccOf N_l_number st_l_number tb27 gvN clN tm27) b_l_number (defBody st_l_number) = true := by decide +kernel
theorem sc_l_number : C8.scC N_l_number A_l_number (defScope st_l_number) = true := by decide +kernel
def tb29 : List M.Row := (25, (Str.ofString "_law_primes_of"), 1, [(1, [], [0])]) :: tb28
def tm29 : List M.MRow := tm28
abbrev st_l_primes_of : Stmt := top 50
theorem ck_l_primes_of : ckSs (ccOf N_l_primes_of st_l_primes_of tb28 gvN clN tm28) b_l_primes_of (defBody st_l_primes_of) = true := by decide +kernel
theorem sc_l_primes_of : C8.scC N_l_primes_of A_l_primes_of (defScope st_l_primes_of) = true := by decide +kernel
def tb30 : List M.Row := (27, (Str.ofString "_law_split"), 2, [(2, [], [0, 1])]) :: tb29
def tm30 : List M.MRow := tm29
abbrev st_l_split : Stmt := top 51
theorem ck_l_split : ckSs (ccOf N_l_split st_l_split tb29 gvN clN tm29) b_l_split (defBody st_l_split) = true := by decide +kernel
theorem sc_l_split : C8.scC N_l_split A_l_split (defScope st_l_split) = true := by decide +kernel
def tb31 : List M.Row := (28, (Str.ofString "_law_is_rest"), 2, [(2, [], [0, 1])]) :: tb30
def tm31 : List M.MRow := tm30
abbrev st_l_is_rest : Stmt := top 52
theorem ck_l_is_rest : ckSs (ccOf N_l_is_rest st_l_is_rest tb30 gvN clN tm30) b_l_is_rest (defBody st_l_is_rest) = true := by decide +kernel
theorem sc_l_is_rest : C8.scC N_l_is_rest A_l_is_rest (defScope st_l_is_rest) = true := by decide +kernel
def tb32 : List M.Row := (30, (Str.ofString "_law_is_square"), 2, [(2, [], [0, 1])]) :: tb31
def tm32 : List M.MRow := tm31
abbrev st_l_is_square : Stmt := top 53
theorem ck_l_is_square : ckSs (ccOf N_l_is_square st_l_is_square tb31 gvN clN tm31) b_l_is_square (defBody st_l_is_square) = true := by decide +kernel
theorem sc_l_is_square : C8.scC N_l_is_square A_l_is_square (defScope st_l_is_square) = true := by decide +kernel
def tb33 : List M.Row := (29, (Str.ofString "_law_sign"), 3, [(3, [], [0, 1, 2])]) :: tb32
def tm33 : List M.MRow := tm32
abbrev st_l_sign : Stmt := top 54
theorem ck_l_sign : ckSs (ccOf N_l_sign st_l_sign tb32 gvN clN tm32) b_l_sign (defBody st_l_sign) = true := by decide +kernel
theorem sc_l_sign : C8.scC N_l_sign A_l_sign (defScope st_l_sign) = true := by decide +kernel
def tb34 : List M.Row := (26, (Str.ofString "_law_places"), 1, [(1, [], [0])]) :: tb33
def tm34 : List M.MRow := tm33
abbrev st_l_places : Stmt := top 55
theorem ck_l_places : ckSs (ccOf N_l_places st_l_places tb33 gvN clN tm33) b_l_places (defBody st_l_places) = true := by decide +kernel
theorem sc_l_places : C8.scC N_l_places A_l_places (defScope st_l_places) = true := by decide +kernel
def tb35 : List M.Row := (47, (Str.ofString "_law_form_sign"), 2, [(2, [], [0, 1])]) :: tb34
def tm35 : List M.MRow := tm34
abbrev st_l_form_sign : Stmt := top 56
theorem ck_l_form_sign : ckSs (ccOf N_l_form_sign st_l_form_sign tb34 gvN clN tm34) b_l_form_sign (defBody st_l_form_sign) = true := by decide +kernel
theorem sc_l_form_sign : C8.scC N_l_form_sign A_l_form_sign (defScope st_l_form_sign) = true := by decide +kernel
def tb36 : List M.Row := (48, (Str.ofString "_law_core"), 1, [(1, [], [0])]) :: tb35
def tm36 : List M.MRow := tm35
abbrev st_l_core : Stmt := top 57
theorem ck_l_core : ckSs (ccOf N_l_core st_l_core tb35 gvN clN tm35) b_l_core (defBody st_l_core) = true := by decide +kernel
theorem sc_l_core : C8.scC N_l_core A_l_core (defScope st_l_core) = true := by decide +kernel
def tb37 : List M.Row := (49, (Str.ofString "_law_kind"), 1, [(1, [], [0])]) :: tb36
def tm37 : List M.MRow := tm36
abbrev st_l_kind : Stmt := top 58
theorem ck_l_kind : ckSs (ccOf N_l_kind st_l_kind tb36 gvN clN tm36) b_l_kind (defBody st_l_kind) = true := by decide +kernel
theorem sc_l_kind : C8.scC N_l_kind A_l_kind (defScope st_l_kind) = true := by decide +kernel
def tb38 : List M.Row := (50, (Str.ofString "_law_weights"), 3, [(3, [], [0, 1, 2])]) :: tb37
def tm38 : List M.MRow := tm37
abbrev st_l_weights : Stmt := top 59
theorem ck_l_weights : ckSs (ccOf N_l_weights st_l_weights tb37 gvN clN tm37) b_l_weights (defBody st_l_weights) = true := by decide +kernel
theorem sc_l_weights : C8.scC N_l_weights A_l_weights (defScope st_l_weights) = true := by decide +kernel
def tb39 : List M.Row := (51, (Str.ofString "_law_can"), 1, [(1, [], [0])]) :: tb38
def tm39 : List M.MRow := tm38
abbrev st_l_can : Stmt := top 60
theorem ck_l_can : ckSs (ccOf N_l_can st_l_can tb38 gvN clN tm38) b_l_can (defBody st_l_can) = true := by decide +kernel
theorem sc_l_can : C8.scC N_l_can A_l_can (defScope st_l_can) = true := by decide +kernel
def tb40 : List M.Row := (52, (Str.ofString "_law_bent"), 2, [(2, [], [0, 1])]) :: tb39
def tm40 : List M.MRow := tm39
abbrev st_l_bent : Stmt := top 61
theorem ck_l_bent : ckSs (ccOf N_l_bent st_l_bent tb39 gvN clN tm39) b_l_bent (defBody st_l_bent) = true := by decide +kernel
theorem sc_l_bent : C8.scC N_l_bent A_l_bent (defScope st_l_bent) = true := by decide +kernel
def tb41 : List M.Row := (53, (Str.ofString "_law_right"), 1, [(1, [], [0])]) :: tb40
def tm41 : List M.MRow := tm40
abbrev st_l_right_k29 : Stmt := top 62
theorem ck_l_right_k29 : ckSs (ccOf N_l_right_k29 st_l_right_k29 tb40 gvN clN tm40) b_l_right_k29 (defBody st_l_right_k29) = true := by decide +kernel
theorem sc_l_right_k29 : C8.scC N_l_right_k29 A_l_right_k29 (defScope st_l_right_k29) = true := by decide +kernel
def tb42 : List M.Row := (54, (Str.ofString "law"), 1, []) :: tb41
def tm42 : List M.MRow := tm41
abbrev st_law_k29 : Stmt := top 63
theorem ck_law_k29 : ckSs (ccOf N_law_k29 st_law_k29 tb41 gvN clN tm41) b_law_k29 (defBody st_law_k29) = true := by decide +kernel
theorem sc_law_k29 : C8.scC N_law_k29 A_law_k29 (defScope st_law_k29) = true := by decide +kernel
end K29

namespace K29
open PySem PySem.Spec PyProof.Rows L2 M PG
noncomputable def Ph0 : Nat → M.Env → Res Val := fun _ _ => .fail
noncomputable def Ph1 : Nat → M.Env → Res Val := updF Ph0 0 (f1 g_is_integer)
theorem rr_p_is_integer : ∀ e, (f1 g_is_integer) e ≠ .fail → runF (b_p_is_integer.ev Ph0 gvD) N_p_is_integer.length e = (f1 g_is_integer) e := run_p_is_integer (Φ := Ph0) 
noncomputable def Ph2 : Nat → M.Env → Res Val := updF Ph1 1 (f3 g_is_between)
theorem rr_p_is_between : ∀ e, (f3 g_is_between) e ≠ .fail → runF (b_p_is_between.ev Ph1 gvD) N_p_is_between.length e = (f3 g_is_between) e := run_p_is_between (Φ := Ph1) rfl
noncomputable def Ph3 : Nat → M.Env → Res Val := updF Ph2 3 (f2 g_is_number)
theorem rr_p_is_number : ∀ e, (f2 g_is_number) e ≠ .fail → runF (b_p_is_number.ev Ph2 gvD) N_p_is_number.length e = (f2 g_is_number) e := run_p_is_number (Φ := Ph2) rfl
noncomputable def Ph4 : Nat → M.Env → Res Val := updF Ph3 4 (f1 g_divisors)
theorem rr_p_divisors_of : ∀ e, (f1 g_divisors) e ≠ .fail → runF (b_p_divisors_of.ev Ph3 gvD) N_p_divisors_of.length e = (f1 g_divisors) e := run_p_divisors_of (Φ := Ph3) 
noncomputable def Ph5 : Nat → M.Env → Res Val := updF Ph4 5 (f1 g_is_prime)
theorem rr_p_is_prime : ∀ e, (f1 g_is_prime) e ≠ .fail → runF (b_p_is_prime.ev Ph4 gvD) N_p_is_prime.length e = (f1 g_is_prime) e := run_p_is_prime (Φ := Ph4) rfl rfl
noncomputable def Ph6 : Nat → M.Env → Res Val := updF Ph5 10 (f2 g_split)
theorem rr_p_split_at : ∀ e, (f2 g_split) e ≠ .fail → runF (b_p_split_at.ev Ph5 gvD) N_p_split_at.length e = (f2 g_split) e := run_p_split_at (Φ := Ph5) 
noncomputable def Ph7 : Nat → M.Env → Res Val := updF Ph6 11 (f3 g_power_rest)
theorem rr_p_power_rest : ∀ e, (f3 g_power_rest) e ≠ .fail → runF (b_p_power_rest.ev Ph6 gvD) N_p_power_rest.length e = (f3 g_power_rest) e := run_p_power_rest (Φ := Ph6) 
noncomputable def Ph8 : Nat → M.Env → Res Val := updF Ph7 12 (f2 g_leaves)
theorem rr_p_leaves_square : ∀ e, (f2 g_leaves) e ≠ .fail → runF (b_p_leaves_square.ev Ph7 gvD) N_p_leaves_square.length e = (f2 g_leaves) e := run_p_leaves_square (Φ := Ph7) rfl
noncomputable def Ph9 : Nat → M.Env → Res Val := updF Ph8 13 (f2 g_sq_at)
theorem rr_p_is_square_at : ∀ e, (f2 g_sq_at) e ≠ .fail → runF (b_p_is_square_at.ev Ph8 gvD) N_p_is_square_at.length e = (f2 g_sq_at) e := run_p_is_square_at (Φ := Ph8) rfl rfl
noncomputable def Ph10 : Nat → M.Env → Res Val := updF Ph9 14 (f2 g_two)
theorem rr_p_sign_at_two : ∀ e, (f2 g_two) e ≠ .fail → runF (b_p_sign_at_two.ev Ph9 gvD) N_p_sign_at_two.length e = (f2 g_two) e := run_p_sign_at_two (Φ := Ph9) rfl
noncomputable def Ph11 : Nat → M.Env → Res Val := updF Ph10 15 (f3 g_odd)
theorem rr_p_sign_at_odd : ∀ e, (f3 g_odd) e ≠ .fail → runF (b_p_sign_at_odd.ev Ph10 gvD) N_p_sign_at_odd.length e = (f3 g_odd) e := run_p_sign_at_odd (Φ := Ph10) rfl rfl
noncomputable def Ph12 : Nat → M.Env → Res Val := updF Ph11 16 (f3 g_odd_at)
theorem rr_p_is_odd_at : ∀ e, (f3 g_odd_at) e ≠ .fail → runF (b_p_is_odd_at.ev Ph11 gvD) N_p_is_odd_at.length e = (f3 g_odd_at) e := run_p_is_odd_at (Φ := Ph11) rfl rfl
noncomputable def Ph13 : Nat → M.Env → Res Val := updF Ph12 17 (f1 g_placesL)
theorem rr_p_places_for : ∀ e, (f1 g_placesL) e ≠ .fail → runF (b_p_places_for.ev Ph12 gvD) N_p_places_for.length e = (f1 g_placesL) e := run_p_places_for (Φ := Ph12) rfl
noncomputable def Ph14 : Nat → M.Env → Res Val := updF Ph13 36 (runF (b_p_product_of.ev Ph13 gvD) N_p_product_of.length)
def sp_p_product_of := fun xs hs hl => run_p_product_of (Φ := Ph13)  (xs := xs) hs hl
noncomputable def Ph15 : Nat → M.Env → Res Val := updF Ph14 37 (runF (b_p_core_of.ev Ph14 gvD) N_p_core_of.length)
def sp_p_core_of := fun d ns hd h => run_p_core_of (Φ := Ph14) rfl rfl sp_p_product_of (d := d) (ns := ns) hd h
noncomputable def Ph16 : Nat → M.Env → Res Val := updF Ph15 38 (runF (b_p_is_odd_form.ev Ph15 gvD) N_p_is_odd_form.length)
def sp_p_is_odd_form := fun d pl ns hd h hp => run_p_is_odd_form (Φ := Ph15) rfl (d := d) (pl := pl) (ns := ns) hd h hp
noncomputable def Ph17 : Nat → M.Env → Res Val := updF Ph16 39 (runF (b_p_kind_of.ev Ph16 gvD) N_p_kind_of.length)
def sp_p_kind_of := fun d ns hd h => run_p_kind_of (Φ := Ph16) rfl sp_p_core_of sp_p_is_odd_form (d := d) (ns := ns) hd h
noncomputable def Ph18 : Nat → M.Env → Res Val := updF Ph17 40 (runF (b_p_weights_until.ev Ph17 gvD) N_p_weights_until.length)
def sp_p_weights_until := fun ns h => run_p_weights_until (Φ := Ph17) rfl (ns := ns) h
noncomputable def Ph19 : Nat → M.Env → Res Val := updF Ph18 41 (runF (b_p_Form_init.ev Ph18 gvD) N_p_Form_init.length)
def sp_p_Form_init := fun ns h h1 => run_p_Form_init (Φ := Ph18) rfl sp_p_weights_until sp_p_kind_of sp_p_is_odd_form (ns := ns) h h1
noncomputable def Ph20 : Nat → M.Env → Res Val := updF Ph19 42 (runF (b_p_Form_kind.ev Ph19 gvD) N_p_Form_kind.length)
def sp_p_Form_kind := fun ns => run_p_Form_kind (Φ := Ph19)  (ns := ns)
noncomputable def Ph21 : Nat → M.Env → Res Val := updF Ph20 43 (runF (b_p_is_free.ev Ph20 gvD) N_p_is_free.length)
def sp_p_is_free := fun c hf hc => run_p_is_free (Φ := Ph20)  (c := c) hf hc
noncomputable def Ph22 : Nat → M.Env → Res Val := updF Ph21 44 (runF (b_p_are_primes.ev Ph21 gvD) N_p_are_primes.length)
def sp_p_are_primes := fun od h1 h2 => run_p_are_primes (Φ := Ph21) rfl (od := od) h1 h2
noncomputable def Ph23 : Nat → M.Env → Res Val := updF Ph22 45 (runF (b_p_check_kind.ev Ph22 gvD) N_p_check_kind.length)
def sp_p_check_kind := fun s c b od h => run_p_check_kind (Φ := Ph22) rfl rfl sp_p_is_free sp_p_are_primes (s := s) (c := c) (b := b) (od := od) h
noncomputable def Ph24 : Nat → M.Env → Res Val := updF Ph23 46 (runF (b_p_can_be.ev Ph23 gvD) N_p_can_be.length)
def sp_p_can_be := fun s c b od h => run_p_can_be (Φ := Ph23) rfl sp_p_check_kind (s := s) (c := c) (b := b) (od := od) h
noncomputable def Ph25 : Nat → M.Env → Res Val := updF Ph24 31 (f2 g_jar)
theorem rr_l_jar : ∀ e, (f2 g_jar) e ≠ .fail → runF (b_l_jar.ev Ph24 gvD) N_l_jar.length e = (f2 g_jar) e := run_l_jar (Φ := Ph24) 
noncomputable def Ph26 : Nat → M.Env → Res Val := updF Ph25 22 (fJ2 g_dip)
theorem rr_l_dip : ∀ e, (fJ2 g_dip) e ≠ .fail → runF (b_l_dip.ev Ph25 gvD) N_l_dip.length e = (fJ2 g_dip) e := run_l_dip (Φ := Ph25) 
noncomputable def Ph27 : Nat → M.Env → Res Val := updF Ph26 23 (fJ2 g_one)
theorem rr_l_one_of : ∀ e, (fJ2 g_one) e ≠ .fail → runF (b_l_one_of.ev Ph26 gvD) N_l_one_of.length e = (fJ2 g_one) e := run_l_one_of (Φ := Ph26) rfl
noncomputable def Ph28 : Nat → M.Env → Res Val := updF Ph27 24 (fJ2 g_num)
theorem rr_l_number : ∀ e, (fJ2 g_num) e ≠ .fail → runF (b_l_number.ev Ph27 gvD) N_l_number.length e = (fJ2 g_num) e := run_l_number (Φ := Ph27) rfl rfl
noncomputable def Ph29 : Nat → M.Env → Res Val := updF Ph28 25 (f1 g_lprimes)
theorem rr_l_primes_of : ∀ e, (f1 g_lprimes) e ≠ .fail → runF (b_l_primes_of.ev Ph28 gvD) N_l_primes_of.length e = (f1 g_lprimes) e := run_l_primes_of (Φ := Ph28) 
noncomputable def Ph30 : Nat → M.Env → Res Val := updF Ph29 27 (f2 g_split)
theorem rr_l_split : ∀ e, (f2 g_split) e ≠ .fail → runF (b_l_split.ev Ph29 gvD) N_l_split.length e = (f2 g_split) e := run_l_split (Φ := Ph29) 
noncomputable def Ph31 : Nat → M.Env → Res Val := updF Ph30 28 (f2 g_leaves)
theorem rr_l_is_rest : ∀ e, (f2 g_leaves) e ≠ .fail → runF (b_l_is_rest.ev Ph30 gvD) N_l_is_rest.length e = (f2 g_leaves) e := run_l_is_rest (Φ := Ph30) 
noncomputable def Ph32 : Nat → M.Env → Res Val := updF Ph31 30 (f2 g_sq_at)
theorem rr_l_is_square : ∀ e, (f2 g_sq_at) e ≠ .fail → runF (b_l_is_square.ev Ph31 gvD) N_l_is_square.length e = (f2 g_sq_at) e := run_l_is_square (Φ := Ph31) rfl rfl
noncomputable def Ph33 : Nat → M.Env → Res Val := updF Ph32 29 (f3 g_lsign)
theorem rr_l_sign : ∀ e, (f3 g_lsign) e ≠ .fail → runF (b_l_sign.ev Ph32 gvD) N_l_sign.length e = (f3 g_lsign) e := run_l_sign (Φ := Ph32) rfl rfl
noncomputable def Ph34 : Nat → M.Env → Res Val := updF Ph33 26 (f1 g_lplaces)
theorem rr_l_places : ∀ e, (f1 g_lplaces) e ≠ .fail → runF (b_l_places.ev Ph33 gvD) N_l_places.length e = (f1 g_lplaces) e := run_l_places (Φ := Ph33) rfl
noncomputable def Ph35 : Nat → M.Env → Res Val := updF Ph34 47 (runF (b_l_form_sign.ev Ph34 gvD) N_l_form_sign.length)
def sp_l_form_sign := fun ns pl h hp => run_l_form_sign (Φ := Ph34) rfl (ns := ns) (pl := pl) h hp
noncomputable def Ph36 : Nat → M.Env → Res Val := updF Ph35 48 (runF (b_l_core.ev Ph35 gvD) N_l_core.length)
def sp_l_core := fun ns h => run_l_core (Φ := Ph35) rfl rfl (ns := ns) h
noncomputable def Ph37 : Nat → M.Env → Res Val := updF Ph36 49 (runF (b_l_kind.ev Ph36 gvD) N_l_kind.length)
def sp_l_kind := fun ns h => run_l_kind (Φ := Ph36) rfl sp_l_core sp_l_form_sign (ns := ns) h
noncomputable def Ph38 : Nat → M.Env → Res Val := updF Ph37 50 (runF (b_l_weights.ev Ph37 gvD) N_l_weights.length)
def sp_l_weights := fun j k most top hj hk hm1 hm6 ht1 ht6 => run_l_weights (Φ := Ph37) rfl rfl (j := j) (k := k) (most := most) (top := top) hj hk hm1 hm6 ht1 ht6
noncomputable def Ph39 : Nat → M.Env → Res Val := updF Ph38 51 (runF (b_l_can.ev Ph38 gvD) N_l_can.length)
def sp_l_can := fun s c b od h => run_l_can (Φ := Ph38) rfl (s := s) (c := c) (b := b) (od := od) h
noncomputable def Ph40 : Nat → M.Env → Res Val := updF Ph39 52 (runF (b_l_bent.ev Ph39 gvD) N_l_bent.length)
def sp_l_bent := fun s c b od j k h hl hj hk => run_l_bent (Φ := Ph39) rfl rfl (s := s) (c := c) (b := b) (od := od) (j := j) (k := k) h hl hj hk
noncomputable def Ph41 : Nat → M.Env → Res Val := updF Ph40 53 (runF (b_l_right_k29.ev Ph40 gvD) N_l_right_k29.length)
def sp_l_right_k29 := fun j hj => right29 (Φ := Ph40) rfl rfl sp_p_Form_init sp_p_Form_kind sp_p_can_be sp_l_kind sp_l_weights sp_l_can sp_l_bent (j := j) hj
noncomputable def Ph42 : Nat → M.Env → Res Val := updF Ph41 54 (fLaw)
theorem rr_law_k29 : ∀ e, (fLaw) e ≠ .fail → runF (b_law_k29.ev Ph41 gvD) N_law_k29.length e = (fLaw) e := run_law_k29 (Φ := Ph41) rfl sp_l_right_k29
theorem bd_p_is_integer : Bd (Str.ofString "is_integer") (Str.ofString "is_integer") st_p_is_integer A_p_is_integer 1 [(1, [], [0])] := (.cons rfl (fun _ _ _ _ _ _ us ws hu hw => match us, hu, ws, hw with | [_], _, [], _ => rfl) .nil)
theorem bd_p_is_between : Bd (Str.ofString "is_between") (Str.ofString "is_between") st_p_is_between A_p_is_between 3 [(3, [], [0, 1, 2])] := (.cons rfl (fun _ _ _ _ _ _ us ws hu hw => match us, hu, ws, hw with | [_, _, _], _, [], _ => rfl) .nil)
theorem bd_p_is_number : Bd (Str.ofString "is_number") (Str.ofString "is_number") st_p_is_number A_p_is_number 2 [(2, [], [0, 1])] := (.cons rfl (fun _ _ _ _ _ _ us ws hu hw => match us, hu, ws, hw with | [_, _], _, [], _ => rfl) .nil)
theorem bd_p_divisors_of : Bd (Str.ofString "divisors_of") (Str.ofString "divisors_of") st_p_divisors_of A_p_divisors_of 1 [(1, [], [0])] := (.cons rfl (fun _ _ _ _ _ _ us ws hu hw => match us, hu, ws, hw with | [_], _, [], _ => rfl) .nil)
theorem bd_p_is_prime : Bd (Str.ofString "is_prime") (Str.ofString "is_prime") st_p_is_prime A_p_is_prime 1 [(1, [], [0])] := (.cons rfl (fun _ _ _ _ _ _ us ws hu hw => match us, hu, ws, hw with | [_], _, [], _ => rfl) .nil)
theorem bd_p_split_at : Bd (Str.ofString "split_at") (Str.ofString "split_at") st_p_split_at A_p_split_at 2 [(2, [], [0, 1])] := (.cons rfl (fun _ _ _ _ _ _ us ws hu hw => match us, hu, ws, hw with | [_, _], _, [], _ => rfl) .nil)
theorem bd_p_power_rest : Bd (Str.ofString "power_rest") (Str.ofString "power_rest") st_p_power_rest A_p_power_rest 3 [(3, [], [0, 1, 2])] := (.cons rfl (fun _ _ _ _ _ _ us ws hu hw => match us, hu, ws, hw with | [_, _, _], _, [], _ => rfl) .nil)
theorem bd_p_leaves_square : Bd (Str.ofString "leaves_square") (Str.ofString "leaves_square") st_p_leaves_square A_p_leaves_square 2 [(2, [], [0, 1])] := (.cons rfl (fun _ _ _ _ _ _ us ws hu hw => match us, hu, ws, hw with | [_, _], _, [], _ => rfl) .nil)
theorem bd_p_is_square_at : Bd (Str.ofString "is_square_at") (Str.ofString "is_square_at") st_p_is_square_at A_p_is_square_at 2 [(2, [], [0, 1])] := (.cons rfl (fun _ _ _ _ _ _ us ws hu hw => match us, hu, ws, hw with | [_, _], _, [], _ => rfl) .nil)
theorem bd_p_sign_at_two : Bd (Str.ofString "sign_at_two") (Str.ofString "sign_at_two") st_p_sign_at_two A_p_sign_at_two 2 [(2, [], [0, 1])] := (.cons rfl (fun _ _ _ _ _ _ us ws hu hw => match us, hu, ws, hw with | [_, _], _, [], _ => rfl) .nil)
theorem bd_p_sign_at_odd : Bd (Str.ofString "sign_at_odd") (Str.ofString "sign_at_odd") st_p_sign_at_odd A_p_sign_at_odd 3 [(3, [], [0, 1, 2])] := (.cons rfl (fun _ _ _ _ _ _ us ws hu hw => match us, hu, ws, hw with | [_, _, _], _, [], _ => rfl) .nil)
theorem bd_p_is_odd_at : Bd (Str.ofString "is_odd_at") (Str.ofString "is_odd_at") st_p_is_odd_at A_p_is_odd_at 3 [(3, [], [0, 1, 2])] := (.cons rfl (fun _ _ _ _ _ _ us ws hu hw => match us, hu, ws, hw with | [_, _, _], _, [], _ => rfl) .nil)
theorem bd_p_places_for : Bd (Str.ofString "places_for") (Str.ofString "places_for") st_p_places_for A_p_places_for 1 [(1, [], [0])] := (.cons rfl (fun _ _ _ _ _ _ us ws hu hw => match us, hu, ws, hw with | [_], _, [], _ => rfl) .nil)
theorem bd_p_product_of : Bd (Str.ofString "product_of") (Str.ofString "product_of") st_p_product_of A_p_product_of 1 [(1, [], [0])] := (.cons rfl (fun _ _ _ _ _ _ us ws hu hw => match us, hu, ws, hw with | [_], _, [], _ => rfl) .nil)
theorem bd_p_core_of : Bd (Str.ofString "core_of") (Str.ofString "core_of") st_p_core_of A_p_core_of 1 [(1, [], [0])] := (.cons rfl (fun _ _ _ _ _ _ us ws hu hw => match us, hu, ws, hw with | [_], _, [], _ => rfl) .nil)
theorem bd_p_is_odd_form : Bd (Str.ofString "is_odd_form") (Str.ofString "is_odd_form") st_p_is_odd_form A_p_is_odd_form 2 [(2, [], [0, 1])] := (.cons rfl (fun _ _ _ _ _ _ us ws hu hw => match us, hu, ws, hw with | [_, _], _, [], _ => rfl) .nil)
theorem bd_p_kind_of : Bd (Str.ofString "kind_of") (Str.ofString "kind_of") st_p_kind_of A_p_kind_of 1 [(1, [], [0])] := (.cons rfl (fun _ _ _ _ _ _ us ws hu hw => match us, hu, ws, hw with | [_], _, [], _ => rfl) .nil)
theorem bd_p_weights_until : Bd (Str.ofString "weights_until") (Str.ofString "weights_until") st_p_weights_until A_p_weights_until 1 [(1, [], [0])] := (.cons rfl (fun _ _ _ _ _ _ us ws hu hw => match us, hu, ws, hw with | [_], _, [], _ => rfl) .nil)
theorem bd_p_Form_init : Bd (Str.ofString "__init__") (Str.ofString "Form.__init__") st_p_Form_init A_p_Form_init 2 [(2, [], [0, 1])] := (.cons rfl (fun _ _ _ _ _ _ us ws hu hw => match us, hu, ws, hw with | [_, _], _, [], _ => rfl) .nil)
theorem bd_p_Form_kind : Bd (Str.ofString "kind") (Str.ofString "Form.kind") st_p_Form_kind A_p_Form_kind 1 [(1, [], [0])] := (.cons rfl (fun _ _ _ _ _ _ us ws hu hw => match us, hu, ws, hw with | [_], _, [], _ => rfl) .nil)
theorem bd_p_is_free : Bd (Str.ofString "is_free") (Str.ofString "is_free") st_p_is_free A_p_is_free 1 [(1, [], [0])] := (.cons rfl (fun _ _ _ _ _ _ us ws hu hw => match us, hu, ws, hw with | [_], _, [], _ => rfl) .nil)
theorem bd_p_are_primes : Bd (Str.ofString "are_primes") (Str.ofString "are_primes") st_p_are_primes A_p_are_primes 1 [(1, [], [0])] := (.cons rfl (fun _ _ _ _ _ _ us ws hu hw => match us, hu, ws, hw with | [_], _, [], _ => rfl) .nil)
theorem bd_p_check_kind : Bd (Str.ofString "check_kind") (Str.ofString "check_kind") st_p_check_kind A_p_check_kind 1 [(1, [], [0])] := (.cons rfl (fun _ _ _ _ _ _ us ws hu hw => match us, hu, ws, hw with | [_], _, [], _ => rfl) .nil)
theorem bd_p_can_be : Bd (Str.ofString "can_be") (Str.ofString "can_be") st_p_can_be A_p_can_be 1 [(0, [(Str.ofString "kind")], [0]), (1, [], [0])] := (.cons rfl (fun _ _ _ _ _ _ us ws hu hw => match us, hu, ws, hw with | [], _, [_], _ => rfl) (.cons rfl (fun _ _ _ _ _ _ us ws hu hw => match us, hu, ws, hw with | [_], _, [], _ => rfl) .nil))
theorem bd_l_jar : Bd (Str.ofString "_law_jar") (Str.ofString "_law_jar") st_l_jar A_l_jar 2 [(2, [], [0, 1])] := (.cons rfl (fun _ _ _ _ _ _ us ws hu hw => match us, hu, ws, hw with | [_, _], _, [], _ => rfl) .nil)
theorem bd_l_dip : Bd (Str.ofString "_law_dip") (Str.ofString "_law_dip") st_l_dip A_l_dip 2 [(2, [], [0, 1])] := (.cons rfl (fun _ _ _ _ _ _ us ws hu hw => match us, hu, ws, hw with | [_, _], _, [], _ => rfl) .nil)
theorem bd_l_one_of : Bd (Str.ofString "_law_one_of") (Str.ofString "_law_one_of") st_l_one_of A_l_one_of 2 [(2, [], [0, 1])] := (.cons rfl (fun _ _ _ _ _ _ us ws hu hw => match us, hu, ws, hw with | [_, _], _, [], _ => rfl) .nil)
theorem bd_l_number : Bd (Str.ofString "_law_number") (Str.ofString "_law_number") st_l_number A_l_number 2 [(2, [], [0, 1])] := (.cons rfl (fun _ _ _ _ _ _ us ws hu hw => match us, hu, ws, hw with | [_, _], _, [], _ => rfl) .nil)
theorem bd_l_primes_of : Bd (Str.ofString "_law_primes_of") (Str.ofString "_law_primes_of") st_l_primes_of A_l_primes_of 1 [(1, [], [0])] := (.cons rfl (fun _ _ _ _ _ _ us ws hu hw => match us, hu, ws, hw with | [_], _, [], _ => rfl) .nil)
theorem bd_l_split : Bd (Str.ofString "_law_split") (Str.ofString "_law_split") st_l_split A_l_split 2 [(2, [], [0, 1])] := (.cons rfl (fun _ _ _ _ _ _ us ws hu hw => match us, hu, ws, hw with | [_, _], _, [], _ => rfl) .nil)
theorem bd_l_is_rest : Bd (Str.ofString "_law_is_rest") (Str.ofString "_law_is_rest") st_l_is_rest A_l_is_rest 2 [(2, [], [0, 1])] := (.cons rfl (fun _ _ _ _ _ _ us ws hu hw => match us, hu, ws, hw with | [_, _], _, [], _ => rfl) .nil)
theorem bd_l_is_square : Bd (Str.ofString "_law_is_square") (Str.ofString "_law_is_square") st_l_is_square A_l_is_square 2 [(2, [], [0, 1])] := (.cons rfl (fun _ _ _ _ _ _ us ws hu hw => match us, hu, ws, hw with | [_, _], _, [], _ => rfl) .nil)
theorem bd_l_sign : Bd (Str.ofString "_law_sign") (Str.ofString "_law_sign") st_l_sign A_l_sign 3 [(3, [], [0, 1, 2])] := (.cons rfl (fun _ _ _ _ _ _ us ws hu hw => match us, hu, ws, hw with | [_, _, _], _, [], _ => rfl) .nil)
theorem bd_l_places : Bd (Str.ofString "_law_places") (Str.ofString "_law_places") st_l_places A_l_places 1 [(1, [], [0])] := (.cons rfl (fun _ _ _ _ _ _ us ws hu hw => match us, hu, ws, hw with | [_], _, [], _ => rfl) .nil)
theorem bd_l_form_sign : Bd (Str.ofString "_law_form_sign") (Str.ofString "_law_form_sign") st_l_form_sign A_l_form_sign 2 [(2, [], [0, 1])] := (.cons rfl (fun _ _ _ _ _ _ us ws hu hw => match us, hu, ws, hw with | [_, _], _, [], _ => rfl) .nil)
theorem bd_l_core : Bd (Str.ofString "_law_core") (Str.ofString "_law_core") st_l_core A_l_core 1 [(1, [], [0])] := (.cons rfl (fun _ _ _ _ _ _ us ws hu hw => match us, hu, ws, hw with | [_], _, [], _ => rfl) .nil)
theorem bd_l_kind : Bd (Str.ofString "_law_kind") (Str.ofString "_law_kind") st_l_kind A_l_kind 1 [(1, [], [0])] := (.cons rfl (fun _ _ _ _ _ _ us ws hu hw => match us, hu, ws, hw with | [_], _, [], _ => rfl) .nil)
theorem bd_l_weights : Bd (Str.ofString "_law_weights") (Str.ofString "_law_weights") st_l_weights A_l_weights 3 [(3, [], [0, 1, 2])] := (.cons rfl (fun _ _ _ _ _ _ us ws hu hw => match us, hu, ws, hw with | [_, _, _], _, [], _ => rfl) .nil)
theorem bd_l_can : Bd (Str.ofString "_law_can") (Str.ofString "_law_can") st_l_can A_l_can 1 [(1, [], [0])] := (.cons rfl (fun _ _ _ _ _ _ us ws hu hw => match us, hu, ws, hw with | [_], _, [], _ => rfl) .nil)
theorem bd_l_bent : Bd (Str.ofString "_law_bent") (Str.ofString "_law_bent") st_l_bent A_l_bent 2 [(2, [], [0, 1])] := (.cons rfl (fun _ _ _ _ _ _ us ws hu hw => match us, hu, ws, hw with | [_, _], _, [], _ => rfl) .nil)
theorem bd_l_right_k29 : Bd (Str.ofString "_law_right") (Str.ofString "_law_right") st_l_right_k29 A_l_right_k29 1 [(1, [], [0])] := (.cons rfl (fun _ _ _ _ _ _ us ws hu hw => match us, hu, ws, hw with | [_], _, [], _ => rfl) .nil)
theorem mk {l : PySem.W.OpenLaw} {w : World} {K : PySem.W.Frag} {h : Heap} {mg : Str → Option Value} {fa ad0 ad1 ad2 ad3 ad4 ad5 ad6 ad7 ad8 ad9 ad10 ad11 ad12 ad13 ad14 ad15 ad16 ad17 ad18 ad19 ad20 ad21 ad22 ad23 ad24 ad25 ad26 ad27 ad28 ad29 ad30 ad31 ad32 ad33 ad34 ad35 ad36 ad37 ad38 ad39 ad40 ad41 C0 pp19 : Addr} {d0 d1 d2 d3 d4 d5 d6 d7 d8 d9 d10 d11 d12 d13 d14 d15 d16 d17 d18 d19 d20 d21 d22 d23 d24 d25 d26 d27 d28 d29 d30 d31 d32 d33 d34 d35 d36 d37 d38 d39 d40 d41 : FuncData} {t0 t1 t2 : Tok} {rr19 : List Value}
    (X : K.In h) (G : h.Ns mainGlobals mg) (hfa : mg "law" = some (.ref fa))
    (cA0 : PySem.W.nsIn K mainGlobals (Str.ofString "Form") = some (some (.ref C0)))
    (cB0 : PySem.W.plainGet K C0 Str.empty = true)
    (cC0 : PySem.W.hasDictIn K C0 = true)
    (cD0 : PySem.W.plainOver K C0 = true)
    (cE0 : PySem.W.findIn K (.ref C0) "__setattr__" = some (some (.builtin "object.__setattr__")))
    (cN0_0 : PySem.W.findIn K (.ref C0) (Str.ofString "row") = some none)
    (cN0_1 : PySem.W.findIn K (.ref C0) (Str.ofString "told") = some none)
    (cN0_2 : PySem.W.findIn K (.ref C0) (Str.ofString "places") = some none)
    (cN0_3 : PySem.W.findIn K (.ref C0) (Str.ofString "minus") = some none)
    (cF0 : PySem.W.keepIn K (.ref C0) = true)
    (cM0 : PySem.W.makesIn K C0 = true)
    (a0 : PySem.W.nsIn K mainGlobals (Str.ofString "is_integer") = some (some (.ref ad0)))
    (F0 : Fun K (Str.ofString "is_integer") (Str.ofString "is_integer") st_p_is_integer ad0 d0)
    (a1 : PySem.W.nsIn K mainGlobals (Str.ofString "is_between") = some (some (.ref ad1)))
    (F1 : Fun K (Str.ofString "is_between") (Str.ofString "is_between") st_p_is_between ad1 d1)
    (a2 : PySem.W.nsIn K mainGlobals (Str.ofString "is_number") = some (some (.ref ad2)))
    (F2 : Fun K (Str.ofString "is_number") (Str.ofString "is_number") st_p_is_number ad2 d2)
    (a3 : PySem.W.nsIn K mainGlobals (Str.ofString "divisors_of") = some (some (.ref ad3)))
    (F3 : Fun K (Str.ofString "divisors_of") (Str.ofString "divisors_of") st_p_divisors_of ad3 d3)
    (a4 : PySem.W.nsIn K mainGlobals (Str.ofString "is_prime") = some (some (.ref ad4)))
    (F4 : Fun K (Str.ofString "is_prime") (Str.ofString "is_prime") st_p_is_prime ad4 d4)
    (a5 : PySem.W.nsIn K mainGlobals (Str.ofString "split_at") = some (some (.ref ad5)))
    (F5 : Fun K (Str.ofString "split_at") (Str.ofString "split_at") st_p_split_at ad5 d5)
    (a6 : PySem.W.nsIn K mainGlobals (Str.ofString "power_rest") = some (some (.ref ad6)))
    (F6 : Fun K (Str.ofString "power_rest") (Str.ofString "power_rest") st_p_power_rest ad6 d6)
    (a7 : PySem.W.nsIn K mainGlobals (Str.ofString "leaves_square") = some (some (.ref ad7)))
    (F7 : Fun K (Str.ofString "leaves_square") (Str.ofString "leaves_square") st_p_leaves_square ad7 d7)
    (a8 : PySem.W.nsIn K mainGlobals (Str.ofString "is_square_at") = some (some (.ref ad8)))
    (F8 : Fun K (Str.ofString "is_square_at") (Str.ofString "is_square_at") st_p_is_square_at ad8 d8)
    (a9 : PySem.W.nsIn K mainGlobals (Str.ofString "sign_at_two") = some (some (.ref ad9)))
    (F9 : Fun K (Str.ofString "sign_at_two") (Str.ofString "sign_at_two") st_p_sign_at_two ad9 d9)
    (a10 : PySem.W.nsIn K mainGlobals (Str.ofString "sign_at_odd") = some (some (.ref ad10)))
    (F10 : Fun K (Str.ofString "sign_at_odd") (Str.ofString "sign_at_odd") st_p_sign_at_odd ad10 d10)
    (a11 : PySem.W.nsIn K mainGlobals (Str.ofString "is_odd_at") = some (some (.ref ad11)))
    (F11 : Fun K (Str.ofString "is_odd_at") (Str.ofString "is_odd_at") st_p_is_odd_at ad11 d11)
    (a12 : PySem.W.nsIn K mainGlobals (Str.ofString "places_for") = some (some (.ref ad12)))
    (F12 : Fun K (Str.ofString "places_for") (Str.ofString "places_for") st_p_places_for ad12 d12)
    (a13 : PySem.W.nsIn K mainGlobals (Str.ofString "product_of") = some (some (.ref ad13)))
    (F13 : Fun K (Str.ofString "product_of") (Str.ofString "product_of") st_p_product_of ad13 d13)
    (a14 : PySem.W.nsIn K mainGlobals (Str.ofString "core_of") = some (some (.ref ad14)))
    (F14 : Fun K (Str.ofString "core_of") (Str.ofString "core_of") st_p_core_of ad14 d14)
    (a15 : PySem.W.nsIn K mainGlobals (Str.ofString "is_odd_form") = some (some (.ref ad15)))
    (F15 : Fun K (Str.ofString "is_odd_form") (Str.ofString "is_odd_form") st_p_is_odd_form ad15 d15)
    (a16 : PySem.W.nsIn K mainGlobals (Str.ofString "kind_of") = some (some (.ref ad16)))
    (F16 : Fun K (Str.ofString "kind_of") (Str.ofString "kind_of") st_p_kind_of ad16 d16)
    (a17 : PySem.W.nsIn K mainGlobals (Str.ofString "weights_until") = some (some (.ref ad17)))
    (F17 : Fun K (Str.ofString "weights_until") (Str.ofString "weights_until") st_p_weights_until ad17 d17)
    (a18 : PySem.W.findIn K (.ref C0) (Str.ofString "__init__") = some (some (.ref ad18)))
    (i18 : PySem.W.isFn K (.ref ad18) = true)
    (F18 : Fun K (Str.ofString "__init__") (Str.ofString "Form.__init__") st_p_Form_init ad18 d18)
    (a19 : PySem.W.findIn K (.ref C0) (Str.ofString "kind") = some (some (.ref pp19)))
    (g1_19 : PySem.W.specialIn K (.ref pp19) "__get__" = some (some (.builtin "property.__get__")))
    (g2_19 : PySem.W.takesIn K (.ref pp19) = some true)
    (g3_19 : PySem.W.recIn K pp19 "property" = some (.ref ad19 :: rr19))
    (F19 : Fun K (Str.ofString "kind") (Str.ofString "Form.kind") st_p_Form_kind ad19 d19)
    (a20 : PySem.W.nsIn K mainGlobals (Str.ofString "is_free") = some (some (.ref ad20)))
    (F20 : Fun K (Str.ofString "is_free") (Str.ofString "is_free") st_p_is_free ad20 d20)
    (a21 : PySem.W.nsIn K mainGlobals (Str.ofString "are_primes") = some (some (.ref ad21)))
    (F21 : Fun K (Str.ofString "are_primes") (Str.ofString "are_primes") st_p_are_primes ad21 d21)
    (a22 : PySem.W.nsIn K mainGlobals (Str.ofString "check_kind") = some (some (.ref ad22)))
    (F22 : Fun K (Str.ofString "check_kind") (Str.ofString "check_kind") st_p_check_kind ad22 d22)
    (a23 : PySem.W.nsIn K mainGlobals (Str.ofString "can_be") = some (some (.ref ad23)))
    (F23 : Fun K (Str.ofString "can_be") (Str.ofString "can_be") st_p_can_be ad23 d23)
    (a24 : PySem.W.nsIn K mainGlobals (Str.ofString "_law_jar") = some (some (.ref ad24)))
    (F24 : Fun K (Str.ofString "_law_jar") (Str.ofString "_law_jar") st_l_jar ad24 d24)
    (a25 : PySem.W.nsIn K mainGlobals (Str.ofString "_law_dip") = some (some (.ref ad25)))
    (F25 : Fun K (Str.ofString "_law_dip") (Str.ofString "_law_dip") st_l_dip ad25 d25)
    (a26 : PySem.W.nsIn K mainGlobals (Str.ofString "_law_one_of") = some (some (.ref ad26)))
    (F26 : Fun K (Str.ofString "_law_one_of") (Str.ofString "_law_one_of") st_l_one_of ad26 d26)
    (a27 : PySem.W.nsIn K mainGlobals (Str.ofString "_law_number") = some (some (.ref ad27)))
    (F27 : Fun K (Str.ofString "_law_number") (Str.ofString "_law_number") st_l_number ad27 d27)
    (a28 : PySem.W.nsIn K mainGlobals (Str.ofString "_law_primes_of") = some (some (.ref ad28)))
    (F28 : Fun K (Str.ofString "_law_primes_of") (Str.ofString "_law_primes_of") st_l_primes_of ad28 d28)
    (a29 : PySem.W.nsIn K mainGlobals (Str.ofString "_law_split") = some (some (.ref ad29)))
    (F29 : Fun K (Str.ofString "_law_split") (Str.ofString "_law_split") st_l_split ad29 d29)
    (a30 : PySem.W.nsIn K mainGlobals (Str.ofString "_law_is_rest") = some (some (.ref ad30)))
    (F30 : Fun K (Str.ofString "_law_is_rest") (Str.ofString "_law_is_rest") st_l_is_rest ad30 d30)
    (a31 : PySem.W.nsIn K mainGlobals (Str.ofString "_law_is_square") = some (some (.ref ad31)))
    (F31 : Fun K (Str.ofString "_law_is_square") (Str.ofString "_law_is_square") st_l_is_square ad31 d31)
    (a32 : PySem.W.nsIn K mainGlobals (Str.ofString "_law_sign") = some (some (.ref ad32)))
    (F32 : Fun K (Str.ofString "_law_sign") (Str.ofString "_law_sign") st_l_sign ad32 d32)
    (a33 : PySem.W.nsIn K mainGlobals (Str.ofString "_law_places") = some (some (.ref ad33)))
    (F33 : Fun K (Str.ofString "_law_places") (Str.ofString "_law_places") st_l_places ad33 d33)
    (a34 : PySem.W.nsIn K mainGlobals (Str.ofString "_law_form_sign") = some (some (.ref ad34)))
    (F34 : Fun K (Str.ofString "_law_form_sign") (Str.ofString "_law_form_sign") st_l_form_sign ad34 d34)
    (a35 : PySem.W.nsIn K mainGlobals (Str.ofString "_law_core") = some (some (.ref ad35)))
    (F35 : Fun K (Str.ofString "_law_core") (Str.ofString "_law_core") st_l_core ad35 d35)
    (a36 : PySem.W.nsIn K mainGlobals (Str.ofString "_law_kind") = some (some (.ref ad36)))
    (F36 : Fun K (Str.ofString "_law_kind") (Str.ofString "_law_kind") st_l_kind ad36 d36)
    (a37 : PySem.W.nsIn K mainGlobals (Str.ofString "_law_weights") = some (some (.ref ad37)))
    (F37 : Fun K (Str.ofString "_law_weights") (Str.ofString "_law_weights") st_l_weights ad37 d37)
    (a38 : PySem.W.nsIn K mainGlobals (Str.ofString "_law_can") = some (some (.ref ad38)))
    (F38 : Fun K (Str.ofString "_law_can") (Str.ofString "_law_can") st_l_can ad38 d38)
    (a39 : PySem.W.nsIn K mainGlobals (Str.ofString "_law_bent") = some (some (.ref ad39)))
    (F39 : Fun K (Str.ofString "_law_bent") (Str.ofString "_law_bent") st_l_bent ad39 d39)
    (a40 : PySem.W.nsIn K mainGlobals (Str.ofString "_law_right") = some (some (.ref ad40)))
    (F40 : Fun K (Str.ofString "_law_right") (Str.ofString "_law_right") st_l_right_k29 ad40 d40)
    (a41 : PySem.W.nsIn K mainGlobals (Str.ofString "law") = some (some (.ref ad41)))
    (F41 : Fun K (Str.ofString "law") (Str.ofString "law") st_law_k29 ad41 d41)
    (z0 : PySem.W.nsIn K mainGlobals (Str.ofString "abs") = some none)
    (z1 : PySem.W.nsIn K mainGlobals (Str.ofString "int") = some none)
    (z2 : PySem.W.nsIn K mainGlobals (Str.ofString "len") = some none)
    (z3 : PySem.W.nsIn K mainGlobals (Str.ofString "divmod") = some none)
    (z4 : PySem.W.nsIn K mainGlobals (Str.ofString "max") = some none)
    (z5 : PySem.W.nsIn K mainGlobals (Str.ofString "min") = some none)
    (z6 : PySem.W.nsIn K mainGlobals (Str.ofString "sorted") = some none)
    (z7 : PySem.W.nsIn K mainGlobals (Str.ofString "list") = some none)
    (z8 : PySem.W.nsIn K mainGlobals (Str.ofString "tuple") = some none)
    (z9 : PySem.W.nsIn K mainGlobals (Str.ofString "all") = some none)
    (z10 : PySem.W.nsIn K mainGlobals (Str.ofString "any") = some none)
    (z11 : PySem.W.nsIn K mainGlobals (Str.ofString "sum") = some none)
    (z12 : PySem.W.nsIn K mainGlobals (Str.ofString "repr") = some none)
    (z13 : PySem.W.nsIn K mainGlobals (Str.ofString "isinstance") = some none)
    (z14 : PySem.W.nsIn K mainGlobals (Str.ofString "set") = some none)
    (z15 : PySem.W.nsIn K mainGlobals (Str.ofString "range") = some none)
    (z16 : PySem.W.nsIn K mainGlobals (Str.ofString "enumerate") = some none)
    (z17 : PySem.W.nsIn K mainGlobals (Str.ofString "bool") = some none)
    (z18 : PySem.W.nsIn K mainGlobals (Str.ofString "str") = some none)
    (z19 : PySem.W.nsIn K mainGlobals (Str.ofString "dict") = some none)
    (z20 : PySem.W.nsIn K mainGlobals (Str.ofString "zip") = some none)
    (g0 : PySem.W.nsIn K mainGlobals (Str.ofString "MOST_WEIGHT") = some (some (.int 1000000 t0)))
    (g1 : PySem.W.nsIn K mainGlobals (Str.ofString "REAL") = some (some (.str (Str.ofString "real") t1)))
    (g2 : PySem.W.nsIn K mainGlobals (Str.ofString "MOST_WEIGHTS") = some (some (.int 6 t2)))
    : ∃ fd : FuncData, (∀ (s : Shared) (u : Value), BindsTo s fd ⟨[u], []⟩ [((Str.ofString "_law_cells"), u)]) ∧ ∀ base : Heap, K.In base → base.Ns mainGlobals mg → FnG l.prog w K mg base 48 fa fd [(Str.ofString "_law_cells")] fLaw := by
  have tp : Top gvD K mg gvN clN := by
    refine ⟨fun x as hx => ?_, fun x hx => ?_, fun j x d h1 h2 => ?_⟩
    · simp only [clN, List.lookup_cons, List.lookup_nil] at hx
      split at hx
      · rename_i e; cases eq_of_beq e; cases hx
        refine ⟨_, PySem.W.mg_of X G cA0, ⟨cB0, cC0, cD0, cE0⟩, fun f hf => ?_, fun z => absurd z (by decide +kernel)⟩
        · simp only [List.mem_cons, List.not_mem_nil, or_false] at hf
          rcases hf with rfl | rfl | rfl | rfl
          · exact cN0_0
          · exact cN0_1
          · exact cN0_2
          · exact cN0_3
      · cases hx
    · simp only [bltN, List.mem_cons, List.not_mem_nil, or_false] at hx
      rcases hx with rfl | rfl | rfl | rfl | rfl | rfl | rfl | rfl | rfl | rfl | rfl | rfl | rfl | rfl | rfl | rfl | rfl | rfl | rfl | rfl | rfl
      · exact PySem.W.mg_none_of X G z0
      · exact PySem.W.mg_none_of X G z1
      · exact PySem.W.mg_none_of X G z2
      · exact PySem.W.mg_none_of X G z3
      · exact PySem.W.mg_none_of X G z4
      · exact PySem.W.mg_none_of X G z5
      · exact PySem.W.mg_none_of X G z6
      · exact PySem.W.mg_none_of X G z7
      · exact PySem.W.mg_none_of X G z8
      · exact PySem.W.mg_none_of X G z9
      · exact PySem.W.mg_none_of X G z10
      · exact PySem.W.mg_none_of X G z11
      · exact PySem.W.mg_none_of X G z12
      · exact PySem.W.mg_none_of X G z13
      · exact PySem.W.mg_none_of X G z14
      · exact PySem.W.mg_none_of X G z15
      · exact PySem.W.mg_none_of X G z16
      · exact PySem.W.mg_none_of X G z17
      · exact PySem.W.mg_none_of X G z18
      · exact PySem.W.mg_none_of X G z19
      · exact PySem.W.mg_none_of X G z20
    · simp only [gvN, List.lookup_cons, List.lookup_nil] at h1
      split at h1
      · rename_i e; cases eq_of_beq e; cases h1; cases h2; exact ⟨_, KD.v (.int 1000000), PySem.W.mg_of X G g0, ⟨_, rfl⟩, fun _ _ => KD.rp (.int 1000000)⟩
      split at h1
      · rename_i e; cases eq_of_beq e; cases h1; cases h2; exact ⟨_, KD.v (.str (Str.ofString "real")), PySem.W.mg_of X G g1, ⟨_, rfl⟩, fun _ _ => KD.rp (.str (Str.ofString "real"))⟩
      split at h1
      · rename_i e; cases eq_of_beq e; cases h1; cases h2; exact ⟨_, KD.v (.int 6), PySem.W.mg_of X G g2, ⟨_, rfl⟩, fun _ _ => KD.rp (.int 6)⟩
      · cases h1
  refine Tab.law (Φ := Ph41) (Γ := gvD) (b := b_law_k29) (st := st_law_k29) (N := N_law_k29) (gv := gvN) (cl := clN) (fs := tb41) (ms := tm41) (k := 47) (fun base _ _ => ?_) tp F41 (PySem.W.mg_of X G a41) hfa sc_law_k29 ck_law_k29 rr_law_k29 (fun _ _ _ _ _ _ _ => rfl)
  have T0 : Tab Ph0 l.prog w K mg base 0 tb0 tm0 := Tab.nil
  have T1 : Tab Ph1 l.prog w K mg base 1 tb1 tm1 := T0.next (f1 g_is_integer) (i := 0) tp F0 (PySem.W.mg_of X G a0) rfl (by decide +kernel) (by decide +kernel) sc_p_is_integer ck_p_is_integer rr_p_is_integer bd_p_is_integer
  have T2 : Tab Ph2 l.prog w K mg base 2 tb2 tm2 := T1.next (f3 g_is_between) (i := 1) tp F1 (PySem.W.mg_of X G a1) rfl (by decide +kernel) (by decide +kernel) sc_p_is_between ck_p_is_between rr_p_is_between bd_p_is_between
  have T3 : Tab Ph3 l.prog w K mg base 3 tb3 tm3 := T2.next (f2 g_is_number) (i := 3) tp F2 (PySem.W.mg_of X G a2) rfl (by decide +kernel) (by decide +kernel) sc_p_is_number ck_p_is_number rr_p_is_number bd_p_is_number
  have T4 : Tab Ph4 l.prog w K mg base 4 tb4 tm4 := T3.next (f1 g_divisors) (i := 4) tp F3 (PySem.W.mg_of X G a3) rfl (by decide +kernel) (by decide +kernel) sc_p_divisors_of ck_p_divisors_of rr_p_divisors_of bd_p_divisors_of
  have T5 : Tab Ph5 l.prog w K mg base 5 tb5 tm5 := T4.next (f1 g_is_prime) (i := 5) tp F4 (PySem.W.mg_of X G a4) rfl (by decide +kernel) (by decide +kernel) sc_p_is_prime ck_p_is_prime rr_p_is_prime bd_p_is_prime
  have T6 : Tab Ph6 l.prog w K mg base 6 tb6 tm6 := T5.next (f2 g_split) (i := 10) tp F5 (PySem.W.mg_of X G a5) rfl (by decide +kernel) (by decide +kernel) sc_p_split_at ck_p_split_at rr_p_split_at bd_p_split_at
  have T7 : Tab Ph7 l.prog w K mg base 7 tb7 tm7 := T6.next (f3 g_power_rest) (i := 11) tp F6 (PySem.W.mg_of X G a6) rfl (by decide +kernel) (by decide +kernel) sc_p_power_rest ck_p_power_rest rr_p_power_rest bd_p_power_rest
  have T8 : Tab Ph8 l.prog w K mg base 8 tb8 tm8 := T7.next (f2 g_leaves) (i := 12) tp F7 (PySem.W.mg_of X G a7) rfl (by decide +kernel) (by decide +kernel) sc_p_leaves_square ck_p_leaves_square rr_p_leaves_square bd_p_leaves_square
  have T9 : Tab Ph9 l.prog w K mg base 9 tb9 tm9 := T8.next (f2 g_sq_at) (i := 13) tp F8 (PySem.W.mg_of X G a8) rfl (by decide +kernel) (by decide +kernel) sc_p_is_square_at ck_p_is_square_at rr_p_is_square_at bd_p_is_square_at
  have T10 : Tab Ph10 l.prog w K mg base 10 tb10 tm10 := T9.next (f2 g_two) (i := 14) tp F9 (PySem.W.mg_of X G a9) rfl (by decide +kernel) (by decide +kernel) sc_p_sign_at_two ck_p_sign_at_two rr_p_sign_at_two bd_p_sign_at_two
  have T11 : Tab Ph11 l.prog w K mg base 11 tb11 tm11 := T10.next (f3 g_odd) (i := 15) tp F10 (PySem.W.mg_of X G a10) rfl (by decide +kernel) (by decide +kernel) sc_p_sign_at_odd ck_p_sign_at_odd rr_p_sign_at_odd bd_p_sign_at_odd
  have T12 : Tab Ph12 l.prog w K mg base 12 tb12 tm12 := T11.next (f3 g_odd_at) (i := 16) tp F11 (PySem.W.mg_of X G a11) rfl (by decide +kernel) (by decide +kernel) sc_p_is_odd_at ck_p_is_odd_at rr_p_is_odd_at bd_p_is_odd_at
  have T13 : Tab Ph13 l.prog w K mg base 13 tb13 tm13 := T12.next (f1 g_placesL) (i := 17) tp F12 (PySem.W.mg_of X G a12) rfl (by decide +kernel) (by decide +kernel) sc_p_places_for ck_p_places_for rr_p_places_for bd_p_places_for
  have T14 : Tab Ph14 l.prog w K mg base 14 tb14 tm14 := T13.next (runF (b_p_product_of.ev Ph13 gvD) N_p_product_of.length) (i := 36) tp F13 (PySem.W.mg_of X G a13) rfl (by decide +kernel) (by decide +kernel) sc_p_product_of ck_p_product_of (fun _ _ => rfl) bd_p_product_of
  have T15 : Tab Ph15 l.prog w K mg base 15 tb15 tm15 := T14.next (runF (b_p_core_of.ev Ph14 gvD) N_p_core_of.length) (i := 37) tp F14 (PySem.W.mg_of X G a14) rfl (by decide +kernel) (by decide +kernel) sc_p_core_of ck_p_core_of (fun _ _ => rfl) bd_p_core_of
  have T16 : Tab Ph16 l.prog w K mg base 16 tb16 tm16 := T15.next (runF (b_p_is_odd_form.ev Ph15 gvD) N_p_is_odd_form.length) (i := 38) tp F15 (PySem.W.mg_of X G a15) rfl (by decide +kernel) (by decide +kernel) sc_p_is_odd_form ck_p_is_odd_form (fun _ _ => rfl) bd_p_is_odd_form
  have T17 : Tab Ph17 l.prog w K mg base 17 tb17 tm17 := T16.next (runF (b_p_kind_of.ev Ph16 gvD) N_p_kind_of.length) (i := 39) tp F16 (PySem.W.mg_of X G a16) rfl (by decide +kernel) (by decide +kernel) sc_p_kind_of ck_p_kind_of (fun _ _ => rfl) bd_p_kind_of
  have T18 : Tab Ph18 l.prog w K mg base 18 tb18 tm18 := T17.next (runF (b_p_weights_until.ev Ph17 gvD) N_p_weights_until.length) (i := 40) tp F17 (PySem.W.mg_of X G a17) rfl (by decide +kernel) (by decide +kernel) sc_p_weights_until ck_p_weights_until (fun _ _ => rfl) bd_p_weights_until
  have T19 : Tab Ph19 l.prog w K mg base 22 tb19 tm19 := T18.nextM (runF (b_p_Form_init.ev Ph18 gvD) N_p_Form_init.length) (i := 41) (kd := .init) (x := (Str.ofString "Form")) tp F18 (PySem.W.mg_of X G cA0) ⟨cB0, cC0, cD0, cE0⟩ ⟨cM0, a18, i18, cF0⟩ rfl (by decide +kernel) (by decide +kernel) sc_p_Form_init ck_p_Form_init (fun _ _ => rfl) bd_p_Form_init
  have T20 : Tab Ph20 l.prog w K mg base 26 tb20 tm20 := T19.nextM (runF (b_p_Form_kind.ev Ph19 gvD) N_p_Form_kind.length) (i := 42) (kd := .prop) (x := (Str.ofString "Form")) tp F19 (PySem.W.mg_of X G cA0) ⟨cB0, cC0, cD0, cE0⟩ ⟨pp19, ⟨a19, g1_19, g2_19, ⟨_, g3_19⟩⟩⟩ rfl (by decide +kernel) (by decide +kernel) sc_p_Form_kind ck_p_Form_kind (fun _ _ => rfl) bd_p_Form_kind
  have T21 : Tab Ph21 l.prog w K mg base 27 tb21 tm21 := T20.next (runF (b_p_is_free.ev Ph20 gvD) N_p_is_free.length) (i := 43) tp F20 (PySem.W.mg_of X G a20) rfl (by decide +kernel) (by decide +kernel) sc_p_is_free ck_p_is_free (fun _ _ => rfl) bd_p_is_free
  have T22 : Tab Ph22 l.prog w K mg base 28 tb22 tm22 := T21.next (runF (b_p_are_primes.ev Ph21 gvD) N_p_are_primes.length) (i := 44) tp F21 (PySem.W.mg_of X G a21) rfl (by decide +kernel) (by decide +kernel) sc_p_are_primes ck_p_are_primes (fun _ _ => rfl) bd_p_are_primes
  have T23 : Tab Ph23 l.prog w K mg base 29 tb23 tm23 := T22.next (runF (b_p_check_kind.ev Ph22 gvD) N_p_check_kind.length) (i := 45) tp F22 (PySem.W.mg_of X G a22) rfl (by decide +kernel) (by decide +kernel) sc_p_check_kind ck_p_check_kind (fun _ _ => rfl) bd_p_check_kind
  have T24 : Tab Ph24 l.prog w K mg base 30 tb24 tm24 := T23.next (runF (b_p_can_be.ev Ph23 gvD) N_p_can_be.length) (i := 46) tp F23 (PySem.W.mg_of X G a23) rfl (by decide +kernel) (by decide +kernel) sc_p_can_be ck_p_can_be (fun _ _ => rfl) bd_p_can_be
  have T25 : Tab Ph25 l.prog w K mg base 31 tb25 tm25 := T24.next (f2 g_jar) (i := 31) tp F24 (PySem.W.mg_of X G a24) rfl (by decide +kernel) (by decide +kernel) sc_l_jar ck_l_jar rr_l_jar bd_l_jar
  have T26 : Tab Ph26 l.prog w K mg base 32 tb26 tm26 := T25.next (fJ2 g_dip) (i := 22) tp F25 (PySem.W.mg_of X G a25) rfl (by decide +kernel) (by decide +kernel) sc_l_dip ck_l_dip rr_l_dip bd_l_dip
  have T27 : Tab Ph27 l.prog w K mg base 33 tb27 tm27 := T26.next (fJ2 g_one) (i := 23) tp F26 (PySem.W.mg_of X G a26) rfl (by decide +kernel) (by decide +kernel) sc_l_one_of ck_l_one_of rr_l_one_of bd_l_one_of
  have T28 : Tab Ph28 l.prog w K mg base 34 tb28 tm28 := T27.next (fJ2 g_num) (i := 24) tp F27 (PySem.W.mg_of X G a27) rfl (by decide +kernel) (by decide +kernel) sc_l_number ck_l_number rr_l_number bd_l_number
  have T29 : Tab Ph29 l.prog w K mg base 35 tb29 tm29 := T28.next (f1 g_lprimes) (i := 25) tp F28 (PySem.W.mg_of X G a28) rfl (by decide +kernel) (by decide +kernel) sc_l_primes_of ck_l_primes_of rr_l_primes_of bd_l_primes_of
  have T30 : Tab Ph30 l.prog w K mg base 36 tb30 tm30 := T29.next (f2 g_split) (i := 27) tp F29 (PySem.W.mg_of X G a29) rfl (by decide +kernel) (by decide +kernel) sc_l_split ck_l_split rr_l_split bd_l_split
  have T31 : Tab Ph31 l.prog w K mg base 37 tb31 tm31 := T30.next (f2 g_leaves) (i := 28) tp F30 (PySem.W.mg_of X G a30) rfl (by decide +kernel) (by decide +kernel) sc_l_is_rest ck_l_is_rest rr_l_is_rest bd_l_is_rest
  have T32 : Tab Ph32 l.prog w K mg base 38 tb32 tm32 := T31.next (f2 g_sq_at) (i := 30) tp F31 (PySem.W.mg_of X G a31) rfl (by decide +kernel) (by decide +kernel) sc_l_is_square ck_l_is_square rr_l_is_square bd_l_is_square
  have T33 : Tab Ph33 l.prog w K mg base 39 tb33 tm33 := T32.next (f3 g_lsign) (i := 29) tp F32 (PySem.W.mg_of X G a32) rfl (by decide +kernel) (by decide +kernel) sc_l_sign ck_l_sign rr_l_sign bd_l_sign
  have T34 : Tab Ph34 l.prog w K mg base 40 tb34 tm34 := T33.next (f1 g_lplaces) (i := 26) tp F33 (PySem.W.mg_of X G a33) rfl (by decide +kernel) (by decide +kernel) sc_l_places ck_l_places rr_l_places bd_l_places
  have T35 : Tab Ph35 l.prog w K mg base 41 tb35 tm35 := T34.next (runF (b_l_form_sign.ev Ph34 gvD) N_l_form_sign.length) (i := 47) tp F34 (PySem.W.mg_of X G a34) rfl (by decide +kernel) (by decide +kernel) sc_l_form_sign ck_l_form_sign (fun _ _ => rfl) bd_l_form_sign
  have T36 : Tab Ph36 l.prog w K mg base 42 tb36 tm36 := T35.next (runF (b_l_core.ev Ph35 gvD) N_l_core.length) (i := 48) tp F35 (PySem.W.mg_of X G a35) rfl (by decide +kernel) (by decide +kernel) sc_l_core ck_l_core (fun _ _ => rfl) bd_l_core
  have T37 : Tab Ph37 l.prog w K mg base 43 tb37 tm37 := T36.next (runF (b_l_kind.ev Ph36 gvD) N_l_kind.length) (i := 49) tp F36 (PySem.W.mg_of X G a36) rfl (by decide +kernel) (by decide +kernel) sc_l_kind ck_l_kind (fun _ _ => rfl) bd_l_kind
  have T38 : Tab Ph38 l.prog w K mg base 44 tb38 tm38 := T37.next (runF (b_l_weights.ev Ph37 gvD) N_l_weights.length) (i := 50) tp F37 (PySem.W.mg_of X G a37) rfl (by decide +kernel) (by decide +kernel) sc_l_weights ck_l_weights (fun _ _ => rfl) bd_l_weights
  have T39 : Tab Ph39 l.prog w K mg base 45 tb39 tm39 := T38.next (runF (b_l_can.ev Ph38 gvD) N_l_can.length) (i := 51) tp F38 (PySem.W.mg_of X G a38) rfl (by decide +kernel) (by decide +kernel) sc_l_can ck_l_can (fun _ _ => rfl) bd_l_can
  have T40 : Tab Ph40 l.prog w K mg base 46 tb40 tm40 := T39.next (runF (b_l_bent.ev Ph39 gvD) N_l_bent.length) (i := 52) tp F39 (PySem.W.mg_of X G a39) rfl (by decide +kernel) (by decide +kernel) sc_l_bent ck_l_bent (fun _ _ => rfl) bd_l_bent
  have T41 : Tab Ph41 l.prog w K mg base 47 tb41 tm41 := T40.next (runF (b_l_right_k29.ev Ph40 gvD) N_l_right_k29.length) (i := 53) tp F40 (PySem.W.mg_of X G a40) rfl (by decide +kernel) (by decide +kernel) sc_l_right_k29 ck_l_right_k29 (fun _ _ => rfl) bd_l_right_k29
  exact T41
end K29
open PySem PySem.W PyProof.Rows PG in
set_option maxRecDepth 100000 in
set_option maxHeartbeats 0 in
theorem PySem.Challenge.cw_placeforms_k29_whole_kinds_that_can_be_holds : PySem.Challenge.rw_placeforms_k29_whole_kinds_that_can_be.Holds := by
  w_on; o_law; k_head; (case hw => w_witness2)
  k_fill
  refine M.walk_by (l := PySem.Challenge.rw_placeforms_k29_whole_kinds_that_can_be) (n := 63) (k := 48) (x := PySem.Str.ofString "_law_cells") (F := fLaw) rfl (by decide) rfl ⟨rfl, by decide, by decide⟩ (fun w h Y => PySem.W.kIn_of Y) ?F law_keeps
  case F =>
    intro w mg fa h KX G hmg
    refine' K29.mk KX G hmg ?qcA0 ?qcB0 ?qcC0 ?qcD0 ?qcE0 ?qcN0_0 ?qcN0_1 ?qcN0_2 ?qcN0_3 ?qcF0 ?qcM0 ?qa0 (L2.fun_mk ?lF0 ?cF0 ?kF0) ?qa1 (L2.fun_mk ?lF1 ?cF1 ?kF1) ?qa2 (L2.fun_mk ?lF2 ?cF2 ?kF2) ?qa3 (L2.fun_mk ?lF3 ?cF3 ?kF3) ?qa4 (L2.fun_mk ?lF4 ?cF4 ?kF4) ?qa5 (L2.fun_mk ?lF5 ?cF5 ?kF5) ?qa6 (L2.fun_mk ?lF6 ?cF6 ?kF6) ?qa7 (L2.fun_mk ?lF7 ?cF7 ?kF7) ?qa8 (L2.fun_mk ?lF8 ?cF8 ?kF8) ?qa9 (L2.fun_mk ?lF9 ?cF9 ?kF9) ?qa10 (L2.fun_mk ?lF10 ?cF10 ?kF10) ?qa11 (L2.fun_mk ?lF11 ?cF11 ?kF11) ?qa12 (L2.fun_mk ?lF12 ?cF12 ?kF12) ?qa13 (L2.fun_mk ?lF13 ?cF13 ?kF13) ?qa14 (L2.fun_mk ?lF14 ?cF14 ?kF14) ?qa15 (L2.fun_mk ?lF15 ?cF15 ?kF15) ?qa16 (L2.fun_mk ?lF16 ?cF16 ?kF16) ?qa17 (L2.fun_mk ?lF17 ?cF17 ?kF17) ?qa18 ?qi18 (L2.fun_mk ?lF18 ?cF18 ?kF18) ?qa19 ?qg1_19 ?qg2_19 ?qg3_19 (L2.fun_mk ?lF19 ?cF19 ?kF19) ?qa20 (L2.fun_mk ?lF20 ?cF20 ?kF20) ?qa21 (L2.fun_mk ?lF21 ?cF21 ?kF21) ?qa22 (L2.fun_mk ?lF22 ?cF22 ?kF22) ?qa23 (L2.fun_mk ?lF23 ?cF23 ?kF23) ?qa24 (L2.fun_mk ?lF24 ?cF24 ?kF24) ?qa25 (L2.fun_mk ?lF25 ?cF25 ?kF25) ?qa26 (L2.fun_mk ?lF26 ?cF26 ?kF26) ?qa27 (L2.fun_mk ?lF27 ?cF27 ?kF27) ?qa28 (L2.fun_mk ?lF28 ?cF28 ?kF28) ?qa29 (L2.fun_mk ?lF29 ?cF29 ?kF29) ?qa30 (L2.fun_mk ?lF30 ?cF30 ?kF30) ?qa31 (L2.fun_mk ?lF31 ?cF31 ?kF31) ?qa32 (L2.fun_mk ?lF32 ?cF32 ?kF32) ?qa33 (L2.fun_mk ?lF33 ?cF33 ?kF33) ?qa34 (L2.fun_mk ?lF34 ?cF34 ?kF34) ?qa35 (L2.fun_mk ?lF35 ?cF35 ?kF35) ?qa36 (L2.fun_mk ?lF36 ?cF36 ?kF36) ?qa37 (L2.fun_mk ?lF37 ?cF37 ?kF37) ?qa38 (L2.fun_mk ?lF38 ?cF38 ?kF38) ?qa39 (L2.fun_mk ?lF39 ?cF39 ?kF39) ?qa40 (L2.fun_mk ?lF40 ?cF40 ?kF40) ?qa41 (L2.fun_mk ?lF41 ?cF41 ?kF41) ?qz0 ?qz1 ?qz2 ?qz3 ?qz4 ?qz5 ?qz6 ?qz7 ?qz8 ?qz9 ?qz10 ?qz11 ?qz12 ?qz13 ?qz14 ?qz15 ?qz16 ?qz17 ?qz18 ?qz19 ?qz20 ?qg0 ?qg1 ?qg2
    (case qcA0 => k_is)
    (case qcB0 => k_is)
    (case qcC0 => k_is)
    (case qcD0 => k_is)
    (case qcE0 => k_is)
    (case qcN0_0 => k_is)
    (case qcN0_1 => k_is)
    (case qcN0_2 => k_is)
    (case qcN0_3 => k_is)
    (case qcF0 => k_is)
    (case qcM0 => k_is)
    (case qa0 => k_is)
    (case lF0 => k_is); (case cF0 => k_is); (case kF0 => k_is)
    (case qa1 => k_is)
    (case lF1 => k_is); (case cF1 => k_is); (case kF1 => k_is)
    (case qa2 => k_is)
    (case lF2 => k_is); (case cF2 => k_is); (case kF2 => k_is)
    (case qa3 => k_is)
    (case lF3 => k_is); (case cF3 => k_is); (case kF3 => k_is)
    (case qa4 => k_is)
    (case lF4 => k_is); (case cF4 => k_is); (case kF4 => k_is)
    (case qa5 => k_is)
    (case lF5 => k_is); (case cF5 => k_is); (case kF5 => k_is)
    (case qa6 => k_is)
    (case lF6 => k_is); (case cF6 => k_is); (case kF6 => k_is)
    (case qa7 => k_is)
    (case lF7 => k_is); (case cF7 => k_is); (case kF7 => k_is)
    (case qa8 => k_is)
    (case lF8 => k_is); (case cF8 => k_is); (case kF8 => k_is)
    (case qa9 => k_is)
    (case lF9 => k_is); (case cF9 => k_is); (case kF9 => k_is)
    (case qa10 => k_is)
    (case lF10 => k_is); (case cF10 => k_is); (case kF10 => k_is)
    (case qa11 => k_is)
    (case lF11 => k_is); (case cF11 => k_is); (case kF11 => k_is)
    (case qa12 => k_is)
    (case lF12 => k_is); (case cF12 => k_is); (case kF12 => k_is)
    (case qa13 => k_is)
    (case lF13 => k_is); (case cF13 => k_is); (case kF13 => k_is)
    (case qa14 => k_is)
    (case lF14 => k_is); (case cF14 => k_is); (case kF14 => k_is)
    (case qa15 => k_is)
    (case lF15 => k_is); (case cF15 => k_is); (case kF15 => k_is)
    (case qa16 => k_is)
    (case lF16 => k_is); (case cF16 => k_is); (case kF16 => k_is)
    (case qa17 => k_is)
    (case lF17 => k_is); (case cF17 => k_is); (case kF17 => k_is)
    (case qa18 => k_is)
    (case qi18 => k_is)
    (case lF18 => k_is); (case cF18 => k_is); (case kF18 => k_is)
    (case qa19 => k_is)
    (case qg1_19 => k_is)
    (case qg2_19 => k_is)
    (case qg3_19 => k_is)
    (case lF19 => k_is); (case cF19 => k_is); (case kF19 => k_is)
    (case qa20 => k_is)
    (case lF20 => k_is); (case cF20 => k_is); (case kF20 => k_is)
    (case qa21 => k_is)
    (case lF21 => k_is); (case cF21 => k_is); (case kF21 => k_is)
    (case qa22 => k_is)
    (case lF22 => k_is); (case cF22 => k_is); (case kF22 => k_is)
    (case qa23 => k_is)
    (case lF23 => k_is); (case cF23 => k_is); (case kF23 => k_is)
    (case qa24 => k_is)
    (case lF24 => k_is); (case cF24 => k_is); (case kF24 => k_is)
    (case qa25 => k_is)
    (case lF25 => k_is); (case cF25 => k_is); (case kF25 => k_is)
    (case qa26 => k_is)
    (case lF26 => k_is); (case cF26 => k_is); (case kF26 => k_is)
    (case qa27 => k_is)
    (case lF27 => k_is); (case cF27 => k_is); (case kF27 => k_is)
    (case qa28 => k_is)
    (case lF28 => k_is); (case cF28 => k_is); (case kF28 => k_is)
    (case qa29 => k_is)
    (case lF29 => k_is); (case cF29 => k_is); (case kF29 => k_is)
    (case qa30 => k_is)
    (case lF30 => k_is); (case cF30 => k_is); (case kF30 => k_is)
    (case qa31 => k_is)
    (case lF31 => k_is); (case cF31 => k_is); (case kF31 => k_is)
    (case qa32 => k_is)
    (case lF32 => k_is); (case cF32 => k_is); (case kF32 => k_is)
    (case qa33 => k_is)
    (case lF33 => k_is); (case cF33 => k_is); (case kF33 => k_is)
    (case qa34 => k_is)
    (case lF34 => k_is); (case cF34 => k_is); (case kF34 => k_is)
    (case qa35 => k_is)
    (case lF35 => k_is); (case cF35 => k_is); (case kF35 => k_is)
    (case qa36 => k_is)
    (case lF36 => k_is); (case cF36 => k_is); (case kF36 => k_is)
    (case qa37 => k_is)
    (case lF37 => k_is); (case cF37 => k_is); (case kF37 => k_is)
    (case qa38 => k_is)
    (case lF38 => k_is); (case cF38 => k_is); (case kF38 => k_is)
    (case qa39 => k_is)
    (case lF39 => k_is); (case cF39 => k_is); (case kF39 => k_is)
    (case qa40 => k_is)
    (case lF40 => k_is); (case cF40 => k_is); (case kF40 => k_is)
    (case qa41 => k_is)
    (case lF41 => k_is); (case cF41 => k_is); (case kF41 => k_is)
    (case qz0 => k_is)
    (case qz1 => k_is)
    (case qz2 => k_is)
    (case qz3 => k_is)
    (case qz4 => k_is)
    (case qz5 => k_is)
    (case qz6 => k_is)
    (case qz7 => k_is)
    (case qz8 => k_is)
    (case qz9 => k_is)
    (case qz10 => k_is)
    (case qz11 => k_is)
    (case qz12 => k_is)
    (case qz13 => k_is)
    (case qz14 => k_is)
    (case qz15 => k_is)
    (case qz16 => k_is)
    (case qz17 => k_is)
    (case qz18 => k_is)
    (case qz19 => k_is)
    (case qz20 => k_is)
    (case qg0 => k_is)
    (case qg1 => k_is)
    (case qg2 => k_is)
