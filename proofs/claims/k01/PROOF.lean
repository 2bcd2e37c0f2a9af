import PyProof.Rows.All
import Wide.All
import OpenK.AllK
import Wide.FinOn
import HandS.ForMost
import HandS.ForExc
import HandS.Wide
import HandS.TupAny
import HandS.TupMul
import HandS.Style
import HandS.Conv
import HandS.SortInts
import HandS.More
import HandS.RaiseMore
import PySem.Challenge.RW_wearswings_k01_turning_points
set_option Elab.async false
set_option linter.all false
set_option maxRecDepth 100000
set_option maxHeartbeats 4000000
/-! PL: a def's frame as pure data over the abstract heap. -/
namespace PL
open PySem PySem.Spec PyProof.Rows L2

/-! ### pure data -/
inductive D where
  | non
  | bl (b : Bool)
  | int (i : Int)
  | str (s : Str)
  | tup (ds : List D)
  | lst (ds : List D)
  | dct (ks : List Key) (ds : List D)
  | dctT (ks : List (List Key)) (ds : List D)
  | inst (c : Str) (ns : List Str) (ds : List D)
  | fn (f : Str)
  | scr (is : List Int)

/-- an object that one slot holds alone -/
inductive O where
  | lst (ds : List D)
  | dct (ks : List Key) (ds : List D)
  | dctT (ks : List (List Key)) (ds : List D)
  | inst (c : Str) (ns : List Str) (ds : List D)

def O.toD : O → D
  | .lst ds => .lst ds
  | .dct ks ds => .dct ks ds
  | .dctT ks ds => .dctT ks ds
  | .inst c ns ds => .inst c ns ds

inductive Sl where
  | fz (d : D)
  | ow (o : O)
  | mu (o : O)

abbrev En := List (Option Sl)

structure Exn where
  cls : Str
  fld : D

inductive Res (α : Type) where
  | ok (a : α)
  | ex (x : Exn) (e : En)
  | no

def Res.bind {α β : Type} : Res α → (α → Res β) → Res β
  | .ok a, f => f a
  | .ex x e, _ => .ex x e
  | .no, _ => .no
def Res.map {α β : Type} (f : α → β) (r : Res α) : Res β := r.bind fun a => .ok (f a)
@[simp] theorem Res.bind_ok {α β : Type} (a : α) (f : α → Res β) : (Res.ok a).bind f = f a := rfl
@[simp] theorem Res.bind_ex {α β : Type} (x : Exn) (e : En) (f : α → Res β) : (Res.ex x e : Res α).bind f = .ex x e := rfl
@[simp] theorem Res.bind_no {α β : Type} (f : α → Res β) : (Res.no : Res α).bind f = .no := rfl
@[simp] theorem Res.map_ok {α β : Type} (a : α) (f : α → β) : (Res.ok a).map f = .ok (f a) := rfl
@[simp] theorem Res.map_no {α β : Type} (f : α → β) : (Res.no : Res α).map f = .no := rfl

inductive Arg where
  | val (d : D)
  | slot (j : Nat)
  | new (o : O)

/-! ### what is known of the heap -/
structure Kn where
  K : PySem.W.Frag
  mg : Str → Option Value
def kn (X : Cx) : Kn := ⟨X.K, X.mg⟩

def Sub (H H' : Hp) : Prop := ∀ a o, H a = some o → H' a = some o
theorem Sub.refl (H : Hp) : Sub H H := fun _ _ h => h
theorem Sub.trans {H H1 H2 : Hp} (a : Sub H H1) (b : Sub H1 H2) : Sub H H2 := fun c o h => b c o (a c o h)
theorem Sub.new {H : Hp} {p : Addr} {o : HO} (h : H p = none) : Sub H (upd H p o) := fun a u e => by
  rw [upd_ne (ne_of_none e h)]; exact e
theorem Sub.mut {H H' : Hp} {p : Addr} {o : HO} (e : Sub H H') (h : H p = none) : Sub H (upd H' p o) := fun a u ha => by
  rw [upd_ne (ne_of_none ha h)]; exact e a u ha
theorem Sub.both {H H' : Hp} {p : Addr} {o : HO} (e : Sub H H') : Sub (upd H p o) (upd H' p o) := fun a u ha => by
  by_cases q : a = p
  · subst q; rw [upd_same] at ha ⊢; exact ha
  · rw [upd_ne q] at ha ⊢; exact e a u ha
theorem Sub.free {H H' : Hp} (e : Sub H H') {p : Addr} (h : H' p = none) : H p = none := by
  cases q : H p with
  | none => rfl
  | some o => rw [e p o q] at h; cases h
theorem Sub.rd {H H' : Hp} {a : Addr} {u : HO} (e : Sub H H') (h : Rd H a u) : Rd H' a u := by
  rcases h with h | ⟨o, h⟩
  · exact .inl (e _ _ h)
  · exact .inr ⟨o, e _ _ h⟩
theorem Sub.l {K : PySem.W.Frag} {H H' : Hp} {a : Addr} {xs : List V} (e : Sub H H') (h : SqL K H a xs) : SqL K H' a xs := h.imp (fun h => e.rd h) id
theorem Sub.t {K : PySem.W.Frag} {H H' : Hp} {a : Addr} {xs : List V} (e : Sub H H') (h : SqT K H a xs) : SqT K H' a xs := h.imp (fun h => e.rd h) id

mutual
inductive Rep (k : Kn) (H : Hp) : D → V → Prop
  | non : Rep k H .non .non
  | bl (b : Bool) : Rep k H (.bl b) (.bl b)
  | int (i : Int) : Rep k H (.int i) (.int i)
  | str (s : Str) : Rep k H (.str s) (.str s)
  | tup {a : Addr} {vs : List V} {ds : List D} : SqT k.K H a vs → Reps k H ds vs → Rep k H (.tup ds) (.ref a)
  | lst {a : Addr} {vs : List V} {ds : List D} : H a = some (.lst vs) → Reps k H ds vs → Rep k H (.lst ds) (.ref a)
  | scr {a : Addr} {is : List Int} : SqL k.K H a (is.map V.int) → Rep k H (.scr is) (.ref a)
  | dct {a : Addr} {kvs : List (Key × V)} {ds : List D} : H a = some (.dK kvs) → Reps k H ds (kvs.map (·.2)) → Rep k H (.dct (kvs.map (·.1)) ds) (.ref a)
  | dctT {a : Addr} {kvs : List (List Key × V)} {ds : List D} : H a = some (.dT kvs) → Reps k H ds (kvs.map (·.2)) → Rep k H (.dctT (kvs.map (·.1)) ds) (.ref a)
  | inst {a C dx : Addr} {c : Str} {fs : List (Str × V)} {ds : List D} : k.mg c = some (.ref C) → H a = some (.ins C dx fs) → Reps k H ds (fs.map (·.2)) → Rep k H (.inst c (fs.map (·.1)) ds) (.ref a)
  | fn {f : Str} {a : Addr} : k.mg f = some (.ref a) → Rep k H (.fn f) (.ref a)
inductive Reps (k : Kn) (H : Hp) : List D → List V → Prop
  | nil : Reps k H [] []
  | cons {d : D} {v : V} {ds : List D} {vs : List V} : Rep k H d v → Reps k H ds vs → Reps k H (d :: ds) (v :: vs)
end

section
variable {k : Kn} {H H' : Hp}
mutual
theorem Rep.mono (e : Sub H H') {d : D} {v : V} : Rep k H d v → Rep k H' d v
  | .non => .non
  | .bl b => .bl b
  | .int i => .int i
  | .str s => .str s
  | .tup h r => .tup (e.t h) (Reps.mono e r)
  | .lst h r => .lst (e _ _ h) (Reps.mono e r)
  | .scr h => .scr (e.l h)
  | .dct h r => .dct (e _ _ h) (Reps.mono e r)
  | .dctT h r => .dctT (e _ _ h) (Reps.mono e r)
  | .inst c h r => .inst c (e _ _ h) (Reps.mono e r)
  | .fn h => .fn h
theorem Reps.mono (e : Sub H H') {ds : List D} {vs : List V} : Reps k H ds vs → Reps k H' ds vs
  | .nil => .nil
  | .cons h t => .cons (Rep.mono e h) (Reps.mono e t)
end
theorem Reps.len : ∀ {ds : List D} {vs : List V}, Reps k H ds vs → vs.length = ds.length
  | _, _, .nil => rfl
  | _, _, .cons _ t => by rw [List.length_cons, List.length_cons, Reps.len t]
theorem Reps.get : ∀ {ds : List D} {vs : List V} {i : Nat} {d : D}, Reps k H ds vs → ds[i]? = some d → ∃ v, vs[i]? = some v ∧ Rep k H d v
  | _, _, _, _, .nil, e => by simp at e
  | _, _, 0, _, .cons r _, e => by simp at e; subst e; exact ⟨_, rfl, r⟩
  | _, _, i + 1, _, .cons _ t, e => by
    obtain ⟨v, h1, h2⟩ := Reps.get (i := i) t (by simpa using e)
    exact ⟨v, by simpa using h1, h2⟩
theorem Reps.get' : ∀ {ds : List D} {vs : List V} {i : Nat} {v : V}, Reps k H ds vs → vs[i]? = some v → ∃ d, ds[i]? = some d ∧ Rep k H d v
  | _, _, _, _, .nil, e => by simp at e
  | _, _, 0, _, .cons r _, e => by simp at e; subst e; exact ⟨_, rfl, r⟩
  | _, _, i + 1, _, .cons _ t, e => by
    obtain ⟨v, h1, h2⟩ := Reps.get' (i := i) t (by simpa using e)
    exact ⟨v, by simpa using h1, h2⟩
theorem Reps.append : ∀ {ds es : List D} {vs us : List V}, Reps k H ds vs → Reps k H es us → Reps k H (ds ++ es) (vs ++ us)
  | _, _, _, _, .nil, q => q
  | _, _, _, _, .cons r t, q => .cons r (Reps.append t q)
theorem Reps.take : ∀ {ds : List D} {vs : List V} (n : Nat), Reps k H ds vs → Reps k H (ds.take n) (vs.take n)
  | _, _, 0, _ => .nil
  | _, _, _ + 1, .nil => .nil
  | _, _, n + 1, .cons r t => .cons r (Reps.take n t)
theorem Reps.drop : ∀ {ds : List D} {vs : List V} (n : Nat), Reps k H ds vs → Reps k H (ds.drop n) (vs.drop n)
  | _, _, 0, r => r
  | _, _, _ + 1, .nil => .nil
  | _, _, n + 1, .cons _ t => Reps.drop n t
theorem Reps.set {d : D} {v : V} (r : Rep k H d v) : ∀ {ds : List D} {vs : List V} (i : Nat), Reps k H ds vs → Reps k H (ds.set i d) (vs.set i v)
  | _, _, _, .nil => .nil
  | _, _, 0, .cons _ t => .cons r t
  | _, _, i + 1, .cons q t => .cons q (Reps.set r i t)
theorem Reps.reverse : ∀ {ds : List D} {vs : List V}, Reps k H ds vs → Reps k H ds.reverse vs.reverse
  | _, _, .nil => .nil
  | _, _, .cons r t => by
    rw [List.reverse_cons, List.reverse_cons]
    exact (Reps.reverse t).append (.cons r .nil)
theorem Reps.dropLast {ds : List D} {vs : List V} (r : Reps k H ds vs) : Reps k H ds.dropLast vs.dropLast := by
  rw [List.dropLast_eq_take, List.dropLast_eq_take, r.len]; exact r.take _
theorem Reps.eraseIdx : ∀ {ds : List D} {vs : List V} (i : Nat), Reps k H ds vs → Reps k H (ds.eraseIdx i) (vs.eraseIdx i)
  | _, _, _, .nil => .nil
  | _, _, 0, .cons _ t => t
  | _, _, i + 1, .cons q t => .cons q (Reps.eraseIdx i t)
theorem Reps.rep {ds : List D} {vs : List V} (h : Reps k H ds vs) : ∀ n : Nat, Reps k H (List.replicate n ds).flatten (List.replicate n vs).flatten
  | 0 => .nil
  | n + 1 => by
    rw [List.replicate_succ, List.replicate_succ, List.flatten_cons, List.flatten_cons]
    exact h.append (Reps.rep h n)
theorem Reps.ints : ∀ {is : List Int} {vs : List V}, Reps k H (is.map D.int) vs → vs = is.map V.int
  | [], _, h => by cases h; rfl
  | i :: is, _, h => by
    cases h with
    | cons h t => cases h; rw [Reps.ints t]; rfl
theorem Reps.bls : ∀ {is : List Bool} {vs : List V}, Reps k H (is.map D.bl) vs → vs = is.map V.bl
  | [], _, h => by cases h; rfl
  | i :: is, _, h => by
    cases h with
    | cons h t => cases h; rw [Reps.bls t]; rfl
theorem Reps.strs : ∀ {is : List Str} {vs : List V}, Reps k H (is.map D.str) vs → vs = is.map V.str
  | [], _, h => by cases h; rfl
  | i :: is, _, h => by
    cases h with
    | cons h t => cases h; rw [Reps.strs t]; rfl
end

/-- what an owned object holds -/
inductive RepO (k : Kn) (F : Hp) : O → HO → Prop
  | lst {ds : List D} {vs : List V} : Reps k F ds vs → RepO k F (.lst ds) (.lst vs)
  | dct {kvs : List (Key × V)} {ds : List D} : Reps k F ds (kvs.map (·.2)) → RepO k F (.dct (kvs.map (·.1)) ds) (.dK kvs)
  | dctT {kvs : List (List Key × V)} {ds : List D} : Reps k F ds (kvs.map (·.2)) → RepO k F (.dctT (kvs.map (·.1)) ds) (.dT kvs)
  | inst {C dx : Addr} {c : Str} {fs : List (Str × V)} {ds : List D} : k.mg c = some (.ref C) → Reps k F ds (fs.map (·.2)) → RepO k F (.inst c (fs.map (·.1)) ds) (.ins C dx fs)
theorem RepO.mono {k : Kn} {F F' : Hp} {o : O} {u : HO} (e : Sub F F') (h : RepO k F o u) : RepO k F' o u := by
  cases h with
  | lst r => exact .lst (r.mono e)
  | dct r => exact .dct (r.mono e)
  | dctT r => exact .dctT (r.mono e)
  | inst c r => exact .inst c (r.mono e)
theorem RepO.rep {k : Kn} {F : Hp} {o : O} {u : HO} {p : Addr} (h : RepO k F o u) (hp : F p = some u) : Rep k F o.toD (.ref p) := by
  cases h with
  | lst r => exact .lst hp r
  | dct r => exact .dct hp r
  | dctT r => exact .dctT hp r
  | inst c r => exact .inst c hp r

/-! ### the frame -/
structure Amb where
  Kp : Hp
  F0 : Hp
  ms : Nat → Option V

def OwnAt (env : En) (i : Nat) (o : O) : Prop := env[i]? = some (some (.ow o)) ∨ env[i]? = some (some (.mu o))

def RSl (k : Kn) (F H : Hp) : Sl → V → Prop
  | .fz d, v => Rep k F d v
  | .ow o, v => ∃ p u, v = .ref p ∧ H p = some u ∧ RepO k F o u
  | .mu o, v => ∃ p u, v = .ref p ∧ H p = some u ∧ RepO k F o u

structure Sta (k : Kn) (A : Amb) (F H : Hp) (σ : L2.St) (env : En) : Prop where
  sub : Sub F H
  kp : Sub A.Kp H
  f0 : Sub A.F0 F
  frz : ∀ a o, F a = some o → A.F0 a = some o ∨ A.Kp a = none
  rel : ∀ (i : Nat) (sl : Sl), env[i]? = some (some sl) → ∃ v : V, σ[i]? = some (some v) ∧ RSl k F H sl v
  own : ∀ (i : Nat) (o : O) (p : Addr), OwnAt env i o → σ[i]? = some (some (V.ref p)) → F p = none ∧ A.Kp p = none
  dis : ∀ (i j : Nat) (o u : O) (p : Addr), OwnAt env i o → OwnAt env j u → σ[i]? = some (some (V.ref p)) → σ[j]? = some (some (V.ref p)) → i = j
  len : σ.length = env.length
  mus : ∀ (i : Nat) (o : O), env[i]? = some (some (.mu o)) → σ[i]? = some (A.ms i)

/-- an owned slot's place and content -/
theorem Sta.at {k : Kn} {A : Amb} {F H : Hp} {σ : L2.St} {env : En} (S : Sta k A F H σ env) {i : Nat} {o : O} (h : OwnAt env i o) :
    ∃ p u, σ[i]? = some (some (V.ref p)) ∧ H p = some u ∧ RepO k F o u ∧ F p = none ∧ A.Kp p = none := by
  have : ∃ v, σ[i]? = some (some v) ∧ ∃ p u, v = .ref p ∧ H p = some u ∧ RepO k F o u := by
    rcases h with h | h
    · exact S.rel i _ h
    · exact S.rel i _ h
  obtain ⟨v, e, p, u, rfl, hp, r⟩ := this
  obtain ⟨a, b⟩ := S.own i o p h e
  exact ⟨p, u, e, hp, r, a, b⟩

def RArg (k : Kn) (A : Amb) (F H : Hp) (σ : L2.St) (env : En) : Arg → V → Prop
  | .val d, v => Rep k F d v
  | .slot j, v => σ[j]? = some (some v)
  | .new o, v => ∃ p u, v = .ref p ∧ H p = some u ∧ RepO k F o u ∧ F p = none ∧ A.Kp p = none ∧ ∀ (j : Nat) (u : O), OwnAt env j u → σ[j]? ≠ some (some (V.ref p))

/-- a new object is laid: nothing that is known changes -/
theorem Sta.grow {k : Kn} {A : Amb} {F H : Hp} {σ : L2.St} {env : En} {p : Addr} {u : HO} (S : Sta k A F H σ env) (h : H p = none) : Sta k A F (upd H p u) σ env where
  sub := S.sub.trans (.new h)
  kp := S.kp.trans (.new h)
  f0 := S.f0
  frz := S.frz
  rel := fun i sl e => by
    obtain ⟨v, e1, r⟩ := S.rel i sl e
    refine ⟨v, e1, ?_⟩
    cases sl with
    | fz d => exact r
    | ow o => obtain ⟨q, w, rfl, hq, r⟩ := r; exact ⟨q, w, rfl, Sub.new h _ _ hq, r⟩
    | mu o => obtain ⟨q, w, rfl, hq, r⟩ := r; exact ⟨q, w, rfl, Sub.new h _ _ hq, r⟩
  own := S.own
  dis := S.dis
  len := S.len
  mus := S.mus
/-- an object that nobody holds is frozen -/
theorem Sta.freeze {k : Kn} {A : Amb} {F H : Hp} {σ : L2.St} {env : En} {p : Addr} {u : HO} (S : Sta k A F H σ env) (h : H p = some u) (hF : F p = none) (hK : A.Kp p = none)
    (hs : ∀ (j : Nat) (o : O), OwnAt env j o → σ[j]? ≠ some (some (V.ref p))) : Sta k A (upd F p u) H σ env where
  sub := fun a o e => by
    by_cases q : a = p
    · subst q; rw [upd_same] at e; cases e; exact h
    · rw [upd_ne q] at e; exact S.sub a o e
  kp := S.kp
  f0 := S.f0.trans (.new hF)
  frz := fun a o e => by
    by_cases q : a = p
    · subst q; exact .inr hK
    · rw [upd_ne q] at e; exact S.frz a o e
  rel := fun i sl e => by
    obtain ⟨v, e1, r⟩ := S.rel i sl e
    refine ⟨v, e1, ?_⟩
    cases sl with
    | fz d => exact r.mono (.new hF)
    | ow o => obtain ⟨q, w, rfl, hq, r⟩ := r; exact ⟨q, w, rfl, hq, r.mono (.new hF)⟩
    | mu o => obtain ⟨q, w, rfl, hq, r⟩ := r; exact ⟨q, w, rfl, hq, r.mono (.new hF)⟩
  own := fun i o q a b => by
    have ne : q ≠ p := fun z => by subst z; exact hs i o a b
    rw [upd_ne ne]; exact S.own i o q a b
  dis := S.dis
  len := S.len
  mus := S.mus
/-- the two at once -/
theorem Sta.fresh {k : Kn} {A : Amb} {F H : Hp} {σ : L2.St} {env : En} (S : Sta k A F H σ env) {p : Addr} (h : H p = none) : F p = none ∧ A.Kp p = none ∧ ∀ (j : Nat) (o : O), OwnAt env j o → σ[j]? ≠ some (some (V.ref p)) :=
  ⟨S.sub.free h, S.kp.free h, fun j o a e => by
    obtain ⟨q, u, e1, hq, _⟩ := S.at a
    rw [e1] at e; cases e; rw [h] at hq; cases hq⟩
theorem Sta.lay {k : Kn} {A : Amb} {F H : Hp} {σ : L2.St} {env : En} {p : Addr} {u : HO} (S : Sta k A F H σ env) (h : H p = none) : Sta k A (upd F p u) (upd H p u) σ env :=
  let ⟨a, b, c⟩ := S.fresh h
  (S.grow h).freeze upd_same a b c

def settle : Arg → Arg
  | .val d => .val d
  | .slot j => .slot j
  | .new o => .val o.toD
theorem Sta.settle {k : Kn} {A : Amb} {F H : Hp} {σ : L2.St} {env : En} {x : Arg} {v : V} (S : Sta k A F H σ env) (r : RArg k A F H σ env x v) :
    ∃ F', Sub F F' ∧ Sta k A F' H σ env ∧ RArg k A F' H σ env (settle x) v := by
  cases x with
  | val d => exact ⟨F, .refl F, S, r⟩
  | slot j => exact ⟨F, .refl F, S, r⟩
  | new o =>
    obtain ⟨p, u, rfl, hp, ro, a, b, c⟩ := r
    exact ⟨upd F p u, .new a, S.freeze hp a b c, (ro.mono (.new a)).rep upd_same⟩
/-- what has settled persists -/
theorem RArg.keep {k : Kn} {A : Amb} {F F' H H' : Hp} {σ : L2.St} {env env' : En} {x : Arg} {v : V} (r : RArg k A F H σ env (PL.settle x) v) (e : Sub F F') : RArg k A F' H' σ env' (PL.settle x) v := by
  cases x with
  | val d => exact Rep.mono e r
  | slot j => exact r
  | new o => exact Rep.mono e r

/-- an argument's content -/
def slotO (env : En) (i : Nat) : Option O :=
  match env[i]? with
  | some (some (.ow o)) => some o
  | some (some (.mu o)) => some o
  | _ => none
def Sl.toD : Sl → D
  | .fz d => d
  | .ow o => o.toD
  | .mu o => o.toD
def cont (x : Arg) (env : En) : Option D :=
  match x with
  | .val d => some d
  | .slot j => (match env[j]? with
    | some (some sl) => some sl.toD
    | _ => none)
  | .new o => some o.toD
theorem slotO_own {env : En} {i : Nat} {o : O} (h : slotO env i = some o) : OwnAt env i o := by
  unfold slotO at h
  split at h
  · rename_i q; cases h; exact .inl q
  · rename_i q; cases h; exact .inr q
  · cases h
theorem own_slotO {env : En} {i : Nat} {o : O} (h : OwnAt env i o) : slotO env i = some o := by
  unfold slotO
  rcases h with h | h <;> rw [h]
theorem OwnAt.inj {env : En} {i : Nat} {o u : O} (h : OwnAt env i o) (h' : OwnAt env i u) : o = u := Option.some.inj ((own_slotO h).symm.trans (own_slotO h'))

/-- a value as it can be read now -/
def View (k : Kn) (F H : Hp) (d : D) (v : V) : Prop := Rep k F d v ∨ ∃ o p u, d = O.toD o ∧ v = .ref p ∧ H p = some u ∧ RepO k F o u
theorem Sta.view {k : Kn} {A : Amb} {F H : Hp} {σ : L2.St} {env : En} {x : Arg} {v : V} {d : D} (S : Sta k A F H σ env) (r : RArg k A F H σ env x v) (h : cont x env = some d) : View k F H d v := by
  cases x with
  | val d' => cases h; exact .inl r
  | slot j =>
    simp only [cont] at h
    split at h
    · rename_i sl e
      cases h
      obtain ⟨w, e1, q⟩ := S.rel j sl e
      have r' : σ[j]? = some (some v) := r
      rw [e1] at r'; cases r'
      cases sl with
      | fz d => exact .inl q
      | ow o => obtain ⟨p, u, rfl, hp, ro⟩ := q; exact .inr ⟨o, p, u, rfl, rfl, hp, ro⟩
      | mu o => obtain ⟨p, u, rfl, hp, ro⟩ := q; exact .inr ⟨o, p, u, rfl, rfl, hp, ro⟩
    · cases h
  | new o =>
    obtain ⟨p, u, rfl, hp, ro, _⟩ := r
    cases h
    exact .inr ⟨o, p, u, rfl, rfl, hp, ro⟩
section
variable {k : Kn} {F H : Hp} {v : V}
theorem View.int {i : Int} (h : View k F H (.int i) v) : v = .int i := by
  rcases h with h | ⟨o, p, u, e, _⟩
  · cases h; rfl
  · cases o <;> cases e
theorem View.bl {i : Bool} (h : View k F H (.bl i) v) : v = .bl i := by
  rcases h with h | ⟨o, p, u, e, _⟩
  · cases h; rfl
  · cases o <;> cases e
theorem View.str {i : Str} (h : View k F H (.str i) v) : v = .str i := by
  rcases h with h | ⟨o, p, u, e, _⟩
  · cases h; rfl
  · cases o <;> cases e
theorem View.non (h : View k F H .non v) : v = .non := by
  rcases h with h | ⟨o, p, u, e, _⟩
  · cases h; rfl
  · cases o <;> cases e
theorem View.tup {ds : List D} (h : View k F H (.tup ds) v) : ∃ a vs, v = .ref a ∧ SqT k.K F a vs ∧ Reps k F ds vs := by
  rcases h with h | ⟨o, p, u, e, _⟩
  · cases h with
    | tup a b => exact ⟨_, _, rfl, a, b⟩
  · cases o <;> cases e
theorem View.lst {ds : List D} (s : Sub F H) (h : View k F H (.lst ds) v) : ∃ a vs, v = .ref a ∧ H a = some (.lst vs) ∧ Reps k F ds vs := by
  rcases h with h | ⟨o, p, u, e, rfl, hp, r⟩
  · cases h with
    | lst a b => exact ⟨_, _, rfl, s _ _ a, b⟩
  · cases o with
    | lst es => cases e; cases r with | lst r => exact ⟨p, _, rfl, hp, r⟩
    | dct _ _ => cases e
    | dctT _ _ => cases e
    | inst _ _ _ => cases e
theorem View.scr {is : List Int} (s : Sub F H) (h : View k F H (.scr is) v) : ∃ a, v = .ref a ∧ SqL k.K H a (is.map V.int) := by
  rcases h with h | ⟨o, p, u, e, _⟩
  · cases h with
    | scr a => exact ⟨_, rfl, s.l a⟩
  · cases o <;> cases e
theorem View.dct {ks : List Key} {ds : List D} (s : Sub F H) (h : View k F H (.dct ks ds) v) : ∃ a kvs, v = .ref a ∧ H a = some (.dK kvs) ∧ kvs.map (·.1) = ks ∧ Reps k F ds (kvs.map (·.2)) := by
  rcases h with h | ⟨o, p, u, e, rfl, hp, r⟩
  · cases h with
    | dct a b => exact ⟨_, _, rfl, s _ _ a, rfl, b⟩
  · cases o with
    | lst es => cases e
    | dct _ _ => cases e; cases r with | dct r => exact ⟨p, _, rfl, hp, rfl, r⟩
    | dctT _ _ => cases e
    | inst _ _ _ => cases e
theorem View.dctT {ks : List (List Key)} {ds : List D} (s : Sub F H) (h : View k F H (.dctT ks ds) v) : ∃ a kvs, v = .ref a ∧ H a = some (.dT kvs) ∧ kvs.map (·.1) = ks ∧ Reps k F ds (kvs.map (·.2)) := by
  rcases h with h | ⟨o, p, u, e, rfl, hp, r⟩
  · cases h with
    | dctT a b => exact ⟨_, _, rfl, s _ _ a, rfl, b⟩
  · cases o with
    | lst es => cases e
    | dct _ _ => cases e
    | dctT _ _ => cases e; cases r with | dctT r => exact ⟨p, _, rfl, hp, rfl, r⟩
    | inst _ _ _ => cases e
theorem View.inst {c : Str} {ns : List Str} {ds : List D} (s : Sub F H) (h : View k F H (.inst c ns ds) v) : ∃ a C dx fs, v = .ref a ∧ H a = some (.ins C dx fs) ∧ k.mg c = some (.ref C) ∧ fs.map (·.1) = ns ∧ Reps k F ds (fs.map (·.2)) := by
  rcases h with h | ⟨o, p, u, e, rfl, hp, r⟩
  · cases h with
    | inst c a b => exact ⟨_, _, _, _, rfl, s _ _ a, c, rfl, b⟩
  · cases o with
    | lst es => cases e
    | dct _ _ => cases e
    | dctT _ _ => cases e
    | inst _ _ _ => cases e; cases r with | inst c r => exact ⟨p, _, _, _, rfl, hp, c, rfl, r⟩
theorem View.fn {f : Str} (h : View k F H (.fn f) v) : ∃ a, v = .ref a ∧ k.mg f = some (.ref a) := by
  rcases h with h | ⟨o, p, u, e, _⟩
  · cases h with
    | fn a => exact ⟨_, rfl, a⟩
  · cases o <;> cases e
end
end PL

/-! PL: judgements; expressions. -/
namespace PL
open PySem PySem.Spec PyProof.Rows L2

/-- what is wanted of an error that leaves -/
structure WP where
  w : Amb → Hp → Exn → En → Prop
  mono : ∀ {A F F' x e}, Sub F F' → w A F x e → w A F' x e
def W0 : WP := ⟨fun _ _ _ _ => False, fun _ h => h⟩

abbrev FE := En → Res (Arg × En)
abbrev FT := En → Res (Bool × En)
abbrev FA := En → Res (List Arg × En)

def PostE (k : Kn) (A : Amb) (W : WP) (F : Hp) (σ : L2.St) (r : Res (Arg × En)) (Q : VK) : Prop :=
  match r with
  | .ok p => ∀ F' H' v, Sub F F' → Sta k A F' H' σ p.2 → RArg k A F' H' σ p.2 p.1 v → Q v H'
  | .ex x e => W.w A F x e
  | .no => False
def PostT (k : Kn) (A : Amb) (W : WP) (F : Hp) (σ : L2.St) (r : Res (Bool × En)) (Q : Bool → Hp → Prop) : Prop :=
  match r with
  | .ok p => ∀ F' H', Sub F F' → Sta k A F' H' σ p.2 → Q p.1 H'
  | .ex x e => W.w A F x e
  | .no => False
/-- arguments, from the left, all settled -/
inductive RArgs (k : Kn) (A : Amb) (F H : Hp) (σ : L2.St) (env : En) : List Arg → List V → Prop
  | nil : RArgs k A F H σ env [] []
  | cons {x : Arg} {v : V} {xs : List Arg} {vs : List V} : RArg k A F H σ env (settle x) v → RArgs k A F H σ env xs vs → RArgs k A F H σ env (settle x :: xs) (v :: vs)
theorem RArgs.keep {k : Kn} {A : Amb} {F F' H H' : Hp} {σ : L2.St} {env env' : En} (e : Sub F F') : ∀ {xs : List Arg} {vs : List V}, RArgs k A F H σ env xs vs → RArgs k A F' H' σ env' xs vs
  | _, _, .nil => .nil
  | _, _, .cons h t => .cons (h.keep e) (RArgs.keep e t)
def PostA (k : Kn) (A : Amb) (W : WP) (F : Hp) (σ : L2.St) (r : Res (List Arg × En)) (Q : List V → Hp → Prop) : Prop :=
  match r with
  | .ok p => ∀ F' H' vs, Sub F F' → Sta k A F' H' σ p.2 → RArgs k A F' H' σ p.2 p.1 vs → Q vs H'
  | .ex x e => W.w A F x e
  | .no => False

section
variable {k : Kn} {A : Amb} {W : WP} {F F' : Hp} {σ : L2.St}
theorem PostE.mono {r : Res (Arg × En)} {Q : VK} (s : Sub F F') (h : PostE k A W F σ r Q) : PostE k A W F' σ r Q := by
  cases r with
  | ok p => exact fun F1 H1 v a b c => h F1 H1 v (s.trans a) b c
  | ex x e => exact W.mono s h
  | no => exact h
theorem PostT.mono {r : Res (Bool × En)} {Q : Bool → Hp → Prop} (s : Sub F F') (h : PostT k A W F σ r Q) : PostT k A W F' σ r Q := by
  cases r with
  | ok p => exact fun F1 H1 a b => h F1 H1 (s.trans a) b
  | ex x e => exact W.mono s h
  | no => exact h
theorem PostA.mono {r : Res (List Arg × En)} {Q : List V → Hp → Prop} (s : Sub F F') (h : PostA k A W F σ r Q) : PostA k A W F' σ r Q := by
  cases r with
  | ok p => exact fun F1 H1 v a b c => h F1 H1 v (s.trans a) b c
  | ex x e => exact W.mono s h
  | no => exact h
/-- an expression ahead of something: P is any of the posts -/
theorem PostE.bnd {α : Type} {r : Res (Arg × En)} {f : Arg × En → Res α} {P : Hp → Res α → Prop} {Q1 : VK} (hx : ∀ x e, P F (.ex x e) → W.w A F x e) (hn : ¬ P F .no) (hm : ∀ {F' r}, Sub F F' → P F r → P F' r) (h : P F (r.bind f))
    (g : ∀ p F' H' v, Sub F F' → Sta k A F' H' σ p.2 → RArg k A F' H' σ p.2 p.1 v → P F' (f p) → Q1 v H') : PostE k A W F σ r Q1 := by
  cases r with
  | ok p => exact fun F' H' v a b c => g p F' H' v a b c (hm a h)
  | ex x e => exact hx x e h
  | no => exact hn h
theorem PostT.bnd {α : Type} {r : Res (Bool × En)} {f : Bool × En → Res α} {P : Hp → Res α → Prop} {Q1 : Bool → Hp → Prop} (hx : ∀ x e, P F (.ex x e) → W.w A F x e) (hn : ¬ P F .no) (hm : ∀ {F' r}, Sub F F' → P F r → P F' r) (h : P F (r.bind f))
    (g : ∀ p F' H', Sub F F' → Sta k A F' H' σ p.2 → P F' (f p) → Q1 p.1 H') : PostT k A W F σ r Q1 := by
  cases r with
  | ok p => exact fun F' H' a b => g p F' H' a b (hm a h)
  | ex x e => exact hx x e h
  | no => exact hn h
theorem PostA.bnd {α : Type} {r : Res (List Arg × En)} {f : List Arg × En → Res α} {P : Hp → Res α → Prop} {Q1 : List V → Hp → Prop} (hx : ∀ x e, P F (.ex x e) → W.w A F x e) (hn : ¬ P F .no) (hm : ∀ {F' r}, Sub F F' → P F r → P F' r) (h : P F (r.bind f))
    (g : ∀ p F' H' vs, Sub F F' → Sta k A F' H' σ p.2 → RArgs k A F' H' σ p.2 p.1 vs → P F' (f p) → Q1 vs H') : PostA k A W F σ r Q1 := by
  cases r with
  | ok p => exact fun F' H' v a b c => g p F' H' v a b c (hm a h)
  | ex x e => exact hx x e h
  | no => exact hn h
-- the usual three
theorem PostE.afE {r : Res (Arg × En)} {f : Arg × En → Res (Arg × En)} {Q : VK} {Q1 : VK} (h : PostE k A W F σ (r.bind f) Q)
    (g : ∀ p F' H' v, Sub F F' → Sta k A F' H' σ p.2 → RArg k A F' H' σ p.2 p.1 v → PostE k A W F' σ (f p) Q → Q1 v H') : PostE k A W F σ r Q1 :=
  PostE.bnd (P := fun F r => PostE k A W F σ r Q) (fun _ _ h => h) (fun h => h) (fun s h => h.mono s) h g
theorem PostT.afE {r : Res (Arg × En)} {f : Arg × En → Res (Bool × En)} {Q : Bool → Hp → Prop} {Q1 : VK} (h : PostT k A W F σ (r.bind f) Q)
    (g : ∀ p F' H' v, Sub F F' → Sta k A F' H' σ p.2 → RArg k A F' H' σ p.2 p.1 v → PostT k A W F' σ (f p) Q → Q1 v H') : PostE k A W F σ r Q1 :=
  PostE.bnd (P := fun F r => PostT k A W F σ r Q) (fun _ _ h => h) (fun h => h) (fun s h => h.mono s) h g
theorem PostT.afT {r : Res (Bool × En)} {f : Bool × En → Res (Bool × En)} {Q : Bool → Hp → Prop} {Q1 : Bool → Hp → Prop} (h : PostT k A W F σ (r.bind f) Q)
    (g : ∀ p F' H', Sub F F' → Sta k A F' H' σ p.2 → PostT k A W F' σ (f p) Q → Q1 p.1 H') : PostT k A W F σ r Q1 :=
  PostT.bnd (P := fun F r => PostT k A W F σ r Q) (fun _ _ h => h) (fun h => h) (fun s h => h.mono s) h g
theorem PostE.afT {r : Res (Bool × En)} {f : Bool × En → Res (Arg × En)} {Q : VK} {Q1 : Bool → Hp → Prop} (h : PostE k A W F σ (r.bind f) Q)
    (g : ∀ p F' H', Sub F F' → Sta k A F' H' σ p.2 → PostE k A W F' σ (f p) Q → Q1 p.1 H') : PostT k A W F σ r Q1 :=
  PostT.bnd (P := fun F r => PostE k A W F σ r Q) (fun _ _ h => h) (fun h => h) (fun s h => h.mono s) h g
theorem PostA.afE {r : Res (Arg × En)} {f : Arg × En → Res (List Arg × En)} {Q : List V → Hp → Prop} {Q1 : VK} (h : PostA k A W F σ (r.bind f) Q)
    (g : ∀ p F' H' v, Sub F F' → Sta k A F' H' σ p.2 → RArg k A F' H' σ p.2 p.1 v → PostA k A W F' σ (f p) Q → Q1 v H') : PostE k A W F σ r Q1 :=
  PostE.bnd (P := fun F r => PostA k A W F σ r Q) (fun _ _ h => h) (fun h => h) (fun s h => h.mono s) h g
theorem PostE.afA {r : Res (List Arg × En)} {f : List Arg × En → Res (Arg × En)} {Q : VK} {Q1 : List V → Hp → Prop} (h : PostE k A W F σ (r.bind f) Q)
    (g : ∀ p F' H' vs, Sub F F' → Sta k A F' H' σ p.2 → RArgs k A F' H' σ p.2 p.1 vs → PostE k A W F' σ (f p) Q → Q1 vs H') : PostA k A W F σ r Q1 :=
  PostA.bnd (P := fun F r => PostE k A W F σ r Q) (fun _ _ h => h) (fun h => h) (fun s h => h.mono s) h g
theorem PostA.afA {r : Res (List Arg × En)} {f : List Arg × En → Res (List Arg × En)} {Q Q1 : List V → Hp → Prop} (h : PostA k A W F σ (r.bind f) Q)
    (g : ∀ p F' H' vs, Sub F F' → Sta k A F' H' σ p.2 → RArgs k A F' H' σ p.2 p.1 vs → PostA k A W F' σ (f p) Q → Q1 vs H') : PostA k A W F σ r Q1 :=
  PostA.bnd (P := fun F r => PostA k A W F σ r Q) (fun _ _ h => h) (fun h => h) (fun s h => h.mono s) h g
end

/-! ### judgements -/
def EX (X : Cx) (W : WP) (e : Expr) (f : FE) : Prop :=
  ∃ t, PE X e t ∧ ∀ (A : Amb) (F H : Hp) (σ : L2.St) (env : En) (Q : VK), Sta (kn X) A F H σ env → PostE (kn X) A W F σ (f env) Q → t σ H Q
def TX (X : Cx) (W : WP) (e : Expr) (f : FT) : Prop :=
  ∃ t, PT X e t ∧ ∀ (A : Amb) (F H : Hp) (σ : L2.St) (env : En) (Q : Bool → Hp → Prop), Sta (kn X) A F H σ env → PostT (kn X) A W F σ (f env) Q → t σ H Q
def WX' (X : Cx) (W : WP) (e : Expr) (f : FT) : Prop :=
  ∃ t, PW X e t ∧ ∀ (A : Amb) (F H : Hp) (σ : L2.St) (env : En) (Q : Bool → Hp → Prop), Sta (kn X) A F H σ env → PostT (kn X) A W F σ (f env) Q → t σ H Q
def AX (X : Cx) (W : WP) (es : List Expr) (f : FA) : Prop :=
  ∃ t, PA X es t ∧ ∀ (A : Amb) (F H : Hp) (σ : L2.St) (env : En) (Q : List V → Hp → Prop), Sta (kn X) A F H σ env → PostA (kn X) A W F σ (f env) Q → t σ H Q

section
variable {X : Cx} {W : WP} {pos : Pos}
/-! ### names and constants -/
def kst (d : D) : FE := fun env => .ok (.val d, env)
def rdv (i : Nat) : FE := fun env =>
  match env[i]? with
  | some (some (.fz d)) => .ok (.val d, env)
  | some (some (.ow _)) => .ok (.slot i, env)
  | some (some (.mu _)) => .ok (.slot i, env)
  | _ => .no
theorem ex_kst {e : Expr} {v : V} {d : D} (h : PE X e (tC v)) (r : ∀ H, Rep (kn X) H d v) : EX X W e (kst d) :=
  ⟨_, h, fun _ F H _ _ _ S q => q F H v (.refl F) S (r F)⟩
theorem ex_int {i : Int} {j : Nat} : EX X W (.Constant (.int i) j pos) (kst (.int i)) := ex_kst pe_int fun _ => .int i
theorem ex_bl {b : Bool} {j : Nat} : EX X W (.Constant (.bool b) j pos) (kst (.bl b)) := ex_kst pe_bl fun _ => .bl b
theorem ex_non {j : Nat} : EX X W (.Constant .none j pos) (kst .non) := ex_kst pe_non fun _ => .non
theorem ex_str {x : Str} {j : Nat} : EX X W (.Constant (.str x) j pos) (kst (.str x)) := ex_kst pe_str fun _ => .str x
theorem ex_gint {x : Str} {i : Int} {t : Tok} (hg : Gl X x) (hm : X.mg x = some (.int i t)) (hd : (x == ("__debug__" : Str)) = false := by decide) : EX X W (.Name x pos) (kst (.int i)) :=
  ex_kst (pe_glob hg hm (v := .int i) ⟨_, rfl⟩ hd) fun _ => .int i
theorem ex_gstr {x y : Str} {t : Tok} (hg : Gl X x) (hm : X.mg x = some (.str y t)) (hd : (x == ("__debug__" : Str)) = false := by decide) : EX X W (.Name x pos) (kst (.str y)) :=
  ex_kst (pe_glob hg hm (v := .str y) ⟨_, rfl⟩ hd) fun _ => .str y
theorem ex_gfn {x : Str} {a : Addr} (hg : Gl X x) (hm : X.mg x = some (.ref a)) (hd : (x == ("__debug__" : Str)) = false := by decide) : EX X W (.Name x pos) (kst (.fn x)) :=
  ex_kst (pe_glob hg hm (v := .ref a) rfl hd) fun _ => .fn hm
theorem ex_v (i : Nat) {x : Str} (hN : X.N[i]? = some x := by rfl) (hv : Vis X.env.scope x := by first | exact Or.inl rfl | exact Or.inr (Or.inl rfl) | exact Or.inr (Or.inr rfl)) (hd : (x == ("__debug__" : Str)) = false := by decide) (hcd : (x == ("__classdict__" : Str)) = false := by decide) :
    EX X W (.Name x pos) (rdv i) := by
  refine ⟨_, pe_var hN hv hd hcd, fun A F H σ env Q S q => ?_⟩
  unfold rdv at q
  split at q
  · rename_i d e
    obtain ⟨v, e1, r⟩ := S.rel i _ e
    exact ⟨v, e1, q F H v (.refl F) S r⟩
  · rename_i o e
    obtain ⟨v, e1, r⟩ := S.rel i _ e
    exact ⟨v, e1, q F H v (.refl F) S e1⟩
  · rename_i o e
    obtain ⟨v, e1, r⟩ := S.rel i _ e
    exact ⟨v, e1, q F H v (.refl F) S e1⟩
  · exact q.elim

/-! ### two-place operations -/
def bop (g : D → D → Option Arg) (fa fb : FE) : FE := fun env => (fa env).bind fun p => (fb p.2).bind fun q =>
  match cont (settle p.1) q.2, cont q.1 q.2 with
  | some a, some b => (match g a b with
    | some r => .ok (r, q.2)
    | none => .no)
  | _, _ => .no
def BOk (k : Kn) (r : R2) (g : D → D → Option Arg) : Prop :=
  ∀ (A : Amb) (F H : Hp) (σ : L2.St) (env : En) (x y : V) (a b : D) (z : Arg) (Q : VK), Sta k A F H σ env → View k F H a x → View k F H b y → g a b = some z →
    (∀ F' H' v, Sub F F' → Sta k A F' H' σ env → RArg k A F' H' σ env z v → Q v H') → r x y H Q
def gor (g g' : D → D → Option Arg) : D → D → Option Arg := fun a b => (g a b).orElse fun _ => g' a b
theorem BOk.or {k : Kn} {r r' : R2} {g g' : D → D → Option Arg} (h : BOk k r g) (h' : BOk k r' g') : BOk k (fun x y H Q => r x y H Q ∨ r' x y H Q) (gor g g') := by
  intro A F H σ env x y a b z Q S va vb e q
  cases c : g a b with
  | some y1 =>
    have e' : some y1 = some z := by simpa [gor, c] using e
    cases e'
    exact .inl (h A F H σ env x y a b _ Q S va vb c q)
  | none =>
    have e' : g' a b = some z := by simpa [gor, c] using e
    exact .inr (h' A F H σ env x y a b z Q S va vb e' q)
theorem bop_ok {r : R2} {g : D → D → Option Arg} {a b : Expr} {fa fb : FE} (hg : BOk (kn X) r g) (ha : EX X W a fa) (hb : EX X W b fb) :
    ∃ ta tb, PE X a ta ∧ PE X b tb ∧ ∀ (A : Amb) (F H : Hp) (σ : L2.St) (env : En) (Q : VK), Sta (kn X) A F H σ env → PostE (kn X) A W F σ (bop g fa fb env) Q → tOp r ta tb σ H Q := by
  obtain ⟨ta, pa, ra⟩ := ha
  obtain ⟨tb, pb, rb⟩ := hb
  refine ⟨ta, tb, pa, pb, fun A F H σ env Q S q => ra A F H σ env _ S (q.afE fun p F1 H1 v1 s1 S1 r1 q1 => ?_)⟩
  obtain ⟨F1', s1', S1', r1'⟩ := S1.settle r1
  refine rb A F1' H1 σ p.2 _ S1' ((q1.mono s1').afE fun p2 F2 H2 v2 s2 S2 r2 q2 => ?_)
  have k1 := r1'.keep (F' := F2) (H' := H2) (env' := p2.2) s2
  split at q2
  · rename_i da db ea eb
    split at q2
    · rename_i z ez
      exact hg A F2 H2 σ p2.2 v1 v2 da db z Q S2 (S2.view k1 ea) (S2.view r2 eb) ez fun F' H' v a b c => q2 F' H' v a b c
    · exact q2.elim
  · exact q2.elim
theorem ex_bin {op : Operator} {r : R2} {g : D → D → Option Arg} {a b : Expr} {fa fb : FE} (ho : OpR X (binaryOp op) r) (hg : BOk (kn X) r g) (ha : EX X W a fa) (hb : EX X W b fb) : EX X W (.BinOp a op b pos) (bop g fa fb) :=
  let ⟨_, _, pa, pb, h⟩ := bop_ok hg ha hb
  ⟨_, pe_op ho pa pb, h⟩
theorem ex_cmp {op : CmpOp} {r : R2} {g : D → D → Option Arg} {a b : Expr} {fa fb : FE} (ho : OpR X (compareOp op) r) (hg : BOk (kn X) r g) (ha : EX X W a fa) (hb : EX X W b fb) (hm : behindInMarks op b = false) : EX X W (.Compare a [op] [b] pos) (bop g fa fb) :=
  let ⟨_, _, pa, pb, h⟩ := bop_ok hg ha hb
  ⟨_, pe_cmpR ho pa pb hm, h⟩
/-- a truth value as a test -/
def tst (f : FE) : FT := fun env => (f env).bind fun p => match p.1 with
  | .val (.bl b) => .ok (b, p.2)
  | _ => .no
theorem tst_ok {te : TE} {f : FE} (h : ∀ (A : Amb) (F H : Hp) (σ : L2.St) (env : En) (Q : VK), Sta (kn X) A F H σ env → PostE (kn X) A W F σ (f env) Q → te σ H Q) :
    ∀ (A : Amb) (F H : Hp) (σ : L2.St) (env : En) (Q : Bool → Hp → Prop), Sta (kn X) A F H σ env → PostT (kn X) A W F σ (tst f env) Q → te σ H fun x H' => ∃ c, x = .bl c ∧ Q c H' := by
  intro A F H σ env Q S q
  refine h A F H σ env _ S (q.afE fun p F1 H1 v1 s1 S1 r1 q1 => ?_)
  obtain ⟨x, e⟩ := p
  dsimp only at q1 r1
  split at q1
  · rename_i b
    cases r1
    exact ⟨b, rfl, q1 F1 H1 (.refl _) S1⟩
  · exact q1.elim
theorem tx_cmp {op : CmpOp} {r : R2} {g : D → D → Option Arg} {a b : Expr} {fa fb : FE} (ho : OpR X (compareOp op) r) (hg : BOk (kn X) r g) (ha : EX X W a fa) (hb : EX X W b fb) (hm : behindInMarks op b = false) : TX X W (.Compare a [op] [b] pos) (tst (bop g fa fb)) :=
  let ⟨_, _, pa, pb, h⟩ := bop_ok hg ha hb
  ⟨_, pt_cmpR ho pa pb hm, tst_ok h⟩
/-- an expression by its truth -/
def tru : D → Option Bool
  | .non => some false
  | .bl b => some b
  | .int i => some (i != 0)
  | .str s => if s.length ≤ sizeLine then some ((s.length : Int) != 0) else none
  | .lst ds => some (!ds.isEmpty)
  | .tup ds => some (!ds.isEmpty)
  | .dct ks _ => some (!ks.isEmpty)
  | _ => none
def trt (f : FE) : FT := fun env => (f env).bind fun p => match (cont p.1 p.2).bind tru with
  | some b => .ok (b, p.2)
  | none => .no
theorem isEmpty_len {α β : Type} {l : List α} {m : List β} (h : l.length = m.length) : l.isEmpty = m.isEmpty := by
  cases l <;> cases m <;> simp at h ⊢
theorem tru_ok {k : Kn} {F H : Hp} {d : D} {v : V} {b : Bool} (s : Sub F H) (h : View k F H d v) (e : tru d = some b) : TruV k.K v H b := by
  cases d with
  | non => cases h.non; cases e; rfl
  | bl c => cases h.bl; cases e; rfl
  | int i => cases h.int; cases e; rfl
  | str z =>
    cases h.str
    simp only [tru] at e
    split at e
    · rename_i q; cases e; exact ⟨q, rfl⟩
    · cases e
  | lst ds =>
    obtain ⟨a, vs, rfl, hs, r⟩ := h.lst s
    cases e
    exact .inl ⟨vs, SqL.of hs, by rw [isEmpty_len r.len.symm]⟩
  | tup ds =>
    obtain ⟨a, vs, rfl, hs, r⟩ := h.tup
    cases e
    exact .inr (.inl ⟨vs, s.t hs, by rw [isEmpty_len r.len.symm]⟩)
  | dct ks ds =>
    obtain ⟨a, kvs, rfl, hp, e1, r⟩ := h.dct s
    cases e
    exact .inr (.inr ⟨_, hp, by subst e1; rw [isEmpty_len (List.length_map _)]⟩)
  | dctT ks ds => cases e
  | inst _ _ _ => cases e
  | fn _ => cases e
  | scr _ => cases e
theorem tx_tru {e : Expr} {f : FE} (h : EX X W e f) (he : ∀ whole, isTrue e X.env whole = (do let v ← whole; standAt e.pos; holding [v] (truthy v)) := by intro _; rfl) : TX X W e (trt f) := by
  obtain ⟨t, p, r⟩ := h
  refine ⟨_, pt_truth p he, fun A F H σ env Q S q => r A F H σ env _ S (q.afE fun p F1 H1 v1 s1 S1 r1 q1 => ?_)⟩
  obtain ⟨x, e⟩ := p
  dsimp only at q1 r1
  split at q1
  · rename_i b eb
    cases c : cont x e with
    | none => rw [c] at eb; cases eb
    | some d =>
      rw [c] at eb
      exact ⟨b, tru_ok S1.sub (S1.view r1 c) eb, q1 F1 H1 (.refl _) S1⟩
  · exact q1.elim
/-! ### and, or, not -/
def tnot (f : FT) : FT := fun env => (f env).bind fun p => .ok (!p.1, p.2)
def tand (f g : FT) : FT := fun env => (f env).bind fun p => if p.1 = true then g p.2 else .ok (false, p.2)
def tor (f g : FT) : FT := fun env => (f env).bind fun p => if p.1 = true then .ok (true, p.2) else g p.2
variable {a b : Expr} {rest : List Expr} {f g : FT}
theorem tx_not (h : TX X W a f) : TX X W (.UnaryOp .Not a pos) (tnot f) := by
  obtain ⟨t, p, r⟩ := h
  exact ⟨_, pt_not p, fun A F H σ env Q S q => r A F H σ env _ S (q.afT fun p F1 H1 s1 S1 q1 => q1 F1 H1 (.refl _) S1)⟩
theorem tx_w (h : WX' X W a f) : TX X W a f := let ⟨t, p, r⟩ := h; ⟨t, p.pt, r⟩
theorem wx_and1 (h : TX X W a f) : WX' X W (.BoolOp .And [a] pos) f := let ⟨t, p, r⟩ := h; ⟨t, pw_and1 p, r⟩
theorem wx_or1 (h : TX X W a f) : WX' X W (.BoolOp .Or [a] pos) f := let ⟨t, p, r⟩ := h; ⟨t, pw_or1 p, r⟩
theorem wx_and (h : TX X W a f) (h' : WX' X W (.BoolOp .And (b :: rest) pos) g) : WX' X W (.BoolOp .And (a :: b :: rest) pos) (tand f g) := by
  obtain ⟨t, p, r⟩ := h
  obtain ⟨t', p', r'⟩ := h'
  refine ⟨_, pw_and p p', fun A F H σ env Q S q => r A F H σ env _ S (q.afT fun p F1 H1 s1 S1 q1 => ?_)⟩
  by_cases c : p.1 = true
  · rw [if_pos c] at q1 ⊢; exact r' A F1 H1 σ p.2 Q S1 q1
  · rw [if_neg c] at q1 ⊢; exact q1 F1 H1 (.refl _) S1
theorem wx_or (h : TX X W a f) (h' : WX' X W (.BoolOp .Or (b :: rest) pos) g) : WX' X W (.BoolOp .Or (a :: b :: rest) pos) (tor f g) := by
  obtain ⟨t, p, r⟩ := h
  obtain ⟨t', p', r'⟩ := h'
  refine ⟨_, pw_or p p', fun A F H σ env Q S q => r A F H σ env _ S (q.afT fun p F1 H1 s1 S1 q1 => ?_)⟩
  by_cases c : p.1 = true
  · rw [if_pos c] at q1 ⊢; exact q1 F1 H1 (.refl _) S1
  · rw [if_neg c] at q1 ⊢; exact r' A F1 H1 σ p.2 Q S1 q1
/-- as values: truth values alone -/
def vnot (f : FE) : FE := fun env => (tst f env).bind fun p => .ok (.val (.bl (!p.1)), p.2)
def vand (f g : FE) : FE := fun env => (tst f env).bind fun p => if p.1 = true then g p.2 else .ok (.val (.bl false), p.2)
def vor (f g : FE) : FE := fun env => (tst f env).bind fun p => if p.1 = true then .ok (.val (.bl true), p.2) else g p.2
theorem PostE.tst {k : Kn} {A : Amb} {F : Hp} {σ : L2.St} {f : FE} {env : En} {h : Bool × En → Res (Arg × En)} {Q : VK} {R : Bool → Hp → Prop} (q : PostE k A W F σ ((tst f env).bind h) Q)
    (g : ∀ p F' H', Sub F F' → Sta k A F' H' σ p.2 → PostE k A W F' σ (h p) Q → R p.1 H') : PostE k A W F σ (f env) fun x H1 => ∃ c, x = .bl c ∧ R c H1 := by
  unfold PL.tst at q
  cases e : f env with
  | ok p =>
    rw [e] at q
    intro F1 H1 v1 s1 S1 r1
    obtain ⟨x, e1⟩ := p
    simp only [Res.bind_ok] at q r1
    cases x with
    | slot j => exact q.elim
    | new o => exact q.elim
    | val d =>
      cases d with
      | bl c => cases r1; exact ⟨c, rfl, g (c, e1) F1 H1 s1 S1 (PostE.mono s1 q)⟩
      | _ => exact q.elim
  | ex x e1 => rw [e] at q; exact q
  | no => rw [e] at q; exact q
theorem ex_not {fa : FE} (h : EX X W a fa) : EX X W (.UnaryOp .Not a pos) (vnot fa) := by
  obtain ⟨t, p, r⟩ := h
  exact ⟨_, pe_not p, fun A F H σ env Q S q => r A F H σ env _ S (q.tst fun p F1 H1 s1 S1 q1 => q1 F1 H1 _ (.refl _) S1 (.bl _))⟩
theorem ex_one {op : BoolOp} {fa : FE} (h : EX X W a fa) : EX X W (.BoolOp op [a] pos) fa := let ⟨t, p, r⟩ := h; ⟨t, pe_one p, r⟩
theorem ex_and {fa fb : FE} (h : EX X W a fa) (h' : EX X W (.BoolOp .And (b :: rest) pos) fb) : EX X W (.BoolOp .And (a :: b :: rest) pos) (vand fa fb) := by
  obtain ⟨t, p, r⟩ := h
  obtain ⟨t', p', r'⟩ := h'
  refine ⟨_, pe_and p p', fun A F H σ env Q S q => r A F H σ env _ S (q.tst (R := fun c H1 => if c = true then t' σ H1 Q else Q (.bl false) H1) fun p F1 H1 s1 S1 q1 => ?_)⟩
  by_cases c : p.1 = true
  · rw [if_pos c] at q1 ⊢; exact r' A F1 H1 σ p.2 Q S1 q1
  · rw [if_neg c] at q1 ⊢; exact q1 F1 H1 _ (.refl _) S1 (.bl _)
theorem ex_or {fa fb : FE} (h : EX X W a fa) (h' : EX X W (.BoolOp .Or (b :: rest) pos) fb) : EX X W (.BoolOp .Or (a :: b :: rest) pos) (vor fa fb) := by
  obtain ⟨t, p, r⟩ := h
  obtain ⟨t', p', r'⟩ := h'
  refine ⟨_, pe_or p p', fun A F H σ env Q S q => r A F H σ env _ S (q.tst (R := fun c H1 => if c = true then Q (.bl true) H1 else t' σ H1 Q) fun p F1 H1 s1 S1 q1 => ?_)⟩
  by_cases c : p.1 = true
  · rw [if_pos c] at q1 ⊢; exact q1 F1 H1 _ (.refl _) S1 (.bl _)
  · rw [if_neg c] at q1 ⊢; exact r' A F1 H1 σ p.2 Q S1 q1
def vif (c : FT) (f g : FE) : FE := fun env => (c env).bind fun p => if p.1 = true then f p.2 else g p.2
theorem ex_if {c : Expr} {fa fb : FE} (hc : TX X W c f) (h : EX X W a fa) (h' : EX X W b fb) : EX X W (.IfExp c a b pos) (vif f fa fb) := by
  obtain ⟨t0, p0, r0⟩ := hc
  obtain ⟨t, p, r⟩ := h
  obtain ⟨t', p', r'⟩ := h'
  refine ⟨_, pe_ifExp p0 p p', fun A F H σ env Q S q => r0 A F H σ env _ S (q.afT fun p F1 H1 s1 S1 q1 => ?_)⟩
  by_cases c : p.1 = true
  · rw [if_pos c] at q1 ⊢; exact r A F1 H1 σ p.2 Q S1 q1
  · rw [if_neg c] at q1 ⊢; exact r' A F1 H1 σ p.2 Q S1 q1
end
end PL

/-! PL: operations by values. -/
namespace PL
open PySem PySem.Spec PyProof.Rows L2

/-! ### as the kit's data -/
mutual
def toP : D → Option PyData
  | .non => some .none
  | .bl b => some (.bool b)
  | .int i => some (.int i)
  | .str s => some (.str s)
  | .tup ds => (toPs ds).map .tuple
  | .lst ds => (toPs ds).map .list
  | _ => none
def toPs : List D → Option (List PyData)
  | [] => some []
  | d :: ds => match toP d, toPs ds with
    | some x, some xs => some (x :: xs)
    | _, _ => none
end
theorem toPs_map {α : Type} (f : α → D) (g : α → PyData) (h : ∀ a, toP (f a) = some (g a)) : ∀ l : List α, toPs (l.map f) = some (l.map g)
  | [] => by simp [toPs]
  | a :: l => by simp [toPs, h, toPs_map f g h l]
section
variable {k : Kn} {H : Hp}
mutual
theorem Rep.dp : ∀ {d : D} {v : V} {p : PyData}, Rep k H d v → toP d = some p → Dp k.K H v p
  | .non, _, _, .non, e => by simp [toP] at e; subst e; exact .non
  | .bl b, _, _, .bl _, e => by simp [toP] at e; subst e; exact .bl b
  | .int i, _, _, .int _, e => by simp [toP] at e; subst e; exact .int i
  | .str s, _, _, .str _, e => by simp [toP] at e; subst e; exact .str s
  | .tup ds, _, _, .tup h r, e => by
    simp only [toP] at e
    cases q : toPs ds with
    | none => rw [q] at e; cases e
    | some xs => rw [q] at e; cases e; exact .tup h (Reps.dp r q)
  | .lst ds, _, _, .lst h r, e => by
    simp only [toP] at e
    cases q : toPs ds with
    | none => rw [q] at e; cases e
    | some xs => rw [q] at e; cases e; exact .lst (SqL.of h) (Reps.dp r q)
  | .dct _ _, _, _, _, e => by simp [toP] at e
  | .dctT _ _, _, _, _, e => by simp [toP] at e
  | .inst _ _ _, _, _, _, e => by simp [toP] at e
  | .fn _, _, _, _, e => by simp [toP] at e
  | .scr _, _, _, _, e => by simp [toP] at e
theorem Reps.dp : ∀ {ds : List D} {vs : List V} {ps : List PyData}, Reps k H ds vs → toPs ds = some ps → DpAll k.K H vs ps
  | [], _, _, .nil, e => by simp [toPs] at e; subst e; exact .nil
  | d :: ds, _, _, .cons h t, e => by
    simp only [toPs] at e
    split at e
    · rename_i x xs e1 e2
      cases e
      exact .cons (Rep.dp h e1) (Reps.dp t e2)
    · cases e
end
theorem View.rep {F : Hp} {d : D} {v : V} (s : Sub F H) (h : View k F H d v) : Rep k H d v := by
  rcases h with h | ⟨o, p, u, rfl, rfl, hp, r⟩
  · exact h.mono s
  · exact (r.mono s).rep hp
end

/-! ### new objects -/
section
variable {k : Kn} {A : Amb} {F H : Hp} {σ : L2.St} {env : En} {Q : VK}
theorem Sta.newL (S : Sta k A F H σ env) {ds : List D} {vs : List V} (r : Reps k F ds vs)
    (q : ∀ F' H' v, Sub F F' → Sta k A F' H' σ env → RArg k A F' H' σ env (.new (.lst ds)) v → Q v H') : ∀ p, H p = none → Q (.ref p) (upd H p (.lst vs)) := fun p hp =>
  let ⟨a, b, c⟩ := S.fresh hp
  q F _ _ (.refl F) (S.grow hp) ⟨p, _, rfl, upd_same, .lst r, a, b, c⟩
theorem Sta.newT (S : Sta k A F H σ env) {ds : List D} {vs : List V} (r : Reps k F ds vs)
    (q : ∀ F' H' v, Sub F F' → Sta k A F' H' σ env → RArg k A F' H' σ env (.val (.tup ds)) v → Q v H') : ∀ p, H p = none → Q (.ref p) (upd H p (.tup vs)) := fun p hp =>
  let ⟨a, _, _⟩ := S.fresh hp
  q _ _ _ (.new a) (S.lay hp) (.tup (SqT.of upd_same) (r.mono (.new a)))
end

/-! ### + - * // % ** -/
def vI (i : Int) : Option Arg := some (.val (.int i))
def vB (b : Bool) : Option Arg := some (.val (.bl b))
def gAddI : D → D → Option Arg
  | .int i, .int j => vI (i + j)
  | _, _ => none
def gAddS : D → D → Option Arg
  | .str a, .str b => if a.length + b.length ≤ sizeLine then some (.val (.str (a ++ b))) else none
  | _, _ => none
def gAddL : D → D → Option Arg
  | .lst a, .lst b => if a.length + b.length ≤ sizeLine then some (.new (.lst (a ++ b))) else none
  | _, _ => none
def gAddT : D → D → Option Arg
  | .tup a, .tup b => if a.length + b.length ≤ sizeLine then some (.val (.tup (a ++ b))) else none
  | _, _ => none
def gSub : D → D → Option Arg
  | .int i, .int j => vI (i - j)
  | _, _ => none
def gMulI : D → D → Option Arg
  | .int i, .int j => if (-(2 ^ 64) < i ∧ i < 2 ^ 64) ∨ (-(2 ^ 64) < j ∧ j < 2 ^ 64) then vI (i * j) else none
  | _, _ => none
def gMulL : D → D → Option Arg
  | .lst a, .int j => if -(2 ^ 63) ≤ j ∧ j < 2 ^ 63 ∧ a.length * j.toNat ≤ sizeLine then some (.new (.lst (List.replicate j.toNat a).flatten)) else none
  | _, _ => none
def gMulT : D → D → Option Arg
  | .tup a, .int j => if a ≠ [] ∧ 2 ≤ j ∧ j ≤ 1000 ∧ a.length ≤ 1000 then some (.val (.tup (List.replicate j.toNat a).flatten)) else none
  | _, _ => none
def gDiv : D → D → Option Arg
  | .int i, .int j => if 0 < j ∧ j < 2 ^ 64 then vI (i / j) else none
  | _, _ => none
def gMod : D → D → Option Arg
  | .int i, .int j => if 0 < j then vI (i % j) else none
  | _, _ => none
def gPow : D → D → Option Arg
  | .int i, .int j => if 0 ≤ j ∧ j ≤ 1000000 ∧ i.natAbs < 2 ^ 64 then vI (i ^ j.toNat) else none
  | _, _ => none
section
variable {k : Kn}
/-- two ints to an int -/
theorem bok_I {C : Int → Int → Prop} {g : Int → Int → Int} {f : D → D → Option Arg} (h : ∀ a b z, f a b = some z → ∃ i j, a = .int i ∧ b = .int j ∧ C i j ∧ z = .val (.int (g i j))) : BOk k (rI C fun i j => .int (g i j)) f := by
  intro A F H σ env x y a b z Q S va vb e q
  obtain ⟨i, j, rfl, rfl, c, rfl⟩ := h a b z e
  cases va.int; cases vb.int
  exact ⟨i, j, rfl, rfl, c, q F H _ (.refl F) S (.int _)⟩
theorem bok_I0 {g : Int → Int → Int} {f : D → D → Option Arg} (h : ∀ a b z, f a b = some z → ∃ i j, a = .int i ∧ b = .int j ∧ z = .val (.int (g i j))) : BOk k (rI0 fun i j => .int (g i j)) f := by
  intro A F H σ env x y a b z Q S va vb e q
  obtain ⟨i, j, rfl, rfl, rfl⟩ := h a b z e
  cases va.int; cases vb.int
  exact ⟨i, j, rfl, rfl, q F H _ (.refl F) S (.int _)⟩
theorem bok_B0 {g : Int → Int → Bool} {f : D → D → Option Arg} (h : ∀ a b z, f a b = some z → ∃ i j, a = .int i ∧ b = .int j ∧ z = .val (.bl (g i j))) : BOk k (rI0 fun i j => .bl (g i j)) f := by
  intro A F H σ env x y a b z Q S va vb e q
  obtain ⟨i, j, rfl, rfl, rfl⟩ := h a b z e
  cases va.int; cases vb.int
  exact ⟨i, j, rfl, rfl, q F H _ (.refl F) S (.bl _)⟩
theorem bok_addI : BOk k (rI0 fun i j => .int (i + j)) gAddI := bok_I0 fun a b z e => by
  unfold gAddI at e; split at e
  · cases e; exact ⟨_, _, rfl, rfl, rfl⟩
  · cases e
theorem bok_sub : BOk k (rI0 fun i j => .int (i - j)) gSub := bok_I0 fun a b z e => by
  unfold gSub at e; split at e
  · cases e; exact ⟨_, _, rfl, rfl, rfl⟩
  · cases e
theorem bok_mulI : BOk k (rI CMul fun i j => .int (i * j)) gMulI := bok_I fun a b z e => by
  unfold gMulI at e; split at e
  · split at e
    · rename_i c; cases e; exact ⟨_, _, rfl, rfl, c, rfl⟩
    · cases e
  · cases e
theorem log2_lt {j : Int} (h : j < 2 ^ 64) (h0 : 0 < j) : j.natAbs.log2 < 9000 := by
  have h1 : j.natAbs < 2 ^ 64 := by omega
  exact Nat.lt_of_lt_of_le (Nat.log2_lt (by omega) |>.mpr h1) (by decide)
theorem bok_div : BOk k (rI CDivW fun i j => .int (i / j)) gDiv := bok_I fun a b z e => by
  unfold gDiv at e; split at e
  · split at e
    · rename_i c; cases e; exact ⟨_, _, rfl, rfl, ⟨c.1, log2_lt c.2 c.1⟩, rfl⟩
    · cases e
  · cases e
theorem bok_mod : BOk k (rI (fun _ j => 0 < j) fun i j => .int (i % j)) gMod := bok_I fun a b z e => by
  unfold gMod at e; split at e
  · split at e
    · rename_i c; cases e; exact ⟨_, _, rfl, rfl, c, rfl⟩
    · cases e
  · cases e
theorem bok_pow : BOk k (rI CPow fun i j => .int (i ^ j.toNat)) gPow := bok_I fun a b z e => by
  unfold gPow at e; split at e
  · split at e
    · rename_i c; cases e; exact ⟨_, _, rfl, rfl, c, rfl⟩
    · cases e
  · cases e
theorem bok_addS : BOk k (fun x y H Q => ∃ i j, x = .str i ∧ y = .str j ∧ i.length + j.length ≤ sizeLine ∧ Q (.str (i ++ j)) H) gAddS := by
  intro A F H σ env x y a b z Q S va vb e q
  unfold gAddS at e
  split at e
  · split at e
    · rename_i c; cases e; cases va.str; cases vb.str
      exact ⟨_, _, rfl, rfl, c, q F H _ (.refl F) S (.str _)⟩
    · cases e
  · cases e
theorem bok_addL : BOk k rCat gAddL := by
  intro A F H σ env x y a b z Q S va vb e q
  unfold gAddL at e
  split at e
  · split at e
    · rename_i c; cases e
      obtain ⟨l, vs, rfl, h1, r1⟩ := va.lst S.sub
      obtain ⟨m, us, rfl, h2, r2⟩ := vb.lst S.sub
      exact ⟨l, m, vs, us, rfl, rfl, h1, h2, by rw [r1.len, r2.len]; exact c, S.newL (r1.append r2) q⟩
    · cases e
  · cases e
theorem Reps.nil_iff {H : Hp} {ds : List D} {vs : List V} (r : Reps k H ds vs) : vs = [] ↔ ds = [] := by
  have := r.len
  rw [← List.length_eq_zero_iff, ← List.length_eq_zero_iff, this]
theorem bok_addT : BOk k (rCatA k.K) gAddT := by
  intro A F H σ env x y a b z Q S va vb e q
  unfold gAddT at e
  split at e
  · split at e
    · rename_i c; cases e
      obtain ⟨l, vs, rfl, h1, r1⟩ := va.tup
      obtain ⟨m, us, rfl, h2, r2⟩ := vb.tup
      refine ⟨l, m, vs, us, rfl, rfl, S.sub.t h1, S.sub.t h2, by rw [r1.len, r2.len]; exact c, fun z => ?_, fun _ z => ?_, fun _ _ => S.newT (r1.append r2) q⟩
      · have z' := r1.nil_iff.mp z
        subst z'
        exact q F H _ (.refl F) S (.tup h2 r2)
      · have z' := r2.nil_iff.mp z
        subst z'
        rw [List.append_nil] at q
        exact q F H _ (.refl F) S (.tup h1 r1)
    · cases e
  · cases e
theorem bok_mulL : BOk k rRep gMulL := by
  intro A F H σ env x y a b z Q S va vb e q
  unfold gMulL at e
  split at e
  · split at e
    · rename_i c; cases e
      obtain ⟨l, vs, rfl, h1, r1⟩ := va.lst S.sub
      cases vb.int
      exact ⟨l, _, vs, rfl, rfl, h1, c.1, c.2.1, by rw [r1.len]; exact c.2.2, S.newL (r1.rep _) q⟩
    · cases e
  · cases e
theorem bok_mulT : BOk k (rRepT k.K) gMulT := by
  intro A F H σ env x y a b z Q S va vb e q
  unfold gMulT at e
  split at e
  · split at e
    · rename_i c; cases e
      obtain ⟨l, vs, rfl, h1, r1⟩ := va.tup
      cases vb.int
      exact ⟨l, _, vs, rfl, rfl, S.sub.t h1, fun z => c.1 (r1.nil_iff.mp z), c.2.1, c.2.2.1, by rw [r1.len]; exact c.2.2.2, S.newT (r1.rep _) q⟩
    · cases e
  · cases e
end
def gAdd : D → D → Option Arg := gor gAddI (gor gAddL (gor gAddT gAddS))
def gMul : D → D → Option Arg := gor gMulI (gor gMulL gMulT)
section
variable {X : Cx} {W : WP} {a b : Expr} {fa fb : FE} {pos : Pos}
theorem ex_add (ha : EX X W a fa) (hb : EX X W b fb) : EX X W (.BinOp a .Add b pos) (bop gAdd fa fb) :=
  ex_bin (op_add.or (op_cat.or (op_catA.or op_add_str))) (bok_addI.or (bok_addL.or (bok_addT.or bok_addS))) ha hb
theorem ex_sub (ha : EX X W a fa) (hb : EX X W b fb) : EX X W (.BinOp a .Sub b pos) (bop gSub fa fb) := ex_bin op_sub bok_sub ha hb
theorem ex_mul (ha : EX X W a fa) (hb : EX X W b fb) : EX X W (.BinOp a .Mult b pos) (bop gMul fa fb) := ex_bin (op_mul.or (op_rep.or op_repT)) (bok_mulI.or (bok_mulL.or bok_mulT)) ha hb
theorem ex_div (ha : EX X W a fa) (hb : EX X W b fb) : EX X W (.BinOp a .FloorDiv b pos) (bop gDiv fa fb) := ex_bin op_fdivW bok_div ha hb
theorem ex_mod (ha : EX X W a fa) (hb : EX X W b fb) : EX X W (.BinOp a .Mod b pos) (bop gMod fa fb) := ex_bin op_mod bok_mod ha hb
theorem ex_pow (ha : EX X W a fa) (hb : EX X W b fb) : EX X W (.BinOp a .Pow b pos) (bop gPow fa fb) := ex_bin op_pow bok_pow ha hb
/-- -a -/
def uop (g : D → Option Arg) (f : FE) : FE := fun env => (f env).bind fun p => match (cont p.1 p.2).bind g with
  | some r => .ok (r, p.2)
  | none => .no
def gNeg : D → Option Arg
  | .int i => vI (-i)
  | _ => none
theorem ex_neg (ha : EX X W a fa) : EX X W (.UnaryOp .USub a pos) (uop gNeg fa) := by
  obtain ⟨t, p, r⟩ := ha
  refine ⟨_, pe_un un_neg p, fun A F H σ env Q S q => r A F H σ env _ S (q.afE fun p F1 H1 v1 s1 S1 r1 q1 => ?_)⟩
  obtain ⟨x, e⟩ := p
  dsimp only at q1 r1
  cases c : cont x e with
  | none => rw [c] at q1; exact q1.elim
  | some d =>
    rw [c] at q1
    have vw := S1.view r1 c
    cases d with
    | int i =>
      cases vw.int
      exact ⟨i, rfl, q1 F1 H1 _ (.refl _) S1 (.int _)⟩
    | _ => exact q1.elim
end

/-! ### comparisons -/
def gLt : D → D → Option Arg
  | .int i, .int j => vB (decide (i < j))
  | _, _ => none
def gLe : D → D → Option Arg
  | .int i, .int j => vB (decide (i ≤ j))
  | _, _ => none
def gGt : D → D → Option Arg
  | .int i, .int j => vB (decide (j < i))
  | _, _ => none
def gGe : D → D → Option Arg
  | .int i, .int j => vB (decide (j ≤ i))
  | _, _ => none
def eqD (neg : Bool) (a b : D) : Option Arg :=
  match toP a, toP b with
  | some x, some y => if SeqAt.shaped x = true ∧ SeqAt.shaped y = true then vB (if neg then !PyData.eqv x y else PyData.eqv x y) else none
  | _, _ => none
def gEq : D → D → Option Arg
  | .int i, .int j => vB (decide (i = j))
  | .str i, .str j => vB (decide (i = j))
  | a, b => eqD false a b
def gNe : D → D → Option Arg
  | .int i, .int j => vB (!decide (i = j))
  | .str i, .str j => vB (!decide (i = j))
  | a, b => eqD true a b
def isNon : D → Bool
  | .non => true
  | _ => false
def gIs : D → D → Option Arg
  | a, .non => vB (isNon a)
  | _, _ => none
def gNot : D → D → Option Arg
  | a, .non => vB (!isNon a)
  | _, _ => none
section
variable {k : Kn}
theorem bok_lt : BOk k (rI0 fun i j => .bl (decide (i < j))) gLt := bok_B0 fun a b z e => by
  unfold gLt at e; split at e
  · cases e; exact ⟨_, _, rfl, rfl, rfl⟩
  · cases e
theorem bok_le : BOk k (rI0 fun i j => .bl (decide (i ≤ j))) gLe := bok_B0 fun a b z e => by
  unfold gLe at e; split at e
  · cases e; exact ⟨_, _, rfl, rfl, rfl⟩
  · cases e
theorem bok_gt : BOk k (rI0 fun i j => .bl (decide (j < i))) gGt := bok_B0 fun a b z e => by
  unfold gGt at e; split at e
  · cases e; exact ⟨_, _, rfl, rfl, rfl⟩
  · cases e
theorem bok_ge : BOk k (rI0 fun i j => .bl (decide (j ≤ i))) gGe := bok_B0 fun a b z e => by
  unfold gGe at e; split at e
  · cases e; exact ⟨_, _, rfl, rfl, rfl⟩
  · cases e
theorem eqD_ok {neg : Bool} {a b : D} {z : Arg} (e : eqD neg a b = some z) : ∃ x y, toP a = some x ∧ toP b = some y ∧ SeqAt.shaped x = true ∧ SeqAt.shaped y = true ∧ z = .val (.bl (if neg then !PyData.eqv x y else PyData.eqv x y)) := by
  unfold eqD at e
  split at e
  · split at e
    · rename_i x y e1 e2 c; cases e; exact ⟨_, _, e1, e2, c.1, c.2, rfl⟩
    · cases e
  · cases e
theorem bok_eq : BOk k (fun x y H Q => rEq x y H Q ∨ rEqD k.K x y H Q) gEq := by
  intro A F H σ env x y a b z Q S va vb e q
  unfold gEq at e
  split at e
  · rename_i i j
    cases e; cases va.int; cases vb.int
    exact .inl ⟨rfl, by rw [dec_int, Bool.beq_eq_decide_eq]; exact q F H _ (.refl F) S (.bl _)⟩
  · rename_i i j
    cases e; cases va.str; cases vb.str
    exact .inl ⟨rfl, by rw [dec_str, Bool.beq_eq_decide_eq]; exact q F H _ (.refl F) S (.bl _)⟩
  · obtain ⟨p, r, e1, e2, s1, s2, rfl⟩ := eqD_ok e
    exact .inr ⟨p, r, (va.rep S.sub).dp e1, (vb.rep S.sub).dp e2, s1, s2, q F H _ (.refl F) S (.bl _)⟩
theorem bok_ne : BOk k (fun x y H Q => rNe x y H Q ∨ rNeD k.K x y H Q) gNe := by
  intro A F H σ env x y a b z Q S va vb e q
  unfold gNe at e
  split at e
  · rename_i i j
    cases e; cases va.int; cases vb.int
    exact .inl ⟨rfl, by rw [dec_int, Bool.beq_eq_decide_eq]; exact q F H _ (.refl F) S (.bl _)⟩
  · rename_i i j
    cases e; cases va.str; cases vb.str
    exact .inl ⟨rfl, by rw [dec_str, Bool.beq_eq_decide_eq]; exact q F H _ (.refl F) S (.bl _)⟩
  · obtain ⟨p, r, e1, e2, s1, s2, rfl⟩ := eqD_ok e
    exact .inr ⟨p, r, (va.rep S.sub).dp e1, (vb.rep S.sub).dp e2, s1, s2, q F H _ (.refl F) S (.bl _)⟩
theorem View.isN {F H : Hp} {d : D} {v : V} (h : View k F H d v) : decide (v = .non) = isNon d := by
  rcases h with h | ⟨o, p, u, rfl, rfl, _⟩
  · cases h <;> rfl
  · cases o <;> rfl
theorem bok_is : BOk k (fun x y H Q => y = .non ∧ Q (.bl (decide (x = .non))) H) gIs := by
  intro A F H σ env x y a b z Q S va vb e q
  cases b <;> first | (cases e; done) | skip
  cases e
  cases vb.non
  exact ⟨rfl, by rw [va.isN]; exact q F H _ (.refl F) S (.bl _)⟩
theorem bok_isnot : BOk k (fun x y H Q => y = .non ∧ Q (.bl (!decide (x = .non))) H) gNot := by
  intro A F H σ env x y a b z Q S va vb e q
  cases b <;> first | (cases e; done) | skip
  cases e
  cases vb.non
  exact ⟨rfl, by rw [va.isN]; exact q F H _ (.refl F) S (.bl _)⟩
end
end PL

/-! PL: arguments, displays, built-in calls, subscripts. -/
namespace PL
open PySem PySem.Spec PyProof.Rows L2

/-! ### holding: an argument's value for good -/
def hold (x : Arg) (env : En) : Option (D × En) :=
  match x with
  | .val d => some (d, env)
  | .new o => some (o.toD, env)
  | .slot j => (match env[j]? with
    | some (some (.fz d)) => some (d, env)
    | some (some (.ow o)) => some (o.toD, env.set j (some (.fz o.toD)))
    | _ => none)
def holds : List Arg → En → Option (List D × En)
  | [], env => some ([], env)
  | x :: xs, env => (match hold x env with
    | some p => (match holds xs p.2 with
      | some q => some (p.1 :: q.1, q.2)
      | none => none)
    | none => none)
theorem get_set_ne {env : En} {i j : Nat} {x : Option Sl} (h : i ≠ j) : (env.set j x)[i]? = env[i]? := List.getElem?_set_ne (Ne.symm h)
theorem get_set_eq {env : En} {j : Nat} {x y : Option Sl} (h : env[j]? = some y) : (env.set j x)[j]? = some x := by
  rw [List.getElem?_set_self']; rw [h]; rfl
section
variable {k : Kn} {A : Amb} {F H : Hp} {σ : L2.St} {env : En}
/-- a slot's object is frozen: the slot may still be read -/
theorem Sta.frzAt (S : Sta k A F H σ env) {j : Nat} {o : O} (h : env[j]? = some (some (.ow o))) :
    ∃ F' v, Sub F F' ∧ Sta k A F' H σ (env.set j (some (.fz o.toD))) ∧ σ[j]? = some (some v) ∧ Rep k F' o.toD v := by
  obtain ⟨p, u, e1, hp, ro, hF, hK⟩ := S.at (.inl h)
  have hr : Rep k (upd F p u) o.toD (.ref p) := (ro.mono (.new hF)).rep upd_same
  have back : ∀ {i : Nat} {o' : O}, OwnAt (env.set j (some (.fz o.toD))) i o' → i ≠ j ∧ OwnAt env i o' := fun {i o'} z => by
    have ne : i ≠ j := fun q => by
      subst q
      rcases z with z | z <;> (rw [get_set_eq h] at z; cases z)
    refine ⟨ne, ?_⟩
    rcases z with z | z
    · exact .inl (by rw [get_set_ne ne] at z; exact z)
    · exact .inr (by rw [get_set_ne ne] at z; exact z)
  refine ⟨upd F p u, .ref p, .new hF, ⟨fun a w e => ?_, S.kp, S.f0.trans (.new hF), fun a w e => ?_, fun i sl e => ?_, fun i o' q a b => ?_, fun i i' o' u' q a b c d => ?_, by rw [List.length_set]; exact S.len, fun i o' e => ?_⟩, e1, hr⟩
  · by_cases q : a = p
    · subst q; rw [upd_same] at e; cases e; exact hp
    · rw [upd_ne q] at e; exact S.sub a w e
  · by_cases q : a = p
    · subst q; exact .inr hK
    · rw [upd_ne q] at e; exact S.frz a w e
  · by_cases q : i = j
    · subst q
      rw [get_set_eq h] at e; cases e
      exact ⟨_, e1, hr⟩
    · rw [get_set_ne q] at e
      obtain ⟨v, e2, r⟩ := S.rel i sl e
      refine ⟨v, e2, ?_⟩
      cases sl with
      | fz d => exact r.mono (.new hF)
      | ow o => obtain ⟨q, w, rfl, hq, r⟩ := r; exact ⟨q, w, rfl, hq, r.mono (.new hF)⟩
      | mu o => obtain ⟨q, w, rfl, hq, r⟩ := r; exact ⟨q, w, rfl, hq, r.mono (.new hF)⟩
  · obtain ⟨ne, z⟩ := back a
    have nq : q ≠ p := fun w => by subst w; exact ne (S.dis i j _ _ _ z (.inl h) b e1)
    rw [upd_ne nq]; exact S.own i o' q z b
  · exact S.dis i i' _ _ q (back a).2 (back b).2 c d
  · have z := back (i := i) (o' := o') (.inr e)
    rw [get_set_ne z.1] at e
    exact S.mus i o' e
theorem Sta.hold (S : Sta k A F H σ env) {x : Arg} {v : V} {d : D} {env' : En} (r : RArg k A F H σ env x v) (h : PL.hold x env = some (d, env')) :
    ∃ F', Sub F F' ∧ Sta k A F' H σ env' ∧ Rep k F' d v := by
  cases x with
  | val d' => cases h; exact ⟨F, .refl F, S, r⟩
  | new o =>
    cases h
    obtain ⟨F', a, b, c⟩ := S.settle r
    exact ⟨F', a, b, c⟩
  | slot j =>
    have r' : σ[j]? = some (some v) := r
    simp only [PL.hold] at h
    split at h
    · rename_i d' e
      cases h
      obtain ⟨w, e1, q⟩ := S.rel j _ e
      rw [e1] at r'; cases r'
      exact ⟨F, .refl F, S, q⟩
    · rename_i o e
      cases h
      obtain ⟨F', w, a, b, c, d'⟩ := S.frzAt e
      rw [c] at r'; cases r'
      exact ⟨F', a, b, d'⟩
    · cases h
end
theorem Sta.holds {k : Kn} {A : Amb} {H : Hp} {σ : L2.St} : ∀ {F : Hp} {env env0 : En} {xs : List Arg} {vs : List V} {ds : List D} {env' : En}, Sta k A F H σ env → RArgs k A F H σ env0 xs vs → PL.holds xs env = some (ds, env') →
    ∃ F', Sub F F' ∧ Sta k A F' H σ env' ∧ Reps k F' ds vs
  | F, env, env0, _, _, ds, env', S, .nil, h => by cases h; exact ⟨F, .refl F, S, .nil⟩
  | F, env, env0, _, _, ds, env', S, .cons (x := x) (v := v) (xs := xs) r t, h => by
    simp only [PL.holds] at h
    split at h
    · rename_i p e1
      split at h
      · rename_i q e2
        cases h
        have r' : RArg k A F H σ env (PL.settle x) v := by cases x <;> exact r
        obtain ⟨F1, a1, S1, r1⟩ := S.hold r' (d := p.1) (env' := p.2) e1
        obtain ⟨F2, a2, S2, r2⟩ := Sta.holds (env0 := p.2) S1 (t.keep a1) (ds := q.1) (env' := q.2) e2
        exact ⟨F2, a1.trans a2, S2, .cons (r1.mono a2) r2⟩
      · cases h
    · cases h

/-! ### argument lists, displays -/
def anil : FA := fun env => .ok ([], env)
def acons (f : FE) (g : FA) : FA := fun env => (f env).bind fun p => (g p.2).bind fun q => .ok (settle p.1 :: q.1, q.2)
section
variable {X : Cx} {W : WP} {pos : Pos} {e : Expr} {es : List Expr} {f : FE} {g : FA}
theorem ax_nil : AX X W [] anil := ⟨_, pa_nil, fun A F H σ env Q S q => q F H [] (.refl F) S .nil⟩
theorem ax_cons (h : EX X W e f) (h' : AX X W es g) (hs : starEach (e :: es) X.env = (false, eval e X.env) :: starEach es X.env := by rfl) : AX X W (e :: es) (acons f g) := by
  obtain ⟨t, p, r⟩ := h
  obtain ⟨t', p', r'⟩ := h'
  refine ⟨_, pa_cons p p' hs, fun A F H σ env Q S q => r A F H σ env _ S (q.afE fun p F1 H1 v1 s1 S1 r1 q1 => ?_)⟩
  obtain ⟨F1', s1', S1', r1'⟩ := S1.settle r1
  refine r' A F1' H1 σ p.2 _ S1' ((q1.mono s1').afA fun p2 F2 H2 vs s2 S2 r2 q2 => ?_)
  exact q2 F2 H2 _ (.refl _) S2 (.cons (r1'.keep (F' := F2) (H' := H2) (env' := p2.2) s2 |> fun z => by
    cases hx : p.1 <;> rw [hx] at z <;> exact z) r2)
def dsp (mk : List D → Arg) (g : FA) : FE := fun env => (g env).bind fun p => match holds p.1 p.2 with
  | some q => if q.1.length ≤ sizeLine then .ok (mk q.1, q.2) else .no
  | none => .no
theorem ex_tup {x1 : Nat} (h : AX X W es g) : EX X W (.Tuple es x1 pos) (dsp (fun ds => .val (.tup ds)) g) := by
  obtain ⟨t, p, r⟩ := h
  refine ⟨_, pe_tup p, fun A F H σ env Q S q => r A F H σ env _ S (q.afA fun p F1 H1 vs s1 S1 r1 q1 => ?_)⟩
  split at q1
  · rename_i ds e1
    split at q1
    · rename_i c
      obtain ⟨F2, s2, S2, r2⟩ := S1.holds r1 (ds := ds.1) (env' := ds.2) e1
      exact ⟨by rw [r2.len]; exact c, S2.newT r2 fun F' H' v a b c => q1 F' H' v (s2.trans a) b c⟩
    · exact q1.elim
  · exact q1.elim
theorem ex_lst (h : AX X W es g) : EX X W (.List es pos) (dsp (fun ds => .new (.lst ds)) g) := by
  obtain ⟨t, p, r⟩ := h
  refine ⟨_, pe_lst p, fun A F H σ env Q S q => r A F H σ env _ S (q.afA fun p F1 H1 vs s1 S1 r1 q1 => ?_)⟩
  split at q1
  · rename_i ds e1
    split at q1
    · rename_i c
      obtain ⟨F2, s2, S2, r2⟩ := S1.holds r1 (ds := ds.1) (env' := ds.2) e1
      exact ⟨by rw [r2.len]; exact c, S2.newL r2 fun F' H' v a b c => q1 F' H' v (s2.trans a) b c⟩
    · exact q1.elim
  · exact q1.elim
end

/-! ### built-ins called by values -/
def conts : List Arg → En → Option (List D)
  | [], _ => some []
  | x :: xs, env => (match cont x env, conts xs env with
    | some d, some ds => some (d :: ds)
    | _, _ => none)
inductive Vws (k : Kn) (F H : Hp) : List D → List V → Prop
  | nil : Vws k F H [] []
  | cons {d : D} {v : V} {ds : List D} {vs : List V} : View k F H d v → Vws k F H ds vs → Vws k F H (d :: ds) (v :: vs)
theorem Sta.views {k : Kn} {A : Amb} {F H : Hp} {σ : L2.St} {env : En} (S : Sta k A F H σ env) : ∀ {xs : List Arg} {vs : List V} {ds : List D}, RArgs k A F H σ env xs vs → conts xs env = some ds → Vws k F H ds vs
  | _, _, _, .nil, h => by cases h; exact .nil
  | _, _, _, .cons r t, h => by
    simp only [conts] at h
    split at h
    · rename_i d ds e1 e2
      cases h
      exact .cons (S.view r e1) (Sta.views S t e2)
    · cases h
def COk (k : Kn) (r : List V → Hp → VK → Prop) (g : List D → Option Arg) : Prop :=
  ∀ (A : Amb) (F H : Hp) (σ : L2.St) (env : En) (vs : List V) (ds : List D) (z : Arg) (Q : VK), Sta k A F H σ env → Vws k F H ds vs → g ds = some z →
    (∀ F' H' v, Sub F F' → Sta k A F' H' σ env → RArg k A F' H' σ env z v → Q v H') → r vs H Q
def cor (g g' : List D → Option Arg) : List D → Option Arg := fun a => (g a).orElse fun _ => g' a
theorem COk.or {k : Kn} {r r' : List V → Hp → VK → Prop} {g g' : List D → Option Arg} (h : COk k r g) (h' : COk k r' g') : COk k (fun xs H Q => r xs H Q ∨ r' xs H Q) (cor g g') := by
  intro A F H σ env vs ds z Q S va e q
  cases c : g ds with
  | some w =>
    have e' : some w = some z := by simpa [cor, c] using e
    cases e'
    exact .inl (h A F H σ env vs ds _ Q S va c q)
  | none =>
    have e' : g' ds = some z := by simpa [cor, c] using e
    exact .inr (h' A F H σ env vs ds z Q S va e' q)
def cbn (g : List D → Option Arg) (fa : FA) : FE := fun env => (fa env).bind fun p => match (conts p.1 p.2).bind g with
  | some r => .ok (r, p.2)
  | none => .no
section
variable {X : Cx} {W : WP} {pos p : Pos} {e : Expr} {es : List Expr} {fa : FA} {x : Str} {id T : String} {r : List V → Hp → VK → Prop} {g : List D → Option Arg}
theorem cbn_ok {t : TA} (hg : COk (kn X) r g) (ra : ∀ (A : Amb) (F H : Hp) (σ : L2.St) (env : En) (Q : List V → Hp → Prop), Sta (kn X) A F H σ env → PostA (kn X) A W F σ (fa env) Q → t σ H Q) :
    ∀ (A : Amb) (F H : Hp) (σ : L2.St) (env : En) (Q : VK), Sta (kn X) A F H σ env → PostE (kn X) A W F σ (cbn g fa env) Q → tCB r t σ H Q := by
  intro A F H σ env Q S q
  refine ra A F H σ env _ S (q.afA fun p F1 H1 vs s1 S1 r1 q1 => ?_)
  cases c : conts p.1 p.2 with
  | none => simp only [c, Option.bind_none] at q1; exact q1.elim
  | some ds =>
    simp only [c, Option.bind_some] at q1
    split at q1
    · rename_i z ez
      exact hg A F1 H1 σ p.2 vs ds z Q S1 (S1.views r1 c) ez fun F' H' v a b c => q1 F' H' v a b c
    · exact q1.elim
theorem ex_callB (hc : CallR X (.builtin id) r) (hg : COk (kn X) r g) (hgl : Gl X x) (hm : X.mg x = none) (hv : bootBuiltins x = some (.builtin id)) (ha : AX X W (e :: es) fa) (hn : x ≠ "__name__" := by decide) (hd : (x == ("__debug__" : Str)) = false := by decide)
    (he : starEach (e :: es) X.env = (false, eval e X.env) :: starEach es X.env := by rfl) (hpl : (backTo pos (starEach es X.env)).any (·.1) = false := by rfl) : EX X W (.Call (.Name x p) (e :: es) [] pos) (cbn g fa) := by
  obtain ⟨t, pa, ra⟩ := ha
  exact ⟨_, pe_callB hc hgl hm hv pa hn hd he hpl, cbn_ok hg ra⟩
theorem ex_callTy (hc : CallR X (.type T) r) (hg : COk (kn X) r g) (hgl : Gl X x) (hm : X.mg x = none) (hv : bootBuiltins x = some (.type T)) (ha : AX X W (e :: es) fa) (hn : x ≠ "__name__" := by decide) (hd : (x == ("__debug__" : Str)) = false := by decide)
    (he : starEach (e :: es) X.env = (false, eval e X.env) :: starEach es X.env := by rfl) (hpl : (backTo pos (starEach es X.env)).any (·.1) = false := by rfl) : EX X W (.Call (.Name x p) (e :: es) [] pos) (cbn g fa) := by
  obtain ⟨t, pa, ra⟩ := ha
  exact ⟨_, pe_callTy hc hgl hm hv pa hn hd he hpl, cbn_ok hg ra⟩
end
end PL

/-! PL: statements. -/
namespace PL
open PySem PySem.Spec PyProof.Rows L2

inductive RS where
  | nx (e : En)
  | rt (r : Sl) (e : En)
  | bk (e : En)
  | ct (e : En)
  | ex (x : Exn) (e : En)
  | no
abbrev FS := En → RS
def Res.go {α : Type} : Res α → (α → RS) → RS
  | .ok a, f => f a
  | .ex x e, _ => .ex x e
  | .no, _ => .no
@[simp] theorem Res.go_ok {α : Type} (a : α) (f : α → RS) : (Res.ok a).go f = f a := rfl
@[simp] theorem Res.go_no {α : Type} (f : α → RS) : (Res.no : Res α).go f = .no := rfl

def RRet (k : Kn) (A : Amb) (F H : Hp) (σ : L2.St) (env : En) : Sl → V → Prop
  | .fz d, v => Rep k F d v
  | .ow o, v => RArg k A F H σ env (.new o) v
  | .mu _, _ => False

def PostS (k : Kn) (A : Amb) (W : WP) (F : Hp) (r : RS) (D : Ends) : Prop :=
  match r with
  | .nx e => ∀ F' H' σ', Sub F F' → Sta k A F' H' σ' e → D.nx σ' H'
  | .rt x e => ∀ F' H' σ' v, Sub F F' → Sta k A F' H' σ' e → RRet k A F' H' σ' e x v → D.rt v H'
  | .bk e => ∀ F' H' σ', Sub F F' → Sta k A F' H' σ' e → D.bk σ' H'
  | .ct e => ∀ F' H' σ', Sub F F' → Sta k A F' H' σ' e → D.ct σ' H'
  | .ex x e => W.w A F x e
  | .no => False
section
variable {k : Kn} {A : Amb} {W : WP} {F F' : Hp} {σ : L2.St}
theorem PostS.mono {r : RS} {D : Ends} (s : Sub F F') (h : PostS k A W F r D) : PostS k A W F' r D := by
  cases r with
  | nx e => exact fun F1 H1 v a b => h F1 H1 v (s.trans a) b
  | rt x e => exact fun F1 H1 v w a b c => h F1 H1 v w (s.trans a) b c
  | bk e => exact fun F1 H1 v a b => h F1 H1 v (s.trans a) b
  | ct e => exact fun F1 H1 v a b => h F1 H1 v (s.trans a) b
  | ex x e => exact W.mono s h
  | no => exact h
theorem PostS.afE {r : Res (Arg × En)} {f : Arg × En → RS} {D : Ends} {Q1 : VK} (h : PostS k A W F (r.go f) D)
    (g : ∀ p F' H' v, Sub F F' → Sta k A F' H' σ p.2 → RArg k A F' H' σ p.2 p.1 v → PostS k A W F' (f p) D → Q1 v H') : PostE k A W F σ r Q1 := by
  cases r with
  | ok p => exact fun F' H' v a b c => g p F' H' v a b c (PostS.mono a h)
  | ex x e => exact h
  | no => exact h
theorem PostS.afT {r : Res (Bool × En)} {f : Bool × En → RS} {D : Ends} {Q1 : Bool → Hp → Prop} (h : PostS k A W F (r.go f) D)
    (g : ∀ p F' H', Sub F F' → Sta k A F' H' σ p.2 → PostS k A W F' (f p) D → Q1 p.1 H') : PostT k A W F σ r Q1 := by
  cases r with
  | ok p => exact fun F' H' a b => g p F' H' a b (PostS.mono a h)
  | ex x e => exact h
  | no => exact h
theorem PostS.afA {r : Res (List Arg × En)} {f : List Arg × En → RS} {D : Ends} {Q1 : List V → Hp → Prop} (h : PostS k A W F (r.go f) D)
    (g : ∀ p F' H' vs, Sub F F' → Sta k A F' H' σ p.2 → RArgs k A F' H' σ p.2 p.1 vs → PostS k A W F' (f p) D → Q1 vs H') : PostA k A W F σ r Q1 := by
  cases r with
  | ok p => exact fun F' H' v a b c => g p F' H' v a b c (PostS.mono a h)
  | ex x e => exact h
  | no => exact h
end

def SX (X : Cx) (W : WP) (st : Stmt) (f : FS) : Prop :=
  ∃ t, PS X st t ∧ ∀ (A : Amb) (F H : Hp) (σ : L2.St) (env : En) (D : Ends), Sta (kn X) A F H σ env → PostS (kn X) A W F (f env) D → t D σ H
def BX (X : Cx) (W : WP) (sts : List Stmt) (f : FS) : Prop :=
  ∃ t, PSs X sts t ∧ ∀ (A : Amb) (F H : Hp) (σ : L2.St) (env : En) (D : Ends), Sta (kn X) A F H σ env → PostS (kn X) A W F (f env) D → t D σ H

/-! ### slots are stored -/
def bindD (i : Nat) (d : D) (env : En) : Res En :=
  match env[i]? with
  | some (some (.mu _)) => .no
  | none => .no
  | _ => .ok (env.set i (some (.fz d)))
def bindA (i : Nat) (x : Arg) (env : En) : Res En :=
  match x with
  | .val d => bindD i d env
  | .new o => (match env[i]? with
    | some (some (.mu _)) => .no
    | none => .no
    | _ => .ok (env.set i (some (.ow o))))
  | .slot j => (match hold (.slot j) env with
    | some p => bindD i p.1 p.2
    | none => .no)
section
variable {k : Kn} {A : Amb} {F H : Hp} {σ : L2.St} {env : En}
theorem sget_ne {i j : Nat} {x : Option V} (h : i ≠ j) : (σ.set j x)[i]? = σ[i]? := List.getElem?_set_ne (Ne.symm h)
theorem sget_eq {j : Nat} {x y : Option V} (h : σ[j]? = some y) : (σ.set j x)[j]? = some x := by
  rw [List.getElem?_set_self']; rw [h]; rfl
theorem Sta.sthere (S : Sta k A F H σ env) {i : Nat} {y : Option Sl} (h : env[i]? = some y) : ∃ z, σ[i]? = some z := by
  have h1 : i < env.length := (List.getElem?_eq_some_iff.mp h).1
  rw [← S.len] at h1
  exact ⟨_, List.getElem?_eq_getElem h1⟩
/-- a slot's value is overwritten, dropped -/
theorem Sta.put (S : Sta k A F H σ env) {i : Nat} {y : Option Sl} (h : env[i]? = some y) (hm : ∀ o, y ≠ some (.mu o)) {sl : Option Sl} {v : Option V}
    (hs : ∀ s', sl = some s' → ∃ w, v = some w ∧ RSl k F H s' w ∧ (∀ o, s' ≠ .mu o) ∧ ((∃ o, s' = .ow o) → ∀ p, w = .ref p → F p = none ∧ A.Kp p = none ∧ ∀ (j : Nat) (u : O), OwnAt env j u → σ[j]? ≠ some (some (V.ref p)))) :
    Sta k A F H (σ.set i v) (env.set i sl) := by
  obtain ⟨z, hz⟩ := S.sthere h
  have ownI : ∀ {o : O}, OwnAt (env.set i sl) i o → ∃ w, v = some w ∧ ∀ p, w = .ref p → F p = none ∧ A.Kp p = none ∧ ∀ (j : Nat) (u : O), OwnAt env j u → σ[j]? ≠ some (some (V.ref p)) := fun {o} q => by
    rcases q with q | q
    · rw [get_set_eq h] at q; cases q
      obtain ⟨w, rfl, _, _, c⟩ := hs _ rfl
      exact ⟨w, rfl, c ⟨o, rfl⟩⟩
    · rw [get_set_eq h] at q; cases q
      obtain ⟨w, rfl, _, c, _⟩ := hs _ rfl
      exact absurd rfl (c o)
  have ownN : ∀ {j : Nat} {o : O}, j ≠ i → OwnAt (env.set i sl) j o → OwnAt env j o := fun {j o} ne q => by
    rcases q with q | q
    · rw [get_set_ne ne] at q; exact .inl q
    · rw [get_set_ne ne] at q; exact .inr q
  refine ⟨S.sub, S.kp, S.f0, S.frz, fun j s' e => ?_, fun j o p a b => ?_, fun j j' o u p a b c d => ?_, by rw [List.length_set, List.length_set]; exact S.len, fun j o e => ?_⟩
  · by_cases q : j = i
    · subst q
      rw [get_set_eq h] at e; cases e
      obtain ⟨w, rfl, r, _⟩ := hs _ rfl
      exact ⟨w, sget_eq hz, r⟩
    · rw [get_set_ne q] at e; rw [sget_ne q]; exact S.rel j s' e
  · by_cases q : j = i
    · subst q
      obtain ⟨w, rfl, c⟩ := ownI a
      rw [sget_eq hz] at b; cases b
      exact ⟨(c p rfl).1, (c p rfl).2.1⟩
    · rw [sget_ne q] at b; exact S.own j o p (ownN q a) b
  · by_cases q : j = i
    · by_cases q' : j' = i
      · rw [q, q']
      · subst q
        obtain ⟨w, rfl, c'⟩ := ownI a
        rw [sget_eq hz] at c; cases c
        rw [sget_ne q'] at d
        exact absurd d ((c' p rfl).2.2 j' u (ownN q' b))
    · by_cases q' : j' = i
      · subst q'
        obtain ⟨w, rfl, c'⟩ := ownI b
        rw [sget_eq hz] at d; cases d
        rw [sget_ne q] at c
        exact absurd c ((c' p rfl).2.2 j o (ownN q a))
      · rw [sget_ne q] at c; rw [sget_ne q'] at d
        exact S.dis j j' o u p (ownN q a) (ownN q' b) c d
  · by_cases q : j = i
    · subst q
      rw [get_set_eq h] at e; cases e
      obtain ⟨_, _, _, c, _⟩ := hs _ rfl
      exact absurd rfl (c o)
    · rw [get_set_ne q] at e; rw [sget_ne q]; exact S.mus j o e
theorem bindD_ok {i : Nat} {d : D} {env' : En} (h : bindD i d env = .ok env') : ∃ y, env[i]? = some y ∧ (∀ o, y ≠ some (.mu o)) ∧ env' = env.set i (some (.fz d)) := by
  unfold bindD at h
  split at h
  · cases h
  · cases h
  · rename_i n1 n2
    cases h
    cases e : env[i]? with
    | none => exact absurd e n2
    | some y => exact ⟨y, rfl, fun o z => n1 o (by rw [e, z]), rfl⟩
theorem Sta.bindD (S : Sta k A F H σ env) {i : Nat} {d : D} {v : V} {env' : En} (r : Rep k F d v) (h : PL.bindD i d env = .ok env') : Sta k A F H (σ.set i (some v)) env' := by
  obtain ⟨y, e, n, rfl⟩ := bindD_ok h
  exact S.put e n fun s' z => by
    cases z
    exact ⟨v, rfl, r, (fun o z => by cases z), (fun ⟨o, z⟩ => by cases z)⟩
theorem Sta.bindA (S : Sta k A F H σ env) {i : Nat} {x : Arg} {v : V} {env' : En} (r : RArg k A F H σ env x v) (h : PL.bindA i x env = .ok env') :
    ∃ F', Sub F F' ∧ Sta k A F' H (σ.set i (some v)) env' := by
  cases x with
  | val d => exact ⟨F, .refl F, S.bindD r h⟩
  | new o =>
    obtain ⟨p, u, rfl, hp, ro, hF, hK, hs⟩ := r
    simp only [PL.bindA] at h
    split at h
    · cases h
    · cases h
    · rename_i n1 n2
      cases h
      cases e : env[i]? with
      | none => exact absurd e n2
      | some y =>
        refine ⟨F, .refl F, S.put e (fun o z => n1 o (by rw [e, z])) fun s' z => ?_⟩
        cases z
        exact ⟨_, rfl, ⟨p, u, rfl, hp, ro⟩, (fun o z => by cases z), (fun _ q z => by cases z; exact ⟨hF, hK, hs⟩)⟩
  | slot j =>
    simp only [PL.bindA] at h
    split at h
    · rename_i p e
      obtain ⟨F', a, S', r'⟩ := S.hold r (d := p.1) (env' := p.2) e
      exact ⟨F', a, S'.bindD r' h⟩
    · cases h
/-- an owned object's content changes -/
def setO (env : En) (j : Nat) (o : O) : En :=
  match env[j]? with
  | some (some (.ow _)) => env.set j (some (.ow o))
  | some (some (.mu _)) => env.set j (some (.mu o))
  | _ => env
theorem Sta.write (S : Sta k A F H σ env) {j : Nat} {o o' : O} {p : Addr} {u' : HO} (h : OwnAt env j o) (hp : σ[j]? = some (some (V.ref p))) (r : RepO k F o' u') : Sta k A F (upd H p u') σ (setO env j o') := by
  obtain ⟨q, u, e1, hq, ro, hF, hK⟩ := S.at h
  rw [e1] at hp; cases hp
  have key : ∀ {i : Nat} {sl : Sl}, (setO env j o')[i]? = some (some sl) → (i ≠ j ∧ env[i]? = some (some sl)) ∨ (i = j ∧ ((sl = .ow o' ∧ ∃ w, env[j]? = some (some (.ow w))) ∨ (sl = .mu o' ∧ ∃ w, env[j]? = some (some (.mu w))))) := fun {i sl} e => by
    by_cases q : i = j
    · subst q
      refine .inr ⟨rfl, ?_⟩
      rcases h with h | h
      · simp only [setO, h] at e
        rw [get_set_eq h] at e; cases e
        exact .inl ⟨rfl, _, h⟩
      · simp only [setO, h] at e
        rw [get_set_eq h] at e; cases e
        exact .inr ⟨rfl, _, h⟩
    · refine .inl ⟨q, ?_⟩
      rcases h with h | h
      · simp only [setO, h] at e
        rwa [get_set_ne q] at e
      · simp only [setO, h] at e
        rwa [get_set_ne q] at e
  have own : ∀ {i : Nat} {w : O}, OwnAt (setO env j o') i w → ∃ w', OwnAt env i w' := fun {i w} z => by
    rcases z with z | z
    · rcases key z with ⟨_, z⟩ | ⟨rfl, _⟩
      · exact ⟨_, .inl z⟩
      · exact ⟨o, h⟩
    · rcases key z with ⟨_, z⟩ | ⟨rfl, _⟩
      · exact ⟨_, .inr z⟩
      · exact ⟨o, h⟩
  refine ⟨S.sub.mut hF, S.kp.mut hK, S.f0, S.frz, fun i sl e => ?_, fun i w a b c => ?_, fun i i' w w' a b c d e => ?_, ?_, fun i w e => ?_⟩
  · rcases key e with ⟨ne, e⟩ | ⟨rfl, e⟩
    · obtain ⟨v, e2, rr⟩ := S.rel i sl e
      refine ⟨v, e2, ?_⟩
      have nq : ∀ b, v = .ref b → (∃ w, OwnAt env i w) → b ≠ p := fun b hb ⟨w, hw⟩ z => by
        subst hb; subst z
        exact ne (S.dis i j _ _ _ hw h e2 e1)
      cases sl with
      | fz d => exact rr
      | ow o2 => obtain ⟨b, x, rfl, hb, rr⟩ := rr; exact ⟨b, x, rfl, by rw [upd_ne (nq b rfl ⟨_, .inl e⟩)]; exact hb, rr⟩
      | mu o2 => obtain ⟨b, x, rfl, hb, rr⟩ := rr; exact ⟨b, x, rfl, by rw [upd_ne (nq b rfl ⟨_, .inr e⟩)]; exact hb, rr⟩
    · rcases e with ⟨rfl, _⟩ | ⟨rfl, _⟩
      · exact ⟨_, e1, p, u', rfl, upd_same, r⟩
      · exact ⟨_, e1, p, u', rfl, upd_same, r⟩
  · obtain ⟨w', z⟩ := own b
    exact S.own i w' a z c
  · obtain ⟨x, z⟩ := own b
    obtain ⟨x', z'⟩ := own c
    exact S.dis i i' x x' a z z' d e
  · have : (setO env j o').length = env.length := by
      unfold setO; split <;> first | rw [List.length_set] | rfl
    rw [this]; exact S.len
  · rcases key e with ⟨ne, e⟩ | ⟨rfl, e⟩
    · exact S.mus i w e
    · rcases e with ⟨z, _⟩ | ⟨_, w', z⟩
      · cases z
      · exact S.mus _ w' z
end

/-! ### targets -/
abbrev FG := D → En → Res En
abbrev FGs := List D → En → Res En
/-- σ' is σ but for the slots ws -/
def Out (ws : List Nat) (σ σ' : L2.St) : Prop := σ'.length = σ.length ∧ ∀ i, i ∉ ws → σ'[i]? = σ[i]?
theorem Out.trans {ws us : List Nat} {σ σ1 σ2 : L2.St} (a : Out ws σ σ1) (b : Out us σ1 σ2) : Out (ws ++ us) σ σ2 :=
  ⟨b.1.trans a.1, fun i h => (b.2 i fun z => h (List.mem_append_right _ z)).trans (a.2 i fun z => h (List.mem_append_left _ z))⟩
def GX (X : Cx) (tg : Expr) (f : FG) (ws : List Nat) : Prop :=
  ∃ g, PG X tg g ∧ ∀ (A : Amb) (F H : Hp) (σ : L2.St) (env env' : En) (d : D) (v : V) (Q : L2.St → Hp → Prop), Sta (kn X) A F H σ env → Rep (kn X) F d v → f d env = .ok env' →
    (∀ σ', Out ws σ σ' → Sta (kn X) A F H σ' env' → Q σ' H) → g v σ H Q
def GXs (X : Cx) (tgs : List Expr) (f : FGs) (ws : List Nat) : Prop :=
  ∃ g, PGs X tgs g ∧ ∀ (A : Amb) (F H : Hp) (σ : L2.St) (env env' : En) (ds : List D) (vs : List V) (Q : L2.St → Hp → Prop), Sta (kn X) A F H σ env → Reps (kn X) F ds vs → f ds env = .ok env' →
    (∀ σ', Out ws σ σ' → Sta (kn X) A F H σ' env' → Q σ' H) → g vs σ H Q
def tgNil : FGs := fun ds env => match ds with
  | [] => .ok env
  | _ => .no
def tgCons (f : FG) (g : FGs) : FGs := fun ds env => match ds with
  | d :: r => (f d env).bind fun e => g r e
  | [] => .no
def tgTup (g : FGs) : FG := fun d env => match d with
  | .tup ds => g ds env
  | _ => .no
section
variable {X : Cx} {pos : Pos} {e : Expr} {es : List Expr}
theorem gx_name (i : Nat) {x : Str} (hN : X.N.Nodup) (hi : X.N[i]? = some x := by rfl) (hx : Loc X.env.scope x := by first | exact Or.inl rfl | exact Or.inr rfl) (hf : X.fn x = true ∨ X.env.scope.names.lookup x = some .local := by first | exact .inl rfl | exact .inr rfl | assumption) : GX X (.Name x pos) (bindD i) [i] :=
  ⟨_, pg_name hN hi hx hf, fun A F H σ env env' d v Q S r h q => q _ ⟨List.length_set, fun j hj => sget_ne fun z => hj (by rw [z]; exact List.mem_singleton_self _)⟩ (S.bindD r h)⟩
theorem gx_nil : GXs X [] tgNil [] := ⟨_, pgs_nil, fun A F H σ env env' ds vs Q S r h q => by
  cases r with
  | nil => cases h; exact ⟨rfl, q _ ⟨rfl, fun _ _ => rfl⟩ S⟩
  | cons _ _ => cases h⟩
theorem gx_cons {f : FG} {g : FGs} {ws us : List Nat} (h1 : GX X e f ws) (h2 : GXs X es g us) (hs : (assignEach (e :: es) X.env).map (·.2) = assign e X.env :: (assignEach es X.env).map (·.2) := by rfl) : GXs X (e :: es) (tgCons f g) (ws ++ us) := by
  obtain ⟨t, p, r⟩ := h1
  obtain ⟨t', p', r'⟩ := h2
  refine ⟨_, pgs_cons p p' hs, fun A F H σ env env' ds vs Q S rr h q => ?_⟩
  cases rr with
  | nil => cases h
  | cons a b =>
    simp only [tgCons] at h
    cases c : f _ env with
    | ok e1 =>
      rw [c] at h
      exact ⟨_, _, rfl, r A F H σ env e1 _ _ _ S a c fun σ1 o1 S1 => r' A F H σ1 e1 env' _ _ Q S1 b h fun σ2 o2 S2 => q σ2 (o1.trans o2) S2⟩
    | ex _ _ => rw [c] at h; cases h
    | no => rw [c] at h; cases h
theorem gx_tup {k : Nat} {g : FGs} {n : Nat} {ws : List Nat} (hc : X.calm = true) (h : GXs X es g ws) (hn : (assignEach es X.env).length = n := by rfl) (hst : (assignEach es X.env).findIdx? (·.1) = none := by rfl)
    (hl : ∀ ds env env', g ds env = .ok env' → ds.length = n) : GX X (.Tuple es k pos) (tgTup g) ws := by
  obtain ⟨t, p, r⟩ := h
  refine ⟨_, pg_tup hc p hn hst, fun A F H σ env env' d v Q S rr h q => ?_⟩
  cases d with
  | tup ds =>
    cases rr with
    | tup a b => exact ⟨_, _, rfl, S.sub.t a, by rw [b.len]; exact hl _ _ _ h, r A F H σ env env' ds _ Q S b h q⟩
  | _ => cases h
end
theorem tg_len0 : ∀ ds env env', tgNil ds env = .ok env' → ds.length = 0 := fun ds env env' h => by
  cases ds with
  | nil => rfl
  | cons _ _ => cases h
theorem tg_len {f : FG} {g : FGs} {n : Nat} (hl : ∀ ds env env', g ds env = .ok env' → ds.length = n) : ∀ ds env env', tgCons f g ds env = .ok env' → ds.length = n + 1 := fun ds env env' h => by
  cases ds with
  | nil => cases h
  | cons d r =>
    simp only [tgCons] at h
    cases c : f d env with
    | ok e1 => rw [c] at h; rw [List.length_cons, hl _ _ _ h]
    | ex _ _ => rw [c] at h; cases h
    | no => rw [c] at h; cases h

/-! ### simple statements -/
def sasg (i : Nat) (f : FE) : FS := fun env => (f env).go fun p => (bindA i p.1 p.2).go .nx
def sasgT (g : FG) (f : FE) : FS := fun env => (f env).go fun p => match hold p.1 p.2 with
  | some q => (g q.1 q.2).go .nx
  | none => .no
def sexp (f : FE) : FS := fun env => (f env).go fun p => .nx p.2
def sret (f : FE) : FS := fun env => (f env).go fun p => match p.1 with
  | .val d => .rt (.fz d) p.2
  | .new o => .rt (.ow o) p.2
  | .slot j => (match p.2[j]? with
    | some (some (.fz d)) => .rt (.fz d) p.2
    | some (some (.ow o)) => .rt (.ow o) (p.2.set j none)
    | _ => .no)
def sseq (f g : FS) : FS := fun env => match f env with
  | .nx e => g e
  | r => r
def sif (c : FT) (f g : FS) : FS := fun env => (c env).go fun p => if p.1 = true then f p.2 else g p.2
section
variable {X : Cx} {W : WP} {pos : Pos} {e : Expr} {es : List Expr} {f : FE} {st : Stmt} {sts : List Stmt} {g g' : FS}
theorem sx_asg (i : Nat) {x : Str} {pos' : Pos} (hN : X.N.Nodup) (h : EX X W e f) (hi : X.N[i]? = some x := by rfl) (hx : Loc X.env.scope x := by first | exact Or.inl rfl | exact Or.inr rfl) (hs : swapsWith e (some (.Name x pos')) pos.line X.env = pure false := by rfl)
    (hf : X.fn x = true ∨ X.env.scope.names.lookup x = some .local := by first | exact .inl rfl | exact .inr rfl | assumption) : SX X W (.Assign [.Name x pos'] e pos) (sasg i f) := by
  obtain ⟨t, p, r⟩ := h
  refine ⟨_, ps_set hN hi hx p hs hf, fun A F H σ env D S q => r A F H σ env _ S (q.afE fun p F1 H1 v1 s1 S1 r1 q1 => ?_)⟩
  cases c : bindA i p.1 p.2 with
  | ok e1 =>
    rw [c] at q1
    obtain ⟨F2, s2, S2⟩ := S1.bindA r1 c
    exact q1 F2 H1 _ s2 S2
  | ex _ _ => cases h : p.1 <;> rw [h] at c <;> simp only [bindA, bindD] at c <;> (repeat' split at c) <;> cases c
  | no => rw [c] at q1; exact q1.elim
theorem sx_asgT {tg : Expr} {h : FG} {ws : List Nat} (he : EX X W e f) (hg : GX X tg h ws) (hne : ∀ d env x e, h d env ≠ .ex x e) (hs : swapsWithSole [tg] e pos.line X.env = pure false := by rfl) (hw : swappedStores [tg] e X.env = pure none := by rfl)
    (h1 : (assignEach [tg] X.env).map (·.2) = [assign tg X.env] := by rfl) : SX X W (.Assign [tg] e pos) (sasgT h f) := by
  obtain ⟨t, p, r⟩ := he
  obtain ⟨tg, pg, rg⟩ := hg
  refine ⟨_, ps_asg p pg hs hw h1, fun A F H σ env D S q => r A F H σ env _ S (q.afE fun p F1 H1 v1 s1 S1 r1 q1 => ?_)⟩
  split at q1
  · rename_i d ed
    obtain ⟨F2, s2, S2, r2⟩ := S1.hold r1 (d := d.1) (env' := d.2) ed
    cases c : h d.1 d.2 with
    | ok e1 =>
      rw [c] at q1
      exact rg A F2 H1 σ d.2 e1 d.1 v1 _ S2 r2 c fun σ' _ S' => q1 F2 H1 σ' s2 S'
    | ex x e => exact absurd c (hne _ _ _ _)
    | no => rw [c] at q1; exact q1.elim
  · exact q1.elim
theorem sx_exp (h : EX X W e f) (hs : swapsWith e none pos.line X.env = pure false := by rfl) : SX X W (.Expr e pos) (sexp f) := by
  obtain ⟨t, p, r⟩ := h
  exact ⟨_, ps_expr p hs, fun A F H σ env D S q => r A F H σ env _ S (q.afE fun p F1 H1 v1 s1 S1 r1 q1 => q1 F1 H1 σ (.refl _) S1)⟩
theorem sx_ret (h : EX X W e f) : SX X W (.Return (some e) pos) (sret f) := by
  obtain ⟨t, p, r⟩ := h
  refine ⟨_, ps_ret p, fun A F H σ env D S q => r A F H σ env _ S (q.afE fun p F1 H1 v1 s1 S1 r1 q1 => ?_)⟩
  obtain ⟨x, e⟩ := p
  cases x with
  | val d => exact q1 F1 H1 σ v1 (.refl _) S1 r1
  | new o => exact q1 F1 H1 σ v1 (.refl _) S1 r1
  | slot j =>
    have r' : σ[j]? = some (some v1) := r1
    simp only at q1 S1
    split at q1
    · rename_i d ed
      obtain ⟨w, e1, q⟩ := S1.rel j _ ed
      rw [e1] at r'; cases r'
      exact q1 F1 H1 σ _ (.refl _) S1 q
    · rename_i o eo
      obtain ⟨p, u, e1, hp, ro, hF, hK⟩ := S1.at (.inl eo)
      rw [e1] at r'; cases r'
      have S2 := S1.put eo (fun o z => by cases z) (sl := none) (v := none) (fun s' z => by cases z)
      have back : ∀ {i : Nat} {o' : O}, OwnAt (e.set j none) i o' → i ≠ j ∧ OwnAt e i o' := fun {i o'} z => by
        have ne : i ≠ j := fun q => by
          subst q
          rcases z with z | z <;> (rw [get_set_eq eo] at z; cases z)
        refine ⟨ne, ?_⟩
        rcases z with z | z
        · exact .inl (by rw [get_set_ne ne] at z; exact z)
        · exact .inr (by rw [get_set_ne ne] at z; exact z)
      refine q1 F1 H1 _ _ (.refl _) S2 ⟨p, u, rfl, hp, ro, hF, hK, fun i w a b => ?_⟩
      obtain ⟨ne, a'⟩ := back a
      rw [sget_ne ne] at b
      exact ne (S1.dis i j _ _ _ a' (.inl eo) b e1)
    · exact q1.elim
theorem sx_retN : SX X W (.Return none pos) (fun env => .rt (.fz .non) env) :=
  ⟨_, ps_retN, fun A F H σ env D S q => q F H σ _ (.refl _) S .non⟩
theorem sx_pass : SX X W (.Pass pos) .nx := ⟨_, ps_pass, fun A F H σ env D S q => q F H σ (.refl _) S⟩
theorem sx_break : SX X W (.Break pos) .bk := ⟨_, ps_break, fun A F H σ env D S q => q F H σ (.refl _) S⟩
theorem sx_cont : SX X W (.Continue pos) .ct := ⟨_, ps_continue, fun A F H σ env D S q => q F H σ (.refl _) S⟩
theorem sx_never : SX X W st (fun _ => .no) := ⟨_, ps_never, fun _ _ _ _ _ _ _ q => q⟩
theorem bx_nil : BX X W [] .nx := ⟨_, pss_nil, fun A F H σ env D S q => q F H σ (.refl _) S⟩
theorem bx_one (h : SX X W st g) : BX X W [st] g := let ⟨_, p, r⟩ := h; ⟨_, pss_one p, r⟩
theorem bx_cons (h : SX X W st g) (h' : BX X W sts g') : BX X W (st :: sts) (sseq g g') := by
  obtain ⟨t, p, r⟩ := h
  obtain ⟨t', p', r'⟩ := h'
  refine ⟨_, pss_cons p p', fun A F H σ env D S q => r A F H σ env _ S ?_⟩
  simp only [sseq] at q
  cases c : g env with
  | nx e => rw [c] at q; exact fun F1 H1 σ1 s1 S1 => r' A F1 H1 σ1 e D S1 (PostS.mono s1 q)
  | rt x e => rw [c] at q; exact q
  | bk e => rw [c] at q; exact q
  | ct e => rw [c] at q; exact q
  | ex x e => rw [c] at q; exact q
  | no => rw [c] at q; exact q
theorem sx_if {c : Expr} {fc : FT} {a b : List Stmt} (hc : TX X W c fc) (ha : BX X W a g) (hb : BX X W b g') : SX X W (.If c a b pos) (sif fc g g') := by
  obtain ⟨t0, p0, r0⟩ := hc
  obtain ⟨t, p, r⟩ := ha
  obtain ⟨t', p', r'⟩ := hb
  refine ⟨_, ps_if p0 p p', fun A F H σ env D S q => r0 A F H σ env _ S (q.afT fun p F1 H1 s1 S1 q1 => ?_)⟩
  by_cases c : p.1 = true
  · rw [if_pos c] at q1 ⊢; exact r A F1 H1 σ p.2 D S1 q1
  · rw [if_neg c] at q1 ⊢; exact r' A F1 H1 σ p.2 D S1 q1
end
end PL

/-! PL: what is walked; loops; comprehensions. -/
namespace PL
open PySem PySem.Spec PyProof.Rows L2

abbrev FI := En → Res (List D × En)
/-- the iterator gives ds, one by one -/
def Feeds (k : Kn) (F : Hp) (ds : List D) (J : It) : Prop :=
  ∀ F2 H2, Sub F F2 → Sub F2 H2 → ∀ i, (∀ d, ds[i]? = some d → J.go i H2 ∧ ∀ x H3, J.yld i H2 x H3 →
      (H3 = H2 ∧ Rep k F2 d x) ∨ ∃ T us es, x = .ref T ∧ H2 T = none ∧ H3 = upd H2 T (.tup us) ∧ d = .tup es ∧ Reps k F2 es us) ∧ (ds.length ≤ i → J.stop i H2)
def PostI (k : Kn) (A : Amb) (W : WP) (F : Hp) (σ : L2.St) (r : Res (List D × En)) (R : It → Hp → Prop) : Prop :=
  match r with
  | .ok p => ∀ F' H' J, Sub F F' → Sta k A F' H' σ p.2 → Feeds k F' p.1 J → R J H'
  | .ex x e => W.w A F x e
  | .no => False
def IX (X : Cx) (W : WP) (tg iter : Expr) (f : FI) : Prop :=
  ∃ w, PI X tg iter w ∧ ∀ (A : Amb) (F H : Hp) (σ : L2.St) (env : En) (R : It → Hp → Prop), Sta (kn X) A F H σ env → PostI (kn X) A W F σ (f env) R → w σ H R
section
variable {k : Kn} {A : Amb} {W : WP} {F F' : Hp} {σ : L2.St}
theorem PostI.mono {r : Res (List D × En)} {R : It → Hp → Prop} (s : Sub F F') (h : PostI k A W F σ r R) : PostI k A W F' σ r R := by
  cases r with
  | ok p => exact fun F1 H1 v a b c => h F1 H1 v (s.trans a) b c
  | ex x e => exact W.mono s h
  | no => exact h
theorem PostI.afE {r : Res (Arg × En)} {f : Arg × En → Res (List D × En)} {R : It → Hp → Prop} {Q1 : VK} (h : PostI k A W F σ (r.bind f) R)
    (g : ∀ p F' H' v, Sub F F' → Sta k A F' H' σ p.2 → RArg k A F' H' σ p.2 p.1 v → PostI k A W F' σ (f p) R → Q1 v H') : PostE k A W F σ r Q1 :=
  PostE.bnd (P := fun F r => PostI k A W F σ r R) (fun _ _ h => h) (fun h => h) (fun s h => h.mono s) h g
theorem PostI.afA {r : Res (List Arg × En)} {f : List Arg × En → Res (List D × En)} {R : It → Hp → Prop} {Q1 : List V → Hp → Prop} (h : PostI k A W F σ (r.bind f) R)
    (g : ∀ p F' H' vs, Sub F F' → Sta k A F' H' σ p.2 → RArgs k A F' H' σ p.2 p.1 vs → PostI k A W F' σ (f p) R → Q1 vs H') : PostA k A W F σ r Q1 :=
  PostA.bnd (P := fun F r => PostI k A W F σ r R) (fun _ _ h => h) (fun h => h) (fun s h => h.mono s) h g
end
/-- lists and tuples -/
def itSeq (f : FE) : FI := fun env => (f env).bind fun p => match hold p.1 p.2 with
  | some (.lst ds, e) => .ok (ds, e)
  | some (.tup ds, e) => .ok (ds, e)
  | _ => .no
theorem feeds_list {k : Kn} {F : Hp} {a : Addr} {vs : List V} {ds : List D} (h : F a = some (.lst vs)) (r : Reps k F ds vs) : Feeds k F ds (Itl k.K a) := by
  intro F2 H2 s1 s2 i
  have hq : SqL k.K H2 a vs := SqL.of (s2 _ _ (s1 _ _ h))
  have r2 := r.mono s1
  refine ⟨fun d e => ?_, fun e => ⟨vs, hq, by rw [r.len]; exact e⟩⟩
  obtain ⟨v, ev, rv⟩ := r2.get e
  exact ⟨⟨vs, v, hq, ev⟩, fun x H3 hy => .inl ⟨hy.1, by
    have := hy.2 vs hq
    rw [ev] at this; cases this; exact rv⟩⟩
theorem feeds_tup {k : Kn} {F : Hp} {a : Addr} {vs : List V} {ds : List D} (h : SqT k.K F a vs) (r : Reps k F ds vs) : Feeds k F ds (Itt k.K a) := by
  intro F2 H2 s1 s2 i
  have hq : SqT k.K H2 a vs := s2.t (s1.t h)
  have r2 := r.mono s1
  refine ⟨fun d e => ?_, fun e => ⟨vs, hq, by rw [r.len]; exact e⟩⟩
  obtain ⟨v, ev, rv⟩ := r2.get e
  exact ⟨⟨vs, v, hq, ev⟩, fun x H3 hy => .inl ⟨hy.1, by
    have := hy.2 vs hq
    rw [ev] at this; cases this; exact rv⟩⟩
def dints (lo : Int) (n : Nat) : List D := (List.range n).map fun (i : Nat) => D.int (lo + (i : Int))
theorem feeds_rng {k : Kn} {F : Hp} {lo : Int} {n : Nat} : Feeds k F (dints lo n) (Itr lo n) := by
  intro F2 H2 s1 s2 i
  have hl : (dints lo n).length = n := by simp [dints]
  refine ⟨fun d e => ?_, fun e => by rw [hl] at e; exact e⟩
  have hi : i < n := by
    have := (List.getElem?_eq_some_iff.mp e).1
    rwa [hl] at this
  refine ⟨hi, fun x H3 hy => .inl ⟨hy.1, ?_⟩⟩
  have : d = .int (lo + (i : Int)) := by
    simp only [dints, List.getElem?_map, List.getElem?_range hi, Option.map_some, Option.some.injEq] at e
    exact e.symm
  rw [this, hy.2]
  exact .int _
theorem PI.or {X : Cx} {tg e : Expr} {w w' : TI} (h : PI X tg e w) (h' : PI X tg e w') : PI X tg e (fun σ H R => w σ H R ∨ w' σ H R) :=
  ⟨fun pins s σ H R I q => q.elim (h.run pins s σ H R I) (h'.run pins s σ H R I)⟩
section
variable {X : Cx} {W : WP} {pos : Pos} {tg : Expr}
theorem ix_seq' {e : Expr} {f : FE} (h : EX X W e f) : IX X W tg e (itSeq f) := by
  obtain ⟨t, p, r⟩ := h
  refine ⟨_, PI.or (pi_list p) (pi_tup p), fun A F H σ env R S q => ?_⟩
  -- the kind of what comes
  cases c : f env with
  | no => simp only [itSeq, c, Res.bind_no] at q; exact q.elim
  | ex x e =>
    simp only [itSeq, c, Res.bind_ex] at q
    exact .inl (r A F H σ env _ S (by rw [c]; exact q))
  | ok p =>
    simp only [itSeq, c, Res.bind_ok] at q
    split at q
    · rename_i ds e1 eh
      refine .inl (r A F H σ env _ S ?_)
      rw [c]
      intro F1 H1 v1 s1 S1 r1
      obtain ⟨F2, s2, S2, r2⟩ := S1.hold r1 eh
      cases r2 with
      | lst a b => exact ⟨_, rfl, ⟨_, SqL.of (S2.sub _ _ a)⟩, q F2 H1 _ (s1.trans s2) S2 (feeds_list a b)⟩
    · rename_i ds e1 eh
      refine .inr (r A F H σ env _ S ?_)
      rw [c]
      intro F1 H1 v1 s1 S1 r1
      obtain ⟨F2, s2, S2, r2⟩ := S1.hold r1 eh
      cases r2 with
      | tup a b => exact ⟨_, rfl, ⟨_, S2.sub.t a⟩, q F2 H1 _ (s1.trans s2) S2 (feeds_tup a b)⟩
    · exact q.elim
def itRng1 (g : FA) : FI := fun env => (g env).bind fun p => match conts p.1 p.2 with
  | some [.int j] => if -(2 ^ 62) ≤ j ∧ j < 2 ^ 62 then .ok (dints 0 j.toNat, p.2) else .no
  | _ => .no
def itRng2 (g : FA) : FI := fun env => (g env).bind fun p => match conts p.1 p.2 with
  | some [.int i, .int j] => if -(2 ^ 62) ≤ i ∧ i < 2 ^ 62 ∧ -(2 ^ 62) ≤ j ∧ j < 2 ^ 62 then .ok (dints i (j - i).toNat, p.2) else .no
  | _ => .no
theorem ix_rng1 {a : Expr} {g : FA} {p : Pos} (hg : Gl X "range") (hm : X.mg "range" = none) (h : AX X W [a] g) (hs : starEach [a] X.env = [(false, eval a X.env)] := by rfl) : IX X W tg (.Call (.Name "range" p) [a] [] pos) (itRng1 g) := by
  obtain ⟨t, pa, r⟩ := h
  refine ⟨_, pi_range1 hg hm pa hs, fun A F H σ env R S q => r A F H σ env _ S (q.afA fun p F1 H1 vs s1 S1 r1 q1 => ?_)⟩
  split at q1
  · rename_i j e
    split at q1
    · rename_i c
      cases S1.views r1 e with
      | cons v t => cases t; cases v.int; exact ⟨j, rfl, c.1, c.2, q1 F1 H1 _ (.refl _) S1 feeds_rng⟩
    · exact q1.elim
  · exact q1.elim
theorem ix_rng2 {a b : Expr} {g : FA} {p : Pos} (hg : Gl X "range") (hm : X.mg "range" = none) (h : AX X W [a, b] g) (hs : starEach [a, b] X.env = [(false, eval a X.env), (false, eval b X.env)] := by rfl) (hs2 : starEach [b] X.env = [(false, eval b X.env)] := by rfl) : IX X W tg (.Call (.Name "range" p) [a, b] [] pos) (itRng2 g) := by
  obtain ⟨t, pa, r⟩ := h
  refine ⟨_, pi_range2 hg hm pa hs hs2, fun A F H σ env R S q => r A F H σ env _ S (q.afA fun p F1 H1 vs s1 S1 r1 q1 => ?_)⟩
  split at q1
  · rename_i i j e
    split at q1
    · rename_i c
      cases S1.views r1 e with
      | cons v t => cases t with | cons v' t => cases t; cases v.int; cases v'.int; exact ⟨i, j, rfl, c, q1 F1 H1 _ (.refl _) S1 feeds_rng⟩
    · exact q1.elim
  · exact q1.elim

/-! ### for -/
def forL (tg : FG) (body : FS) : List D → En → RS
  | [], e => .nx e
  | d :: ds, e => (tg d e).go fun e1 => match body e1 with
    | .nx e2 => forL tg body ds e2
    | .ct e2 => forL tg body ds e2
    | .bk e2 => .nx e2
    | r => r
def sfor (it : FI) (tg : FG) (body : FS) : FS := fun env => (it env).go fun p => forL tg body p.1 p.2
theorem sx_for {iter : Expr} {body : List Stmt} {it : FI} {h : FG} {ws : List Nat} {g : FS} (hp : PassesOwn (model X.prog X.w) X.A X.env X.xe) (hc : X.calm = true) (hi : IX X W tg iter it) (hg : GX X tg h ws) (hb : BX X W body g)
    (hne : ∀ d env x e, h d env ≠ .ex x e) (hs : ∀ x, foldedSetIterable iter X.env x = pure x := by intro _; rfl) : SX X W (.For tg iter body [] pos) (sfor it h g) := by
  obtain ⟨wi, pi, ri⟩ := hi
  obtain ⟨gt, pg, rg⟩ := hg
  obtain ⟨tb, pb, rb⟩ := hb
  refine ⟨_, ps_for hp hc pi pg pb hs, fun A F H σ env D S q => ri A F H σ env _ S ?_⟩
  simp only [sfor] at q
  cases c : it env with
  | no => rw [c] at q; exact q
  | ex x e => rw [c] at q; exact q
  | ok p =>
    rw [c] at q
    obtain ⟨ds, e0⟩ := p
    intro F1 H1 J s1 S1 hf
    refine ⟨fun i m σ' H' => ∃ F' e, Sub F1 F' ∧ Sta (kn X) A F' H' σ' e ∧ i + m = ds.length ∧ PostS (kn X) A W F' (forL h g (ds.drop i) e) D, ⟨ds.length, F1, e0, .refl _, S1, by omega, PostS.mono s1 q⟩, fun i m σ' H' hw => ?_⟩
    obtain ⟨F', e, s2, S2, hm, q2⟩ := hw
    have hfi := hf F' H' s2 S2.sub i
    cases hd : ds[i]? with
    | none =>
      have hl : ds.length ≤ i := List.getElem?_eq_none_iff.mp hd
      rw [List.drop_eq_nil_of_le hl] at q2
      exact .inl ⟨hfi.2 hl, q2 F' H' σ' (.refl _) S2⟩
    | some d =>
      have hl : i < ds.length := (List.getElem?_eq_some_iff.mp hd).1
      have hdr : ds.drop i = d :: ds.drop (i + 1) := by
        rw [List.drop_eq_getElem_cons hl]
        have := (List.getElem?_eq_some_iff.mp hd).2
        rw [this]
      rw [hdr] at q2
      obtain ⟨go, yl⟩ := hfi.1 d hd
      refine .inr ⟨go, fun σ3 H3 => ∃ F' e, Sub F1 F' ∧ Sta (kn X) A F' H3 σ3 e ∧ PostS (kn X) A W F' (forL h g (ds.drop (i + 1)) e) D, fun σ3 H3 ⟨F', e, a, b, c⟩ => ⟨m - 1, by omega, F', e, a, b, by omega, c⟩, fun x H3 hy => ?_⟩
      have stp : ∃ F3, Sub F' F3 ∧ Sta (kn X) A F3 H3 σ' e ∧ Rep (kn X) F3 d x := by
        rcases yl x H3 hy with ⟨rfl, r⟩ | ⟨T, us, es, rfl, nT, rfl, rfl, r⟩
        · exact ⟨F', .refl _, S2, r⟩
        · obtain ⟨a, _, _⟩ := S2.fresh nT
          exact ⟨_, .new a, S2.lay nT, .tup (SqT.of upd_same) (r.mono (.new a))⟩
      obtain ⟨F3, s3, S3, r3⟩ := stp
      simp only [forL] at q2
      cases ct : h d e with
      | no => rw [ct] at q2; exact q2.elim
      | ex x e => exact absurd ct (hne _ _ _ _)
      | ok e1 =>
        rw [ct] at q2
        simp only [Res.go_ok] at q2
        refine rg A F3 H3 σ' e e1 d x _ S3 r3 ct fun σ4 _ S4 => rb A F3 H3 σ4 e1 _ S4 ?_
        cases cb : g e1 with
        | nx e2 => rw [cb] at q2; exact fun F5 H5 σ5 a b => ⟨F5, e2, (s2.trans s3).trans a, b, PostS.mono (s3.trans a) q2⟩
        | ct e2 => rw [cb] at q2; exact fun F5 H5 σ5 a b => ⟨F5, e2, (s2.trans s3).trans a, b, PostS.mono (s3.trans a) q2⟩
        | bk e2 => rw [cb] at q2; exact fun F5 H5 σ5 a b => PostS.mono s3 q2 F5 H5 σ5 a b
        | rt x e2 => rw [cb] at q2; exact fun F5 H5 σ5 v a b c => PostS.mono s3 q2 F5 H5 σ5 v a b c
        | ex x e2 => rw [cb] at q2; exact PostS.mono s3 q2
        | no => rw [cb] at q2; exact q2.elim

/-! ### while -/
def whl (c : FT) (body : FS) : Nat → En → RS
  | 0, _ => .no
  | n + 1, e => (c e).go fun p => if p.1 = true then (match body p.2 with
      | .nx e2 => whl c body n e2
      | .ct e2 => whl c body n e2
      | .bk e2 => .nx e2
      | r => r) else .nx p.2
/-- turns enough for anything here -/
def fuel : Nat := 1000000000
theorem sx_while {c : Expr} {body : List Stmt} {fc : FT} {g : FS} (hp : PassesOwn (model X.prog X.w) X.A X.env X.xe) (hc : TX X W c fc) (hb : BX X W body g) : SX X W (.While c body [] pos) (whl fc g fuel) := by
  obtain ⟨tc, pc, rc⟩ := hc
  obtain ⟨tb, pb, rb⟩ := hb
  refine ⟨_, ps_while hp pc pb, fun A F H σ env D S q => ?_⟩
  refine ⟨fun m σ' H' => ∃ F' e, Sub F F' ∧ Sta (kn X) A F' H' σ' e ∧ PostS (kn X) A W F' (whl fc g m e) D, ⟨fuel, F, env, .refl _, S, q⟩, fun m σ' H' ⟨F', e, s1, S1, q1⟩ => ?_⟩
  cases m with
  | zero => exact q1.elim
  | succ m =>
    simp only [whl] at q1
    refine rc A F' H' σ' e _ S1 (q1.afT fun p F1 H1 s2 S2 q2 => ?_)
    by_cases b : p.1 = true
    · rw [if_pos b] at q2 ⊢
      refine ⟨fun σ3 H3 => ∃ F' e, Sub F F' ∧ Sta (kn X) A F' H3 σ3 e ∧ PostS (kn X) A W F' (whl fc g m e) D, fun σ3 H3 ⟨F', e, a, b, c⟩ => ⟨m, Nat.lt_succ_self m, F', e, a, b, c⟩, rb A F1 H1 σ' p.2 _ S2 ?_⟩
      cases cb : g p.2 with
      | nx e2 => rw [cb] at q2; exact fun F5 H5 σ5 a b => ⟨F5, e2, (s1.trans s2).trans a, b, PostS.mono a q2⟩
      | ct e2 => rw [cb] at q2; exact fun F5 H5 σ5 a b => ⟨F5, e2, (s1.trans s2).trans a, b, PostS.mono a q2⟩
      | bk e2 => rw [cb] at q2; exact fun F5 H5 σ5 a b => q2 F5 H5 σ5 a b
      | rt x e2 => rw [cb] at q2; exact fun F5 H5 σ5 v a b c => q2 F5 H5 σ5 v a b c
      | ex x e2 => rw [cb] at q2; exact q2
      | no => rw [cb] at q2; exact q2.elim
    · rw [if_neg b] at q2 ⊢
      exact q2 F1 H1 σ' (.refl _) S2
end

/-! ### comprehensions -/
def clr (env : En) : List Nat → En
  | [] => env
  | v :: vs => (clr env vs).set v none
/-- the comprehension's own slots are as they were -/
def rst (env0 e : En) : List Nat → En
  | [] => e
  | v :: vs => (rst env0 e vs).set v (match env0[v]? with
    | some x => x
    | none => none)
def plainS (env : En) (vs : List Nat) : Bool := vs.all fun v => match env[v]? with
  | some none => true
  | some (some (.fz _)) => true
  | _ => false
/-- nothing may be raised -/
def Res.bin {α β : Type} : Res α → (α → Res β) → Res β
  | .ok a, f => f a
  | _, _ => .no
@[simp] theorem Res.bin_ok {α β : Type} (a : α) (f : α → Res β) : (Res.ok a).bin f = f a := rfl
def lcL (tg : FG) (tt : FT) (fe : FE) (vs : List Nat) : List D → List D → En → Res (List D × En)
  | [], acc, e => .ok (acc, e)
  | d :: ds, acc, e => (tg d e).bin fun e1 => (tt e1).bin fun b => if b.1 = true then (fe b.2).bin fun x => (match hold x.1 x.2 with
      | some h => if acc.length < sizeLine then lcL tg tt fe vs ds (acc ++ [h.1]) (clr h.2 vs) else .no
      | none => .no) else lcL tg tt fe vs ds acc (clr b.2 vs)
theorem Res.bin_inv {α β : Type} {r : Res α} {f : α → Res β} {b : β} (h : r.bin f = .ok b) : ∃ a, r = .ok a ∧ f a = .ok b := by
  cases r with
  | ok a => exact ⟨a, rfl, h⟩
  | ex _ _ => cases h
  | no => cases h
def tyes : FT := fun env => .ok (true, env)
def vlc (it : FI) (tg : FG) (tt : FT) (fe : FE) (vs : List Nat) : FE := fun env => (it env).bind fun p => if plainS p.2 vs = true then (lcL tg tt fe vs p.1 [] (clr p.2 vs)).bin fun r => .ok (.new (.lst r.1), rst p.2 r.2 vs) else .no
section
variable {k : Kn} {A : Amb} {F H : Hp} {σ : L2.St} {env : En}
theorem clr_len : ∀ vs : List Nat, (clr env vs).length = env.length
  | [] => rfl
  | v :: vs => by rw [clr, List.length_set, clr_len vs]
theorem clr_out {i : Nat} : ∀ {vs : List Nat}, i ∉ vs → (clr env vs)[i]? = env[i]?
  | [], _ => rfl
  | v :: vs, h => by
    rw [clr, get_set_ne (fun z => h (by rw [z]; exact List.mem_cons_self)), clr_out fun z => h (List.mem_cons_of_mem _ z)]
theorem clr_in {i : Nat} (hi : i < env.length) : ∀ {vs : List Nat}, i ∈ vs → (clr env vs)[i]? = some none
  | v :: vs, h => by
    by_cases q : i = v
    · subst q
      rw [clr, List.getElem?_set_self]
      rw [clr_len]; exact hi
    · rw [clr, get_set_ne q]
      rcases List.mem_cons.mp h with z | z
      · exact absurd z q
      · exact clr_in hi z
theorem clr_some {i : Nat} {vs : List Nat} {sl : Sl} (h : (clr env vs)[i]? = some (some sl)) : i ∉ vs ∧ env[i]? = some (some sl) := by
  have hi : i < env.length := by
    have := (List.getElem?_eq_some_iff.mp h).1
    rwa [clr_len] at this
  by_cases q : i ∈ vs
  · rw [clr_in hi q] at h; cases h
  · rw [clr_out q] at h; exact ⟨q, h⟩
theorem clr_own {i : Nat} {vs : List Nat} {o : O} (h : OwnAt (clr env vs) i o) : i ∉ vs ∧ OwnAt env i o := by
  rcases h with h | h
  · exact ⟨(clr_some h).1, .inl (clr_some h).2⟩
  · exact ⟨(clr_some h).1, .inr (clr_some h).2⟩
/-- a comprehension's block begins -/
theorem Sta.clr (S : Sta k A F H σ env) (vs : List Nat) {σ' : L2.St} (ho : Out vs σ σ') : Sta k A F H σ' (PL.clr env vs) := by
  refine ⟨S.sub, S.kp, S.f0, S.frz, fun i sl e => ?_, fun i o p a b => ?_, fun i j o u p a b c d => ?_, by rw [clr_len, ho.1]; exact S.len, fun i o e => ?_⟩
  · obtain ⟨n, e'⟩ := clr_some e
    rw [ho.2 i n]; exact S.rel i sl e'
  · obtain ⟨n, a'⟩ := clr_own a
    rw [ho.2 i n] at b; exact S.own i o p a' b
  · obtain ⟨n, a'⟩ := clr_own a
    obtain ⟨n', b'⟩ := clr_own b
    rw [ho.2 i n] at c; rw [ho.2 j n'] at d
    exact S.dis i j o u p a' b' c d
  · obtain ⟨n, e'⟩ := clr_some e
    rw [ho.2 i n]; exact S.mus i o e'
theorem wipe_out' (σ : L2.St) (vs : List Nat) : Out vs σ (wipe σ vs) := by
  refine ⟨wipe_length σ vs, fun i h => ?_⟩
  exact L2.wipe_out h
theorem wipe_eq {vs : List Nat} {σ1 σ2 : L2.St} (h : Out vs σ1 σ2) : wipe σ2 vs = wipe σ1 vs := by
  have inn : ∀ {σ : L2.St} {i : Nat}, i < σ.length → ∀ {us : List Nat}, i ∈ us → (wipe σ us)[i]? = some none := by
    intro σ i hi us
    induction us with
    | nil => intro z; cases z
    | cons u us ih =>
      intro z
      by_cases q : i = u
      · subst q
        show ((wipe σ us).set i none)[i]? = _
        rw [List.getElem?_set_self]
        rw [wipe_length]; exact hi
      · show ((wipe σ us).set u none)[i]? = _
        rw [sget_ne q]
        rcases List.mem_cons.mp z with z | z
        · exact absurd z q
        · exact ih z
  apply List.ext_getElem?
  intro i
  by_cases hv : i ∈ vs
  · by_cases hi : i < σ1.length
    · rw [inn hi hv, inn (by rw [h.1]; exact hi) hv]
    · rw [List.getElem?_eq_none_iff.mpr (by rw [wipe_length, h.1]; omega), List.getElem?_eq_none_iff.mpr (by rw [wipe_length]; omega)]
  · rw [L2.wipe_out hv, L2.wipe_out hv]
    exact h.2 i hv
theorem rst_len {env0 : En} : ∀ {vs : List Nat}, (rst env0 env vs).length = env.length
  | [] => rfl
  | v :: vs => by rw [rst, List.length_set, rst_len]
theorem rst_out {env0 : En} {i : Nat} : ∀ {vs : List Nat}, i ∉ vs → (rst env0 env vs)[i]? = env[i]?
  | [], _ => rfl
  | v :: vs, h => by
    rw [rst, get_set_ne (fun z => h (by rw [z]; exact List.mem_cons_self)), rst_out fun z => h (List.mem_cons_of_mem _ z)]
theorem rst_in {env0 : En} {i : Nat} (hi : i < env.length) {x : Option Sl} (hx : env0[i]? = some x) : ∀ {vs : List Nat}, i ∈ vs → (rst env0 env vs)[i]? = some x
  | v :: vs, h => by
    by_cases q : i = v
    · subst q
      rw [rst, List.getElem?_set_self (by rw [rst_len]; exact hi), hx]
    · rw [rst, get_set_ne q]
      rcases List.mem_cons.mp h with z | z
      · exact absurd z q
      · exact rst_in hi hx z
/-- a comprehension's block has ended -/
theorem Sta.rst {F0 H0 : Hp} {env0 : En} {vs : List Nat} {σ' : L2.St} (S0 : Sta k A F0 H0 σ env0) (hpl : plainS env0 vs = true) (s : Sub F0 F) (S : Sta k A F H σ' env) (ho : Out vs σ σ') : Sta k A F H σ (PL.rst env0 env vs) := by
  have hlen : env.length = env0.length := by rw [← S.len, ← S0.len, ho.1]
  have inv : ∀ {i : Nat}, i ∈ vs → ∃ x, env0[i]? = some x ∧ (∀ o, x ≠ some (.ow o)) ∧ (∀ o, x ≠ some (.mu o)) := fun {i} hi => by
    have := List.all_eq_true.mp hpl i hi
    cases c : env0[i]? with
    | none => rw [c] at this; cases this
    | some x =>
      rw [c] at this
      refine ⟨x, rfl, fun o z => ?_, fun o z => ?_⟩
      · subst z; cases this
      · subst z; cases this
  have key : ∀ {i : Nat} {sl : Sl}, (PL.rst env0 env vs)[i]? = some (some sl) → (i ∉ vs ∧ env[i]? = some (some sl)) ∨ (i ∈ vs ∧ env0[i]? = some (some sl)) := fun {i sl} e => by
    by_cases hi : i ∈ vs
    · obtain ⟨x, hx, _⟩ := inv hi
      have hl : i < env.length := by rw [hlen]; exact (List.getElem?_eq_some_iff.mp hx).1
      rw [rst_in hl hx hi] at e
      exact .inr ⟨hi, by rw [hx, e]⟩
    · rw [rst_out hi] at e; exact .inl ⟨hi, e⟩
  have own : ∀ {i : Nat} {o : O}, OwnAt (PL.rst env0 env vs) i o → i ∉ vs ∧ OwnAt env i o := fun {i o} z => by
    rcases z with z | z
    · rcases key z with ⟨a, b⟩ | ⟨a, b⟩
      · exact ⟨a, .inl b⟩
      · obtain ⟨x, hx, n1, _⟩ := inv a
        rw [hx] at b; cases b; exact absurd rfl (n1 o)
    · rcases key z with ⟨a, b⟩ | ⟨a, b⟩
      · exact ⟨a, .inr b⟩
      · obtain ⟨x, hx, _, n2⟩ := inv a
        rw [hx] at b; cases b; exact absurd rfl (n2 o)
  refine ⟨S.sub, S.kp, S.f0, S.frz, fun i sl e => ?_, fun i o p a b => ?_, fun i j o u p a b c d => ?_, by rw [rst_len, hlen]; exact S0.len, fun i o e => ?_⟩
  · rcases key e with ⟨n, e'⟩ | ⟨n, e'⟩
    · rw [← ho.2 i n]; exact S.rel i sl e'
    · obtain ⟨v, e1, r⟩ := S0.rel i sl e'
      refine ⟨v, e1, ?_⟩
      obtain ⟨x, hx, n1, n2⟩ := inv n
      rw [hx] at e'; cases e'
      cases sl with
      | fz d => exact r.mono s
      | ow o => exact absurd rfl (n1 o)
      | mu o => exact absurd rfl (n2 o)
  · obtain ⟨n, a'⟩ := own a
    rw [← ho.2 i n] at b; exact S.own i o p a' b
  · obtain ⟨n, a'⟩ := own a
    obtain ⟨n', b'⟩ := own b
    rw [← ho.2 i n] at c; rw [← ho.2 j n'] at d
    exact S.dis i j o u p a' b' c d
  · obtain ⟨n, e'⟩ := own (i := i) (o := o) (.inr e)
    rcases key e with ⟨_, e2⟩ | ⟨m, _⟩
    · rw [← ho.2 i n]; exact S.mus i o e2
    · exact absurd m n
/-- an object that must stand is kept by the way -/
def Amb.keep (A : Amb) (p : Addr) (u : HO) : Amb := { A with Kp := upd A.Kp p u }
theorem Sta.keepIn (S : Sta k A F H σ env) {p : Addr} {u : HO} (hp : H p = some u) (hF : F p = none) (hK : A.Kp p = none) (hs : ∀ (j : Nat) (o : O), OwnAt env j o → σ[j]? ≠ some (some (V.ref p))) : Sta k (A.keep p u) F H σ env := by
  refine ⟨S.sub, fun a o e => ?_, S.f0, fun a o e => ?_, S.rel, fun i o q a b => ⟨(S.own i o q a b).1, ?_⟩, S.dis, S.len, S.mus⟩
  · by_cases q : a = p
    · subst q
      have e' : upd A.Kp a u a = some o := e
      rw [upd_same] at e'; cases e'; exact hp
    · have e' : upd A.Kp p u a = some o := e
      rw [upd_ne q] at e'; exact S.kp a o e'
  · have ne : a ≠ p := fun z => by subst z; rw [hF] at e; cases e
    rcases S.frz a o e with h | h
    · exact .inl h
    · exact .inr (by show upd A.Kp p u a = none; rw [upd_ne ne]; exact h)
  · have ne : q ≠ p := fun z => by subst z; exact hs i o a b
    show upd A.Kp p u q = none
    rw [upd_ne ne]; exact (S.own i o q a b).2
theorem Sta.keepOut {p : Addr} {u : HO} (S : Sta k (A.keep p u) F H σ env) (hK : A.Kp p = none) (hF0 : A.F0 p = none) : Sta k A F H σ env ∧ H p = some u ∧ F p = none ∧ ∀ (j : Nat) (o : O), OwnAt env j o → σ[j]? ≠ some (some (V.ref p)) := by
  have kp : ∀ a, a ≠ p → (A.keep p u).Kp a = A.Kp a := fun a h => upd_ne h
  have kpp : (A.keep p u).Kp p = some u := upd_same
  refine ⟨⟨S.sub, fun a o e => S.kp a o ?_, S.f0, fun a o e => ?_, S.rel, fun i o q a b => ⟨(S.own i o q a b).1, ?_⟩, S.dis, S.len, S.mus⟩, S.kp p u kpp, ?_, fun j o a b => ?_⟩
  · have ne : a ≠ p := fun z => by subst z; rw [hK] at e; cases e
    rw [kp a ne]; exact e
  · rcases S.frz a o e with h | h
    · exact .inl h
    · by_cases q : a = p
      · subst q; exact .inr hK
      · rw [kp a q] at h; exact .inr h
  · have := (S.own i o q a b).2
    have ne : q ≠ p := fun z => by subst z; rw [kpp] at this; cases this
    rwa [kp q ne] at this
  · cases c : F p with
    | none => rfl
    | some w =>
      rcases S.frz p w c with h | h
      · have h' : A.F0 p = some w := h
        rw [hF0] at h'; cases h'
      · rw [kpp] at h; cases h
  · have := (S.own j o p a b).2
    rw [kpp] at this; cases this
end

/-! ### readings by the mirrors -/
def tOf (k : Kn) (W : WP) (f : FE) : TE := fun σ H Q => ∃ A F env, Sta k A F H σ env ∧ PostE k A W F σ (f env) Q
theorem EX.can {X : Cx} {W : WP} {e : Expr} {f : FE} (h : EX X W e f) : PE X e (tOf (kn X) W f) := by
  obtain ⟨t, p, r⟩ := h
  exact ⟨fun pins s σ H Q I ⟨A, F, env, S, q⟩ => p.run pins s σ H Q I (r A F H σ env Q S q)⟩
def ttOf (k : Kn) (W : WP) (f : FT) : TT := fun σ H Q => ∃ A F env, Sta k A F H σ env ∧ PostT k A W F σ (f env) Q
def TsX (X : Cx) (W : WP) (ifs : List Expr) (f : FT) : Prop :=
  ∃ t, PTs X ifs t ∧ ∀ (A : Amb) (F H : Hp) (σ : L2.St) (env : En) (Q : Bool → Hp → Prop), Sta (kn X) A F H σ env → PostT (kn X) A W F σ (f env) Q → t σ H Q
theorem TsX.can {X : Cx} {W : WP} {ifs : List Expr} {f : FT} (h : TsX X W ifs f) : PTs X ifs (ttOf (kn X) W f) := by
  obtain ⟨t, p, r⟩ := h
  exact ⟨fun pins s σ H Q I ⟨A, F, env, S, q⟩ => p.run pins s σ H Q I (r A F H σ env Q S q)⟩
theorem tsx_nil {X : Cx} {W : WP} : TsX X W [] tyes := ⟨_, pts_nil, fun A F H σ env Q S q => q F H (.refl _) S⟩
theorem tsx_one {X : Cx} {W : WP} {c : Expr} {f : FT} (h : TX X W c f) : TsX X W [c] f := let ⟨_, p, r⟩ := h; ⟨_, pts_one p, r⟩
def gOf (k : Kn) (f : FG) (ws : List Nat) : TG := fun v σ H Q => ∃ A F env env' d, Sta k A F H σ env ∧ Rep k F d v ∧ f d env = .ok env' ∧ ∀ σ', Out ws σ σ' → Sta k A F H σ' env' → Q σ' H
theorem GX.can {X : Cx} {e : Expr} {f : FG} {ws : List Nat} (h : GX X e f ws) : PG X e (gOf (kn X) f ws) := by
  obtain ⟨t, p, r⟩ := h
  exact ⟨fun pins s σ H v u Q I rv ⟨A, F, env, env', d, S, rd, e, q⟩ => p.run pins s σ H v u Q I rv (r A F H σ env env' d v Q S rd e q)⟩

theorem Out.sub {ws us : List Nat} {σ σ' : L2.St} (h : Out ws σ σ') (hs : ∀ i ∈ ws, i ∈ us) : Out us σ σ' := ⟨h.1, fun i n => h.2 i fun z => n (hs i z)⟩
theorem Out.refl (ws : List Nat) (σ : L2.St) : Out ws σ σ := ⟨rfl, fun _ _ => rfl⟩
theorem Out.join {ws : List Nat} {σ σ1 σ2 : L2.St} (a : Out ws σ σ1) (b : Out ws σ1 σ2) : Out ws σ σ2 := ⟨b.1.trans a.1, fun i h => (b.2 i h).trans (a.2 i h)⟩
/-- the reading of a comprehension, from the mirror -/
theorem lc_reads {X : Cx} {W : WP} {wi : TI} {tg iter : Expr} {it : FI} {g : FG} {ws : List Nat} {tt : FT} {fe : FE} {vs : List Nat}
    (ri : ∀ (A : Amb) (F H : Hp) (σ : L2.St) (env : En) (R : It → Hp → Prop), Sta (kn X) A F H σ env → PostI (kn X) A W F σ (it env) R → wi σ H R) (hw : ∀ i ∈ ws, i ∈ vs) :
    ∀ (A : Amb) (F H : Hp) (σ : L2.St) (env : En) (Q : VK), Sta (kn X) A F H σ env → PostE (kn X) A W F σ (vlc it g tt fe vs env) Q → tLc wi (gOf (kn X) g ws) (ttOf (kn X) W0 tt) (tOf (kn X) W0 fe) vs σ H Q := by
  intro A F H σ env Q S q
  refine ri A F H σ env _ S ?_
  simp only [vlc] at q
  cases c : it env with
  | no => rw [c] at q; exact q.elim
  | ex x e => rw [c] at q; exact q
  | ok p =>
    rw [c] at q
    obtain ⟨ds, e0⟩ := p
    simp only [Res.bind_ok] at q
    by_cases hpl : plainS e0 vs = true
    · rw [if_pos hpl] at q
      cases cl : lcL g tt fe vs ds [] (clr e0 vs) with
      | no => rw [cl] at q; exact q.elim
      | ex x e => rw [cl] at q; exact q.elim
      | ok fin =>
        rw [cl] at q
        intro F1 H1 J s1 S1 hf Dd nD
        obtain ⟨nF, nK, nO⟩ := S1.fresh nD
        have nF0 : A.F0 Dd = none := S1.f0.free nF
        refine ⟨fun i m H' => ∃ F' e us acc, Sub F1 F' ∧ Sta (kn X) (A.keep Dd (.lst us)) F' H' (wipe σ vs) (clr e vs) ∧ Reps (kn X) F' acc us ∧ i + m = ds.length ∧ lcL g tt fe vs (ds.drop i) acc (clr e vs) = .ok fin,
          ⟨ds.length, F1, e0, [], [], .refl _, ?_, .nil, by omega, cl⟩, fun i m H' hw' => ?_⟩
        · refine ((S1.grow (u := .lst []) nD).clr vs (wipe_out' σ vs)).keepIn upd_same nF nK fun j o a b => ?_
          obtain ⟨n, a'⟩ := clr_own a
          rw [(wipe_out' σ vs).2 j n] at b
          exact nO j o a' b
        · obtain ⟨F', e, us, acc, s2, S2, ra, hm, hl⟩ := hw'
          have hfi := hf F' H' s2 S2.sub i
          cases hd : ds[i]? with
          | none =>
            have hle : ds.length ≤ i := List.getElem?_eq_none_iff.mp hd
            rw [List.drop_eq_nil_of_le hle] at hl
            simp only [lcL, Res.ok.injEq] at hl
            subst hl
            refine .inl ⟨hfi.2 hle, ?_⟩
            obtain ⟨S3, hD, fD, oD⟩ := S2.keepOut nK nF0
            have S4 := Sta.rst S1 hpl s2 S3 (wipe_out' σ vs)
            refine q F' H' _ (s1.trans s2) S4 ⟨Dd, _, rfl, hD, .lst ra, fD, nK, fun j o a b => ?_⟩
            -- an owned slot behind is one ahead
            have hj : j ∉ vs := fun hj => by
              have := List.all_eq_true.mp hpl j hj
              have hx : ∃ x, e0[j]? = some x := by
                cases c : e0[j]? with
                | none => rw [c] at this; cases this
                | some x => exact ⟨x, rfl⟩
              obtain ⟨x, hx⟩ := hx
              have hlen : j < (clr e vs).length := by
                rw [← S3.len, wipe_length, S1.len]; exact (List.getElem?_eq_some_iff.mp hx).1
              rw [hx] at this
              rcases a with a | a <;> (rw [rst_in hlen hx hj] at a; cases a; cases this)
            have a' : OwnAt (clr e vs) j o := by
              rcases a with a | a
              · exact .inl (by rw [rst_out hj] at a; exact a)
              · exact .inr (by rw [rst_out hj] at a; exact a)
            exact oD j o a' (by rw [(wipe_out' σ vs).2 j hj]; exact b)
          | some d =>
            have hlt : i < ds.length := (List.getElem?_eq_some_iff.mp hd).1
            have hdr : ds.drop i = d :: ds.drop (i + 1) := by
              rw [List.drop_eq_getElem_cons hlt, (List.getElem?_eq_some_iff.mp hd).2]
            rw [hdr] at hl
            simp only [lcL] at hl
            obtain ⟨e1, h1, hl⟩ := Res.bin_inv hl
            obtain ⟨b, h2, hl⟩ := Res.bin_inv hl
            obtain ⟨go, yl⟩ := hfi.1 d hd
            refine .inr ⟨go, fun H3 => ∃ F' e us acc, Sub F1 F' ∧ Sta (kn X) (A.keep Dd (.lst us)) F' H3 (wipe σ vs) (clr e vs) ∧ Reps (kn X) F' acc us ∧ lcL g tt fe vs (ds.drop (i + 1)) acc (clr e vs) = .ok fin,
              fun H3 ⟨F', e, us, acc, a, b, c, d⟩ => ⟨m - 1, by omega, F', e, us, acc, a, b, c, by omega, d⟩, fun x H3 hy => ?_⟩
            have stp : ∃ F3, Sub F' F3 ∧ Sta (kn X) (A.keep Dd (.lst us)) F3 H3 (wipe σ vs) (clr e vs) ∧ Rep (kn X) F3 d x := by
              rcases yl x H3 hy with ⟨rfl, r⟩ | ⟨T, ts, es, rfl, nT, rfl, rfl, r⟩
              · exact ⟨F', .refl _, S2, r⟩
              · obtain ⟨a, _, _⟩ := S2.fresh nT
                exact ⟨_, .new a, S2.lay nT, .tup (SqT.of upd_same) (r.mono (.new a))⟩
            obtain ⟨F3, s3, S3, r3⟩ := stp
            refine ⟨A.keep Dd (.lst us), F3, _, e1, d, S3, r3, h1, fun σ4 o4 S4 => ?_⟩
            have o4' : Out vs (wipe σ vs) σ4 := o4.sub hw
            refine ⟨(wipe_eq o4').trans ?_, A.keep Dd (.lst us), F3, e1, S4, ?_⟩
            · exact wipe_eq (wipe_out' σ vs)
            rw [h2]
            intro F5 H5 s5 S5
            have oo : Out vs σ4 (wipe σ vs) := ⟨o4'.1.symm, fun j hj => (o4'.2 j hj).symm⟩
            by_cases hb : b.1 = true
            · rw [if_pos hb] at hl ⊢
              obtain ⟨xv, h3, hl⟩ := Res.bin_inv hl
              refine ⟨A.keep Dd (.lst us), F5, b.2, S5, ?_⟩
              rw [h3]
              intro F6 H6 v6 s6 S6 r6
              cases hh : hold xv.1 xv.2 with
              | none => rw [hh] at hl; cases hl
              | some hd2 =>
                rw [hh] at hl
                simp only at hl
                by_cases hz : acc.length < sizeLine
                · rw [if_pos hz] at hl
                  obtain ⟨F7, s7, S7, r7⟩ := S6.hold r6 (d := hd2.1) (env' := hd2.2) hh
                  obtain ⟨S8, hD, fD, oD⟩ := S7.keepOut nK nF0
                  have sAll : Sub F' F7 := ((s3.trans s5).trans s6).trans s7
                  refine ⟨us, hD, by rw [ra.len]; exact hz, F7, hd2.2, us ++ [v6], acc ++ [hd2.1], s2.trans sAll, ?_, (ra.mono sAll).append (.cons r7 .nil), hl⟩
                  -- the list grows
                  have S9 : Sta (kn X) A F7 (upd H6 Dd (.lst (us ++ [v6]))) σ4 hd2.2 := by
                    refine ⟨S8.sub.mut fD, S8.kp.mut nK, S8.f0, S8.frz, fun i sl e => ?_, S8.own, S8.dis, S8.len, S8.mus⟩
                    obtain ⟨v, e1, rr⟩ := S8.rel i sl e
                    refine ⟨v, e1, ?_⟩
                    cases sl with
                    | fz d => exact rr
                    | ow o =>
                      obtain ⟨p, u, rfl, hp, rr⟩ := rr
                      exact ⟨p, u, rfl, by rw [upd_ne fun z => by subst z; exact oD i o (.inl e) e1]; exact hp, rr⟩
                    | mu o =>
                      obtain ⟨p, u, rfl, hp, rr⟩ := rr
                      exact ⟨p, u, rfl, by rw [upd_ne fun z => by subst z; exact oD i o (.inr e) e1]; exact hp, rr⟩
                  refine (S9.clr vs oo).keepIn upd_same fD nK fun j o a b => ?_
                  obtain ⟨n, a'⟩ := clr_own a
                  rw [oo.2 j n] at b
                  exact oD j o a' b
                · rw [if_neg hz] at hl; cases hl
            · rw [if_neg hb] at hl ⊢
              exact ⟨F5, b.2, us, acc, s2.trans (s3.trans s5), S5.clr vs oo, ra.mono (s3.trans s5), hl⟩
    · rw [if_neg hpl] at q; exact q.elim
section
variable {X : Cx} {W : WP} {pos : Pos} {elt tg iter : Expr} {ifs : List Expr} {scope : Scope} {own : List (Str × Nat)} {it : FI} {g : FG} {ws : List Nat} {tt : FT} {fe : FE}
theorem ex_lc (hc : X.calm = true) (hN : X.N.Nodup) (hi : IX X W tg iter it) (ok : BlkOk X.N X.env.scope scope own)
    (hg : ∀ (s : Shared) (H : Hp) (C : Addr) (cl : List (Str × Addr)) (fp : List Addr), GX (X.blk s H scope (compEnvC scope cl C X.env) fp) tg g ws)
    (ht : ∀ (s : Shared) (H : Hp) (C : Addr) (cl : List (Str × Addr)) (fp : List Addr), TsX (X.blk s H scope (compEnvC scope cl C X.env) fp) W0 ifs tt)
    (he : ∀ (s : Shared) (H : Hp) (C : Addr) (cl : List (Str × Addr)) (fp : List Addr), EX (X.blk s H scope (compEnvC scope cl C X.env) fp) W0 elt fe)
    (hw : ∀ i ∈ ws, i ∈ own.map (·.2)) (hs : ∀ x, foldedSetIterable iter X.env x = pure x := by intro _; rfl) : EX X W (.ListComp elt [⟨tg, iter, ifs, 0⟩] scope pos) (vlc it g tt fe (own.map (·.2))) := by
  obtain ⟨wi, pi, ri⟩ := hi
  exact ⟨_, pe_lc (g := gOf (kn X) g ws) (tt := ttOf (kn X) W0 tt) (te := tOf (kn X) W0 fe) hc hN pi ok (fun s H C cl fp => (hg s H C cl fp).can) (fun s H C cl fp => (ht s H C cl fp).can) (fun s H C cl fp => (he s H C cl fp).can) hs, lc_reads (tg := tg) (iter := iter) ri hw⟩
theorem sx_setLc (i : Nat) {y : Str} {py spos : Pos} (hc : X.calm = true) (hN : X.N.Nodup) (hsw : swapsWith (.ListComp elt [⟨tg, iter, ifs, 0⟩] scope pos) (some (.Name y py)) spos.line X.env = pure true) (hi : IX X W tg iter it) (ok : BlkOk X.N X.env.scope scope own)
    (hg : ∀ (s : Shared) (H : Hp) (C : Addr) (cl : List (Str × Addr)) (fp : List Addr), GX (X.blk s H scope (compEnvC scope cl C X.env) fp) tg g ws)
    (ht : ∀ (s : Shared) (H : Hp) (C : Addr) (cl : List (Str × Addr)) (fp : List Addr), TsX (X.blk s H scope (compEnvC scope cl C X.env) fp) W0 ifs tt)
    (he : ∀ (s : Shared) (H : Hp) (C : Addr) (cl : List (Str × Addr)) (fp : List Addr), EX (X.blk s H scope (compEnvC scope cl C X.env) fp) W0 elt fe)
    (hw : ∀ i ∈ ws, i ∈ own.map (·.2)) (hy : X.N[i]? = some y := by rfl) (hyl : X.env.scope.names.lookup y = some .local := by rfl) (hs : ∀ x, foldedSetIterable iter X.env x = pure x := by intro _; rfl) :
    SX X W (.Assign [.Name y py] (.ListComp elt [⟨tg, iter, ifs, 0⟩] scope pos) spos) (sasg i (vlc it g tt fe (own.map (·.2)))) := by
  obtain ⟨wi, pi, ri⟩ := hi
  refine ⟨_, ps_setLc (g := gOf (kn X) g ws) (tt := ttOf (kn X) W0 tt) (te := tOf (kn X) W0 fe) hc hN hy hyl hsw pi ok (fun s H C cl fp => (hg s H C cl fp).can) (fun s H C cl fp => (ht s H C cl fp).can) (fun s H C cl fp => (he s H C cl fp).can) hs, fun A F H σ env D S q => ?_⟩
  refine lc_reads (tg := tg) (iter := iter) ri hw A F H σ env _ S (q.afE fun p F1 H1 v1 s1 S1 r1 q1 => ?_)
  cases c : bindA i p.1 p.2 with
  | ok e1 =>
    rw [c] at q1
    obtain ⟨F2, s2, S2⟩ := S1.bindA r1 c
    exact q1 F2 H1 _ s2 S2
  | ex _ _ => cases h : p.1 <;> rw [h] at c <;> simp only [bindA, bindD] at c <;> (repeat' split at c) <;> cases c
  | no => rw [c] at q1; exact q1.elim
end
end PL

/-! PL: defs and their calls. -/
namespace PL
open PySem PySem.Spec PyProof.Rows L2

/-! ### what a def does -/
inductive FRes where
  | ok (r : Sl) (ms : List (Option O))
  | ex (x : Exn) (ms : List (Option O))
  | no
abbrev FFn := List Sl → FRes
def muts : List Sl → En → List (Option O)
  | .mu _ :: as, some (.mu o) :: e => some o :: muts as e
  | _ :: as, _ :: e => none :: muts as e
  | _, _ => []
def callEnv (args : List Sl) (n : Nat) : En := args.map some ++ List.replicate (n - args.length) none
def runF (n : Nat) (g : FS) : FFn := fun args => match g (callEnv args n) with
  | .nx e => .ok (.fz .non) (muts args e)
  | .rt r e => .ok r (muts args e)
  | .ex x e => .ex x (muts args e)
  | _ => .no
def cAmb (Kp F : Hp) (vs : List V) : Amb := ⟨Kp, F, fun i => vs[i]?⟩
/-- the promise «called with arguments that hold args, it does f args» -/
def Prom (k : Kn) (n : Nat) (f : FFn) : Sp := fun vs H Q _ => ∃ (Kp F : Hp) (args : List Sl),
  Sta k (cAmb Kp F vs) F H (vs.map some) (args.map some) ∧ args.length = n ∧ (∀ a ∈ args, ∀ o, a ≠ .ow o) ∧
  ∃ r ms, f args = .ok r ms ∧ ∀ F' H' σ' e' v, Sub F F' → Sta k (cAmb Kp F vs) F' H' σ' e' → muts args e' = ms → RRet k (cAmb Kp F vs) F' H' σ' e' r v → Q v H'
theorem Prom.len {k : Kn} {n : Nat} {f : FFn} {vs : List V} {H : Hp} {Q : VK} {E : XK} (h : Prom k n f vs H Q E) : vs.length = n := by
  obtain ⟨Kp, F, args, S, hl, _⟩ := h
  have := S.len
  rw [List.length_map, List.length_map] at this
  rw [this, hl]
section
variable {k : Kn} {A : Amb} {F H : Hp} {σ : L2.St} {env : En}
/-- further slots, empty -/
theorem Sta.ext (S : Sta k A F H σ env) (m : Nat) : Sta k A F H (σ ++ List.replicate m none) (env ++ List.replicate m none) := by
  have ge : ∀ {i : Nat} {sl : Sl}, (env ++ List.replicate m none)[i]? = some (some sl) → env[i]? = some (some sl) ∧ (σ ++ List.replicate m none)[i]? = σ[i]? := fun {i sl} e => by
    by_cases h : i < env.length
    · rw [List.getElem?_append_left h] at e
      exact ⟨e, List.getElem?_append_left (by rw [S.len]; exact h)⟩
    · rw [List.getElem?_append_right (by omega)] at e
      have := List.mem_of_getElem? e
      rw [List.mem_replicate] at this
      cases this.2
  have go : ∀ {i : Nat} {o : O}, OwnAt (env ++ List.replicate m none) i o → OwnAt env i o ∧ (σ ++ List.replicate m none)[i]? = σ[i]? := fun {i o} e => by
    rcases e with e | e
    · exact ⟨.inl (ge e).1, (ge e).2⟩
    · exact ⟨.inr (ge e).1, (ge e).2⟩
  refine ⟨S.sub, S.kp, S.f0, S.frz, fun i sl e => ?_, fun i o p a b => ?_, fun i j o u p a b c d => ?_, by simp [S.len], fun i o e => ?_⟩
  · rw [(ge e).2]; exact S.rel i sl (ge e).1
  · rw [(go a).2] at b; exact S.own i o p (go a).1 b
  · rw [(go a).2] at c; rw [(go b).2] at d; exact S.dis i j o u p (go a).1 (go b).1 c d
  · rw [(ge e).2]; exact S.mus i o (ge e).1
end
section
variable {P : Program} {w : World} {K : PySem.W.Frag} {mg : Str → Option Value} {base : Heap}
theorem fun_body {X : Cx} {n : Nat} {sts : List Stmt} {g : FS} {N : List Str} {np : Nat} (h : BX X W0 sts g) {vs : List V} {H : Hp} {Q : VK} {E : XK} (hN : N.length = n) (hs : Prom (kn X) np (runF n g) vs H Q E) :
    ∃ t, PSs X sts t ∧ t { nx := fun _ H' => Q .non H', rt := Q } (L2.start N vs) H := by
  obtain ⟨t, p, r⟩ := h
  refine ⟨t, p, ?_⟩
  obtain ⟨Kp, F, args, S, hl, hno, res, ms, hf, q⟩ := hs
  have hlen : vs.length = args.length := by
    have := S.len
    rwa [List.length_map, List.length_map] at this
  have S' := S.ext (n - args.length)
  have e1 : L2.start N vs = vs.map some ++ List.replicate (n - args.length) none := by
    unfold L2.start; rw [hN, hlen]
  rw [e1]
  refine r _ F H _ _ _ S' ?_
  show PostS _ _ _ _ (g (callEnv args n)) _
  unfold runF at hf
  cases c : g (callEnv args n) with
  | nx e =>
    rw [c] at hf; cases hf
    exact fun F' H' σ' a b => q F' H' σ' e _ a b rfl .non
  | rt x e =>
    rw [c] at hf; cases hf
    exact fun F' H' σ' v a b d => q F' H' σ' e v a b rfl d
  | bk e => rw [c] at hf; cases hf
  | ct e => rw [c] at hf; cases hf
  | ex x e => rw [c] at hf; cases hf
  | no => rw [c] at hf; cases hf
/-- THE RULE for a def -/
theorem fun_ok {x qual : Str} {st : Stmt} {f : Addr} {fd : FuncData} {N ps : List Str} {k np : Nat} {g : FS} (F : Fun K x qual st f fd) (S : FnScope N ps (defScope st)) (hnp : ps.length = np)
    (hb : ∀ (cdv : Value) (A : Around) (outer : List Env) (s : Shared) (H : Hp) (E : XK), Room k (A.deeper (envOfC qual (defScope st) s.heap.objs.size f cdv)) →
      BX (cxOf CX0 P w K mg base N qual (defScope st) f cdv A outer s H E).nox W0 (defBody st) g) : FnOk P w K mg base CX0 (k + 1) f fd ps (Prom ⟨K, mg⟩ np (runF N.length g)) :=
  F.ok S (fun vs H Q E h => by rw [hnp]; exact h.len) fun cdv A outer s H vs Q E hr h => fun_body (hb cdv A outer s H E hr) rfl h
end

/-! ### a call -/
inductive Md where
  | rd | bw | mt
inductive Pa where
  | hd (d : D)
  | bo (j : Nat)
  | mt (j : Nat)
def Pa.sl (e : En) : Pa → Option Sl
  | .hd d => some (.fz d)
  | .bo j => (slotO e j).map fun o => .fz o.toD
  | .mt j => (slotO e j).map .mu
def slsOf (e : En) : List Pa → Option (List Sl)
  | [] => some []
  | p :: ps => (match p.sl e, slsOf e ps with
    | some s, some r => some (s :: r)
    | _, _ => none)
/-- how an argument is handed over -/
def prep1 (m : Md) (x : Arg) (env : En) : Option (Pa × En) :=
  match m, x with
  | .mt, .slot j => some (.mt j, env)
  | .mt, _ => none
  | .bw, .slot j => (match slotO env j with
    | some _ => some (.bo j, env)
    | none => (hold (.slot j) env).map fun p => (.hd p.1, p.2))
  | _, x => (hold x env).map fun p => (.hd p.1, p.2)
def prep : List Md → List Arg → En → Option (List Pa × En)
  | [], [], env => some ([], env)
  | m :: ms, x :: xs, env => (match prep1 m x env with
    | some p => (match prep ms xs p.2 with
      | some q => some (p.1 :: q.1, q.2)
      | none => none)
    | none => none)
  | _, _, _ => none
def mslots : List Pa → List Nat
  | [] => []
  | .mt j :: ps => j :: mslots ps
  | _ :: ps => mslots ps
def bslots : List Pa → List Nat
  | [] => []
  | .bo j :: ps => j :: bslots ps
  | _ :: ps => bslots ps
/-- no list, no dict anywhere -/
def noL : D → Bool
  | .lst _ => false
  | .dct _ _ => false
  | .dctT _ _ => false
  | .scr _ => false
  | .tup ds => noLs ds
  | .inst _ _ ds => noLs ds
  | _ => true
where noLs : List D → Bool
  | [] => true
  | d :: ds => noL d && noLs ds
def noLO : O → Bool
  | .lst ds => noL.noLs ds
  | .dct _ ds => noL.noLs ds
  | .dctT _ _ => false
  | .inst _ _ ds => noL.noLs ds
def flatO : O → Bool
  | .inst _ _ _ => false
  | _ => true
def noLS : Sl → Bool
  | .fz d => noL d
  | .ow o => noLO o
  | .mu o => noLO o
/-- the borrowed slots are still held -/
def clean (ps : List Pa) (env : En) (r : Sl) (os : List (Option O)) : Bool :=
  (bslots ps).isEmpty || ((bslots ps).all (fun j => match slotO env j with
    | some o => flatO o
    | none => false) && noLS r && os.all fun o => match o with
    | some o => noLO o
    | none => true)
def applyO : List Pa → List (Option O) → En → Option En
  | [], [], e => some e
  | .mt j :: ps, some o' :: os, e => applyO ps os (setO e j o')
  | .hd _ :: ps, none :: os, e => applyO ps os e
  | .bo _ :: ps, none :: os, e => applyO ps os e
  | _, _, _ => none
def okPa (ps : List Pa) : Bool := decide (mslots ps).Nodup && (bslots ps).all fun j => !(mslots ps).contains j
def toArg : Sl → Option Arg
  | .fz d => some (.val d)
  | .ow o => some (.new o)
  | .mu _ => none
def callF (ms : List Md) (f : FFn) (fa : FA) : FE := fun env => (fa env).bind fun p => match prep ms p.1 p.2 with
  | some (ps, e) => (match slsOf e ps with
    | some as => if okPa ps = true then (match f as with
      | .ok r os => if clean ps e r os = true then (match toArg r, applyO ps os e with
        | some x, some e' => .ok (x, e')
        | _, _ => .no) else .no
      | _ => .no) else .no
    | none => .no)
  | none => .no

/-! soundness -/
def RPa (k : Kn) (F : Hp) (σ : L2.St) : Pa → V → Prop
  | .hd d, v => Rep k F d v
  | .bo j, v => σ[j]? = some (some v)
  | .mt j, v => σ[j]? = some (some v)
inductive RPas (k : Kn) (F : Hp) (σ : L2.St) : List Pa → List V → Prop
  | nil : RPas k F σ [] []
  | cons {p : Pa} {v : V} {ps : List Pa} {vs : List V} : RPa k F σ p v → RPas k F σ ps vs → RPas k F σ (p :: ps) (v :: vs)
section
variable {k : Kn} {A : Amb} {F H : Hp} {σ : L2.St} {env : En}
theorem RPa.mono {F' : Hp} {p : Pa} {v : V} (s : Sub F F') (h : RPa k F σ p v) : RPa k F' σ p v := by
  cases p with
  | hd d => exact Rep.mono s h
  | bo j => exact h
  | mt j => exact h
theorem Sta.prep1 (S : Sta k A F H σ env) {m : Md} {x : Arg} {v : V} {q : Pa × En} (r : RArg k A F H σ env x v) (h : PL.prep1 m x env = some q) : ∃ F', Sub F F' ∧ Sta k A F' H σ q.2 ∧ RPa k F' σ q.1 v := by
  have hl : ∀ {x : Arg}, RArg k A F H σ env x v → (PL.hold x env).map (fun p => ((.hd p.1, p.2) : Pa × En)) = some q → ∃ F', Sub F F' ∧ Sta k A F' H σ q.2 ∧ RPa k F' σ q.1 v := fun {x} r h => by
    cases c : PL.hold x env with
    | none => rw [c] at h; cases h
    | some p =>
      rw [c] at h; cases h
      obtain ⟨F', a, b, d⟩ := S.hold r (d := p.1) (env' := p.2) c
      exact ⟨F', a, b, d⟩
  unfold PL.prep1 at h
  split at h
  · cases h; exact ⟨F, .refl F, S, r⟩
  · cases h
  · split at h
    · cases h; exact ⟨F, .refl F, S, r⟩
    · exact hl r h
  · exact hl r h
end
theorem Sta.prep {k : Kn} {A : Amb} {H : Hp} {σ : L2.St} : ∀ {ms : List Md} {F : Hp} {env env0 : En} {xs : List Arg} {vs : List V} {q : List Pa × En}, Sta k A F H σ env → RArgs k A F H σ env0 xs vs → PL.prep ms xs env = some q →
    ∃ F', Sub F F' ∧ Sta k A F' H σ q.2 ∧ RPas k F' σ q.1 vs
  | [], F, env, env0, _, _, q, S, .nil, h => by cases h; exact ⟨F, .refl F, S, .nil⟩
  | _ :: _, F, env, env0, _, _, q, S, .nil, h => by cases h
  | [], F, env, env0, _, _, q, S, .cons _ _, h => by cases h
  | m :: ms, F, env, env0, _, _, q, S, .cons (x := x) (v := v) (xs := xs) r t, h => by
    simp only [PL.prep] at h
    split at h
    · rename_i p e1
      split at h
      · rename_i q' e2
        cases h
        have r' : RArg k A F H σ env (PL.settle x) v := by cases x <;> exact r
        obtain ⟨F1, a1, S1, r1⟩ := S.prep1 r' e1
        obtain ⟨F2, a2, S2, r2⟩ := Sta.prep (env0 := env0) S1 (t.keep (env' := env0) a1) e2
        exact ⟨F2, a1.trans a2, S2, .cons (r1.mono a2) r2⟩
      · cases h
    · cases h
/-- what is read does not lean on lists, dicts -/
def Thin (F F' : Hp) (B : Addr → Prop) : Prop := ∀ a, ¬ B a → F' a = F a
mutual
theorem Rep.thin {k : Kn} {F F' : Hp} (h1 : ∀ a vs, F a = some (.tup vs) → F' a = some (.tup vs)) (h2 : ∀ a o u, F a = some (.frz o u) → F' a = some (.frz o u)) (h3 : ∀ a C dx fs, F a = some (.ins C dx fs) → F' a = some (.ins C dx fs)) :
    ∀ {d : D} {v : V}, Rep k F d v → noL d = true → Rep k F' d v
  | _, _, .non, _ => .non
  | _, _, .bl b, _ => .bl b
  | _, _, .int i, _ => .int i
  | _, _, .str s, _ => .str s
  | _, _, .tup h r, e => .tup (h.imp (fun h => h.imp (h1 _ _) fun ⟨o, z⟩ => ⟨o, h2 _ _ _ z⟩) id) (Reps.thin h1 h2 h3 r (by simpa [noL] using e))
  | _, _, .lst _ _, e => by simp [noL] at e
  | _, _, .dct _ _, e => by simp [noL] at e
  | _, _, .dctT _ _, e => by simp [noL] at e
  | _, _, .inst c h r, e => .inst c (h3 _ _ _ _ h) (Reps.thin h1 h2 h3 r (by simpa [noL] using e))
  | _, _, .fn h, _ => .fn h
  | _, _, .scr h, e => by simp [noL] at e
theorem Reps.thin {k : Kn} {F F' : Hp} (h1 : ∀ a vs, F a = some (.tup vs) → F' a = some (.tup vs)) (h2 : ∀ a o u, F a = some (.frz o u) → F' a = some (.frz o u)) (h3 : ∀ a C dx fs, F a = some (.ins C dx fs) → F' a = some (.ins C dx fs)) :
    ∀ {ds : List D} {vs : List V}, Reps k F ds vs → noL.noLs ds = true → Reps k F' ds vs
  | _, _, .nil, _ => .nil
  | _, _, .cons h t, e => by
    simp only [noL.noLs, Bool.and_eq_true] at e
    exact .cons (Rep.thin h1 h2 h3 h e.1) (Reps.thin h1 h2 h3 t e.2)
end

theorem RPas.at {k : Kn} {F : Hp} {σ : L2.St} : ∀ {ps : List Pa} {vs : List V} {i : Nat} {p : Pa}, RPas k F σ ps vs → ps[i]? = some p → ∃ v, vs[i]? = some v ∧ RPa k F σ p v
  | _, _, _, _, .nil, e => by simp at e
  | _, _, 0, _, .cons r _, e => by simp at e; subst e; exact ⟨_, rfl, r⟩
  | _, _, i + 1, _, .cons _ t, e => by
    obtain ⟨v, h1, h2⟩ := RPas.at (i := i) t (by simpa using e)
    exact ⟨v, by simpa using h1, h2⟩
theorem RPas.len {k : Kn} {F : Hp} {σ : L2.St} : ∀ {ps : List Pa} {vs : List V}, RPas k F σ ps vs → vs.length = ps.length
  | _, _, .nil => rfl
  | _, _, .cons _ t => by rw [List.length_cons, List.length_cons, RPas.len t]
theorem slsOf_at {e : En} : ∀ {ps : List Pa} {as : List Sl}, slsOf e ps = some as → as.length = ps.length ∧ ∀ (i : Nat) (a : Sl), as[i]? = some a → ∃ p : Pa, ps[i]? = some p ∧ p.sl e = some a
  | [], as, h => by cases h; exact ⟨rfl, fun i a e => by simp at e⟩
  | p :: ps, as, h => by
    simp only [slsOf] at h
    split at h
    · rename_i s r e1 e2
      cases h
      obtain ⟨hl, hi⟩ := slsOf_at e2
      refine ⟨by rw [List.length_cons, List.length_cons, hl], fun i a e => ?_⟩
      cases i with
      | zero => simp at e; subst e; exact ⟨p, rfl, e1⟩
      | succ i =>
        obtain ⟨q, a1, a2⟩ := hi i a (by simpa using e)
        exact ⟨q, by simpa using a1, a2⟩
    · cases h
theorem muts_at : ∀ {as : List Sl} {e : En} {i : Nat} {o : O}, (muts as e)[i]? = some (some o) → e[i]? = some (some (.mu o)) ∧ ∃ o', as[i]? = some (.mu o')
  | [], e, i, o, h => by simp [muts] at h
  | a :: as, [], i, o, h => by cases a <;> simp [muts] at h
  | a :: as, x :: e, 0, o, h => by
    cases a with
    | mu o' =>
      cases x with
      | none => simp [muts] at h
      | some sl => cases sl with
        | mu u => simp [muts] at h; subst h; exact ⟨rfl, o', rfl⟩
        | fz _ => simp [muts] at h
        | ow _ => simp [muts] at h
    | fz _ => simp [muts] at h
    | ow _ => simp [muts] at h
  | a :: as, x :: e, i + 1, o, h => by
    have : (muts as e)[i]? = some (some o) := by
      cases a <;> (try cases x) <;> (try (rename_i sl; cases sl)) <;> simpa [muts] using h
    obtain ⟨h1, o', h2⟩ := muts_at this
    exact ⟨by simpa using h1, o', by simpa using h2⟩
/-- what the outs do to the frame -/
theorem setO_len (e : En) (j : Nat) (o : O) : (setO e j o).length = e.length := by
  unfold setO; split <;> first | rw [List.length_set] | rfl
theorem setO_ne {e : En} {i j : Nat} {o : O} (h : i ≠ j) : (setO e j o)[i]? = e[i]? := by
  unfold setO; split <;> first | rw [get_set_ne h] | rfl
theorem setO_eq {e : En} {j : Nat} {o u : O} (h : OwnAt e j u) : OwnAt (setO e j o) j o ∧ ∀ w, (setO e j o)[j]? = some (some (.mu w)) → ∃ w', e[j]? = some (some (.mu w')) := by
  rcases h with h | h
  · simp only [setO, h]
    exact ⟨.inl (get_set_eq h), fun w z => by rw [get_set_eq h] at z; cases z⟩
  · simp only [setO, h]
    exact ⟨.inr (get_set_eq h), fun w z => ⟨u, rfl⟩⟩
theorem applyO_at : ∀ {ps : List Pa} {os : List (Option O)} {e e' : En}, applyO ps os e = some e' → (mslots ps).Nodup → (∀ j ∈ mslots ps, ∃ u, OwnAt e j u) →
    e'.length = e.length ∧ (∀ i, i ∉ mslots ps → e'[i]? = e[i]?) ∧ ∀ (n j : Nat), ps[n]? = some (Pa.mt j) → ∃ o, os[n]? = some (some o) ∧ OwnAt e' j o ∧ ∀ w, e'[j]? = some (some (.mu w)) → ∃ w', e[j]? = some (some (.mu w'))
  | [], os, e, e', h, _, _ => by
    cases os with
    | nil => cases h; exact ⟨rfl, fun _ _ => rfl, fun n j z => by simp at z⟩
    | cons _ _ => simp [applyO] at h
  | p :: ps, [], e, e', h, _, _ => by cases p <;> simp [applyO] at h
  | .hd d :: ps, o :: os, e, e', h, nd, ow => by
    cases o with
    | some _ => simp [applyO] at h
    | none =>
      simp only [applyO] at h
      obtain ⟨a, b, c⟩ := applyO_at h nd ow
      refine ⟨a, b, fun n j z => ?_⟩
      cases n with
      | zero => simp at z
      | succ n => simpa using c n j (by simpa using z)
  | .bo x :: ps, o :: os, e, e', h, nd, ow => by
    cases o with
    | some _ => simp [applyO] at h
    | none =>
      simp only [applyO] at h
      obtain ⟨a, b, c⟩ := applyO_at h nd ow
      refine ⟨a, b, fun n j z => ?_⟩
      cases n with
      | zero => simp at z
      | succ n => simpa using c n j (by simpa using z)
  | .mt x :: ps, o :: os, e, e', h, nd, ow => by
    cases o with
    | none => simp [applyO] at h
    | some o =>
      simp only [applyO] at h
      have nd' : x ∉ mslots ps ∧ (mslots ps).Nodup := List.nodup_cons.mp nd
      obtain ⟨u, hu⟩ := ow x List.mem_cons_self
      have so := setO_eq (o := o) hu
      obtain ⟨a, b, c⟩ := applyO_at h nd'.2 fun j hj => by
        have ne : j ≠ x := fun z => nd'.1 (z ▸ hj)
        obtain ⟨w, hw⟩ := ow j (List.mem_cons_of_mem _ hj)
        refine ⟨w, ?_⟩
        unfold OwnAt
        rw [setO_ne ne]; exact hw
      refine ⟨by rw [a, setO_len], fun i hi => ?_, fun n j z => ?_⟩
      · have : i ≠ x ∧ i ∉ mslots ps := ⟨fun z => hi (z ▸ List.mem_cons_self), fun z => hi (List.mem_cons_of_mem _ z)⟩
        rw [b i this.2, setO_ne this.1]
      · cases n with
        | zero =>
          simp at z; subst z
          refine ⟨o, rfl, ?_, fun w hw => so.2 w (by rw [← b x nd'.1]; exact hw)⟩
          unfold OwnAt
          rw [b x nd'.1]; exact so.1
        | succ n =>
          obtain ⟨o', h1, h2, h3⟩ := c n j (by simpa using z)
          have hj : j ∈ mslots ps := by
            have : ∀ {ps : List Pa} {n : Nat}, ps[n]? = some (.mt j) → j ∈ mslots ps := by
              intro ps
              induction ps with
              | nil => intro n z; simp at z
              | cons p ps ih =>
                intro n z
                cases n with
                | zero => simp at z; subst z; exact List.mem_cons_self
                | succ n =>
                  have := ih (n := n) (by simpa using z)
                  cases p <;> first | exact this | exact List.mem_cons_of_mem _ this
            exact this (n := n) (by simpa using z)
          have ne : j ≠ x := fun q => nd'.1 (q ▸ hj)
          exact ⟨o', by simpa using h1, h2, fun w hw => by
            obtain ⟨w', q⟩ := h3 w hw
            exact ⟨w', by rw [← setO_ne ne]; exact q⟩⟩
theorem mem_mslots {j : Nat} : ∀ {ps : List Pa} {n : Nat}, ps[n]? = some (.mt j) → j ∈ mslots ps
  | [], n, z => by simp at z
  | p :: ps, 0, z => by simp at z; subst z; exact List.mem_cons_self
  | p :: ps, n + 1, z => by
    have := mem_mslots (ps := ps) (n := n) (by simpa using z)
    cases p <;> first | exact this | exact List.mem_cons_of_mem _ this
theorem of_mslots {j : Nat} : ∀ {ps : List Pa}, j ∈ mslots ps → ∃ n : Nat, ps[n]? = some (Pa.mt j)
  | p :: ps, h => by
    cases p with
    | mt x =>
      rcases List.mem_cons.mp h with rfl | h
      · exact ⟨0, rfl⟩
      · obtain ⟨n, e⟩ := of_mslots h; exact ⟨n + 1, by simpa using e⟩
    | hd d => obtain ⟨n, e⟩ := of_mslots (ps := ps) h; exact ⟨n + 1, by simpa using e⟩
    | bo x => obtain ⟨n, e⟩ := of_mslots (ps := ps) h; exact ⟨n + 1, by simpa using e⟩
theorem mem_bslots {j : Nat} : ∀ {ps : List Pa} {n : Nat}, ps[n]? = some (.bo j) → j ∈ bslots ps
  | [], n, z => by simp at z
  | p :: ps, 0, z => by simp at z; subst z; exact List.mem_cons_self
  | p :: ps, n + 1, z => by
    have := mem_bslots (ps := ps) (n := n) (by simpa using z)
    cases p <;> first | exact this | exact List.mem_cons_of_mem _ this
theorem mslots_inj {j : Nat} : ∀ {ps : List Pa} {n m : Nat}, (mslots ps).Nodup → ps[n]? = some (.mt j) → ps[m]? = some (.mt j) → n = m
  | [], n, m, _, z, _ => by simp at z
  | p :: ps, n, m, nd, z, z' => by
    have tl : (mslots ps).Nodup := by cases p <;> first | exact nd | exact (List.nodup_cons.mp nd).2
    cases n with
    | zero =>
      cases m with
      | zero => rfl
      | succ m =>
        simp at z; subst z
        exact absurd (mem_mslots (n := m) (by simpa using z')) (List.nodup_cons.mp nd).1
    | succ n =>
      cases m with
      | zero =>
        simp at z'; subst z'
        exact absurd (mem_mslots (n := n) (by simpa using z)) (List.nodup_cons.mp nd).1
      | succ m => exact congrArg (· + 1) (mslots_inj (n := n) (m := m) tl (by simpa using z) (by simpa using z'))
open Classical in
/-- THE CALL: the caller's frame behind it -/
theorem call_sound {k : Kn} {A : Amb} {F H : Hp} {σ : L2.St} {e e' : En} {ps : List Pa} {vs : List V} {as : List Sl} {f : FFn} {r : Sl} {os : List (Option O)} {x : Arg} {Q : VK} {E : XK} {n : Nat}
    (S : Sta k A F H σ e) (rp : RPas k F σ ps vs) (hsl : slsOf e ps = some as) (hok : okPa ps = true) (hf : f as = .ok r os) (hcl : clean ps e r os = true) (hx : toArg r = some x) (ha : applyO ps os e = some e') (hn : ps.length = n)
    (q : ∀ F' H' v, Sub F F' → Sta k A F' H' σ e' → RArg k A F' H' σ e' x v → Q v H') : Prom k n f vs H Q E := by
  have hnd : (mslots ps).Nodup := by
    have := (Bool.and_eq_true_iff.mp hok).1
    exact of_decide_eq_true this
  have hbm : ∀ j ∈ bslots ps, j ∉ mslots ps := fun j hj hm => by
    have := List.all_eq_true.mp (Bool.and_eq_true_iff.mp hok).2 j hj
    simp [List.contains_iff_mem] at this
    exact this hm
  obtain ⟨hal, hat⟩ := slsOf_at hsl
  -- addresses of the slots that are handed over
  have mtA : ∀ (i j : Nat), ps[i]? = some (Pa.mt j) → ∃ p u o, vs[i]? = some (.ref p) ∧ σ[j]? = some (some (V.ref p)) ∧ OwnAt e j o ∧ as[i]? = some (.mu o) ∧ H p = some u ∧ RepO k F o u ∧ F p = none ∧ A.Kp p = none := fun i j hi => by
    obtain ⟨v, e1, rv⟩ := rp.at hi
    have rv' : σ[j]? = some (some v) := rv
    have hi' : i < as.length := by rw [hal]; exact (List.getElem?_eq_some_iff.mp hi).1
    obtain ⟨p2, e2, e3⟩ := hat i _ (List.getElem?_eq_getElem hi')
    rw [hi] at e2; cases e2
    simp only [Pa.sl] at e3
    cases c : slotO e j with
    | none => rw [c] at e3; cases e3
    | some o =>
      rw [c] at e3
      obtain ⟨p, u, e4, hp, ro, hF, hK⟩ := S.at (slotO_own c)
      rw [e4] at rv'; cases rv'
      have e3' : some (Sl.mu o) = some as[i] := e3
      exact ⟨p, u, o, e1, e4, slotO_own c, by rw [List.getElem?_eq_getElem hi', ← e3'], hp, ro, hF, hK⟩
  have boA : ∀ (i j : Nat), ps[i]? = some (Pa.bo j) → ∃ p u o, vs[i]? = some (.ref p) ∧ σ[j]? = some (some (V.ref p)) ∧ OwnAt e j o ∧ as[i]? = some (.fz o.toD) ∧ H p = some u ∧ RepO k F o u ∧ F p = none ∧ A.Kp p = none := fun i j hi => by
    obtain ⟨v, e1, rv⟩ := rp.at hi
    have rv' : σ[j]? = some (some v) := rv
    have hi' : i < as.length := by rw [hal]; exact (List.getElem?_eq_some_iff.mp hi).1
    obtain ⟨p2, e2, e3⟩ := hat i _ (List.getElem?_eq_getElem hi')
    rw [hi] at e2; cases e2
    simp only [Pa.sl] at e3
    cases c : slotO e j with
    | none => rw [c] at e3; cases e3
    | some o =>
      rw [c] at e3
      obtain ⟨p, u, e4, hp, ro, hF, hK⟩ := S.at (slotO_own c)
      rw [e4] at rv'; cases rv'
      have e3' : some (Sl.fz o.toD) = some as[i] := e3
      exact ⟨p, u, o, e1, e4, slotO_own c, by rw [List.getElem?_eq_getElem hi', ← e3'], hp, ro, hF, hK⟩
  let B : Addr → Prop := fun a => ∃ i j : Nat, ps[i]? = some (Pa.bo j) ∧ σ[j]? = some (some (V.ref a))
  let M : Addr → Prop := fun a => ∃ i j : Nat, ps[i]? = some (Pa.mt j) ∧ σ[j]? = some (some (V.ref a))
  have BM : ∀ a, B a → ¬ M a := fun a ⟨i, j, h1, h2⟩ ⟨i', j', h3, h4⟩ => by
    obtain ⟨_, _, o1, _, _, w1, _⟩ := boA i j h1
    obtain ⟨_, _, o2, _, _, w2, _⟩ := mtA i' j' h3
    have := S.dis j j' _ _ a w1 w2 h2 h4
    subst this
    exact hbm j (mem_bslots h1) (mem_mslots h3)
  have ownB : ∀ a, B a → F a = none ∧ A.Kp a = none := fun a ⟨i, j, h1, h2⟩ => by
    obtain ⟨_, _, o, _, _, w1, _⟩ := boA i j h1
    exact S.own j o a w1 h2
  have ownM : ∀ a, M a → F a = none ∧ A.Kp a = none := fun a ⟨i, j, h1, h2⟩ => by
    obtain ⟨_, _, o, _, _, w1, _⟩ := mtA i j h1
    exact S.own j o a w1 h2
  let F2 : Hp := fun a => if B a then H a else F a
  let K2 : Hp := fun a => if M a then none else H a
  have F2B : ∀ {a}, B a → F2 a = H a := fun {a} h => if_pos h
  have F2N : ∀ {a}, ¬ B a → F2 a = F a := fun {a} h => if_neg h
  have K2M : ∀ {a}, M a → K2 a = none := fun {a} h => if_pos h
  have K2N : ∀ {a}, ¬ M a → K2 a = H a := fun {a} h => if_neg h
  have sF2 : Sub F F2 := fun a o h => by
    have : ¬ B a := fun z => by rw [(ownB a z).1] at h; cases h
    rw [F2N this]; exact h
  have F2H : Sub F2 H := fun a o h => by
    by_cases z : B a
    · rw [F2B z] at h; exact h
    · rw [F2N z] at h; exact S.sub a o h
  have asmu : ∀ (i : Nat) (o : O), (as.map some)[i]? = some (some (.mu o)) → ∃ j : Nat, ps[i]? = some (Pa.mt j) := fun i o h => by
    rw [List.getElem?_map] at h
    cases c : as[i]? with
    | none => rw [c] at h; cases h
    | some a =>
      rw [c] at h
      have h' : a = .mu o := by simpa using h
      subst h'
      obtain ⟨p, e1, e2⟩ := hat i _ c
      cases p with
      | hd d => cases e2
      | bo j => simp only [Pa.sl] at e2; cases c2 : slotO e j <;> rw [c2] at e2 <;> cases e2
      | mt j => exact ⟨j, e1⟩
  have asno : ∀ a ∈ as, ∀ o, a ≠ .ow o := fun a ha o h => by
    subst h
    obtain ⟨i, hi⟩ := List.getElem?_of_mem ha
    obtain ⟨p, e1, e2⟩ := hat i _ hi
    cases p with
    | hd d => cases e2
    | bo j => simp only [Pa.sl] at e2; cases c2 : slotO e j <;> rw [c2] at e2 <;> cases e2
    | mt j => simp only [Pa.sl] at e2; cases c2 : slotO e j <;> rw [c2] at e2 <;> cases e2
  have vget : ∀ {i : Nat} {v : V}, (vs.map some)[i]? = some (some v) → vs[i]? = some v := fun {i v} h => by
    rw [List.getElem?_map] at h
    cases c : vs[i]? with
    | none => rw [c] at h; cases h
    | some a => rw [c] at h; simpa using h
  have ownAs : ∀ (i : Nat) (o : O) (p : Addr), OwnAt (as.map some) i o → (vs.map some)[i]? = some (some (V.ref p)) → ∃ j : Nat, ps[i]? = some (Pa.mt j) ∧ σ[j]? = some (some (V.ref p)) := fun i o p h1 h2 => by
    have hmu : (as.map some)[i]? = some (some (.mu o)) := by
      rcases h1 with h1 | h1
      · rw [List.getElem?_map] at h1
        cases c : as[i]? with
        | none => rw [c] at h1; cases h1
        | some a =>
          rw [c] at h1
          have h' : a = .ow o := by simpa using h1
          exact absurd h' (asno a (List.mem_of_getElem? c) o)
      · exact h1
    obtain ⟨j, hj⟩ := asmu i o hmu
    obtain ⟨p', _, _, e1, e2, _⟩ := mtA i j hj
    have := vget h2
    rw [e1] at this; cases this
    exact ⟨j, hj, e2⟩
  have S2 : Sta k (cAmb K2 F2 vs) F2 H (vs.map some) (as.map some) := by
    refine ⟨F2H, fun a o h => ?_, .refl _, fun a o h => .inl h, fun i sl h => ?_, fun i o p h1 h2 => ?_, fun i i' o u p h1 h2 h3 h4 => ?_, by rw [List.length_map, List.length_map, rp.len, hal], fun i o h => ?_⟩
    · have h' : K2 a = some o := h
      by_cases z : M a
      · rw [K2M z] at h'; cases h'
      · rw [K2N z] at h'; exact h'
    · rw [List.getElem?_map] at h
      cases c : as[i]? with
      | none => rw [c] at h; cases h
      | some a =>
        rw [c] at h
        have h' : a = sl := by simpa using h
        subst h'
        obtain ⟨p, e1, e2⟩ := hat i _ c
        cases p with
        | hd d =>
          cases e2
          obtain ⟨v, e3, rv⟩ := rp.at e1
          exact ⟨v, by rw [List.getElem?_map, e3]; rfl, Rep.mono sF2 rv⟩
        | bo j =>
          obtain ⟨p, u, o, e3, e4, w, e5, hp, ro, _⟩ := boA i j e1
          rw [c] at e5; cases e5
          refine ⟨.ref p, by rw [List.getElem?_map, e3]; rfl, ?_⟩
          exact (ro.mono sF2).rep (by rw [F2B ⟨i, j, e1, e4⟩]; exact hp)
        | mt j =>
          obtain ⟨p, u, o, e3, e4, w, e5, hp, ro, _⟩ := mtA i j e1
          rw [c] at e5; cases e5
          exact ⟨.ref p, by rw [List.getElem?_map, e3]; rfl, p, u, rfl, hp, ro.mono sF2⟩
    · obtain ⟨j, hj, hs⟩ := ownAs i o p h1 h2
      have hm : M p := ⟨i, j, hj, hs⟩
      refine ⟨?_, K2M hm⟩
      rw [F2N fun z => BM p z hm]
      exact (ownM p hm).1
    · obtain ⟨j, hj, hs⟩ := ownAs i o p h1 h3
      obtain ⟨j', hj', hs'⟩ := ownAs i' u p h2 h4
      obtain ⟨_, _, o1, _, _, w1, _⟩ := mtA i j hj
      obtain ⟨_, _, o2, _, _, w2, _⟩ := mtA i' j' hj'
      have := S.dis j j' _ _ p w1 w2 hs hs'
      subst this
      exact mslots_inj hnd hj hj'
    · obtain ⟨j, hj⟩ := asmu i o h
      obtain ⟨p, _, _, e1, _⟩ := mtA i j hj
      rw [List.getElem?_map, e1]
      show some (some (V.ref p)) = some (vs[i]?)
      rw [e1]
  refine ⟨K2, F2, as, S2, by rw [hal, hn], asno, r, os, hf, fun F' H' σ' ec v sF S3 hm rr => ?_⟩
  -- the caller's frozen part behind the call
  let F3 : Hp := fun a => if B a then none else F' a
  have F3B : ∀ {a}, B a → F3 a = none := fun {a} h => if_pos h
  have F3N : ∀ {a}, ¬ B a → F3 a = F' a := fun {a} h => if_neg h
  have F3F : Sub F3 F' := fun a o h => by
    by_cases z : B a
    · rw [F3B z] at h; cases h
    · rw [F3N z] at h; exact h
  have sF3 : Sub F F3 := fun a o h => by
    have nb : ¬ B a := fun z => by rw [(ownB a z).1] at h; cases h
    rw [F3N nb]; exact sF a o (sF2 a o h)
  have keep : ∀ {a o}, H a = some o → ¬ M a → H' a = some o := fun {a o} h nm => S3.kp a o (by show K2 a = some o; rw [K2N nm]; exact h)
  obtain ⟨elen, eout, ein⟩ := applyO_at ha hnd fun j hj => by
    obtain ⟨i, hi⟩ := of_mslots hj
    obtain ⟨_, _, o, _, _, w, _⟩ := mtA i j hi
    exact ⟨o, w⟩
  -- a mutable argument behind the call
  have mtB : ∀ (i j : Nat) (o : O), ps[i]? = some (Pa.mt j) → os[i]? = some (some o) → ∃ p u, σ[j]? = some (some (V.ref p)) ∧ H' p = some u ∧ RepO k F' o u ∧ F' p = none ∧ (∀ w, RRet k (cAmb K2 F2 vs) F' H' σ' ec (.ow w) v → v ≠ .ref p) := fun i j o h1 h2 => by
    rw [← hm] at h2
    obtain ⟨e1, o', e2⟩ := muts_at h2
    obtain ⟨p, _, _, e3, e4, _⟩ := mtA i j h1
    obtain ⟨p', u', e5, hp, ro, hF, hK⟩ := S3.at (.inr e1)
    have := S3.mus i o e1
    rw [e5] at this
    have t2 : some (some (V.ref p')) = some (vs[i]?) := this
    rw [e3] at t2; cases t2
    refine ⟨p, u', e4, hp, ro, hF, fun w hw hv => ?_⟩
    subst hv
    obtain ⟨p2, u2, e6, _, _, _, _, hs⟩ := hw
    cases e6
    exact hs i o (.inr e1) e5
  have nMF : ∀ a, M a → F' a = none := fun a ⟨i, j, h1, h2⟩ => by
    obtain ⟨o, h3, _⟩ := ein i j h1
    obtain ⟨p, u, e1, _, _, hF, _⟩ := mtB i j o h1 h3
    rw [h2] at e1; cases e1
    exact hF
  have newF : ∀ {a o}, F' a = some o → ¬ B a → F a = some o ∨ H a = none := fun {a o} h nb => by
    rcases S3.frz a o h with z | z
    · have z' : F2 a = some o := z
      rw [F2N nb] at z'; exact .inl z'
    · have z' : K2 a = none := z
      by_cases m : M a
      · rw [nMF a m] at h; cases h
      · rw [K2N m] at z'; exact .inr z'
  -- what is read through F' without lists is read through F3
  have thinAll : clean ps e r os = true → (∀ a, ¬ B a) ∨ ((∀ a, B a → ∃ u, F' a = some u ∧ ((∃ xs, u = .lst xs) ∨ (∃ kvs, u = .dK kvs) ∨ ∃ kvs, u = .dT kvs)) ∧ noLS r = true ∧ ∀ (i : Nat) (o : O), os[i]? = some (some o) → noLO o = true) := fun hc => by
    rcases (Bool.or_eq_true_iff.mp hc) with h | h
    · refine .inl fun a ⟨i, j, h1, _⟩ => ?_
      have := mem_bslots h1
      rw [List.isEmpty_iff.mp h] at this
      cases this
    · obtain ⟨h12, h3⟩ := Bool.and_eq_true_iff.mp h
      obtain ⟨h1, h2⟩ := Bool.and_eq_true_iff.mp h12
      refine .inr ⟨fun a ⟨i, j, e1, e2⟩ => ?_, h2, fun i o hi => ?_⟩
      · have := List.all_eq_true.mp h1 j (mem_bslots e1)
        obtain ⟨p, u, o, e3, e4, w, e5, hp, ro, _⟩ := boA i j e1
        rw [own_slotO w] at this
        rw [e2] at e4; cases e4
        refine ⟨u, sF a u (by rw [F2B ⟨i, j, e1, e2⟩]; exact hp), ?_⟩
        cases ro with
        | lst _ => exact .inl ⟨_, rfl⟩
        | dct _ => exact .inr (.inl ⟨_, rfl⟩)
        | dctT _ => exact .inr (.inr ⟨_, rfl⟩)
        | inst _ _ => cases this
      · exact List.all_eq_true.mp h3 (some o) (List.mem_of_getElem? hi)
  have tE : (∀ a, ¬ B a) → F3 = F' := fun h => funext fun a => F3N (h a)
  have t1 : (∀ a, B a → ∃ u, F' a = some u ∧ ((∃ xs, u = .lst xs) ∨ (∃ kvs, u = .dK kvs) ∨ ∃ kvs, u = .dT kvs)) → ∀ a u, F' a = some u → (∀ xs, u ≠ .lst xs) → (∀ xs, u ≠ .dK xs) → (∀ xs, u ≠ .dT xs) → F3 a = some u := fun h a u hu n1 n2 n3 => by
    have nb : ¬ B a := fun z => by
      obtain ⟨u', e1, e2⟩ := h a z
      rw [hu] at e1; cases e1
      rcases e2 with ⟨_, rfl⟩ | ⟨_, rfl⟩ | ⟨_, rfl⟩
      · exact n1 _ rfl
      · exact n2 _ rfl
      · exact n3 _ rfl
    rw [F3N nb]; exact hu
  have repT : ∀ {d w}, Rep k F' d w → (noLS r = true → noL d = true) → Rep k F3 d w := fun {d w} h hd => by
    rcases thinAll hcl with z | ⟨z1, z2, _⟩
    · rw [tE z]; exact h
    · exact h.thin (fun a vs e => t1 z1 a _ e (fun _ q => by cases q) (fun _ q => by cases q) (fun _ q => by cases q)) (fun a o u e => t1 z1 a _ e (fun _ q => by cases q) (fun _ q => by cases q) (fun _ q => by cases q)) (fun a C dx fs e => t1 z1 a _ e (fun _ q => by cases q) (fun _ q => by cases q) (fun _ q => by cases q)) (hd z2)
  have repOT : ∀ {o u}, RepO k F' o u → ((∀ a, ¬ B a) ∨ noLO o = true) → RepO k F3 o u := fun {o u} h hd => by
    rcases thinAll hcl with z | ⟨z1, _, _⟩
    · rw [tE z]; exact h
    · rcases hd with z | hd
      · rw [tE z]; exact h
      · have go : ∀ {ds ws}, Reps k F' ds ws → noL.noLs ds = true → Reps k F3 ds ws := fun {ds ws} h hd => h.thin (fun a vs e => t1 z1 a _ e (fun _ q => by cases q) (fun _ q => by cases q) (fun _ q => by cases q)) (fun a o u e => t1 z1 a _ e (fun _ q => by cases q) (fun _ q => by cases q) (fun _ q => by cases q)) (fun a C dx fs e => t1 z1 a _ e (fun _ q => by cases q) (fun _ q => by cases q) (fun _ q => by cases q)) hd
        cases h with
        | lst r => exact .lst (go r hd)
        | dct r => exact .dct (go r hd)
        | dctT r => cases hd
        | inst c r => exact .inst c (go r hd)
  have kindE : ∀ (i : Nat) (sl : Sl), e'[i]? = some (some sl) → (i ∉ mslots ps ∧ e[i]? = some (some sl)) ∨ ∃ (m : Nat) (o : O), ps[m]? = some (Pa.mt i) ∧ os[m]? = some (some o) ∧ OwnAt e' i o := fun i sl h => by
    by_cases z : i ∈ mslots ps
    · obtain ⟨m, hm'⟩ := of_mslots z
      obtain ⟨o, h1, h2, _⟩ := ein m i hm'
      exact .inr ⟨m, o, hm', h1, h2⟩
    · exact .inl ⟨z, by rw [← eout i z]; exact h⟩
  have ownE : ∀ (i : Nat) (o : O), OwnAt e' i o → ∃ o', OwnAt e i o' := fun i o h => by
    by_cases z : i ∈ mslots ps
    · obtain ⟨m, hm'⟩ := of_mslots z
      obtain ⟨_, _, o1, _, _, w, _⟩ := mtA m i hm'
      exact ⟨o1, w⟩
    · exact ⟨o, by unfold OwnAt at h ⊢; rwa [eout i z] at h⟩
  have nMown : ∀ (i : Nat) (o : O) (p : Addr), i ∉ mslots ps → OwnAt e i o → σ[i]? = some (some (V.ref p)) → ¬ M p := fun i o p z w hp ⟨m, j, h1, h2⟩ => by
    obtain ⟨_, _, o1, _, _, w1, _⟩ := mtA m j h1
    have := S.dis i j _ _ p w w1 hp h2
    subst this
    exact z (mem_mslots h1)
  have S4 : Sta k A F3 H' σ e' := by
    refine ⟨F3F.trans S3.sub, fun a o h => ?_, S.f0.trans sF3, fun a o h => ?_, fun i sl h => ?_, fun i o p h1 h2 => ?_, fun i j o u p h1 h2 h3 h4 => ?_, by rw [elen]; exact S.len, fun i o h => ?_⟩
    · refine keep (S.kp a o h) fun m => ?_
      rw [(ownM a m).2] at h; cases h
    · by_cases nb : B a
      · rw [F3B nb] at h; cases h
      · rw [F3N nb] at h
        rcases newF h nb with z | z
        · exact S.frz a o z
        · exact .inr (S.kp.free z)
    · rcases kindE i sl h with ⟨nm, h'⟩ | ⟨m, o, h1, h2, h3⟩
      · obtain ⟨w, e1, rr'⟩ := S.rel i sl h'
        refine ⟨w, e1, ?_⟩
        cases sl with
        | fz d => exact Rep.mono sF3 rr'
        | ow o =>
          obtain ⟨p, u, rfl, hp, ro⟩ := rr'
          exact ⟨p, u, rfl, keep hp (nMown i o p nm (.inl h') e1), ro.mono sF3⟩
        | mu o =>
          obtain ⟨p, u, rfl, hp, ro⟩ := rr'
          exact ⟨p, u, rfl, keep hp (nMown i o p nm (.inr h') e1), ro.mono sF3⟩
      · obtain ⟨p, u, e1, hp, ro, _⟩ := mtB m i o h1 h2
        have ro' : RepO k F3 o u := repOT ro (by
          rcases thinAll hcl with z | ⟨_, _, z⟩
          · exact .inl z
          · exact .inr (z m o h2))
        refine ⟨.ref p, e1, ?_⟩
        rcases h3 with h3 | h3
        · rw [h] at h3; cases h3; exact ⟨p, u, rfl, hp, ro'⟩
        · rw [h] at h3; cases h3; exact ⟨p, u, rfl, hp, ro'⟩
    · obtain ⟨o', w⟩ := ownE i o h1
      obtain ⟨a, b⟩ := S.own i o' p w h2
      refine ⟨?_, b⟩
      by_cases nb : B p
      · exact F3B nb
      · rw [F3N nb]
        cases c : F' p with
        | none => rfl
        | some y =>
          rcases newF c nb with z | z
          · rw [a] at z; cases z
          · obtain ⟨_, _, e1, hp, _⟩ := S.at w
            rw [h2] at e1; cases e1
            rw [z] at hp; cases hp
    · obtain ⟨o', w⟩ := ownE i o h1
      obtain ⟨u', w'⟩ := ownE j u h2
      exact S.dis i j _ _ p w w' h3 h4
    · by_cases z : i ∈ mslots ps
      · obtain ⟨m, hm'⟩ := of_mslots z
        obtain ⟨o1, h1, h2, h3⟩ := ein m i hm'
        obtain ⟨w', q'⟩ := h3 o h
        exact S.mus i w' q'
      · exact S.mus i o (by rw [← eout i z]; exact h)
  refine q F3 H' v sF3 S4 ?_
  cases r with
  | fz d =>
    cases hx
    exact repT rr fun z => z
  | mu o => cases hx
  | ow o =>
    cases hx
    obtain ⟨p, u, rfl, hp, ro, hF, hK, hs⟩ := rr
    have hK' : K2 p = none := hK
    have nM : ¬ M p := fun m => by
      obtain ⟨i, j, h1, h2⟩ := m
      obtain ⟨o1, h3, _⟩ := ein i j h1
      obtain ⟨p', u', e1, _, _, _, hv⟩ := mtB i j o1 h1 h3
      rw [h2] at e1; cases e1
      exact hv o ⟨p, u, rfl, hp, ro, hF, hK, hs⟩ rfl
    have nH : H p = none := by rw [← K2N nM]; exact hK'
    have nB : ¬ B p := fun ⟨i, j, h1, h2⟩ => by
      obtain ⟨p', u', o1, _, e4, _, _, hp', _⟩ := boA i j h1
      rw [h2] at e4; cases e4
      rw [nH] at hp'; cases hp'
    refine ⟨p, u, rfl, hp, repOT ro ?_, by rw [F3N nB]; exact hF, S.kp.free nH, fun j w h1 h2 => ?_⟩
    · rcases thinAll hcl with z | ⟨_, z, _⟩
      · exact .inl z
      · exact .inr z
    · obtain ⟨o', w'⟩ := ownE j w h1
      obtain ⟨_, _, e1, hp', _⟩ := S.at w'
      rw [h2] at e1; cases e1
      rw [nH] at hp'; cases hp'
section
variable {X : Cx} {W : WP} {k : Nat} {f : Addr} {fd : FuncData} {pn : List Str} {x : Str} {p pos : Pos} {e : Expr} {es : List Expr} {fa : FA} {fn : FFn}
theorem callF_ok {ms : List Md} {t : TA} {n : Nat} (hn : ms.length = n) (ra : ∀ (A : Amb) (F H : Hp) (σ : L2.St) (env : En) (Q : List V → Hp → Prop), Sta (kn X) A F H σ env → PostA (kn X) A W F σ (fa env) Q → t σ H Q) :
    ∀ (A : Amb) (F H : Hp) (σ : L2.St) (env : En) (Q : VK), Sta (kn X) A F H σ env → PostE (kn X) A W F σ (callF ms fn fa env) Q → tCall (Prom (kn X) n fn) [] E0 t σ H Q := by
  intro A F H σ env Q S q
  refine ra A F H σ env _ S (q.afA fun p F1 H1 vs s1 S1 r1 q1 => ?_)
  show Prom (kn X) n fn (vs ++ []) H1 Q E0
  rw [List.append_nil]
  cases c : prep ms p.1 p.2 with
  | none => simp only [c] at q1; exact q1.elim
  | some pe =>
    obtain ⟨ps, e1⟩ := pe
    simp only [c] at q1
    obtain ⟨F2, s2, S2, r2⟩ := Sta.prep S1 r1 c
    have hl : ps.length = n := by
      have : ∀ {ms : List Md} {xs : List Arg} {e : En} {q : List Pa × En}, prep ms xs e = some q → q.1.length = ms.length := by
        intro ms
        induction ms with
        | nil => intro xs e q h; cases xs <;> cases h; rfl
        | cons m ms ih =>
          intro xs e q h
          cases xs with
          | nil => cases h
          | cons x xs =>
            simp only [prep] at h
            split at h
            · split at h
              · rename_i e2
                cases h
                rw [List.length_cons, List.length_cons, ih e2]
              · cases h
            · cases h
      rw [this c, hn]
    cases ca : slsOf e1 ps with
    | none => simp only [ca] at q1; exact q1.elim
    | some as =>
      simp only [ca] at q1
      by_cases ho : okPa ps = true
      · rw [if_pos ho] at q1
        cases cf : fn as with
        | ok r os =>
          simp only [cf] at q1
          by_cases hc : clean ps e1 r os = true
          · rw [if_pos hc] at q1
            cases cx : toArg r with
            | none => simp only [cx] at q1; exact q1.elim
            | some xa =>
              cases cp : applyO ps os e1 with
              | none => simp only [cx, cp] at q1; exact q1.elim
              | some e2 =>
                simp only [cx, cp] at q1
                exact call_sound S2 r2 ca ho cf hc cx cp hl fun F' H' v a b c => q1 F' H' v (s2.trans a) b c
          · rw [if_neg hc] at q1; exact q1.elim
        | ex _ _ => simp only [cf] at q1; exact q1.elim
        | no => simp only [cf] at q1; exact q1.elim
      · rw [if_neg ho] at q1; exact q1.elim
theorem ex_call {ms : List Md} {n : Nat} (Fo : FnOk X.prog X.w X.K X.mg X.base CX0 k f fd pn (Prom (kn X) n fn)) (hn : ms.length = n) (hr : Room k X.A) (hg : Gl X x) (hm : X.mg x = some (.ref f)) (hk : PySem.W.keepIn X.K (.ref f) = true) (hb : Binds X.K fd pn []) (ha : AX X W (e :: es) fa)
    (hdb : (x == ("__debug__" : Str)) = false := by decide) (he : starEach (e :: es) X.env = (false, eval e X.env) :: starEach es X.env := by rfl) (hpl : (backTo pos (starEach es X.env)).any (·.1) = false := by rfl) :
    EX X W (.Call (.Name x p) (e :: es) [] pos) (callF ms fn fa) := by
  obtain ⟨t, pa, ra⟩ := ha
  exact ⟨_, pe_call Fo hr hg hm hk hb .nil pass0 pa hdb he hpl, callF_ok hn ra⟩
end
end PL

/-! PL: subscripts, slices, stores, methods of lists, built-ins by name. -/
namespace PL
open PySem PySem.Spec PyProof.Rows L2

/-! ### x[i] -/
def gIx : D → D → Option Arg
  | .lst ds, .int i => (atI ds i).map .val
  | .tup ds, .int i => (atI ds i).map .val
  | .scr is, .int i => (atI is i).map fun n => .val (.int n)
  | .str z, .int i => if z.length ≤ sizeLine then (atI z.cps.toList i).map fun c => .val (.str ⟨#[c]⟩) else none
  | _, _ => none
theorem atI_rep {k : Kn} {F : Hp} {ds : List D} {vs : List V} {i : Int} {d : D} (r : Reps k F ds vs) (h : atI ds i = some d) : ∃ v, atI vs i = some v ∧ Rep k F d v := by
  unfold atI at h ⊢
  rw [r.len]
  cases c : ixN ds.length i with
  | none => rw [c] at h; cases h
  | some j =>
    rw [c] at h
    exact r.get h
theorem bok_ix {k : Kn} : BOk k (rIx k.K) gIx := by
  intro A F H σ env x y a b z Q S va vb e q
  unfold gIx at e
  split at e
  · rename_i ds i
    cases c : atI ds i with
    | none => rw [c] at e; cases e
    | some d =>
      rw [c] at e; cases e
      obtain ⟨p, vs, rfl, hp, r⟩ := va.lst S.sub
      cases vb.int
      obtain ⟨v, e1, rv⟩ := atI_rep r c
      exact .inl ⟨p, vs, i, v, rfl, rfl, SqL.of hp, e1, q F H v (.refl F) S rv⟩
  · rename_i ds i
    cases c : atI ds i with
    | none => rw [c] at e; cases e
    | some d =>
      rw [c] at e; cases e
      obtain ⟨p, vs, rfl, hp, r⟩ := va.tup
      cases vb.int
      obtain ⟨v, e1, rv⟩ := atI_rep r c
      exact .inr (.inl ⟨p, vs, i, v, rfl, rfl, S.sub.t hp, e1, q F H v (.refl F) S rv⟩)
  · rename_i is i
    cases c : atI is i with
    | none => rw [c] at e; cases e
    | some n =>
      rw [c] at e; cases e
      obtain ⟨p, rfl, hp⟩ := va.scr S.sub
      cases vb.int
      refine .inl ⟨p, _, i, .int n, rfl, rfl, hp, ?_, q F H _ (.refl F) S (.int n)⟩
      unfold atI at c ⊢
      rw [List.length_map]
      cases c2 : ixN is.length i with
      | none => rw [c2] at c; cases c
      | some j =>
        rw [c2] at c
        have c' : is[j]? = some n := c
        show (is.map V.int)[j]? = _
        rw [List.getElem?_map, c']; rfl
  · rename_i zz i
    split at e
    · rename_i hz
      cases c : atI zz.cps.toList i with
      | none => rw [c] at e; cases e
      | some d =>
        rw [c] at e; cases e
        cases va.str; cases vb.int
        exact .inr (.inr ⟨zz, i, d, rfl, rfl, hz, c, q F H _ (.refl F) S (.str _)⟩)
    · cases e
  · cases e
section
variable {X : Cx} {W : WP} {a b e : Expr} {es : List Expr} {fa fb f : FE} {pos : Pos}
theorem ex_ix (ha : EX X W a fa) (hb : EX X W b fb) (hs : PlainIx b := by intro _ _; rfl) : EX X W (.Subscript a b pos) (bop gIx fa fb) :=
  let ⟨_, _, pa, pb, h⟩ := bop_ok bok_ix ha hb
  ⟨_, pe_ix ix_seq pa pb hs, h⟩
end

/-! ### x[a:b] -/
abbrev FO := En → Res (Option Int × En)
def PostO (k : Kn) (A : Amb) (W : WP) (F : Hp) (σ : L2.St) (r : Res (Option Int × En)) (Q : Option Int → Hp → Prop) : Prop :=
  match r with
  | .ok p => ∀ F' H', Sub F F' → Sta k A F' H' σ p.2 → Q p.1 H'
  | .ex x e => W.w A F x e
  | .no => False
def OX (X : Cx) (W : WP) (o : Option Expr) (f : FO) : Prop :=
  ∃ t, PO X o t ∧ ∀ (A : Amb) (F H : Hp) (σ : L2.St) (env : En) (Q : Option Int → Hp → Prop), Sta (kn X) A F H σ env → PostO (kn X) A W F σ (f env) Q → t σ H Q
section
variable {k : Kn} {A : Amb} {W : WP} {F F' : Hp} {σ : L2.St}
theorem PostO.mono {r : Res (Option Int × En)} {Q : Option Int → Hp → Prop} (s : Sub F F') (h : PostO k A W F σ r Q) : PostO k A W F' σ r Q := by
  cases r with
  | ok p => exact fun F1 H1 a b => h F1 H1 (s.trans a) b
  | ex x e => exact W.mono s h
  | no => exact h
theorem PostO.afE {r : Res (Arg × En)} {f : Arg × En → Res (Option Int × En)} {Q : Option Int → Hp → Prop} {Q1 : VK} (h : PostO k A W F σ (r.bind f) Q)
    (g : ∀ p F' H' v, Sub F F' → Sta k A F' H' σ p.2 → RArg k A F' H' σ p.2 p.1 v → PostO k A W F' σ (f p) Q → Q1 v H') : PostE k A W F σ r Q1 :=
  PostE.bnd (P := fun F r => PostO k A W F σ r Q) (fun _ _ h => h) (fun h => h) (fun s h => h.mono s) h g
theorem PostE.afO {r : Res (Option Int × En)} {f : Option Int × En → Res (Arg × En)} {Q : VK} {Q1 : Option Int → Hp → Prop} (h : PostE k A W F σ (r.bind f) Q)
    (g : ∀ p F' H', Sub F F' → Sta k A F' H' σ p.2 → PostE k A W F' σ (f p) Q → Q1 p.1 H') : PostO k A W F σ r Q1 := by
  cases r with
  | ok p => exact fun F' H' a b => g p F' H' a b (PostE.mono a h)
  | ex x e => exact h
  | no => exact h
end
def onone : FO := fun env => .ok (none, env)
def osome (f : FE) : FO := fun env => (f env).bind fun p => match cont p.1 p.2 with
  | some (.int i) => .ok (some i, p.2)
  | _ => .no
def cut {α : Type} (xs : List α) (lo hi : Option Int) : List α := (xs.drop (HT.sIx xs.length 0 lo)).take (HT.sIx xs.length xs.length hi - HT.sIx xs.length 0 lo)
theorem Reps.cut {k : Kn} {F : Hp} {ds : List D} {vs : List V} (r : Reps k F ds vs) (lo hi : Option Int) : Reps k F (PL.cut ds lo hi) (cutV vs lo hi) := by
  unfold PL.cut cutV
  rw [r.len]
  exact (r.drop _).take _
def gSl (d : D) (lo hi : Option Int) : Option Arg :=
  match d with
  | .lst ds => some (.new (.lst (cut ds lo hi)))
  | .tup ds => some (.val (.tup (cut ds lo hi)))
  | .str z => if z.length ≤ sizeLine then some (.val (.str (cutS z lo hi))) else none
  | _ => none
def vsl (f : FE) (g h : FO) : FE := fun env => (f env).bind fun p => (g p.2).bind fun q => (h q.2).bind fun r => match (cont (settle p.1) r.2).bind fun d => gSl d q.1 r.1 with
  | some x => .ok (x, r.2)
  | none => .no
section
variable {X : Cx} {W : WP} {a b e : Expr} {es : List Expr} {fa fb f : FE} {pos : Pos}
theorem ox_none : OX X W none onone := ⟨_, po_none, fun A F H σ env Q S q => q F H (.refl _) S⟩
theorem ox_some (h : EX X W e f) : OX X W (some e) (osome f) := by
  obtain ⟨t, p, r⟩ := h
  refine ⟨_, po_some p, fun A F H σ env Q S q => r A F H σ env _ S (q.afE fun p F1 H1 v1 s1 S1 r1 q1 => ?_)⟩
  cases c : cont p.1 p.2 with
  | none => rw [c] at q1; exact q1.elim
  | some d =>
    rw [c] at q1
    have vw := S1.view r1 c
    cases d with
    | int i => cases vw.int; exact ⟨i, rfl, q1 F1 H1 (.refl _) S1⟩
    | _ => exact q1.elim
def rSlAll (K : PySem.W.Frag) : V → Option Int → Option Int → Hp → VK → Prop := fun x lo hi H Q => rSlL K x lo hi H Q ∨ (rSlA K x lo hi H Q ∨ rSlS x lo hi H Q)
theorem sl_ok {k : Kn} {A : Amb} {F H : Hp} {σ : L2.St} {env : En} {d : D} {v : V} {lo hi : Option Int} {x : Arg} {Q : VK} (S : Sta k A F H σ env) (vw : View k F H d v) (h : gSl d lo hi = some x)
    (q : ∀ F' H' v, Sub F F' → Sta k A F' H' σ env → RArg k A F' H' σ env x v → Q v H') : rSlAll k.K v lo hi H Q := by
  unfold gSl at h
  split at h
  · cases h
    obtain ⟨p, vs, rfl, hp, r⟩ := vw.lst S.sub
    exact .inl ⟨p, vs, rfl, SqL.of hp, S.newL (r.cut lo hi) q⟩
  · rename_i ds
    cases h
    obtain ⟨p, vs, rfl, hp, r⟩ := vw.tup
    refine .inr (.inl ⟨p, vs, rfl, S.sub.t hp, fun hw => ?_, fun _ => S.newT (r.cut lo hi) q⟩)
    refine q F H _ (.refl _) S (.tup hp ?_)
    have : cut ds lo hi = ds := by
      unfold cut
      rw [← r.len, hw.1, hw.2, List.drop_zero, Nat.sub_zero, r.len, List.take_length]
    rw [this]; exact r
  · split at h
    · rename_i hz; cases h; cases vw.str; exact .inr (.inr ⟨_, rfl, hz, q F H _ (.refl _) S (.str _)⟩)
    · cases h
  · cases h
theorem ex_slice {lo hi : Option Expr} {p2 : Pos} {g h : FO} (he : EX X W e f) (hl : OX X W lo g) (hh : OX X W hi h) : EX X W (.Subscript e (.Slice lo hi none p2) pos) (vsl f g h) := by
  obtain ⟨t, p, r⟩ := he
  obtain ⟨t1, p1, r1⟩ := hl
  obtain ⟨t2, p2, r2⟩ := hh
  refine ⟨_, pe_slice (SlR.or sl_list (SlR.or sl_tupA sl_str)) p p1 p2, fun A F H σ env Q S q => r A F H σ env _ S (q.afE fun p F1 H1 v1 s1 S1 rr q1 => ?_)⟩
  obtain ⟨F1', s1', S1', rr'⟩ := S1.settle rr
  refine r1 A F1' H1 σ p.2 _ S1' ((q1.mono s1').afO fun p2 F2 H2 s2 S2 q2 => ?_)
  refine r2 A F2 H2 σ p2.2 _ S2 (q2.afO fun p3 F3 H3 s3 S3 q3 => ?_)
  have k1 := rr'.keep (F' := F3) (H' := H3) (env' := p3.2) (s2.trans s3)
  cases c : cont (settle p.1) p3.2 with
  | none => rw [c] at q3; exact q3.elim
  | some d =>
    rw [c] at q3
    simp only [Option.bind_some] at q3
    cases c2 : gSl d p2.1 p3.1 with
    | none => rw [c2] at q3; exact q3.elim
    | some x => rw [c2] at q3; exact sl_ok S3 (S3.view k1 c) c2 fun F' H' v a b c => q3 F' H' v a b c
/-- x[::-1] of a list -/
def gRev : D → Option Arg
  | .lst ds => some (.new (.lst ds.reverse))
  | _ => none
theorem ex_revL {n : Nat} {p1 p2 p3 : Pos} (he : EX X W e f) : EX X W (.Subscript e (.Slice none none (some (.UnaryOp .USub (.Constant (.int 1) n p1) p2)) p3) pos) (uop gRev f) := by
  obtain ⟨t, p, r⟩ := he
  refine ⟨_, pe_revL p, fun A F H σ env Q S q => r A F H σ env _ S (q.afE fun p F1 H1 v1 s1 S1 r1 q1 => ?_)⟩
  cases c : cont p.1 p.2 with
  | none => rw [c] at q1; exact q1.elim
  | some d =>
    rw [c] at q1
    have vw := S1.view r1 c
    cases d with
    | lst ds =>
      obtain ⟨a, vs, rfl, hp, rr⟩ := vw.lst S1.sub
      exact ⟨a, vs, rfl, SqL.of hp, S1.newL rr.reverse q1⟩
    | _ => exact q1.elim

/-! ### x[i] = e, x a slot's list -/
def sset (j : Nat) (f g : FE) : FS := fun env => (f env).go fun p => match hold p.1 p.2 with
  | some d => (match slotO d.2 j with
    | some _ => (g d.2).go fun q => (match cont q.1 q.2, slotO q.2 j with
      | some (.int i), some (.lst ds) => (match ixN ds.length i with
        | some m => .nx (setO q.2 j (.lst (ds.set m d.1)))
        | none => .no)
      | _, _ => .no)
    | none => .no)
  | none => .no
theorem sx_setix (j : Nat) {x : Str} {ie : Expr} {px pt : Pos} {g : FE} (he : EX X W e f) (hi : EX X W ie g) (hN : X.N[j]? = some x := by rfl) (hv : Vis X.env.scope x := by first | exact Or.inl rfl | exact Or.inr (Or.inl rfl) | exact Or.inr (Or.inr rfl))
    (ha : ∀ v, assign (.Subscript (.Name x px) ie pt) X.env v = (do
      let ov ← holding [v] (eval (.Name x px) X.env)
      let iv ← holding [v, ov] (eval ie X.env)
      standAt pt
      holding [v, ov, iv] (setItem ov iv v)
      release [v, ov, iv] []) := by intro _; rfl)
    (hd : (x == ("__debug__" : Str)) = false := by decide) (hcd : (x == ("__classdict__" : Str)) = false := by decide)
    (hs : swapsWithSole [.Subscript (.Name x px) ie pt] e pos.line X.env = pure false := by rfl) (hw : swappedStores [.Subscript (.Name x px) ie pt] e X.env = pure none := by rfl)
    (h1 : (assignEach [.Subscript (.Name x px) ie pt] X.env).map (·.2) = [assign (.Subscript (.Name x px) ie pt) X.env] := by rfl) :
    SX X W (.Assign [.Subscript (.Name x px) ie pt] e pos) (sset j f g) := by
  obtain ⟨t, p, r⟩ := he
  obtain ⟨t', p', r'⟩ := hi
  refine ⟨_, ps_asg p (pg_sub (pe_var hN hv hd hcd) p' set_list ha) hs hw h1, fun A F H σ env D S q => r A F H σ env _ S (q.afE fun p F1 H1 v1 s1 S1 r1 q1 => ?_)⟩
  cases c : hold p.1 p.2 with
  | none => rw [c] at q1; exact q1.elim
  | some d =>
    rw [c] at q1
    obtain ⟨F2, s2, S2, r2⟩ := S1.hold r1 (d := d.1) (env' := d.2) c
    cases c2 : slotO d.2 j with
    | none => simp only [c2] at q1; exact q1.elim
    | some o =>
      simp only [c2] at q1
      obtain ⟨pa, u, e1, hp, ro, hF, hK⟩ := S2.at (slotO_own c2)
      refine ⟨_, e1, r' A F2 H1 σ d.2 _ S2 ((PostS.mono s2 q1).afE fun p2 F3 H3 v3 s3 S3 r3 q3 => ?_)⟩
      split at q3
      · rename_i i ds ci co
        split at q3
        · rename_i m hm
          have vw := S3.view r3 ci
          cases vw.int
          obtain ⟨pb, u3, e3, hp3, ro3, _⟩ := S3.at (slotO_own co)
          rw [e1] at e3; cases e3
          cases ro3 with
          | lst rr =>
            refine ⟨pa, _, i, m, rfl, rfl, hp3, by rw [rr.len]; exact hm, ?_⟩
            exact q3 F3 _ σ (.refl _) (S3.write (slotO_own co) e1 (.lst (rr.set (r2.mono s3) m)))
        · exact q3.elim
      · exact q3.elim
end
end PL

/-! PL: methods of a slot's list; built-ins by name; repr. -/
namespace PL
open PySem PySem.Spec PyProof.Rows L2

/-! ### a method that changes a slot's list -/
def MOk (k : Kn) (r : V → List V → Hp → VK → Prop) (g : List D → List D → Option (List D × D)) : Prop :=
  ∀ (F H : Hp) (p : Addr) (us vs : List V) (xs ds ys : List D) (d : D) (Q : VK), H p = some (.lst us) → Reps k F xs us → Reps k F ds vs → g xs ds = some (ys, d) →
    (∀ ws v, Reps k F ys ws → Rep k F d v → Q v (upd H p (.lst ws))) → r (.ref p) vs H Q
def mcall (j : Nat) (g : List D → List D → Option (List D × D)) (fa : FA) : FE := fun env => match slotO env j with
  | some (.lst _) => (fa env).bind fun p => (match holds p.1 p.2 with
    | some q => (match slotO q.2 j with
      | some (.lst xs) => (match g xs q.1 with
        | some r => .ok (.val r.2, setO q.2 j (.lst r.1))
        | none => .no)
      | _ => .no)
    | none => .no)
  | _ => .no
section
variable {X : Cx} {W : WP} {e : Expr} {es : List Expr} {fa : FA} {x : Str} {name : Str} {px apos cpos : Pos} {id : String} {r : V → List V → Hp → VK → Prop} {g : List D → List D → Option (List D × D)}
theorem mcall_ok (j : Nat) {t : TA} (hg : MOk (kn X) r g) (ra : ∀ (A : Amb) (F H : Hp) (σ : L2.St) (env : En) (Q : List V → Hp → Prop), Sta (kn X) A F H σ env → PostA (kn X) A W F σ (fa env) Q → t σ H Q) :
    ∀ (A : Amb) (F H : Hp) (σ : L2.St) (env : En) (Q : VK), Sta (kn X) A F H σ env → PostE (kn X) A W F σ (mcall j g fa env) Q → tVar j σ H fun x H1 => tyV X.K "list" x H1 ∧ t σ H1 fun xs H2 => r x xs H2 Q := by
  intro A F H σ env Q S q
  unfold mcall at q
  split at q
  · rename_i xs0 c0
    obtain ⟨p, u, e1, hp, ro, hF, hK⟩ := S.at (slotO_own c0)
    cases ro with
    | lst ro =>
      refine ⟨_, e1, .inl ⟨rfl, _, SqL.of hp⟩, ra A F H σ env _ S (q.afA fun p2 F1 H1 vs s1 S1 r1 q1 => ?_)⟩
      cases c : holds p2.1 p2.2 with
      | none => rw [c] at q1; exact q1.elim
      | some q2 =>
        simp only [c] at q1
        obtain ⟨F2, s2, S2, r2⟩ := S1.holds r1 (ds := q2.1) (env' := q2.2) c
        split at q1
        · rename_i xs c3
          split at q1
          · rename_i res c4
            obtain ⟨pb, u3, e3, hp3, ro3, _⟩ := S2.at (slotO_own c3)
            rw [e1] at e3; cases e3
            cases ro3 with
            | lst rr =>
              exact hg F2 H1 p _ vs xs q2.1 res.1 res.2 Q hp3 rr r2 c4 fun ws v a b => q1 F2 _ v s2 (S2.write (slotO_own c3) e1 (.lst a)) b
          · exact q1.elim
        · exact q1.elim
  · exact q.elim
theorem ex_mth (j : Nat) (hg : MOk (kn X) r g) (slot : Slot "list" name id) (hty : typeOf (.builtin id) = pure (.type "method_descriptor")) (hm : MtR X id r) (ha : AX X W (e :: es) fa) (hN : X.N[j]? = some x := by rfl)
    (hv : Vis X.env.scope x := by first | exact Or.inl rfl | exact Or.inr (Or.inl rfl) | exact Or.inr (Or.inr rfl)) (hd : (x == ("__debug__" : Str)) = false := by decide) (hcd : (x == ("__classdict__" : Str)) = false := by decide)
    (hbase : attributeBase (.Name x px) name X.env (eval (.Name x px) X.env) = eval (.Name x px) X.env := by rfl)
    (hfew : ((backTo cpos (starEach (e :: es) X.env)).all (fun x => !x.1) && (backToKw cpos (keywordEach [] X.env)).all (fun x => x.1.isSome)
      && decide ((e :: es).length + ([] : List Keyword).length + (if ([] : List Keyword).isEmpty then 0 else 1) < 30)) = true := by rfl)
    (hline : (apos.endLine == cpos.line) = true := by rfl) (hs : starEach (e :: es) X.env = (false, eval e X.env) :: starEach es X.env := by rfl) (hplain : (backTo cpos (starEach es X.env)).any (·.1) = false := by rfl) :
    EX X W (.Call (.Attribute (.Name x px) name apos) (e :: es) [] cpos) (mcall j g fa) := by
  obtain ⟨t, pa, ra⟩ := ha
  exact ⟨_, pe_bm PySem.F.plainAttrs_list slot hty hm (pe_var hN hv hd hcd) pa hbase hfew hline hs hplain, mcall_ok j hg ra⟩
theorem ex_mth0 (j : Nat) (hg : MOk (kn X) r g) (slot : Slot "list" name id) (hty : typeOf (.builtin id) = pure (.type "method_descriptor")) (hm : MtR X id r) (hN : X.N[j]? = some x := by rfl)
    (hv : Vis X.env.scope x := by first | exact Or.inl rfl | exact Or.inr (Or.inl rfl) | exact Or.inr (Or.inr rfl)) (hd : (x == ("__debug__" : Str)) = false := by decide) (hcd : (x == ("__classdict__" : Str)) = false := by decide)
    (hbase : attributeBase (.Name x px) name X.env (eval (.Name x px) X.env) = eval (.Name x px) X.env := by rfl) (hline : (apos.endLine == cpos.line) = true := by rfl) :
    EX X W (.Call (.Attribute (.Name x px) name apos) [] [] cpos) (mcall j g anil) := by
  refine ⟨_, pe_bm0 PySem.F.plainAttrs_list slot hty hm (pe_var hN hv hd hcd) hbase hline, fun A F H σ env Q S q => ?_⟩
  obtain ⟨v, h1, h2, h3⟩ := mcall_ok (X := X) (W := W) (t := tNil) (fa := anil) j hg (fun A F H σ env Q S q => q F H [] (.refl F) S .nil) A F H σ env Q S q
  exact ⟨v, h1, h2, h3⟩
end
def gApp (xs ds : List D) : Option (List D × D) := match ds with
  | [d] => if xs.length < sizeLine then some (xs ++ [d], .non) else none
  | _ => none
def gPop (xs ds : List D) : Option (List D × D) := match ds with
  | [] => (xs[xs.length - 1]?).map fun d => (xs.dropLast, d)
  | _ => none
def gPopAt (xs ds : List D) : Option (List D × D) := match ds with
  | [.int i] => if -(2 ^ 63) ≤ i ∧ i < 2 ^ 63 then (seqIndex? i xs.length).bind fun j => (xs[j]?).map fun d => (xs.eraseIdx j, d) else none
  | _ => none
def gClear (xs ds : List D) : Option (List D × D) := match ds with
  | [] => some ([], .non)
  | _ => none
def gIns (xs ds : List D) : Option (List D × D) := match ds with
  | [.int i, d] => if xs.length < sizeLine ∧ 0 ≤ i ∧ i < 2 ^ 63 then some (xs.take i.toNat ++ [d] ++ xs.drop i.toNat, .non) else none
  | _ => none
section
variable {k : Kn}
theorem mok_app : MOk k rAppend gApp := by
  intro F H p us vs xs ds ys d Q hp rx rd e q
  unfold gApp at e
  split at e
  · rename_i d1
    split at e
    · rename_i c
      cases e
      cases rd with
      | cons a b => cases b; exact ⟨p, us, _, rfl, rfl, hp, by rw [rx.len]; exact c, q _ _ (rx.append (.cons a .nil)) .non⟩
    · cases e
  · cases e
theorem mok_pop : MOk k rPop gPop := by
  intro F H p us vs xs ds ys d Q hp rx rd e q
  unfold gPop at e
  split at e
  · cases rd
    cases c : xs[xs.length - 1]? with
    | none => rw [c] at e; cases e
    | some y =>
      rw [c] at e; cases e
      obtain ⟨v, h1, h2⟩ := rx.get c
      exact ⟨p, us, v, rfl, rfl, hp, by rw [rx.len]; exact h1, q _ _ rx.dropLast h2⟩
  · cases e
theorem mok_popAt : MOk k rPopAt gPopAt := by
  intro F H p us vs xs ds ys d Q hp rx rd e q
  unfold gPopAt at e
  split at e
  · rename_i i
    split at e
    · rename_i c
      cases c1 : seqIndex? i xs.length with
      | none => rw [c1] at e; cases e
      | some j =>
        rw [c1] at e
        simp only [Option.bind_some] at e
        cases c2 : xs[j]? with
        | none => rw [c2] at e; cases e
        | some y =>
          rw [c2] at e; cases e
          cases rd with
          | cons a b =>
            cases b; cases a
            obtain ⟨v, h1, h2⟩ := rx.get c2
            exact ⟨p, us, i, j, v, rfl, rfl, hp, c.1, c.2, by rw [rx.len]; exact c1, h1, q _ _ (rx.eraseIdx j) h2⟩
    · cases e
  · cases e
theorem mok_clear : MOk k rClear gClear := by
  intro F H p us vs xs ds ys d Q hp rx rd e q
  unfold gClear at e
  split at e
  · cases rd; cases e
    exact ⟨p, us, rfl, rfl, hp, q _ _ .nil .non⟩
  · cases e
theorem mok_ins : MOk k (fun x vs H Q => ∃ (l : Addr) (xs : List V) (i : Int) (y : V), x = .ref l ∧ vs = [.int i, y] ∧ H l = some (.lst xs) ∧ xs.length < sizeLine ∧ 0 ≤ i ∧ i < 2 ^ 63 ∧
    Q .non (upd H l (.lst (xs.take i.toNat ++ [y] ++ xs.drop i.toNat)))) gIns := by
  intro F H p us vs xs ds ys d Q hp rx rd e q
  unfold gIns at e
  split at e
  · rename_i i d1
    split at e
    · rename_i c
      cases e
      cases rd with
      | cons a b => cases b with
        | cons b c' =>
          cases c'; cases a
          exact ⟨p, us, i, _, rfl, rfl, hp, by rw [rx.len]; exact c.1, c.2.1, c.2.2, q _ _ (((rx.take _).append (.cons b .nil)).append (rx.drop _)) .non⟩
    · cases e
  · cases e
end

/-! ### built-ins by values -/
section
variable {k : Kn}
def cLen : List D → Option Arg
  | [.str s] => if s.length ≤ sizeLine then vI s.length else none
  | [.lst ds] => vI ds.length
  | [.tup ds] => vI ds.length
  | [.scr is] => vI is.length
  | _ => none
theorem Vws.one {F H : Hp} {d : D} {vs : List V} (h : Vws k F H [d] vs) : ∃ v, vs = [v] ∧ View k F H d v := by
  cases h with
  | cons a b => cases b; exact ⟨_, rfl, a⟩
theorem Vws.two {F H : Hp} {d d' : D} {vs : List V} (h : Vws k F H [d, d'] vs) : ∃ v v', vs = [v, v'] ∧ View k F H d v ∧ View k F H d' v' := by
  cases h with
  | cons a b => cases b with | cons b c => cases c; exact ⟨_, _, rfl, a, b⟩
theorem cok_len : COk k (fun xs H Q => ∃ x n, xs = [x] ∧ LenV k.K x H n ∧ Q (.int n) H) cLen := by
  intro A F H σ env vs ds z Q S va e q
  unfold cLen at e
  split at e
  · obtain ⟨v, rfl, vw⟩ := va.one
    split at e
    · rename_i c; cases e; cases vw.str
      exact ⟨_, _, rfl, ⟨c, rfl⟩, q F H _ (.refl _) S (.int _)⟩
    · cases e
  · obtain ⟨v, rfl, vw⟩ := va.one
    cases e
    obtain ⟨p, us, rfl, hp, r⟩ := vw.lst S.sub
    exact ⟨_, us.length, rfl, .inl ⟨us, SqL.of hp, rfl⟩, q F H _ (.refl _) S (by rw [r.len]; exact .int _)⟩
  · obtain ⟨v, rfl, vw⟩ := va.one
    cases e
    obtain ⟨p, us, rfl, hp, r⟩ := vw.tup
    exact ⟨_, us.length, rfl, .inr ⟨us, S.sub.t hp, rfl⟩, q F H _ (.refl _) S (by rw [r.len]; exact .int _)⟩
  · rename_i is
    obtain ⟨v, rfl, vw⟩ := va.one
    cases e
    obtain ⟨p, rfl, hp⟩ := vw.scr S.sub
    exact ⟨_, is.length, rfl, .inl ⟨_, hp, (List.length_map _).symm⟩, q F H _ (.refl _) S (.int _)⟩
  · cases e
def cAbs : List D → Option Arg
  | [.int i] => vI (if i < 0 then -i else i)
  | _ => none
theorem cok_abs : COk k (fun xs H Q => ∃ i, xs = [.int i] ∧ Q (.int (if i < 0 then -i else i)) H) cAbs := by
  intro A F H σ env vs ds z Q S va e q
  unfold cAbs at e
  split at e
  · obtain ⟨v, rfl, vw⟩ := va.one
    cases e; cases vw.int
    exact ⟨_, rfl, q F H _ (.refl _) S (.int _)⟩
  · cases e
def cMax2 : List D → Option Arg
  | [.int i, .int j] => vI (if j > i then j else i)
  | _ => none
def cMin2 : List D → Option Arg
  | [.int i, .int j] => vI (if j < i then j else i)
  | _ => none
theorem cok_max2 : COk k (fun xs H Q => ∃ i j, xs = [.int i, .int j] ∧ Q (.int (if j > i then j else i)) H) cMax2 := by
  intro A F H σ env vs ds z Q S va e q
  unfold cMax2 at e
  split at e
  · obtain ⟨v, v', rfl, vw, vw'⟩ := va.two
    cases e; cases vw.int; cases vw'.int
    exact ⟨_, _, rfl, q F H _ (.refl _) S (.int _)⟩
  · cases e
theorem cok_min2 : COk k (fun xs H Q => ∃ i j, xs = [.int i, .int j] ∧ Q (.int (if j < i then j else i)) H) cMin2 := by
  intro A F H σ env vs ds z Q S va e q
  unfold cMin2 at e
  split at e
  · obtain ⟨v, v', rfl, vw, vw'⟩ := va.two
    cases e; cases vw.int; cases vw'.int
    exact ⟨_, _, rfl, q F H _ (.refl _) S (.int _)⟩
  · cases e
def cInt : List D → Option Arg
  | [.int i] => vI i
  | [.bl b] => vI (if b then 1 else 0)
  | _ => none
theorem cok_int : COk k (fun xs H Q => (∃ i, xs = [.int i] ∧ Q (.int i) H) ∨ ∃ k, xs = [.bl k] ∧ Q (.int (if k then 1 else 0)) H) cInt := by
  intro A F H σ env vs ds z Q S va e q
  unfold cInt at e
  split at e
  · obtain ⟨v, rfl, vw⟩ := va.one
    cases e; cases vw.int
    exact .inl ⟨_, rfl, q F H _ (.refl _) S (.int _)⟩
  · obtain ⟨v, rfl, vw⟩ := va.one
    cases e; cases vw.bl
    exact .inr ⟨_, rfl, q F H _ (.refl _) S (.int _)⟩
  · cases e
def cList : List D → Option Arg
  | [.lst ds] => some (.new (.lst ds))
  | [.tup ds] => some (.new (.lst ds))
  | _ => none
theorem cok_list : COk k (fun xs H Q => ∃ p ys, xs = [.ref p] ∧ (SqL k.K H p ys ∨ SqT k.K H p ys) ∧ ∀ l, H l = none → Q (.ref l) (upd H l (.lst ys))) cList := by
  intro A F H σ env vs ds z Q S va e q
  unfold cList at e
  split at e
  · obtain ⟨v, rfl, vw⟩ := va.one
    cases e
    obtain ⟨p, us, rfl, hp, r⟩ := vw.lst S.sub
    exact ⟨p, us, rfl, .inl (SqL.of hp), S.newL r q⟩
  · obtain ⟨v, rfl, vw⟩ := va.one
    cases e
    obtain ⟨p, us, rfl, hp, r⟩ := vw.tup
    exact ⟨p, us, rfl, .inr (S.sub.t hp), S.newL r q⟩
  · cases e
def cTuple : List D → Option Arg
  | [.lst ds] => some (.val (.tup ds))
  | [.tup ds] => some (.val (.tup ds))
  | _ => none
theorem cok_tuple : COk k (fun xs H Q => ∃ p ys, xs = [.ref p] ∧ ((SqL k.K H p ys ∧ ∀ l, H l = none → Q (.ref l) (upd H l (.tup ys))) ∨ (SqT k.K H p ys ∧ Q (.ref p) H))) cTuple := by
  intro A F H σ env vs ds z Q S va e q
  unfold cTuple at e
  split at e
  · obtain ⟨v, rfl, vw⟩ := va.one
    cases e
    obtain ⟨p, us, rfl, hp, r⟩ := vw.lst S.sub
    exact ⟨p, us, rfl, .inl ⟨SqL.of hp, S.newT r q⟩⟩
  · obtain ⟨v, rfl, vw⟩ := va.one
    cases e
    obtain ⟨p, us, rfl, hp, r⟩ := vw.tup
    exact ⟨p, us, rfl, .inr ⟨S.sub.t hp, q F H _ (.refl _) S (.tup hp r)⟩⟩
  · cases e
/-- all of them whole numbers -/
def intsOf : List D → Option (List Int)
  | [] => some []
  | .int i :: r => (intsOf r).map (i :: ·)
  | _ => none
theorem intsOf_eq : ∀ {ds : List D} {is : List Int}, intsOf ds = some is → ds = is.map D.int
  | [], is, h => by cases h; rfl
  | d :: ds, is, h => by
    cases d with
    | int i =>
      simp only [intsOf] at h
      cases c : intsOf ds with
      | none => rw [c] at h; cases h
      | some js => rw [c] at h; cases h; rw [intsOf_eq c]; rfl
    | _ => cases h
@[simp] theorem intsOf_map : ∀ is : List Int, intsOf (is.map D.int) = some is
  | [] => rfl
  | i :: is => by simp [intsOf, intsOf_map is]
def sortI (is : List Int) : List Int := is.mergeSort fun a b => decide (a ≤ b)
theorem sortI_one {is js : List Int} (h1 : js.Perm is) (h2 : js.Pairwise (· ≤ ·)) : js = sortI is := by
  have p : (sortI is).Pairwise (· ≤ ·) := by
    have := List.pairwise_mergeSort (le := fun a b : Int => decide (a ≤ b)) (fun a b c h1 h2 => by simp at *; omega) (fun a b => by simp; omega) is
    exact this.imp fun h => of_decide_eq_true h
  exact List.Perm.eq_of_pairwise (le := (· ≤ ·)) (fun a b _ _ h1 h2 => Int.le_antisymm h1 h2) h2 p (h1.trans (List.mergeSort_perm _ _).symm)
def cSorted : List D → Option Arg
  | [.lst ds] => (intsOf ds).map fun is => .new (.lst ((sortI is).map D.int))
  | _ => none
theorem ints_reps {F : Hp} : ∀ is : List Int, Reps k F (is.map D.int) (is.map V.int)
  | [] => .nil
  | i :: is => .cons (.int i) (ints_reps is)
theorem cok_sorted : COk k (rSortedI k.K) cSorted := by
  intro A F H σ env vs ds z Q S va e q
  unfold cSorted at e
  split at e
  · rename_i ds
    obtain ⟨v, rfl, vw⟩ := va.one
    cases c : intsOf ds with
    | none => rw [c] at e; cases e
    | some is =>
      rw [c] at e; cases e
      obtain ⟨p, us, rfl, hp, r⟩ := vw.lst S.sub
      rw [intsOf_eq c] at r
      have := r.ints
      subst this
      refine ⟨p, is, rfl, SqL.of hp, fun ns' l h1 h2 hl => ?_⟩
      rw [sortI_one h1 h2]
      exact S.newL (ints_reps _) q l hl
  · cases e
/-- all of them truth values -/
def blsOf : List D → Option (List Bool)
  | [] => some []
  | .bl i :: r => (blsOf r).map (i :: ·)
  | _ => none
theorem blsOf_eq : ∀ {ds : List D} {is : List Bool}, blsOf ds = some is → ds = is.map D.bl
  | [], is, h => by cases h; rfl
  | d :: ds, is, h => by
    cases d with
    | bl i =>
      simp only [blsOf] at h
      cases c : blsOf ds with
      | none => rw [c] at h; cases h
      | some js => rw [c] at h; cases h; rw [blsOf_eq c]; rfl
    | _ => cases h
@[simp] theorem blsOf_map : ∀ is : List Bool, blsOf (is.map D.bl) = some is
  | [] => rfl
  | i :: is => by simp [blsOf, blsOf_map is]
def cAll : List D → Option Arg
  | [.lst ds] => (blsOf ds).map fun bs => .val (.bl (bs.all id))
  | _ => none
def cAny : List D → Option Arg
  | [.lst ds] => (blsOf ds).map fun bs => .val (.bl (bs.any id))
  | _ => none
theorem cok_all : COk k (rAll k.K) cAll := by
  intro A F H σ env vs ds z Q S va e q
  unfold cAll at e
  split at e
  · rename_i ds
    obtain ⟨v, rfl, vw⟩ := va.one
    cases c : blsOf ds with
    | none => rw [c] at e; cases e
    | some is =>
      rw [c] at e; cases e
      obtain ⟨p, us, rfl, hp, r⟩ := vw.lst S.sub
      rw [blsOf_eq c] at r
      have := r.bls
      subst this
      exact ⟨p, is, rfl, SqL.of hp, q F H _ (.refl _) S (.bl _)⟩
  · cases e
theorem cok_any : COk k (rAny k.K) cAny := by
  intro A F H σ env vs ds z Q S va e q
  unfold cAny at e
  split at e
  · rename_i ds
    obtain ⟨v, rfl, vw⟩ := va.one
    cases c : blsOf ds with
    | none => rw [c] at e; cases e
    | some is =>
      rw [c] at e; cases e
      obtain ⟨p, us, rfl, hp, r⟩ := vw.lst S.sub
      rw [blsOf_eq c] at r
      have := r.bls
      subst this
      exact ⟨p, is, rfl, SqL.of hp, q F H _ (.refl _) S (.bl _)⟩
  · cases e
def cSum : List D → Option Arg
  | [.lst ds] => (intsOf ds).map fun is => .val (.int is.sum)
  | _ => none
theorem cok_sum : COk k (rSum k.K) cSum := by
  intro A F H σ env vs ds z Q S va e q
  unfold cSum at e
  split at e
  · rename_i ds
    obtain ⟨v, rfl, vw⟩ := va.one
    cases c : intsOf ds with
    | none => rw [c] at e; cases e
    | some is =>
      rw [c] at e; cases e
      obtain ⟨p, us, rfl, hp, r⟩ := vw.lst S.sub
      rw [intsOf_eq c] at r
      have := r.ints
      subst this
      exact ⟨p, is, rfl, SqL.of hp, q F H _ (.refl _) S (.int _)⟩
  · cases e
def cStr : List D → Option Arg
  | [.int i] => if i.natAbs.log2 < 1920 then some (.val (.str (toString i))) else none
  | _ => none
theorem cok_str : COk k (fun xs H Q => ∃ i, xs = [.int i] ∧ i.natAbs.log2 < 1920 ∧ Q (.str (toString i)) H) cStr := by
  intro A F H σ env vs ds z Q S va e q
  unfold cStr at e
  split at e
  · obtain ⟨v, rfl, vw⟩ := va.one
    split at e
    · rename_i c; cases e; cases vw.int
      exact ⟨_, rfl, c, q F H _ (.refl _) S (.str _)⟩
    · cases e
  · cases e
end

/-! ### repr -/
def rRepr (K : PySem.W.Frag) : List V → Hp → VK → Prop := fun xs H Q => ∃ x d, xs = [x] ∧ Dp K H x d ∧ d.showable = true ∧ d.hasDict = false ∧ d.depth ≤ 32 ∧ d.shown.length ≤ sizeLine ∧ Q (.str d.shown) H
theorem call_reprD {X : Cx} (hg : X.A.guards = some []) (hu : X.A.units + 64 < cLine) : CallR X (.builtin "repr") (rRepr X.K) := by
  intro pins s σ H xs us Q I r h
  obtain ⟨x, d, rfl, hd, h1, h2, h3, h4, q⟩ := h
  obtain ⟨u, rfl, ru⟩ := vals1 r
  obtain ⟨as, rd⟩ := Dp.reads I d x u hd ru
  have fin : ∀ h' tk, (∀ b o, s.heap.get? b = some o → h'.get? b = some o) → ∀ t, EP X pins σ Q (.str d.shown t) { s with heap := h', toks := tk } := fun h' tk hk t => ⟨.str d.shown, H, I.kept (t' := tk) hk, ⟨t, rfl⟩, q⟩
  cases hd with
  | non => cases ru; exact P.repr_of_none (fin _ _ (fun _ _ e => e) _)
  | bl b => cases ru; exact P.repr_of_bool (fin _ _ (fun _ _ e => e) _)
  | int i =>
    obtain ⟨t, rfl⟩ := ru
    exact P.repr_of_int (by simpa [PyData.showable] using h1) (fin _ _ (fun _ _ e => e) _)
  | str z =>
    obtain ⟨t, rfl⟩ := ru
    exact P.repr_of_str (fin _ _ (fun _ _ e => e) _) (by simpa [PyData.shown] using h4)
  | lst a b =>
    cases ru
    exact repr_of_reads' rd h1 (fun e => by rw [h2] at e; cases e) hg (by omega) (fun _ _ e => e) (fun h' u tk hk => fin h' tk hk u) h4
  | tup a b =>
    cases ru
    exact repr_of_reads' rd h1 (fun e => by rw [h2] at e; cases e) hg (by omega) (fun _ _ e => e) (fun h' u tk hk => fin h' tk hk u) h4
def cRepr : List D → Option Arg
  | [d] => (toP d).bind fun p => if p.showable = true ∧ p.hasDict = false ∧ p.depth ≤ 32 ∧ p.shown.length ≤ sizeLine then some (.val (.str p.shown)) else none
  | _ => none
theorem cok_repr {k : Kn} : COk k (rRepr k.K) cRepr := by
  intro A F H σ env vs ds z Q S va e q
  unfold cRepr at e
  split at e
  · rename_i d
    obtain ⟨v, rfl, vw⟩ := va.one
    cases c : toP d with
    | none => rw [c] at e; cases e
    | some p =>
      rw [c] at e
      simp only [Option.bind_some] at e
      split at e
      · rename_i h
        cases e
        exact ⟨v, p, rfl, (vw.rep S.sub).dp c, h.1, h.2.1, h.2.2.1, h.2.2.2, q F H _ (.refl _) S (.str _)⟩
      · cases e
  · cases e
end PL

/-! PL: defs that call repr: nothing is being shown around them. -/
namespace PL
open PySem PySem.Spec PyProof.Rows L2

structure GnOk (P : Program) (w : World) (K : PySem.W.Frag) (mg : Str → Option Value) (base : Heap) (k : Nat) (f : Addr) (fd : FuncData) (ps : List Str) (sp : Sp) : Prop where
  len : ∀ vs H Q, sp vs H Q E0 → vs.length = ps.length
  run : ∀ (A : Around) (outer : List Env) (s : Shared) (H : Hp) (args : Args) (us : List Value) (vs : List V) (Q : VK), A.guards = some [] → Room k A → Env0 P w K mg base A outer s H →
    BindsTo s fd args (ps.zip us) → Vals vs us → sp vs H Q E0 → codeAny (model P w) A (.call (.ref f) args) (CR CX0 outer P w H s Q E0) s

section
variable {P : Program} {w : World} {K : PySem.W.Frag} {mg : Str → Option Value} {base : Heap}
theorem FnOk.gn {k : Nat} {f : Addr} {fd : FuncData} {ps : List Str} {sp : Sp} (h : FnOk P w K mg base CX0 k f fd ps sp) : GnOk P w K mg base k f fd ps sp :=
  ⟨fun vs H Q z => h.len vs H Q E0 z, fun A outer s H args us vs Q _ hr e0 hb hv hs => h.run A outer s H args us vs Q E0 hr e0 hb hv hs⟩
theorem GnOk.mono {j k : Nat} {f : Addr} {fd : FuncData} {ps : List Str} {sp : Sp} (h : GnOk P w K mg base j f fd ps sp) (hjk : j ≤ k) : GnOk P w K mg base k f fd ps sp :=
  ⟨h.len, fun A outer s H args us vs Q hg hr => h.run A outer s H args us vs Q hg (hr.mono hjk)⟩
/-- the end of a body is the end of the call -/
theorem end_of {X : Cx} {s' : Shared} {Q : VK} {σ' : L2.St} {H' : Hp} {v : V} {u : Value} (hex : X.ex = []) (J : Inv X [] σ' H' s') (r : RelV v u) (q : Q v H') : CE X.outer X.prog X.w X.H_0 X.s_0 Q u s' := by
  have b := J.base
  rw [hex] at b
  exact ⟨_, _, J.os, J.bare, b, J.hok, r, q⟩
theorem gn_of {x qual : Str} {st : Stmt} {f : Addr} {fd : FuncData} {N ps : List Str} {k : Nat} {sp : Sp} (F : Fun K x qual st f fd) (S : FnScope N ps (defScope st)) (len : ∀ vs H Q, sp vs H Q E0 → vs.length = ps.length)
    (hb : ∀ (cdv : Value) (A : Around) (outer : List Env) (s : Shared) (H : Hp) (vs : List V) (Q : VK), A.guards = some [] → Room k (A.deeper (envOfC qual (defScope st) s.heap.objs.size f cdv)) → sp vs H Q E0 →
      ∃ t, PSs (cxOf CX0 P w K mg base N qual (defScope st) f cdv A outer s H E0).nox (defBody st) t ∧ t { nx := fun _ H' => Q .non H', rt := Q } (L2.start N vs) H) : GnOk P w K mg base (k + 1) f fd ps sp := by
  obtain ⟨oc, od, kV, doc, pm, an, cdv, ct, osl, efd, lk, hcd⟩ := F.ex
  subst efd
  refine ⟨len, fun A outer s H args us vs Q hg hr e0 hbd r hsp => ?_⟩
  have keeps : ∀ b o, base.get? b = some o → s.heap.get? b = some o := fun b o z => (e0.bs b o z).1
  have hz : vs.length = ps.length := len _ _ _ hsp
  have names : ∀ y ∈ ps.zip us, (defScope st).names.lookup y.1 = some .local ∨ ((defScope st).names.lookup y.1 = some .cell ∧ ((cellsFrom (s.heap.objs.size + 1) (defScope st).names []).lookup y.1).isSome = true) := by
    intro y hy
    refine (S.par y.1 (List.of_mem_zip (a := y.1) (b := y.2) hy).1).imp id fun q => ⟨q, ?_⟩
    exact PySem.W.cellsFrom_some _ _ _ (.inl q)
  refine codeAny_call_function hr.depth (e0.mod.kin.keeps keeps _ _ lk) rfl S.co S.gen rfl (PySem.W.codeRec_of (e0.mod.kin.keeps keeps) hcd) (hbd _ _ _ _ ?_)
  refine wpAny_newFunctionEnv_cells S.kind names fun env he s1 xin => ?_
  subst he
  refine ⟨(e0.mod.nolimit.keeps keeps).keeps xin.toInCall.keep, codeAny_func ?_⟩
  obtain ⟨t, ht, hq⟩ := hb cdv A outer s H vs Q hg (hr.deeper _) hsp
  have J := inv_start (CX := CX0) (E := E0) S hr.hd e0 hz r xin
  refine wpAny_mono (ht.run [] s1 (L2.start N vs) H _ (J.wish _) hq) (fun fl s' hs => ?_) fun _ _ hs => hs.elim
  cases fl with
  | next => obtain ⟨_, _, Z, q⟩ := hs; exact end_of (v := V.non) (u := Value.none) rfl Z rfl q
  | ret u => obtain ⟨_, _, _, Z, rv, q⟩ := hs; exact end_of rfl Z rv q
  | brk => obtain ⟨_, _, _, q⟩ := hs; exact q.elim
  | cont => obtain ⟨_, _, _, q⟩ := hs; exact q.elim
theorem gn_ok {x qual : Str} {st : Stmt} {f : Addr} {fd : FuncData} {N ps : List Str} {k np : Nat} {g : FS} (F : Fun K x qual st f fd) (S : FnScope N ps (defScope st)) (hnp : ps.length = np)
    (hb : ∀ (cdv : Value) (A : Around) (outer : List Env) (s : Shared) (H : Hp), A.guards = some [] → Room k (A.deeper (envOfC qual (defScope st) s.heap.objs.size f cdv)) →
      BX (cxOf CX0 P w K mg base N qual (defScope st) f cdv A outer s H E0).nox W0 (defBody st) g) : GnOk P w K mg base (k + 1) f fd ps (Prom ⟨K, mg⟩ np (runF N.length g)) :=
  gn_of F S (fun vs H Q h => by rw [hnp]; exact h.len) fun cdv A outer s H vs Q hg hr h => fun_body (hb cdv A outer s H hg hr) rfl h
end
section
variable {X : Cx} {W : WP} {k : Nat} {f : Addr} {fd : FuncData} {pn : List Str} {x : Str} {p pos : Pos} {e : Expr} {es : List Expr} {fa : FA} {fn : FFn} {sp : Sp} {t : TA}
/-- a call of such a def -/
theorem pe_gcall (hgu : X.A.guards = some []) (Fo : GnOk X.prog X.w X.K X.mg X.base k f fd pn sp) (hr : Room k X.A) (hg : Gl X x) (hm : X.mg x = some (.ref f)) (hk : PySem.W.keepIn X.K (.ref f) = true) (hb : Binds X.K fd pn []) (ha : PA X (e :: es) t)
    (hdb : (x == ("__debug__" : Str)) = false := by decide) (he : starEach (e :: es) X.env = (false, eval e X.env) :: starEach es X.env := by rfl) (hpl : (backTo pos (starEach es X.env)).any (·.1) = false := by rfl) :
    PE X (.Call (.Name x p) (e :: es) [] pos) (tCall sp [] E0 t) := by
  constructor
  intro pins s σ H Q I h
  refine wpAny_Call_Name_kw (ld_glob I hg hm (PySem.W.callWith_K (h₀ := X.base) I.ok.mod.kin hk (thn (ha.run pos pins s σ H _ I h) ?_) he hpl) hdb)
  rintro us s1 ⟨vs, H1, I1, r, q⟩
  have q' : sp vs H1 Q E0 := by
    have z : sp (vs ++ []) H1 Q E0 := q
    rwa [List.append_nil] at z
  have hl : (us ++ []).length = pn.length := by rw [List.append_nil, ← r.length]; exact Fo.len _ _ _ q'
  have bd := hb s1 us I1.kIn hl
  rw [List.append_nil] at bd
  refine ⟨I1.kIn, wpAny_call (codeAny_mono (Fo.run X.A X.stack s1 H1 ⟨us, []⟩ us vs Q hgu hr I1.env0 bd r q') ?_)⟩
  intro res s2 hq
  match res, hq with
  | .error _, hq => exact hq.elim
  | .ok (.ret _), hq => exact I1.after hq
  | .ok .next, hq => exact hq.elim
  | .ok .brk, hq => exact hq.elim
  | .ok .cont, hq => exact hq.elim
theorem ex_gcall {ms : List Md} {n : Nat} (hgu : X.A.guards = some []) (Fo : GnOk X.prog X.w X.K X.mg X.base k f fd pn (Prom (kn X) n fn)) (hn : ms.length = n) (hr : Room k X.A) (hg : Gl X x) (hm : X.mg x = some (.ref f)) (hk : PySem.W.keepIn X.K (.ref f) = true) (hb : Binds X.K fd pn []) (ha : AX X W (e :: es) fa)
    (hdb : (x == ("__debug__" : Str)) = false := by decide) (he : starEach (e :: es) X.env = (false, eval e X.env) :: starEach es X.env := by rfl) (hpl : (backTo pos (starEach es X.env)).any (·.1) = false := by rfl) :
    EX X W (.Call (.Name x p) (e :: es) [] pos) (callF ms fn fa) := by
  obtain ⟨t, pa, ra⟩ := ha
  exact ⟨_, pe_gcall hgu Fo hr hg hm hk hb pa hdb he hpl, callF_ok hn ra⟩
end
end PL

/-! PL: the end of a law. -/
namespace PL
open PySem PySem.Spec PyProof.Rows L2

/-- the call of the law, over an abstract heap that knows the script alone -/
theorem law_core {P : Program} {w : World} {K : PySem.W.Frag} {mg mb : Str → Option Value} {k : Nat} {fa a : Addr} {fd : FuncData} {x : Str} {sp : Sp} {s : Shared} {vs : List Value} {H : Hp}
    (KX : K.In s.heap) (hns : s.heap.Ns mainGlobals mg) (hb : s.heap.Ns builtinsNs mb) (hbb : ∀ x : Str, x ≠ "__name__" → mb x = bootBuiltins x) (hlim : s.heap.NoLimit) (hg : s.gens = #[])
    (ha : s.heap.get? a = some { cls := .type "list", data := .seq vs.toArray }) (hr : Room k callerA)
    (Fn : ∀ base : Heap, K.In base → base.Ns mainGlobals mg → GnOk P w K mg base k fa fd [x] sp) (hbind : ∀ (s : Shared) (u : Value), BindsTo s fd ⟨[u], []⟩ [(x, u)])
    (hsp : sp [.ref a] H (fun v _ => v = .bl true) E0) (hO : Only H) (hok : HOk P w H s.heap) (hA : ∀ b, H b ≠ none → b = a) (hK : H a ≠ none → K.lookup a = none) :
    codeAny (model P w) callerA (.call (.ref fa) ⟨[.ref a], []⟩) (fun r s' => r = .ok (.ret (.bool true)) ∧ OldK s.heap s'.heap ∧ s'.os = s.os ∧ AllBare s'.gens) s := by
  have other : ∀ {b : Addr} {o : Obj}, s.heap.get? b = some o → H b = none → (hidT s.heap H).get? b = some o := fun e n => hidT_get e n
  have plain : ∀ {b : Addr}, b ≠ a → H b = none := fun {b} ne => by
    cases c : H b with
    | none => rfl
    | some u => exact absurd (hA b (by rw [c]; exact Option.some_ne_none _)) ne
  have nsIn : ∀ {b : Addr} {m : Str → Option Value}, s.heap.Ns b m → (hidT s.heap H).Ns b m := by
    rintro b m ⟨o, es, ep, e, d, r⟩
    have ne : b ≠ a := fun z => by
      rw [z, ha] at e
      cases e
      have z' : Data.seq vs.toArray 0 = Data.dict es ep := d
      cases z'
    exact ⟨o, es, ep, other e (plain ne), d, r⟩
  have kIn : K.In (hidT s.heap H) := fun b o e => other (KX b o e) <| by
    cases c : H b with
    | none => rfl
    | some u =>
      have z := hA b (by rw [c]; exact Option.some_ne_none _)
      rw [z] at c e
      rw [hK (by rw [c]; exact Option.some_ne_none _)] at e
      cases e
  have md : Mod K mg (hidT s.heap H) := by
    refine ⟨kIn, nsIn hns, ⟨mb, nsIn hb, hbb⟩, ?_⟩
    obtain ⟨mc, l1, l2⟩ := hlim
    exact ⟨mc, nsIn l1, l2⟩
  have env0 : Env0 P w K mg (hidT s.heap H) callerA [] s H := {
    frames := rfl
    mod := md
    bs := fun b o e => of_hidT e
    bsz := Nat.le_of_eq (hidT_size _ _)
    funs := trivial
    frf := fun b z => by cases (show b ∈ ([] : List Addr) from z)
    hok := hok
    bare := .of_eq hg }
  refine codeAny_mono ((Fn _ kIn (nsIn hns)).run callerA [] s H ⟨[.ref a], []⟩ [.ref a] [.ref a] _ rfl hr env0 (hbind s (.ref a)) (.cons rfl .nil) hsp) ?_
  intro r s' h
  match r, h with
  | .error _, h => exact h.elim
  | .ok .next, h => exact h.elim
  | .ok .brk, h => exact h.elim
  | .ok .cont, h => exact h.elim
  | .ok (.ret u), ⟨v, H', os, bare, un, hok', r', q⟩ =>
    have q' : v = .bl true := q
    rw [q'] at r'
    have hu : u = Value.bool true := r'
    rw [hu]
    refine ⟨rfl, OldK.of_keep fun b o e => ?_, os, bare⟩
    rcases hO b with z | ⟨ob, xs, z⟩
    · exact un.keep b o e z (fun m => by cases (show b ∈ ([] : List Addr) from m)) (fun m => by cases m)
    · have e1 := (hok b _ z).1
      have e2 := (hok' b _ (un.frzs b ob _ z)).1
      rw [e1] at e
      rw [← e]
      exact e2
theorem law_gcall {P : Program} {w : World} {K : PySem.W.Frag} {mg mb : Str → Option Value} {k : Nat} {fa a : Addr} {fd : FuncData} {x : Str} {fn : FFn} {s : Shared} {vs : List Value} {ns : List Int} {ms : List (Option O)}
    (KX : K.In s.heap) (hns : s.heap.Ns mainGlobals mg) (hb : s.heap.Ns builtinsNs mb) (hbb : ∀ x : Str, x ≠ "__name__" → mb x = bootBuiltins x) (hlim : s.heap.NoLimit) (hg : s.gens = #[])
    (ha : s.heap.get? a = some { cls := .type "list", data := .seq vs.toArray }) (hi : IntsAre vs ns) (hl : ns.length ≤ sizeLine) (hr : Room k callerA)
    (Fn : ∀ base : Heap, K.In base → base.Ns mainGlobals mg → GnOk P w K mg base k fa fd [x] (Prom ⟨K, mg⟩ 1 fn)) (hbind : ∀ (s : Shared) (u : Value), BindsTo s fd ⟨[u], []⟩ [(x, u)])
    (hfn : fn [.fz (.scr ns)] = .ok (.fz (.bl true)) ms) :
    codeAny (model P w) callerA (.call (.ref fa) ⟨[.ref a], []⟩) (fun r s' => r = .ok (.ret (.bool true)) ∧ OldK s.heap s'.heap ∧ s'.os = s.os ∧ AllBare s'.gens) s := by
  have prom : ∀ H : Hp, SqL K H a (ns.map V.int) → Prom ⟨K, mg⟩ 1 fn [.ref a] H (fun v _ => v = .bl true) E0 := fun H hS => by
    refine ⟨fun _ => none, H, [.fz (.scr ns)], ⟨.refl H, (fun _ _ z => by cases (show (none : Option HO) = _ from z)), .refl H, fun a o z => .inl z, fun i sl e => ?_, fun i o p h1 _ => ?_, fun i j o u p h1 _ _ _ => ?_, rfl, fun i o e => ?_⟩, rfl, (fun b hb o z => ?_), _, _, hfn, fun F' H' σ' e' v _ _ _ r => ?_⟩
    · cases i with
      | zero => cases e; exact ⟨_, rfl, .scr hS⟩
      | succ i => simp at e
    · cases i with
      | zero => rcases h1 with z | z <;> cases z
      | succ i => rcases h1 with z | z <;> simp at z
    · cases i with
      | zero => rcases h1 with z | z <;> cases z
      | succ i => rcases h1 with z | z <;> simp at z
    · cases i with
      | zero => cases e
      | succ i => simp at e
    · rw [List.mem_singleton.mp hb] at z; cases z
    · cases r; rfl
  cases hk : K.lookup a with
  | some o =>
    have e := KX a o hk
    rw [ha] at e
    have sq : SqL K (fun _ => none) a (ns.map V.int) := by
      refine .inr ⟨o, vs.toArray, 0, hk, ?_, ?_, ?_, ?_, ?_⟩
      · cases e; rfl
      · cases e; rfl
      · cases e; rfl
      · rw [List.size_toArray, hi.length]; exact hl
      · simpa using vals_ints hi
    exact law_core (H := fun _ => none) KX hns hb hbb hlim hg ha hr Fn hbind (prom _ sq) (fun _ => .inl rfl) (fun b u z => by cases (show (none : Option HO) = some u from z)) (fun b z => absurd rfl z) (fun z => absurd rfl z)
  | none =>
    let u : HO := .frz { cls := .type "list", data := .seq vs.toArray } (.lst (ns.map V.int))
    let H : Hp := fun b => if b = a then some u else none
    have Ha : H a = some u := if_pos rfl
    have Hn : ∀ {b}, b ≠ a → H b = none := fun h => if_neg h
    refine law_core (H := H) KX hns hb hbb hlim hg ha hr Fn hbind (prom _ (.inl (.inr ⟨_, Ha⟩))) (fun b => ?_) (fun b v z => ?_) (fun b z => ?_) (fun _ => hk)
    · by_cases c : b = a
      · rw [c]; exact .inr ⟨_, _, Ha⟩
      · exact .inl (Hn c)
    · by_cases c : b = a
      · rw [c] at z ⊢
        rw [Ha] at z
        cases z
        exact ⟨ha, by rw [List.length_map]; exact hl, vs, 0, vals_ints hi, ha⟩
      · rw [Hn c] at z; cases z
    · by_cases c : b = a
      · exact c
      · exact absurd (Hn c) z
/-- THE END: as the kit's walk_of, for a def that may show things -/
theorem law_done {l : PySem.W.OpenLaw} {n k : Nat} {q : Program} {loose : List Str} {XP : (Str → Option Value) → Heap → Prop} {YP : World → Heap → Prop} {d : DefRec} {K : Params → PySem.W.Frag} {x : Str} {fn : FFn}
    (hn : l.most = some n) (hn2 : n ≤ sizeLine) (hdf : d.params.defaults = []) (hr : Room k callerA) (hY : ∀ (w : World) (h : Heap), YP w h → (K w.params).In h)
    (F : ∀ (w : World) (mg : Str → Option Value) (fa : Addr) (h : Heap), (K w.params).In h → h.Ns mainGlobals mg → mg d.name = some (.ref fa) →
      ∃ fd : FuncData, (∀ (s : Shared) (u : Value), BindsTo s fd ⟨[u], []⟩ [(x, u)]) ∧
        ∀ base : Heap, (K w.params).In base → base.Ns mainGlobals mg → GnOk l.prog w (K w.params) mg base k fa fd [x] (Prom ⟨K w.params, mg⟩ 1 fn))
    (hfn : ∀ ns : List Int, ns.length ≤ n → ∃ ms, fn [.fz (.scr ns)] = .ok (.fz (.bl true)) ms) :
    PySem.W.WalkO q loose XP YP l.row.toRowW d [] (fun f vs => PySem.call f vs) := by
  refine Att.attach_call hn hdf ?_
  intro w s₀ s₁ mg mb fa o pm cd doc a vs ns G Y ho hd hcd hmg hobj hints hlen hg
  obtain ⟨fd, hb, hF⟩ := F w mg fa _ (hY w _ Y) G.T.g hmg
  obtain ⟨ms, hm⟩ := hfn ns hlen
  exact law_gcall (hY w _ Y) G.T.g G.T.b G.T.builtins G.T.nolimit hg hobj hints (Nat.le_trans hlen hn2) hr hF hb hm
end PL

/-! PL: chains, several names at once, list(range(..)), in. -/
namespace PL
open PySem PySem.Spec PyProof.Rows L2

/-! ### a < b < c -/
def vch (g g' : D → D → Option Arg) (fa fb fc : FE) : FE := fun env => (fa env).bind fun p => (fb p.2).bind fun q =>
  match cont (settle p.1) q.2, cont (settle q.1) q.2 with
  | some a, some b => (match g a b with
    | some (.val (.bl true)) => (fc q.2).bind fun r => (match cont (settle q.1) r.2, cont r.1 r.2 with
      | some b', some c => (match g' b' c with
        | some z => .ok (z, r.2)
        | none => .no)
      | _, _ => .no)
    | some (.val (.bl false)) => .ok (.val (.bl false), q.2)
    | _ => .no)
  | _, _ => .no
section
variable {X : Cx} {W : WP} {a b c : Expr} {fa fb fc : FE} {pos : Pos}
theorem vch_ok {r r' : R2} {g g' : D → D → Option Arg} (hg : BOk (kn X) r g) (hg' : BOk (kn X) r' g') (ha : EX X W a fa) (hb : EX X W b fb) (hc : EX X W c fc) :
    ∃ ta tb tc, PE X a ta ∧ PE X b tb ∧ PE X c tc ∧ ∀ (A : Amb) (F H : Hp) (σ : L2.St) (env : En) (Q : VK), Sta (kn X) A F H σ env → PostE (kn X) A W F σ (vch g g' fa fb fc env) Q → tChain r r' ta tb tc σ H Q := by
  obtain ⟨ta, pa, ra⟩ := ha
  obtain ⟨tb, pb, rb⟩ := hb
  obtain ⟨tc, pc, rc⟩ := hc
  refine ⟨ta, tb, tc, pa, pb, pc, fun A F H σ env Q S q => ra A F H σ env _ S (q.afE fun p F1 H1 v1 s1 S1 r1 q1 => ?_)⟩
  obtain ⟨F1', s1', S1', r1'⟩ := S1.settle r1
  refine rb A F1' H1 σ p.2 _ S1' ((q1.mono s1').afE fun p2 F2 H2 v2 s2 S2 r2 q2 => ?_)
  have k1 := r1'.keep (F' := F2) (H' := H2) (env' := p2.2) s2
  obtain ⟨F2', s2', S2', r2'⟩ := S2.settle r2
  have k1' := k1 |> fun z => (show RArg (kn X) A F2' H2 σ p2.2 (settle p.1) v1 by
    cases h : p.1 with
    | val d => rw [h] at z; exact Rep.mono s2' z
    | slot j => rw [h] at z; exact z
    | new o => rw [h] at z; exact Rep.mono s2' z)
  have q2' := q2.mono s2'
  cases ca : cont (settle p.1) p2.2 with
  | none => simp only [ca] at q2'; exact q2'.elim
  | some da =>
    cases cb : cont (settle p2.1) p2.2 with
    | none => simp only [ca, cb] at q2'; exact q2'.elim
    | some db =>
      simp only [ca, cb] at q2'
      cases cg : g da db with
      | none => simp only [cg] at q2'; exact q2'.elim
      | some z =>
        simp only [cg] at q2'
        split at q2'
        · rename_i ez
          cases ez
          refine hg A F2' H2 σ p2.2 v1 v2 da db _ _ S2' (S2'.view k1' ca) (S2'.view r2' cb) cg fun F3 H3 v s3 S3 rz => ?_
          cases rz
          refine ⟨true, rfl, ?_⟩
          rw [if_pos rfl]
          refine rc A F3 H3 σ p2.2 _ S3 ((q2'.mono s3).afE fun p4 F4 H4 v4 s4 S4 r4 q4 => ?_)
          have k2 := (r2'.keep (F' := F4) (H' := H4) (env' := p4.2) (s3.trans s4))
          cases cb' : cont (settle p2.1) p4.2 with
          | none => simp only [cb'] at q4; exact q4.elim
          | some db' =>
            cases cc : cont p4.1 p4.2 with
            | none => simp only [cb', cc] at q4; exact q4.elim
            | some dc =>
              simp only [cb', cc] at q4
              split at q4
              · rename_i z' ez'
                exact hg' A F4 H4 σ p4.2 v2 v4 db' dc _ _ S4 (S4.view k2 cb') (S4.view r4 cc) ez' fun F' H' v a b c => q4 F' H' v a b c
              · exact q4.elim
        · rename_i ez
          cases ez
          refine hg A F2' H2 σ p2.2 v1 v2 da db _ _ S2' (S2'.view k1' ca) (S2'.view r2' cb) cg fun F3 H3 v s3 S3 rz => ?_
          cases rz
          refine ⟨false, rfl, ?_⟩
          rw [if_neg Bool.false_ne_true]
          exact q2' F3 H3 _ s3 S3 (.bl false)
        · exact q2'.elim
theorem ex_chain {op op' : CmpOp} {r r' : R2} {g g' : D → D → Option Arg} (ho : OpR X (compareOp op) r) (hg : BOk (kn X) r g) (ho' : OpR X (compareOp op') r') (hg' : BOk (kn X) r' g') (ha : EX X W a fa) (hb : EX X W b fb) (hc : EX X W c fc)
    (hm : lastMarks [op, op'] [b, c] = false := by with_unfolding_all rfl) : EX X W (.Compare a [op, op'] [b, c] pos) (vch g g' fa fb fc) :=
  let ⟨_, _, _, pa, pb, pc, h⟩ := vch_ok hg hg' ha hb hc
  ⟨_, pe_chain ho ho' pa pb pc hm, h⟩
theorem tx_chain {op op' : CmpOp} {r r' : R2} {g g' : D → D → Option Arg} (ho : OpR X (compareOp op) r) (hg : BOk (kn X) r g) (ho' : OpR X (compareOp op') r') (hg' : BOk (kn X) r' g') (ha : EX X W a fa) (hb : EX X W b fb) (hc : EX X W c fc)
    (hm : lastMarks [op, op'] [b, c] = false := by with_unfolding_all rfl) : TX X W (.Compare a [op, op'] [b, c] pos) (tst (vch g g' fa fb fc)) :=
  let ⟨_, _, _, pa, pb, pc, h⟩ := vch_ok hg hg' ha hb hc
  ⟨_, pt_chain ho ho' pa pb pc hm, tst_ok h⟩
end

/-! ### a, b = x, y -/
def fixS (x : Arg) (e : En) : Option (Arg × En) :=
  match x with
  | .slot j => (hold (.slot j) e).map fun p => (.val p.1, p.2)
  | x => some (x, e)
def evU : List FE → En → Res (List Arg × En)
  | [], e => .ok ([], e)
  | f :: fs, e => (f e).bind fun p => (match fixS p.1 p.2 with
    | some q => (evU fs q.2).bind fun r => .ok (q.1 :: r.1, r.2)
    | none => .no)
inductive RU (k : Kn) (A : Amb) (F H : Hp) (σ : L2.St) (env : En) : List Arg → List V → Prop
  | nil : RU k A F H σ env [] []
  | cons {x : Arg} {v : V} {xs : List Arg} {vs : List V} (r : RArg k A F H σ env x v) (ns : ∀ j, x ≠ .slot j) (nd : (∃ o, x = .new o) → ∀ (m : Nat) (o' : O) (v' : V), xs[m]? = some (.new o') → vs[m]? = some v' → v' ≠ v)
      (t : RU k A F H σ env xs vs) : RU k A F H σ env (x :: xs) (v :: vs)
def PostU (k : Kn) (A : Amb) (W : WP) (F : Hp) (σ : L2.St) (r : Res (List Arg × En)) (Q : List V → Hp → Prop) : Prop :=
  match r with
  | .ok p => ∀ F' H' vs, Sub F F' → Sta k A F' H' σ p.2 → RU k A F' H' σ p.2 p.1 vs → Q vs H'
  | .ex x e => W.w A F x e
  | .no => False
/-- an error wish that does not hang on what is kept -/
structure WP.Keep (W : WP) : Prop where
  keep : ∀ {A F x e p u}, W.w A F x e → W.w (A.keep p u) F x e
theorem W0.keep : W0.Keep := ⟨fun h => h⟩
def UX (X : Cx) (W : WP) (es : List Expr) (fs : List FE) : Prop :=
  ∃ t, PA X es t ∧ ∀ (A : Amb) (F H : Hp) (σ : L2.St) (env : En) (Q : List V → Hp → Prop), Sta (kn X) A F H σ env → PostU (kn X) A W F σ (evU fs env) Q → t σ H Q
section
variable {X : Cx} {W : WP} {pos : Pos} {e : Expr} {es : List Expr} {f : FE} {fs : List FE}
theorem ux_nil : UX X W [] [] := ⟨_, pa_nil, fun A F H σ env Q S q => q F H [] (.refl F) S .nil⟩
theorem RU.unkeep {k : Kn} {A : Amb} {F H : Hp} {σ : L2.St} {env : En} {p : Addr} {u : HO} (hK : A.Kp p = none) : ∀ {xs : List Arg} {vs : List V}, RU k (A.keep p u) F H σ env xs vs → RU k A F H σ env xs vs ∧ ∀ (m : Nat) (o : O) (v : V), xs[m]? = some (.new o) → vs[m]? = some v → v ≠ .ref p
  | _, _, .nil => ⟨.nil, fun m o v h => by simp at h⟩
  | _, _, .cons (x := x) (v := v) r ns nd t => by
    obtain ⟨t', h'⟩ := RU.unkeep hK t
    have kpp : (A.keep p u).Kp p = some u := upd_same
    have ne : ∀ {o}, x = .new o → v ≠ .ref p := fun {o} z w => by
      subst z; subst w
      obtain ⟨q, w, e, _, _, _, b, _⟩ := r
      cases e
      rw [kpp] at b; cases b
    have r' : RArg k A F H σ env x v := by
      cases x with
      | val d => exact r
      | slot j => exact r
      | new o =>
        obtain ⟨q, w, e, a1, a2, a3, b, c⟩ := r
        refine ⟨q, w, e, a1, a2, a3, ?_, c⟩
        have nq : q ≠ p := fun z => ne rfl (by rw [e, z])
        have b' : upd A.Kp p u q = none := b
        rwa [upd_ne nq] at b'
    refine ⟨.cons r' ns nd t', fun m o v' h1 h2 => ?_⟩
    cases m with
    | zero => simp at h1 h2; subst h2; exact ne h1
    | succ m => exact h' m o v' (by simpa using h1) (by simpa using h2)
theorem ux_cons (hW : W.Keep) (h : EX X W e f) (h' : UX X W es fs) (hs : starEach (e :: es) X.env = (false, eval e X.env) :: starEach es X.env := by rfl) : UX X W (e :: es) (f :: fs) := by
  obtain ⟨t, p, r⟩ := h
  obtain ⟨t', p', r'⟩ := h'
  refine ⟨_, pa_cons p p' hs, fun A F H σ env Q S q => r A F H σ env _ S ?_⟩
  simp only [evU] at q
  cases c : f env with
  | no => rw [c] at q; exact q.elim
  | ex x e => rw [c] at q; exact q
  | ok pp =>
    rw [c] at q
    simp only [Res.bind_ok] at q
    intro F1 H1 v1 s1 S1 r1
    cases cf : fixS pp.1 pp.2 with
    | none => rw [cf] at q; exact q.elim
    | some qq =>
      rw [cf] at q
      simp only at q
      -- what is held is new or frozen
      have base : ∃ F2, Sub F1 F2 ∧ Sta (kn X) A F2 H1 σ qq.2 ∧ RArg (kn X) A F2 H1 σ qq.2 qq.1 v1 ∧ ∀ j, qq.1 ≠ .slot j := by
        unfold fixS at cf
        split at cf
        · rename_i j hj
          cases ch : hold (.slot j) pp.2 with
          | none => rw [ch] at cf; cases cf
          | some d =>
            rw [ch] at cf; cases cf
            rw [hj] at r1
            obtain ⟨F2, a, b, c⟩ := S1.hold r1 (d := d.1) (env' := d.2) ch
            exact ⟨F2, a, b, c, fun j z => by cases z⟩
        · rename_i hn
          cases cf
          exact ⟨F1, .refl _, S1, r1, hn⟩
      obtain ⟨F2, s2, S2, r2, ns⟩ := base
      cases hx : qq.1 with
      | slot j => exact absurd hx (ns j)
      | val d =>
        rw [hx] at r2
        refine r' A F2 H1 σ qq.2 _ S2 ?_
        cases ct : evU fs qq.2 with
        | no => rw [ct] at q; exact q.elim
        | ex x e => rw [ct] at q; exact W.mono (s1.trans s2) q
        | ok rr =>
          rw [ct] at q
          intro F3 H3 vs s3 S3 r3
          refine q F3 H3 (v1 :: vs) ((s1.trans s2).trans s3) S3 ?_
          rw [hx]
          exact .cons (Rep.mono s3 r2) (fun j z => by cases z) (fun ⟨o, z⟩ => by cases z) r3
      | new o =>
        rw [hx] at r2
        obtain ⟨p0, u0, rfl, hp, ro, hF, hK, hO⟩ := r2
        have nF0 : A.F0 p0 = none := S2.f0.free hF
        refine r' (A.keep p0 u0) F2 H1 σ qq.2 _ (S2.keepIn hp hF hK hO) ?_
        cases ct : evU fs qq.2 with
        | no => rw [ct] at q; exact q.elim
        | ex x e => rw [ct] at q; exact hW.keep (W.mono (s1.trans s2) q)
        | ok rr =>
          rw [ct] at q
          intro F3 H3 vs s3 S3 r3
          obtain ⟨S4, hp4, hF4, hO4⟩ := S3.keepOut hK nF0
          obtain ⟨r4, h4⟩ := r3.unkeep hK
          refine q F3 H3 (V.ref p0 :: vs) ((s1.trans s2).trans s3) S4 ?_
          rw [hx]
          exact .cons ⟨p0, u0, rfl, hp4, ro.mono s3, hF4, hK, hO4⟩ (fun j z => by cases z) (fun _ m o' v' a b => h4 m o' v' a b) r4
end
def stores : List Nat → List Arg → En → Res En
  | [], [], e => .ok e
  | i :: is, x :: xs, e => (bindA i x e).bind fun e1 => stores is xs e1
  | _, _, _ => .no
theorem bindA_nx {i : Nat} {x : Arg} {e : En} {y : Exn} {z : En} : bindA i x e ≠ .ex y z := by
  intro c
  cases h : x <;> rw [h] at c <;> simp only [bindA, bindD] at c <;> (repeat' split at c) <;> cases c
theorem stores_nx : ∀ {is : List Nat} {xs : List Arg} {e : En} {y : Exn} {z : En}, stores is xs e ≠ .ex y z
  | [], [], e, y, z => by simp [stores]
  | [], _ :: _, e, y, z => by simp [stores]
  | _ :: _, [], e, y, z => by simp [stores]
  | i :: is, x :: xs, e, y, z => by
    simp only [stores]
    cases c : bindA i x e with
    | ok e1 => exact stores_nx
    | no => simp
    | ex _ _ => exact absurd c bindA_nx
/-- the slots behind several stores -/
def setAll (σ : L2.St) : List Nat → List V → L2.St
  | i :: is, v :: vs => setAll (σ.set i (some v)) is vs
  | _, _ => σ
theorem Sta.bindNS {k : Kn} {A : Amb} {F H : Hp} {σ : L2.St} {env env' : En} (S : Sta k A F H σ env) {i : Nat} {x : Arg} {v : V} (r : RArg k A F H σ env x v) (ns : ∀ j, x ≠ .slot j) (h : PL.bindA i x env = .ok env') :
    Sta k A F H (σ.set i (some v)) env' ∧ ∀ (j : Nat) (o : O) (p : Addr), OwnAt env' j o → (σ.set i (some v))[j]? = some (some (V.ref p)) → OwnAt env j o ∧ σ[j]? = some (some (V.ref p)) ∨ (∃ o', x = .new o') ∧ v = .ref p := by
  have key : ∃ sl, env' = env.set i (some sl) ∧ (∃ y, env[i]? = some y) ∧ ((∃ d, sl = .fz d) ∨ ∃ o, sl = .ow o ∧ x = .new o) := by
    cases x with
    | slot j => exact absurd rfl (ns j)
    | val d =>
      obtain ⟨y, e, _, z⟩ := bindD_ok h
      exact ⟨_, z, ⟨y, e⟩, .inl ⟨d, rfl⟩⟩
    | new o =>
      simp only [PL.bindA] at h
      split at h
      · cases h
      · cases h
      · rename_i n1 n2
        cases h
        refine ⟨_, rfl, ?_, .inr ⟨o, rfl, rfl⟩⟩
        cases e : env[i]? with
        | none => exact absurd e n2
        | some y => exact ⟨y, rfl⟩
  have SS : Sta k A F H (σ.set i (some v)) env' := by
    cases x with
    | slot j => exact absurd rfl (ns j)
    | val d => exact S.bindD r h
    | new o =>
      obtain ⟨p, u, rfl, hp, ro, hF, hK, hs⟩ := r
      simp only [PL.bindA] at h
      split at h
      · cases h
      · cases h
      · rename_i n1 n2
        cases h
        cases e : env[i]? with
        | none => exact absurd e n2
        | some y =>
          refine S.put e (fun o z => n1 o (by rw [e, z])) fun s' z => ?_
          cases z
          exact ⟨_, rfl, ⟨p, u, rfl, hp, ro⟩, (fun o z => by cases z), (fun _ q z => by cases z; exact ⟨hF, hK, hs⟩)⟩
  refine ⟨SS, fun j o p h1 h2 => ?_⟩
  obtain ⟨sl, rfl, ⟨y, hy⟩, hsl⟩ := key
  obtain ⟨z, hz⟩ := S.sthere hy
  by_cases q : j = i
  · subst q
    rw [sget_eq hz] at h2
    have : v = .ref p := by simpa using h2
    rcases hsl with ⟨d, rfl⟩ | ⟨o', rfl, hx⟩
    · rcases h1 with h1 | h1 <;> (rw [get_set_eq hy] at h1; cases h1)
    · exact .inr ⟨⟨o', hx⟩, this⟩
  · rw [sget_ne q] at h2
    refine .inl ⟨?_, h2⟩
    rcases h1 with h1 | h1
    · exact .inl (by rw [get_set_ne q] at h1; exact h1)
    · exact .inr (by rw [get_set_ne q] at h1; exact h1)
theorem Sta.stores {k : Kn} {A : Amb} {F H : Hp} {is : List Nat} : ∀ {xs : List Arg} {vs : List V} {σ : L2.St} {env env' : En}, Sta k A F H σ env → RU k A F H σ env xs vs → PL.stores is xs env = .ok env' → Sta k A F H (setAll σ is vs) env' := by
  induction is with
  | nil =>
    intro xs vs σ env env' S t h
    cases t with
    | nil => cases h; exact S
    | cons _ _ _ _ => cases h
  | cons i is ih =>
    intro xs vs σ env env' S t h
    cases t with
    | nil => cases h
    | cons r ns nd t =>
      rename_i x v xs vs
      simp only [PL.stores] at h
      cases c : PL.bindA i x env with
      | no => rw [c] at h; cases h
      | ex _ _ => rw [c] at h; cases h
      | ok e1 =>
        rw [c] at h
        obtain ⟨S1, h1⟩ := S.bindNS r ns c
        have go : ∀ {xs : List Arg} {vs : List V}, RU k A F H σ env xs vs → ((∃ o, x = .new o) → ∀ (m : Nat) (o' : O) (v' : V), xs[m]? = some (.new o') → vs[m]? = some v' → v' ≠ v) → RU k A F H (σ.set i (some v)) e1 xs vs := by
          intro xs vs t
          induction t with
          | nil => intro _; exact .nil
          | cons r' ns' nd' t' ih' =>
            intro nd
            refine .cons ?_ ns' nd' (ih' fun ho m o' v' a b => nd ho (m + 1) o' v' (by simpa using a) (by simpa using b))
            rename_i x' v' xs' vs'
            cases x' with
            | val d => exact r'
            | slot j => exact absurd rfl (ns' j)
            | new o =>
              obtain ⟨p, u, rfl, a1, a2, a3, a4, a5⟩ := r'
              refine ⟨p, u, rfl, a1, a2, a3, a4, fun j w b1 b2 => ?_⟩
              rcases h1 j w p b1 b2 with ⟨c1, c2⟩ | ⟨c1, c2⟩
              · exact a5 j w c1 c2
              · exact nd c1 0 o _ rfl rfl c2.symm
        exact ih S1 (go t nd) h
theorem st_len : ∀ {is : List Nat} {xs : List Arg} {e e' : En}, stores is xs e = .ok e' → xs.length = is.length
  | [], [], _, _, _ => rfl
  | [], _ :: _, _, _, h => by cases h
  | _ :: _, [], _, _, h => by cases h
  | i :: is, x :: xs, e, e', h => by
    simp only [stores] at h
    cases c : bindA i x e with
    | ok e1 => rw [c] at h; rw [List.length_cons, List.length_cons, st_len h]
    | no => rw [c] at h; cases h
    | ex _ _ => rw [c] at h; cases h
def spar (is : List Nat) (fs : List FE) : FS := fun env => (evU fs env).go fun p => (stores is p.1 p.2).go .nx
section
variable {X : Cx} {W : WP} {pos : Pos} {a b c : Expr} {fs : List FE}
theorem sx_par2 (i j : Nat) {x y : Str} {px py pt : Pos} {kt k2 : Nat} {pt2 : Pos} (hc : X.calm = true) (hN : X.N.Nodup) (h : UX X W [a, b] fs)
    (hw : swappedStores [.Tuple [.Name x px, .Name y py] kt pt] (.Tuple [a, b] k2 pt2) X.env = pure (some [x, y])) (hi : X.N[i]? = some x := by rfl) (hj : X.N[j]? = some y := by rfl) (hij : i ≠ j := by decide)
    (hx : X.env.scope.names.lookup x = some .local := by rfl) (hy : X.env.scope.names.lookup y = some .local := by rfl)
    (hs : swapsWithSole [.Tuple [.Name x px, .Name y py] kt pt] (.Tuple [a, b] k2 pt2) pos.line X.env = pure false := by rfl) :
    SX X W (.Assign [.Tuple [.Name x px, .Name y py] kt pt] (.Tuple [a, b] k2 pt2) pos) (spar [i, j] fs) := by
  obtain ⟨t, pa, ra⟩ := h
  refine ⟨_, ps_par hc hN hi hj hij hx hy pa hw hs, fun A F H σ env D S q => ?_⟩
  show t σ H fun vs H1 => ∃ v w, vs = [v, w] ∧ D.nx ((σ.set i (some v)).set j (some w)) H1
  refine ra A F H σ env _ S ?_
  simp only [spar] at q
  cases c : evU fs env with
  | no => rw [c] at q; exact q
  | ex x e => rw [c] at q; exact q
  | ok p =>
    rw [c] at q
    intro F1 H1 vs s1 S1 r1
    simp only [Res.go_ok] at q
    cases c2 : stores [i, j] p.1 p.2 with
    | no => rw [c2] at q; exact q.elim
    | ex _ _ => exact absurd c2 stores_nx
    | ok e1 =>
      rw [c2] at q
      have S2 := Sta.stores S1 r1 c2
      have hl := st_len c2
      obtain ⟨xs, e⟩ := p
      cases r1 with
      | nil => cases hl
      | cons r _ _ t1 => cases t1 with
        | nil => cases hl
        | cons r2 _ _ t2 => cases t2 with
          | nil => exact ⟨_, _, rfl, q F1 H1 _ s1 S2⟩
          | cons _ _ _ _ => cases hl
theorem sx_par3 (i j l : Nat) {x y z : Str} {px py pz pt : Pos} {kt k2 : Nat} {pt2 : Pos} (hc : X.calm = true) (hN : X.N.Nodup) (h : UX X W [a, b, c] fs)
    (hw : swappedStores [.Tuple [.Name x px, .Name y py, .Name z pz] kt pt] (.Tuple [a, b, c] k2 pt2) X.env = pure (some [x, y, z])) (hi : X.N[i]? = some x := by rfl) (hj : X.N[j]? = some y := by rfl) (hl : X.N[l]? = some z := by rfl)
    (hij : i ≠ j := by decide) (hil : i ≠ l := by decide) (hjl : j ≠ l := by decide)
    (hx : X.env.scope.names.lookup x = some .local := by rfl) (hy : X.env.scope.names.lookup y = some .local := by rfl) (hz : X.env.scope.names.lookup z = some .local := by rfl)
    (hs : swapsWithSole [.Tuple [.Name x px, .Name y py, .Name z pz] kt pt] (.Tuple [a, b, c] k2 pt2) pos.line X.env = pure false := by rfl) :
    SX X W (.Assign [.Tuple [.Name x px, .Name y py, .Name z pz] kt pt] (.Tuple [a, b, c] k2 pt2) pos) (spar [i, j, l] fs) := by
  obtain ⟨t, pa, ra⟩ := h
  refine ⟨_, ps_par3 hc hN hi hj hl hij hil hjl hx hy hz pa hw hs, fun A F H σ env D S q => ?_⟩
  show t σ H fun vs H1 => ∃ u v w, vs = [u, v, w] ∧ D.nx (((σ.set i (some u)).set j (some v)).set l (some w)) H1
  refine ra A F H σ env _ S ?_
  simp only [spar] at q
  cases c : evU fs env with
  | no => rw [c] at q; exact q
  | ex x e => rw [c] at q; exact q
  | ok p =>
    rw [c] at q
    intro F1 H1 vs s1 S1 r1
    simp only [Res.go_ok] at q
    cases c2 : stores [i, j, l] p.1 p.2 with
    | no => rw [c2] at q; exact q.elim
    | ex _ _ => exact absurd c2 stores_nx
    | ok e1 =>
      rw [c2] at q
      have S2 := Sta.stores S1 r1 c2
      have hl := st_len c2
      obtain ⟨xs, e⟩ := p
      cases r1 with
      | nil => cases hl
      | cons r _ _ t1 => cases t1 with
        | nil => cases hl
        | cons r2 _ _ t2 => cases t2 with
          | nil => cases hl
          | cons r3 _ _ t3 => cases t3 with
            | nil => exact ⟨_, _, _, rfl, q F1 H1 _ s1 S2⟩
            | cons _ _ _ _ => cases hl
end

/-! ### list(range(..)) -/
def lsRng1 (f : FE) : FE := fun env => (f env).bind fun p => match cont p.1 p.2 with
  | some (.int n) => if -(2 ^ 62) ≤ n ∧ n ≤ 2 ^ 24 then .ok (.new (.lst (dints 0 n.toNat)), p.2) else .no
  | _ => .no
def lsRng2 (f g : FE) : FE := fun env => (f env).bind fun p => (g p.2).bind fun q => match cont (settle p.1) q.2, cont q.1 q.2 with
  | some (.int i), some (.int j) => if -(2 ^ 62) ≤ i ∧ i < 2 ^ 62 ∧ -(2 ^ 62) ≤ j ∧ j < 2 ^ 62 ∧ (j - i).toNat ≤ 2 ^ 24 then .ok (.new (.lst (dints i (j - i).toNat)), q.2) else .no
  | _, _ => .no
theorem dints_reps {k : Kn} {F : Hp} (a b : Int) : Reps k F (dints a (b - a).toNat) (rgV a b) := by
  have go : ∀ l : List Nat, Reps k F (l.map fun (i : Nat) => D.int (a + (i : Int))) (l.map fun i => V.int (a + (i : Nat))) := by
    intro l
    induction l with
    | nil => exact .nil
    | cons i l ih => exact .cons (.int _) ih
  exact go _
section
variable {X : Cx} {W : WP} {a b : Expr} {f g : FE} {p pos p2 p3 : Pos}
theorem ex_lsRng1 (hc : X.calm = true) (hl : Gl X "list") (hml : X.mg "list" = none) (hg : Gl X "range") (hm : X.mg "range" = none) (h : EX X W a f) (na : starEach [a] X.env = (false, eval a X.env) :: starEach [] X.env := by rfl)
    (na2 : starEach [.Call (.Name "range" p2) [a] [] p] X.env = (false, eval (.Call (.Name "range" p2) [a] [] p) X.env) :: starEach [] X.env := by rfl) : EX X W (.Call (.Name "list" p3) [.Call (.Name "range" p2) [a] [] p] [] pos) (lsRng1 f) := by
  obtain ⟨t, pa, r⟩ := h
  refine ⟨_, pe_listRg hc hl hml (prg_1 hg hm pa na) na2, fun A F H σ env Q S q => r A F H σ env _ S (q.afE fun p F1 H1 v1 s1 S1 r1 q1 => ?_)⟩
  split at q1
  · rename_i n e
    split at q1
    · rename_i c
      have vw := S1.view r1 e
      cases vw.int
      refine ⟨n, rfl, ⟨by decide, by decide, c.1, Int.lt_of_le_of_lt c.2 (by decide), by omega⟩, ?_⟩
      have h := dints_reps (k := kn X) (F := F1) 0 n
      rw [Int.sub_zero] at h
      exact S1.newL h q1
    · exact q1.elim
  · exact q1.elim
theorem ex_lsRng2 (hc : X.calm = true) (hl : Gl X "list") (hml : X.mg "list" = none) (hg : Gl X "range") (hm : X.mg "range" = none) (ha : EX X W a f) (hb : EX X W b g) (na : starEach [a, b] X.env = (false, eval a X.env) :: starEach [b] X.env := by rfl)
    (nb : starEach [b] X.env = (false, eval b X.env) :: starEach [] X.env := by rfl) (hp : (backTo p (starEach [b] X.env)).any (·.1) = false := by rfl)
    (na2 : starEach [.Call (.Name "range" p2) [a, b] [] p] X.env = (false, eval (.Call (.Name "range" p2) [a, b] [] p) X.env) :: starEach [] X.env := by rfl) : EX X W (.Call (.Name "list" p3) [.Call (.Name "range" p2) [a, b] [] p] [] pos) (lsRng2 f g) := by
  obtain ⟨t, pa, r⟩ := ha
  obtain ⟨t', pb, r'⟩ := hb
  refine ⟨_, pe_listRg hc hl hml (prg_2 hg hm pa pb na nb hp) na2, fun A F H σ env Q S q => r A F H σ env _ S (q.afE fun p F1 H1 v1 s1 S1 r1 q1 => ?_)⟩
  obtain ⟨F1', s1', S1', r1'⟩ := S1.settle r1
  refine r' A F1' H1 σ p.2 _ S1' ((q1.mono s1').afE fun p2 F2 H2 v2 s2 S2 r2 q2 => ?_)
  have k1 := r1'.keep (F' := F2) (H' := H2) (env' := p2.2) s2
  split at q2
  · rename_i i j e1 e2
    split at q2
    · rename_i c
      have vw := S2.view k1 e1
      cases vw.int
      have vw2 := S2.view r2 e2
      cases vw2.int
      exact ⟨i, j, rfl, rfl, c, S2.newL (dints_reps i j) q2⟩
    · exact q2.elim
  · exact q2.elim
end
end PL

/-! PL: targets raise nothing; x += e. -/
namespace PL
open PySem PySem.Spec PyProof.Rows L2
theorem bindD_nx {i : Nat} : ∀ (d : D) (env : En) (x : Exn) (e : En), bindD i d env ≠ .ex x e := fun d env x e c => by
  unfold bindD at c; (repeat' split at c) <;> cases c
theorem tgNil_nx : ∀ (d : List D) (env : En) (x : Exn) (e : En), tgNil d env ≠ .ex x e := fun d env x e c => by
  cases d <;> cases c
theorem tgCons_nx {f : FG} {g : FGs} (h : ∀ (d : D) (env : En) (x : Exn) (e : En), f d env ≠ .ex x e) (h' : ∀ (d : List D) (env : En) (x : Exn) (e : En), g d env ≠ .ex x e) : ∀ (d : List D) (env : En) (x : Exn) (e : En), tgCons f g d env ≠ .ex x e := fun d env x e c => by
  cases d with
  | nil => cases c
  | cons a r =>
    simp only [tgCons] at c
    cases q : f a env with
    | ok e1 => rw [q] at c; exact h' _ _ _ _ c
    | no => rw [q] at c; cases c
    | ex _ _ => exact h _ _ _ _ q
theorem tgTup_nx {g : FGs} (h : ∀ (d : List D) (env : En) (x : Exn) (e : En), g d env ≠ .ex x e) : ∀ (d : D) (env : En) (x : Exn) (e : En), tgTup g d env ≠ .ex x e := fun d env x e c => by
  cases d <;> first | exact h _ _ _ _ c | cases c
/-- x op= e over whole numbers -/
def saug (g : Int → Int → Int) (i : Nat) (f : FE) : FS := fun env => match env[i]? with
  | some (some (.fz (.int _))) => (f env).go fun p => (match p.2[i]?, cont p.1 p.2 with
    | some (some (.fz (.int a))), some (.int b) => (bindD i (.int (g a b)) p.2).go .nx
    | _, _ => .no)
  | _ => .no
def saugAdd : Nat → FE → FS := saug (· + ·)
def saugSub : Nat → FE → FS := saug (· - ·)
section
variable {X : Cx} {W : WP} {pos : Pos} {e : Expr} {f : FE}
theorem saug_ok {g : Int → Int → Int} {i : Nat} {te : TE} (r : ∀ (A : Amb) (F H : Hp) (σ : L2.St) (env : En) (Q : VK), Sta (kn X) A F H σ env → PostE (kn X) A W F σ (f env) Q → te σ H Q) :
    ∀ (A : Amb) (F H : Hp) (σ : L2.St) (env : En) (D : Ends), Sta (kn X) A F H σ env → PostS (kn X) A W F (saug g i f env) D → tAug i te (ipI g) D σ H := by
  intro A F H σ env D S q
  unfold saug at q
  split at q
  · rename_i a0 e0
    obtain ⟨v, e1, rv⟩ := S.rel i _ e0
    cases rv
    refine ⟨_, e1, r A F H σ env _ S (q.afE fun p F1 H1 v1 s1 S1 r1 q1 => ?_)⟩
    split at q1
    · rename_i a b ea eb
      obtain ⟨v', e2, rv'⟩ := S1.rel i _ ea
      rw [e1] at e2; cases e2
      cases rv'
      have vw := S1.view r1 eb
      cases vw.int
      refine ⟨_, b, rfl, rfl, ?_⟩
      cases c : bindD i (.int (g a0 b)) p.2 with
      | ok e3 => rw [c] at q1; exact q1 F1 H1 _ (.refl _) (S1.bindD (.int _) c)
      | no => rw [c] at q1; exact q1.elim
      | ex _ _ => exact absurd c (bindD_nx _ _ _ _)
    · exact q1.elim
  · exact q.elim
theorem sx_augAdd (i : Nat) {x : Str} {px : Pos} (hN : X.N.Nodup) (h : EX X W e f) (hi : X.N[i]? = some x := by rfl) (hx : Loc X.env.scope x := by first | exact Or.inl rfl | exact Or.inr rfl)
    (hf : X.fn x = true ∨ X.env.scope.names.lookup x = some .local := by first | exact .inl rfl | exact .inr rfl | assumption) : SX X W (.AugAssign (.Name x px) .Add e pos) (saugAdd i f) := by
  obtain ⟨t, p, r⟩ := h
  exact ⟨_, ps_aug hN hi hx p ip_add hf, saug_ok r⟩
theorem sx_augSub (i : Nat) {x : Str} {px : Pos} (hN : X.N.Nodup) (h : EX X W e f) (hi : X.N[i]? = some x := by rfl) (hx : Loc X.env.scope x := by first | exact Or.inl rfl | exact Or.inr rfl)
    (hf : X.fn x = true ∨ X.env.scope.names.lookup x = some .local := by first | exact .inl rfl | exact .inr rfl | assumption) : SX X W (.AugAssign (.Name x px) .Sub e pos) (saugSub i f) := by
  obtain ⟨t, p, r⟩ := h
  exact ⟨_, ps_aug hN hi hx p ip_sub hf, saug_ok r⟩
end
end PL

/-! mirrors -/
namespace Mi
open PySem L2 PL
/-- contains: slots 0 outer, 1 inner -/
def m_contains : FS := (sret (vand (bop gLe (bop gIx (rdv 0) (kst (.int 0))) (bop gIx (rdv 1) (kst (.int 0)))) (bop gLe (bop gIx (rdv 1) (kst (.int 1))) (bop gIx (rdv 0) (kst (.int 1))))))
def f_contains : FFn := runF 2 m_contains
/-- range_of: slots 0 first, 1 second -/
def m_range_of : FS := (sret (dsp (fun ds => .val (.tup ds)) (acons (cbn cMin2 (acons (rdv 0) (acons (rdv 1) anil))) (acons (cbn cMax2 (acons (rdv 0) (acons (rdv 1) anil))) anil))))
def f_range_of : FFn := runF 2 m_range_of
/-- is_turning: slots 0 before, 1 here, 2 after -/
def m_is_turning : FS := (sret (vand (vnot (vch gLt gLt (rdv 0) (rdv 1) (rdv 2))) (vnot (vch gGt gGt (rdv 0) (rdv 1) (rdv 2)))))
def f_is_turning : FFn := runF 3 m_is_turning
/-- _law_feed: slots 0 script, 1 k, 2 cell, 3 digits, 4 state -/
def m__law_feed : FS := (sseq (sasg 2 (vif (tst (bop gLt (rdv 1) (cbn cLen (acons (rdv 0) anil)))) (bop gIx (rdv 0) (rdv 1)) (bop gAdd (bop gMul (kst (.int 83)) (rdv 1)) (kst (.int 29)))))
  (sseq (sasg 3 (cbn cMax2 (acons (kst (.int 0)) (acons (bop gSub (cbn cAbs (acons (rdv 2) anil)) (bop gPow (kst (.int 10)) (kst (.int 18)))) anil))))
  (sseq (sasg 4 (bop gMod (bop gAdd (bop gAdd (bop gMul (rdv 2) (kst (.int 6364136223846793005))) (bop gMul (kst (.int 7919)) (rdv 1))) (kst (.int 1442695040888963407))) (kst (.int 2305843009213693951))))
  (sret (dsp (fun ds => .new (.lst ds)) (acons (rdv 3) (acons (rdv 4) anil)))))))
def f__law_feed : FFn := runF 5 m__law_feed
/-- _law_take: slots 0 feed, 1 many, 2 digit -/
def m__law_take : FS := (sseq (sif (tst (bop gGt (bop gIx (rdv 0) (kst (.int 0))) (kst (.int 0)))) (sseq (sasg 2 (bop gMod (bop gIx (rdv 0) (kst (.int 0))) (rdv 1)))
  (sseq (sset 0 (bop gDiv (bop gIx (rdv 0) (kst (.int 0))) (rdv 1)) (kst (.int 0)))
  (sret (rdv 2)))) RS.nx)
  (sseq (sset 0 (bop gMod (bop gAdd (bop gMul (bop gIx (rdv 0) (kst (.int 1))) (kst (.int 6364136223846793005))) (kst (.int 1442695040888963407))) (kst (.int 2305843009213693951))) (kst (.int 1)))
  (sret (bop gMod (bop gDiv (bop gIx (rdv 0) (kst (.int 1))) (kst (.int 65536))) (rdv 1)))))
def f__law_take : FFn := runF 3 m__law_take
/-- _law_points: slots 0 load, 1 once, 2 k, 3 found -/
def m__law_points_1 : FT := (tor (tst (bop gEq (rdv 2) (kst (.int 0)))) (tst (bop gNe (bop gIx (rdv 0) (rdv 2)) (bop gIx (rdv 0) (bop gSub (rdv 2) (kst (.int 1)))))))
def m__law_points_2 : FE := (bop gIx (rdv 0) (rdv 2))
def m__law_points_3 : FS := (sif (tst (bop gEq (bop gGt (bop gIx (rdv 1) (rdv 2)) (bop gIx (rdv 1) (bop gSub (rdv 2) (kst (.int 1))))) (bop gGt (bop gIx (rdv 1) (rdv 2)) (bop gIx (rdv 1) (bop gAdd (rdv 2) (kst (.int 1))))))) (sexp (mcall 3 gApp (acons (bop gIx (rdv 1) (rdv 2)) anil))) RS.nx)
def m__law_points : FS := (sseq (sasg 1 (vlc (itRng1 (acons (cbn cLen (acons (rdv 0) anil)) anil)) (bindD 2) m__law_points_1 m__law_points_2 [2]))
  (sseq (sasg 3 (vsl (rdv 1) onone (osome (kst (.int 1)))))
  (sseq (sfor (itRng2 (acons (kst (.int 1)) (acons (bop gSub (cbn cLen (acons (rdv 1) anil)) (kst (.int 1))) anil))) (bindD 2) m__law_points_3)
  (sret (bop gAdd (rdv 3) (vsl (rdv 1) (osome (bop gSub (cbn cLen (acons (rdv 1) anil)) (cbn cInt (acons (bop gGt (cbn cLen (acons (rdv 1) anil)) (kst (.int 1))) anil)))) onone))))))
def f__law_points : FFn := runF 4 m__law_points
/-- _law_range: slots 0 one, 1 other -/
def m__law_range : FS := (sret (dsp (fun ds => .val (.tup ds)) (acons (cbn cMin2 (acons (rdv 0) (acons (rdv 1) anil))) (acons (cbn cMax2 (acons (rdv 0) (acons (rdv 1) anil))) anil))))
def f__law_range : FFn := runF 2 m__law_range
/-- _law_holds: slots 0 outer, 1 inner -/
def m__law_holds : FS := (sret (vand (bop gLe (bop gIx (rdv 0) (kst (.int 0))) (bop gIx (rdv 1) (kst (.int 0)))) (bop gLe (bop gIx (rdv 1) (kst (.int 1))) (bop gIx (rdv 0) (kst (.int 1))))))
def f__law_holds : FFn := runF 2 m__law_holds
/-- turning_points: slots 0 load, 1 points, 2 reading -/
def m_turning_points_1 : FS := (sseq (sif (tand (tst (bop gNe (rdv 1) (dsp (fun ds => .new (.lst ds)) anil))) (tst (bop gEq (rdv 2) (bop gIx (rdv 1) (uop gNeg (kst (.int 1))))))) RS.ct RS.nx)
  (sseq (sif (tand (tst (bop gGt (cbn cLen (acons (rdv 1) anil)) (kst (.int 1)))) (tnot (trt (callF [.rd, .rd, .rd] f_is_turning (acons (bop gIx (rdv 1) (uop gNeg (kst (.int 2)))) (acons (bop gIx (rdv 1) (uop gNeg (kst (.int 1)))) (acons (rdv 2) anil))))))) (sexp (mcall 1 gPop anil)) RS.nx)
  (sexp (mcall 1 gApp (acons (rdv 2) anil)))))
def m_turning_points : FS := (sseq (sasg 1 (dsp (fun ds => .new (.lst ds)) anil))
  (sseq (sfor (itSeq (rdv 0)) (bindD 2) m_turning_points_1)
  (sret (cbn cTuple (acons (rdv 1) anil)))))
def f_turning_points : FFn := runF 3 m_turning_points
/-- _law_pick: slots 0 feed, 1 some -/
def m__law_pick : FS := (sret (bop gIx (rdv 1) (callF [.mt, .rd] f__law_take (acons (rdv 0) (acons (cbn cLen (acons (rdv 1) anil)) anil)))))
def f__law_pick : FFn := runF 2 m__law_pick
/-- swings: slots 0 load, 1 points, 2 k -/
def m_swings_1 : FE := (callF [.rd, .rd] f_range_of (acons (bop gIx (rdv 1) (rdv 2)) (acons (bop gIx (rdv 1) (bop gAdd (rdv 2) (kst (.int 1)))) anil)))
def m_swings : FS := (sseq (sasg 1 (callF [.rd] f_turning_points (acons (rdv 0) anil)))
  (sret (vlc (itRng1 (acons (bop gSub (cbn cLen (acons (rdv 1) anil)) (kst (.int 1))) anil)) (bindD 2) tyes m_swings_1 [2])))
def f_swings : FFn := runF 3 m_swings
/-- _law_load: slots 0 feed, 1 most, 2 size, 3 way, 4 few, 5 turn, 6 middle, 7 step, 8 found -/
def m__law_load_1 : FE := (callF [.mt, .rd] f__law_take (acons (rdv 0) (acons (rdv 4) anil)))
def m__law_load_2 : FE := (bop gSub (callF [.mt, .rd] f__law_take (acons (rdv 0) (acons (bop gAdd (bop gMul (kst (.int 2)) (bop gPow (kst (.int 10)) (kst (.int 9)))) (kst (.int 1))) anil))) (bop gPow (kst (.int 10)) (kst (.int 9))))
def m__law_load_3 : FS := (sseq (sexp (mcall 8 gApp (acons (bop gMul (rdv 7) (cbn cMin2 (acons (rdv 5) (acons (rdv 6) anil)))) anil)))
  (sasg 7 (bop gSub (kst (.int 0)) (rdv 7))))
def m__law_load_4 : FE := (bop gSub (bop gDiv (rdv 5) (kst (.int 2))) (callF [.mt, .rd] f__law_take (acons (rdv 0) (acons (kst (.int 2)) anil))))
def m__law_load_5 : FE := (callF [.mt, .rd] f__law_pick (acons (rdv 0) (acons (dsp (fun ds => .new (.lst ds)) (acons (kst (.int 7)) (acons (uop gNeg (kst (.int 7))) (acons (kst (.int 7)) (acons (kst (.int 0)) anil))))) anil)))
def m__law_load : FS := (sseq (sasg 2 (callF [.mt, .rd] f__law_take (acons (rdv 0) (acons (bop gAdd (rdv 1) (kst (.int 1))) anil))))
  (sseq (sasg 3 (callF [.mt, .rd] f__law_take (acons (rdv 0) (acons (kst (.int 7)) anil))))
  (sseq (sif (tst (bop gLt (rdv 3) (kst (.int 3)))) (sseq (sasg 4 (callF [.mt, .rd] f__law_pick (acons (rdv 0) (acons (dsp (fun ds => .new (.lst ds)) (acons (kst (.int 2)) (acons (kst (.int 3)) (acons (kst (.int 4)) (acons (kst (.int 5)) anil))))) anil))))
  (sret (vlc (itRng1 (acons (rdv 2) anil)) (bindD 5) tyes m__law_load_1 [5]))) RS.nx)
  (sseq (sif (tst (bop gEq (rdv 3) (kst (.int 3)))) (sret (vlc (itRng1 (acons (rdv 2) anil)) (bindD 5) tyes m__law_load_2 [5])) RS.nx)
  (sseq (sif (tst (bop gEq (rdv 3) (kst (.int 4)))) (sseq (spar [6, 7, 8] [(callF [.mt, .rd] f__law_take (acons (rdv 0) (acons (bop gAdd (rdv 2) (kst (.int 1))) anil))), (callF [.mt, .rd] f__law_pick (acons (rdv 0) (acons (dsp (fun ds => .new (.lst ds)) (acons (kst (.int 1)) (acons (kst (.int 2)) (acons (uop gNeg (kst (.int 1))) anil)))) anil))), (dsp (fun ds => .new (.lst ds)) anil)])
  (sseq (sfor (itRng1 (acons (rdv 2) anil)) (bindD 5) m__law_load_3)
  (sret (rdv 8)))) RS.nx)
  (sseq (sif (tst (bop gEq (rdv 3) (kst (.int 5)))) (sret (vlc (itRng1 (acons (rdv 2) anil)) (bindD 5) tyes m__law_load_4 [5])) RS.nx)
  (sret (vlc (itRng1 (acons (rdv 2) anil)) (bindD 5) tyes m__law_load_5 [5]))))))))
def f__law_load : FFn := runF 9 m__law_load
/-- _law_long_right: slots 0 load, 1 points, 2 due, 3 at -/
def m__law_long_right_1 : FE := (callF [.rd, .rd] f__law_range (acons (bop gIx (rdv 1) (rdv 3)) (acons (bop gIx (rdv 1) (bop gAdd (rdv 3) (kst (.int 1)))) anil)))
def m__law_long_right : FS := (sseq (sasg 1 (callF [.rd] f__law_points (acons (rdv 0) anil)))
  (sseq (sif (tst (bop gNe (callF [.rd] f_turning_points (acons (rdv 0) anil)) (cbn cTuple (acons (rdv 1) anil)))) (sret (kst (.bl false))) RS.nx)
  (sseq (sasg 2 (vlc (itRng1 (acons (bop gSub (cbn cLen (acons (rdv 1) anil)) (kst (.int 1))) anil)) (bindD 3) tyes m__law_long_right_1 [3]))
  (sret (bop gEq (callF [.rd] f_swings (acons (rdv 0) anil)) (rdv 2))))))
def f__law_long_right : FFn := runF 4 m__law_long_right
/-- law: slots 0 script, 1 jagged, 2 turn, 3 load, 4 k, 5 feed, 6 points, 7 seen, 8 one, 9 found, 10 due, 11 at, 12 told, 13 some, 14 outer, 15 inner -/
def m_law_1 : FE := (bop gSub (bop gSub (bop gMul (kst (.int 37)) (rdv 2)) (bop gMul (bop gDiv (bop gMul (kst (.int 37)) (rdv 2)) (kst (.int 101))) (kst (.int 101)))) (kst (.int 50)))
def m_law_2 : FE := (bop gDiv (rdv 2) (kst (.int 2)))
def m_law_3 : FS := (sif (tnot (trt (callF [.rd] f__law_long_right (acons (rdv 3) anil)))) (sret (kst (.bl false))) RS.nx)
def m_law_4 : FE := (callF [.rd, .rd] f__law_range (acons (bop gIx (rdv 6) (rdv 11)) (acons (bop gIx (rdv 6) (bop gAdd (rdv 11) (kst (.int 1)))) anil)))
def m_law_5 : FS := (sseq (sasg 9 (callF [.rd] f_turning_points (acons (rdv 8) anil)))
  (sseq (sif (tst (bop gNe (cbn cRepr (acons (rdv 9) anil)) (cbn cRepr (acons (cbn cTuple (acons (rdv 6) anil)) anil)))) (sret (kst (.bl false))) RS.nx)
  (sseq (sasg 10 (vlc (itRng1 (acons (bop gSub (cbn cLen (acons (rdv 6) anil)) (kst (.int 1))) anil)) (bindD 11) tyes m_law_4 [11]))
  (sseq (sasg 12 (callF [.rd] f_swings (acons (rdv 8) anil)))
  (sseq (sif (tor (tst (bop gNe (cbn cRepr (acons (rdv 12) anil)) (cbn cRepr (acons (rdv 10) anil)))) (tst (bop gNe (cbn cRepr (acons (rdv 3) anil)) (rdv 7)))) (sret (kst (.bl false))) RS.nx)
  (sexp (mcall 12 gClear anil)))))))
def m_law_6 : FS := (sif (tst (bop gNe (cbn cRepr (acons (callF [.rd, .rd] f_contains (acons (rdv 14) (acons (rdv 15) anil))) anil)) (cbn cRepr (acons (callF [.rd, .rd] f__law_holds (acons (rdv 14) (acons (rdv 15) anil))) anil)))) (sret (kst (.bl false))) RS.nx)
def m_law_7 : FS := (sfor (itSeq (rdv 13)) (bindD 15) m_law_6)
def m_law_8 : FS := (sseq (sasg 3 (callF [.mt, .rd] f__law_load (acons (rdv 5) (acons (kst (.int 15)) anil))))
  (sseq (sasg 6 (callF [.rd] f__law_points (acons (rdv 3) anil)))
  (sseq (sasg 7 (cbn cRepr (acons (rdv 3) anil)))
  (sseq (sfor (itSeq (dsp (fun ds => .val (.tup ds)) (acons (rdv 3) (acons (cbn cTuple (acons (rdv 3) anil)) (acons (rdv 6) (acons (bop gAdd (rdv 3) (vsl (rdv 3) (osome (uop gNeg (kst (.int 1)))) onone)) anil)))))) (bindD 8) m_law_5)
  (sseq (sasg 13 (bop gAdd (vsl (callF [.rd] f_swings (acons (rdv 3) anil)) onone (osome (kst (.int 6)))) (dsp (fun ds => .new (.lst ds)) (acons (dsp (fun ds => .val (.tup ds)) (acons (kst (.int 0)) (acons (kst (.int 1)) anil))) (acons (dsp (fun ds => .val (.tup ds)) (acons (kst (.int 0)) (acons (kst (.int 2)) anil))) (acons (dsp (fun ds => .val (.tup ds)) (acons (kst (.int 1)) (acons (kst (.int 2)) anil))) (acons (dsp (fun ds => .val (.tup ds)) (acons (uop gNeg (bop gPow (kst (.int 10)) (kst (.int 9)))) (acons (bop gPow (kst (.int 10)) (kst (.int 9))) anil))) anil)))))))
  (sfor (itSeq (rdv 13)) (bindD 14) m_law_7))))))
def m_law_9 : FS := (sseq (sasg 5 (callF [.rd, .rd] f__law_feed (acons (rdv 0) (acons (rdv 4) anil))))
  (sfor (itRng1 (acons (kst (.int 8)) anil)) (bindD 2) m_law_8))
def m_law : FS := (sseq (sasg 1 (vlc (itRng1 (acons (kst (.int 2000)) anil)) (bindD 2) tyes m_law_1 [2]))
  (sseq (sfor (itSeq (dsp (fun ds => .val (.tup ds)) (acons (rdv 1) (acons (lsRng1 (kst (.int 2000))) (acons (uop gRev (vlc (itRng1 (acons (kst (.int 2000)) anil)) (bindD 2) tyes m_law_2 [2])) (acons (bop gMul (dsp (fun ds => .new (.lst ds)) (acons (kst (.int 0)) (acons (kst (.int 1)) anil))) (kst (.int 1000))) anil)))))) (bindD 3) m_law_3)
  (sseq (sfor (itRng1 (acons (cbn cMax2 (acons (kst (.int 2)) (acons (cbn cMin2 (acons (kst (.int 6)) (acons (cbn cLen (acons (rdv 0) anil)) anil))) anil))) anil)) (bindD 4) m_law_9)
  (sret (kst (.bl true))))))
def f_law : FFn := runF 16 m_law
end Mi

/-! ML: mirrors are evaluated -/
namespace PL
open PySem L2
def okB : Option (Option Sl) → Bool
  | none => false
  | some (some (.mu _)) => false
  | _ => true
def okC : Option (Option Sl) → Bool
  | some none => true
  | some (some (.fz _)) => true
  | _ => false
@[simp] theorem okB_no : okB (some none) = true := rfl
@[simp] theorem okB_fz (d : D) : okB (some (some (.fz d))) = true := rfl
@[simp] theorem okB_ow (o : O) : okB (some (some (.ow o))) = true := rfl
@[simp] theorem okC_no : okC (some none) = true := rfl
@[simp] theorem okC_fz (d : D) : okC (some (some (.fz d))) = true := rfl
/-- a bound of list(range(..)) -/
def Rl (n : Int) : Prop := -(2 ^ 62) ≤ n ∧ n ≤ 2 ^ 24
noncomputable instance (j : Int) : Decidable (Rl j) := Classical.propDecidable _
/-- a bound of range -/
def Rk (j : Int) : Prop := -(2 ^ 62) ≤ j ∧ j < 2 ^ 62
noncomputable instance (j : Int) : Decidable (Rk j) := Classical.propDecidable _
/-- a factor -/
def Mk (a : Int) : Prop := -(2 ^ 64) < a ∧ a < 2 ^ 64
noncomputable instance (j : Int) : Decidable (Mk j) := Classical.propDecidable _
/-- a divisor -/
def Dk (a : Int) : Prop := 0 < a ∧ a < 2 ^ 64
noncomputable instance (j : Int) : Decidable (Dk j) := Classical.propDecidable _
theorem ite_cg {α : Type} {c c' : Prop} [i : Decidable c] [i' : Decidable c'] (h : c ↔ c') (a b : α) : ite c a b = ite c' a b := by
  by_cases q : c
  · rw [if_pos q, if_pos (h.mp q)]
  · rw [if_neg q, if_neg fun z => q (h.mpr z)]
theorem mk_of {j : Int} (h : -18446744073709551616 < j) (h2 : j < 18446744073709551616) : Mk j := ⟨by omega, by omega⟩
theorem dk_of {j : Int} (h : 0 < j) (h2 : j < 18446744073709551616) : Dk j := ⟨by omega, by omega⟩
theorem rl_of {j : Int} (h : -1000000000000 ≤ j) (h2 : j ≤ 16777216) : Rl j := ⟨by omega, by omega⟩
theorem rk_of {j : Int} (h : -1000000000000 ≤ j) (h2 : j ≤ 1000000000000) : Rk j := ⟨by omega, by omega⟩
theorem rk_nat {n : Nat} (h : n ≤ 1000000000000) : Rk (n : Int) := rk_of (by omega) (by omega)
section
variable {α β : Type} (env e : En) (f g h : FE) (t u : FT) (s s' : FS) (fa : FA) (i j : Nat) (d d' : D) (x : Arg)
theorem cg_bind {r r' : Res α} {k : α → Res β} (h : r = r') : r.bind k = r'.bind k := by rw [h]
theorem cg_bin {r r' : Res α} {k : α → Res β} (h : r = r') : r.bin k = r'.bin k := by rw [h]
theorem cg_go {r r' : Res α} {k : α → RS} (h : r = r') : r.go k = r'.go k := by rw [h]
@[simp] theorem x_bind (a : α) (k : α → Res β) : (Res.ok a).bind k = k a := rfl
@[simp] theorem x_bin (a : α) (k : α → Res β) : (Res.ok a).bin k = k a := rfl
@[simp] theorem x_go (a : α) (k : α → RS) : (Res.ok a).go k = k a := rfl
@[simp] theorem x_kst : kst d env = .ok (.val d, env) := rfl
@[simp] theorem x_rdv : rdv i env = (match env[i]? with
  | some (some (.fz d)) => .ok (.val d, env)
  | some (some (.ow _)) => .ok (.slot i, env)
  | some (some (.mu _)) => .ok (.slot i, env)
  | _ => .no) := rfl
@[simp] theorem x_bop (o : D → D → Option Arg) : bop o f g env = (f env).bind fun p => (g p.2).bind fun q =>
  match cont (settle p.1) q.2, cont q.1 q.2 with
  | some a, some b => (match o a b with
    | some r => .ok (r, q.2)
    | none => .no)
  | _, _ => .no := rfl
@[simp] theorem x_settle1 : settle (.val d) = .val d := rfl
@[simp] theorem x_settle2 : settle (.slot i) = .slot i := rfl
@[simp] theorem x_settle3 (o : O) : settle (.new o) = .val o.toD := rfl
@[simp] theorem x_toD1 (ds : List D) : O.toD (.lst ds) = .lst ds := rfl
@[simp] theorem x_slD1 : Sl.toD (.fz d) = d := rfl
@[simp] theorem x_slD2 (o : O) : Sl.toD (.ow o) = o.toD := rfl
@[simp] theorem x_slD3 (o : O) : Sl.toD (.mu o) = o.toD := rfl
@[simp] theorem x_cont1 : cont (.val d) env = some d := rfl
@[simp] theorem x_cont2 : cont (.slot j) env = (match env[j]? with
    | some (some sl) => some sl.toD
    | _ => none) := rfl
@[simp] theorem x_cont3 (o : O) : cont (.new o) env = some o.toD := rfl
@[simp] theorem x_hold1 : hold (.val d) env = some (d, env) := rfl
@[simp] theorem x_hold2 : hold (.slot j) env = (match env[j]? with
    | some (some (.fz d)) => some (d, env)
    | some (some (.ow o)) => some (o.toD, env.set j (some (.fz o.toD)))
    | _ => none) := rfl
@[simp] theorem x_hold3 (o : O) : hold (.new o) env = some (o.toD, env) := rfl
@[simp] theorem x_holds0 : holds [] env = some ([], env) := rfl
@[simp] theorem x_holds1 (xs : List Arg) : holds (x :: xs) env = (match hold x env with
    | some p => (match holds xs p.2 with
      | some q => some (p.1 :: q.1, q.2)
      | none => none)
    | none => none) := rfl
@[simp] theorem x_conts0 : conts [] env = some [] := rfl
@[simp] theorem x_conts1 (xs : List Arg) : conts (x :: xs) env = (match cont x env, conts xs env with
    | some d, some ds => some (d :: ds)
    | _, _ => none) := rfl
@[simp] theorem x_tst : tst f env = (f env).bind fun p => match p.1 with
  | .val (.bl b) => .ok (b, p.2)
  | _ => .no := rfl
@[simp] theorem x_trt : trt f env = (f env).bind fun p => match (cont p.1 p.2).bind tru with
  | some b => .ok (b, p.2)
  | none => .no := rfl
@[simp] theorem x_tnot : tnot t env = (t env).bind fun p => .ok (!p.1, p.2) := rfl
@[simp] theorem x_tand : tand t u env = (t env).bind fun p => if p.1 = true then u p.2 else .ok (false, p.2) := rfl
@[simp] theorem x_tor : tor t u env = (t env).bind fun p => if p.1 = true then .ok (true, p.2) else u p.2 := rfl
@[simp] theorem x_vnot : vnot f env = (tst f env).bind fun p => .ok (.val (.bl (!p.1)), p.2) := rfl
@[simp] theorem x_vand : vand f g env = (tst f env).bind fun p => if p.1 = true then g p.2 else .ok (.val (.bl false), p.2) := rfl
@[simp] theorem x_vor : vor f g env = (tst f env).bind fun p => if p.1 = true then .ok (.val (.bl true), p.2) else g p.2 := rfl
@[simp] theorem x_vif : vif t f g env = (t env).bind fun p => if p.1 = true then f p.2 else g p.2 := rfl
@[simp] theorem x_uop (o : D → Option Arg) : uop o f env = (f env).bind fun p => match (cont p.1 p.2).bind o with
  | some r => .ok (r, p.2)
  | none => .no := rfl
@[simp] theorem x_anil : anil env = .ok ([], env) := rfl
@[simp] theorem x_acons : acons f fa env = (f env).bind fun p => (fa p.2).bind fun q => .ok (settle p.1 :: q.1, q.2) := rfl
@[simp] theorem x_dsp (mk : List D → Arg) : dsp mk fa env = (fa env).bind fun p => match holds p.1 p.2 with
  | some q => if q.1.length ≤ sizeLine then .ok (mk q.1, q.2) else .no
  | none => .no := rfl
@[simp] theorem x_cbn (o : List D → Option Arg) : cbn o fa env = (fa env).bind fun p => match (conts p.1 p.2).bind o with
  | some r => .ok (r, p.2)
  | none => .no := rfl
@[simp] theorem x_bindD : bindD i d env = if okB env[i]? = true then .ok (env.set i (some (.fz d))) else .no := by
  unfold bindD okB
  cases env[i]? with
  | none => rfl
  | some x => cases x with
    | none => rfl
    | some y => cases y <;> rfl
@[simp] theorem x_bindA1 : bindA i (.val d) env = bindD i d env := rfl
@[simp] theorem x_bindA2 (o : O) : bindA i (.new o) env = if okB env[i]? = true then .ok (env.set i (some (.ow o))) else .no := by
  unfold bindA okB
  cases env[i]? with
  | none => rfl
  | some x => cases x with
    | none => rfl
    | some y => cases y <;> rfl
@[simp] theorem x_bindA3 : bindA i (.slot j) env = (match hold (.slot j) env with
    | some p => bindD i p.1 p.2
    | none => .no) := rfl
@[simp] theorem x_sasg : sasg i f env = (f env).go fun p => (bindA i p.1 p.2).go .nx := rfl
@[simp] theorem x_sasgT (g : FG) : sasgT g f env = (f env).go fun p => match hold p.1 p.2 with
  | some q => (g q.1 q.2).go .nx
  | none => .no := rfl
@[simp] theorem x_sexp : sexp f env = (f env).go fun p => .nx p.2 := rfl
@[simp] theorem x_sret : sret f env = (f env).go fun p => match p.1 with
  | .val d => .rt (.fz d) p.2
  | .new o => .rt (.ow o) p.2
  | .slot j => (match p.2[j]? with
    | some (some (.fz d)) => .rt (.fz d) p.2
    | some (some (.ow o)) => .rt (.ow o) (p.2.set j none)
    | _ => .no) := rfl
@[simp] theorem x_sseq : sseq s s' env = (match s env with
  | .nx e => s' e
  | r => r) := rfl
@[simp] theorem x_sif : sif t s s' env = (t env).go fun p => if p.1 = true then s p.2 else s' p.2 := rfl
@[simp] theorem x_sfor (it : FI) (tg : FG) : sfor it tg s env = (it env).go fun p => forL tg s p.1 p.2 := rfl
@[simp] theorem x_itSeq : itSeq f env = (f env).bind fun p => match hold p.1 p.2 with
  | some (.lst ds, e) => .ok (ds, e)
  | some (.tup ds, e) => .ok (ds, e)
  | _ => .no := rfl
@[simp] theorem x_itRng1 : itRng1 fa env = (fa env).bind fun p => match conts p.1 p.2 with
  | some [.int j] => if Rk j then .ok (dints 0 j.toNat, p.2) else .no
  | _ => .no := by
  unfold itRng1
  congr 1
  funext p
  split
  · rename_i j e
    try rw [e]
    exact ite_cg (c := -(2 ^ 62) ≤ j ∧ j < 2 ^ 62) (c' := Rk j) Iff.rfl _ _
  · rename_i e
    first
      | rfl
      | (split
         · rename_i j e'; exact absurd e' (e j)
         · rfl)
@[simp] theorem x_itRng2 : itRng2 fa env = (fa env).bind fun p => match conts p.1 p.2 with
  | some [.int i, .int j] => if Rk i ∧ Rk j then .ok (dints i (j - i).toNat, p.2) else .no
  | _ => .no := by
  unfold itRng2
  congr 1
  funext p
  have h : ∀ i j : Int, (-(2 ^ 62) ≤ i ∧ i < 2 ^ 62 ∧ -(2 ^ 62) ≤ j ∧ j < 2 ^ 62) = (Rk i ∧ Rk j) := fun i j => propext ⟨fun ⟨a, b, c, d⟩ => ⟨⟨a, b⟩, c, d⟩, fun ⟨⟨a, b⟩, c, d⟩ => ⟨a, b, c, d⟩⟩
  split
  · rename_i i j e
    try rw [e]
    show _ = (if Rk i ∧ Rk j then _ else _)
    by_cases c : Rk i ∧ Rk j
    · rw [if_pos c, if_pos ((h i j).mpr c)]
    · rw [if_neg c, if_neg fun z => c ((h i j).mp z)]
  · rename_i e
    first
      | rfl
      | (split
         · rename_i i j e'; exact absurd e' (e i j)
         · rfl)
@[simp] theorem x_tyes : tyes env = .ok (true, env) := rfl
@[simp] theorem x_onone : onone env = .ok (none, env) := rfl
@[simp] theorem x_osome : osome f env = (f env).bind fun p => match cont p.1 p.2 with
  | some (.int i) => .ok (some i, p.2)
  | _ => .no := rfl
@[simp] theorem x_vsl (g h : FO) : vsl f g h env = (f env).bind fun p => (g p.2).bind fun q => (h q.2).bind fun r => match (cont (settle p.1) r.2).bind fun d => gSl d q.1 r.1 with
  | some x => .ok (x, r.2)
  | none => .no := rfl
@[simp] theorem x_slotO : slotO env j = (match env[j]? with
  | some (some (.ow o)) => some o
  | some (some (.mu o)) => some o
  | _ => none) := rfl
@[simp] theorem x_setO (o : O) : setO env j o = (match env[j]? with
  | some (some (.ow _)) => env.set j (some (.ow o))
  | some (some (.mu _)) => env.set j (some (.mu o))
  | _ => env) := rfl
@[simp] theorem x_sset : sset j f g env = (f env).go fun p => match hold p.1 p.2 with
  | some d => (match slotO d.2 j with
    | some _ => (g d.2).go fun q => (match cont q.1 q.2, slotO q.2 j with
      | some (.int i), some (.lst ds) => (match ixN ds.length i with
        | some m => .nx (setO q.2 j (.lst (ds.set m d.1)))
        | none => .no)
      | _, _ => .no)
    | none => .no)
  | none => .no := rfl
@[simp] theorem x_mcall (o : List D → List D → Option (List D × D)) : mcall j o fa env = (match slotO env j with
  | some (.lst _) => (fa env).bind fun p => (match holds p.1 p.2 with
    | some q => (match slotO q.2 j with
      | some (.lst xs) => (match o xs q.1 with
        | some r => .ok (.val r.2, setO q.2 j (.lst r.1))
        | none => .no)
      | _ => .no)
    | none => .no)
  | _ => .no) := rfl
@[simp] theorem x_vch (o o' : D → D → Option Arg) : vch o o' f g h env = (f env).bind fun p => (g p.2).bind fun q =>
  match cont (settle p.1) q.2, cont (settle q.1) q.2 with
  | some a, some b => (match o a b with
    | some (.val (.bl true)) => (h q.2).bind fun r => (match cont (settle q.1) r.2, cont r.1 r.2 with
      | some b', some c => (match o' b' c with
        | some z => .ok (z, r.2)
        | none => .no)
      | _, _ => .no)
    | some (.val (.bl false)) => .ok (.val (.bl false), q.2)
    | _ => .no)
  | _, _ => .no := rfl
@[simp] theorem x_lsRng1 : lsRng1 f env = (f env).bind fun p => match cont p.1 p.2 with
  | some (.int n) => if Rl n then .ok (.new (.lst (dints 0 n.toNat)), p.2) else .no
  | _ => .no := by
  unfold lsRng1
  congr 1
  funext p
  split
  · rename_i j e
    try rw [e]
    exact ite_cg (c := -(2 ^ 62) ≤ j ∧ j ≤ 2 ^ 24) (c' := Rl j) Iff.rfl _ _
  · rename_i e
    first
      | rfl
      | (split
         · rename_i j e'; exact absurd e' (e j)
         · rfl)
@[simp] theorem x_callF (ms : List Md) (fn : FFn) : callF ms fn fa env = (fa env).bind fun p => match prep ms p.1 p.2 with
  | some (ps, e) => (match slsOf e ps with
    | some as => if okPa ps = true then (match fn as with
      | .ok r os => if clean ps e r os = true then (match toArg r, applyO ps os e with
        | some x, some e' => .ok (x, e')
        | _, _ => .no) else .no
      | _ => .no) else .no
    | none => .no)
  | none => .no := rfl
@[simp] theorem x_prep0 : prep [] [] env = some ([], env) := rfl
@[simp] theorem x_prep1 (m : Md) (ms : List Md) (xs : List Arg) : prep (m :: ms) (x :: xs) env = (match prep1 m x env with
    | some p => (match prep ms xs p.2 with
      | some q => some (p.1 :: q.1, q.2)
      | none => none)
    | none => none) := rfl
@[simp] theorem x_prepA : prep1 .mt (.slot j) env = some (.mt j, env) := rfl
@[simp] theorem x_prepB : prep1 .bw (.slot j) env = (match slotO env j with
    | some _ => some (.bo j, env)
    | none => (hold (.slot j) env).map fun p => (.hd p.1, p.2)) := rfl
@[simp] theorem x_prepC : prep1 .rd x env = (hold x env).map fun p => (.hd p.1, p.2) := by cases x <;> rfl
@[simp] theorem x_prepD : prep1 .bw (.val d) env = some (.hd d, env) := rfl
@[simp] theorem x_prepE (o : O) : prep1 .bw (.new o) env = some (.hd o.toD, env) := rfl
@[simp] theorem x_sls0 : slsOf env [] = some [] := rfl
@[simp] theorem x_sls1 (p : Pa) (ps : List Pa) : slsOf env (p :: ps) = (match p.sl env, slsOf env ps with
    | some s, some r => some (s :: r)
    | _, _ => none) := rfl
@[simp] theorem x_pa1 : Pa.sl env (.hd d) = some (.fz d) := rfl
@[simp] theorem x_pa2 : Pa.sl env (.bo j) = (slotO env j).map fun o => .fz o.toD := rfl
@[simp] theorem x_pa3 : Pa.sl env (.mt j) = (slotO env j).map .mu := rfl
@[simp] theorem x_ms0 : mslots [] = [] := rfl
@[simp] theorem x_ms1 (ps : List Pa) : mslots (.hd d :: ps) = mslots ps := rfl
@[simp] theorem x_ms2 (ps : List Pa) : mslots (.bo j :: ps) = mslots ps := rfl
@[simp] theorem x_ms3 (ps : List Pa) : mslots (.mt j :: ps) = j :: mslots ps := rfl
@[simp] theorem x_bs0 : bslots [] = [] := rfl
@[simp] theorem x_bs1 (ps : List Pa) : bslots (.hd d :: ps) = bslots ps := rfl
@[simp] theorem x_bs2 (ps : List Pa) : bslots (.bo j :: ps) = j :: bslots ps := rfl
@[simp] theorem x_bs3 (ps : List Pa) : bslots (.mt j :: ps) = bslots ps := rfl
@[simp] theorem x_okPa (ps : List Pa) : okPa ps = (decide (mslots ps).Nodup && (bslots ps).all fun j => !(mslots ps).contains j) := rfl
@[simp] theorem x_clean (ps : List Pa) (r : Sl) (os : List (Option O)) : clean ps env r os = ((bslots ps).isEmpty || ((bslots ps).all (fun j => match slotO env j with
    | some o => flatO o
    | none => false) && noLS r && os.all fun o => match o with
    | some o => noLO o
    | none => true)) := rfl
@[simp] theorem x_ap0 : applyO [] [] env = some env := rfl
@[simp] theorem x_ap1 (ps : List Pa) (os : List (Option O)) : applyO (.hd d :: ps) (none :: os) env = applyO ps os env := rfl
@[simp] theorem x_ap2 (ps : List Pa) (os : List (Option O)) : applyO (.bo j :: ps) (none :: os) env = applyO ps os env := rfl
@[simp] theorem x_ap3 (ps : List Pa) (os : List (Option O)) (o : O) : applyO (.mt j :: ps) (some o :: os) env = applyO ps os (setO env j o) := rfl
@[simp] theorem x_toArg1 : toArg (.fz d) = some (.val d) := rfl
@[simp] theorem x_toArg2 (o : O) : toArg (.ow o) = some (.new o) := rfl
@[simp] theorem x_muts0 (e : En) : muts [] e = [] := by cases e <;> rfl
@[simp] theorem x_muts1 (as : List Sl) (z : Option Sl) : muts (.fz d :: as) (z :: e) = none :: muts as e := by cases z with
  | none => rfl
  | some y => cases y <;> rfl
@[simp] theorem x_muts2 (as : List Sl) (o o' : O) : muts (.mu o :: as) (some (.mu o') :: e) = some o' :: muts as e := rfl
@[simp] theorem x_flat (ds : List D) : flatO (.lst ds) = true := rfl
@[simp] theorem x_noLS1 : noLS (.fz d) = noL d := rfl
@[simp] theorem x_noLS2 (o : O) : noLS (.ow o) = noLO o := rfl
@[simp] theorem x_noLO (ds : List D) : noLO (.lst ds) = noL.noLs ds := rfl
@[simp] theorem x_noLi (i : Int) : noL (.int i) = true := by simp [noL]
@[simp] theorem x_noLb (b : Bool) : noL (.bl b) = true := by simp [noL]
@[simp] theorem x_noLn : noL .non = true := by simp [noL]
@[simp] theorem x_noLs (z : Str) : noL (.str z) = true := by simp [noL]
@[simp] theorem x_noLt (ds : List D) : noL (.tup ds) = noL.noLs ds := by simp [noL]
@[simp] theorem x_noLs0 : noL.noLs [] = true := by simp [noL.noLs]
@[simp] theorem x_noLs1 (ds : List D) : noL.noLs (d :: ds) = (noL d && noL.noLs ds) := by simp [noL.noLs]
@[simp] theorem x_noLsA (ds es : List D) : noL.noLs (ds ++ es) = (noL.noLs ds && noL.noLs es) := by
  induction ds with
  | nil => simp
  | cons a l ih => simp [ih, Bool.and_assoc]
theorem noLs_all (ds : List D) : noL.noLs ds = ds.all noL := by
  induction ds with
  | nil => simp
  | cons a l ih => simp [ih]
@[simp] theorem x_noLsI (is : List Int) : noL.noLs (is.map D.int) = true := by rw [noLs_all]; simp
/-! operations on values -/
@[simp] theorem x_vI (n : Int) : vI n = some (.val (.int n)) := rfl
@[simp] theorem x_vB (b : Bool) : vB b = some (.val (.bl b)) := rfl
end
section
variable (a b : Int) (ds es : List D)
@[simp] theorem x_add : gAdd (.int a) (.int b) = some (.val (.int (a + b))) := rfl
@[simp] theorem x_addL : gAdd (.lst ds) (.lst es) = if ds.length + es.length ≤ sizeLine then some (.new (.lst (ds ++ es))) else none := by
  by_cases h : ds.length + es.length ≤ sizeLine <;> simp [gAdd, gor, gAddI, gAddL, gAddT, gAddS, h, Option.orElse]
@[simp] theorem x_addT : gAdd (.tup ds) (.tup es) = if ds.length + es.length ≤ sizeLine then some (.val (.tup (ds ++ es))) else none := by
  by_cases h : ds.length + es.length ≤ sizeLine <;> simp [gAdd, gor, gAddI, gAddL, gAddT, gAddS, h, Option.orElse]
@[simp] theorem x_sub : gSub (.int a) (.int b) = some (.val (.int (a - b))) := rfl
@[simp] theorem x_neg : gNeg (.int a) = some (.val (.int (-a))) := rfl
@[simp] theorem x_mul : gMul (.int a) (.int b) = if Mk a ∨ Mk b then some (.val (.int (a * b))) else none := by
  by_cases h : (-(2 ^ 64) < a ∧ a < 2 ^ 64) ∨ (-(2 ^ 64) < b ∧ b < 2 ^ 64)
  · rw [if_pos (show Mk a ∨ Mk b from h)]; simp only [gMul, gor, gMulI, if_pos h]; rfl
  · rw [if_neg (show ¬ (Mk a ∨ Mk b) from h)]; simp only [gMul, gor, gMulI, if_neg h]; rfl
@[simp] theorem x_mulL : gMul (.lst ds) (.int b) = if -(2 ^ 63) ≤ b ∧ b < 2 ^ 63 ∧ ds.length * b.toNat ≤ sizeLine then some (.new (.lst (List.replicate b.toNat ds).flatten)) else none := by
  by_cases h : -(2 ^ 63) ≤ b ∧ b < 2 ^ 63 ∧ ds.length * b.toNat ≤ sizeLine
  · rw [if_pos h]; simp only [gMul, gor, gMulI, gMulL, if_pos h]; rfl
  · rw [if_neg h]; simp only [gMul, gor, gMulI, gMulL, if_neg h]; rfl
@[simp] theorem x_div : gDiv (.int a) (.int b) = if Dk b then some (.val (.int (a / b))) else none := ite_cg (c := 0 < b ∧ b < 2 ^ 64) (c' := Dk b) Iff.rfl _ _
@[simp] theorem x_mod : gMod (.int a) (.int b) = if 0 < b then some (.val (.int (a % b))) else none := rfl
@[simp] theorem x_pow : gPow (.int a) (.int b) = if 0 ≤ b ∧ b ≤ 1000000 ∧ a.natAbs < 2 ^ 64 then some (.val (.int (a ^ b.toNat))) else none := rfl
@[simp] theorem x_lt : gLt (.int a) (.int b) = some (.val (.bl (decide (a < b)))) := rfl
@[simp] theorem x_le : gLe (.int a) (.int b) = some (.val (.bl (decide (a ≤ b)))) := rfl
@[simp] theorem x_gt : gGt (.int a) (.int b) = some (.val (.bl (decide (b < a)))) := rfl
@[simp] theorem x_ge : gGe (.int a) (.int b) = some (.val (.bl (decide (b ≤ a)))) := rfl
@[simp] theorem x_eq : gEq (.int a) (.int b) = some (.val (.bl (decide (a = b)))) := rfl
@[simp] theorem x_eqS (s s' : Str) : gEq (.str s) (.str s') = some (.val (.bl (decide (s = s')))) := rfl
@[simp] theorem x_ne : gNe (.int a) (.int b) = some (.val (.bl (!decide (a = b)))) := rfl
@[simp] theorem x_neS (s s' : Str) : gNe (.str s) (.str s') = some (.val (.bl (!decide (s = s')))) := rfl
@[simp] theorem x_eqL : gEq (.lst ds) (.lst es) = eqD false (.lst ds) (.lst es) := rfl
@[simp] theorem x_eqT : gEq (.tup ds) (.tup es) = eqD false (.tup ds) (.tup es) := rfl
@[simp] theorem x_neL : gNe (.lst ds) (.lst es) = eqD true (.lst ds) (.lst es) := rfl
@[simp] theorem x_neT : gNe (.tup ds) (.tup es) = eqD true (.tup ds) (.tup es) := rfl
@[simp] theorem x_eqB (b b' : Bool) : gEq (.bl b) (.bl b') = eqD false (.bl b) (.bl b') := rfl
@[simp] theorem x_is (d : D) : gIs d .non = some (.val (.bl (isNon d))) := by cases d <;> rfl
@[simp] theorem x_isn (d : D) : gNot d .non = some (.val (.bl (!isNon d))) := by cases d <;> rfl
@[simp] theorem x_ixL : gIx (.lst ds) (.int a) = (atI ds a).map .val := rfl
@[simp] theorem x_ixT : gIx (.tup ds) (.int a) = (atI ds a).map .val := rfl
@[simp] theorem x_ixS (is : List Int) : gIx (.scr is) (.int a) = (atI is a).map fun n => .val (.int n) := rfl
@[simp] theorem x_slL (lo hi : Option Int) : gSl (.lst ds) lo hi = some (.new (.lst (cut ds lo hi))) := rfl
@[simp] theorem x_slT (lo hi : Option Int) : gSl (.tup ds) lo hi = some (.val (.tup (cut ds lo hi))) := rfl
@[simp] theorem x_rev : gRev (.lst ds) = some (.new (.lst ds.reverse)) := rfl
@[simp] theorem x_cLenL : cLen [.lst ds] = some (.val (.int ds.length)) := rfl
@[simp] theorem x_cLenT : cLen [.tup ds] = some (.val (.int ds.length)) := rfl
@[simp] theorem x_cLenS (is : List Int) : cLen [.scr is] = some (.val (.int is.length)) := rfl
@[simp] theorem x_cAbs : cAbs [.int a] = some (.val (.int (if a < 0 then -a else a))) := rfl
@[simp] theorem x_cMax : cMax2 [.int a, .int b] = some (.val (.int (max a b))) := by simp only [cMax2, vI]; congr 3; omega
@[simp] theorem x_cMin : cMin2 [.int a, .int b] = some (.val (.int (min a b))) := by simp only [cMin2, vI]; congr 3; omega
@[simp] theorem x_cIntI : cInt [.int a] = some (.val (.int a)) := rfl
@[simp] theorem x_cIntB (b : Bool) : cInt [.bl b] = some (.val (.int (if b then 1 else 0))) := rfl
@[simp] theorem x_cList1 : cList [.lst ds] = some (.new (.lst ds)) := rfl
@[simp] theorem x_cList2 : cList [.tup ds] = some (.new (.lst ds)) := rfl
@[simp] theorem x_cTup1 : cTuple [.lst ds] = some (.val (.tup ds)) := rfl
@[simp] theorem x_cTup2 : cTuple [.tup ds] = some (.val (.tup ds)) := rfl
@[simp] theorem x_app (d : D) : gApp ds [d] = if ds.length < sizeLine then some (ds ++ [d], .non) else none := rfl
theorem x_pop : gPop ds [] = (ds[ds.length - 1]?).map fun d => (ds.dropLast, d) := rfl
@[simp] theorem x_pop1 (d : D) : gPop (ds ++ [d]) [] = some (ds, d) := by simp [x_pop]
@[simp] theorem x_pop2 (d d' : D) : gPop (ds ++ [d, d']) [] = some (ds ++ [d], d') := by
  have := x_pop1 (ds ++ [d]) d'
  simpa using this
@[simp] theorem x_clear : gClear ds [] = some ([], .non) := rfl
@[simp] theorem x_truB (b : Bool) : tru (.bl b) = some b := rfl
@[simp] theorem x_truI : tru (.int a) = some (a != 0) := rfl
@[simp] theorem x_truL : tru (.lst ds) = some (!ds.isEmpty) := rfl
@[simp] theorem x_truT : tru (.tup ds) = some (!ds.isEmpty) := rfl
@[simp] theorem x_truN : tru .non = some false := rfl
@[simp] theorem x_forL0 (tg : FG) (body : FS) (e : En) : forL tg body [] e = .nx e := rfl
end
@[simp] theorem sl_eq : sizeLine = 16777216 := by decide
/-! ### indices -/
theorem atI_nat {α : Type} (xs : List α) (k : Nat) : atI xs (k : Int) = xs[k]? := by
  unfold atI ixN
  rw [if_pos (by omega)]
  by_cases h : (k : Int) < xs.length
  · rw [if_pos h]; simp
  · rw [if_neg h]; simp; omega
@[simp] theorem atI_0 {α : Type} (xs : List α) : atI xs 0 = xs[0]? := atI_nat xs 0
@[simp] theorem atI_1 {α : Type} (xs : List α) : atI xs 1 = xs[1]? := atI_nat xs 1
@[simp] theorem atI_m1 {α : Type} (xs : List α) (a : α) : atI (xs ++ [a]) (-1) = some a := by
  unfold atI ixN
  rw [if_neg (by omega), if_pos (by simp; omega)]
  simp only [List.length_append, List.length_cons, List.length_nil]
  show (xs ++ [a])[_]? = _
  have : ((-1 : Int) + ((xs.length + (0 + 1) : Nat) : Int)).toNat = xs.length := by omega
  rw [this, List.getElem?_append_right (by omega)]
  simp
@[simp] theorem atI_m1b {α : Type} (xs : List α) (a b : α) : atI (xs ++ [a, b]) (-1) = some b := by
  have := atI_m1 (xs ++ [a]) b
  simpa using this
@[simp] theorem atI_m1s {α : Type} (a : α) : atI [a] (-1) = some a := atI_m1 [] a
@[simp] theorem atI_m1t {α : Type} (a b : α) : atI [a, b] (-1) = some b := atI_m1 [a] b
@[simp] theorem atI_m2 {α : Type} (xs : List α) (a b : α) : atI (xs ++ [a, b]) (-2) = some a := by
  unfold atI ixN
  rw [if_neg (by omega), if_pos (by simp; omega)]
  simp only [List.length_append, List.length_cons, List.length_nil]
  show (xs ++ [a, b])[_]? = _
  have : ((-2 : Int) + ((xs.length + (0 + 1 + 1) : Nat) : Int)).toNat = xs.length := by omega
  rw [this, List.getElem?_append_right (by omega)]
  simp
@[simp] theorem atI_m2t {α : Type} (a b : α) : atI [a, b] (-2) = some a := atI_m2 [] a b
theorem atI_cast {α : Type} (xs : List α) (k : Nat) : atI xs (k : Int) = xs[k]? := atI_nat xs k
theorem atI_s {α : Type} (xs : List α) (k : Nat) : atI xs ((k : Int) + 1) = xs[k + 1]? := atI_nat xs (k + 1)
theorem atI_ss {α : Type} (xs : List α) (k : Nat) : atI xs ((k : Int) + 1 + 1) = xs[k + 2]? := atI_nat xs (k + 2)
theorem gd {xs : List Int} {k : Nat} (h : k < xs.length) : xs[k]? = some (xs.getD k 0) := by simp [h]
@[simp] theorem eqD_bl (b b' : Bool) : eqD false (.bl b) (.bl b') = some (.val (.bl (b == b'))) := by
  have h : ∀ c : Bool, SeqAt.shaped (.bool c) = true := fun c => by cases c <;> decide
  simp [eqD, toP, h, PyData.eqv, vB]
/-! ### loops -/
theorem forL_inv {tg : FG} {body : FS} (I : List D → En → Prop) : ∀ (ds : List D) (e : En), I ds e →
    (∀ d r e, I (d :: r) e → ∃ e1, tg d e = .ok e1 ∧ ∃ e2, (body e1 = .nx e2 ∨ body e1 = .ct e2) ∧ I r e2) → ∃ e', forL tg body ds e = .nx e' ∧ I [] e'
  | [], e, h, _ => ⟨e, rfl, h⟩
  | d :: r, e, h, st => by
    obtain ⟨e1, h1, e2, h2, h3⟩ := st d r e h
    obtain ⟨e', h4, h5⟩ := forL_inv I r e2 h3 st
    refine ⟨e', ?_, h5⟩
    rcases h2 with h2 | h2 <;> simp only [forL, h1, Res.go, h2, h4]
theorem lcL_inv {tg : FG} {tt : FT} {fe : FE} {vs : List Nat} (I : List D → List D → En → Prop) : ∀ (ds acc : List D) (e : En), I ds acc e →
    (∀ d r acc e, I (d :: r) acc e → ∃ e1 b, tg d e = .ok e1 ∧ tt e1 = .ok b ∧ ((b.1 = false ∧ I r acc (clr b.2 vs)) ∨
      (b.1 = true ∧ ∃ x h, fe b.2 = .ok x ∧ hold x.1 x.2 = some h ∧ acc.length < sizeLine ∧ I r (acc ++ [h.1]) (clr h.2 vs)))) → ∃ r, lcL tg tt fe vs ds acc e = .ok r ∧ I [] r.1 r.2
  | [], acc, e, h, _ => ⟨(acc, e), rfl, h⟩
  | d :: r, acc, e, h, st => by
    obtain ⟨e1, b, h1, h2, h3⟩ := st d r acc e h
    rcases h3 with ⟨h3, h4⟩ | ⟨h3, x, q, h4, h5, h6, h7⟩
    · obtain ⟨z, h8, h9⟩ := lcL_inv I r _ _ h4 st
      exact ⟨z, by simp only [lcL, h1, Res.bin, h2, h3, h8, Bool.false_eq_true, if_false], h9⟩
    · obtain ⟨z, h8, h9⟩ := lcL_inv I r _ _ h7 st
      exact ⟨z, by simp only [lcL, h1, Res.bin, h2, h3, h4, h5, h6, h8, if_true], h9⟩
end PL

/-! ML: values that are compared and shown -/
namespace PL
open PySem L2
/-- depth at most k, weight at most n -/
inductive Rp : Nat → Nat → D → Prop
  | non (k n : Nat) : Rp k n .non
  | bl (k n : Nat) (b : Bool) : Rp k n (.bl b)
  | int (k : Nat) {n : Nat} {i : Int} : i.natAbs < 2 ^ 63 → 64 ≤ n → Rp k n (.int i)
  | str (k : Nat) {n : Nat} {s : Str} : PyData.canLay0 (.str s) = true → s.cps.size ≤ n → Rp k n (.str s)
  | lst {k m n : Nat} {ds : List D} : (∀ d ∈ ds, Rp k m d) → ds.length * (m + 1) ≤ n → Rp (k + 1) n (.lst ds)
  | tup {k m n : Nat} {ds : List D} : (∀ d ∈ ds, Rp k m d) → ds.length * (m + 1) ≤ n → Rp (k + 1) n (.tup ds)
structure RpP (k n : Nat) (p : PyData) : Prop where
  lay : p.canLay0 = true
  dep : p.depth ≤ k
  wt : p.weight ≤ n
  lv : p.leavesShort 21 = true
  sh : p.showable = true
  nd : p.hasDict = false
theorem rpP_all {k m : Nat} : ∀ ds : List D, (∀ d ∈ ds, ∃ p, toP d = some p ∧ RpP k m p) → ∃ ps, toPs ds = some ps ∧ PyData.canLayAll0 ps = true ∧ PyData.depthAll ps ≤ k ∧
    PyData.weightAll ps ≤ ds.length * (m + 1) ∧ PyData.leavesShortAll 21 ps = true ∧ PyData.showableAll ps = true ∧ PyData.hasDictAll ps = false
  | [], _ => ⟨[], by simp [toPs], by simp [PyData.canLayAll0], by simp [PyData.depthAll], by simp [PyData.weightAll], by simp [PyData.leavesShortAll], by simp [PyData.showableAll], by simp [PyData.hasDictAll]⟩
  | d :: ds, h => by
    obtain ⟨p, e, r⟩ := h d List.mem_cons_self
    obtain ⟨ps, e2, h1, h2, h3, h4, h5, h6⟩ := rpP_all ds fun x hx => h x (List.mem_cons_of_mem _ hx)
    refine ⟨p :: ps, by simp [toPs, e, e2], by simp [PyData.canLayAll0, r.lay, h1], ?_, ?_, by simp [PyData.leavesShortAll, r.lv, h4], by simp [PyData.showableAll, r.sh, h5], by simp [PyData.hasDictAll, r.nd, h6]⟩
    · simp only [PyData.depthAll]; have := r.dep; omega
    · have := r.wt
      have e : (ds.length + 1) * (m + 1) = ds.length * (m + 1) + (m + 1) := Nat.succ_mul _ _
      simp only [PyData.weightAll, List.length_cons, e]
      omega
theorem Rp.to {k n : Nat} {d : D} (h : Rp k n d) : ∃ p, toP d = some p ∧ RpP k n p := by
  induction h with
  | non k n => exact ⟨_, by simp [toP]; rfl, by simp [PyData.canLay0], by simp [PyData.depth], by simp [PyData.weight], by simp [PyData.leavesShort], by simp [PyData.showable], by simp [PyData.hasDict]⟩
  | bl k n b => exact ⟨_, by simp [toP]; rfl, by simp [PyData.canLay0], by simp [PyData.depth], by simp [PyData.weight], by simp [PyData.leavesShort], by simp [PyData.showable], by simp [PyData.hasDict]⟩
  | @int k n i h hn =>
    have hl : i.natAbs.log2 < 63 := by
      by_cases z : i.natAbs = 0
      · rw [z]; decide
      · exact (Nat.log2_lt z).mpr h
    refine ⟨_, by simp [toP]; rfl, by simp [PyData.canLay0], by simp [PyData.depth], ?_, ?_, ?_, by simp [PyData.hasDict]⟩
    · simp only [PyData.weight]; split <;> omega
    · have := int_text_length_le10 (a := i) (k := 19) (by decide) (by omega)
      have h2 : (PyData.shown (.int i)).length ≤ 21 := by
        show (Str.ofString (toString i)).length ≤ 21
        rw [ofString_length]; omega
      simp only [PyData.leavesShort, decide_eq_true_eq]; exact h2
    · simp only [PyData.showable, decide_eq_true_eq]; omega
  | @str k n s h hn =>
    refine ⟨PyData.str s, by simp [toP], h, by simp [PyData.depth], by simpa [PyData.weight] using hn, ?_, by simp [PyData.showable], by simp [PyData.hasDict]⟩
    exact PyData.leavesShort_of_canLay0 21 (.str s) h (by simp [PyData.intsShort])
  | @lst k m n ds h hn ih =>
    obtain ⟨ps, e2, h1, h2, h3, h4, h5, h6⟩ := rpP_all ds ih
    exact ⟨.list ps, by simp [toP, e2], by simpa [PyData.canLay0] using h1, by simp only [PyData.depth]; omega, by simp only [PyData.weight]; omega, by simpa [PyData.leavesShort] using h4, by simpa [PyData.showable] using h5, by simpa [PyData.hasDict] using h6⟩
  | @tup k m n ds h hn ih =>
    obtain ⟨ps, e2, h1, h2, h3, h4, h5, h6⟩ := rpP_all ds ih
    exact ⟨.tuple ps, by simp [toP, e2], by simpa [PyData.canLay0] using h1, by simp only [PyData.depth]; omega, by simp only [PyData.weight]; omega, by simpa [PyData.leavesShort] using h4, by simpa [PyData.showable] using h5, by simpa [PyData.hasDict] using h6⟩
/-- what repr prints -/
def shw (d : D) : Str := match toP d with
  | some p => p.shown
  | none => ⟨#[]⟩
theorem Rp.repr {k n : Nat} {d : D} (h : Rp k n d) (hk : k ≤ 32) (hn : n ≤ 700000) : cRepr [d] = some (.val (.str (shw d))) := by
  obtain ⟨p, e, r⟩ := h.to
  have h1 := PyData.shown_le 21 (by decide) p r.lv
  have h2 := r.wt
  have h3 := r.dep
  have h4 : p.shown.length ≤ sizeLine := by rw [sizeLine_eq]; omega
  have h5 : p.depth ≤ 32 := by omega
  rw [sl_eq] at h4
  simp [cRepr, shw, e, r.sh, r.nd, h5, h4]
theorem Rp.eqs {k n : Nat} {d : D} (h : Rp k n d) (hk : k ≤ 64) : eqD false d d = some (.val (.bl true)) := by
  obtain ⟨p, e, r⟩ := h.to
  have h1 : SeqAt.shaped p = true := by
    have := r.dep
    simp only [SeqAt.shaped, r.lay, Bool.true_and, decide_eq_true_eq]; omega
  simp [eqD, e, h1, SeqAt.eqv_refl p r.lay]
theorem Rp.nes {k n : Nat} {d : D} (h : Rp k n d) (hk : k ≤ 64) : eqD true d d = some (.val (.bl false)) := by
  obtain ⟨p, e, r⟩ := h.to
  have h1 : SeqAt.shaped p = true := by
    have := r.dep
    simp only [SeqAt.shaped, r.lay, Bool.true_and, decide_eq_true_eq]; omega
  simp [eqD, e, h1, SeqAt.eqv_refl p r.lay]
theorem rp_nil (k n : Nat) : Rp (k + 1) n (.lst []) := .lst (m := 0) (fun _ h => absurd h (by simp)) (by simp)
@[simp] theorem eqD_nil0 : eqD false (.lst []) (.lst []) = some (.val (.bl true)) := (rp_nil 0 0).eqs (by decide)
@[simp] theorem neD_nil0 : eqD true (.lst []) (.lst []) = some (.val (.bl false)) := (rp_nil 0 0).nes (by decide)
theorem Rp.nil {k n : Nat} {ds : List D} (h : Rp k n (.lst ds)) (hk : k ≤ 64) (hd : ds ≠ []) (neg : Bool) : eqD neg (.lst ds) (.lst []) = some (.val (.bl neg)) := by
  cases ds with
  | nil => exact absurd rfl hd
  | cons d ds =>
    obtain ⟨p, e, r⟩ := h.to
    have h1 : SeqAt.shaped p = true := by
      have := r.dep
      simp only [SeqAt.shaped, r.lay, Bool.true_and, decide_eq_true_eq]; omega
    have h2 : SeqAt.shaped (.list []) = true := by decide
    have e2 : toP (.lst []) = some (.list []) := by simp [toP, toPs]
    simp only [toP, toPs] at e
    split at e
    · cases e
      unfold eqD
      simp only [toP, toPs, *, Option.map_some, h1, h2, and_self, if_true]
      cases neg <;> simp [PyData.eqv, PyData.eqvAll]
    · cases e
/-! ints -/
theorem rp_ints (k : Nat) {n : Nat} {xs : List Int} (h : ∀ x ∈ xs, x.natAbs < 2 ^ 63) (hl : xs.length * 65 ≤ n) : Rp (k + 1) n (.lst (xs.map D.int)) :=
  .lst (m := 64) (fun d hd => by
    obtain ⟨x, hx, rfl⟩ := List.mem_map.mp hd
    exact .int k (h x hx) (Nat.le_refl _)) (by simpa using hl)
theorem rp_intsT (k : Nat) {n : Nat} {xs : List Int} (h : ∀ x ∈ xs, x.natAbs < 2 ^ 63) (hl : xs.length * 65 ≤ n) : Rp (k + 1) n (.tup (xs.map D.int)) :=
  .tup (m := 64) (fun d hd => by
    obtain ⟨x, hx, rfl⟩ := List.mem_map.mp hd
    exact .int k (h x hx) (Nat.le_refl _)) (by simpa using hl)
/-- a pair of ints -/
def pr (p : Int × Int) : D := .tup [.int p.1, .int p.2]
theorem rp_pr (k : Nat) {n : Nat} {p : Int × Int} (h : p.1.natAbs < 2 ^ 63 ∧ p.2.natAbs < 2 ^ 63) (hn : 130 ≤ n) : Rp (k + 1) n (pr p) :=
  .tup (m := 64) (fun d hd => by
    simp only [List.mem_cons, List.not_mem_nil, or_false] at hd
    rcases hd with rfl | rfl
    · exact .int k h.1 (Nat.le_refl _)
    · exact .int k h.2 (Nat.le_refl _)) (by simpa using hn)
theorem rp_prs (k : Nat) {n : Nat} {ps : List (Int × Int)} (h : ∀ p ∈ ps, p.1.natAbs < 2 ^ 63 ∧ p.2.natAbs < 2 ^ 63) (hl : ps.length * 131 ≤ n) : Rp (k + 2) n (.lst (ps.map pr)) :=
  .lst (m := 130) (fun d hd => by
    obtain ⟨x, hx, rfl⟩ := List.mem_map.mp hd
    exact rp_pr k (h x hx) (Nat.le_refl _)) (by simpa using hl)
theorem rp_prsT (k : Nat) {n : Nat} {ps : List (Int × Int)} (h : ∀ p ∈ ps, p.1.natAbs < 2 ^ 63 ∧ p.2.natAbs < 2 ^ 63) (hl : ps.length * 131 ≤ n) : Rp (k + 2) n (.tup (ps.map pr)) :=
  .tup (m := 130) (fun d hd => by
    obtain ⟨x, hx, rfl⟩ := List.mem_map.mp hd
    exact rp_pr k (h x hx) (Nat.le_refl _)) (by simpa using hl)
end PL

/-! ML: comprehensions -/
namespace PL
open PySem L2
theorem lcL_pure {i : Nat} {tt : FT} {fe : FE} (E : En) (hE : E[i]? = some none) (c : D → Bool) (h : D → D) : ∀ (ds acc : List D),
    (∀ d ∈ ds, tt (E.set i (some (.fz d))) = .ok (c d, E.set i (some (.fz d))) ∧ (c d = true → fe (E.set i (some (.fz d))) = .ok (.val (h d), E.set i (some (.fz d))))) →
    acc.length + ds.length ≤ 16777216 → lcL (bindD i) tt fe [i] ds acc E = .ok (acc ++ (ds.filter c).map h, E)
  | [], acc, _, _ => by simp [lcL]
  | d :: ds, acc, H, hl => by
    obtain ⟨h1, h2⟩ := H d List.mem_cons_self
    have hb : bindD i d E = .ok (E.set i (some (.fz d))) := by simp [hE]
    have hc : clr (E.set i (some (.fz d))) [i] = E := by
      have hi : i < E.length := (List.getElem?_eq_some_iff.mp hE).1
      have he : E[i] = none := (List.getElem?_eq_some_iff.mp hE).2
      show (E.set i (some (.fz d))).set i none = E
      rw [List.set_set, ← he, List.set_getElem_self]
    simp only [List.length_cons] at hl
    have H' : ∀ d ∈ ds, _ := fun x hx => H x (List.mem_cons_of_mem _ hx)
    by_cases q : c d = true
    · rw [q] at h1
      have hs : acc.length < sizeLine := by rw [sl_eq]; omega
      rw [lcL, hb]
      simp only [Res.bin, h1, h2 q, if_true, hold, hs, hc]
      rw [lcL_pure E hE c h ds (acc ++ [h d]) H' (by simp; omega)]
      simp [q]
    · rw [lcL, hb]
      simp only [Res.bin, h1, q, if_false, Bool.false_eq_true, hc]
      rw [lcL_pure E hE c h ds acc H' (by omega)]
      simp [q]
/-- a comprehension that draws: the items have a law -/
theorem lcL_draw {i : Nat} {fe : FE} (I : En → Prop) (P : D → Prop) : ∀ (ds acc : List D) (E : En), I E → (∀ E, I E → E[i]? = some none ∧ ∀ d ∈ ds, ∃ x E', fe (E.set i (some (.fz d))) = .ok (.val x, E'.set i (some (.fz d))) ∧ P x ∧ I E') →
    acc.length + ds.length ≤ 16777216 → ∃ ys E', lcL (bindD i) tyes fe [i] ds acc E = .ok (acc ++ ys, E') ∧ ys.length = ds.length ∧ (∀ y ∈ ys, P y) ∧ I E'
  | [], acc, E, hE, _, _ => ⟨[], E, by simp [lcL], rfl, by simp, hE⟩
  | d :: ds, acc, E, hE, H, hl => by
    obtain ⟨h0, h1⟩ := H E hE
    obtain ⟨x, E', h2, h3, h4⟩ := h1 d List.mem_cons_self
    have h0' := (H E' h4).1
    have hb : bindD i d E = .ok (E.set i (some (.fz d))) := by simp [h0]
    have hc : clr (E'.set i (some (.fz d))) [i] = E' := by
      have he : E'[i]'(List.getElem?_eq_some_iff.mp h0').1 = none := (List.getElem?_eq_some_iff.mp h0').2
      show (E'.set i (some (.fz d))).set i none = E'
      rw [List.set_set, ← he, List.set_getElem_self]
    simp only [List.length_cons] at hl
    have hs : acc.length < sizeLine := by rw [sl_eq]; omega
    obtain ⟨ys, E2, h5, h6, h7, h8⟩ := lcL_draw I P ds (acc ++ [x]) E' h4 (fun E hE => ⟨(H E hE).1, fun d hd => (H E hE).2 d (List.mem_cons_of_mem _ hd)⟩) (by simp; omega)
    refine ⟨x :: ys, E2, ?_, by simp [h6], ?_, h8⟩
    · rw [lcL, hb]
      simp only [Res.bin, x_tyes, h2, if_true, hold, hs, hc, h5, List.append_assoc, List.singleton_append]
    · intro y hy
      rcases List.mem_cons.mp hy with rfl | hy
      · exact h3
      · exact h7 y hy
@[simp] theorem x_vlc (env : En) (it : FI) (tg : FG) (tt : FT) (fe : FE) (vs : List Nat) : vlc it tg tt fe vs env = (it env).bind fun p => if plainS p.2 vs = true then (lcL tg tt fe vs p.1 [] (clr p.2 vs)).bin fun r => .ok (.new (.lst r.1), rst p.2 r.2 vs) else .no := rfl
@[simp] theorem x_clr (env : En) (i : Nat) : clr env [i] = env.set i none := rfl
@[simp] theorem x_rst (e0 e : En) (i : Nat) : rst e0 e [i] = e.set i (match e0[i]? with
    | some x => x
    | none => none) := rfl
@[simp] theorem x_plainS (env : En) (i : Nat) : plainS env [i] = okC env[i]? := by
  simp only [plainS, List.all_cons, List.all_nil, Bool.and_true]
  cases env[i]? with
  | none => rfl
  | some x => cases x with
    | none => rfl
    | some y => cases y <;> rfl
theorem sseq_nx {f g : FS} {env e : En} (h : f env = .nx e) : sseq f g env = g e := by simp only [sseq, h]
theorem runF_rt {n : Nat} {g : FS} {args : List Sl} {r : Sl} {e E : En} {ms : List (Option O)} (hE : PL.callEnv args n = E) (h : g E = .rt r e) (hm : muts args e = ms) : runF n g args = .ok r ms := by
  subst hE; subst hm; simp only [runF, h]
/-- a list over the first numbers -/
theorem dints_0 (n : Nat) : dints 0 n = (List.range n).map fun (k : Nat) => D.int (k : Int) := by simp [dints]
end PL

namespace Lw
open PySem L2 PL Mi
/-- one number of a feed -/
def tkD (a b m : Int) : Int := if 0 < a then a % m else (b * 6364136223846793005 + 1442695040888963407) % 2305843009213693951 / 65536 % m
def tkA (a b m : Int) : Int := if 0 < a then a / m else a
def tkB (a b m : Int) : Int := if 0 < a then b else (b * 6364136223846793005 + 1442695040888963407) % 2305843009213693951
theorem tk_lo (a b : Int) {m : Int} (h : 0 < m) : 0 ≤ tkD a b m := by
  unfold tkD; split <;> exact Int.emod_nonneg _ (by omega)
theorem tk_hi (a b : Int) {m : Int} (h : 0 < m) : tkD a b m < m := by
  unfold tkD; split <;> exact Int.emod_lt_of_pos _ h
abbrev FD (a b : Int) : O := .lst [.int a, .int b]
theorem l_take (a b m : Int) (h : 0 < m) (h2 : m < 18446744073709551616) : f__law_take [.mu (FD a b), .fz (.int m)] = .ok (.fz (.int (tkD a b m))) [some (FD (tkA a b m) (tkB a b m)), none] := by
  have d1 : Dk m := ⟨h, h2⟩
  have d2 : Dk 65536 := dk_of (by decide) (by decide)
  have d3 : Mk 6364136223846793005 := mk_of (by decide) (by decide)
  by_cases c : 0 < a
  · simp [f__law_take, runF, m__law_take, PL.callEnv, c, h, d1, d2, d3, ixN, tkD, tkA, tkB]
  · simp [f__law_take, runF, m__law_take, PL.callEnv, c, h, d1, d2, d3, ixN, tkD, tkA, tkB]
theorem l_contains (a b c d : Int) : f_contains [.fz (.tup [.int a, .int b]), .fz (.tup [.int c, .int d])] = .ok (.fz (.bl (decide (a ≤ c ∧ d ≤ b)))) [none, none] := by
  by_cases h : a ≤ c <;> simp [f_contains, runF, m_contains, PL.callEnv, h]
theorem l_holds (a b c d : Int) : f__law_holds [.fz (.tup [.int a, .int b]), .fz (.tup [.int c, .int d])] = .ok (.fz (.bl (decide (a ≤ c ∧ d ≤ b)))) [none, none] := by
  by_cases h : a ≤ c <;> simp [f__law_holds, runF, m__law_holds, PL.callEnv, h]
theorem l_range_of (a b : Int) : f_range_of [.fz (.int a), .fz (.int b)] = .ok (.fz (.tup [.int (min a b), .int (max a b)])) [none, none] := by
  simp [f_range_of, runF, m_range_of, PL.callEnv]
theorem l__law_range (a b : Int) : f__law_range [.fz (.int a), .fz (.int b)] = .ok (.fz (.tup [.int (min a b), .int (max a b)])) [none, none] := by
  simp [f__law_range, runF, m__law_range, PL.callEnv]
/-- a turning point between -/
def turns (b a r : Int) : Bool := !(decide (b < a) && decide (a < r)) && !(decide (a < b) && decide (r < a))
theorem l_is_turning (b a r : Int) : f_is_turning [.fz (.int b), .fz (.int a), .fz (.int r)] = .ok (.fz (.bl (turns b a r))) [none, none, none] := by
  by_cases h : b < a <;> by_cases h1 : a < r <;> by_cases h2 : a < b <;> by_cases h3 : r < a <;> simp [f_is_turning, runF, m_is_turning, PL.callEnv, h, h1, h2, h3, turns]
/-- turning points so far, the last one first -/
def tpS (s : List Int) (r : Int) : List Int := match s with
  | [] => [r]
  | [a] => if r = a then [a] else [r, a]
  | a :: b :: s => if r = a then a :: b :: s else if turns b a r = true then r :: a :: b :: s else r :: b :: s
def tp (xs : List Int) : List Int := (xs.foldl tpS []).reverse
theorem tpS_len (s : List Int) (r : Int) : (tpS s r).length ≤ s.length + 1 := by
  unfold tpS; (repeat' split) <;> simp
theorem tpS_mem {s : List Int} {r x : Int} (h : x ∈ tpS s r) : x ∈ s ∨ x = r := by
  unfold tpS at h
  (repeat' split at h) <;> simp only [List.mem_cons, List.not_mem_nil, or_false] at h ⊢ <;> grind
theorem tp_loop (L : D) : ∀ (xs s : List Int) (x2 : Option Sl), okB (some x2) = true → s.length + xs.length < 16777216 → (∀ x ∈ s ++ xs, x.natAbs < 2 ^ 63) → ∃ x2', okB (some x2') = true ∧
    forL (bindD 2) m_turning_points_1 (xs.map D.int) [some (.fz L), some (.ow (.lst (s.map D.int).reverse)), x2] = .nx [some (.fz L), some (.ow (.lst ((xs.foldl tpS s).map D.int).reverse)), x2'] := by
  intro xs
  induction xs with
  | nil => intro s x2 h _ _; exact ⟨x2, h, rfl⟩
  | cons r xs ih =>
    intro s x2 h hl hs0
    have hs : ∀ x ∈ s, x.natAbs < 2 ^ 63 := fun x hx => hs0 x (List.mem_append_left _ hx)
    have hs1 : ∀ x ∈ tpS s r ++ xs, x.natAbs < 2 ^ 63 := fun x hx => by
      rcases List.mem_append.mp hx with hx | hx
      · rcases tpS_mem hx with hx | hx
        · exact hs x hx
        · exact hs0 x (by simp [hx])
      · exact hs0 x (by simp [hx])
    have key : ∃ e, ((bindD 2 (.int r) [some (.fz L), some (.ow (.lst (s.map D.int).reverse)), x2]) = .ok [some (.fz L), some (.ow (.lst (s.map D.int).reverse)), some (.fz (.int r))]) ∧
        (m_turning_points_1 [some (.fz L), some (.ow (.lst (s.map D.int).reverse)), some (.fz (.int r))] = .nx e ∨ m_turning_points_1 [some (.fz L), some (.ow (.lst (s.map D.int).reverse)), some (.fz (.int r))] = .ct e) ∧
        e = [some (.fz L), some (.ow (.lst ((tpS s r).map D.int).reverse)), some (.fz (.int r))] := by
      refine ⟨_, by simp [h], ?_, rfl⟩
      match s, hl, hs with
      | [], hl, hs => left; simp [m_turning_points_1, tpS]
      | [a], hl, hs =>
        have z : ∀ neg, eqD neg (.lst [.int a]) (.lst []) = some (.val (.bl neg)) := fun neg => Rp.nil (rp_ints 0 (xs := [a]) (by simpa using hs) (Nat.le_refl _)) (by decide) (by simp) neg
        by_cases q : r = a
        · right; simp [m_turning_points_1, tpS, q, z]
        · left; simp [m_turning_points_1, tpS, q, z]
      | a :: b :: s, hl, hs =>
        have z : ∀ neg, eqD neg (.lst ((s.map D.int).reverse ++ [.int b, .int a])) (.lst []) = some (.val (.bl neg)) := fun neg => by
          have := Rp.nil (rp_ints 0 (xs := (a :: b :: s).reverse) (n := (a :: b :: s).reverse.length * 65) (by simpa [or_comm, or_left_comm, or_assoc] using hs) (Nat.le_refl _)) (by decide) (by simp) neg
          simpa using this
        simp only [List.length_cons] at hl
        have g1 : s.length + 2 < 16777216 := by omega
        have g2 : (1 : Int) < (s.length : Int) + 2 := by omega
        have g3 : s.length + 1 < 16777216 := by omega
        by_cases q : r = a
        · right; simp [m_turning_points_1, tpS, q, z]
        · by_cases t : turns b a r = true
          · left; simp [m_turning_points_1, tpS, q, t, z, l_is_turning, g1, g2, g3]
          · left; simp [m_turning_points_1, tpS, q, t, z, l_is_turning, g1, g2, g3]
    obtain ⟨e, h1, h2, rfl⟩ := key
    have hl' : (tpS s r).length + xs.length < 16777216 := by
      have := tpS_len s r; simp at hl; omega
    obtain ⟨x2', h3, h4⟩ := ih (tpS s r) (some (.fz (.int r))) rfl hl' hs1
    refine ⟨x2', h3, ?_⟩
    simp only [List.map_cons, forL, h1, Res.go]
    rcases h2 with h2 | h2 <;> rw [h2] <;> exact h4
end Lw

namespace Lw
open PySem L2 PL Mi
theorem l_tp {L : D} {xs : List Int} (hL : L = .lst (xs.map D.int) ∨ L = .tup (xs.map D.int)) (hl : xs.length < 16777216) (hb : ∀ x ∈ xs, x.natAbs < 2 ^ 63) :
    f_turning_points [.fz L] = .ok (.fz (.tup ((tp xs).map D.int))) [none] := by
  obtain ⟨x2, h1, h2⟩ := tp_loop L xs [] none rfl (by simpa using hl) (by simpa using hb)
  simp only [List.map_nil, List.reverse_nil] at h2
  rcases hL with rfl | rfl <;> simp [f_turning_points, runF, m_turning_points, PL.callEnv, h2, tp]
/-- neighbours that differ -/
def ddS (s : List Int) (r : Int) : List Int := match s with
  | [] => [r]
  | a :: s => if r = a then a :: s else r :: a :: s
def dd (xs : List Int) : List Int := (xs.foldl ddS []).reverse
theorem ddS_head (s : List Int) (r : Int) : (ddS s r).head? = some r := by
  unfold ddS; (repeat' split) <;> simp_all
theorem tpS_head (s : List Int) (r : Int) : (tpS s r).head? = some r := by
  unfold tpS; (repeat' split) <;> simp_all
theorem tp_dd0 : ∀ (xs s t : List Int), s.head? = t.head? → t.reverse.foldl tpS [] = s → xs.foldl tpS s = ((xs.foldl ddS t).reverse).foldl tpS []
  | [], s, t, _, h => h.symm
  | r :: xs, s, t, h1, h2 => by
    simp only [List.foldl_cons]
    refine tp_dd0 xs (tpS s r) (ddS t r) ((tpS_head s r).trans (ddS_head t r).symm) ?_
    cases t with
    | nil =>
      cases s with
      | nil => rfl
      | cons a s => simp at h1
    | cons b t =>
      cases s with
      | nil => simp at h1
      | cons a s =>
        simp only [List.head?_cons, Option.some.injEq] at h1
        subst h1
        by_cases q : r = a
        · subst q
          simp only [ddS, if_true, h2]
          unfold tpS; cases s <;> simp
        · simp only [ddS, if_neg q, List.reverse_cons (a := r), List.foldl_append, h2, List.foldl_cons, List.foldl_nil]
theorem tp_dd (xs : List Int) : tp (dd xs) = tp xs := by
  unfold tp dd
  rw [tp_dd0 xs [] [] rfl rfl]
/-- the law's own way to keep the readings that differ -/
def cP (xs : List Int) (k : Nat) : Bool := decide (k = 0) || !decide (xs.getD k 0 = xs.getD (k - 1) 0)
theorem once_eq (xs : List Int) : ((List.range xs.length).filter (cP xs)).map (xs.getD · 0) = dd xs := by
  have go : ∀ m, m ≤ xs.length → ((List.range m).filter (cP xs)).map (xs.getD · 0) = ((xs.take m).foldl ddS []).reverse ∧ (0 < m → ((xs.take m).foldl ddS []).head? = some (xs.getD (m - 1) 0)) := by
    intro m
    induction m with
    | zero => intro _; exact ⟨by simp, by simp⟩
    | succ m ih =>
      intro h
      obtain ⟨h1, h2⟩ := ih (by omega)
      have ht : xs.take (m + 1) = xs.take m ++ [xs.getD m 0] := by
        rw [List.take_add_one, gd (by omega)]; rfl
      rw [ht, List.foldl_append, List.range_succ, List.filter_append, List.map_append, h1]
      simp only [List.foldl_cons, List.foldl_nil]
      refine ⟨?_, fun _ => ddS_head _ _⟩
      cases m with
      | zero => simp [cP, ddS]
      | succ m =>
        have h3 := h2 (by omega)
        cases hs : (xs.take (m + 1)).foldl ddS [] with
        | nil => rw [hs] at h3; simp at h3
        | cons a s =>
          rw [hs] at h3
          simp only [List.head?_cons, Option.some.injEq, Nat.add_sub_cancel] at h3
          subst h3
          by_cases q : xs.getD (m + 1) 0 = xs.getD m 0
          · have c1 : cP xs (m + 1) = false := by simp only [cP, Nat.add_sub_cancel, q]; simp
            simp only [List.filter_cons, c1, ddS, List.filter_nil, if_pos q, Bool.false_eq_true, if_false, List.map_nil, List.append_nil]
          · have c1 : cP xs (m + 1) = true := by simp only [cP, Nat.add_sub_cancel, q]; simp
            simp only [List.filter_cons, c1, ddS, List.filter_nil, if_neg q, if_true, List.map_nil, List.map_cons, List.reverse_cons (a := xs.getD (m + 1) 0)]
  have := (go xs.length (Nat.le_refl _)).1
  rwa [List.take_length] at this
/-- neighbours differ -/
def Nb (o : List Int) : Prop := ∀ j, j + 1 < o.length → o.getD j 0 ≠ o.getD (j + 1) 0
theorem nb_dd (xs : List Int) : Nb (dd xs) := by
  have go : ∀ (xs s : List Int), (∀ a b t u, s = t ++ a :: b :: u → a ≠ b) → ∀ a b t u, xs.foldl ddS s = t ++ a :: b :: u → a ≠ b := by
    intro xs
    induction xs with
    | nil => intro s h; exact h
    | cons r xs ih =>
      intro s h
      refine ih _ ?_
      intro a b t u e
      unfold ddS at e
      split at e
      · cases t <;> simp at e
      · rename_i c s
        split at e
        · exact h a b t u e
        · rename_i q
          cases t with
          | nil => simp at e; obtain ⟨rfl, rfl, _⟩ := e; exact q
          | cons x t => simp at e; exact h a b t u e.2
  intro j hj
  have e : dd xs = (dd xs).take j ++ (dd xs).getD j 0 :: (dd xs).getD (j + 1) 0 :: (dd xs).drop (j + 2) := by
    have e1 : (dd xs).drop j = (dd xs).getD j 0 :: (dd xs).drop (j + 1) := by
      rw [List.drop_eq_getElem_cons (by omega)]; simp [show j < (dd xs).length by omega]
    have e2 : (dd xs).drop (j + 1) = (dd xs).getD (j + 1) 0 :: (dd xs).drop (j + 2) := by
      rw [List.drop_eq_getElem_cons (by omega)]; simp [hj]
    rw [← e2, ← e1, List.take_append_drop]
  have e3 := congrArg List.reverse e
  rw [show (dd xs).reverse = xs.foldl ddS [] by simp [dd]] at e3
  simp only [List.reverse_append, List.reverse_cons, List.append_assoc, List.cons_append, List.nil_append] at e3
  exact (go xs [] (fun a b t u h => by cases t <;> simp at h) _ _ _ _ e3).symm
/-- a reading between two that is a turning point -/
def tn (o : List Int) (j : Nat) : Bool := decide (o.getD (j - 1) 0 < o.getD j 0) == decide (o.getD (j + 1) 0 < o.getD j 0)
theorem st (o : List Int) (hd : Nb o) : ∀ k, k + 1 < o.length → ∃ b s, (o.take (k + 2)).foldl tpS [] = o.getD (k + 1) 0 :: b :: s ∧
    (b :: s).reverse = o.take 1 ++ ((List.range' 1 k).filter (tn o)).map (o.getD · 0) ∧ (b < o.getD (k + 1) 0 ↔ o.getD k 0 < o.getD (k + 1) 0) ∧ b ≠ o.getD (k + 1) 0 := by
  have ht : ∀ m, m < o.length → o.take (m + 1) = o.take m ++ [o.getD m 0] := fun m h => by
    rw [List.take_add_one, gd h]; rfl
  intro k
  induction k with
  | zero =>
    intro h
    have hne := hd 0 h
    refine ⟨o.getD 0 0, [], ?_, ?_, by simp, hne⟩
    · rw [ht 1 h, ht 0 (by omega)]
      have : ¬ o.getD 1 0 = o.getD 0 0 := fun e => hne e.symm
      simp only [List.take_zero, List.nil_append, List.singleton_append, List.foldl_cons, List.foldl_nil, tpS, if_neg this, Nat.zero_add]
    · rw [ht 0 (by omega)]; simp
  | succ k ih =>
    intro h
    obtain ⟨b, s, h1, h2, h3, h4⟩ := ih (by omega)
    have hne := hd (k + 1) h
    have hne0 := hd k (by omega)
    have q : ¬ o.getD (k + 2) 0 = o.getD (k + 1) 0 := fun e => hne e.symm
    rw [ht (k + 2) h, List.foldl_append, h1]
    simp only [List.foldl_cons, List.foldl_nil, tpS, if_neg q]
    have hr : List.range' 1 (k + 1) = List.range' 1 k ++ [k + 1] := by
      rw [List.range'_concat]; simp [Nat.add_comm]
    rw [hr, List.filter_append, List.map_append]
    by_cases t : turns b (o.getD (k + 1) 0) (o.getD (k + 2) 0) = true
    · have t2 : tn o (k + 1) = true := by
        simp only [turns, Bool.and_eq_true, Bool.not_eq_true', Bool.and_eq_false_iff, decide_eq_false_iff_not] at t
        show (decide (o.getD k 0 < o.getD (k + 1) 0) == decide (o.getD (k + 2) 0 < o.getD (k + 1) 0)) = true
        simp only [beq_iff_eq, decide_eq_decide]
        omega
      refine ⟨o.getD (k + 1) 0, b :: s, by rw [if_pos t], ?_, by simp, hne⟩
      rw [List.reverse_cons, h2]
      simp [t2]
    · have t2 : tn o (k + 1) = false := by
        simp only [turns, Bool.and_eq_true, Bool.not_eq_true', Bool.and_eq_false_iff, decide_eq_false_iff_not] at t
        show (decide (o.getD k 0 < o.getD (k + 1) 0) == decide (o.getD (k + 2) 0 < o.getD (k + 1) 0)) = false
        simp only [beq_eq_false_iff_ne, ne_eq, decide_eq_decide]
        omega
      refine ⟨b, s, by rw [if_neg t], ?_, ?_, ?_⟩
      · rw [h2]; simp [t2]
      · simp only [turns, Bool.and_eq_true, Bool.not_eq_true', Bool.and_eq_false_iff, decide_eq_false_iff_not] at t
        show b < o.getD (k + 2) 0 ↔ o.getD (k + 1) 0 < o.getD (k + 2) 0
        omega
      · simp only [turns, Bool.and_eq_true, Bool.not_eq_true', Bool.and_eq_false_iff, decide_eq_false_iff_not] at t
        show b ≠ o.getD (k + 2) 0
        omega
theorem pts_eq (o : List Int) (hd : Nb o) : o.take 1 ++ ((List.range' 1 (o.length - 2)).filter (tn o)).map (o.getD · 0) ++ o.drop (o.length - (if 1 < o.length then 1 else 0)) = tp o := by
  match o, hd with
  | [], _ => rfl
  | [a], _ => rfl
  | a :: b :: o, hd =>
    obtain ⟨b', s, h1, h2, _, _⟩ := st (a :: b :: o) hd o.length (by simp)
    have e : (a :: b :: o).take (o.length + 2) = a :: b :: o := List.take_length (l := a :: b :: o)
    rw [e] at h1
    have e2 : (a :: b :: o).length - 2 = o.length := by simp
    rw [e2, ← h2]
    unfold tp
    rw [h1]
    rw [if_pos (by simp), List.reverse_cons (a := (a :: b :: o).getD (o.length + 1) 0)]
    congr 1
    rw [List.drop_eq_getElem_cons (by simp)]
    simp
end Lw

namespace Lw
open PySem L2 PL Mi
abbrev IL (xs : List Int) : D := .lst (xs.map D.int)
abbrev IT (xs : List Int) : D := .tup (xs.map D.int)
theorem once_loop (xs : List Int) (hl : xs.length < 16777216) : lcL (bindD 2) m__law_points_1 m__law_points_2 [2] (dints 0 xs.length) [] [some (.fz (IL xs)), none, none, none] =
    .ok ((dd xs).map D.int, [some (.fz (IL xs)), none, none, none]) := by
  have h := lcL_pure (i := 2) (tt := m__law_points_1) (fe := m__law_points_2) [some (.fz (IL xs)), none, none, none] rfl
    (fun d => match d with | .int k => cP xs k.toNat | _ => false) (fun d => match d with | .int k => .int (xs.getD k.toNat 0) | _ => .non) (dints 0 xs.length) [] ?_ (by simp [dints]; omega)
  · rw [h, ← once_eq, dints_0]
    simp only [List.filter_map, List.map_map, List.nil_append]
    rfl
  · intro d hd
    rw [dints_0] at hd
    obtain ⟨k, hk, rfl⟩ := List.mem_map.mp hd
    have hk := List.mem_range.mp hk
    have g := gd hk
    constructor
    · cases k with
      | zero => simp [m__law_points_1, cP]
      | succ k =>
        have g' := gd (show k < xs.length by omega)
        simp [m__law_points_1, cP, atI_cast, atI_s, hk, show k < xs.length by omega]
        omega
    · intro _
      simp [m__law_points_2, atI_cast, hk]
theorem pt_loop (L : D) (o : List Int) (hlo : o.length < 16777216) : ∀ (m k : Nat) (f : List Int) (x : Option Sl), okB (some x) = true → k + 1 + m + 1 ≤ o.length → f.length + m < 16777216 → ∃ x', okB (some x') = true ∧
    forL (bindD 2) m__law_points_3 ((List.range' (k + 1) m).map fun (j : Nat) => D.int (j : Int)) [some (.fz L), some (.ow (.lst (o.map D.int))), x, some (.ow (.lst (f.map D.int)))] =
      .nx [some (.fz L), some (.ow (.lst (o.map D.int))), x', some (.ow (.lst ((f ++ ((List.range' (k + 1) m).filter (tn o)).map (o.getD · 0)).map D.int)))]
  | 0, k, f, x, h, _, _ => ⟨x, h, by simp⟩
  | m + 1, k, f, x, h, h1, h2 => by
    have a1 : k < o.length := by omega
    have a2 : k + 1 < o.length := by omega
    have a3 : k + 2 < o.length := by omega
    have e : m__law_points_3 [some (.fz L), some (.ow (.lst (o.map D.int))), some (.fz (.int ((k + 1 : Nat) : Int))), some (.ow (.lst (f.map D.int)))] =
        .nx [some (.fz L), some (.ow (.lst (o.map D.int))), some (.fz (.int ((k + 1 : Nat) : Int))), some (.ow (.lst ((f ++ (if tn o (k + 1) = true then [o.getD (k + 1) 0] else [])).map D.int)))] := by
      have g : f.length < 16777216 := by omega
      have t : tn o (k + 1) = (decide (o[k] < o[k + 1]) == decide (o[k + 2] < o[k + 1])) := by simp [tn, a1, a2, a3]
      by_cases c : tn o (k + 1) = true
      · have c' := c
        rw [t] at c'
        simp only [beq_iff_eq] at c'
        simp [m__law_points_3, atI_cast, atI_s, atI_ss, a1, a2, a3, g, c, c']
      · have c' := c
        rw [t] at c'
        simp only [beq_iff_eq] at c'
        simp [m__law_points_3, atI_cast, atI_s, atI_ss, a1, a2, a3, g, c, c']
    obtain ⟨x', h3, h4⟩ := pt_loop L o hlo m (k + 1) (f ++ (if tn o (k + 1) = true then [o.getD (k + 1) 0] else [])) (some (.fz (.int ((k + 1 : Nat) : Int)))) rfl (by omega) (by split <;> simp <;> omega)
    refine ⟨x', h3, ?_⟩
    have eb : bindD 2 (D.int ((k + 1 : Nat) : Int)) [some (.fz L), some (.ow (.lst (o.map D.int))), x, some (.ow (.lst (f.map D.int)))] = .ok [some (.fz L), some (.ow (.lst (o.map D.int))), some (.fz (.int ((k + 1 : Nat) : Int))), some (.ow (.lst (f.map D.int)))] := by simp [h]
    rw [List.range'_succ, List.map_cons]
    simp only [forL, eb, Res.go, e, h4]
    by_cases c : tn o (k + 1) = true
    · simp [c]
    · simp [c]
theorem dints_1 (n : Nat) : dints 1 n = (List.range' (0 + 1) n).map fun (j : Nat) => D.int (j : Int) := by
  rw [List.range'_eq_map_range]; simp [dints]
theorem cut_hd (ds : List D) : cut ds none (some 1) = ds.take 1 := by
  cases ds <;> simp [cut, HT.sIx]
theorem cut_tl (ds : List D) (k : Nat) (h : k ≤ ds.length) : cut ds (some (k : Int)) none = ds.drop k := by
  have : ¬ ((k : Int) < 0) := by omega
  simp only [cut, HT.sIx, if_neg this, Int.toNat_natCast, Nat.min_eq_left h]
  rw [List.take_of_length_le (by simp)]
theorem dd_len (xs : List Int) : (dd xs).length ≤ xs.length := by
  rw [← once_eq]; simp only [List.length_map]
  exact Nat.le_trans (List.length_filter_le _ _) (by simp)
theorem l_points {xs : List Int} (hl : xs.length ≤ 1000000) : f__law_points [.fz (IL xs)] = .ok (.ow (.lst ((tp xs).map D.int))) [none] := by
  have h1 := once_loop xs (by omega)
  have ho := nb_dd xs
  have hol := dd_len xs
  rw [← tp_dd xs]
  generalize dd xs = o at h1 ho hol
  have hf : (o.take 1).length ≤ 1 := by simp; omega
  obtain ⟨x', hx, h2⟩ : ∃ x', okB (some x') = true ∧ forL (bindD 2) m__law_points_3 (dints 1 (o.length - 2)) [some (.fz (IL xs)), some (.ow (.lst (o.map D.int))), none, some (.ow (.lst ((o.take 1).map D.int)))] = .nx [some (.fz (IL xs)), some (.ow (.lst (o.map D.int))), x', some (.ow (.lst ((o.take 1 ++ ((List.range' 1 (o.length - 2)).filter (tn o)).map (o.getD · 0)).map D.int)))] := by
    by_cases c : 2 ≤ o.length
    · rw [dints_1]
      exact pt_loop (IL xs) o (by omega) (o.length - 2) 0 (o.take 1) none rfl (by omega) (by omega)
    · have e : o.length - 2 = 0 := by omega
      rw [e]
      exact ⟨none, rfl, by simp [dints]⟩
  have h3 := pts_eq o ho
  have ht : ((o.length : Int) - 1 - 1).toNat = o.length - 2 := by omega
  have g1 : Rk (xs.length : Int) := rk_nat (by omega)
  have g2 : Rk ((o.length : Int) - 1) := rk_of (by omega) (by omega)
  have g3 : Rk 1 := rk_of (by decide) (by decide)
  rw [show (o.take 1).map D.int = cut (o.map D.int) none (some 1) by rw [cut_hd, List.map_take]] at h2
  obtain ⟨F, hF⟩ : ∃ F, F = o.take 1 ++ ((List.range' 1 (o.length - 2)).filter (tn o)).map (o.getD · 0) := ⟨_, rfl⟩
  have hFl : F.length ≤ o.length + 1 := by
    rw [hF, List.length_append, List.length_map]
    have := List.length_filter_le (tn o) (List.range' 1 (o.length - 2))
    simp only [List.length_range'] at this
    omega
  rw [← hF] at h2 h3
  have key : m__law_points [some (.fz (IL xs)), none, none, none] = .rt (.ow (.lst ((tp o).map D.int))) [some (.fz (IL xs)), some (.ow (.lst (o.map D.int))), x', some (.ow (.lst (F.map D.int)))] := by
    unfold m__law_points
    refine (sseq_nx (e := [some (.fz (IL xs)), some (.ow (.lst (o.map D.int))), none, none]) ?_).trans ?_
    · simp [h1, g1]
    refine (sseq_nx (e := [some (.fz (IL xs)), some (.ow (.lst (o.map D.int))), none, some (.ow (.lst (cut (o.map D.int) none (some 1))))]) ?_).trans ?_
    · simp
    refine (sseq_nx (e := [some (.fz (IL xs)), some (.ow (.lst (o.map D.int))), x', some (.ow (.lst (F.map D.int)))]) ?_).trans ?_
    · simp [h2, ht, g2, g3]
    by_cases c : 1 < o.length
    · have c' : (1 : Int) < (o.length : Int) := by omega
      rw [if_pos c] at h3
      have g5 : (o.length : Int) - 1 = ((o.length - 1 : Nat) : Int) := by omega
      have g6 : cut (o.map D.int) (some ((o.length : Int) - 1)) none = (o.map D.int).drop (o.length - 1) := by
        rw [g5]; exact cut_tl (o.map D.int) (o.length - 1) (by simp)
      have g7 : F.length + (o.length - (o.length - 1)) ≤ 16777216 := by omega
      have g8 : F.map D.int ++ (o.map D.int).drop (o.length - 1) = (tp o).map D.int := by rw [← h3]; simp
      simp [c', g6, g7, g8]
    · have c' : ¬ (1 : Int) < (o.length : Int) := by omega
      rw [if_neg c] at h3
      have g6 : cut (o.map D.int) (some (o.length : Int)) none = (o.map D.int).drop o.length := cut_tl (o.map D.int) o.length (by simp)
      have g9 : (tp o).length ≤ 16777216 := by rw [← h3]; simp; omega
      have g10 : (o.map D.int).drop o.length = [] := List.drop_eq_nil_iff.mpr (by simp)
      have g8 : F.map D.int = (tp o).map D.int := by rw [← h3]; simp
      simp [c', g6, g9, g10, g8]
  exact runF_rt (n := 4) (g := m__law_points) rfl key rfl
end Lw

namespace Lw
open PySem L2 PL Mi
theorem tpF_len : ∀ (xs s : List Int), (xs.foldl tpS s).length ≤ s.length + xs.length
  | [], s => by simp
  | r :: xs, s => by
    have := tpF_len xs (tpS s r)
    have := tpS_len s r
    simp only [List.foldl_cons, List.length_cons]; omega
theorem tp_len (xs : List Int) : (tp xs).length ≤ xs.length := by
  have := tpF_len xs []
  simpa [tp] using this
theorem tpF_mem : ∀ (xs s : List Int) (x : Int), x ∈ xs.foldl tpS s → x ∈ s ∨ x ∈ xs
  | [], s, x, h => .inl h
  | r :: xs, s, x, h => by
    rcases tpF_mem xs (tpS s r) x h with h | h
    · rcases tpS_mem h with h | h
      · exact .inl h
      · exact .inr (by simp [h])
    · exact .inr (by simp [h])
theorem tp_mem {xs : List Int} {x : Int} (h : x ∈ tp xs) : x ∈ xs := by
  rcases tpF_mem xs [] x (by simpa [tp] using h) with h | h
  · simp at h
  · exact h
/-- a row of turning points, the last one first -/
def Gd : List Int → Prop
  | [] => True
  | [_] => True
  | [b, a] => b ≠ a
  | r :: a :: b :: s => r ≠ a ∧ turns b a r = true ∧ Gd (a :: b :: s)
theorem Gd.tail {r : Int} {s : List Int} (h : Gd (r :: s)) : Gd s := by
  match s, h with
  | [], _ => trivial
  | [a], _ => trivial
  | a :: b :: s, h => exact h.2.2
theorem Gd.ne {r a : Int} {s : List Int} (h : Gd (r :: a :: s)) : r ≠ a := by
  match s, h with
  | [], h => exact h
  | b :: s, h => exact h.1
theorem gd_tpS {s : List Int} {r : Int} (h : Gd s) : Gd (tpS s r) := by
  match s, h with
  | [], _ => trivial
  | [a], _ =>
    by_cases q : r = a
    · simp [tpS, q, Gd]
    · simp [tpS, q, Gd]
  | a :: b :: s, h =>
    by_cases q : r = a
    · simpa [tpS, q] using h
    · by_cases t : turns b a r = true
      · simp only [tpS, if_neg q, if_pos t]
        exact ⟨q, t, h⟩
      · simp only [tpS, if_neg q, if_neg t]
        have hab := h.ne
        simp only [turns, Bool.and_eq_true, Bool.not_eq_true', Bool.and_eq_false_iff, decide_eq_false_iff_not] at t
        match s, h with
        | [], _ => show r ≠ b; omega
        | c :: s, h =>
          obtain ⟨_, h2, h3⟩ := h
          have hbc := h3.ne
          refine ⟨by omega, ?_, h3⟩
          simp only [turns, Bool.and_eq_true, Bool.not_eq_true', Bool.and_eq_false_iff, decide_eq_false_iff_not] at h2 ⊢
          omega
theorem gd_fold : ∀ (xs s : List Int), Gd s → Gd (xs.foldl tpS s)
  | [], _, h => h
  | r :: xs, s, h => gd_fold xs _ (gd_tpS h)
theorem gd_self : ∀ s : List Int, Gd s → s.reverse.foldl tpS [] = s
  | [], _ => rfl
  | r :: s, h => by
    rw [List.reverse_cons, List.foldl_append, gd_self s h.tail]
    simp only [List.foldl_cons, List.foldl_nil]
    match s, h with
    | [], _ => rfl
    | [a], h => simp only [tpS, if_neg (show ¬ r = a from h)]
    | a :: b :: s, h => simp only [tpS, if_neg h.1, if_pos h.2.1]
theorem tp_tp (xs : List Int) : tp (tp xs) = tp xs := by
  unfold tp
  rw [gd_self _ (gd_fold xs [] trivial)]
theorem tpF_last (xs : List Int) (r : Int) : ((xs ++ [r]).foldl tpS []).head? = some r := by
  rw [List.foldl_append]; exact tpS_head _ _
theorem tp_last (xs : List Int) : tp (xs ++ xs.drop (xs.length - 1)) = tp xs := by
  rcases List.eq_nil_or_concat xs with rfl | ⟨ys, r, rfl⟩
  · rfl
  · have e : (ys ++ [r]).drop ((ys ++ [r]).length - 1) = [r] := by simp
    rw [List.concat_eq_append, e]
    unfold tp
    rw [List.foldl_append (l := ys ++ [r])]
    have h := tpF_last ys r
    cases hs : (ys ++ [r]).foldl tpS [] with
    | nil => rw [hs] at h; simp at h
    | cons a s =>
      rw [hs] at h
      simp only [List.head?_cons, Option.some.injEq] at h
      subst h
      cases s <;> simp [tpS]
/-- the ranges of neighbours -/
def sw (p : List Int) : List (Int × Int) := (List.range (p.length - 1)).map fun k => (min (p.getD k 0) (p.getD (k + 1) 0), max (p.getD k 0) (p.getD (k + 1) 0))
theorem sw_loop {i : Nat} {fe : FE} (p : List Int) (E : En) (hE : E[i]? = some none) (hp : p.length ≤ 16777216)
    (H : ∀ k, k + 1 < p.length → fe (E.set i (some (.fz (.int (k : Int))))) = .ok (.val (pr (min (p.getD k 0) (p.getD (k + 1) 0), max (p.getD k 0) (p.getD (k + 1) 0))), E.set i (some (.fz (.int (k : Int)))))) :
    lcL (bindD i) tyes fe [i] (dints 0 (p.length - 1)) [] E = .ok ((sw p).map pr, E) := by
  have h := lcL_pure (i := i) (tt := tyes) (fe := fe) E hE (fun _ => true) (fun d => match d with | .int k => pr (min (p.getD k.toNat 0) (p.getD (k.toNat + 1) 0), max (p.getD k.toNat 0) (p.getD (k.toNat + 1) 0)) | _ => .non) (dints 0 (p.length - 1)) [] ?_ (by simp [dints]; omega)
  · rw [h, List.filter_eq_self.mpr (fun _ _ => rfl), dints_0]
    simp only [List.map_map, List.nil_append, sw]
    rfl
  · intro d hd
    rw [dints_0] at hd
    obtain ⟨k, hk, rfl⟩ := List.mem_map.mp hd
    have hk := List.mem_range.mp hk
    exact ⟨rfl, fun _ => H k (by omega)⟩
theorem l_swings {L : D} {xs : List Int} (hL : L = .lst (xs.map D.int) ∨ L = .tup (xs.map D.int)) (hl : xs.length ≤ 1000000) (hb : ∀ x ∈ xs, x.natAbs < 2 ^ 63) :
    f_swings [.fz L] = .ok (.ow (.lst ((sw (tp xs)).map pr))) [none] := by
  have h1 := l_tp hL (by omega) hb
  have hp := tp_len xs
  have h2 : lcL (bindD 2) tyes m_swings_1 [2] (dints 0 ((tp xs).length - 1)) [] [some (.fz L), some (.fz (IT (tp xs))), none] = .ok ((sw (tp xs)).map pr, [some (.fz L), some (.fz (IT (tp xs))), none]) := by
    refine sw_loop (tp xs) _ rfl (by omega) fun k hk => ?_
    have a1 : k < (tp xs).length := by omega
    simp [m_swings_1, atI_cast, atI_s, a1, hk, l_range_of, pr]
  have g1 : Rk (((tp xs).length : Int) - 1) := rk_of (by omega) (by omega)
  have ht : (((tp xs).length : Int) - 1).toNat = (tp xs).length - 1 := by omega
  have key : m_swings [some (.fz L), none, none] = .rt (.ow (.lst ((sw (tp xs)).map pr))) [some (.fz L), some (.fz (IT (tp xs))), none] := by
    unfold m_swings
    refine (sseq_nx (e := [some (.fz L), some (.fz (IT (tp xs))), none]) ?_).trans ?_
    · simp [h1]
    simp [h2, ht, g1]
  exact runF_rt (n := 3) (g := m_swings) rfl key rfl
theorem sw_mem {p : List Int} {q : Int × Int} (h : q ∈ sw p) : ∃ x ∈ p, ∃ y ∈ p, q = (min x y, max x y) := by
  obtain ⟨k, hk, rfl⟩ := List.mem_map.mp h
  have hk := List.mem_range.mp hk
  refine ⟨p.getD k 0, ?_, p.getD (k + 1) 0, ?_, rfl⟩
  · have : k < p.length := by omega
    simp [this]
  · have : k + 1 < p.length := by omega
    simp [this]
theorem sw_len (p : List Int) : (sw p).length = p.length - 1 := by simp [sw]
theorem asg3 (F : FFn) (L : D) (ds : List D) (h : F [.fz L] = .ok (.ow (.lst ds)) [none]) : (sasg 1 (callF [.rd] F (acons (rdv 0) anil))) [some (.fz L), none, none, none] = .nx [some (.fz L), some (.ow (.lst ds)), none, none] := by
  simp [h]
theorem l_long {xs : List Int} (hl : xs.length ≤ 1000000) (hb : ∀ x ∈ xs, x.natAbs < 2 ^ 63) : f__law_long_right [.fz (IL xs)] = .ok (.fz (.bl true)) [none] := by
  have h1 := l_tp (L := IL xs) (.inl rfl) (by omega) hb
  have h3 := l_points hl
  have h4 := l_swings (L := IL xs) (.inl rfl) hl hb
  have hp := tp_len xs
  have hm : ∀ x ∈ tp xs, x.natAbs < 2 ^ 63 := fun x hx => hb x (tp_mem hx)
  have h2 : lcL (bindD 3) tyes m__law_long_right_1 [3] (dints 0 ((tp xs).length - 1)) [] [some (.fz (IL xs)), some (.ow (.lst ((tp xs).map D.int))), none, none] = .ok ((sw (tp xs)).map pr, [some (.fz (IL xs)), some (.ow (.lst ((tp xs).map D.int))), none, none]) := by
    refine sw_loop (tp xs) _ rfl (by omega) fun k hk => ?_
    have a1 : k < (tp xs).length := by omega
    simp [m__law_long_right_1, atI_cast, atI_s, a1, hk, l__law_range, pr]
  have g1 : Rk (((tp xs).length : Int) - 1) := rk_of (by omega) (by omega)
  have ht : (((tp xs).length : Int) - 1).toNat = (tp xs).length - 1 := by omega
  have r1 : eqD true (.tup ((tp xs).map D.int)) (.tup ((tp xs).map D.int)) = some (.val (.bl false)) := (rp_intsT 0 hm (Nat.le_refl _)).nes (by decide)
  have r2 : eqD false (.lst ((sw (tp xs)).map pr)) (.lst ((sw (tp xs)).map pr)) = some (.val (.bl true)) := (rp_prs 0 (fun p hp => by
    obtain ⟨x, hx, y, hy, rfl⟩ := sw_mem hp
    have := hm x hx; have := hm y hy
    exact ⟨by show (min x y).natAbs < _; omega, by show (max x y).natAbs < _; omega⟩) (Nat.le_refl _)).eqs (by decide)
  have key : ∃ e, m__law_long_right [some (.fz (IL xs)), none, none, none] = .rt (.fz (.bl true)) (some (.fz (IL xs)) :: e) := by
    refine ⟨[some (.ow (.lst ((tp xs).map D.int))), some (.ow (.lst ((sw (tp xs)).map pr))), none], ?_⟩
    unfold m__law_long_right
    generalize f_swings = F1 at h4 ⊢
    generalize f_turning_points = F2 at h1 ⊢
    generalize f__law_points = F3 at h3 ⊢
    generalize m__law_long_right_1 = M1 at h2 ⊢
    refine (sseq_nx (e := [some (.fz (IL xs)), some (.ow (.lst ((tp xs).map D.int))), none, none]) ?_).trans ?_
    · exact asg3 F3 (IL xs) _ h3
    refine (sseq_nx (e := [some (.fz (IL xs)), some (.ow (.lst ((tp xs).map D.int))), none, none]) ?_).trans ?_
    · simp [h1, r1]
    refine (sseq_nx (e := [some (.fz (IL xs)), some (.ow (.lst ((tp xs).map D.int))), some (.ow (.lst ((sw (tp xs)).map pr))), none]) ?_).trans ?_
    · simp [h2, ht, g1]
    simp [h4, r2]
  obtain ⟨e, key⟩ := key
  exact runF_rt (n := 4) (g := m__law_long_right) rfl key rfl
end Lw

namespace Lw
open PySem L2 PL Mi
theorem d_take (a b : Int) {m : Int} (h : 0 < m) (h2 : m < 18446744073709551616) : ∃ v a' b', f__law_take [.mu (FD a b), .fz (.int m)] = .ok (.fz (.int v)) [some (FD a' b'), none] ∧ 0 ≤ v ∧ v < m :=
  ⟨_, _, _, l_take a b m h h2, tk_lo a b h, tk_hi a b h⟩
theorem l_feed0 (ns : List Int) (i c : Int) (h : i < (ns.length : Int) → atI ns i = some c) : ∃ a b e, m__law_feed [some (.fz (.scr ns)), some (.fz (.int i)), none, none, none] = .rt (.ow (FD a b)) (some (.fz (.scr ns)) :: some (.fz (.int i)) :: e) := by
  have d3 : Mk 6364136223846793005 := mk_of (by decide) (by decide)
  have d4 : Mk 7919 := mk_of (by decide) (by decide)
  have d5 : Mk 83 := mk_of (by decide) (by decide)
  by_cases q : i < (ns.length : Int)
  · have h := h q
    simp [m__law_feed, h, q, d3, d4]
  · simp [m__law_feed, q, d3, d4, d5]
theorem l_feed (ns : List Int) (k : Nat) : ∃ a b, f__law_feed [.fz (.scr ns), .fz (.int (k : Int))] = .ok (.ow (FD a b)) [none, none] := by
  obtain ⟨a, b, e, key⟩ := l_feed0 ns (k : Int) (ns.getD k 0) (fun h => by
    have : k < ns.length := by omega
    rw [atI_cast, gd this])
  exact ⟨a, b, runF_rt (n := 5) (g := m__law_feed) rfl key rfl⟩
theorem l_pick (a b : Int) (xs : List Int) (h0 : 0 < xs.length) (h1 : xs.length ≤ 1000) : ∃ v a' b', f__law_pick [.mu (FD a b), .fz (.lst (xs.map D.int))] = .ok (.fz (.int v)) [some (FD a' b'), none] ∧ v ∈ xs := by
  obtain ⟨v, a', b', e, v0, v1⟩ := d_take a b (m := (xs.length : Int)) (by omega) (by omega)
  obtain ⟨j, rfl⟩ : ∃ j : Nat, v = j := ⟨v.toNat, by omega⟩
  have hj : j < xs.length := by omega
  have key : m__law_pick [some (.mu (FD a b)), some (.fz (.lst (xs.map D.int)))] = .rt (.fz (.int xs[j])) [some (.mu (FD a' b')), some (.fz (.lst (xs.map D.int)))] := by
    unfold m__law_pick
    generalize f__law_take = F at e ⊢
    simp [e, atI_cast, hj]
  exact ⟨xs[j], a', b', runF_rt (n := 2) (g := m__law_pick) rfl key rfl, List.getElem_mem hj⟩
theorem draw_lc {fe : FE} {B : Nat} (C : Int → Int → En) (ds : List D) (hC : ∀ a b, (C a b)[5]? = some none)
    (H : ∀ a b, ∀ d ∈ ds, ∃ (x a' b' : Int), fe ((C a b).set 5 (some (.fz d))) = .ok (.val (.int x), (C a' b').set 5 (some (.fz d))) ∧ x.natAbs ≤ B) (hl : ds.length ≤ 1000) (a b : Int) :
    ∃ (xs : List Int) (a' b' : Int), lcL (bindD 5) tyes fe [5] ds [] (C a b) = .ok (xs.map D.int, C a' b') ∧ xs.length = ds.length ∧ ∀ x ∈ xs, x.natAbs ≤ B := by
  obtain ⟨ys, E', h1, h2, h3, h4⟩ := lcL_draw (i := 5) (fe := fe) (fun E => ∃ a b, E = C a b) (fun d => ∃ x : Int, d = .int x ∧ x.natAbs ≤ B) ds [] (C a b) ⟨a, b, rfl⟩ (by
    rintro E ⟨a, b, rfl⟩
    refine ⟨hC a b, fun d hd => ?_⟩
    obtain ⟨x, a', b', e, hx⟩ := H a b d hd
    exact ⟨_, _, e, ⟨x, rfl, hx⟩, a', b', rfl⟩) (by simp; omega)
  obtain ⟨a', b', rfl⟩ := h4
  have : ∃ xs : List Int, ys = xs.map D.int ∧ ∀ x ∈ xs, x.natAbs ≤ B := by
    clear h1 h2
    induction ys with
    | nil => exact ⟨[], rfl, by simp⟩
    | cons y ys ih =>
      obtain ⟨x, rfl, hx⟩ := h3 y List.mem_cons_self
      obtain ⟨xs, rfl, hxs⟩ := ih fun y hy => h3 y (List.mem_cons_of_mem _ hy)
      exact ⟨x :: xs, rfl, fun z hz => by rcases List.mem_cons.mp hz with rfl | hz; exact hx; exact hxs z hz⟩
  obtain ⟨xs, rfl, hxs⟩ := this
  exact ⟨xs, a', b', by simpa using h1, by simpa using h2, hxs⟩
/-- what a load's draw gives -/
def LdOk (a b : Int) (E : En) : Prop := ∃ (xs : List Int) (a' b' : Int) (e : En), m__law_load E = .rt (.ow (.lst (xs.map D.int))) (some (.mu (FD a' b')) :: some (.fz (.int 15)) :: e) ∧ xs.length ≤ 15 ∧ ∀ x ∈ xs, x.natAbs ≤ 10000000000
end Lw

namespace Lw
open PySem L2 PL Mi
theorem ld_loop (a b z w md : Int) (hmd : 0 ≤ md ∧ md ≤ 100) : ∀ (n k : Nat) (f : List Int) (st : Int) (x : Option Sl), okB (some x) = true → k + n ≤ 15 → f.length = k → (st.natAbs ≤ 2) → (∀ y ∈ f, y.natAbs ≤ 10000000000) →
    ∃ (f' : List Int) (st' : Int) (x' : Option Sl), forL (bindD 5) m__law_load_3 ((List.range' k n).map fun (j : Nat) => D.int (j : Int)) [some (.mu (FD a b)), some (.fz (.int 15)), some (.fz (.int z)), some (.fz (.int w)), none, x, some (.fz (.int md)), some (.fz (.int st)), some (.ow (.lst (f.map D.int)))] =
      .nx [some (.mu (FD a b)), some (.fz (.int 15)), some (.fz (.int z)), some (.fz (.int w)), none, x', some (.fz (.int md)), some (.fz (.int st')), some (.ow (.lst (f'.map D.int)))] ∧ f'.length ≤ 15 ∧ ∀ y ∈ f', y.natAbs ≤ 10000000000
  | 0, k, f, st, x, _, h1, h2, _, h4 => ⟨f, st, x, by simp, by omega, h4⟩
  | n + 1, k, f, st, x, hx, h1, h2, h3, h4 => by
    have hs : Mk st := mk_of (by omega) (by omega)
    have g : f.length < 16777216 := by omega
    have hb : (st * min (k : Int) md).natAbs ≤ 10000000000 := by
      rw [Int.natAbs_mul]
      have : (min (k : Int) md).natAbs ≤ 100 := by omega
      exact Nat.le_trans (Nat.mul_le_mul h3 this) (by decide)
    obtain ⟨f', st', x', e, h5, h6⟩ := ld_loop a b z w md hmd n (k + 1) (f ++ [st * min (k : Int) md]) (0 - st) (some (.fz (.int (k : Int)))) rfl (by omega) (by simp [h2]) (by omega) (fun y hy => by
      rcases List.mem_append.mp hy with hy | hy
      · exact h4 y hy
      · rw [List.mem_singleton.mp hy]; exact hb)
    refine ⟨f', st', x', ?_, h5, h6⟩
    have e1 : bindD 5 (D.int (k : Int)) [some (.mu (FD a b)), some (.fz (.int 15)), some (.fz (.int z)), some (.fz (.int w)), none, x, some (.fz (.int md)), some (.fz (.int st)), some (.ow (.lst (f.map D.int)))] =
        .ok [some (.mu (FD a b)), some (.fz (.int 15)), some (.fz (.int z)), some (.fz (.int w)), none, some (.fz (.int (k : Int))), some (.fz (.int md)), some (.fz (.int st)), some (.ow (.lst (f.map D.int)))] := by simp [hx]
    have e2 : m__law_load_3 [some (.mu (FD a b)), some (.fz (.int 15)), some (.fz (.int z)), some (.fz (.int w)), none, some (.fz (.int (k : Int))), some (.fz (.int md)), some (.fz (.int st)), some (.ow (.lst (f.map D.int)))] =
        .nx [some (.mu (FD a b)), some (.fz (.int 15)), some (.fz (.int z)), some (.fz (.int w)), none, some (.fz (.int (k : Int))), some (.fz (.int md)), some (.fz (.int (0 - st))), some (.ow (.lst ((f ++ [st * min (k : Int) md]).map D.int)))] := by
      simp [m__law_load_3, hs, g]
    rw [List.range'_succ, List.map_cons]
    simp only [forL, e1, Res.go, e2, e]
theorem l_load (a b : Int) : LdOk a b [some (.mu (FD a b)), some (.fz (.int 15)), none, none, none, none, none, none, none] := by
  obtain ⟨z, a1, b1, e1, z0, z1⟩ := d_take a b (m := 16) (by decide) (by decide)
  obtain ⟨w, a2, b2, e2, w0, w1⟩ := d_take a1 b1 (m := 7) (by decide) (by decide)
  have gz : Rk z := rk_of (by omega) (by omega)
  have hd : ∀ n, (dints 0 n).length = n := fun n => by simp [dints]
  unfold LdOk m__law_load
  rw [sseq_nx (e := [some (.mu (FD a1 b1)), some (.fz (.int 15)), some (.fz (.int z)), none, none, none, none, none, none]) (by generalize f__law_take = F at e1 ⊢; simp [e1])]
  rw [sseq_nx (e := [some (.mu (FD a2 b2)), some (.fz (.int 15)), some (.fz (.int z)), some (.fz (.int w)), none, none, none, none, none]) (by generalize f__law_take = F at e2 ⊢; simp [e2])]
  by_cases c3 : w < 3
  · obtain ⟨v, a3, b3, e3, hv⟩ := l_pick a2 b2 [2, 3, 4, 5] (by decide) (by decide)
    simp only [List.map_cons, List.map_nil] at e3
    have hv2 : 2 ≤ v ∧ v ≤ 5 := by simp at hv; omega
    obtain ⟨xs, a4, b4, e4, h4, h5⟩ := draw_lc (fe := m__law_load_1) (B := 10000000000) (fun a b => [some (.mu (FD a b)), some (.fz (.int 15)), some (.fz (.int z)), some (.fz (.int w)), some (.fz (.int v)), none, none, none, none]) (dints 0 z.toNat) (fun _ _ => rfl) (fun a b d _ => by
      obtain ⟨u, a', b', e, u0, u1⟩ := d_take a b (m := v) (by omega) (by omega)
      refine ⟨u, a', b', ?_, by omega⟩
      unfold m__law_load_1
      generalize f__law_take = F at e ⊢
      simp [e]) (by rw [hd]; omega) a3 b3
    refine ⟨xs, a4, b4, [some (.fz (.int z)), some (.fz (.int w)), some (.fz (.int v)), none, none, none, none], ?_, by rw [h4, hd]; omega, h5⟩
    generalize m__law_load_1 = M1 at e4 ⊢
    generalize f__law_pick = F1 at e3 ⊢
    generalize xs.map D.int = ds at e4 ⊢
    simp [c3, e3, e4, gz]
  rw [sseq_nx (e := [some (.mu (FD a2 b2)), some (.fz (.int 15)), some (.fz (.int z)), some (.fz (.int w)), none, none, none, none, none]) (by
    generalize m__law_load_1 = M1
    generalize f__law_pick = F1
    simp [c3])]
  by_cases c4 : w = 3
  · obtain ⟨xs, a4, b4, e4, h4, h5⟩ := draw_lc (fe := m__law_load_2) (B := 10000000000) (fun a b => [some (.mu (FD a b)), some (.fz (.int 15)), some (.fz (.int z)), some (.fz (.int w)), none, none, none, none, none]) (dints 0 z.toNat) (fun _ _ => rfl) (fun a b d _ => by
      obtain ⟨u, a', b', e, u0, u1⟩ := d_take a b (m := 2000000001) (by omega) (by omega)
      refine ⟨u - 1000000000, a', b', ?_, by omega⟩
      have k1 : Mk 2 := mk_of (by decide) (by decide)
      unfold m__law_load_2
      generalize f__law_take = F at e ⊢
      simp [e, k1]) (by rw [hd]; omega) a2 b2
    refine ⟨xs, a4, b4, [some (.fz (.int z)), some (.fz (.int w)), none, none, none, none, none], ?_, by rw [h4, hd]; omega, h5⟩
    generalize m__law_load_2 = M1 at e4 ⊢
    generalize xs.map D.int = ds at e4 ⊢
    subst c4
    simp [e4, gz]
  rw [sseq_nx (e := [some (.mu (FD a2 b2)), some (.fz (.int 15)), some (.fz (.int z)), some (.fz (.int w)), none, none, none, none, none]) (by
    generalize m__law_load_2 = M1
    simp [c4])]
  by_cases c5 : w = 4
  · obtain ⟨md, a3, b3, e3, u0, u1⟩ := d_take a2 b2 (m := z + 1) (by omega) (by omega)
    obtain ⟨st, a4, b4, e4, hst⟩ := l_pick a3 b3 [1, 2, -1] (by decide) (by decide)
    simp only [List.map_cons, List.map_nil] at e4
    have hst2 : st.natAbs ≤ 2 := by simp at hst; omega
    obtain ⟨f', st', x', e5, h5, h6⟩ := ld_loop a4 b4 z w md (by omega) z.toNat 0 [] st none rfl (by omega) rfl hst2 (by simp)
    have hr : (List.range' 0 z.toNat).map (fun (j : Nat) => D.int (j : Int)) = dints 0 z.toNat := by rw [dints_0, List.range_eq_range']
    rw [hr] at e5
    simp only [List.map_nil] at e5
    refine ⟨f', a4, b4, [some (.fz (.int z)), some (.fz (.int w)), none, x', some (.fz (.int md)), some (.fz (.int st')), none], ?_, h5, h6⟩
    generalize m__law_load_3 = M1 at e5 ⊢
    generalize f__law_pick = F1 at e4 ⊢
    generalize f__law_take = F2 at e3 ⊢
    generalize f'.map D.int = ds at e5 ⊢
    subst c5
    simp [spar, evU, fixS, stores, e3, e4, e5, gz]
  rw [sseq_nx (e := [some (.mu (FD a2 b2)), some (.fz (.int 15)), some (.fz (.int z)), some (.fz (.int w)), none, none, none, none, none]) (by
    generalize m__law_load_3 = M1
    generalize f__law_pick = F1
    generalize f__law_take = F2
    simp [c5])]
  by_cases c6 : w = 5
  · obtain ⟨xs, a4, b4, e4, h4, h5⟩ := draw_lc (fe := m__law_load_4) (B := 10000000000) (fun a b => [some (.mu (FD a b)), some (.fz (.int 15)), some (.fz (.int z)), some (.fz (.int w)), none, none, none, none, none]) (dints 0 z.toNat) (fun _ _ => rfl) (fun a b d hd => by
      rw [dints_0] at hd
      obtain ⟨k, hk, rfl⟩ := List.mem_map.mp hd
      have hk := List.mem_range.mp hk
      have hk2 : 0 ≤ (k : Int) ∧ (k : Int) ≤ 15 := by omega
      generalize (k : Int) = i at hk2 ⊢
      obtain ⟨u, a', b', e, u0, u1⟩ := d_take a b (m := 2) (by omega) (by omega)
      refine ⟨i / 2 - u, a', b', ?_, by omega⟩
      have k1 : Dk 2 := dk_of (by decide) (by decide)
      unfold m__law_load_4
      generalize f__law_take = F at e ⊢
      simp [e, k1]) (by rw [hd]; omega) a2 b2
    refine ⟨xs, a4, b4, [some (.fz (.int z)), some (.fz (.int w)), none, none, none, none, none], ?_, by rw [h4, hd]; omega, h5⟩
    generalize m__law_load_4 = M1 at e4 ⊢
    generalize xs.map D.int = ds at e4 ⊢
    subst c6
    simp [e4, gz]
  rw [sseq_nx (e := [some (.mu (FD a2 b2)), some (.fz (.int 15)), some (.fz (.int z)), some (.fz (.int w)), none, none, none, none, none]) (by
    generalize m__law_load_4 = M1
    simp [c6])]
  obtain ⟨xs, a4, b4, e4, h4, h5⟩ := draw_lc (fe := m__law_load_5) (B := 10000000000) (fun a b => [some (.mu (FD a b)), some (.fz (.int 15)), some (.fz (.int z)), some (.fz (.int w)), none, none, none, none, none]) (dints 0 z.toNat) (fun _ _ => rfl) (fun a b d _ => by
    obtain ⟨u, a', b', e, hu⟩ := l_pick a b [7, -7, 7, 0] (by decide) (by decide)
    simp only [List.map_cons, List.map_nil] at e
    refine ⟨u, a', b', ?_, by simp at hu; omega⟩
    unfold m__law_load_5
    generalize f__law_pick = F at e ⊢
    simp [e]) (by rw [hd]; omega) a2 b2
  refine ⟨xs, a4, b4, [some (.fz (.int z)), some (.fz (.int w)), none, none, none, none, none], ?_, by rw [h4, hd]; omega, h5⟩
  generalize m__law_load_5 = M1 at e4 ⊢
  generalize xs.map D.int = ds at e4 ⊢
  simp [e4, gz]
theorem l_loadF (a b : Int) : ∃ (xs : List Int) (a' b' : Int), f__law_load [.mu (FD a b), .fz (.int 15)] = .ok (.ow (.lst (xs.map D.int))) [some (FD a' b'), none] ∧ xs.length ≤ 15 ∧ ∀ x ∈ xs, x.natAbs ≤ 10000000000 := by
  obtain ⟨xs, a', b', e, key, h1, h2⟩ := l_load a b
  exact ⟨xs, a', b', runF_rt (n := 9) (g := m__law_load) rfl key rfl, h1, h2⟩
end Lw

namespace Lw
open PySem L2 PL Mi
theorem repr_bl (b : Bool) : cRepr [.bl b] = some (.val (.str (shw (.bl b)))) := (Rp.bl 0 0 b).repr (by decide) (by decide)
section
variable {x0 x1 x2 x3 x4 x5 x6 x7 x8 x9 x10 x11 x12 x13 x14 x15 : Option Sl}
theorem l6 (p q : Int × Int) : m_law_6 [x0, x1, x2, x3, x4, x5, x6, x7, x8, x9, x10, x11, x12, x13, some (.fz (pr p)), some (.fz (pr q))] = .nx [x0, x1, x2, x3, x4, x5, x6, x7, x8, x9, x10, x11, x12, x13, some (.fz (pr p)), some (.fz (pr q))] := by
  have h1 := l_contains p.1 p.2 q.1 q.2
  have h2 := l_holds p.1 p.2 q.1 q.2
  unfold m_law_6
  generalize f_contains = F at h1 ⊢
  generalize f__law_holds = G at h2 ⊢
  simp [pr, h1, h2, repr_bl]
theorem l6s (p : Int × Int) : ∀ (qs : List (Int × Int)) (x15 : Option Sl), okB (some x15) = true → ∃ x15', okB (some x15') = true ∧ forL (bindD 15) m_law_6 (qs.map pr) [x0, x1, x2, x3, x4, x5, x6, x7, x8, x9, x10, x11, x12, x13, some (.fz (pr p)), x15] = .nx [x0, x1, x2, x3, x4, x5, x6, x7, x8, x9, x10, x11, x12, x13, some (.fz (pr p)), x15']
  | [], x15, h => ⟨x15, h, rfl⟩
  | q :: qs, x15, h => by
    obtain ⟨x', h1, h2⟩ := l6s p qs (some (.fz (pr q))) rfl
    refine ⟨x', h1, ?_⟩
    have hb : bindD 15 (pr q) [x0, x1, x2, x3, x4, x5, x6, x7, x8, x9, x10, x11, x12, x13, some (.fz (pr p)), x15] = .ok [x0, x1, x2, x3, x4, x5, x6, x7, x8, x9, x10, x11, x12, x13, some (.fz (pr p)), some (.fz (pr q))] := by simp [h]
    simp only [List.map_cons, forL, hb, Res.go, l6, h2]
theorem l7 (p : Int × Int) (ps : List (Int × Int)) (x15 : Option Sl) (h : okB (some x15) = true) : ∃ x15', okB (some x15') = true ∧ m_law_7 [x0, x1, x2, x3, x4, x5, x6, x7, x8, x9, x10, x11, x12, some (.fz (.lst (ps.map pr))), some (.fz (pr p)), x15] = .nx [x0, x1, x2, x3, x4, x5, x6, x7, x8, x9, x10, x11, x12, some (.fz (.lst (ps.map pr))), some (.fz (pr p)), x15'] := by
  obtain ⟨x', h1, h2⟩ := l6s (x0 := x0) (x1 := x1) (x2 := x2) (x3 := x3) (x4 := x4) (x5 := x5) (x6 := x6) (x7 := x7) (x8 := x8) (x9 := x9) (x10 := x10) (x11 := x11) (x12 := x12) (x13 := some (.fz (.lst (ps.map pr)))) p ps x15 h
  refine ⟨x', h1, ?_⟩
  unfold m_law_7
  generalize m_law_6 = M at h2 ⊢
  generalize ps.map pr = ds at h2 ⊢
  simp [h2]
theorem l7s (ps : List (Int × Int)) : ∀ (qs : List (Int × Int)) (x14 x15 : Option Sl), okB (some x14) = true → okB (some x15) = true → ∃ x14' x15', okB (some x14') = true ∧ okB (some x15') = true ∧ forL (bindD 14) m_law_7 (qs.map pr) [x0, x1, x2, x3, x4, x5, x6, x7, x8, x9, x10, x11, x12, some (.fz (.lst (ps.map pr))), x14, x15] = .nx [x0, x1, x2, x3, x4, x5, x6, x7, x8, x9, x10, x11, x12, some (.fz (.lst (ps.map pr))), x14', x15']
  | [], x14, x15, h, g => ⟨x14, x15, h, g, rfl⟩
  | q :: qs, x14, x15, h, g => by
    obtain ⟨y, h1, h2⟩ := l7 (x0 := x0) (x1 := x1) (x2 := x2) (x3 := x3) (x4 := x4) (x5 := x5) (x6 := x6) (x7 := x7) (x8 := x8) (x9 := x9) (x10 := x10) (x11 := x11) (x12 := x12) q ps x15 g
    obtain ⟨x', y', h3, h4, h5⟩ := l7s ps qs (some (.fz (pr q))) y rfl h1
    refine ⟨x', y', h3, h4, ?_⟩
    have hb : bindD 14 (pr q) [x0, x1, x2, x3, x4, x5, x6, x7, x8, x9, x10, x11, x12, some (.fz (.lst (ps.map pr))), x14, x15] = .ok [x0, x1, x2, x3, x4, x5, x6, x7, x8, x9, x10, x11, x12, some (.fz (.lst (ps.map pr))), some (.fz (pr q)), x15] := by simp [h]
    simp only [List.map_cons, forL, hb, Res.go, h2, h5]
theorem sw_bd {p : List Int} (h : ∀ x ∈ p, x.natAbs ≤ 10000000000) : ∀ q ∈ sw p, q.1.natAbs < 2 ^ 63 ∧ q.2.natAbs < 2 ^ 63 := fun q hq => by
  obtain ⟨x, hx, y, hy, rfl⟩ := sw_mem hq
  have := h x hx; have := h y hy
  exact ⟨by show (min x y).natAbs < _; omega, by show (max x y).natAbs < _; omega⟩
theorem l5 {xs ys : List Int} {L : D} (hL : L = .lst (ys.map D.int) ∨ L = .tup (ys.map D.int)) (hy : tp ys = tp xs) (hl : xs.length ≤ 15) (hl2 : ys.length ≤ 16) (hb : ∀ x ∈ xs, x.natAbs ≤ 10000000000) (hb2 : ∀ x ∈ ys, x.natAbs ≤ 10000000000)
    (g9 : okB (some x9) = true) (g10 : okB (some x10) = true) (g11 : okC (some x11) = true) (g12 : okB (some x12) = true) :
    m_law_5 [x0, x1, x2, some (.fz (IL xs)), x4, x5, some (.fz (IL (tp xs))), some (.fz (.str (shw (IL xs)))), some (.fz (L)), x9, x10, x11, x12, x13, x14, x15] = .nx [x0, x1, x2, some (.fz (IL xs)), x4, x5, some (.fz (IL (tp xs))), some (.fz (.str (shw (IL xs)))), some (.fz (L)), some (.fz (IT (tp xs))), some (.ow (.lst ((sw (tp xs)).map pr))), x11, some (.ow (.lst [])), x13, x14, x15] := by
  have h1 := l_tp hL (by omega) (fun x hx => by have := hb2 x hx; omega)
  have h2 := l_swings hL (by omega) (fun x hx => by have := hb2 x hx; omega)
  rw [hy] at h1 h2
  have hp := tp_len xs
  have hm : ∀ x ∈ tp xs, x.natAbs ≤ 10000000000 := fun x hx => hb x (tp_mem hx)
  have hm2 : ∀ x ∈ tp xs, x.natAbs < 2 ^ 63 := fun x hx => by have := hm x hx; omega
  have hb3 : ∀ x ∈ xs, x.natAbs < 2 ^ 63 := fun x hx => by have := hb x hx; omega
  have r1 : cRepr [.tup ((tp xs).map D.int)] = some (.val (.str (shw (.tup ((tp xs).map D.int))))) := (rp_intsT 0 hm2 (Nat.le_refl _)).repr (by decide) (by omega)
  have r2 : cRepr [.lst (xs.map D.int)] = some (.val (.str (shw (.lst (xs.map D.int))))) := (rp_ints 0 hb3 (Nat.le_refl _)).repr (by decide) (by omega)
  have r3 : cRepr [.lst ((sw (tp xs)).map pr)] = some (.val (.str (shw (.lst ((sw (tp xs)).map pr))))) := (rp_prs 0 (sw_bd hm) (Nat.le_refl _)).repr (by decide) (by rw [sw_len]; omega)
  have g1 : Rk (((tp xs).length : Int) - 1) := rk_of (by omega) (by omega)
  have ht : (((tp xs).length : Int) - 1).toNat = (tp xs).length - 1 := by omega
  have h3 : lcL (bindD 11) tyes m_law_4 [11] (dints 0 ((tp xs).length - 1)) [] [x0, x1, x2, some (.fz (IL xs)), x4, x5, some (.fz (IL (tp xs))), some (.fz (.str (shw (IL xs)))), some (.fz (L)), some (.fz (IT (tp xs))), x10, none, x12, x13, x14, x15] = .ok ((sw (tp xs)).map pr, [x0, x1, x2, some (.fz (IL xs)), x4, x5, some (.fz (IL (tp xs))), some (.fz (.str (shw (IL xs)))), some (.fz (L)), some (.fz (IT (tp xs))), x10, none, x12, x13, x14, x15]) := by
    refine sw_loop (tp xs) _ rfl (by omega) fun k hk => ?_
    have a1 : k < (tp xs).length := by omega
    simp [m_law_4, atI_cast, atI_s, a1, hk, l__law_range, pr]
  unfold m_law_5
  generalize m_law_4 = M4 at h3 ⊢
  generalize f_turning_points = F1 at h1 ⊢
  generalize f_swings = F2 at h2 ⊢
  refine (sseq_nx (e := [x0, x1, x2, some (.fz (IL xs)), x4, x5, some (.fz (IL (tp xs))), some (.fz (.str (shw (IL xs)))), some (.fz (L)), some (.fz (IT (tp xs))), x10, x11, x12, x13, x14, x15]) ?_).trans ?_
  · simp [h1, g9]
  refine (sseq_nx (e := [x0, x1, x2, some (.fz (IL xs)), x4, x5, some (.fz (IL (tp xs))), some (.fz (.str (shw (IL xs)))), some (.fz (L)), some (.fz (IT (tp xs))), x10, x11, x12, x13, x14, x15]) ?_).trans ?_
  · simp [r1]
  refine (sseq_nx (e := [x0, x1, x2, some (.fz (IL xs)), x4, x5, some (.fz (IL (tp xs))), some (.fz (.str (shw (IL xs)))), some (.fz (L)), some (.fz (IT (tp xs))), some (.ow (.lst ((sw (tp xs)).map pr))), x11, x12, x13, x14, x15]) ?_).trans ?_
  · simp [h3, ht, g1, g10, g11]
  refine (sseq_nx (e := [x0, x1, x2, some (.fz (IL xs)), x4, x5, some (.fz (IL (tp xs))), some (.fz (.str (shw (IL xs)))), some (.fz (L)), some (.fz (IT (tp xs))), some (.ow (.lst ((sw (tp xs)).map pr))), x11, some (.ow (.lst ((sw (tp xs)).map pr))), x13, x14, x15]) ?_).trans ?_
  · generalize (sw (tp xs)).map pr = ds at h2 ⊢
    simp [h2, g12]
  refine (sseq_nx (e := [x0, x1, x2, some (.fz (IL xs)), x4, x5, some (.fz (IL (tp xs))), some (.fz (.str (shw (IL xs)))), some (.fz (L)), some (.fz (IT (tp xs))), some (.ow (.lst ((sw (tp xs)).map pr))), x11, some (.ow (.lst ((sw (tp xs)).map pr))), x13, x14, x15]) ?_).trans ?_
  · generalize (sw (tp xs)).map pr = ds at r3 ⊢
    simp [r2, r3]
  generalize (sw (tp xs)).map pr = ds
  simp
end
end Lw

namespace Lw
open PySem L2 PL Mi
section
variable {x0 x1 x2 x3 x4 x5 x6 x7 x8 x9 x10 x11 x12 x13 x14 x15 : Option Sl}
theorem l5s {xs : List Int} (hl : xs.length ≤ 15) (hb : ∀ x ∈ xs, x.natAbs ≤ 10000000000) (g11 : okC (some x11) = true) : ∀ (Ls : List D), (∀ L ∈ Ls, ∃ ys : List Int, (L = .lst (ys.map D.int) ∨ L = .tup (ys.map D.int)) ∧ tp ys = tp xs ∧ ys.length ≤ 16 ∧ ∀ x ∈ ys, x.natAbs ≤ 10000000000) →
    ∀ (x8 x9 x10 x12 : Option Sl), okB (some x8) = true → okB (some x9) = true → okB (some x10) = true → okB (some x12) = true →
    ∃ x8' x9' x10' x12', okB (some x8') = true ∧ okB (some x9') = true ∧ okB (some x10') = true ∧ okB (some x12') = true ∧ forL (bindD 8) m_law_5 Ls [x0, x1, x2, some (.fz (IL xs)), x4, x5, some (.fz (IL (tp xs))), some (.fz (.str (shw (IL xs)))), x8, x9, x10, x11, x12, x13, x14, x15] = .nx [x0, x1, x2, some (.fz (IL xs)), x4, x5, some (.fz (IL (tp xs))), some (.fz (.str (shw (IL xs)))), x8', x9', x10', x11, x12', x13, x14, x15]
  | [], _, x8, x9, x10, x12, h8, h9, h10, h12 => ⟨x8, x9, x10, x12, h8, h9, h10, h12, rfl⟩
  | L :: Ls, H, x8, x9, x10, x12, h8, h9, h10, h12 => by
    obtain ⟨ys, hL, hy, hyl, hyb⟩ := H L List.mem_cons_self
    have e1 := l5 (x0 := x0) (x1 := x1) (x2 := x2) (x4 := x4) (x5 := x5) (x13 := x13) (x14 := x14) (x15 := x15) hL hy hl hyl hb hyb h9 h10 g11 h12
    obtain ⟨a, b, c, d, ha, hb', hc, hd, e2⟩ := l5s hl hb g11 Ls (fun L hL => H L (List.mem_cons_of_mem _ hL)) (some (.fz L)) (some (.fz (IT (tp xs)))) (some (.ow (.lst ((sw (tp xs)).map pr)))) (some (.ow (.lst []))) rfl rfl rfl rfl
    refine ⟨a, b, c, d, ha, hb', hc, hd, ?_⟩
    have e0 : bindD 8 L [x0, x1, x2, some (.fz (IL xs)), x4, x5, some (.fz (IL (tp xs))), some (.fz (.str (shw (IL xs)))), x8, x9, x10, x11, x12, x13, x14, x15] = .ok [x0, x1, x2, some (.fz (IL xs)), x4, x5, some (.fz (IL (tp xs))), some (.fz (.str (shw (IL xs)))), some (.fz (L)), x9, x10, x11, x12, x13, x14, x15] := by simp [h8]
    simp only [forL, e0, Res.go, e1, e2]
theorem cut_last (ds : List D) : cut ds (some (-1)) none = ds.drop (ds.length - 1) := by
  have : (-1 + (ds.length : Int)).toNat = ds.length - 1 := by omega
  simp only [cut, HT.sIx, if_pos (show (-1 : Int) < 0 by decide), this]
  rw [List.take_of_length_le (by simp)]
theorem cut_six (ds : List D) : cut ds none (some 6) = ds.take 6 := by
  simp only [cut, HT.sIx, if_neg (show ¬ (6 : Int) < 0 by decide)]
  have : (6 : Int).toNat = 6 := rfl
  rw [this, Nat.sub_zero, List.drop_zero]
  by_cases h : 6 ≤ ds.length
  · rw [Nat.min_eq_left h]
  · rw [Nat.min_eq_right (by omega), List.take_of_length_le (Nat.le_refl _), List.take_of_length_le (by omega)]
theorem asg6 (F : FFn) (s5 : Option Sl) (ds es : List D) (h : F [.fz (.lst es)] = .ok (.ow (.lst ds)) [none]) (g6 : okB (some x6) = true) : (sasg 6 (callF [.rd] F (acons (rdv 3) anil))) [x0, x1, x2, some (.ow (.lst es)), x4, s5, x6, x7, x8, x9, x10, x11, x12, x13, x14, x15] = .nx [x0, x1, x2, some (.fz (.lst es)), x4, s5, some (.ow (.lst ds)), x7, x8, x9, x10, x11, x12, x13, x14, x15] := by
  simp [h, g6]
theorem l8 (a b : Int) (g3 : okB (some x3) = true) (g6 : okB (some x6) = true) (g7 : okB (some x7) = true) (g8 : okB (some x8) = true) (g9 : okB (some x9) = true) (g10 : okB (some x10) = true) (g11 : okC (some x11) = true) (g12 : okB (some x12) = true) (g13 : okB (some x13) = true) (g14 : okB (some x14) = true) (g15 : okB (some x15) = true) :
    ∃ (a' b' : Int) (y3 y6 y7 y8 y9 y10 y12 y13 y14 y15 : Option Sl), m_law_8 [x0, x1, x2, x3, x4, some (.ow (FD a b)), x6, x7, x8, x9, x10, x11, x12, x13, x14, x15] = .nx [x0, x1, x2, y3, x4, some (.ow (FD a' b')), y6, y7, y8, y9, y10, x11, y12, y13, y14, y15] ∧ okB (some y3) = true ∧ okB (some y6) = true ∧ okB (some y7) = true ∧ okB (some y8) = true ∧ okB (some y9) = true ∧ okB (some y10) = true ∧ okB (some y12) = true ∧ okB (some y13) = true ∧ okB (some y14) = true ∧ okB (some y15) = true := by
  obtain ⟨xs, a', b', h1, hl, hb⟩ := l_loadF a b
  have h2 := l_points (xs := xs) (by omega)
  have hp := tp_len xs
  have hm : ∀ x ∈ tp xs, x.natAbs ≤ 10000000000 := fun x hx => hb x (tp_mem hx)
  have hb3 : ∀ x ∈ xs, x.natAbs < 2 ^ 63 := fun x hx => by have := hb x hx; omega
  have r2 : cRepr [.lst (xs.map D.int)] = some (.val (.str (shw (.lst (xs.map D.int))))) := (rp_ints 0 hb3 (Nat.le_refl _)).repr (by decide) (by omega)
  have h4 := l_swings (L := IL xs) (.inl rfl) (by omega) hb3
  have hc : cut (xs.map D.int) (some (-1)) none = (xs.drop (xs.length - 1)).map D.int := by rw [cut_last]; simp
  have hc6 : cut ((sw (tp xs)).map pr) none (some 6) = ((sw (tp xs)).take 6).map pr := by rw [cut_six]; simp
  have hsl : ((sw (tp xs)).take 6).length ≤ 6 := by simp; omega
  obtain ⟨y8, y9, y10, y12, h8, h9, h10, h12, e3⟩ := l5s (x0 := x0) (x1 := x1) (x2 := x2) (x4 := x4) (x5 := some (.ow (FD a' b'))) (x13 := x13) (x14 := x14) (x15 := x15) hl hb g11 [IL xs, IT xs, IL (tp xs), .lst (xs.map D.int ++ (xs.drop (xs.length - 1)).map D.int)] (by
    intro L hL
    simp only [List.mem_cons, List.not_mem_nil, or_false] at hL
    rcases hL with rfl | rfl | rfl | rfl
    · exact ⟨xs, .inl rfl, rfl, by omega, hb⟩
    · exact ⟨xs, .inr rfl, rfl, by omega, hb⟩
    · exact ⟨tp xs, .inl rfl, tp_tp xs, by omega, hm⟩
    · refine ⟨xs ++ xs.drop (xs.length - 1), .inl (by simp), tp_last xs, by simp; omega, fun x hx => ?_⟩
      rcases List.mem_append.mp hx with hx | hx
      · exact hb x hx
      · exact hb x (List.mem_of_mem_drop hx)) x8 x9 x10 x12 g8 g9 g10 g12
  obtain ⟨y14, y15, h14, h15, e5⟩ := l7s (x0 := x0) (x1 := x1) (x2 := x2) (x3 := some (.fz (IL xs))) (x4 := x4) (x5 := some (.ow (FD a' b'))) (x6 := some (.fz (IL (tp xs)))) (x7 := some (.fz (.str (shw (IL xs))))) (x8 := y8) (x9 := y9) (x10 := y10) (x11 := x11) (x12 := y12) ((sw (tp xs)).take 6 ++ [(0, 1), (0, 2), (1, 2), (-1000000000, 1000000000)]) ((sw (tp xs)).take 6 ++ [(0, 1), (0, 2), (1, 2), (-1000000000, 1000000000)]) x14 x15 g14 g15
  refine ⟨a', b', some (.fz (IL xs)), some (.fz (IL (tp xs))), some (.fz (.str (shw (IL xs)))), y8, y9, y10, y12, some (.fz (.lst (((sw (tp xs)).take 6 ++ [(0, 1), (0, 2), (1, 2), (-1000000000, 1000000000)]).map pr))), y14, y15, ?_, rfl, rfl, rfl, h8, h9, h10, h12, rfl, h14, h15⟩
  unfold m_law_8
  refine (sseq_nx (e := [x0, x1, x2, some (.ow (.lst (xs.map D.int))), x4, some (.ow (FD a' b')), x6, x7, x8, x9, x10, x11, x12, x13, x14, x15]) ?_).trans ?_
  · generalize f__law_load = F at h1 ⊢
    generalize xs.map D.int = ds at h1 ⊢
    simp [h1, g3]
  refine (sseq_nx (e := [x0, x1, x2, some (.fz (IL xs)), x4, some (.ow (FD a' b')), some (.ow (.lst ((tp xs).map D.int))), x7, x8, x9, x10, x11, x12, x13, x14, x15]) ?_).trans ?_
  · exact asg6 _ _ _ _ h2 g6
  refine (sseq_nx (e := [x0, x1, x2, some (.fz (IL xs)), x4, some (.ow (FD a' b')), some (.ow (.lst ((tp xs).map D.int))), some (.fz (.str (shw (IL xs)))), x8, x9, x10, x11, x12, x13, x14, x15]) ?_).trans ?_
  · simp [r2, g7]
  refine (sseq_nx (e := [x0, x1, x2, some (.fz (IL xs)), x4, some (.ow (FD a' b')), some (.fz (IL (tp xs))), some (.fz (.str (shw (IL xs)))), y8, y9, y10, x11, y12, x13, x14, x15]) ?_).trans ?_
  · have l2 : xs.length + (xs.length - (xs.length - 1)) ≤ 16777216 := by omega
    generalize m_law_5 = M at e3 ⊢
    have l3 : (xs.map D.int).length + ((xs.drop (xs.length - 1)).map D.int).length ≤ 16777216 := by simp; omega
    simp only [IL, IT] at e3 ⊢
    generalize (xs.drop (xs.length - 1)).map D.int = ds at e3 hc l3 ⊢
    generalize xs.map D.int = es at e3 hc l3 ⊢
    generalize (tp xs).map D.int = fs at e3 ⊢
    simp [hc, l3, e3]
  refine (sseq_nx (e := [x0, x1, x2, some (.fz (IL xs)), x4, some (.ow (FD a' b')), some (.fz (IL (tp xs))), some (.fz (.str (shw (IL xs)))), y8, y9, y10, x11, y12, some (.ow (.lst (((sw (tp xs)).take 6 ++ [(0, 1), (0, 2), (1, 2), (-1000000000, 1000000000)]).map pr))), x14, x15]) ?_).trans ?_
  · generalize f_swings = F at h4 ⊢
    have k : ((sw (tp xs)).take 6 ++ [(0, 1), (0, 2), (1, 2), (-1000000000, 1000000000)]).map pr = ((sw (tp xs)).take 6).map pr ++ [.tup [.int 0, .int 1], .tup [.int 0, .int 2], .tup [.int 1, .int 2], .tup [.int (-1000000000), .int 1000000000]] := by simp [pr]
    rw [k]
    have l4 : (((sw (tp xs)).take 6).map pr).length ≤ 6 := by rw [List.length_map]; exact hsl
    generalize ((sw (tp xs)).take 6).map pr = ds at hc6 l4 ⊢
    generalize (sw (tp xs)).map pr = es at h4 hc6 ⊢
    have l5 : ds.length + 4 ≤ 16777216 := by omega
    simp [h4, hc6, l5, g13]
  generalize ((sw (tp xs)).take 6 ++ [(0, 1), (0, 2), (1, 2), (-1000000000, 1000000000)]).map pr = ds at e5 ⊢
  generalize m_law_7 = M at e5 ⊢
  simp [e5]
end
end Lw

namespace Lw
open PySem L2 PL Mi
/-- the slots of the law, at a turn -/
def P8 (x0 x1 x4 : Option Sl) (e : En) : Prop := ∃ (a b : Int) (x2 x3 x6 x7 x8 x9 x10 x11 x12 x13 x14 x15 : Option Sl), e = [x0, x1, x2, x3, x4, some (.ow (FD a b)), x6, x7, x8, x9, x10, x11, x12, x13, x14, x15] ∧ okB (some x2) = true ∧ okB (some x3) = true ∧ okB (some x6) = true ∧ okB (some x7) = true ∧ okB (some x8) = true ∧ okB (some x9) = true ∧ okB (some x10) = true ∧ okB (some x12) = true ∧ okB (some x13) = true ∧ okB (some x14) = true ∧ okB (some x15) = true ∧ okC (some x11) = true
def P9 (x0 x1 : Option Sl) (e : En) : Prop := ∃ (x2 x3 x4 x5 x6 x7 x8 x9 x10 x11 x12 x13 x14 x15 : Option Sl), e = [x0, x1, x2, x3, x4, x5, x6, x7, x8, x9, x10, x11, x12, x13, x14, x15] ∧ okB (some x2) = true ∧ okB (some x3) = true ∧ okB (some x4) = true ∧ okB (some x5) = true ∧ okB (some x6) = true ∧ okB (some x7) = true ∧ okB (some x8) = true ∧ okB (some x9) = true ∧ okB (some x10) = true ∧ okB (some x12) = true ∧ okB (some x13) = true ∧ okB (some x14) = true ∧ okB (some x15) = true ∧ okC (some x11) = true
theorem l8s {x0 x1 x4 : Option Sl} (ds : List D) (e : En) (h : P8 x0 x1 x4 e) : ∃ e', forL (bindD 2) m_law_8 ds e = .nx e' ∧ P8 x0 x1 x4 e' := by
  refine forL_inv (fun _ e => P8 x0 x1 x4 e) ds e h ?_
  intro d r e h
  obtain ⟨a, b, x2, x3, x6, x7, x8, x9, x10, x11, x12, x13, x14, x15, rfl, g2, g3, g6, g7, g8, g9, g10, g12, g13, g14, g15, g11⟩ := h
  obtain ⟨a', b', y3, y6, y7, y8, y9, y10, y12, y13, y14, y15, h1, k3, k6, k7, k8, k9, k10, k12, k13, k14, k15⟩ := l8 (x0 := x0) (x1 := x1) (x2 := some (.fz d)) (x4 := x4) a b g3 g6 g7 g8 g9 g10 g11 g12 g13 g14 g15
  refine ⟨_, by simp [g2], _, .inl h1, ?_⟩
  exact ⟨a', b', some (.fz d), y3, y6, y7, y8, y9, y10, x11, y12, y13, y14, y15, rfl, rfl, k3, k6, k7, k8, k9, k10, k12, k13, k14, k15, g11⟩
theorem asg5 {x1 x2 x3 x5 x6 x7 x8 x9 x10 x11 x12 x13 x14 x15 : Option Sl} (F : FFn) (s d : D) (oo : O) (h : F [.fz s, .fz d] = .ok (.ow oo) [none, none]) (g5 : okB (some x5) = true) : (sasg 5 (callF [.rd, .rd] F (acons (rdv 0) (acons (rdv 4) anil)))) [some (.fz (s)), x1, x2, x3, some (.fz (d)), x5, x6, x7, x8, x9, x10, x11, x12, x13, x14, x15] = .nx [some (.fz (s)), x1, x2, x3, some (.fz (d)), some (.ow oo), x6, x7, x8, x9, x10, x11, x12, x13, x14, x15] := by
  simp [h, g5]
theorem l9 {s : D} {x1 : Option Sl} (ns : List Int) (k : Nat) (hs : s = .scr ns) (x2 x3 x4 x5 x6 x7 x8 x9 x10 x11 x12 x13 x14 x15 : Option Sl) (hk : x4 = some (.fz (.int (k : Int)))) (g : okB (some x2) = true ∧ okB (some x3) = true ∧ okB (some x4) = true ∧ okB (some x5) = true ∧ okB (some x6) = true ∧ okB (some x7) = true ∧ okB (some x8) = true ∧ okB (some x9) = true ∧ okB (some x10) = true ∧ okB (some x12) = true ∧ okB (some x13) = true ∧ okB (some x14) = true ∧ okB (some x15) = true ∧ okC (some x11) = true) : ∃ e', m_law_9 [some (.fz (s)), x1, x2, x3, x4, x5, x6, x7, x8, x9, x10, x11, x12, x13, x14, x15] = .nx e' ∧ P9 (some (.fz s)) x1 e' := by
  obtain ⟨g2, g3, g4, g5, g6, g7, g8, g9, g10, g12, g13, g14, g15, g11⟩ := g
  obtain ⟨a, b, h1⟩ := l_feed ns k
  subst hs hk
  obtain ⟨e', h2, h3⟩ := l8s (x0 := some (.fz (.scr ns))) (x1 := x1) (x4 := some (.fz (.int (k : Int)))) (dints 0 8) [some (.fz (.scr ns)), x1, x2, x3, some (.fz (.int (k : Int))), some (.ow (FD a b)), x6, x7, x8, x9, x10, x11, x12, x13, x14, x15] ⟨a, b, x2, x3, x6, x7, x8, x9, x10, x11, x12, x13, x14, x15, rfl, g2, g3, g6, g7, g8, g9, g10, g12, g13, g14, g15, g11⟩
  refine ⟨e', ?_, ?_⟩
  · unfold m_law_9
    refine (sseq_nx (e := [some (.fz (.scr ns)), x1, x2, x3, some (.fz (.int (k : Int))), some (.ow (FD a b)), x6, x7, x8, x9, x10, x11, x12, x13, x14, x15]) ?_).trans ?_
    · exact asg5 _ _ _ _ h1 g5
    have r8 : Rk 8 := rk_of (by decide) (by decide)
    generalize m_law_8 = M at h2 ⊢
    generalize (k : Int) = kk at h2 ⊢
    simp [r8, h2]
  · obtain ⟨a, b, x2, x3, x6, x7, x8, x9, x10, x11, x12, x13, x14, x15, rfl, g2, g3, g6, g7, g8, g9, g10, g12, g13, g14, g15, g11⟩ := h3
    exact ⟨x2, x3, _, _, x6, x7, x8, x9, x10, x11, x12, x13, x14, x15, rfl, g2, g3, rfl, rfl, g6, g7, g8, g9, g10, g12, g13, g14, g15, g11⟩
theorem l9s {x1 : Option Sl} (ns : List Int) : ∀ (n k : Nat) (e : En), P9 (some (.fz (.scr ns))) x1 e → ∃ e', forL (bindD 4) m_law_9 ((List.range' k n).map fun (j : Nat) => D.int (j : Int)) e = .nx e' ∧ P9 (some (.fz (.scr ns))) x1 e'
  | 0, k, e, h => ⟨e, rfl, h⟩
  | n + 1, k, e, h => by
    obtain ⟨x2, x3, x4, x5, x6, x7, x8, x9, x10, x11, x12, x13, x14, x15, rfl, g2, g3, g4, g5, g6, g7, g8, g9, g10, g12, g13, g14, g15, g11⟩ := h
    obtain ⟨e1, h1, h2⟩ := l9 (x1 := x1) ns k rfl x2 x3 (some (.fz (.int (k : Int)))) x5 x6 x7 x8 x9 x10 x11 x12 x13 x14 x15 rfl ⟨g2, g3, rfl, g5, g6, g7, g8, g9, g10, g12, g13, g14, g15, g11⟩
    obtain ⟨e2, h3, h4⟩ := l9s ns n (k + 1) e1 h2
    refine ⟨e2, ?_, h4⟩
    have hb : bindD 4 (D.int (k : Int)) [some (.fz (.scr ns)), x1, x2, x3, x4, x5, x6, x7, x8, x9, x10, x11, x12, x13, x14, x15] = .ok [some (.fz (.scr ns)), x1, x2, x3, some (.fz (.int (k : Int))), x5, x6, x7, x8, x9, x10, x11, x12, x13, x14, x15] := by simp [g4]
    rw [List.range'_succ, List.map_cons]
    simp only [forL, hb, Res.go, h1, h3]
theorem forL_cons {tg : FG} {body : FS} {d : D} {ds : List D} {e e1 e2 : En} (h1 : tg d e = .ok e1) (h2 : body e1 = .nx e2) : forL tg body (d :: ds) e = forL tg body ds e2 := by
  simp only [forL, h1, Res.go, h2]
theorem bind3 {x0 x1 x2 x3 x4 x5 x6 x7 x8 x9 x10 x11 x12 x13 x14 x15 : Option Sl} (d : D) (h : okB (some x3) = true) : bindD 3 d [x0, x1, x2, x3, x4, x5, x6, x7, x8, x9, x10, x11, x12, x13, x14, x15] = .ok [x0, x1, x2, some (.fz (d)), x4, x5, x6, x7, x8, x9, x10, x11, x12, x13, x14, x15] := by simp [h]
theorem l3g {x0 x1 x2 x4 x5 x6 x7 x8 x9 x10 x11 x12 x13 x14 x15 : Option Sl} (F : FFn) (d : D) (h : F [.fz d] = .ok (.fz (.bl true)) [none]) : (sif (tnot (trt (callF [.rd] F (acons (rdv 3) anil)))) (sret (kst (.bl false))) RS.nx) [x0, x1, x2, some (.fz (d)), x4, x5, x6, x7, x8, x9, x10, x11, x12, x13, x14, x15] = .nx [x0, x1, x2, some (.fz (d)), x4, x5, x6, x7, x8, x9, x10, x11, x12, x13, x14, x15] := by
  simp [h]
theorem l3 {x0 x1 x2 x4 x5 x6 x7 x8 x9 x10 x11 x12 x13 x14 x15 : Option Sl} {xs : List Int} (hl : xs.length ≤ 1000000) (hb : ∀ x ∈ xs, x.natAbs < 2 ^ 63) : m_law_3 [x0, x1, x2, some (.fz (IL xs)), x4, x5, x6, x7, x8, x9, x10, x11, x12, x13, x14, x15] = .nx [x0, x1, x2, some (.fz (IL xs)), x4, x5, x6, x7, x8, x9, x10, x11, x12, x13, x14, x15] := by
  unfold m_law_3
  exact l3g _ _ (l_long hl hb)
theorem l3s {x0 x1 x2 x4 x5 x6 x7 x8 x9 x10 x11 x12 x13 x14 x15 : Option Sl} : ∀ (ds : List D) (x3 : Option Sl), (∀ d ∈ ds, ∃ xs : List Int, d = IL xs ∧ xs.length ≤ 1000000 ∧ ∀ x ∈ xs, x.natAbs < 2 ^ 63) → okB (some x3) = true →
    ∃ x3', okB (some x3') = true ∧ forL (bindD 3) m_law_3 ds [x0, x1, x2, x3, x4, x5, x6, x7, x8, x9, x10, x11, x12, x13, x14, x15] = .nx [x0, x1, x2, x3', x4, x5, x6, x7, x8, x9, x10, x11, x12, x13, x14, x15]
  | [], x3, _, h => ⟨x3, h, rfl⟩
  | d :: ds, x3, H, h => by
    obtain ⟨xs, rfl, h1, h2⟩ := H d List.mem_cons_self
    obtain ⟨x3', h3, h4⟩ := l3s (x0 := x0) (x1 := x1) (x2 := x2) (x4 := x4) (x5 := x5) (x6 := x6) (x7 := x7) (x8 := x8) (x9 := x9) (x10 := x10) (x11 := x11) (x12 := x12) (x13 := x13) (x14 := x14) (x15 := x15) ds (some (.fz (IL xs))) (fun d hd => H d (List.mem_cons_of_mem _ hd)) rfl
    refine ⟨x3', h3, ?_⟩
    have e := l3 (x0 := x0) (x1 := x1) (x2 := x2) (x4 := x4) (x5 := x5) (x6 := x6) (x7 := x7) (x8 := x8) (x9 := x9) (x10 := x10) (x11 := x11) (x12 := x12) (x13 := x13) (x14 := x14) (x15 := x15) h1 h2
    exact (forL_cons (bind3 (IL xs) h) e).trans h4
end Lw

namespace Lw
open PySem L2 PL Mi
theorem lc_ints {i : Nat} {fe : FE} (E : En) (hE : E[i]? = some none) (n : Nat) (hn : n ≤ 16777216) (v : Int → Int)
    (H : ∀ k : Nat, k < n → fe (E.set i (some (.fz (.int (k : Int))))) = .ok (.val (.int (v (k : Int))), E.set i (some (.fz (.int (k : Int)))))) :
    lcL (bindD i) tyes fe [i] (dints 0 n) [] E = .ok (((List.range n).map fun (k : Nat) => v (k : Int)).map D.int, E) := by
  have h := lcL_pure (i := i) (tt := tyes) (fe := fe) E hE (fun _ => true) (fun d => match d with | .int k => .int (v k) | _ => .non) (dints 0 n) [] ?_ (by simp [dints]; omega)
  · rw [h, List.filter_eq_self.mpr (fun _ _ => rfl), dints_0]
    simp only [List.map_map, List.nil_append]
    rfl
  · intro d hd
    rw [dints_0] at hd
    obtain ⟨k, hk, rfl⟩ := List.mem_map.mp hd
    exact ⟨rfl, fun _ => H k (List.mem_range.mp hk)⟩
def jv (t : Int) : Int := 37 * t - 37 * t / 101 * 101 - 50
theorem e_jag (E : En) (t : Int) (h : E[2]? = some (some (.fz (.int t)))) : m_law_1 E = .ok (.val (.int (jv t)), E) := by
  have k1 : Mk 37 := mk_of (by decide) (by decide)
  have k2 : Mk 101 := mk_of (by decide) (by decide)
  have k3 : Dk 101 := dk_of (by decide) (by decide)
  simp [m_law_1, h, k1, k2, k3, jv]
theorem e_half (E : En) (t : Int) (h : E[2]? = some (some (.fz (.int t)))) : m_law_2 E = .ok (.val (.int (t / 2)), E) := by
  have k3 : Dk 2 := dk_of (by decide) (by decide)
  simp [m_law_2, h, k3]
def R01 : List D := (List.replicate (1000 : Int).toNat [D.int 0, D.int 1]).flatten
theorem gm : gMul (.lst [.int 0, .int 1]) (.int 1000) = some (.new (.lst R01)) := by
  rw [x_mulL, if_pos ⟨by decide, by decide, by rw [sl_eq]; decide⟩]
  rfl
theorem R01_ints : ∃ xs : List Int, R01 = xs.map D.int ∧ xs.length ≤ 1000000 ∧ ∀ x ∈ xs, x.natAbs < 2 ^ 63 := by
  unfold R01
  have e : (1000 : Int).toNat = 1000 := rfl
  rw [e]
  have : ∀ n : Nat, n ≤ 1000 → ∃ xs : List Int, (List.replicate n [D.int 0, D.int 1]).flatten = xs.map D.int ∧ xs.length = 2 * n ∧ ∀ x ∈ xs, x.natAbs < 2 ^ 63 := by
    intro n
    induction n with
    | zero => intro _; exact ⟨[], rfl, rfl, by simp⟩
    | succ n ih =>
      intro hn
      obtain ⟨xs, h1, h2, h3⟩ := ih (by omega)
      refine ⟨0 :: 1 :: xs, ?_, by simp [h2]; omega, ?_⟩
      · rw [List.replicate_succ, List.flatten_cons, h1]; rfl
      · intro x hx
        simp only [List.mem_cons] at hx
        rcases hx with rfl | rfl | hx
        · decide
        · decide
        · exact h3 x hx
  obtain ⟨xs, h1, h2, h3⟩ := this 1000 (Nat.le_refl _)
  exact ⟨xs, h1, by omega, h3⟩
theorem s1 (s : D) (M : FE) (js : List D) (n : Int) (h : lcL (bindD 2) tyes M [2] (dints 0 n.toNat) [] [some (.fz (s)), none, none, none, none, none, none, none, none, none, none, none, none, none, none, none] = .ok (js, [some (.fz (s)), none, none, none, none, none, none, none, none, none, none, none, none, none, none, none])) (hr : Rk n) :
    (sasg 1 (vlc (itRng1 (acons (kst (.int n)) anil)) (bindD 2) tyes M [2])) [some (.fz (s)), none, none, none, none, none, none, none, none, none, none, none, none, none, none, none] = .nx [some (.fz (s)), some (.ow (.lst js)), none, none, none, none, none, none, none, none, none, none, none, none, none, none] := by
  simp [h, hr]
theorem s2 (s : D) (M : FE) (B : FS) (js hs R : List D) (n m : Int) (x3 : Option Sl) (h : lcL (bindD 2) tyes M [2] (dints 0 n.toNat) [] [some (.fz (s)), some (.ow (.lst js)), none, none, none, none, none, none, none, none, none, none, none, none, none, none] = .ok (hs, [some (.fz (s)), some (.ow (.lst js)), none, none, none, none, none, none, none, none, none, none, none, none, none, none])) (hr : Rk n) (hl : Rl n) (hm : gMul (.lst [.int 0, .int 1]) (.int m) = some (.new (.lst R)))
    (hB : forL (bindD 3) B [.lst js, .lst (dints 0 n.toNat), .lst hs.reverse, .lst R] [some (.fz (s)), some (.fz (.lst js)), none, none, none, none, none, none, none, none, none, none, none, none, none, none] = .nx [some (.fz (s)), some (.fz (.lst js)), none, x3, none, none, none, none, none, none, none, none, none, none, none, none]) :
    (sfor (itSeq (dsp (fun ds => .val (.tup ds)) (acons (rdv 1) (acons (lsRng1 (kst (.int n))) (acons (uop gRev (vlc (itRng1 (acons (kst (.int n)) anil)) (bindD 2) tyes M [2])) (acons (bop gMul (dsp (fun ds => .new (.lst ds)) (acons (kst (.int 0)) (acons (kst (.int 1)) anil))) (kst (.int m))) anil)))))) (bindD 3) B) [some (.fz (s)), some (.ow (.lst js)), none, none, none, none, none, none, none, none, none, none, none, none, none, none] = .nx [some (.fz (s)), some (.fz (.lst js)), none, x3, none, none, none, none, none, none, none, none, none, none, none, none] := by
  simp [h, hr, hl, hm, hB]
theorem s3 (is : List Int) (B : FS) (n : Int) (e : En) (rest : En) (hn : max 2 (min 6 (is.length : Int)) = n) (hr : Rk n) (h : forL (bindD 4) B (dints 0 n.toNat) (some (.fz (.scr is)) :: rest) = .nx e) :
    (sfor (itRng1 (acons (cbn cMax2 (acons (kst (.int 2)) (acons (cbn cMin2 (acons (kst (.int 6)) (acons (cbn cLen (acons (rdv 0) anil)) anil))) anil))) anil)) (bindD 4) B) (some (.fz (.scr is)) :: rest) = .nx e := by
  simp [hn, hr, h]
theorem law_pure (ns : List Int) : ∃ ms, f_law [.fz (.scr ns)] = .ok (.fz (.bl true)) ms := by
  have h1 := lc_ints (i := 2) (fe := m_law_1) [some (.fz (.scr ns)), none, none, none, none, none, none, none, none, none, none, none, none, none, none, none] rfl (2000 : Int).toNat (by decide) jv (fun k _ => e_jag _ _ rfl)
  have hjl : ((List.range (2000 : Int).toNat).map fun (k : Nat) => jv (k : Int)).length = 2000 := by rw [List.length_map, List.length_range]; rfl
  have hjb : ∀ x ∈ ((List.range (2000 : Int).toNat).map fun (k : Nat) => jv (k : Int)), x.natAbs < 2 ^ 63 := by
    intro x hx
    obtain ⟨k, hk, rfl⟩ := List.mem_map.mp hx
    have hk := List.mem_range.mp hk
    have : (2000 : Int).toNat = 2000 := rfl
    unfold jv; omega
  generalize ((List.range (2000 : Int).toNat).map fun (k : Nat) => jv (k : Int)) = js at h1 hjl hjb
  have h2 := lc_ints (i := 2) (fe := m_law_2) [some (.fz (.scr ns)), some (.ow (.lst (js.map D.int))), none, none, none, none, none, none, none, none, none, none, none, none, none, none] rfl (2000 : Int).toNat (by decide) (fun t => t / 2) (fun k _ => e_half _ _ rfl)
  have hhl : ((List.range (2000 : Int).toNat).map fun (k : Nat) => (k : Int) / 2).length = 2000 := by rw [List.length_map, List.length_range]; rfl
  have hhb : ∀ x ∈ ((List.range (2000 : Int).toNat).map fun (k : Nat) => (k : Int) / 2), x.natAbs < 2 ^ 63 := by
    intro x hx
    obtain ⟨k, hk, rfl⟩ := List.mem_map.mp hx
    have hk := List.mem_range.mp hk
    have : (2000 : Int).toNat = 2000 := rfl
    omega
  generalize ((List.range (2000 : Int).toNat).map fun (k : Nat) => (k : Int) / 2) = hs at h2 hhl hhb
  obtain ⟨rs, hr1, hr2, hr3⟩ := R01_ints
  obtain ⟨x3, g3, h3⟩ := l3s (x0 := some (.fz (.scr ns))) (x1 := some (.fz (.lst (js.map D.int)))) (x2 := none) (x4 := none) (x5 := none) (x6 := none) (x7 := none) (x8 := none) (x9 := none) (x10 := none) (x11 := none) (x12 := none) (x13 := none) (x14 := none) (x15 := none)
    [.lst (js.map D.int), .lst (dints 0 (2000 : Int).toNat), .lst (hs.map D.int).reverse, .lst R01] none (by
      intro d hd
      simp only [List.mem_cons, List.not_mem_nil, or_false] at hd
      rcases hd with rfl | rfl | rfl | rfl
      · exact ⟨js, rfl, by omega, hjb⟩
      · refine ⟨(List.range (2000 : Int).toNat).map fun (k : Nat) => (k : Int), ?_, ?_, ?_⟩
        · show D.lst _ = D.lst (List.map D.int (List.map _ _))
          rw [dints_0, List.map_map]; rfl
        · rw [List.length_map, List.length_range]; decide
        · intro x hx
          obtain ⟨k, hk, rfl⟩ := List.mem_map.mp hx
          have hk := List.mem_range.mp hk
          have : (2000 : Int).toNat = 2000 := rfl
          omega
      · exact ⟨hs.reverse, by rw [← List.map_reverse], by rw [List.length_reverse]; omega, fun x hx => hhb x (List.mem_reverse.mp hx)⟩
      · exact ⟨rs, by rw [hr1], hr2, hr3⟩) rfl
  obtain ⟨n, hn⟩ : ∃ n : Int, max 2 (min 6 (ns.length : Int)) = n := ⟨_, rfl⟩
  have hn2 : 0 ≤ n ∧ n ≤ 6 := by omega
  obtain ⟨e, h4, h5⟩ := l9s (x1 := some (.fz (.lst (js.map D.int)))) ns n.toNat 0 [some (.fz (.scr ns)), some (.fz (.lst (js.map D.int))), none, x3, none, none, none, none, none, none, none, none, none, none, none, none] ⟨none, x3, none, none, none, none, none, none, none, none, none, none, none, none, rfl, rfl, g3, rfl, rfl, rfl, rfl, rfl, rfl, rfl, rfl, rfl, rfl, rfl, rfl⟩
  have hr : (List.range' 0 n.toNat).map (fun (j : Nat) => D.int (j : Int)) = dints 0 n.toNat := by rw [dints_0, List.range_eq_range']
  rw [hr] at h4
  have key : m_law [some (.fz (.scr ns)), none, none, none, none, none, none, none, none, none, none, none, none, none, none, none] = .rt (.fz (.bl true)) e := by
    unfold m_law
    refine (sseq_nx (e := [some (.fz (.scr ns)), some (.ow (.lst (js.map D.int))), none, none, none, none, none, none, none, none, none, none, none, none, none, none]) (s1 _ _ _ _ h1 (rk_of (by decide) (by decide)))).trans ?_
    refine (sseq_nx (e := [some (.fz (.scr ns)), some (.fz (.lst (js.map D.int))), none, x3, none, none, none, none, none, none, none, none, none, none, none, none]) (s2 _ _ _ _ _ _ _ _ _ h2 (rk_of (by decide) (by decide)) (rl_of (by decide) (by decide)) gm h3)).trans ?_
    refine (sseq_nx (e := e) (s3 ns _ n e _ hn (rk_of (by omega) (by omega)) h4)).trans ?_
    rfl
  exact ⟨_, runF_rt (n := 16) (g := m_law) rfl key rfl⟩
end Lw

/-! the walk -/
namespace Wk
open PySem PySem.Spec PyProof.Rows L2 PL Mi
def topS (i : Nat) : Stmt := PySem.Challenge.pw_wearswings_k01_turning_points.main.body.getD i (.Pass ⟨0, 0, 0, 0⟩)
abbrev s_contains : Stmt := topS 1
theorem sc_contains : FnScope ["outer", "inner"] ["outer", "inner"] (defScope s_contains) := ⟨rfl, rfl, rfl, by decide +kernel, rfl, by decide +kernel, by decide +kernel⟩
abbrev s_range_of : Stmt := topS 2
theorem sc_range_of : FnScope ["first", "second"] ["first", "second"] (defScope s_range_of) := ⟨rfl, rfl, rfl, by decide +kernel, rfl, by decide +kernel, by decide +kernel⟩
abbrev s_is_turning : Stmt := topS 3
theorem sc_is_turning : FnScope ["before", "here", "after"] ["before", "here", "after"] (defScope s_is_turning) := ⟨rfl, rfl, rfl, by decide +kernel, rfl, by decide +kernel, by decide +kernel⟩
abbrev s__law_feed : Stmt := topS 7
theorem sc__law_feed : FnScope ["script", "k", "cell", "digits", "state"] ["script", "k"] (defScope s__law_feed) := ⟨rfl, rfl, rfl, by decide +kernel, rfl, by decide +kernel, by decide +kernel⟩
abbrev s__law_take : Stmt := topS 8
theorem sc__law_take : FnScope ["feed", "many", "digit"] ["feed", "many"] (defScope s__law_take) := ⟨rfl, rfl, rfl, by decide +kernel, rfl, by decide +kernel, by decide +kernel⟩
abbrev s__law_points : Stmt := topS 11
theorem sc__law_points : FnScope ["load", "once", "k", "found"] ["load"] (defScope s__law_points) := ⟨rfl, rfl, rfl, by decide +kernel, rfl, by decide +kernel, by decide +kernel⟩
abbrev s__law_range : Stmt := topS 12
theorem sc__law_range : FnScope ["one", "other"] ["one", "other"] (defScope s__law_range) := ⟨rfl, rfl, rfl, by decide +kernel, rfl, by decide +kernel, by decide +kernel⟩
abbrev s__law_holds : Stmt := topS 13
theorem sc__law_holds : FnScope ["outer", "inner"] ["outer", "inner"] (defScope s__law_holds) := ⟨rfl, rfl, rfl, by decide +kernel, rfl, by decide +kernel, by decide +kernel⟩
abbrev s_turning_points : Stmt := topS 4
theorem sc_turning_points : FnScope ["load", "points", "reading"] ["load"] (defScope s_turning_points) := ⟨rfl, rfl, rfl, by decide +kernel, rfl, by decide +kernel, by decide +kernel⟩
abbrev s__law_pick : Stmt := topS 9
theorem sc__law_pick : FnScope ["feed", "some"] ["feed", "some"] (defScope s__law_pick) := ⟨rfl, rfl, rfl, by decide +kernel, rfl, by decide +kernel, by decide +kernel⟩
abbrev s_swings : Stmt := topS 5
theorem sc_swings : FnScope ["load", "points", "k"] ["load"] (defScope s_swings) := ⟨rfl, rfl, rfl, by decide +kernel, rfl, by decide +kernel, by decide +kernel⟩
abbrev s__law_load : Stmt := topS 10
theorem sc__law_load : FnScope ["feed", "most", "size", "way", "few", "turn", "middle", "step", "found"] ["feed", "most"] (defScope s__law_load) := ⟨rfl, rfl, rfl, by decide +kernel, rfl, by decide +kernel, by decide +kernel⟩
abbrev s__law_long_right : Stmt := topS 14
theorem sc__law_long_right : FnScope ["load", "points", "due", "at"] ["load"] (defScope s__law_long_right) := ⟨rfl, rfl, rfl, by decide +kernel, rfl, by decide +kernel, by decide +kernel⟩
abbrev s_law : Stmt := topS 15
theorem sc_law : FnScope ["script", "jagged", "turn", "load", "k", "feed", "points", "seen", "one", "found", "due", "at", "told", "some", "outer", "inner"] ["script"] (defScope s_law) := ⟨rfl, rfl, rfl, by decide +kernel, rfl, by decide +kernel, by decide +kernel⟩
structure Facts (K : PySem.W.Frag) (mg : Str → Option Value) where
  a_contains : Addr
  d_contains : FuncData
  F_contains : Fun K "contains" "contains" s_contains a_contains d_contains
  B_contains : Binds K d_contains ["outer", "inner"] []
  g_contains : mg "contains" = some (.ref a_contains)
  a_range_of : Addr
  d_range_of : FuncData
  F_range_of : Fun K "range_of" "range_of" s_range_of a_range_of d_range_of
  B_range_of : Binds K d_range_of ["first", "second"] []
  g_range_of : mg "range_of" = some (.ref a_range_of)
  a_is_turning : Addr
  d_is_turning : FuncData
  F_is_turning : Fun K "is_turning" "is_turning" s_is_turning a_is_turning d_is_turning
  B_is_turning : Binds K d_is_turning ["before", "here", "after"] []
  g_is_turning : mg "is_turning" = some (.ref a_is_turning)
  a__law_feed : Addr
  d__law_feed : FuncData
  F__law_feed : Fun K "_law_feed" "_law_feed" s__law_feed a__law_feed d__law_feed
  B__law_feed : Binds K d__law_feed ["script", "k"] []
  g__law_feed : mg "_law_feed" = some (.ref a__law_feed)
  a__law_take : Addr
  d__law_take : FuncData
  F__law_take : Fun K "_law_take" "_law_take" s__law_take a__law_take d__law_take
  B__law_take : Binds K d__law_take ["feed", "many"] []
  g__law_take : mg "_law_take" = some (.ref a__law_take)
  a__law_points : Addr
  d__law_points : FuncData
  F__law_points : Fun K "_law_points" "_law_points" s__law_points a__law_points d__law_points
  B__law_points : Binds K d__law_points ["load"] []
  g__law_points : mg "_law_points" = some (.ref a__law_points)
  a__law_range : Addr
  d__law_range : FuncData
  F__law_range : Fun K "_law_range" "_law_range" s__law_range a__law_range d__law_range
  B__law_range : Binds K d__law_range ["one", "other"] []
  g__law_range : mg "_law_range" = some (.ref a__law_range)
  a__law_holds : Addr
  d__law_holds : FuncData
  F__law_holds : Fun K "_law_holds" "_law_holds" s__law_holds a__law_holds d__law_holds
  B__law_holds : Binds K d__law_holds ["outer", "inner"] []
  g__law_holds : mg "_law_holds" = some (.ref a__law_holds)
  a_turning_points : Addr
  d_turning_points : FuncData
  F_turning_points : Fun K "turning_points" "turning_points" s_turning_points a_turning_points d_turning_points
  B_turning_points : Binds K d_turning_points ["load"] []
  g_turning_points : mg "turning_points" = some (.ref a_turning_points)
  a__law_pick : Addr
  d__law_pick : FuncData
  F__law_pick : Fun K "_law_pick" "_law_pick" s__law_pick a__law_pick d__law_pick
  B__law_pick : Binds K d__law_pick ["feed", "some"] []
  g__law_pick : mg "_law_pick" = some (.ref a__law_pick)
  a_swings : Addr
  d_swings : FuncData
  F_swings : Fun K "swings" "swings" s_swings a_swings d_swings
  B_swings : Binds K d_swings ["load"] []
  g_swings : mg "swings" = some (.ref a_swings)
  a__law_load : Addr
  d__law_load : FuncData
  F__law_load : Fun K "_law_load" "_law_load" s__law_load a__law_load d__law_load
  B__law_load : Binds K d__law_load ["feed", "most"] []
  g__law_load : mg "_law_load" = some (.ref a__law_load)
  a__law_long_right : Addr
  d__law_long_right : FuncData
  F__law_long_right : Fun K "_law_long_right" "_law_long_right" s__law_long_right a__law_long_right d__law_long_right
  B__law_long_right : Binds K d__law_long_right ["load"] []
  g__law_long_right : mg "_law_long_right" = some (.ref a__law_long_right)
  a_law : Addr
  d_law : FuncData
  F_law : Fun K "law" "law" s_law a_law d_law
  B_law : Binds K d_law ["script"] []
  g_law : mg "law" = some (.ref a_law)
  z_abs : mg "abs" = none
  z_int : mg "int" = none
  z_len : mg "len" = none
  z_list : mg "list" = none
  z_max : mg "max" = none
  z_min : mg "min" = none
  z_range : mg "range" = none
  z_repr : mg "repr" = none
  z_tuple : mg "tuple" = none
section
variable {P : Program} {w : World} {K : PySem.W.Frag} {mg : Str → Option Value} {base : Heap}
theorem ok_contains (T : Facts K mg) : FnOk P w K mg base CX0 1 T.a_contains T.d_contains ["outer", "inner"] (Prom ⟨K, mg⟩ 2 f_contains) :=
  fun_ok (N := ["outer", "inner"]) (ps := ["outer", "inner"]) (np := 2) (k := 0) (g := m_contains) T.F_contains sc_contains rfl fun cdv A outer s H E hr =>
  (bx_one (sx_ret (ex_and (ex_cmp op_le bok_le (ex_ix (ex_v 0) ex_int) (ex_ix (ex_v 1) ex_int) (nomark _)) (ex_one (ex_cmp op_le bok_le (ex_ix (ex_v 1) ex_int) (ex_ix (ex_v 0) ex_int) (nomark _))))))
theorem ok_range_of (T : Facts K mg) : FnOk P w K mg base CX0 1 T.a_range_of T.d_range_of ["first", "second"] (Prom ⟨K, mg⟩ 2 f_range_of) :=
  fun_ok (N := ["first", "second"]) (ps := ["first", "second"]) (np := 2) (k := 0) (g := m_range_of) T.F_range_of sc_range_of rfl fun cdv A outer s H E hr =>
  (bx_one (sx_ret (ex_tup (ax_cons (ex_callB (call_min2 rfl) cok_min2 (by rfl) T.z_min boot_min (ax_cons (ex_v 0) (ax_cons (ex_v 1) ax_nil))) (ax_cons (ex_callB (call_max2 rfl) cok_max2 (by rfl) T.z_max boot_max (ax_cons (ex_v 0) (ax_cons (ex_v 1) ax_nil))) ax_nil)))))
theorem ok_is_turning (T : Facts K mg) : FnOk P w K mg base CX0 1 T.a_is_turning T.d_is_turning ["before", "here", "after"] (Prom ⟨K, mg⟩ 3 f_is_turning) :=
  fun_ok (N := ["before", "here", "after"]) (ps := ["before", "here", "after"]) (np := 3) (k := 0) (g := m_is_turning) T.F_is_turning sc_is_turning rfl fun cdv A outer s H E hr =>
  (bx_one (sx_ret (ex_and (ex_not (ex_chain op_lt bok_lt op_lt bok_lt (ex_v 0) (ex_v 1) (ex_v 2))) (ex_one (ex_not (ex_chain op_gt bok_gt op_gt bok_gt (ex_v 0) (ex_v 1) (ex_v 2)))))))
theorem ok__law_feed (T : Facts K mg) : FnOk P w K mg base CX0 1 T.a__law_feed T.d__law_feed ["script", "k"] (Prom ⟨K, mg⟩ 2 f__law_feed) :=
  fun_ok (N := ["script", "k", "cell", "digits", "state"]) (ps := ["script", "k"]) (np := 2) (k := 0) (g := m__law_feed) T.F__law_feed sc__law_feed rfl fun cdv A outer s H E hr =>
  (bx_cons (sx_asg 2 sc__law_feed.nd (ex_if (tx_cmp op_lt bok_lt (ex_v 1) (ex_callB call_len cok_len (by rfl) T.z_len boot_len (ax_cons (ex_v 0) ax_nil)) (nomark _)) (ex_ix (ex_v 0) (ex_v 1)) (ex_add (ex_mul ex_int (ex_v 1)) ex_int)))
  (bx_cons (sx_asg 3 sc__law_feed.nd (ex_callB (call_max2 rfl) cok_max2 (by rfl) T.z_max boot_max (ax_cons ex_int (ax_cons (ex_sub (ex_callB call_abs cok_abs (by rfl) T.z_abs boot_abs (ax_cons (ex_v 2) ax_nil)) (ex_pow ex_int ex_int)) ax_nil))))
  (bx_cons (sx_asg 4 sc__law_feed.nd (ex_mod (ex_add (ex_add (ex_mul (ex_v 2) ex_int) (ex_mul ex_int (ex_v 1))) ex_int) ex_int))
  (bx_one (sx_ret (ex_lst (ax_cons (ex_v 3) (ax_cons (ex_v 4) ax_nil))))))))
theorem ok__law_take (T : Facts K mg) : FnOk P w K mg base CX0 1 T.a__law_take T.d__law_take ["feed", "many"] (Prom ⟨K, mg⟩ 2 f__law_take) :=
  fun_ok (N := ["feed", "many", "digit"]) (ps := ["feed", "many"]) (np := 2) (k := 0) (g := m__law_take) T.F__law_take sc__law_take rfl fun cdv A outer s H E hr =>
  (bx_cons (sx_if (tx_cmp op_gt bok_gt (ex_ix (ex_v 0) ex_int) ex_int (nomark _)) (bx_cons (sx_asg 2 sc__law_take.nd (ex_mod (ex_ix (ex_v 0) ex_int) (ex_v 1)))
  (bx_cons (sx_setix 0 (ex_div (ex_ix (ex_v 0) ex_int) (ex_v 1)) ex_int)
  (bx_one (sx_ret (ex_v 2))))) bx_nil)
  (bx_cons (sx_setix 0 (ex_mod (ex_add (ex_mul (ex_ix (ex_v 0) ex_int) ex_int) ex_int) ex_int) ex_int)
  (bx_one (sx_ret (ex_mod (ex_div (ex_ix (ex_v 0) ex_int) ex_int) (ex_v 1))))))
theorem ok__law_points (T : Facts K mg) : FnOk P w K mg base CX0 1 T.a__law_points T.d__law_points ["load"] (Prom ⟨K, mg⟩ 1 f__law_points) :=
  fun_ok (N := ["load", "once", "k", "found"]) (ps := ["load"]) (np := 1) (k := 0) (g := m__law_points) T.F__law_points sc__law_points rfl fun cdv A outer s H E hr =>
  (bx_cons (sx_setLc 1 (own := [("k", 2)]) rfl sc__law_points.nd (sw_true rfl rfl rfl (by decide +kernel)) (ix_rng1 (by rfl) T.z_range (ax_cons (ex_callB call_len cok_len (by rfl) T.z_len boot_len (ax_cons (ex_v 0) ax_nil)) ax_nil)) (blkOk_by (N := ["load", "once", "k", "found"]) (sc := defScope s__law_points) (by decide +kernel)) (fun _ _ _ _ _ => (gx_name 2 sc__law_points.nd)) (fun _ _ _ _ _ => (tsx_one (tx_w (wx_or (tx_cmp (op_eq.or (op_eqD (hr.units))) bok_eq (ex_v 2) ex_int (nomark _)) (wx_or1 (tx_cmp (op_ne.or (op_neD (hr.units))) bok_ne (ex_ix (ex_v 0) (ex_v 2)) (ex_ix (ex_v 0) (ex_sub (ex_v 2) ex_int)) (nomark _))))))) (fun _ _ _ _ _ => (ex_ix (ex_v 0) (ex_v 2))) (by decide))
  (bx_cons (sx_asg 3 sc__law_points.nd (ex_slice (ex_v 1) ox_none (ox_some ex_int)))
  (bx_cons (sx_for PassesOwn.never rfl (ix_rng2 (by rfl) T.z_range (ax_cons ex_int (ax_cons (ex_sub (ex_callB call_len cok_len (by rfl) T.z_len boot_len (ax_cons (ex_v 1) ax_nil)) ex_int) ax_nil))) (gx_name 2 sc__law_points.nd) (bx_one (sx_if (tx_cmp (op_eq.or (op_eqD (hr.units))) bok_eq (ex_cmp op_gt bok_gt (ex_ix (ex_v 1) (ex_v 2)) (ex_ix (ex_v 1) (ex_sub (ex_v 2) ex_int)) (nomark _)) (ex_cmp op_gt bok_gt (ex_ix (ex_v 1) (ex_v 2)) (ex_ix (ex_v 1) (ex_add (ex_v 2) ex_int)) (nomark _)) (nomark _)) (bx_one (sx_exp (ex_mth 3 mok_app PySem.F.slot_list_append PySem.F.type_list_append mt_append (ax_cons (ex_ix (ex_v 1) (ex_v 2)) ax_nil)))) bx_nil)) bindD_nx)
  (bx_one (sx_ret (ex_add (ex_v 3) (ex_slice (ex_v 1) (ox_some (ex_sub (ex_callB call_len cok_len (by rfl) T.z_len boot_len (ax_cons (ex_v 1) ax_nil)) (ex_callTy call_int1 cok_int (by rfl) T.z_int boot_int (ax_cons (ex_cmp op_gt bok_gt (ex_callB call_len cok_len (by rfl) T.z_len boot_len (ax_cons (ex_v 1) ax_nil)) ex_int (nomark _)) ax_nil)))) ox_none)))))))
theorem ok__law_range (T : Facts K mg) : FnOk P w K mg base CX0 1 T.a__law_range T.d__law_range ["one", "other"] (Prom ⟨K, mg⟩ 2 f__law_range) :=
  fun_ok (N := ["one", "other"]) (ps := ["one", "other"]) (np := 2) (k := 0) (g := m__law_range) T.F__law_range sc__law_range rfl fun cdv A outer s H E hr =>
  (bx_one (sx_ret (ex_tup (ax_cons (ex_callB (call_min2 rfl) cok_min2 (by rfl) T.z_min boot_min (ax_cons (ex_v 0) (ax_cons (ex_v 1) ax_nil))) (ax_cons (ex_callB (call_max2 rfl) cok_max2 (by rfl) T.z_max boot_max (ax_cons (ex_v 0) (ax_cons (ex_v 1) ax_nil))) ax_nil)))))
theorem ok__law_holds (T : Facts K mg) : FnOk P w K mg base CX0 1 T.a__law_holds T.d__law_holds ["outer", "inner"] (Prom ⟨K, mg⟩ 2 f__law_holds) :=
  fun_ok (N := ["outer", "inner"]) (ps := ["outer", "inner"]) (np := 2) (k := 0) (g := m__law_holds) T.F__law_holds sc__law_holds rfl fun cdv A outer s H E hr =>
  (bx_one (sx_ret (ex_and (ex_cmp op_le bok_le (ex_ix (ex_v 0) ex_int) (ex_ix (ex_v 1) ex_int) (nomark _)) (ex_one (ex_cmp op_le bok_le (ex_ix (ex_v 1) ex_int) (ex_ix (ex_v 0) ex_int) (nomark _))))))
theorem ok_turning_points (T : Facts K mg) : FnOk P w K mg base CX0 2 T.a_turning_points T.d_turning_points ["load"] (Prom ⟨K, mg⟩ 1 f_turning_points) :=
  fun_ok (N := ["load", "points", "reading"]) (ps := ["load"]) (np := 1) (k := 1) (g := m_turning_points) T.F_turning_points sc_turning_points rfl fun cdv A outer s H E hr =>
  (bx_cons (sx_asg 1 sc_turning_points.nd (ex_lst ax_nil))
  (bx_cons (sx_for PassesOwn.never rfl (ix_seq' (ex_v 0)) (gx_name 2 sc_turning_points.nd) (bx_cons (sx_if (tx_w (wx_and (tx_cmp (op_ne.or (op_neD (hr.units))) bok_ne (ex_v 1) (ex_lst ax_nil) (nomark _)) (wx_and1 (tx_cmp (op_eq.or (op_eqD (hr.units))) bok_eq (ex_v 2) (ex_ix (ex_v 1) (ex_neg ex_int)) (nomark _))))) (bx_one sx_cont) bx_nil)
  (bx_cons (sx_if (tx_w (wx_and (tx_cmp op_gt bok_gt (ex_callB call_len cok_len (by rfl) T.z_len boot_len (ax_cons (ex_v 1) ax_nil)) ex_int (nomark _)) (wx_and1 (tx_not (tx_tru (ex_call (ms := [.rd, .rd, .rd]) (ok_is_turning T) rfl (hr.mono (by decide)) (by rfl) T.g_is_turning T.F_is_turning.kp T.B_is_turning (ax_cons (ex_ix (ex_v 1) (ex_neg ex_int)) (ax_cons (ex_ix (ex_v 1) (ex_neg ex_int)) (ax_cons (ex_v 2) ax_nil))))))))) (bx_one (sx_exp (ex_mth0 1 mok_pop PySem.F.slot_list_pop PySem.F.type_list_pop mt_pop))) bx_nil)
  (bx_one (sx_exp (ex_mth 1 mok_app PySem.F.slot_list_append PySem.F.type_list_append mt_append (ax_cons (ex_v 2) ax_nil)))))) bindD_nx)
  (bx_one (sx_ret (ex_callTy call_tuple_of cok_tuple (by rfl) T.z_tuple boot_tuple (ax_cons (ex_v 1) ax_nil))))))
theorem ok__law_pick (T : Facts K mg) : FnOk P w K mg base CX0 2 T.a__law_pick T.d__law_pick ["feed", "some"] (Prom ⟨K, mg⟩ 2 f__law_pick) :=
  fun_ok (N := ["feed", "some"]) (ps := ["feed", "some"]) (np := 2) (k := 1) (g := m__law_pick) T.F__law_pick sc__law_pick rfl fun cdv A outer s H E hr =>
  (bx_one (sx_ret (ex_ix (ex_v 1) (ex_call (ms := [.mt, .rd]) (ok__law_take T) rfl (hr.mono (by decide)) (by rfl) T.g__law_take T.F__law_take.kp T.B__law_take (ax_cons (ex_v 0) (ax_cons (ex_callB call_len cok_len (by rfl) T.z_len boot_len (ax_cons (ex_v 1) ax_nil)) ax_nil))))))
theorem ok_swings (T : Facts K mg) : FnOk P w K mg base CX0 3 T.a_swings T.d_swings ["load"] (Prom ⟨K, mg⟩ 1 f_swings) :=
  fun_ok (N := ["load", "points", "k"]) (ps := ["load"]) (np := 1) (k := 2) (g := m_swings) T.F_swings sc_swings rfl fun cdv A outer s H E hr =>
  (bx_cons (sx_asg 1 sc_swings.nd (ex_call (ms := [.rd]) (ok_turning_points T) rfl (hr.mono (by decide)) (by rfl) T.g_turning_points T.F_turning_points.kp T.B_turning_points (ax_cons (ex_v 0) ax_nil)))
  (bx_one (sx_ret (ex_lc (own := [("k", 2)]) rfl sc_swings.nd (ix_rng1 (by rfl) T.z_range (ax_cons (ex_sub (ex_callB call_len cok_len (by rfl) T.z_len boot_len (ax_cons (ex_v 1) ax_nil)) ex_int) ax_nil)) (blkOk_by (N := ["load", "points", "k"]) (sc := defScope s_swings) (by decide +kernel)) (fun _ _ _ _ _ => (gx_name 2 sc_swings.nd)) (fun _ _ _ _ _ => tsx_nil) (fun _ _ _ _ _ => (ex_call (ms := [.rd, .rd]) (ok_range_of T) rfl (hr.mono (by decide)) (by rfl) T.g_range_of T.F_range_of.kp T.B_range_of (ax_cons (ex_ix (ex_v 1) (ex_v 2)) (ax_cons (ex_ix (ex_v 1) (ex_add (ex_v 2) ex_int)) ax_nil)))) (by decide)))))
theorem ok__law_load (T : Facts K mg) : FnOk P w K mg base CX0 3 T.a__law_load T.d__law_load ["feed", "most"] (Prom ⟨K, mg⟩ 2 f__law_load) :=
  fun_ok (N := ["feed", "most", "size", "way", "few", "turn", "middle", "step", "found"]) (ps := ["feed", "most"]) (np := 2) (k := 2) (g := m__law_load) T.F__law_load sc__law_load rfl fun cdv A outer s H E hr =>
  (bx_cons (sx_asg 2 sc__law_load.nd (ex_call (ms := [.mt, .rd]) (ok__law_take T) rfl (hr.mono (by decide)) (by rfl) T.g__law_take T.F__law_take.kp T.B__law_take (ax_cons (ex_v 0) (ax_cons (ex_add (ex_v 1) ex_int) ax_nil))))
  (bx_cons (sx_asg 3 sc__law_load.nd (ex_call (ms := [.mt, .rd]) (ok__law_take T) rfl (hr.mono (by decide)) (by rfl) T.g__law_take T.F__law_take.kp T.B__law_take (ax_cons (ex_v 0) (ax_cons ex_int ax_nil))))
  (bx_cons (sx_if (tx_cmp op_lt bok_lt (ex_v 3) ex_int (nomark _)) (bx_cons (sx_asg 4 sc__law_load.nd (ex_call (ms := [.mt, .rd]) (ok__law_pick T) rfl (hr.mono (by decide)) (by rfl) T.g__law_pick T.F__law_pick.kp T.B__law_pick (ax_cons (ex_v 0) (ax_cons (ex_lst (ax_cons ex_int (ax_cons ex_int (ax_cons ex_int (ax_cons ex_int ax_nil))))) ax_nil))))
  (bx_one (sx_ret (ex_lc (own := [("turn", 5)]) rfl sc__law_load.nd (ix_rng1 (by rfl) T.z_range (ax_cons (ex_v 2) ax_nil)) (blkOk_by (N := ["feed", "most", "size", "way", "few", "turn", "middle", "step", "found"]) (sc := defScope s__law_load) (by decide +kernel)) (fun _ _ _ _ _ => (gx_name 5 sc__law_load.nd)) (fun _ _ _ _ _ => tsx_nil) (fun _ _ _ _ _ => (ex_call (ms := [.mt, .rd]) (ok__law_take T) rfl (hr.mono (by decide)) (by rfl) T.g__law_take T.F__law_take.kp T.B__law_take (ax_cons (ex_v 0) (ax_cons (ex_v 4) ax_nil)))) (by decide))))) bx_nil)
  (bx_cons (sx_if (tx_cmp (op_eq.or (op_eqD (hr.units))) bok_eq (ex_v 3) ex_int (nomark _)) (bx_one (sx_ret (ex_lc (own := [("turn", 5)]) rfl sc__law_load.nd (ix_rng1 (by rfl) T.z_range (ax_cons (ex_v 2) ax_nil)) (blkOk_by (N := ["feed", "most", "size", "way", "few", "turn", "middle", "step", "found"]) (sc := defScope s__law_load) (by decide +kernel)) (fun _ _ _ _ _ => (gx_name 5 sc__law_load.nd)) (fun _ _ _ _ _ => tsx_nil) (fun _ _ _ _ _ => (ex_sub (ex_call (ms := [.mt, .rd]) (ok__law_take T) rfl (hr.mono (by decide)) (by rfl) T.g__law_take T.F__law_take.kp T.B__law_take (ax_cons (ex_v 0) (ax_cons (ex_add (ex_mul ex_int (ex_pow ex_int ex_int)) ex_int) ax_nil))) (ex_pow ex_int ex_int))) (by decide)))) bx_nil)
  (bx_cons (sx_if (tx_cmp (op_eq.or (op_eqD (hr.units))) bok_eq (ex_v 3) ex_int (nomark _)) (bx_cons (sx_par3 6 7 8 rfl sc__law_load.nd (ux_cons W0.keep (ex_call (ms := [.mt, .rd]) (ok__law_take T) rfl (hr.mono (by decide)) (by rfl) T.g__law_take T.F__law_take.kp T.B__law_take (ax_cons (ex_v 0) (ax_cons (ex_add (ex_v 2) ex_int) ax_nil))) (ux_cons W0.keep (ex_call (ms := [.mt, .rd]) (ok__law_pick T) rfl (hr.mono (by decide)) (by rfl) T.g__law_pick T.F__law_pick.kp T.B__law_pick (ax_cons (ex_v 0) (ax_cons (ex_lst (ax_cons ex_int (ax_cons ex_int (ax_cons (ex_neg ex_int) ax_nil)))) ax_nil))) (ux_cons W0.keep (ex_lst ax_nil) ux_nil))) (by rfl))
  (bx_cons (sx_for PassesOwn.never rfl (ix_rng1 (by rfl) T.z_range (ax_cons (ex_v 2) ax_nil)) (gx_name 5 sc__law_load.nd) (bx_cons (sx_exp (ex_mth 8 mok_app PySem.F.slot_list_append PySem.F.type_list_append mt_append (ax_cons (ex_mul (ex_v 7) (ex_callB (call_min2 rfl) cok_min2 (by rfl) T.z_min boot_min (ax_cons (ex_v 5) (ax_cons (ex_v 6) ax_nil)))) ax_nil)))
  (bx_one (sx_asg 7 sc__law_load.nd (ex_sub ex_int (ex_v 7))))) bindD_nx)
  (bx_one (sx_ret (ex_v 8))))) bx_nil)
  (bx_cons (sx_if (tx_cmp (op_eq.or (op_eqD (hr.units))) bok_eq (ex_v 3) ex_int (nomark _)) (bx_one (sx_ret (ex_lc (own := [("turn", 5)]) rfl sc__law_load.nd (ix_rng1 (by rfl) T.z_range (ax_cons (ex_v 2) ax_nil)) (blkOk_by (N := ["feed", "most", "size", "way", "few", "turn", "middle", "step", "found"]) (sc := defScope s__law_load) (by decide +kernel)) (fun _ _ _ _ _ => (gx_name 5 sc__law_load.nd)) (fun _ _ _ _ _ => tsx_nil) (fun _ _ _ _ _ => (ex_sub (ex_div (ex_v 5) ex_int) (ex_call (ms := [.mt, .rd]) (ok__law_take T) rfl (hr.mono (by decide)) (by rfl) T.g__law_take T.F__law_take.kp T.B__law_take (ax_cons (ex_v 0) (ax_cons ex_int ax_nil))))) (by decide)))) bx_nil)
  (bx_one (sx_ret (ex_lc (own := [("turn", 5)]) rfl sc__law_load.nd (ix_rng1 (by rfl) T.z_range (ax_cons (ex_v 2) ax_nil)) (blkOk_by (N := ["feed", "most", "size", "way", "few", "turn", "middle", "step", "found"]) (sc := defScope s__law_load) (by decide +kernel)) (fun _ _ _ _ _ => (gx_name 5 sc__law_load.nd)) (fun _ _ _ _ _ => tsx_nil) (fun _ _ _ _ _ => (ex_call (ms := [.mt, .rd]) (ok__law_pick T) rfl (hr.mono (by decide)) (by rfl) T.g__law_pick T.F__law_pick.kp T.B__law_pick (ax_cons (ex_v 0) (ax_cons (ex_lst (ax_cons ex_int (ax_cons (ex_neg ex_int) (ax_cons ex_int (ax_cons ex_int ax_nil))))) ax_nil)))) (by decide))))))))))
theorem ok__law_long_right (T : Facts K mg) : FnOk P w K mg base CX0 4 T.a__law_long_right T.d__law_long_right ["load"] (Prom ⟨K, mg⟩ 1 f__law_long_right) :=
  fun_ok (N := ["load", "points", "due", "at"]) (ps := ["load"]) (np := 1) (k := 3) (g := m__law_long_right) T.F__law_long_right sc__law_long_right rfl fun cdv A outer s H E hr =>
  (bx_cons (sx_asg 1 sc__law_long_right.nd (ex_call (ms := [.rd]) (ok__law_points T) rfl (hr.mono (by decide)) (by rfl) T.g__law_points T.F__law_points.kp T.B__law_points (ax_cons (ex_v 0) ax_nil)))
  (bx_cons (sx_if (tx_cmp (op_ne.or (op_neD (hr.units))) bok_ne (ex_call (ms := [.rd]) (ok_turning_points T) rfl (hr.mono (by decide)) (by rfl) T.g_turning_points T.F_turning_points.kp T.B_turning_points (ax_cons (ex_v 0) ax_nil)) (ex_callTy call_tuple_of cok_tuple (by rfl) T.z_tuple boot_tuple (ax_cons (ex_v 1) ax_nil)) (nomark _)) (bx_one (sx_ret ex_bl)) bx_nil)
  (bx_cons (sx_setLc 2 (own := [("at", 3)]) rfl sc__law_long_right.nd (sw_true rfl rfl rfl (by decide +kernel)) (ix_rng1 (by rfl) T.z_range (ax_cons (ex_sub (ex_callB call_len cok_len (by rfl) T.z_len boot_len (ax_cons (ex_v 1) ax_nil)) ex_int) ax_nil)) (blkOk_by (N := ["load", "points", "due", "at"]) (sc := defScope s__law_long_right) (by decide +kernel)) (fun _ _ _ _ _ => (gx_name 3 sc__law_long_right.nd)) (fun _ _ _ _ _ => tsx_nil) (fun _ _ _ _ _ => (ex_call (ms := [.rd, .rd]) (ok__law_range T) rfl (hr.mono (by decide)) (by rfl) T.g__law_range T.F__law_range.kp T.B__law_range (ax_cons (ex_ix (ex_v 1) (ex_v 3)) (ax_cons (ex_ix (ex_v 1) (ex_add (ex_v 3) ex_int)) ax_nil)))) (by decide))
  (bx_one (sx_ret (ex_cmp (op_eq.or (op_eqD (hr.units))) bok_eq (ex_call (ms := [.rd]) (ok_swings T) rfl (hr.mono (by decide)) (by rfl) T.g_swings T.F_swings.kp T.B_swings (ax_cons (ex_v 0) ax_nil)) (ex_v 2) (nomark _)))))))
theorem ok_law (T : Facts K mg) : GnOk P w K mg base 5 T.a_law T.d_law ["script"] (Prom ⟨K, mg⟩ 1 f_law) :=
  gn_ok (N := ["script", "jagged", "turn", "load", "k", "feed", "points", "seen", "one", "found", "due", "at", "told", "some", "outer", "inner"]) (ps := ["script"]) (np := 1) (k := 4) (g := m_law) T.F_law sc_law rfl fun cdv A outer s H hg hr =>
  (bx_cons (sx_setLc 1 (own := [("turn", 2)]) rfl sc_law.nd (sw_true rfl rfl rfl (by decide +kernel)) (ix_rng1 (by rfl) T.z_range (ax_cons ex_int ax_nil)) (blkOk_by (N := ["script", "jagged", "turn", "load", "k", "feed", "points", "seen", "one", "found", "due", "at", "told", "some", "outer", "inner"]) (sc := defScope s_law) (by decide +kernel)) (fun _ _ _ _ _ => (gx_name 2 sc_law.nd)) (fun _ _ _ _ _ => tsx_nil) (fun _ _ _ _ _ => (ex_sub (ex_sub (ex_mul ex_int (ex_v 2)) (ex_mul (ex_div (ex_mul ex_int (ex_v 2)) ex_int) ex_int)) ex_int)) (by decide))
  (bx_cons (sx_for PassesOwn.never rfl (ix_seq' (ex_tup (ax_cons (ex_v 1) (ax_cons (ex_lsRng1 (by rfl) (by rfl) T.z_list (by rfl) T.z_range ex_int) (ax_cons (ex_revL (ex_lc (own := [("turn", 2)]) rfl sc_law.nd (ix_rng1 (by rfl) T.z_range (ax_cons ex_int ax_nil)) (blkOk_by (N := ["script", "jagged", "turn", "load", "k", "feed", "points", "seen", "one", "found", "due", "at", "told", "some", "outer", "inner"]) (sc := defScope s_law) (by decide +kernel)) (fun _ _ _ _ _ => (gx_name 2 sc_law.nd)) (fun _ _ _ _ _ => tsx_nil) (fun _ _ _ _ _ => (ex_div (ex_v 2) ex_int)) (by decide))) (ax_cons (ex_mul (ex_lst (ax_cons ex_int (ax_cons ex_int ax_nil))) ex_int) ax_nil)))))) (gx_name 3 sc_law.nd) (bx_one (sx_if (tx_not (tx_tru (ex_call (ms := [.rd]) (ok__law_long_right T) rfl (hr.mono (by decide)) (by rfl) T.g__law_long_right T.F__law_long_right.kp T.B__law_long_right (ax_cons (ex_v 3) ax_nil)))) (bx_one (sx_ret ex_bl)) bx_nil)) bindD_nx)
  (bx_cons (sx_for PassesOwn.never rfl (ix_rng1 (by rfl) T.z_range (ax_cons (ex_callB (call_max2 rfl) cok_max2 (by rfl) T.z_max boot_max (ax_cons ex_int (ax_cons (ex_callB (call_min2 rfl) cok_min2 (by rfl) T.z_min boot_min (ax_cons ex_int (ax_cons (ex_callB call_len cok_len (by rfl) T.z_len boot_len (ax_cons (ex_v 0) ax_nil)) ax_nil))) ax_nil))) ax_nil)) (gx_name 4 sc_law.nd) (bx_cons (sx_asg 5 sc_law.nd (ex_call (ms := [.rd, .rd]) (ok__law_feed T) rfl (hr.mono (by decide)) (by rfl) T.g__law_feed T.F__law_feed.kp T.B__law_feed (ax_cons (ex_v 0) (ax_cons (ex_v 4) ax_nil))))
  (bx_one (sx_for PassesOwn.never rfl (ix_rng1 (by rfl) T.z_range (ax_cons ex_int ax_nil)) (gx_name 2 sc_law.nd) (bx_cons (sx_asg 3 sc_law.nd (ex_call (ms := [.mt, .rd]) (ok__law_load T) rfl (hr.mono (by decide)) (by rfl) T.g__law_load T.F__law_load.kp T.B__law_load (ax_cons (ex_v 5) (ax_cons ex_int ax_nil))))
  (bx_cons (sx_asg 6 sc_law.nd (ex_call (ms := [.rd]) (ok__law_points T) rfl (hr.mono (by decide)) (by rfl) T.g__law_points T.F__law_points.kp T.B__law_points (ax_cons (ex_v 3) ax_nil)))
  (bx_cons (sx_asg 7 sc_law.nd (ex_callB (call_reprD hg (hr.units)) cok_repr (by rfl) T.z_repr boot_repr (ax_cons (ex_v 3) ax_nil)))
  (bx_cons (sx_for PassesOwn.never rfl (ix_seq' (ex_tup (ax_cons (ex_v 3) (ax_cons (ex_callTy call_tuple_of cok_tuple (by rfl) T.z_tuple boot_tuple (ax_cons (ex_v 3) ax_nil)) (ax_cons (ex_v 6) (ax_cons (ex_add (ex_v 3) (ex_slice (ex_v 3) (ox_some (ex_neg ex_int)) ox_none)) ax_nil)))))) (gx_name 8 sc_law.nd) (bx_cons (sx_asg 9 sc_law.nd (ex_call (ms := [.rd]) (ok_turning_points T) rfl (hr.mono (by decide)) (by rfl) T.g_turning_points T.F_turning_points.kp T.B_turning_points (ax_cons (ex_v 8) ax_nil)))
  (bx_cons (sx_if (tx_cmp (op_ne.or (op_neD (hr.units))) bok_ne (ex_callB (call_reprD hg (hr.units)) cok_repr (by rfl) T.z_repr boot_repr (ax_cons (ex_v 9) ax_nil)) (ex_callB (call_reprD hg (hr.units)) cok_repr (by rfl) T.z_repr boot_repr (ax_cons (ex_callTy call_tuple_of cok_tuple (by rfl) T.z_tuple boot_tuple (ax_cons (ex_v 6) ax_nil)) ax_nil)) (nomark _)) (bx_one (sx_ret ex_bl)) bx_nil)
  (bx_cons (sx_setLc 10 (own := [("at", 11)]) rfl sc_law.nd (sw_true rfl rfl rfl (by decide +kernel)) (ix_rng1 (by rfl) T.z_range (ax_cons (ex_sub (ex_callB call_len cok_len (by rfl) T.z_len boot_len (ax_cons (ex_v 6) ax_nil)) ex_int) ax_nil)) (blkOk_by (N := ["script", "jagged", "turn", "load", "k", "feed", "points", "seen", "one", "found", "due", "at", "told", "some", "outer", "inner"]) (sc := defScope s_law) (by decide +kernel)) (fun _ _ _ _ _ => (gx_name 11 sc_law.nd)) (fun _ _ _ _ _ => tsx_nil) (fun _ _ _ _ _ => (ex_call (ms := [.rd, .rd]) (ok__law_range T) rfl (hr.mono (by decide)) (by rfl) T.g__law_range T.F__law_range.kp T.B__law_range (ax_cons (ex_ix (ex_v 6) (ex_v 11)) (ax_cons (ex_ix (ex_v 6) (ex_add (ex_v 11) ex_int)) ax_nil)))) (by decide))
  (bx_cons (sx_asg 12 sc_law.nd (ex_call (ms := [.rd]) (ok_swings T) rfl (hr.mono (by decide)) (by rfl) T.g_swings T.F_swings.kp T.B_swings (ax_cons (ex_v 8) ax_nil)))
  (bx_cons (sx_if (tx_w (wx_or (tx_cmp (op_ne.or (op_neD (hr.units))) bok_ne (ex_callB (call_reprD hg (hr.units)) cok_repr (by rfl) T.z_repr boot_repr (ax_cons (ex_v 12) ax_nil)) (ex_callB (call_reprD hg (hr.units)) cok_repr (by rfl) T.z_repr boot_repr (ax_cons (ex_v 10) ax_nil)) (nomark _)) (wx_or1 (tx_cmp (op_ne.or (op_neD (hr.units))) bok_ne (ex_callB (call_reprD hg (hr.units)) cok_repr (by rfl) T.z_repr boot_repr (ax_cons (ex_v 3) ax_nil)) (ex_v 7) (nomark _))))) (bx_one (sx_ret ex_bl)) bx_nil)
  (bx_one (sx_exp (ex_mth0 12 mok_clear PySem.F.slot_list_clear PySem.F.type_list_clear mt_clear)))))))) bindD_nx)
  (bx_cons (sx_asg 13 sc_law.nd (ex_add (ex_slice (ex_call (ms := [.rd]) (ok_swings T) rfl (hr.mono (by decide)) (by rfl) T.g_swings T.F_swings.kp T.B_swings (ax_cons (ex_v 3) ax_nil)) ox_none (ox_some ex_int)) (ex_lst (ax_cons (ex_tup (ax_cons ex_int (ax_cons ex_int ax_nil))) (ax_cons (ex_tup (ax_cons ex_int (ax_cons ex_int ax_nil))) (ax_cons (ex_tup (ax_cons ex_int (ax_cons ex_int ax_nil))) (ax_cons (ex_tup (ax_cons (ex_neg (ex_pow ex_int ex_int)) (ax_cons (ex_pow ex_int ex_int) ax_nil))) ax_nil)))))))
  (bx_one (sx_for PassesOwn.never rfl (ix_seq' (ex_v 13)) (gx_name 14 sc_law.nd) (bx_one (sx_for PassesOwn.never rfl (ix_seq' (ex_v 13)) (gx_name 15 sc_law.nd) (bx_one (sx_if (tx_cmp (op_ne.or (op_neD (hr.units))) bok_ne (ex_callB (call_reprD hg (hr.units)) cok_repr (by rfl) T.z_repr boot_repr (ax_cons (ex_call (ms := [.rd, .rd]) (ok_contains T) rfl (hr.mono (by decide)) (by rfl) T.g_contains T.F_contains.kp T.B_contains (ax_cons (ex_v 14) (ax_cons (ex_v 15) ax_nil))) ax_nil)) (ex_callB (call_reprD hg (hr.units)) cok_repr (by rfl) T.z_repr boot_repr (ax_cons (ex_call (ms := [.rd, .rd]) (ok__law_holds T) rfl (hr.mono (by decide)) (by rfl) T.g__law_holds T.F__law_holds.kp T.B__law_holds (ax_cons (ex_v 14) (ax_cons (ex_v 15) ax_nil))) ax_nil)) (nomark _)) (bx_one (sx_ret ex_bl)) bx_nil)) bindD_nx)) bindD_nx))))))) bindD_nx))) bindD_nx)
  (bx_one (sx_ret ex_bl)))))
end
theorem all_mk {w : World} {K : PySem.W.Frag} {h : Heap} {mg : Str → Option Value} (X : K.In h) (G : h.Ns mainGlobals mg)
    {a_contains : Addr} {od_contains an_contains : Option Addr} {sl_contains : Array (Option Value)} {oc_contains kV_contains dc_contains pm_contains cd_contains ct_contains : Value}
    (n_contains : PySem.W.nsIn K mainGlobals "contains" = some (some (.ref a_contains))) (l_contains : K.lookup a_contains = some ⟨oc_contains, od_contains, .func (PySem.W.fnOf "contains" "contains" (defArgs s_contains) (defBody s_contains) (defScope s_contains) .none kV_contains dc_contains pm_contains an_contains cd_contains ct_contains), sl_contains⟩) (q_contains : PySem.W.codeIn K cd_contains "contains" = true) (k_contains : PySem.W.keepIn K (.ref a_contains) = true)
    {a_range_of : Addr} {od_range_of an_range_of : Option Addr} {sl_range_of : Array (Option Value)} {oc_range_of kV_range_of dc_range_of pm_range_of cd_range_of ct_range_of : Value}
    (n_range_of : PySem.W.nsIn K mainGlobals "range_of" = some (some (.ref a_range_of))) (l_range_of : K.lookup a_range_of = some ⟨oc_range_of, od_range_of, .func (PySem.W.fnOf "range_of" "range_of" (defArgs s_range_of) (defBody s_range_of) (defScope s_range_of) .none kV_range_of dc_range_of pm_range_of an_range_of cd_range_of ct_range_of), sl_range_of⟩) (q_range_of : PySem.W.codeIn K cd_range_of "range_of" = true) (k_range_of : PySem.W.keepIn K (.ref a_range_of) = true)
    {a_is_turning : Addr} {od_is_turning an_is_turning : Option Addr} {sl_is_turning : Array (Option Value)} {oc_is_turning kV_is_turning dc_is_turning pm_is_turning cd_is_turning ct_is_turning : Value}
    (n_is_turning : PySem.W.nsIn K mainGlobals "is_turning" = some (some (.ref a_is_turning))) (l_is_turning : K.lookup a_is_turning = some ⟨oc_is_turning, od_is_turning, .func (PySem.W.fnOf "is_turning" "is_turning" (defArgs s_is_turning) (defBody s_is_turning) (defScope s_is_turning) .none kV_is_turning dc_is_turning pm_is_turning an_is_turning cd_is_turning ct_is_turning), sl_is_turning⟩) (q_is_turning : PySem.W.codeIn K cd_is_turning "is_turning" = true) (k_is_turning : PySem.W.keepIn K (.ref a_is_turning) = true)
    {a__law_feed : Addr} {od__law_feed an__law_feed : Option Addr} {sl__law_feed : Array (Option Value)} {oc__law_feed kV__law_feed dc__law_feed pm__law_feed cd__law_feed ct__law_feed : Value}
    (n__law_feed : PySem.W.nsIn K mainGlobals "_law_feed" = some (some (.ref a__law_feed))) (l__law_feed : K.lookup a__law_feed = some ⟨oc__law_feed, od__law_feed, .func (PySem.W.fnOf "_law_feed" "_law_feed" (defArgs s__law_feed) (defBody s__law_feed) (defScope s__law_feed) .none kV__law_feed dc__law_feed pm__law_feed an__law_feed cd__law_feed ct__law_feed), sl__law_feed⟩) (q__law_feed : PySem.W.codeIn K cd__law_feed "_law_feed" = true) (k__law_feed : PySem.W.keepIn K (.ref a__law_feed) = true)
    {a__law_take : Addr} {od__law_take an__law_take : Option Addr} {sl__law_take : Array (Option Value)} {oc__law_take kV__law_take dc__law_take pm__law_take cd__law_take ct__law_take : Value}
    (n__law_take : PySem.W.nsIn K mainGlobals "_law_take" = some (some (.ref a__law_take))) (l__law_take : K.lookup a__law_take = some ⟨oc__law_take, od__law_take, .func (PySem.W.fnOf "_law_take" "_law_take" (defArgs s__law_take) (defBody s__law_take) (defScope s__law_take) .none kV__law_take dc__law_take pm__law_take an__law_take cd__law_take ct__law_take), sl__law_take⟩) (q__law_take : PySem.W.codeIn K cd__law_take "_law_take" = true) (k__law_take : PySem.W.keepIn K (.ref a__law_take) = true)
    {a__law_points : Addr} {od__law_points an__law_points : Option Addr} {sl__law_points : Array (Option Value)} {oc__law_points kV__law_points dc__law_points pm__law_points cd__law_points ct__law_points : Value}
    (n__law_points : PySem.W.nsIn K mainGlobals "_law_points" = some (some (.ref a__law_points))) (l__law_points : K.lookup a__law_points = some ⟨oc__law_points, od__law_points, .func (PySem.W.fnOf "_law_points" "_law_points" (defArgs s__law_points) (defBody s__law_points) (defScope s__law_points) .none kV__law_points dc__law_points pm__law_points an__law_points cd__law_points ct__law_points), sl__law_points⟩) (q__law_points : PySem.W.codeIn K cd__law_points "_law_points" = true) (k__law_points : PySem.W.keepIn K (.ref a__law_points) = true)
    {a__law_range : Addr} {od__law_range an__law_range : Option Addr} {sl__law_range : Array (Option Value)} {oc__law_range kV__law_range dc__law_range pm__law_range cd__law_range ct__law_range : Value}
    (n__law_range : PySem.W.nsIn K mainGlobals "_law_range" = some (some (.ref a__law_range))) (l__law_range : K.lookup a__law_range = some ⟨oc__law_range, od__law_range, .func (PySem.W.fnOf "_law_range" "_law_range" (defArgs s__law_range) (defBody s__law_range) (defScope s__law_range) .none kV__law_range dc__law_range pm__law_range an__law_range cd__law_range ct__law_range), sl__law_range⟩) (q__law_range : PySem.W.codeIn K cd__law_range "_law_range" = true) (k__law_range : PySem.W.keepIn K (.ref a__law_range) = true)
    {a__law_holds : Addr} {od__law_holds an__law_holds : Option Addr} {sl__law_holds : Array (Option Value)} {oc__law_holds kV__law_holds dc__law_holds pm__law_holds cd__law_holds ct__law_holds : Value}
    (n__law_holds : PySem.W.nsIn K mainGlobals "_law_holds" = some (some (.ref a__law_holds))) (l__law_holds : K.lookup a__law_holds = some ⟨oc__law_holds, od__law_holds, .func (PySem.W.fnOf "_law_holds" "_law_holds" (defArgs s__law_holds) (defBody s__law_holds) (defScope s__law_holds) .none kV__law_holds dc__law_holds pm__law_holds an__law_holds cd__law_holds ct__law_holds), sl__law_holds⟩) (q__law_holds : PySem.W.codeIn K cd__law_holds "_law_holds" = true) (k__law_holds : PySem.W.keepIn K (.ref a__law_holds) = true)
    {a_turning_points : Addr} {od_turning_points an_turning_points : Option Addr} {sl_turning_points : Array (Option Value)} {oc_turning_points kV_turning_points dc_turning_points pm_turning_points cd_turning_points ct_turning_points : Value}
    (n_turning_points : PySem.W.nsIn K mainGlobals "turning_points" = some (some (.ref a_turning_points))) (l_turning_points : K.lookup a_turning_points = some ⟨oc_turning_points, od_turning_points, .func (PySem.W.fnOf "turning_points" "turning_points" (defArgs s_turning_points) (defBody s_turning_points) (defScope s_turning_points) .none kV_turning_points dc_turning_points pm_turning_points an_turning_points cd_turning_points ct_turning_points), sl_turning_points⟩) (q_turning_points : PySem.W.codeIn K cd_turning_points "turning_points" = true) (k_turning_points : PySem.W.keepIn K (.ref a_turning_points) = true)
    {a__law_pick : Addr} {od__law_pick an__law_pick : Option Addr} {sl__law_pick : Array (Option Value)} {oc__law_pick kV__law_pick dc__law_pick pm__law_pick cd__law_pick ct__law_pick : Value}
    (n__law_pick : PySem.W.nsIn K mainGlobals "_law_pick" = some (some (.ref a__law_pick))) (l__law_pick : K.lookup a__law_pick = some ⟨oc__law_pick, od__law_pick, .func (PySem.W.fnOf "_law_pick" "_law_pick" (defArgs s__law_pick) (defBody s__law_pick) (defScope s__law_pick) .none kV__law_pick dc__law_pick pm__law_pick an__law_pick cd__law_pick ct__law_pick), sl__law_pick⟩) (q__law_pick : PySem.W.codeIn K cd__law_pick "_law_pick" = true) (k__law_pick : PySem.W.keepIn K (.ref a__law_pick) = true)
    {a_swings : Addr} {od_swings an_swings : Option Addr} {sl_swings : Array (Option Value)} {oc_swings kV_swings dc_swings pm_swings cd_swings ct_swings : Value}
    (n_swings : PySem.W.nsIn K mainGlobals "swings" = some (some (.ref a_swings))) (l_swings : K.lookup a_swings = some ⟨oc_swings, od_swings, .func (PySem.W.fnOf "swings" "swings" (defArgs s_swings) (defBody s_swings) (defScope s_swings) .none kV_swings dc_swings pm_swings an_swings cd_swings ct_swings), sl_swings⟩) (q_swings : PySem.W.codeIn K cd_swings "swings" = true) (k_swings : PySem.W.keepIn K (.ref a_swings) = true)
    {a__law_load : Addr} {od__law_load an__law_load : Option Addr} {sl__law_load : Array (Option Value)} {oc__law_load kV__law_load dc__law_load pm__law_load cd__law_load ct__law_load : Value}
    (n__law_load : PySem.W.nsIn K mainGlobals "_law_load" = some (some (.ref a__law_load))) (l__law_load : K.lookup a__law_load = some ⟨oc__law_load, od__law_load, .func (PySem.W.fnOf "_law_load" "_law_load" (defArgs s__law_load) (defBody s__law_load) (defScope s__law_load) .none kV__law_load dc__law_load pm__law_load an__law_load cd__law_load ct__law_load), sl__law_load⟩) (q__law_load : PySem.W.codeIn K cd__law_load "_law_load" = true) (k__law_load : PySem.W.keepIn K (.ref a__law_load) = true)
    {a__law_long_right : Addr} {od__law_long_right an__law_long_right : Option Addr} {sl__law_long_right : Array (Option Value)} {oc__law_long_right kV__law_long_right dc__law_long_right pm__law_long_right cd__law_long_right ct__law_long_right : Value}
    (n__law_long_right : PySem.W.nsIn K mainGlobals "_law_long_right" = some (some (.ref a__law_long_right))) (l__law_long_right : K.lookup a__law_long_right = some ⟨oc__law_long_right, od__law_long_right, .func (PySem.W.fnOf "_law_long_right" "_law_long_right" (defArgs s__law_long_right) (defBody s__law_long_right) (defScope s__law_long_right) .none kV__law_long_right dc__law_long_right pm__law_long_right an__law_long_right cd__law_long_right ct__law_long_right), sl__law_long_right⟩) (q__law_long_right : PySem.W.codeIn K cd__law_long_right "_law_long_right" = true) (k__law_long_right : PySem.W.keepIn K (.ref a__law_long_right) = true)
    {a_law : Addr} {od_law an_law : Option Addr} {sl_law : Array (Option Value)} {oc_law kV_law dc_law pm_law cd_law ct_law : Value}
    (n_law : PySem.W.nsIn K mainGlobals "law" = some (some (.ref a_law))) (l_law : K.lookup a_law = some ⟨oc_law, od_law, .func (PySem.W.fnOf "law" "law" (defArgs s_law) (defBody s_law) (defScope s_law) .none kV_law dc_law pm_law an_law cd_law ct_law), sl_law⟩) (q_law : PySem.W.codeIn K cd_law "law" = true) (k_law : PySem.W.keepIn K (.ref a_law) = true)
    (z_abs : PySem.W.nsIn K mainGlobals "abs" = some none)
    (z_int : PySem.W.nsIn K mainGlobals "int" = some none)
    (z_len : PySem.W.nsIn K mainGlobals "len" = some none)
    (z_list : PySem.W.nsIn K mainGlobals "list" = some none)
    (z_max : PySem.W.nsIn K mainGlobals "max" = some none)
    (z_min : PySem.W.nsIn K mainGlobals "min" = some none)
    (z_range : PySem.W.nsIn K mainGlobals "range" = some none)
    (z_repr : PySem.W.nsIn K mainGlobals "repr" = some none)
    (z_tuple : PySem.W.nsIn K mainGlobals "tuple" = some none)
    {fa : Addr} (hfa : mg "law" = some (.ref fa)) : ∃ T : Facts K mg, T.a_law = fa ∧ ∀ (s : Shared) (v : Value), BindsTo s T.d_law ⟨[v], []⟩ [("script", v)] := by
  have e := hfa.symm.trans (PySem.W.mg_of X G n_law)
  cases e
  have F_contains := fun_mk (st := s_contains) l_contains q_contains k_contains
  have B_contains := F_contains.binds (ps := ["outer", "inner"]) fun _ _ _ _ _ _ us hl => match us, hl with | [_, _], _ => rfl
  have F_range_of := fun_mk (st := s_range_of) l_range_of q_range_of k_range_of
  have B_range_of := F_range_of.binds (ps := ["first", "second"]) fun _ _ _ _ _ _ us hl => match us, hl with | [_, _], _ => rfl
  have F_is_turning := fun_mk (st := s_is_turning) l_is_turning q_is_turning k_is_turning
  have B_is_turning := F_is_turning.binds (ps := ["before", "here", "after"]) fun _ _ _ _ _ _ us hl => match us, hl with | [_, _, _], _ => rfl
  have F__law_feed := fun_mk (st := s__law_feed) l__law_feed q__law_feed k__law_feed
  have B__law_feed := F__law_feed.binds (ps := ["script", "k"]) fun _ _ _ _ _ _ us hl => match us, hl with | [_, _], _ => rfl
  have F__law_take := fun_mk (st := s__law_take) l__law_take q__law_take k__law_take
  have B__law_take := F__law_take.binds (ps := ["feed", "many"]) fun _ _ _ _ _ _ us hl => match us, hl with | [_, _], _ => rfl
  have F__law_points := fun_mk (st := s__law_points) l__law_points q__law_points k__law_points
  have B__law_points := F__law_points.binds (ps := ["load"]) fun _ _ _ _ _ _ us hl => match us, hl with | [_], _ => rfl
  have F__law_range := fun_mk (st := s__law_range) l__law_range q__law_range k__law_range
  have B__law_range := F__law_range.binds (ps := ["one", "other"]) fun _ _ _ _ _ _ us hl => match us, hl with | [_, _], _ => rfl
  have F__law_holds := fun_mk (st := s__law_holds) l__law_holds q__law_holds k__law_holds
  have B__law_holds := F__law_holds.binds (ps := ["outer", "inner"]) fun _ _ _ _ _ _ us hl => match us, hl with | [_, _], _ => rfl
  have F_turning_points := fun_mk (st := s_turning_points) l_turning_points q_turning_points k_turning_points
  have B_turning_points := F_turning_points.binds (ps := ["load"]) fun _ _ _ _ _ _ us hl => match us, hl with | [_], _ => rfl
  have F__law_pick := fun_mk (st := s__law_pick) l__law_pick q__law_pick k__law_pick
  have B__law_pick := F__law_pick.binds (ps := ["feed", "some"]) fun _ _ _ _ _ _ us hl => match us, hl with | [_, _], _ => rfl
  have F_swings := fun_mk (st := s_swings) l_swings q_swings k_swings
  have B_swings := F_swings.binds (ps := ["load"]) fun _ _ _ _ _ _ us hl => match us, hl with | [_], _ => rfl
  have F__law_load := fun_mk (st := s__law_load) l__law_load q__law_load k__law_load
  have B__law_load := F__law_load.binds (ps := ["feed", "most"]) fun _ _ _ _ _ _ us hl => match us, hl with | [_, _], _ => rfl
  have F__law_long_right := fun_mk (st := s__law_long_right) l__law_long_right q__law_long_right k__law_long_right
  have B__law_long_right := F__law_long_right.binds (ps := ["load"]) fun _ _ _ _ _ _ us hl => match us, hl with | [_], _ => rfl
  have F_law := fun_mk (st := s_law) l_law q_law k_law
  have B_law := F_law.binds (ps := ["script"]) fun _ _ _ _ _ _ us hl => match us, hl with | [_], _ => rfl
  exact ⟨⟨a_contains, _, F_contains, B_contains, PySem.W.mg_of X G n_contains,
    a_range_of, _, F_range_of, B_range_of, PySem.W.mg_of X G n_range_of,
    a_is_turning, _, F_is_turning, B_is_turning, PySem.W.mg_of X G n_is_turning,
    a__law_feed, _, F__law_feed, B__law_feed, PySem.W.mg_of X G n__law_feed,
    a__law_take, _, F__law_take, B__law_take, PySem.W.mg_of X G n__law_take,
    a__law_points, _, F__law_points, B__law_points, PySem.W.mg_of X G n__law_points,
    a__law_range, _, F__law_range, B__law_range, PySem.W.mg_of X G n__law_range,
    a__law_holds, _, F__law_holds, B__law_holds, PySem.W.mg_of X G n__law_holds,
    a_turning_points, _, F_turning_points, B_turning_points, PySem.W.mg_of X G n_turning_points,
    a__law_pick, _, F__law_pick, B__law_pick, PySem.W.mg_of X G n__law_pick,
    a_swings, _, F_swings, B_swings, PySem.W.mg_of X G n_swings,
    a__law_load, _, F__law_load, B__law_load, PySem.W.mg_of X G n__law_load,
    a__law_long_right, _, F__law_long_right, B__law_long_right, PySem.W.mg_of X G n__law_long_right,
    a_law, _, F_law, B_law, PySem.W.mg_of X G n_law,
    PySem.W.mg_none_of X G z_abs,
    PySem.W.mg_none_of X G z_int,
    PySem.W.mg_none_of X G z_len,
    PySem.W.mg_none_of X G z_list,
    PySem.W.mg_none_of X G z_max,
    PySem.W.mg_none_of X G z_min,
    PySem.W.mg_none_of X G z_range,
    PySem.W.mg_none_of X G z_repr,
    PySem.W.mg_none_of X G z_tuple⟩, rfl, fun s v => .of_eq rfl⟩
end Wk

open PySem PySem.W PyProof.Rows
set_option maxHeartbeats 0 in
theorem PySem.Challenge.cw_wearswings_k01_turning_points_holds : PySem.Challenge.rw_wearswings_k01_turning_points.Holds := by
  w_on; o_law; k_head; (case hw => w_witness2)
  k_fill
  refine PL.law_done (l := PySem.Challenge.rw_wearswings_k01_turning_points) (n := 63) (k := 5) (x := "script") (fn := Mi.f_law) rfl (by decide) rfl ⟨rfl, by decide, by decide⟩ (fun w h Y => PySem.W.kIn_of Y) ?F (fun ns _ => Lw.law_pure ns)
  case F =>
    intro w mg fa h KX G hmg
    obtain ⟨T, e1, e2⟩ : ∃ T : Wk.Facts _ mg, T.a_law = fa ∧ ∀ (s : PySem.Shared) (v : PySem.Value), BindsTo s T.d_law ⟨[v], []⟩ [("script", v)] := by
      refine' Wk.all_mk (w := w) KX G ?n_contains ?l_contains ?q_contains ?k_contains ?n_range_of ?l_range_of ?q_range_of ?k_range_of ?n_is_turning ?l_is_turning ?q_is_turning ?k_is_turning ?n__law_feed ?l__law_feed ?q__law_feed ?k__law_feed ?n__law_take ?l__law_take ?q__law_take ?k__law_take ?n__law_points ?l__law_points ?q__law_points ?k__law_points ?n__law_range ?l__law_range ?q__law_range ?k__law_range ?n__law_holds ?l__law_holds ?q__law_holds ?k__law_holds ?n_turning_points ?l_turning_points ?q_turning_points ?k_turning_points ?n__law_pick ?l__law_pick ?q__law_pick ?k__law_pick ?n_swings ?l_swings ?q_swings ?k_swings ?n__law_load ?l__law_load ?q__law_load ?k__law_load ?n__law_long_right ?l__law_long_right ?q__law_long_right ?k__law_long_right ?n_law ?l_law ?q_law ?k_law ?z_abs ?z_int ?z_len ?z_list ?z_max ?z_min ?z_range ?z_repr ?z_tuple hmg
      (case n_contains => k_is); (case l_contains => k_is); (case q_contains => k_is); (case k_contains => k_is); (case n_range_of => k_is); (case l_range_of => k_is); (case q_range_of => k_is); (case k_range_of => k_is); (case n_is_turning => k_is); (case l_is_turning => k_is); (case q_is_turning => k_is); (case k_is_turning => k_is); (case n__law_feed => k_is); (case l__law_feed => k_is); (case q__law_feed => k_is); (case k__law_feed => k_is); (case n__law_take => k_is); (case l__law_take => k_is); (case q__law_take => k_is); (case k__law_take => k_is); (case n__law_points => k_is); (case l__law_points => k_is); (case q__law_points => k_is); (case k__law_points => k_is); (case n__law_range => k_is); (case l__law_range => k_is); (case q__law_range => k_is); (case k__law_range => k_is); (case n__law_holds => k_is); (case l__law_holds => k_is); (case q__law_holds => k_is); (case k__law_holds => k_is); (case n_turning_points => k_is); (case l_turning_points => k_is); (case q_turning_points => k_is); (case k_turning_points => k_is); (case n__law_pick => k_is); (case l__law_pick => k_is); (case q__law_pick => k_is); (case k__law_pick => k_is); (case n_swings => k_is); (case l_swings => k_is); (case q_swings => k_is); (case k_swings => k_is); (case n__law_load => k_is); (case l__law_load => k_is); (case q__law_load => k_is); (case k__law_load => k_is); (case n__law_long_right => k_is); (case l__law_long_right => k_is); (case q__law_long_right => k_is); (case k__law_long_right => k_is); (case n_law => k_is); (case l_law => k_is); (case q_law => k_is); (case k_law => k_is); (case z_abs => k_is); (case z_int => k_is); (case z_len => k_is); (case z_list => k_is); (case z_max => k_is); (case z_min => k_is); (case z_range => k_is); (case z_repr => k_is); (case z_tuple => k_is)
    subst e1
    exact ⟨T.d_law, e2, fun base _ _ => Wk.ok_law T⟩
