import PyProof.Rows.All
import Wide.All
import OpenK.AllK
import Wide.FinOn
import HandS.ForMost
import HandS.ForExc
import HandS.Wide
import HandS.TupAny
import HandS.TupMul
import HandS.Style
import HandS.Conv
import HandS.SortInts
import HandS.More
import HandS.RaiseMore
import HandS.SetFor
import HandS.Strs
import PyProof.Rows.SetFrom
import HandS.Flow
import HandS.SortRule
import HandS.Iter
import HandS.Zip
import HandS.ClsMeth
import PyProof.TupleOfSeq
import HandS.IsInst
import PyProof.InstNe
import HandS.Text
import HandS.Star
import HandS.NoneIn
import HandS.SortKw
import PySem.Challenge.RW_wearswings_k50_tables
set_option Elab.async false
set_option linter.all false
set_option maxRecDepth 100000
set_option maxHeartbeats 4000000
/-! PL: a def's frame as pure data over the abstract heap. -/
namespace PL
open PySem PySem.Spec PyProof.Rows L2

/-! ### pure data -/
inductive D where
  | non
  | bl (b : Bool)
  | int (i : Int)
  | str (s : Str)
  | tup (ds : List D)
  | lst (ds : List D)
  | dct (ks : List Key) (ds : List D)
  | dctT (ks : List (List Key)) (ds : List D)
  | inst (c : Str) (ns : List Str) (ds : List D)
  | fn (f : Str)
  | scr (is : List Int)

/-- an object that one slot holds alone -/
inductive O where
  | lst (ds : List D)
  | dct (ks : List Key) (ds : List D)
  | dctT (ks : List (List Key)) (ds : List D)
  | inst (c : Str) (ns : List Str) (ds : List D)

def O.toD : O → D
  | .lst ds => .lst ds
  | .dct ks ds => .dct ks ds
  | .dctT ks ds => .dctT ks ds
  | .inst c ns ds => .inst c ns ds

inductive Sl where
  | fz (d : D)
  | ow (o : O)
  | mu (o : O)

abbrev En := List (Option Sl)

structure Exn where
  cls : Str
  fld : D

inductive Res (α : Type) where
  | ok (a : α)
  | ex (x : Exn) (e : En)
  | no

def Res.bind {α β : Type} : Res α → (α → Res β) → Res β
  | .ok a, f => f a
  | .ex x e, _ => .ex x e
  | .no, _ => .no
def Res.map {α β : Type} (f : α → β) (r : Res α) : Res β := r.bind fun a => .ok (f a)
@[simp] theorem Res.bind_ok {α β : Type} (a : α) (f : α → Res β) : (Res.ok a).bind f = f a := rfl
@[simp] theorem Res.bind_ex {α β : Type} (x : Exn) (e : En) (f : α → Res β) : (Res.ex x e : Res α).bind f = .ex x e := rfl
@[simp] theorem Res.bind_no {α β : Type} (f : α → Res β) : (Res.no : Res α).bind f = .no := rfl
@[simp] theorem Res.map_ok {α β : Type} (a : α) (f : α → β) : (Res.ok a).map f = .ok (f a) := rfl
@[simp] theorem Res.map_no {α β : Type} (f : α → β) : (Res.no : Res α).map f = .no := rfl

inductive Arg where
  | val (d : D)
  | slot (j : Nat)
  | new (o : O)

/-! ### what is known of the heap -/
structure Kn where
  K : PySem.W.Frag
  mg : Str → Option Value
def kn (X : Cx) : Kn := ⟨X.K, X.mg⟩

def Sub (H H' : Hp) : Prop := ∀ a o, H a = some o → H' a = some o
theorem Sub.refl (H : Hp) : Sub H H := fun _ _ h => h
theorem Sub.trans {H H1 H2 : Hp} (a : Sub H H1) (b : Sub H1 H2) : Sub H H2 := fun c o h => b c o (a c o h)
theorem Sub.new {H : Hp} {p : Addr} {o : HO} (h : H p = none) : Sub H (upd H p o) := fun a u e => by
  rw [upd_ne (ne_of_none e h)]; exact e
theorem Sub.mut {H H' : Hp} {p : Addr} {o : HO} (e : Sub H H') (h : H p = none) : Sub H (upd H' p o) := fun a u ha => by
  rw [upd_ne (ne_of_none ha h)]; exact e a u ha
theorem Sub.both {H H' : Hp} {p : Addr} {o : HO} (e : Sub H H') : Sub (upd H p o) (upd H' p o) := fun a u ha => by
  by_cases q : a = p
  · subst q; rw [upd_same] at ha ⊢; exact ha
  · rw [upd_ne q] at ha ⊢; exact e a u ha
theorem Sub.free {H H' : Hp} (e : Sub H H') {p : Addr} (h : H' p = none) : H p = none := by
  cases q : H p with
  | none => rfl
  | some o => rw [e p o q] at h; cases h
theorem Sub.rd {H H' : Hp} {a : Addr} {u : HO} (e : Sub H H') (h : Rd H a u) : Rd H' a u := by
  rcases h with h | ⟨o, h⟩
  · exact .inl (e _ _ h)
  · exact .inr ⟨o, e _ _ h⟩
theorem Sub.l {K : PySem.W.Frag} {H H' : Hp} {a : Addr} {xs : List V} (e : Sub H H') (h : SqL K H a xs) : SqL K H' a xs := h.imp (fun h => e.rd h) id
theorem Sub.t {K : PySem.W.Frag} {H H' : Hp} {a : Addr} {xs : List V} (e : Sub H H') (h : SqT K H a xs) : SqT K H' a xs := h.imp (fun h => e.rd h) id

mutual
inductive Rep (k : Kn) (H : Hp) : D → V → Prop
  | non : Rep k H .non .non
  | bl (b : Bool) : Rep k H (.bl b) (.bl b)
  | int (i : Int) : Rep k H (.int i) (.int i)
  | str (s : Str) : Rep k H (.str s) (.str s)
  | tup {a : Addr} {vs : List V} {ds : List D} : SqT k.K H a vs → Reps k H ds vs → Rep k H (.tup ds) (.ref a)
  | lst {a : Addr} {vs : List V} {ds : List D} : H a = some (.lst vs) → Reps k H ds vs → Rep k H (.lst ds) (.ref a)
  | scr {a : Addr} {is : List Int} : SqL k.K H a (is.map V.int) → Rep k H (.scr is) (.ref a)
  | dct {a : Addr} {kvs : List (Key × V)} {ds : List D} : H a = some (.dK kvs) → Reps k H ds (kvs.map (·.2)) → Rep k H (.dct (kvs.map (·.1)) ds) (.ref a)
  | dctT {a : Addr} {kvs : List (List Key × V)} {ds : List D} : H a = some (.dT kvs) → Reps k H ds (kvs.map (·.2)) → Rep k H (.dctT (kvs.map (·.1)) ds) (.ref a)
  | inst {a C dx : Addr} {c : Str} {fs : List (Str × V)} {ds : List D} : k.mg c = some (.ref C) → H a = some (.ins C dx fs) → Reps k H ds (fs.map (·.2)) → Rep k H (.inst c (fs.map (·.1)) ds) (.ref a)
  | fn {f : Str} {a : Addr} : k.mg f = some (.ref a) → Rep k H (.fn f) (.ref a)
inductive Reps (k : Kn) (H : Hp) : List D → List V → Prop
  | nil : Reps k H [] []
  | cons {d : D} {v : V} {ds : List D} {vs : List V} : Rep k H d v → Reps k H ds vs → Reps k H (d :: ds) (v :: vs)
end

section
variable {k : Kn} {H H' : Hp}
mutual
theorem Rep.mono (e : Sub H H') {d : D} {v : V} : Rep k H d v → Rep k H' d v
  | .non => .non
  | .bl b => .bl b
  | .int i => .int i
  | .str s => .str s
  | .tup h r => .tup (e.t h) (Reps.mono e r)
  | .lst h r => .lst (e _ _ h) (Reps.mono e r)
  | .scr h => .scr (e.l h)
  | .dct h r => .dct (e _ _ h) (Reps.mono e r)
  | .dctT h r => .dctT (e _ _ h) (Reps.mono e r)
  | .inst c h r => .inst c (e _ _ h) (Reps.mono e r)
  | .fn h => .fn h
theorem Reps.mono (e : Sub H H') {ds : List D} {vs : List V} : Reps k H ds vs → Reps k H' ds vs
  | .nil => .nil
  | .cons h t => .cons (Rep.mono e h) (Reps.mono e t)
end
theorem Reps.len : ∀ {ds : List D} {vs : List V}, Reps k H ds vs → vs.length = ds.length
  | _, _, .nil => rfl
  | _, _, .cons _ t => by rw [List.length_cons, List.length_cons, Reps.len t]
theorem Reps.get : ∀ {ds : List D} {vs : List V} {i : Nat} {d : D}, Reps k H ds vs → ds[i]? = some d → ∃ v, vs[i]? = some v ∧ Rep k H d v
  | _, _, _, _, .nil, e => by simp at e
  | _, _, 0, _, .cons r _, e => by simp at e; subst e; exact ⟨_, rfl, r⟩
  | _, _, i + 1, _, .cons _ t, e => by
    obtain ⟨v, h1, h2⟩ := Reps.get (i := i) t (by simpa using e)
    exact ⟨v, by simpa using h1, h2⟩
theorem Reps.get' : ∀ {ds : List D} {vs : List V} {i : Nat} {v : V}, Reps k H ds vs → vs[i]? = some v → ∃ d, ds[i]? = some d ∧ Rep k H d v
  | _, _, _, _, .nil, e => by simp at e
  | _, _, 0, _, .cons r _, e => by simp at e; subst e; exact ⟨_, rfl, r⟩
  | _, _, i + 1, _, .cons _ t, e => by
    obtain ⟨v, h1, h2⟩ := Reps.get' (i := i) t (by simpa using e)
    exact ⟨v, by simpa using h1, h2⟩
theorem Reps.append : ∀ {ds es : List D} {vs us : List V}, Reps k H ds vs → Reps k H es us → Reps k H (ds ++ es) (vs ++ us)
  | _, _, _, _, .nil, q => q
  | _, _, _, _, .cons r t, q => .cons r (Reps.append t q)
theorem Reps.take : ∀ {ds : List D} {vs : List V} (n : Nat), Reps k H ds vs → Reps k H (ds.take n) (vs.take n)
  | _, _, 0, _ => .nil
  | _, _, _ + 1, .nil => .nil
  | _, _, n + 1, .cons r t => .cons r (Reps.take n t)
theorem Reps.drop : ∀ {ds : List D} {vs : List V} (n : Nat), Reps k H ds vs → Reps k H (ds.drop n) (vs.drop n)
  | _, _, 0, r => r
  | _, _, _ + 1, .nil => .nil
  | _, _, n + 1, .cons _ t => Reps.drop n t
theorem Reps.set {d : D} {v : V} (r : Rep k H d v) : ∀ {ds : List D} {vs : List V} (i : Nat), Reps k H ds vs → Reps k H (ds.set i d) (vs.set i v)
  | _, _, _, .nil => .nil
  | _, _, 0, .cons _ t => .cons r t
  | _, _, i + 1, .cons q t => .cons q (Reps.set r i t)
theorem Reps.reverse : ∀ {ds : List D} {vs : List V}, Reps k H ds vs → Reps k H ds.reverse vs.reverse
  | _, _, .nil => .nil
  | _, _, .cons r t => by
    rw [List.reverse_cons, List.reverse_cons]
    exact (Reps.reverse t).append (.cons r .nil)
theorem Reps.dropLast {ds : List D} {vs : List V} (r : Reps k H ds vs) : Reps k H ds.dropLast vs.dropLast := by
  rw [List.dropLast_eq_take, List.dropLast_eq_take, r.len]; exact r.take _
theorem Reps.eraseIdx : ∀ {ds : List D} {vs : List V} (i : Nat), Reps k H ds vs → Reps k H (ds.eraseIdx i) (vs.eraseIdx i)
  | _, _, _, .nil => .nil
  | _, _, 0, .cons _ t => t
  | _, _, i + 1, .cons q t => .cons q (Reps.eraseIdx i t)
theorem Reps.rep {ds : List D} {vs : List V} (h : Reps k H ds vs) : ∀ n : Nat, Reps k H (List.replicate n ds).flatten (List.replicate n vs).flatten
  | 0 => .nil
  | n + 1 => by
    rw [List.replicate_succ, List.replicate_succ, List.flatten_cons, List.flatten_cons]
    exact h.append (Reps.rep h n)
theorem Reps.ints : ∀ {is : List Int} {vs : List V}, Reps k H (is.map D.int) vs → vs = is.map V.int
  | [], _, h => by cases h; rfl
  | i :: is, _, h => by
    cases h with
    | cons h t => cases h; rw [Reps.ints t]; rfl
theorem Reps.bls : ∀ {is : List Bool} {vs : List V}, Reps k H (is.map D.bl) vs → vs = is.map V.bl
  | [], _, h => by cases h; rfl
  | i :: is, _, h => by
    cases h with
    | cons h t => cases h; rw [Reps.bls t]; rfl
theorem Reps.strs : ∀ {is : List Str} {vs : List V}, Reps k H (is.map D.str) vs → vs = is.map V.str
  | [], _, h => by cases h; rfl
  | i :: is, _, h => by
    cases h with
    | cons h t => cases h; rw [Reps.strs t]; rfl
end

/-- what an owned object holds -/
inductive RepO (k : Kn) (F : Hp) : O → HO → Prop
  | lst {ds : List D} {vs : List V} : Reps k F ds vs → RepO k F (.lst ds) (.lst vs)
  | dct {kvs : List (Key × V)} {ds : List D} : Reps k F ds (kvs.map (·.2)) → RepO k F (.dct (kvs.map (·.1)) ds) (.dK kvs)
  | dctT {kvs : List (List Key × V)} {ds : List D} : Reps k F ds (kvs.map (·.2)) → RepO k F (.dctT (kvs.map (·.1)) ds) (.dT kvs)
  | inst {C dx : Addr} {c : Str} {fs : List (Str × V)} {ds : List D} : k.mg c = some (.ref C) → Reps k F ds (fs.map (·.2)) → RepO k F (.inst c (fs.map (·.1)) ds) (.ins C dx fs)
theorem RepO.mono {k : Kn} {F F' : Hp} {o : O} {u : HO} (e : Sub F F') (h : RepO k F o u) : RepO k F' o u := by
  cases h with
  | lst r => exact .lst (r.mono e)
  | dct r => exact .dct (r.mono e)
  | dctT r => exact .dctT (r.mono e)
  | inst c r => exact .inst c (r.mono e)
theorem RepO.rep {k : Kn} {F : Hp} {o : O} {u : HO} {p : Addr} (h : RepO k F o u) (hp : F p = some u) : Rep k F o.toD (.ref p) := by
  cases h with
  | lst r => exact .lst hp r
  | dct r => exact .dct hp r
  | dctT r => exact .dctT hp r
  | inst c r => exact .inst c hp r

/-! ### the frame -/
structure Amb where
  Kp : Hp
  F0 : Hp
  ms : Nat → Option V

def OwnAt (env : En) (i : Nat) (o : O) : Prop := env[i]? = some (some (.ow o)) ∨ env[i]? = some (some (.mu o))

def RSl (k : Kn) (F H : Hp) : Sl → V → Prop
  | .fz d, v => Rep k F d v
  | .ow o, v => ∃ p u, v = .ref p ∧ H p = some u ∧ RepO k F o u
  | .mu o, v => ∃ p u, v = .ref p ∧ H p = some u ∧ RepO k F o u

structure Sta (k : Kn) (A : Amb) (F H : Hp) (σ : L2.St) (env : En) : Prop where
  sub : Sub F H
  kp : Sub A.Kp H
  f0 : Sub A.F0 F
  frz : ∀ a o, F a = some o → A.F0 a = some o ∨ A.Kp a = none
  rel : ∀ (i : Nat) (sl : Sl), env[i]? = some (some sl) → ∃ v : V, σ[i]? = some (some v) ∧ RSl k F H sl v
  own : ∀ (i : Nat) (o : O) (p : Addr), OwnAt env i o → σ[i]? = some (some (V.ref p)) → F p = none ∧ A.Kp p = none
  dis : ∀ (i j : Nat) (o u : O) (p : Addr), OwnAt env i o → OwnAt env j u → σ[i]? = some (some (V.ref p)) → σ[j]? = some (some (V.ref p)) → i = j
  len : σ.length = env.length
  mus : ∀ (i : Nat) (o : O), env[i]? = some (some (.mu o)) → σ[i]? = some (A.ms i)

/-- an owned slot's place and content -/
theorem Sta.at {k : Kn} {A : Amb} {F H : Hp} {σ : L2.St} {env : En} (S : Sta k A F H σ env) {i : Nat} {o : O} (h : OwnAt env i o) :
    ∃ p u, σ[i]? = some (some (V.ref p)) ∧ H p = some u ∧ RepO k F o u ∧ F p = none ∧ A.Kp p = none := by
  have : ∃ v, σ[i]? = some (some v) ∧ ∃ p u, v = .ref p ∧ H p = some u ∧ RepO k F o u := by
    rcases h with h | h
    · exact S.rel i _ h
    · exact S.rel i _ h
  obtain ⟨v, e, p, u, rfl, hp, r⟩ := this
  obtain ⟨a, b⟩ := S.own i o p h e
  exact ⟨p, u, e, hp, r, a, b⟩

def RArg (k : Kn) (A : Amb) (F H : Hp) (σ : L2.St) (env : En) : Arg → V → Prop
  | .val d, v => Rep k F d v
  | .slot j, v => σ[j]? = some (some v)
  | .new o, v => ∃ p u, v = .ref p ∧ H p = some u ∧ RepO k F o u ∧ F p = none ∧ A.Kp p = none ∧ ∀ (j : Nat) (u : O), OwnAt env j u → σ[j]? ≠ some (some (V.ref p))

/-- a new object is laid: nothing that is known changes -/
theorem Sta.grow {k : Kn} {A : Amb} {F H : Hp} {σ : L2.St} {env : En} {p : Addr} {u : HO} (S : Sta k A F H σ env) (h : H p = none) : Sta k A F (upd H p u) σ env where
  sub := S.sub.trans (.new h)
  kp := S.kp.trans (.new h)
  f0 := S.f0
  frz := S.frz
  rel := fun i sl e => by
    obtain ⟨v, e1, r⟩ := S.rel i sl e
    refine ⟨v, e1, ?_⟩
    cases sl with
    | fz d => exact r
    | ow o => obtain ⟨q, w, rfl, hq, r⟩ := r; exact ⟨q, w, rfl, Sub.new h _ _ hq, r⟩
    | mu o => obtain ⟨q, w, rfl, hq, r⟩ := r; exact ⟨q, w, rfl, Sub.new h _ _ hq, r⟩
  own := S.own
  dis := S.dis
  len := S.len
  mus := S.mus
/-- an object that nobody holds is frozen -/
theorem Sta.freeze {k : Kn} {A : Amb} {F H : Hp} {σ : L2.St} {env : En} {p : Addr} {u : HO} (S : Sta k A F H σ env) (h : H p = some u) (hF : F p = none) (hK : A.Kp p = none)
    (hs : ∀ (j : Nat) (o : O), OwnAt env j o → σ[j]? ≠ some (some (V.ref p))) : Sta k A (upd F p u) H σ env where
  sub := fun a o e => by
    by_cases q : a = p
    · subst q; rw [upd_same] at e; cases e; exact h
    · rw [upd_ne q] at e; exact S.sub a o e
  kp := S.kp
  f0 := S.f0.trans (.new hF)
  frz := fun a o e => by
    by_cases q : a = p
    · subst q; exact .inr hK
    · rw [upd_ne q] at e; exact S.frz a o e
  rel := fun i sl e => by
    obtain ⟨v, e1, r⟩ := S.rel i sl e
    refine ⟨v, e1, ?_⟩
    cases sl with
    | fz d => exact r.mono (.new hF)
    | ow o => obtain ⟨q, w, rfl, hq, r⟩ := r; exact ⟨q, w, rfl, hq, r.mono (.new hF)⟩
    | mu o => obtain ⟨q, w, rfl, hq, r⟩ := r; exact ⟨q, w, rfl, hq, r.mono (.new hF)⟩
  own := fun i o q a b => by
    have ne : q ≠ p := fun z => by subst z; exact hs i o a b
    rw [upd_ne ne]; exact S.own i o q a b
  dis := S.dis
  len := S.len
  mus := S.mus
/-- the two at once -/
theorem Sta.fresh {k : Kn} {A : Amb} {F H : Hp} {σ : L2.St} {env : En} (S : Sta k A F H σ env) {p : Addr} (h : H p = none) : F p = none ∧ A.Kp p = none ∧ ∀ (j : Nat) (o : O), OwnAt env j o → σ[j]? ≠ some (some (V.ref p)) :=
  ⟨S.sub.free h, S.kp.free h, fun j o a e => by
    obtain ⟨q, u, e1, hq, _⟩ := S.at a
    rw [e1] at e; cases e; rw [h] at hq; cases hq⟩
theorem Sta.lay {k : Kn} {A : Amb} {F H : Hp} {σ : L2.St} {env : En} {p : Addr} {u : HO} (S : Sta k A F H σ env) (h : H p = none) : Sta k A (upd F p u) (upd H p u) σ env :=
  let ⟨a, b, c⟩ := S.fresh h
  (S.grow h).freeze upd_same a b c

def settle : Arg → Arg
  | .val d => .val d
  | .slot j => .slot j
  | .new o => .val o.toD
theorem Sta.settle {k : Kn} {A : Amb} {F H : Hp} {σ : L2.St} {env : En} {x : Arg} {v : V} (S : Sta k A F H σ env) (r : RArg k A F H σ env x v) :
    ∃ F', Sub F F' ∧ Sta k A F' H σ env ∧ RArg k A F' H σ env (settle x) v := by
  cases x with
  | val d => exact ⟨F, .refl F, S, r⟩
  | slot j => exact ⟨F, .refl F, S, r⟩
  | new o =>
    obtain ⟨p, u, rfl, hp, ro, a, b, c⟩ := r
    exact ⟨upd F p u, .new a, S.freeze hp a b c, (ro.mono (.new a)).rep upd_same⟩
/-- what has settled persists -/
theorem RArg.keep {k : Kn} {A : Amb} {F F' H H' : Hp} {σ : L2.St} {env env' : En} {x : Arg} {v : V} (r : RArg k A F H σ env (PL.settle x) v) (e : Sub F F') : RArg k A F' H' σ env' (PL.settle x) v := by
  cases x with
  | val d => exact Rep.mono e r
  | slot j => exact r
  | new o => exact Rep.mono e r

/-- an argument's content -/
def slotO (env : En) (i : Nat) : Option O :=
  match env[i]? with
  | some (some (.ow o)) => some o
  | some (some (.mu o)) => some o
  | _ => none
def Sl.toD : Sl → D
  | .fz d => d
  | .ow o => o.toD
  | .mu o => o.toD
def cont (x : Arg) (env : En) : Option D :=
  match x with
  | .val d => some d
  | .slot j => (match env[j]? with
    | some (some sl) => some sl.toD
    | _ => none)
  | .new o => some o.toD
theorem slotO_own {env : En} {i : Nat} {o : O} (h : slotO env i = some o) : OwnAt env i o := by
  unfold slotO at h
  split at h
  · rename_i q; cases h; exact .inl q
  · rename_i q; cases h; exact .inr q
  · cases h
theorem own_slotO {env : En} {i : Nat} {o : O} (h : OwnAt env i o) : slotO env i = some o := by
  unfold slotO
  rcases h with h | h <;> rw [h]
theorem OwnAt.inj {env : En} {i : Nat} {o u : O} (h : OwnAt env i o) (h' : OwnAt env i u) : o = u := Option.some.inj ((own_slotO h).symm.trans (own_slotO h'))

/-- a value as it can be read now -/
def View (k : Kn) (F H : Hp) (d : D) (v : V) : Prop := Rep k F d v ∨ ∃ o p u, d = O.toD o ∧ v = .ref p ∧ H p = some u ∧ RepO k F o u
theorem Sta.view {k : Kn} {A : Amb} {F H : Hp} {σ : L2.St} {env : En} {x : Arg} {v : V} {d : D} (S : Sta k A F H σ env) (r : RArg k A F H σ env x v) (h : cont x env = some d) : View k F H d v := by
  cases x with
  | val d' => cases h; exact .inl r
  | slot j =>
    simp only [cont] at h
    split at h
    · rename_i sl e
      cases h
      obtain ⟨w, e1, q⟩ := S.rel j sl e
      have r' : σ[j]? = some (some v) := r
      rw [e1] at r'; cases r'
      cases sl with
      | fz d => exact .inl q
      | ow o => obtain ⟨p, u, rfl, hp, ro⟩ := q; exact .inr ⟨o, p, u, rfl, rfl, hp, ro⟩
      | mu o => obtain ⟨p, u, rfl, hp, ro⟩ := q; exact .inr ⟨o, p, u, rfl, rfl, hp, ro⟩
    · cases h
  | new o =>
    obtain ⟨p, u, rfl, hp, ro, _⟩ := r
    cases h
    exact .inr ⟨o, p, u, rfl, rfl, hp, ro⟩
section
variable {k : Kn} {F H : Hp} {v : V}
theorem View.int {i : Int} (h : View k F H (.int i) v) : v = .int i := by
  rcases h with h | ⟨o, p, u, e, _⟩
  · cases h; rfl
  · cases o <;> cases e
theorem View.bl {i : Bool} (h : View k F H (.bl i) v) : v = .bl i := by
  rcases h with h | ⟨o, p, u, e, _⟩
  · cases h; rfl
  · cases o <;> cases e
theorem View.str {i : Str} (h : View k F H (.str i) v) : v = .str i := by
  rcases h with h | ⟨o, p, u, e, _⟩
  · cases h; rfl
  · cases o <;> cases e
theorem View.non (h : View k F H .non v) : v = .non := by
  rcases h with h | ⟨o, p, u, e, _⟩
  · cases h; rfl
  · cases o <;> cases e
theorem View.tup {ds : List D} (h : View k F H (.tup ds) v) : ∃ a vs, v = .ref a ∧ SqT k.K F a vs ∧ Reps k F ds vs := by
  rcases h with h | ⟨o, p, u, e, _⟩
  · cases h with
    | tup a b => exact ⟨_, _, rfl, a, b⟩
  · cases o <;> cases e
theorem View.lst {ds : List D} (s : Sub F H) (h : View k F H (.lst ds) v) : ∃ a vs, v = .ref a ∧ H a = some (.lst vs) ∧ Reps k F ds vs := by
  rcases h with h | ⟨o, p, u, e, rfl, hp, r⟩
  · cases h with
    | lst a b => exact ⟨_, _, rfl, s _ _ a, b⟩
  · cases o with
    | lst es => cases e; cases r with | lst r => exact ⟨p, _, rfl, hp, r⟩
    | dct _ _ => cases e
    | dctT _ _ => cases e
    | inst _ _ _ => cases e
theorem View.scr {is : List Int} (s : Sub F H) (h : View k F H (.scr is) v) : ∃ a, v = .ref a ∧ SqL k.K H a (is.map V.int) := by
  rcases h with h | ⟨o, p, u, e, _⟩
  · cases h with
    | scr a => exact ⟨_, rfl, s.l a⟩
  · cases o <;> cases e
theorem View.dct {ks : List Key} {ds : List D} (s : Sub F H) (h : View k F H (.dct ks ds) v) : ∃ a kvs, v = .ref a ∧ H a = some (.dK kvs) ∧ kvs.map (·.1) = ks ∧ Reps k F ds (kvs.map (·.2)) := by
  rcases h with h | ⟨o, p, u, e, rfl, hp, r⟩
  · cases h with
    | dct a b => exact ⟨_, _, rfl, s _ _ a, rfl, b⟩
  · cases o with
    | lst es => cases e
    | dct _ _ => cases e; cases r with | dct r => exact ⟨p, _, rfl, hp, rfl, r⟩
    | dctT _ _ => cases e
    | inst _ _ _ => cases e
theorem View.dctT {ks : List (List Key)} {ds : List D} (s : Sub F H) (h : View k F H (.dctT ks ds) v) : ∃ a kvs, v = .ref a ∧ H a = some (.dT kvs) ∧ kvs.map (·.1) = ks ∧ Reps k F ds (kvs.map (·.2)) := by
  rcases h with h | ⟨o, p, u, e, rfl, hp, r⟩
  · cases h with
    | dctT a b => exact ⟨_, _, rfl, s _ _ a, rfl, b⟩
  · cases o with
    | lst es => cases e
    | dct _ _ => cases e
    | dctT _ _ => cases e; cases r with | dctT r => exact ⟨p, _, rfl, hp, rfl, r⟩
    | inst _ _ _ => cases e
theorem View.inst {c : Str} {ns : List Str} {ds : List D} (s : Sub F H) (h : View k F H (.inst c ns ds) v) : ∃ a C dx fs, v = .ref a ∧ H a = some (.ins C dx fs) ∧ k.mg c = some (.ref C) ∧ fs.map (·.1) = ns ∧ Reps k F ds (fs.map (·.2)) := by
  rcases h with h | ⟨o, p, u, e, rfl, hp, r⟩
  · cases h with
    | inst c a b => exact ⟨_, _, _, _, rfl, s _ _ a, c, rfl, b⟩
  · cases o with
    | lst es => cases e
    | dct _ _ => cases e
    | dctT _ _ => cases e
    | inst _ _ _ => cases e; cases r with | inst c r => exact ⟨p, _, _, _, rfl, hp, c, rfl, r⟩
theorem View.fn {f : Str} (h : View k F H (.fn f) v) : ∃ a, v = .ref a ∧ k.mg f = some (.ref a) := by
  rcases h with h | ⟨o, p, u, e, _⟩
  · cases h with
    | fn a => exact ⟨_, rfl, a⟩
  · cases o <;> cases e
end
end PL

/-! PL: judgements; expressions. -/
namespace PL
open PySem PySem.Spec PyProof.Rows L2

/-- what is wanted of an error that leaves -/
structure WP where
  w : Amb → Hp → Exn → En → Prop
  mono : ∀ {A F F' x e}, Sub F F' → w A F x e → w A F' x e
def W0 : WP := ⟨fun _ _ _ _ => False, fun _ h => h⟩

abbrev FE := En → Res (Arg × En)
abbrev FT := En → Res (Bool × En)
abbrev FA := En → Res (List Arg × En)

def PostE (k : Kn) (A : Amb) (W : WP) (F : Hp) (σ : L2.St) (r : Res (Arg × En)) (Q : VK) : Prop :=
  match r with
  | .ok p => ∀ F' H' v, Sub F F' → Sta k A F' H' σ p.2 → RArg k A F' H' σ p.2 p.1 v → Q v H'
  | .ex x e => W.w A F x e
  | .no => False
def PostT (k : Kn) (A : Amb) (W : WP) (F : Hp) (σ : L2.St) (r : Res (Bool × En)) (Q : Bool → Hp → Prop) : Prop :=
  match r with
  | .ok p => ∀ F' H', Sub F F' → Sta k A F' H' σ p.2 → Q p.1 H'
  | .ex x e => W.w A F x e
  | .no => False
/-- arguments, from the left, all settled -/
inductive RArgs (k : Kn) (A : Amb) (F H : Hp) (σ : L2.St) (env : En) : List Arg → List V → Prop
  | nil : RArgs k A F H σ env [] []
  | cons {x : Arg} {v : V} {xs : List Arg} {vs : List V} : RArg k A F H σ env (settle x) v → RArgs k A F H σ env xs vs → RArgs k A F H σ env (settle x :: xs) (v :: vs)
theorem RArgs.keep {k : Kn} {A : Amb} {F F' H H' : Hp} {σ : L2.St} {env env' : En} (e : Sub F F') : ∀ {xs : List Arg} {vs : List V}, RArgs k A F H σ env xs vs → RArgs k A F' H' σ env' xs vs
  | _, _, .nil => .nil
  | _, _, .cons h t => .cons (h.keep e) (RArgs.keep e t)
def PostA (k : Kn) (A : Amb) (W : WP) (F : Hp) (σ : L2.St) (r : Res (List Arg × En)) (Q : List V → Hp → Prop) : Prop :=
  match r with
  | .ok p => ∀ F' H' vs, Sub F F' → Sta k A F' H' σ p.2 → RArgs k A F' H' σ p.2 p.1 vs → Q vs H'
  | .ex x e => W.w A F x e
  | .no => False

section
variable {k : Kn} {A : Amb} {W : WP} {F F' : Hp} {σ : L2.St}
theorem PostE.mono {r : Res (Arg × En)} {Q : VK} (s : Sub F F') (h : PostE k A W F σ r Q) : PostE k A W F' σ r Q := by
  cases r with
  | ok p => exact fun F1 H1 v a b c => h F1 H1 v (s.trans a) b c
  | ex x e => exact W.mono s h
  | no => exact h
theorem PostT.mono {r : Res (Bool × En)} {Q : Bool → Hp → Prop} (s : Sub F F') (h : PostT k A W F σ r Q) : PostT k A W F' σ r Q := by
  cases r with
  | ok p => exact fun F1 H1 a b => h F1 H1 (s.trans a) b
  | ex x e => exact W.mono s h
  | no => exact h
theorem PostA.mono {r : Res (List Arg × En)} {Q : List V → Hp → Prop} (s : Sub F F') (h : PostA k A W F σ r Q) : PostA k A W F' σ r Q := by
  cases r with
  | ok p => exact fun F1 H1 v a b c => h F1 H1 v (s.trans a) b c
  | ex x e => exact W.mono s h
  | no => exact h
/-- an expression ahead of something: P is any of the posts -/
theorem PostE.bnd {α : Type} {r : Res (Arg × En)} {f : Arg × En → Res α} {P : Hp → Res α → Prop} {Q1 : VK} (hx : ∀ x e, P F (.ex x e) → W.w A F x e) (hn : ¬ P F .no) (hm : ∀ {F' r}, Sub F F' → P F r → P F' r) (h : P F (r.bind f))
    (g : ∀ p F' H' v, Sub F F' → Sta k A F' H' σ p.2 → RArg k A F' H' σ p.2 p.1 v → P F' (f p) → Q1 v H') : PostE k A W F σ r Q1 := by
  cases r with
  | ok p => exact fun F' H' v a b c => g p F' H' v a b c (hm a h)
  | ex x e => exact hx x e h
  | no => exact hn h
theorem PostT.bnd {α : Type} {r : Res (Bool × En)} {f : Bool × En → Res α} {P : Hp → Res α → Prop} {Q1 : Bool → Hp → Prop} (hx : ∀ x e, P F (.ex x e) → W.w A F x e) (hn : ¬ P F .no) (hm : ∀ {F' r}, Sub F F' → P F r → P F' r) (h : P F (r.bind f))
    (g : ∀ p F' H', Sub F F' → Sta k A F' H' σ p.2 → P F' (f p) → Q1 p.1 H') : PostT k A W F σ r Q1 := by
  cases r with
  | ok p => exact fun F' H' a b => g p F' H' a b (hm a h)
  | ex x e => exact hx x e h
  | no => exact hn h
theorem PostA.bnd {α : Type} {r : Res (List Arg × En)} {f : List Arg × En → Res α} {P : Hp → Res α → Prop} {Q1 : List V → Hp → Prop} (hx : ∀ x e, P F (.ex x e) → W.w A F x e) (hn : ¬ P F .no) (hm : ∀ {F' r}, Sub F F' → P F r → P F' r) (h : P F (r.bind f))
    (g : ∀ p F' H' vs, Sub F F' → Sta k A F' H' σ p.2 → RArgs k A F' H' σ p.2 p.1 vs → P F' (f p) → Q1 vs H') : PostA k A W F σ r Q1 := by
  cases r with
  | ok p => exact fun F' H' v a b c => g p F' H' v a b c (hm a h)
  | ex x e => exact hx x e h
  | no => exact hn h
-- the usual three
theorem PostE.afE {r : Res (Arg × En)} {f : Arg × En → Res (Arg × En)} {Q : VK} {Q1 : VK} (h : PostE k A W F σ (r.bind f) Q)
    (g : ∀ p F' H' v, Sub F F' → Sta k A F' H' σ p.2 → RArg k A F' H' σ p.2 p.1 v → PostE k A W F' σ (f p) Q → Q1 v H') : PostE k A W F σ r Q1 :=
  PostE.bnd (P := fun F r => PostE k A W F σ r Q) (fun _ _ h => h) (fun h => h) (fun s h => h.mono s) h g
theorem PostT.afE {r : Res (Arg × En)} {f : Arg × En → Res (Bool × En)} {Q : Bool → Hp → Prop} {Q1 : VK} (h : PostT k A W F σ (r.bind f) Q)
    (g : ∀ p F' H' v, Sub F F' → Sta k A F' H' σ p.2 → RArg k A F' H' σ p.2 p.1 v → PostT k A W F' σ (f p) Q → Q1 v H') : PostE k A W F σ r Q1 :=
  PostE.bnd (P := fun F r => PostT k A W F σ r Q) (fun _ _ h => h) (fun h => h) (fun s h => h.mono s) h g
theorem PostT.afT {r : Res (Bool × En)} {f : Bool × En → Res (Bool × En)} {Q : Bool → Hp → Prop} {Q1 : Bool → Hp → Prop} (h : PostT k A W F σ (r.bind f) Q)
    (g : ∀ p F' H', Sub F F' → Sta k A F' H' σ p.2 → PostT k A W F' σ (f p) Q → Q1 p.1 H') : PostT k A W F σ r Q1 :=
  PostT.bnd (P := fun F r => PostT k A W F σ r Q) (fun _ _ h => h) (fun h => h) (fun s h => h.mono s) h g
theorem PostE.afT {r : Res (Bool × En)} {f : Bool × En → Res (Arg × En)} {Q : VK} {Q1 : Bool → Hp → Prop} (h : PostE k A W F σ (r.bind f) Q)
    (g : ∀ p F' H', Sub F F' → Sta k A F' H' σ p.2 → PostE k A W F' σ (f p) Q → Q1 p.1 H') : PostT k A W F σ r Q1 :=
  PostT.bnd (P := fun F r => PostE k A W F σ r Q) (fun _ _ h => h) (fun h => h) (fun s h => h.mono s) h g
theorem PostA.afE {r : Res (Arg × En)} {f : Arg × En → Res (List Arg × En)} {Q : List V → Hp → Prop} {Q1 : VK} (h : PostA k A W F σ (r.bind f) Q)
    (g : ∀ p F' H' v, Sub F F' → Sta k A F' H' σ p.2 → RArg k A F' H' σ p.2 p.1 v → PostA k A W F' σ (f p) Q → Q1 v H') : PostE k A W F σ r Q1 :=
  PostE.bnd (P := fun F r => PostA k A W F σ r Q) (fun _ _ h => h) (fun h => h) (fun s h => h.mono s) h g
theorem PostE.afA {r : Res (List Arg × En)} {f : List Arg × En → Res (Arg × En)} {Q : VK} {Q1 : List V → Hp → Prop} (h : PostE k A W F σ (r.bind f) Q)
    (g : ∀ p F' H' vs, Sub F F' → Sta k A F' H' σ p.2 → RArgs k A F' H' σ p.2 p.1 vs → PostE k A W F' σ (f p) Q → Q1 vs H') : PostA k A W F σ r Q1 :=
  PostA.bnd (P := fun F r => PostE k A W F σ r Q) (fun _ _ h => h) (fun h => h) (fun s h => h.mono s) h g
theorem PostA.afA {r : Res (List Arg × En)} {f : List Arg × En → Res (List Arg × En)} {Q Q1 : List V → Hp → Prop} (h : PostA k A W F σ (r.bind f) Q)
    (g : ∀ p F' H' vs, Sub F F' → Sta k A F' H' σ p.2 → RArgs k A F' H' σ p.2 p.1 vs → PostA k A W F' σ (f p) Q → Q1 vs H') : PostA k A W F σ r Q1 :=
  PostA.bnd (P := fun F r => PostA k A W F σ r Q) (fun _ _ h => h) (fun h => h) (fun s h => h.mono s) h g
end

/-! ### judgements -/
def EX (X : Cx) (W : WP) (e : Expr) (f : FE) : Prop :=
  ∃ t, PE X e t ∧ ∀ (A : Amb) (F H : Hp) (σ : L2.St) (env : En) (Q : VK), Sta (kn X) A F H σ env → PostE (kn X) A W F σ (f env) Q → t σ H Q
def TX (X : Cx) (W : WP) (e : Expr) (f : FT) : Prop :=
  ∃ t, PT X e t ∧ ∀ (A : Amb) (F H : Hp) (σ : L2.St) (env : En) (Q : Bool → Hp → Prop), Sta (kn X) A F H σ env → PostT (kn X) A W F σ (f env) Q → t σ H Q
def WX' (X : Cx) (W : WP) (e : Expr) (f : FT) : Prop :=
  ∃ t, PW X e t ∧ ∀ (A : Amb) (F H : Hp) (σ : L2.St) (env : En) (Q : Bool → Hp → Prop), Sta (kn X) A F H σ env → PostT (kn X) A W F σ (f env) Q → t σ H Q
def AX (X : Cx) (W : WP) (es : List Expr) (f : FA) : Prop :=
  ∃ t, PA X es t ∧ ∀ (A : Amb) (F H : Hp) (σ : L2.St) (env : En) (Q : List V → Hp → Prop), Sta (kn X) A F H σ env → PostA (kn X) A W F σ (f env) Q → t σ H Q

section
variable {X : Cx} {W : WP} {pos : Pos}
/-! ### names and constants -/
def kst (d : D) : FE := fun env => .ok (.val d, env)
def rdv (i : Nat) : FE := fun env =>
  match env[i]? with
  | some (some (.fz d)) => .ok (.val d, env)
  | some (some (.ow _)) => .ok (.slot i, env)
  | some (some (.mu _)) => .ok (.slot i, env)
  | _ => .no
theorem ex_kst {e : Expr} {v : V} {d : D} (h : PE X e (tC v)) (r : ∀ H, Rep (kn X) H d v) : EX X W e (kst d) :=
  ⟨_, h, fun _ F H _ _ _ S q => q F H v (.refl F) S (r F)⟩
theorem ex_int {i : Int} {j : Nat} : EX X W (.Constant (.int i) j pos) (kst (.int i)) := ex_kst pe_int fun _ => .int i
theorem ex_bl {b : Bool} {j : Nat} : EX X W (.Constant (.bool b) j pos) (kst (.bl b)) := ex_kst pe_bl fun _ => .bl b
theorem ex_non {j : Nat} : EX X W (.Constant .none j pos) (kst .non) := ex_kst pe_non fun _ => .non
theorem ex_str {x : Str} {j : Nat} : EX X W (.Constant (.str x) j pos) (kst (.str x)) := ex_kst pe_str fun _ => .str x
theorem ex_gint {x : Str} {i : Int} {t : Tok} (hg : Gl X x) (hm : X.mg x = some (.int i t)) (hd : (x == ("__debug__" : Str)) = false := by decide) : EX X W (.Name x pos) (kst (.int i)) :=
  ex_kst (pe_glob hg hm (v := .int i) ⟨_, rfl⟩ hd) fun _ => .int i
theorem ex_gstr {x y : Str} {t : Tok} (hg : Gl X x) (hm : X.mg x = some (.str y t)) (hd : (x == ("__debug__" : Str)) = false := by decide) : EX X W (.Name x pos) (kst (.str y)) :=
  ex_kst (pe_glob hg hm (v := .str y) ⟨_, rfl⟩ hd) fun _ => .str y
theorem ex_gfn {x : Str} {a : Addr} (hg : Gl X x) (hm : X.mg x = some (.ref a)) (hd : (x == ("__debug__" : Str)) = false := by decide) : EX X W (.Name x pos) (kst (.fn x)) :=
  ex_kst (pe_glob hg hm (v := .ref a) rfl hd) fun _ => .fn hm
theorem ex_v (i : Nat) {x : Str} (hN : X.N[i]? = some x := by rfl) (hv : Vis X.env.scope x := by first | exact Or.inl rfl | exact Or.inr (Or.inl rfl) | exact Or.inr (Or.inr rfl)) (hd : (x == ("__debug__" : Str)) = false := by decide) (hcd : (x == ("__classdict__" : Str)) = false := by decide) :
    EX X W (.Name x pos) (rdv i) := by
  refine ⟨_, pe_var hN hv hd hcd, fun A F H σ env Q S q => ?_⟩
  unfold rdv at q
  split at q
  · rename_i d e
    obtain ⟨v, e1, r⟩ := S.rel i _ e
    exact ⟨v, e1, q F H v (.refl F) S r⟩
  · rename_i o e
    obtain ⟨v, e1, r⟩ := S.rel i _ e
    exact ⟨v, e1, q F H v (.refl F) S e1⟩
  · rename_i o e
    obtain ⟨v, e1, r⟩ := S.rel i _ e
    exact ⟨v, e1, q F H v (.refl F) S e1⟩
  · exact q.elim

/-! ### two-place operations -/
def bop (g : D → D → Option Arg) (fa fb : FE) : FE := fun env => (fa env).bind fun p => (fb p.2).bind fun q =>
  match cont (settle p.1) q.2, cont q.1 q.2 with
  | some a, some b => (match g a b with
    | some r => .ok (r, q.2)
    | none => .no)
  | _, _ => .no
def BOk (k : Kn) (r : R2) (g : D → D → Option Arg) : Prop :=
  ∀ (A : Amb) (F H : Hp) (σ : L2.St) (env : En) (x y : V) (a b : D) (z : Arg) (Q : VK), Sta k A F H σ env → View k F H a x → View k F H b y → g a b = some z →
    (∀ F' H' v, Sub F F' → Sta k A F' H' σ env → RArg k A F' H' σ env z v → Q v H') → r x y H Q
def gor (g g' : D → D → Option Arg) : D → D → Option Arg := fun a b => (g a b).orElse fun _ => g' a b
theorem BOk.or {k : Kn} {r r' : R2} {g g' : D → D → Option Arg} (h : BOk k r g) (h' : BOk k r' g') : BOk k (fun x y H Q => r x y H Q ∨ r' x y H Q) (gor g g') := by
  intro A F H σ env x y a b z Q S va vb e q
  cases c : g a b with
  | some y1 =>
    have e' : some y1 = some z := by simpa [gor, c] using e
    cases e'
    exact .inl (h A F H σ env x y a b _ Q S va vb c q)
  | none =>
    have e' : g' a b = some z := by simpa [gor, c] using e
    exact .inr (h' A F H σ env x y a b z Q S va vb e' q)
theorem bop_ok {r : R2} {g : D → D → Option Arg} {a b : Expr} {fa fb : FE} (hg : BOk (kn X) r g) (ha : EX X W a fa) (hb : EX X W b fb) :
    ∃ ta tb, PE X a ta ∧ PE X b tb ∧ ∀ (A : Amb) (F H : Hp) (σ : L2.St) (env : En) (Q : VK), Sta (kn X) A F H σ env → PostE (kn X) A W F σ (bop g fa fb env) Q → tOp r ta tb σ H Q := by
  obtain ⟨ta, pa, ra⟩ := ha
  obtain ⟨tb, pb, rb⟩ := hb
  refine ⟨ta, tb, pa, pb, fun A F H σ env Q S q => ra A F H σ env _ S (q.afE fun p F1 H1 v1 s1 S1 r1 q1 => ?_)⟩
  obtain ⟨F1', s1', S1', r1'⟩ := S1.settle r1
  refine rb A F1' H1 σ p.2 _ S1' ((q1.mono s1').afE fun p2 F2 H2 v2 s2 S2 r2 q2 => ?_)
  have k1 := r1'.keep (F' := F2) (H' := H2) (env' := p2.2) s2
  split at q2
  · rename_i da db ea eb
    split at q2
    · rename_i z ez
      exact hg A F2 H2 σ p2.2 v1 v2 da db z Q S2 (S2.view k1 ea) (S2.view r2 eb) ez fun F' H' v a b c => q2 F' H' v a b c
    · exact q2.elim
  · exact q2.elim
theorem ex_bin {op : Operator} {r : R2} {g : D → D → Option Arg} {a b : Expr} {fa fb : FE} (ho : OpR X (binaryOp op) r) (hg : BOk (kn X) r g) (ha : EX X W a fa) (hb : EX X W b fb) : EX X W (.BinOp a op b pos) (bop g fa fb) :=
  let ⟨_, _, pa, pb, h⟩ := bop_ok hg ha hb
  ⟨_, pe_op ho pa pb, h⟩
theorem ex_cmp {op : CmpOp} {r : R2} {g : D → D → Option Arg} {a b : Expr} {fa fb : FE} (ho : OpR X (compareOp op) r) (hg : BOk (kn X) r g) (ha : EX X W a fa) (hb : EX X W b fb) (hm : behindInMarks op b = false) : EX X W (.Compare a [op] [b] pos) (bop g fa fb) :=
  let ⟨_, _, pa, pb, h⟩ := bop_ok hg ha hb
  ⟨_, pe_cmpR ho pa pb hm, h⟩
/-- a truth value as a test -/
def tst (f : FE) : FT := fun env => (f env).bind fun p => match p.1 with
  | .val (.bl b) => .ok (b, p.2)
  | _ => .no
theorem tst_ok {te : TE} {f : FE} (h : ∀ (A : Amb) (F H : Hp) (σ : L2.St) (env : En) (Q : VK), Sta (kn X) A F H σ env → PostE (kn X) A W F σ (f env) Q → te σ H Q) :
    ∀ (A : Amb) (F H : Hp) (σ : L2.St) (env : En) (Q : Bool → Hp → Prop), Sta (kn X) A F H σ env → PostT (kn X) A W F σ (tst f env) Q → te σ H fun x H' => ∃ c, x = .bl c ∧ Q c H' := by
  intro A F H σ env Q S q
  refine h A F H σ env _ S (q.afE fun p F1 H1 v1 s1 S1 r1 q1 => ?_)
  obtain ⟨x, e⟩ := p
  dsimp only at q1 r1
  split at q1
  · rename_i b
    cases r1
    exact ⟨b, rfl, q1 F1 H1 (.refl _) S1⟩
  · exact q1.elim
theorem tx_cmp {op : CmpOp} {r : R2} {g : D → D → Option Arg} {a b : Expr} {fa fb : FE} (ho : OpR X (compareOp op) r) (hg : BOk (kn X) r g) (ha : EX X W a fa) (hb : EX X W b fb) (hm : behindInMarks op b = false) : TX X W (.Compare a [op] [b] pos) (tst (bop g fa fb)) :=
  let ⟨_, _, pa, pb, h⟩ := bop_ok hg ha hb
  ⟨_, pt_cmpR ho pa pb hm, tst_ok h⟩
/-- an expression by its truth -/
def tru : D → Option Bool
  | .non => some false
  | .bl b => some b
  | .int i => some (i != 0)
  | .str s => if s.length ≤ sizeLine then some ((s.length : Int) != 0) else none
  | .lst ds => some (!ds.isEmpty)
  | .tup ds => some (!ds.isEmpty)
  | .dct ks _ => some (!ks.isEmpty)
  | _ => none
def trt (f : FE) : FT := fun env => (f env).bind fun p => match (cont p.1 p.2).bind tru with
  | some b => .ok (b, p.2)
  | none => .no
theorem isEmpty_len {α β : Type} {l : List α} {m : List β} (h : l.length = m.length) : l.isEmpty = m.isEmpty := by
  cases l <;> cases m <;> simp at h ⊢
theorem tru_ok {k : Kn} {F H : Hp} {d : D} {v : V} {b : Bool} (s : Sub F H) (h : View k F H d v) (e : tru d = some b) : TruV k.K v H b := by
  cases d with
  | non => cases h.non; cases e; rfl
  | bl c => cases h.bl; cases e; rfl
  | int i => cases h.int; cases e; rfl
  | str z =>
    cases h.str
    simp only [tru] at e
    split at e
    · rename_i q; cases e; exact ⟨q, rfl⟩
    · cases e
  | lst ds =>
    obtain ⟨a, vs, rfl, hs, r⟩ := h.lst s
    cases e
    exact .inl ⟨vs, SqL.of hs, by rw [isEmpty_len r.len.symm]⟩
  | tup ds =>
    obtain ⟨a, vs, rfl, hs, r⟩ := h.tup
    cases e
    exact .inr (.inl ⟨vs, s.t hs, by rw [isEmpty_len r.len.symm]⟩)
  | dct ks ds =>
    obtain ⟨a, kvs, rfl, hp, e1, r⟩ := h.dct s
    cases e
    exact .inr (.inr ⟨_, hp, by subst e1; rw [isEmpty_len (List.length_map _)]⟩)
  | dctT ks ds => cases e
  | inst _ _ _ => cases e
  | fn _ => cases e
  | scr _ => cases e
theorem tx_tru {e : Expr} {f : FE} (h : EX X W e f) (he : ∀ whole, isTrue e X.env whole = (do let v ← whole; standAt e.pos; holding [v] (truthy v)) := by intro _; rfl) : TX X W e (trt f) := by
  obtain ⟨t, p, r⟩ := h
  refine ⟨_, pt_truth p he, fun A F H σ env Q S q => r A F H σ env _ S (q.afE fun p F1 H1 v1 s1 S1 r1 q1 => ?_)⟩
  obtain ⟨x, e⟩ := p
  dsimp only at q1 r1
  split at q1
  · rename_i b eb
    cases c : cont x e with
    | none => rw [c] at eb; cases eb
    | some d =>
      rw [c] at eb
      exact ⟨b, tru_ok S1.sub (S1.view r1 c) eb, q1 F1 H1 (.refl _) S1⟩
  · exact q1.elim
/-! ### and, or, not -/
def tnot (f : FT) : FT := fun env => (f env).bind fun p => .ok (!p.1, p.2)
def tand (f g : FT) : FT := fun env => (f env).bind fun p => if p.1 = true then g p.2 else .ok (false, p.2)
def tor (f g : FT) : FT := fun env => (f env).bind fun p => if p.1 = true then .ok (true, p.2) else g p.2
variable {a b : Expr} {rest : List Expr} {f g : FT}
theorem tx_not (h : TX X W a f) : TX X W (.UnaryOp .Not a pos) (tnot f) := by
  obtain ⟨t, p, r⟩ := h
  exact ⟨_, pt_not p, fun A F H σ env Q S q => r A F H σ env _ S (q.afT fun p F1 H1 s1 S1 q1 => q1 F1 H1 (.refl _) S1)⟩
theorem tx_w (h : WX' X W a f) : TX X W a f := let ⟨t, p, r⟩ := h; ⟨t, p.pt, r⟩
theorem wx_and1 (h : TX X W a f) : WX' X W (.BoolOp .And [a] pos) f := let ⟨t, p, r⟩ := h; ⟨t, pw_and1 p, r⟩
theorem wx_or1 (h : TX X W a f) : WX' X W (.BoolOp .Or [a] pos) f := let ⟨t, p, r⟩ := h; ⟨t, pw_or1 p, r⟩
theorem wx_and (h : TX X W a f) (h' : WX' X W (.BoolOp .And (b :: rest) pos) g) : WX' X W (.BoolOp .And (a :: b :: rest) pos) (tand f g) := by
  obtain ⟨t, p, r⟩ := h
  obtain ⟨t', p', r'⟩ := h'
  refine ⟨_, pw_and p p', fun A F H σ env Q S q => r A F H σ env _ S (q.afT fun p F1 H1 s1 S1 q1 => ?_)⟩
  by_cases c : p.1 = true
  · rw [if_pos c] at q1 ⊢; exact r' A F1 H1 σ p.2 Q S1 q1
  · rw [if_neg c] at q1 ⊢; exact q1 F1 H1 (.refl _) S1
theorem wx_or (h : TX X W a f) (h' : WX' X W (.BoolOp .Or (b :: rest) pos) g) : WX' X W (.BoolOp .Or (a :: b :: rest) pos) (tor f g) := by
  obtain ⟨t, p, r⟩ := h
  obtain ⟨t', p', r'⟩ := h'
  refine ⟨_, pw_or p p', fun A F H σ env Q S q => r A F H σ env _ S (q.afT fun p F1 H1 s1 S1 q1 => ?_)⟩
  by_cases c : p.1 = true
  · rw [if_pos c] at q1 ⊢; exact q1 F1 H1 (.refl _) S1
  · rw [if_neg c] at q1 ⊢; exact r' A F1 H1 σ p.2 Q S1 q1
/-- as values: truth values alone -/
def vnot (f : FE) : FE := fun env => (tst f env).bind fun p => .ok (.val (.bl (!p.1)), p.2)
def vand (f g : FE) : FE := fun env => (tst f env).bind fun p => if p.1 = true then g p.2 else .ok (.val (.bl false), p.2)
def vor (f g : FE) : FE := fun env => (tst f env).bind fun p => if p.1 = true then .ok (.val (.bl true), p.2) else g p.2
theorem PostE.tst {k : Kn} {A : Amb} {F : Hp} {σ : L2.St} {f : FE} {env : En} {h : Bool × En → Res (Arg × En)} {Q : VK} {R : Bool → Hp → Prop} (q : PostE k A W F σ ((tst f env).bind h) Q)
    (g : ∀ p F' H', Sub F F' → Sta k A F' H' σ p.2 → PostE k A W F' σ (h p) Q → R p.1 H') : PostE k A W F σ (f env) fun x H1 => ∃ c, x = .bl c ∧ R c H1 := by
  unfold PL.tst at q
  cases e : f env with
  | ok p =>
    rw [e] at q
    intro F1 H1 v1 s1 S1 r1
    obtain ⟨x, e1⟩ := p
    simp only [Res.bind_ok] at q r1
    cases x with
    | slot j => exact q.elim
    | new o => exact q.elim
    | val d =>
      cases d with
      | bl c => cases r1; exact ⟨c, rfl, g (c, e1) F1 H1 s1 S1 (PostE.mono s1 q)⟩
      | _ => exact q.elim
  | ex x e1 => rw [e] at q; exact q
  | no => rw [e] at q; exact q
theorem ex_not {fa : FE} (h : EX X W a fa) : EX X W (.UnaryOp .Not a pos) (vnot fa) := by
  obtain ⟨t, p, r⟩ := h
  exact ⟨_, pe_not p, fun A F H σ env Q S q => r A F H σ env _ S (q.tst fun p F1 H1 s1 S1 q1 => q1 F1 H1 _ (.refl _) S1 (.bl _))⟩
theorem ex_one {op : BoolOp} {fa : FE} (h : EX X W a fa) : EX X W (.BoolOp op [a] pos) fa := let ⟨t, p, r⟩ := h; ⟨t, pe_one p, r⟩
theorem ex_and {fa fb : FE} (h : EX X W a fa) (h' : EX X W (.BoolOp .And (b :: rest) pos) fb) : EX X W (.BoolOp .And (a :: b :: rest) pos) (vand fa fb) := by
  obtain ⟨t, p, r⟩ := h
  obtain ⟨t', p', r'⟩ := h'
  refine ⟨_, pe_and p p', fun A F H σ env Q S q => r A F H σ env _ S (q.tst (R := fun c H1 => if c = true then t' σ H1 Q else Q (.bl false) H1) fun p F1 H1 s1 S1 q1 => ?_)⟩
  by_cases c : p.1 = true
  · rw [if_pos c] at q1 ⊢; exact r' A F1 H1 σ p.2 Q S1 q1
  · rw [if_neg c] at q1 ⊢; exact q1 F1 H1 _ (.refl _) S1 (.bl _)
theorem ex_or {fa fb : FE} (h : EX X W a fa) (h' : EX X W (.BoolOp .Or (b :: rest) pos) fb) : EX X W (.BoolOp .Or (a :: b :: rest) pos) (vor fa fb) := by
  obtain ⟨t, p, r⟩ := h
  obtain ⟨t', p', r'⟩ := h'
  refine ⟨_, pe_or p p', fun A F H σ env Q S q => r A F H σ env _ S (q.tst (R := fun c H1 => if c = true then Q (.bl true) H1 else t' σ H1 Q) fun p F1 H1 s1 S1 q1 => ?_)⟩
  by_cases c : p.1 = true
  · rw [if_pos c] at q1 ⊢; exact q1 F1 H1 _ (.refl _) S1 (.bl _)
  · rw [if_neg c] at q1 ⊢; exact r' A F1 H1 σ p.2 Q S1 q1
def vif (c : FT) (f g : FE) : FE := fun env => (c env).bind fun p => if p.1 = true then f p.2 else g p.2
theorem ex_if {c : Expr} {fa fb : FE} (hc : TX X W c f) (h : EX X W a fa) (h' : EX X W b fb) : EX X W (.IfExp c a b pos) (vif f fa fb) := by
  obtain ⟨t0, p0, r0⟩ := hc
  obtain ⟨t, p, r⟩ := h
  obtain ⟨t', p', r'⟩ := h'
  refine ⟨_, pe_ifExp p0 p p', fun A F H σ env Q S q => r0 A F H σ env _ S (q.afT fun p F1 H1 s1 S1 q1 => ?_)⟩
  by_cases c : p.1 = true
  · rw [if_pos c] at q1 ⊢; exact r A F1 H1 σ p.2 Q S1 q1
  · rw [if_neg c] at q1 ⊢; exact r' A F1 H1 σ p.2 Q S1 q1
end
end PL

/-! PL: operations by values. -/
namespace PL
open PySem PySem.Spec PyProof.Rows L2

/-! ### as the kit's data -/
mutual
def toP : D → Option PyData
  | .non => some .none
  | .bl b => some (.bool b)
  | .int i => some (.int i)
  | .str s => some (.str s)
  | .tup ds => (toPs ds).map .tuple
  | .lst ds => (toPs ds).map .list
  | _ => none
def toPs : List D → Option (List PyData)
  | [] => some []
  | d :: ds => match toP d, toPs ds with
    | some x, some xs => some (x :: xs)
    | _, _ => none
end
theorem toPs_map {α : Type} (f : α → D) (g : α → PyData) (h : ∀ a, toP (f a) = some (g a)) : ∀ l : List α, toPs (l.map f) = some (l.map g)
  | [] => by simp [toPs]
  | a :: l => by simp [toPs, h, toPs_map f g h l]
section
variable {k : Kn} {H : Hp}
mutual
theorem Rep.dp : ∀ {d : D} {v : V} {p : PyData}, Rep k H d v → toP d = some p → Dp k.K H v p
  | .non, _, _, .non, e => by simp [toP] at e; subst e; exact .non
  | .bl b, _, _, .bl _, e => by simp [toP] at e; subst e; exact .bl b
  | .int i, _, _, .int _, e => by simp [toP] at e; subst e; exact .int i
  | .str s, _, _, .str _, e => by simp [toP] at e; subst e; exact .str s
  | .tup ds, _, _, .tup h r, e => by
    simp only [toP] at e
    cases q : toPs ds with
    | none => rw [q] at e; cases e
    | some xs => rw [q] at e; cases e; exact .tup h (Reps.dp r q)
  | .lst ds, _, _, .lst h r, e => by
    simp only [toP] at e
    cases q : toPs ds with
    | none => rw [q] at e; cases e
    | some xs => rw [q] at e; cases e; exact .lst (SqL.of h) (Reps.dp r q)
  | .dct _ _, _, _, _, e => by simp [toP] at e
  | .dctT _ _, _, _, _, e => by simp [toP] at e
  | .inst _ _ _, _, _, _, e => by simp [toP] at e
  | .fn _, _, _, _, e => by simp [toP] at e
  | .scr _, _, _, _, e => by simp [toP] at e
theorem Reps.dp : ∀ {ds : List D} {vs : List V} {ps : List PyData}, Reps k H ds vs → toPs ds = some ps → DpAll k.K H vs ps
  | [], _, _, .nil, e => by simp [toPs] at e; subst e; exact .nil
  | d :: ds, _, _, .cons h t, e => by
    simp only [toPs] at e
    split at e
    · rename_i x xs e1 e2
      cases e
      exact .cons (Rep.dp h e1) (Reps.dp t e2)
    · cases e
end
theorem View.rep {F : Hp} {d : D} {v : V} (s : Sub F H) (h : View k F H d v) : Rep k H d v := by
  rcases h with h | ⟨o, p, u, rfl, rfl, hp, r⟩
  · exact h.mono s
  · exact (r.mono s).rep hp
end

/-! ### new objects -/
section
variable {k : Kn} {A : Amb} {F H : Hp} {σ : L2.St} {env : En} {Q : VK}
theorem Sta.newL (S : Sta k A F H σ env) {ds : List D} {vs : List V} (r : Reps k F ds vs)
    (q : ∀ F' H' v, Sub F F' → Sta k A F' H' σ env → RArg k A F' H' σ env (.new (.lst ds)) v → Q v H') : ∀ p, H p = none → Q (.ref p) (upd H p (.lst vs)) := fun p hp =>
  let ⟨a, b, c⟩ := S.fresh hp
  q F _ _ (.refl F) (S.grow hp) ⟨p, _, rfl, upd_same, .lst r, a, b, c⟩
theorem Sta.newT (S : Sta k A F H σ env) {ds : List D} {vs : List V} (r : Reps k F ds vs)
    (q : ∀ F' H' v, Sub F F' → Sta k A F' H' σ env → RArg k A F' H' σ env (.val (.tup ds)) v → Q v H') : ∀ p, H p = none → Q (.ref p) (upd H p (.tup vs)) := fun p hp =>
  let ⟨a, _, _⟩ := S.fresh hp
  q _ _ _ (.new a) (S.lay hp) (.tup (SqT.of upd_same) (r.mono (.new a)))
end

/-! ### + - * // % ** -/
def vI (i : Int) : Option Arg := some (.val (.int i))
def vB (b : Bool) : Option Arg := some (.val (.bl b))
def gAddI : D → D → Option Arg
  | .int i, .int j => vI (i + j)
  | _, _ => none
def gAddS : D → D → Option Arg
  | .str a, .str b => if a.length + b.length ≤ sizeLine then some (.val (.str (a ++ b))) else none
  | _, _ => none
def gAddL : D → D → Option Arg
  | .lst a, .lst b => if a.length + b.length ≤ sizeLine then some (.new (.lst (a ++ b))) else none
  | _, _ => none
def gAddT : D → D → Option Arg
  | .tup a, .tup b => if a.length + b.length ≤ sizeLine then some (.val (.tup (a ++ b))) else none
  | _, _ => none
def gSub : D → D → Option Arg
  | .int i, .int j => vI (i - j)
  | _, _ => none
def gMulI : D → D → Option Arg
  | .int i, .int j => if (-(2 ^ 64) < i ∧ i < 2 ^ 64) ∨ (-(2 ^ 64) < j ∧ j < 2 ^ 64) then vI (i * j) else none
  | _, _ => none
def gMulL : D → D → Option Arg
  | .lst a, .int j => if -(2 ^ 63) ≤ j ∧ j < 2 ^ 63 ∧ a.length * j.toNat ≤ sizeLine then some (.new (.lst (List.replicate j.toNat a).flatten)) else none
  | _, _ => none
def gMulT : D → D → Option Arg
  | .tup a, .int j => if a ≠ [] ∧ 2 ≤ j ∧ j ≤ 1000 ∧ a.length ≤ 1000 then some (.val (.tup (List.replicate j.toNat a).flatten)) else none
  | _, _ => none
def gDiv : D → D → Option Arg
  | .int i, .int j => if 0 < j ∧ j < 2 ^ 64 then vI (i / j) else none
  | _, _ => none
def gMod : D → D → Option Arg
  | .int i, .int j => if 0 < j then vI (i % j) else none
  | _, _ => none
def gPow : D → D → Option Arg
  | .int i, .int j => if 0 ≤ j ∧ j ≤ 1000000 ∧ i.natAbs < 2 ^ 64 then vI (i ^ j.toNat) else none
  | _, _ => none
section
variable {k : Kn}
/-- two ints to an int -/
theorem bok_I {C : Int → Int → Prop} {g : Int → Int → Int} {f : D → D → Option Arg} (h : ∀ a b z, f a b = some z → ∃ i j, a = .int i ∧ b = .int j ∧ C i j ∧ z = .val (.int (g i j))) : BOk k (rI C fun i j => .int (g i j)) f := by
  intro A F H σ env x y a b z Q S va vb e q
  obtain ⟨i, j, rfl, rfl, c, rfl⟩ := h a b z e
  cases va.int; cases vb.int
  exact ⟨i, j, rfl, rfl, c, q F H _ (.refl F) S (.int _)⟩
theorem bok_I0 {g : Int → Int → Int} {f : D → D → Option Arg} (h : ∀ a b z, f a b = some z → ∃ i j, a = .int i ∧ b = .int j ∧ z = .val (.int (g i j))) : BOk k (rI0 fun i j => .int (g i j)) f := by
  intro A F H σ env x y a b z Q S va vb e q
  obtain ⟨i, j, rfl, rfl, rfl⟩ := h a b z e
  cases va.int; cases vb.int
  exact ⟨i, j, rfl, rfl, q F H _ (.refl F) S (.int _)⟩
theorem bok_B0 {g : Int → Int → Bool} {f : D → D → Option Arg} (h : ∀ a b z, f a b = some z → ∃ i j, a = .int i ∧ b = .int j ∧ z = .val (.bl (g i j))) : BOk k (rI0 fun i j => .bl (g i j)) f := by
  intro A F H σ env x y a b z Q S va vb e q
  obtain ⟨i, j, rfl, rfl, rfl⟩ := h a b z e
  cases va.int; cases vb.int
  exact ⟨i, j, rfl, rfl, q F H _ (.refl F) S (.bl _)⟩
theorem bok_addI : BOk k (rI0 fun i j => .int (i + j)) gAddI := bok_I0 fun a b z e => by
  unfold gAddI at e; split at e
  · cases e; exact ⟨_, _, rfl, rfl, rfl⟩
  · cases e
theorem bok_sub : BOk k (rI0 fun i j => .int (i - j)) gSub := bok_I0 fun a b z e => by
  unfold gSub at e; split at e
  · cases e; exact ⟨_, _, rfl, rfl, rfl⟩
  · cases e
theorem bok_mulI : BOk k (rI CMul fun i j => .int (i * j)) gMulI := bok_I fun a b z e => by
  unfold gMulI at e; split at e
  · split at e
    · rename_i c; cases e; exact ⟨_, _, rfl, rfl, c, rfl⟩
    · cases e
  · cases e
theorem log2_lt {j : Int} (h : j < 2 ^ 64) (h0 : 0 < j) : j.natAbs.log2 < 9000 := by
  have h1 : j.natAbs < 2 ^ 64 := by omega
  exact Nat.lt_of_lt_of_le (Nat.log2_lt (by omega) |>.mpr h1) (by decide)
theorem bok_div : BOk k (rI CDivW fun i j => .int (i / j)) gDiv := bok_I fun a b z e => by
  unfold gDiv at e; split at e
  · split at e
    · rename_i c; cases e; exact ⟨_, _, rfl, rfl, ⟨c.1, log2_lt c.2 c.1⟩, rfl⟩
    · cases e
  · cases e
theorem bok_mod : BOk k (rI (fun _ j => 0 < j) fun i j => .int (i % j)) gMod := bok_I fun a b z e => by
  unfold gMod at e; split at e
  · split at e
    · rename_i c; cases e; exact ⟨_, _, rfl, rfl, c, rfl⟩
    · cases e
  · cases e
theorem bok_pow : BOk k (rI CPow fun i j => .int (i ^ j.toNat)) gPow := bok_I fun a b z e => by
  unfold gPow at e; split at e
  · split at e
    · rename_i c; cases e; exact ⟨_, _, rfl, rfl, c, rfl⟩
    · cases e
  · cases e
theorem bok_addS : BOk k (fun x y H Q => ∃ i j, x = .str i ∧ y = .str j ∧ i.length + j.length ≤ sizeLine ∧ Q (.str (i ++ j)) H) gAddS := by
  intro A F H σ env x y a b z Q S va vb e q
  unfold gAddS at e
  split at e
  · split at e
    · rename_i c; cases e; cases va.str; cases vb.str
      exact ⟨_, _, rfl, rfl, c, q F H _ (.refl F) S (.str _)⟩
    · cases e
  · cases e
theorem bok_addL : BOk k rCat gAddL := by
  intro A F H σ env x y a b z Q S va vb e q
  unfold gAddL at e
  split at e
  · split at e
    · rename_i c; cases e
      obtain ⟨l, vs, rfl, h1, r1⟩ := va.lst S.sub
      obtain ⟨m, us, rfl, h2, r2⟩ := vb.lst S.sub
      exact ⟨l, m, vs, us, rfl, rfl, h1, h2, by rw [r1.len, r2.len]; exact c, S.newL (r1.append r2) q⟩
    · cases e
  · cases e
theorem Reps.nil_iff {H : Hp} {ds : List D} {vs : List V} (r : Reps k H ds vs) : vs = [] ↔ ds = [] := by
  have := r.len
  rw [← List.length_eq_zero_iff, ← List.length_eq_zero_iff, this]
theorem bok_addT : BOk k (rCatA k.K) gAddT := by
  intro A F H σ env x y a b z Q S va vb e q
  unfold gAddT at e
  split at e
  · split at e
    · rename_i c; cases e
      obtain ⟨l, vs, rfl, h1, r1⟩ := va.tup
      obtain ⟨m, us, rfl, h2, r2⟩ := vb.tup
      refine ⟨l, m, vs, us, rfl, rfl, S.sub.t h1, S.sub.t h2, by rw [r1.len, r2.len]; exact c, fun z => ?_, fun _ z => ?_, fun _ _ => S.newT (r1.append r2) q⟩
      · have z' := r1.nil_iff.mp z
        subst z'
        exact q F H _ (.refl F) S (.tup h2 r2)
      · have z' := r2.nil_iff.mp z
        subst z'
        rw [List.append_nil] at q
        exact q F H _ (.refl F) S (.tup h1 r1)
    · cases e
  · cases e
theorem bok_mulL : BOk k rRep gMulL := by
  intro A F H σ env x y a b z Q S va vb e q
  unfold gMulL at e
  split at e
  · split at e
    · rename_i c; cases e
      obtain ⟨l, vs, rfl, h1, r1⟩ := va.lst S.sub
      cases vb.int
      exact ⟨l, _, vs, rfl, rfl, h1, c.1, c.2.1, by rw [r1.len]; exact c.2.2, S.newL (r1.rep _) q⟩
    · cases e
  · cases e
theorem bok_mulT : BOk k (rRepT k.K) gMulT := by
  intro A F H σ env x y a b z Q S va vb e q
  unfold gMulT at e
  split at e
  · split at e
    · rename_i c; cases e
      obtain ⟨l, vs, rfl, h1, r1⟩ := va.tup
      cases vb.int
      exact ⟨l, _, vs, rfl, rfl, S.sub.t h1, fun z => c.1 (r1.nil_iff.mp z), c.2.1, c.2.2.1, by rw [r1.len]; exact c.2.2.2, S.newT (r1.rep _) q⟩
    · cases e
  · cases e
end
def gAdd : D → D → Option Arg := gor gAddI (gor gAddL (gor gAddT gAddS))
def gMul : D → D → Option Arg := gor gMulI (gor gMulL gMulT)
section
variable {X : Cx} {W : WP} {a b : Expr} {fa fb : FE} {pos : Pos}
theorem ex_add (ha : EX X W a fa) (hb : EX X W b fb) : EX X W (.BinOp a .Add b pos) (bop gAdd fa fb) :=
  ex_bin (op_add.or (op_cat.or (op_catA.or op_add_str))) (bok_addI.or (bok_addL.or (bok_addT.or bok_addS))) ha hb
theorem ex_sub (ha : EX X W a fa) (hb : EX X W b fb) : EX X W (.BinOp a .Sub b pos) (bop gSub fa fb) := ex_bin op_sub bok_sub ha hb
theorem ex_mul (ha : EX X W a fa) (hb : EX X W b fb) : EX X W (.BinOp a .Mult b pos) (bop gMul fa fb) := ex_bin (op_mul.or (op_rep.or op_repT)) (bok_mulI.or (bok_mulL.or bok_mulT)) ha hb
theorem ex_div (ha : EX X W a fa) (hb : EX X W b fb) : EX X W (.BinOp a .FloorDiv b pos) (bop gDiv fa fb) := ex_bin op_fdivW bok_div ha hb
theorem ex_mod (ha : EX X W a fa) (hb : EX X W b fb) : EX X W (.BinOp a .Mod b pos) (bop gMod fa fb) := ex_bin op_mod bok_mod ha hb
theorem ex_pow (ha : EX X W a fa) (hb : EX X W b fb) : EX X W (.BinOp a .Pow b pos) (bop gPow fa fb) := ex_bin op_pow bok_pow ha hb
/-- -a -/
def uop (g : D → Option Arg) (f : FE) : FE := fun env => (f env).bind fun p => match (cont p.1 p.2).bind g with
  | some r => .ok (r, p.2)
  | none => .no
def gNeg : D → Option Arg
  | .int i => vI (-i)
  | _ => none
theorem ex_neg (ha : EX X W a fa) : EX X W (.UnaryOp .USub a pos) (uop gNeg fa) := by
  obtain ⟨t, p, r⟩ := ha
  refine ⟨_, pe_un un_neg p, fun A F H σ env Q S q => r A F H σ env _ S (q.afE fun p F1 H1 v1 s1 S1 r1 q1 => ?_)⟩
  obtain ⟨x, e⟩ := p
  dsimp only at q1 r1
  cases c : cont x e with
  | none => rw [c] at q1; exact q1.elim
  | some d =>
    rw [c] at q1
    have vw := S1.view r1 c
    cases d with
    | int i =>
      cases vw.int
      exact ⟨i, rfl, q1 F1 H1 _ (.refl _) S1 (.int _)⟩
    | _ => exact q1.elim
end

/-! ### comparisons -/
def gLt : D → D → Option Arg
  | .int i, .int j => vB (decide (i < j))
  | _, _ => none
def gLe : D → D → Option Arg
  | .int i, .int j => vB (decide (i ≤ j))
  | _, _ => none
def gGt : D → D → Option Arg
  | .int i, .int j => vB (decide (j < i))
  | _, _ => none
def gGe : D → D → Option Arg
  | .int i, .int j => vB (decide (j ≤ i))
  | _, _ => none
def eqD (neg : Bool) (a b : D) : Option Arg :=
  match toP a, toP b with
  | some x, some y => if SeqAt.shaped x = true ∧ SeqAt.shaped y = true then vB (if neg then !PyData.eqv x y else PyData.eqv x y) else none
  | _, _ => none
def gEq : D → D → Option Arg
  | .int i, .int j => vB (decide (i = j))
  | .str i, .str j => vB (decide (i = j))
  | a, b => eqD false a b
def gNe : D → D → Option Arg
  | .int i, .int j => vB (!decide (i = j))
  | .str i, .str j => vB (!decide (i = j))
  | a, b => eqD true a b
def isNon : D → Bool
  | .non => true
  | _ => false
def gIs : D → D → Option Arg
  | a, .non => vB (isNon a)
  | _, _ => none
def gNot : D → D → Option Arg
  | a, .non => vB (!isNon a)
  | _, _ => none
section
variable {k : Kn}
theorem bok_lt : BOk k (rI0 fun i j => .bl (decide (i < j))) gLt := bok_B0 fun a b z e => by
  unfold gLt at e; split at e
  · cases e; exact ⟨_, _, rfl, rfl, rfl⟩
  · cases e
theorem bok_le : BOk k (rI0 fun i j => .bl (decide (i ≤ j))) gLe := bok_B0 fun a b z e => by
  unfold gLe at e; split at e
  · cases e; exact ⟨_, _, rfl, rfl, rfl⟩
  · cases e
theorem bok_gt : BOk k (rI0 fun i j => .bl (decide (j < i))) gGt := bok_B0 fun a b z e => by
  unfold gGt at e; split at e
  · cases e; exact ⟨_, _, rfl, rfl, rfl⟩
  · cases e
theorem bok_ge : BOk k (rI0 fun i j => .bl (decide (j ≤ i))) gGe := bok_B0 fun a b z e => by
  unfold gGe at e; split at e
  · cases e; exact ⟨_, _, rfl, rfl, rfl⟩
  · cases e
theorem eqD_ok {neg : Bool} {a b : D} {z : Arg} (e : eqD neg a b = some z) : ∃ x y, toP a = some x ∧ toP b = some y ∧ SeqAt.shaped x = true ∧ SeqAt.shaped y = true ∧ z = .val (.bl (if neg then !PyData.eqv x y else PyData.eqv x y)) := by
  unfold eqD at e
  split at e
  · split at e
    · rename_i x y e1 e2 c; cases e; exact ⟨_, _, e1, e2, c.1, c.2, rfl⟩
    · cases e
  · cases e
theorem bok_eq : BOk k (fun x y H Q => rEq x y H Q ∨ rEqD k.K x y H Q) gEq := by
  intro A F H σ env x y a b z Q S va vb e q
  unfold gEq at e
  split at e
  · rename_i i j
    cases e; cases va.int; cases vb.int
    exact .inl ⟨rfl, by rw [dec_int, Bool.beq_eq_decide_eq]; exact q F H _ (.refl F) S (.bl _)⟩
  · rename_i i j
    cases e; cases va.str; cases vb.str
    exact .inl ⟨rfl, by rw [dec_str, Bool.beq_eq_decide_eq]; exact q F H _ (.refl F) S (.bl _)⟩
  · obtain ⟨p, r, e1, e2, s1, s2, rfl⟩ := eqD_ok e
    exact .inr ⟨p, r, (va.rep S.sub).dp e1, (vb.rep S.sub).dp e2, s1, s2, q F H _ (.refl F) S (.bl _)⟩
theorem bok_ne : BOk k (fun x y H Q => rNe x y H Q ∨ rNeD k.K x y H Q) gNe := by
  intro A F H σ env x y a b z Q S va vb e q
  unfold gNe at e
  split at e
  · rename_i i j
    cases e; cases va.int; cases vb.int
    exact .inl ⟨rfl, by rw [dec_int, Bool.beq_eq_decide_eq]; exact q F H _ (.refl F) S (.bl _)⟩
  · rename_i i j
    cases e; cases va.str; cases vb.str
    exact .inl ⟨rfl, by rw [dec_str, Bool.beq_eq_decide_eq]; exact q F H _ (.refl F) S (.bl _)⟩
  · obtain ⟨p, r, e1, e2, s1, s2, rfl⟩ := eqD_ok e
    exact .inr ⟨p, r, (va.rep S.sub).dp e1, (vb.rep S.sub).dp e2, s1, s2, q F H _ (.refl F) S (.bl _)⟩
theorem View.isN {F H : Hp} {d : D} {v : V} (h : View k F H d v) : decide (v = .non) = isNon d := by
  rcases h with h | ⟨o, p, u, rfl, rfl, _⟩
  · cases h <;> rfl
  · cases o <;> rfl
theorem bok_is : BOk k (fun x y H Q => y = .non ∧ Q (.bl (decide (x = .non))) H) gIs := by
  intro A F H σ env x y a b z Q S va vb e q
  cases b <;> first | (cases e; done) | skip
  cases e
  cases vb.non
  exact ⟨rfl, by rw [va.isN]; exact q F H _ (.refl F) S (.bl _)⟩
theorem bok_isnot : BOk k (fun x y H Q => y = .non ∧ Q (.bl (!decide (x = .non))) H) gNot := by
  intro A F H σ env x y a b z Q S va vb e q
  cases b <;> first | (cases e; done) | skip
  cases e
  cases vb.non
  exact ⟨rfl, by rw [va.isN]; exact q F H _ (.refl F) S (.bl _)⟩
end
end PL

/-! PL: arguments, displays, built-in calls, subscripts. -/
namespace PL
open PySem PySem.Spec PyProof.Rows L2

/-! ### holding: an argument's value for good -/
def hold (x : Arg) (env : En) : Option (D × En) :=
  match x with
  | .val d => some (d, env)
  | .new o => some (o.toD, env)
  | .slot j => (match env[j]? with
    | some (some (.fz d)) => some (d, env)
    | some (some (.ow o)) => some (o.toD, env.set j (some (.fz o.toD)))
    | _ => none)
def holds : List Arg → En → Option (List D × En)
  | [], env => some ([], env)
  | x :: xs, env => (match hold x env with
    | some p => (match holds xs p.2 with
      | some q => some (p.1 :: q.1, q.2)
      | none => none)
    | none => none)
theorem get_set_ne {env : En} {i j : Nat} {x : Option Sl} (h : i ≠ j) : (env.set j x)[i]? = env[i]? := List.getElem?_set_ne (Ne.symm h)
theorem get_set_eq {env : En} {j : Nat} {x y : Option Sl} (h : env[j]? = some y) : (env.set j x)[j]? = some x := by
  rw [List.getElem?_set_self']; rw [h]; rfl
section
variable {k : Kn} {A : Amb} {F H : Hp} {σ : L2.St} {env : En}
/-- a slot's object is frozen: the slot may still be read -/
theorem Sta.frzAt (S : Sta k A F H σ env) {j : Nat} {o : O} (h : env[j]? = some (some (.ow o))) :
    ∃ F' v, Sub F F' ∧ Sta k A F' H σ (env.set j (some (.fz o.toD))) ∧ σ[j]? = some (some v) ∧ Rep k F' o.toD v := by
  obtain ⟨p, u, e1, hp, ro, hF, hK⟩ := S.at (.inl h)
  have hr : Rep k (upd F p u) o.toD (.ref p) := (ro.mono (.new hF)).rep upd_same
  have back : ∀ {i : Nat} {o' : O}, OwnAt (env.set j (some (.fz o.toD))) i o' → i ≠ j ∧ OwnAt env i o' := fun {i o'} z => by
    have ne : i ≠ j := fun q => by
      subst q
      rcases z with z | z <;> (rw [get_set_eq h] at z; cases z)
    refine ⟨ne, ?_⟩
    rcases z with z | z
    · exact .inl (by rw [get_set_ne ne] at z; exact z)
    · exact .inr (by rw [get_set_ne ne] at z; exact z)
  refine ⟨upd F p u, .ref p, .new hF, ⟨fun a w e => ?_, S.kp, S.f0.trans (.new hF), fun a w e => ?_, fun i sl e => ?_, fun i o' q a b => ?_, fun i i' o' u' q a b c d => ?_, by rw [List.length_set]; exact S.len, fun i o' e => ?_⟩, e1, hr⟩
  · by_cases q : a = p
    · subst q; rw [upd_same] at e; cases e; exact hp
    · rw [upd_ne q] at e; exact S.sub a w e
  · by_cases q : a = p
    · subst q; exact .inr hK
    · rw [upd_ne q] at e; exact S.frz a w e
  · by_cases q : i = j
    · subst q
      rw [get_set_eq h] at e; cases e
      exact ⟨_, e1, hr⟩
    · rw [get_set_ne q] at e
      obtain ⟨v, e2, r⟩ := S.rel i sl e
      refine ⟨v, e2, ?_⟩
      cases sl with
      | fz d => exact r.mono (.new hF)
      | ow o => obtain ⟨q, w, rfl, hq, r⟩ := r; exact ⟨q, w, rfl, hq, r.mono (.new hF)⟩
      | mu o => obtain ⟨q, w, rfl, hq, r⟩ := r; exact ⟨q, w, rfl, hq, r.mono (.new hF)⟩
  · obtain ⟨ne, z⟩ := back a
    have nq : q ≠ p := fun w => by subst w; exact ne (S.dis i j _ _ _ z (.inl h) b e1)
    rw [upd_ne nq]; exact S.own i o' q z b
  · exact S.dis i i' _ _ q (back a).2 (back b).2 c d
  · have z := back (i := i) (o' := o') (.inr e)
    rw [get_set_ne z.1] at e
    exact S.mus i o' e
theorem Sta.hold (S : Sta k A F H σ env) {x : Arg} {v : V} {d : D} {env' : En} (r : RArg k A F H σ env x v) (h : PL.hold x env = some (d, env')) :
    ∃ F', Sub F F' ∧ Sta k A F' H σ env' ∧ Rep k F' d v := by
  cases x with
  | val d' => cases h; exact ⟨F, .refl F, S, r⟩
  | new o =>
    cases h
    obtain ⟨F', a, b, c⟩ := S.settle r
    exact ⟨F', a, b, c⟩
  | slot j =>
    have r' : σ[j]? = some (some v) := r
    simp only [PL.hold] at h
    split at h
    · rename_i d' e
      cases h
      obtain ⟨w, e1, q⟩ := S.rel j _ e
      rw [e1] at r'; cases r'
      exact ⟨F, .refl F, S, q⟩
    · rename_i o e
      cases h
      obtain ⟨F', w, a, b, c, d'⟩ := S.frzAt e
      rw [c] at r'; cases r'
      exact ⟨F', a, b, d'⟩
    · cases h
end
theorem Sta.holds {k : Kn} {A : Amb} {H : Hp} {σ : L2.St} : ∀ {F : Hp} {env env0 : En} {xs : List Arg} {vs : List V} {ds : List D} {env' : En}, Sta k A F H σ env → RArgs k A F H σ env0 xs vs → PL.holds xs env = some (ds, env') →
    ∃ F', Sub F F' ∧ Sta k A F' H σ env' ∧ Reps k F' ds vs
  | F, env, env0, _, _, ds, env', S, .nil, h => by cases h; exact ⟨F, .refl F, S, .nil⟩
  | F, env, env0, _, _, ds, env', S, .cons (x := x) (v := v) (xs := xs) r t, h => by
    simp only [PL.holds] at h
    split at h
    · rename_i p e1
      split at h
      · rename_i q e2
        cases h
        have r' : RArg k A F H σ env (PL.settle x) v := by cases x <;> exact r
        obtain ⟨F1, a1, S1, r1⟩ := S.hold r' (d := p.1) (env' := p.2) e1
        obtain ⟨F2, a2, S2, r2⟩ := Sta.holds (env0 := p.2) S1 (t.keep a1) (ds := q.1) (env' := q.2) e2
        exact ⟨F2, a1.trans a2, S2, .cons (r1.mono a2) r2⟩
      · cases h
    · cases h

/-! ### argument lists, displays -/
def anil : FA := fun env => .ok ([], env)
def acons (f : FE) (g : FA) : FA := fun env => (f env).bind fun p => (g p.2).bind fun q => .ok (settle p.1 :: q.1, q.2)
section
variable {X : Cx} {W : WP} {pos : Pos} {e : Expr} {es : List Expr} {f : FE} {g : FA}
theorem ax_nil : AX X W [] anil := ⟨_, pa_nil, fun A F H σ env Q S q => q F H [] (.refl F) S .nil⟩
theorem ax_cons (h : EX X W e f) (h' : AX X W es g) (hs : starEach (e :: es) X.env = (false, eval e X.env) :: starEach es X.env := by rfl) : AX X W (e :: es) (acons f g) := by
  obtain ⟨t, p, r⟩ := h
  obtain ⟨t', p', r'⟩ := h'
  refine ⟨_, pa_cons p p' hs, fun A F H σ env Q S q => r A F H σ env _ S (q.afE fun p F1 H1 v1 s1 S1 r1 q1 => ?_)⟩
  obtain ⟨F1', s1', S1', r1'⟩ := S1.settle r1
  refine r' A F1' H1 σ p.2 _ S1' ((q1.mono s1').afA fun p2 F2 H2 vs s2 S2 r2 q2 => ?_)
  exact q2 F2 H2 _ (.refl _) S2 (.cons (r1'.keep (F' := F2) (H' := H2) (env' := p2.2) s2 |> fun z => by
    cases hx : p.1 <;> rw [hx] at z <;> exact z) r2)
def dsp (mk : List D → Arg) (g : FA) : FE := fun env => (g env).bind fun p => match holds p.1 p.2 with
  | some q => if q.1.length ≤ sizeLine then .ok (mk q.1, q.2) else .no
  | none => .no
theorem ex_tup {x1 : Nat} (h : AX X W es g) : EX X W (.Tuple es x1 pos) (dsp (fun ds => .val (.tup ds)) g) := by
  obtain ⟨t, p, r⟩ := h
  refine ⟨_, pe_tup p, fun A F H σ env Q S q => r A F H σ env _ S (q.afA fun p F1 H1 vs s1 S1 r1 q1 => ?_)⟩
  split at q1
  · rename_i ds e1
    split at q1
    · rename_i c
      obtain ⟨F2, s2, S2, r2⟩ := S1.holds r1 (ds := ds.1) (env' := ds.2) e1
      exact ⟨by rw [r2.len]; exact c, S2.newT r2 fun F' H' v a b c => q1 F' H' v (s2.trans a) b c⟩
    · exact q1.elim
  · exact q1.elim
theorem ex_lst (h : AX X W es g) : EX X W (.List es pos) (dsp (fun ds => .new (.lst ds)) g) := by
  obtain ⟨t, p, r⟩ := h
  refine ⟨_, pe_lst p, fun A F H σ env Q S q => r A F H σ env _ S (q.afA fun p F1 H1 vs s1 S1 r1 q1 => ?_)⟩
  split at q1
  · rename_i ds e1
    split at q1
    · rename_i c
      obtain ⟨F2, s2, S2, r2⟩ := S1.holds r1 (ds := ds.1) (env' := ds.2) e1
      exact ⟨by rw [r2.len]; exact c, S2.newL r2 fun F' H' v a b c => q1 F' H' v (s2.trans a) b c⟩
    · exact q1.elim
  · exact q1.elim
end

/-! ### built-ins called by values -/
def conts : List Arg → En → Option (List D)
  | [], _ => some []
  | x :: xs, env => (match cont x env, conts xs env with
    | some d, some ds => some (d :: ds)
    | _, _ => none)
inductive Vws (k : Kn) (F H : Hp) : List D → List V → Prop
  | nil : Vws k F H [] []
  | cons {d : D} {v : V} {ds : List D} {vs : List V} : View k F H d v → Vws k F H ds vs → Vws k F H (d :: ds) (v :: vs)
theorem Sta.views {k : Kn} {A : Amb} {F H : Hp} {σ : L2.St} {env : En} (S : Sta k A F H σ env) : ∀ {xs : List Arg} {vs : List V} {ds : List D}, RArgs k A F H σ env xs vs → conts xs env = some ds → Vws k F H ds vs
  | _, _, _, .nil, h => by cases h; exact .nil
  | _, _, _, .cons r t, h => by
    simp only [conts] at h
    split at h
    · rename_i d ds e1 e2
      cases h
      exact .cons (S.view r e1) (Sta.views S t e2)
    · cases h
def COk (k : Kn) (r : List V → Hp → VK → Prop) (g : List D → Option Arg) : Prop :=
  ∀ (A : Amb) (F H : Hp) (σ : L2.St) (env : En) (vs : List V) (ds : List D) (z : Arg) (Q : VK), Sta k A F H σ env → Vws k F H ds vs → g ds = some z →
    (∀ F' H' v, Sub F F' → Sta k A F' H' σ env → RArg k A F' H' σ env z v → Q v H') → r vs H Q
def cor (g g' : List D → Option Arg) : List D → Option Arg := fun a => (g a).orElse fun _ => g' a
theorem COk.or {k : Kn} {r r' : List V → Hp → VK → Prop} {g g' : List D → Option Arg} (h : COk k r g) (h' : COk k r' g') : COk k (fun xs H Q => r xs H Q ∨ r' xs H Q) (cor g g') := by
  intro A F H σ env vs ds z Q S va e q
  cases c : g ds with
  | some w =>
    have e' : some w = some z := by simpa [cor, c] using e
    cases e'
    exact .inl (h A F H σ env vs ds _ Q S va c q)
  | none =>
    have e' : g' ds = some z := by simpa [cor, c] using e
    exact .inr (h' A F H σ env vs ds z Q S va e' q)
def cbn (g : List D → Option Arg) (fa : FA) : FE := fun env => (fa env).bind fun p => match (conts p.1 p.2).bind g with
  | some r => .ok (r, p.2)
  | none => .no
section
variable {X : Cx} {W : WP} {pos p : Pos} {e : Expr} {es : List Expr} {fa : FA} {x : Str} {id T : String} {r : List V → Hp → VK → Prop} {g : List D → Option Arg}
theorem cbn_ok {t : TA} (hg : COk (kn X) r g) (ra : ∀ (A : Amb) (F H : Hp) (σ : L2.St) (env : En) (Q : List V → Hp → Prop), Sta (kn X) A F H σ env → PostA (kn X) A W F σ (fa env) Q → t σ H Q) :
    ∀ (A : Amb) (F H : Hp) (σ : L2.St) (env : En) (Q : VK), Sta (kn X) A F H σ env → PostE (kn X) A W F σ (cbn g fa env) Q → tCB r t σ H Q := by
  intro A F H σ env Q S q
  refine ra A F H σ env _ S (q.afA fun p F1 H1 vs s1 S1 r1 q1 => ?_)
  cases c : conts p.1 p.2 with
  | none => simp only [c, Option.bind_none] at q1; exact q1.elim
  | some ds =>
    simp only [c, Option.bind_some] at q1
    split at q1
    · rename_i z ez
      exact hg A F1 H1 σ p.2 vs ds z Q S1 (S1.views r1 c) ez fun F' H' v a b c => q1 F' H' v a b c
    · exact q1.elim
theorem ex_callB (hc : CallR X (.builtin id) r) (hg : COk (kn X) r g) (hgl : Gl X x) (hm : X.mg x = none) (hv : bootBuiltins x = some (.builtin id)) (ha : AX X W (e :: es) fa) (hn : x ≠ "__name__" := by decide) (hd : (x == ("__debug__" : Str)) = false := by decide)
    (he : starEach (e :: es) X.env = (false, eval e X.env) :: starEach es X.env := by rfl) (hpl : (backTo pos (starEach es X.env)).any (·.1) = false := by rfl) : EX X W (.Call (.Name x p) (e :: es) [] pos) (cbn g fa) := by
  obtain ⟨t, pa, ra⟩ := ha
  exact ⟨_, pe_callB hc hgl hm hv pa hn hd he hpl, cbn_ok hg ra⟩
theorem ex_callTy (hc : CallR X (.type T) r) (hg : COk (kn X) r g) (hgl : Gl X x) (hm : X.mg x = none) (hv : bootBuiltins x = some (.type T)) (ha : AX X W (e :: es) fa) (hn : x ≠ "__name__" := by decide) (hd : (x == ("__debug__" : Str)) = false := by decide)
    (he : starEach (e :: es) X.env = (false, eval e X.env) :: starEach es X.env := by rfl) (hpl : (backTo pos (starEach es X.env)).any (·.1) = false := by rfl) : EX X W (.Call (.Name x p) (e :: es) [] pos) (cbn g fa) := by
  obtain ⟨t, pa, ra⟩ := ha
  exact ⟨_, pe_callTy hc hgl hm hv pa hn hd he hpl, cbn_ok hg ra⟩
end
end PL

/-! PL: statements. -/
namespace PL
open PySem PySem.Spec PyProof.Rows L2

inductive RS where
  | nx (e : En)
  | rt (r : Sl) (e : En)
  | bk (e : En)
  | ct (e : En)
  | ex (x : Exn) (e : En)
  | no
abbrev FS := En → RS
def Res.go {α : Type} : Res α → (α → RS) → RS
  | .ok a, f => f a
  | .ex x e, _ => .ex x e
  | .no, _ => .no
@[simp] theorem Res.go_ok {α : Type} (a : α) (f : α → RS) : (Res.ok a).go f = f a := rfl
@[simp] theorem Res.go_no {α : Type} (f : α → RS) : (Res.no : Res α).go f = .no := rfl

def RRet (k : Kn) (A : Amb) (F H : Hp) (σ : L2.St) (env : En) : Sl → V → Prop
  | .fz d, v => Rep k F d v
  | .ow o, v => RArg k A F H σ env (.new o) v
  | .mu _, _ => False

def PostS (k : Kn) (A : Amb) (W : WP) (F : Hp) (r : RS) (D : Ends) : Prop :=
  match r with
  | .nx e => ∀ F' H' σ', Sub F F' → Sta k A F' H' σ' e → D.nx σ' H'
  | .rt x e => ∀ F' H' σ' v, Sub F F' → Sta k A F' H' σ' e → RRet k A F' H' σ' e x v → D.rt v H'
  | .bk e => ∀ F' H' σ', Sub F F' → Sta k A F' H' σ' e → D.bk σ' H'
  | .ct e => ∀ F' H' σ', Sub F F' → Sta k A F' H' σ' e → D.ct σ' H'
  | .ex x e => W.w A F x e
  | .no => False
section
variable {k : Kn} {A : Amb} {W : WP} {F F' : Hp} {σ : L2.St}
theorem PostS.mono {r : RS} {D : Ends} (s : Sub F F') (h : PostS k A W F r D) : PostS k A W F' r D := by
  cases r with
  | nx e => exact fun F1 H1 v a b => h F1 H1 v (s.trans a) b
  | rt x e => exact fun F1 H1 v w a b c => h F1 H1 v w (s.trans a) b c
  | bk e => exact fun F1 H1 v a b => h F1 H1 v (s.trans a) b
  | ct e => exact fun F1 H1 v a b => h F1 H1 v (s.trans a) b
  | ex x e => exact W.mono s h
  | no => exact h
theorem PostS.afE {r : Res (Arg × En)} {f : Arg × En → RS} {D : Ends} {Q1 : VK} (h : PostS k A W F (r.go f) D)
    (g : ∀ p F' H' v, Sub F F' → Sta k A F' H' σ p.2 → RArg k A F' H' σ p.2 p.1 v → PostS k A W F' (f p) D → Q1 v H') : PostE k A W F σ r Q1 := by
  cases r with
  | ok p => exact fun F' H' v a b c => g p F' H' v a b c (PostS.mono a h)
  | ex x e => exact h
  | no => exact h
theorem PostS.afT {r : Res (Bool × En)} {f : Bool × En → RS} {D : Ends} {Q1 : Bool → Hp → Prop} (h : PostS k A W F (r.go f) D)
    (g : ∀ p F' H', Sub F F' → Sta k A F' H' σ p.2 → PostS k A W F' (f p) D → Q1 p.1 H') : PostT k A W F σ r Q1 := by
  cases r with
  | ok p => exact fun F' H' a b => g p F' H' a b (PostS.mono a h)
  | ex x e => exact h
  | no => exact h
theorem PostS.afA {r : Res (List Arg × En)} {f : List Arg × En → RS} {D : Ends} {Q1 : List V → Hp → Prop} (h : PostS k A W F (r.go f) D)
    (g : ∀ p F' H' vs, Sub F F' → Sta k A F' H' σ p.2 → RArgs k A F' H' σ p.2 p.1 vs → PostS k A W F' (f p) D → Q1 vs H') : PostA k A W F σ r Q1 := by
  cases r with
  | ok p => exact fun F' H' v a b c => g p F' H' v a b c (PostS.mono a h)
  | ex x e => exact h
  | no => exact h
end

def SX (X : Cx) (W : WP) (st : Stmt) (f : FS) : Prop :=
  ∃ t, PS X st t ∧ ∀ (A : Amb) (F H : Hp) (σ : L2.St) (env : En) (D : Ends), Sta (kn X) A F H σ env → PostS (kn X) A W F (f env) D → t D σ H
def BX (X : Cx) (W : WP) (sts : List Stmt) (f : FS) : Prop :=
  ∃ t, PSs X sts t ∧ ∀ (A : Amb) (F H : Hp) (σ : L2.St) (env : En) (D : Ends), Sta (kn X) A F H σ env → PostS (kn X) A W F (f env) D → t D σ H

/-! ### slots are stored -/
def bindD (i : Nat) (d : D) (env : En) : Res En :=
  match env[i]? with
  | some (some (.mu _)) => .no
  | none => .no
  | _ => .ok (env.set i (some (.fz d)))
def bindA (i : Nat) (x : Arg) (env : En) : Res En :=
  match x with
  | .val d => bindD i d env
  | .new o => (match env[i]? with
    | some (some (.mu _)) => .no
    | none => .no
    | _ => .ok (env.set i (some (.ow o))))
  | .slot j => (match hold (.slot j) env with
    | some p => bindD i p.1 p.2
    | none => .no)
section
variable {k : Kn} {A : Amb} {F H : Hp} {σ : L2.St} {env : En}
theorem sget_ne {i j : Nat} {x : Option V} (h : i ≠ j) : (σ.set j x)[i]? = σ[i]? := List.getElem?_set_ne (Ne.symm h)
theorem sget_eq {j : Nat} {x y : Option V} (h : σ[j]? = some y) : (σ.set j x)[j]? = some x := by
  rw [List.getElem?_set_self']; rw [h]; rfl
theorem Sta.sthere (S : Sta k A F H σ env) {i : Nat} {y : Option Sl} (h : env[i]? = some y) : ∃ z, σ[i]? = some z := by
  have h1 : i < env.length := (List.getElem?_eq_some_iff.mp h).1
  rw [← S.len] at h1
  exact ⟨_, List.getElem?_eq_getElem h1⟩
/-- a slot's value is overwritten, dropped -/
theorem Sta.put (S : Sta k A F H σ env) {i : Nat} {y : Option Sl} (h : env[i]? = some y) (hm : ∀ o, y ≠ some (.mu o)) {sl : Option Sl} {v : Option V}
    (hs : ∀ s', sl = some s' → ∃ w, v = some w ∧ RSl k F H s' w ∧ (∀ o, s' ≠ .mu o) ∧ ((∃ o, s' = .ow o) → ∀ p, w = .ref p → F p = none ∧ A.Kp p = none ∧ ∀ (j : Nat) (u : O), OwnAt env j u → σ[j]? ≠ some (some (V.ref p)))) :
    Sta k A F H (σ.set i v) (env.set i sl) := by
  obtain ⟨z, hz⟩ := S.sthere h
  have ownI : ∀ {o : O}, OwnAt (env.set i sl) i o → ∃ w, v = some w ∧ ∀ p, w = .ref p → F p = none ∧ A.Kp p = none ∧ ∀ (j : Nat) (u : O), OwnAt env j u → σ[j]? ≠ some (some (V.ref p)) := fun {o} q => by
    rcases q with q | q
    · rw [get_set_eq h] at q; cases q
      obtain ⟨w, rfl, _, _, c⟩ := hs _ rfl
      exact ⟨w, rfl, c ⟨o, rfl⟩⟩
    · rw [get_set_eq h] at q; cases q
      obtain ⟨w, rfl, _, c, _⟩ := hs _ rfl
      exact absurd rfl (c o)
  have ownN : ∀ {j : Nat} {o : O}, j ≠ i → OwnAt (env.set i sl) j o → OwnAt env j o := fun {j o} ne q => by
    rcases q with q | q
    · rw [get_set_ne ne] at q; exact .inl q
    · rw [get_set_ne ne] at q; exact .inr q
  refine ⟨S.sub, S.kp, S.f0, S.frz, fun j s' e => ?_, fun j o p a b => ?_, fun j j' o u p a b c d => ?_, by rw [List.length_set, List.length_set]; exact S.len, fun j o e => ?_⟩
  · by_cases q : j = i
    · subst q
      rw [get_set_eq h] at e; cases e
      obtain ⟨w, rfl, r, _⟩ := hs _ rfl
      exact ⟨w, sget_eq hz, r⟩
    · rw [get_set_ne q] at e; rw [sget_ne q]; exact S.rel j s' e
  · by_cases q : j = i
    · subst q
      obtain ⟨w, rfl, c⟩ := ownI a
      rw [sget_eq hz] at b; cases b
      exact ⟨(c p rfl).1, (c p rfl).2.1⟩
    · rw [sget_ne q] at b; exact S.own j o p (ownN q a) b
  · by_cases q : j = i
    · by_cases q' : j' = i
      · rw [q, q']
      · subst q
        obtain ⟨w, rfl, c'⟩ := ownI a
        rw [sget_eq hz] at c; cases c
        rw [sget_ne q'] at d
        exact absurd d ((c' p rfl).2.2 j' u (ownN q' b))
    · by_cases q' : j' = i
      · subst q'
        obtain ⟨w, rfl, c'⟩ := ownI b
        rw [sget_eq hz] at d; cases d
        rw [sget_ne q] at c
        exact absurd c ((c' p rfl).2.2 j o (ownN q a))
      · rw [sget_ne q] at c; rw [sget_ne q'] at d
        exact S.dis j j' o u p (ownN q a) (ownN q' b) c d
  · by_cases q : j = i
    · subst q
      rw [get_set_eq h] at e; cases e
      obtain ⟨_, _, _, c, _⟩ := hs _ rfl
      exact absurd rfl (c o)
    · rw [get_set_ne q] at e; rw [sget_ne q]; exact S.mus j o e
theorem bindD_ok {i : Nat} {d : D} {env' : En} (h : bindD i d env = .ok env') : ∃ y, env[i]? = some y ∧ (∀ o, y ≠ some (.mu o)) ∧ env' = env.set i (some (.fz d)) := by
  unfold bindD at h
  split at h
  · cases h
  · cases h
  · rename_i n1 n2
    cases h
    cases e : env[i]? with
    | none => exact absurd e n2
    | some y => exact ⟨y, rfl, fun o z => n1 o (by rw [e, z]), rfl⟩
theorem Sta.bindD (S : Sta k A F H σ env) {i : Nat} {d : D} {v : V} {env' : En} (r : Rep k F d v) (h : PL.bindD i d env = .ok env') : Sta k A F H (σ.set i (some v)) env' := by
  obtain ⟨y, e, n, rfl⟩ := bindD_ok h
  exact S.put e n fun s' z => by
    cases z
    exact ⟨v, rfl, r, (fun o z => by cases z), (fun ⟨o, z⟩ => by cases z)⟩
theorem Sta.bindA (S : Sta k A F H σ env) {i : Nat} {x : Arg} {v : V} {env' : En} (r : RArg k A F H σ env x v) (h : PL.bindA i x env = .ok env') :
    ∃ F', Sub F F' ∧ Sta k A F' H (σ.set i (some v)) env' := by
  cases x with
  | val d => exact ⟨F, .refl F, S.bindD r h⟩
  | new o =>
    obtain ⟨p, u, rfl, hp, ro, hF, hK, hs⟩ := r
    simp only [PL.bindA] at h
    split at h
    · cases h
    · cases h
    · rename_i n1 n2
      cases h
      cases e : env[i]? with
      | none => exact absurd e n2
      | some y =>
        refine ⟨F, .refl F, S.put e (fun o z => n1 o (by rw [e, z])) fun s' z => ?_⟩
        cases z
        exact ⟨_, rfl, ⟨p, u, rfl, hp, ro⟩, (fun o z => by cases z), (fun _ q z => by cases z; exact ⟨hF, hK, hs⟩)⟩
  | slot j =>
    simp only [PL.bindA] at h
    split at h
    · rename_i p e
      obtain ⟨F', a, S', r'⟩ := S.hold r (d := p.1) (env' := p.2) e
      exact ⟨F', a, S'.bindD r' h⟩
    · cases h
/-- an owned object's content changes -/
def setO (env : En) (j : Nat) (o : O) : En :=
  match env[j]? with
  | some (some (.ow _)) => env.set j (some (.ow o))
  | some (some (.mu _)) => env.set j (some (.mu o))
  | _ => env
theorem Sta.write (S : Sta k A F H σ env) {j : Nat} {o o' : O} {p : Addr} {u' : HO} (h : OwnAt env j o) (hp : σ[j]? = some (some (V.ref p))) (r : RepO k F o' u') : Sta k A F (upd H p u') σ (setO env j o') := by
  obtain ⟨q, u, e1, hq, ro, hF, hK⟩ := S.at h
  rw [e1] at hp; cases hp
  have key : ∀ {i : Nat} {sl : Sl}, (setO env j o')[i]? = some (some sl) → (i ≠ j ∧ env[i]? = some (some sl)) ∨ (i = j ∧ ((sl = .ow o' ∧ ∃ w, env[j]? = some (some (.ow w))) ∨ (sl = .mu o' ∧ ∃ w, env[j]? = some (some (.mu w))))) := fun {i sl} e => by
    by_cases q : i = j
    · subst q
      refine .inr ⟨rfl, ?_⟩
      rcases h with h | h
      · simp only [setO, h] at e
        rw [get_set_eq h] at e; cases e
        exact .inl ⟨rfl, _, h⟩
      · simp only [setO, h] at e
        rw [get_set_eq h] at e; cases e
        exact .inr ⟨rfl, _, h⟩
    · refine .inl ⟨q, ?_⟩
      rcases h with h | h
      · simp only [setO, h] at e
        rwa [get_set_ne q] at e
      · simp only [setO, h] at e
        rwa [get_set_ne q] at e
  have own : ∀ {i : Nat} {w : O}, OwnAt (setO env j o') i w → ∃ w', OwnAt env i w' := fun {i w} z => by
    rcases z with z | z
    · rcases key z with ⟨_, z⟩ | ⟨rfl, _⟩
      · exact ⟨_, .inl z⟩
      · exact ⟨o, h⟩
    · rcases key z with ⟨_, z⟩ | ⟨rfl, _⟩
      · exact ⟨_, .inr z⟩
      · exact ⟨o, h⟩
  refine ⟨S.sub.mut hF, S.kp.mut hK, S.f0, S.frz, fun i sl e => ?_, fun i w a b c => ?_, fun i i' w w' a b c d e => ?_, ?_, fun i w e => ?_⟩
  · rcases key e with ⟨ne, e⟩ | ⟨rfl, e⟩
    · obtain ⟨v, e2, rr⟩ := S.rel i sl e
      refine ⟨v, e2, ?_⟩
      have nq : ∀ b, v = .ref b → (∃ w, OwnAt env i w) → b ≠ p := fun b hb ⟨w, hw⟩ z => by
        subst hb; subst z
        exact ne (S.dis i j _ _ _ hw h e2 e1)
      cases sl with
      | fz d => exact rr
      | ow o2 => obtain ⟨b, x, rfl, hb, rr⟩ := rr; exact ⟨b, x, rfl, by rw [upd_ne (nq b rfl ⟨_, .inl e⟩)]; exact hb, rr⟩
      | mu o2 => obtain ⟨b, x, rfl, hb, rr⟩ := rr; exact ⟨b, x, rfl, by rw [upd_ne (nq b rfl ⟨_, .inr e⟩)]; exact hb, rr⟩
    · rcases e with ⟨rfl, _⟩ | ⟨rfl, _⟩
      · exact ⟨_, e1, p, u', rfl, upd_same, r⟩
      · exact ⟨_, e1, p, u', rfl, upd_same, r⟩
  · obtain ⟨w', z⟩ := own b
    exact S.own i w' a z c
  · obtain ⟨x, z⟩ := own b
    obtain ⟨x', z'⟩ := own c
    exact S.dis i i' x x' a z z' d e
  · have : (setO env j o').length = env.length := by
      unfold setO; split <;> first | rw [List.length_set] | rfl
    rw [this]; exact S.len
  · rcases key e with ⟨ne, e⟩ | ⟨rfl, e⟩
    · exact S.mus i w e
    · rcases e with ⟨z, _⟩ | ⟨_, w', z⟩
      · cases z
      · exact S.mus _ w' z
end

/-! ### targets -/
abbrev FG := D → En → Res En
abbrev FGs := List D → En → Res En
/-- σ' is σ but for the slots ws -/
def Out (ws : List Nat) (σ σ' : L2.St) : Prop := σ'.length = σ.length ∧ ∀ i, i ∉ ws → σ'[i]? = σ[i]?
theorem Out.trans {ws us : List Nat} {σ σ1 σ2 : L2.St} (a : Out ws σ σ1) (b : Out us σ1 σ2) : Out (ws ++ us) σ σ2 :=
  ⟨b.1.trans a.1, fun i h => (b.2 i fun z => h (List.mem_append_right _ z)).trans (a.2 i fun z => h (List.mem_append_left _ z))⟩
def GX (X : Cx) (tg : Expr) (f : FG) (ws : List Nat) : Prop :=
  ∃ g, PG X tg g ∧ ∀ (A : Amb) (F H : Hp) (σ : L2.St) (env env' : En) (d : D) (v : V) (Q : L2.St → Hp → Prop), Sta (kn X) A F H σ env → Rep (kn X) F d v → f d env = .ok env' →
    (∀ σ', Out ws σ σ' → Sta (kn X) A F H σ' env' → Q σ' H) → g v σ H Q
def GXs (X : Cx) (tgs : List Expr) (f : FGs) (ws : List Nat) : Prop :=
  ∃ g, PGs X tgs g ∧ ∀ (A : Amb) (F H : Hp) (σ : L2.St) (env env' : En) (ds : List D) (vs : List V) (Q : L2.St → Hp → Prop), Sta (kn X) A F H σ env → Reps (kn X) F ds vs → f ds env = .ok env' →
    (∀ σ', Out ws σ σ' → Sta (kn X) A F H σ' env' → Q σ' H) → g vs σ H Q
def tgNil : FGs := fun ds env => match ds with
  | [] => .ok env
  | _ => .no
def tgCons (f : FG) (g : FGs) : FGs := fun ds env => match ds with
  | d :: r => (f d env).bind fun e => g r e
  | [] => .no
def tgTup (g : FGs) : FG := fun d env => match d with
  | .tup ds => g ds env
  | _ => .no
section
variable {X : Cx} {pos : Pos} {e : Expr} {es : List Expr}
theorem gx_name (i : Nat) {x : Str} (hN : X.N.Nodup) (hi : X.N[i]? = some x := by rfl) (hx : Loc X.env.scope x := by first | exact Or.inl rfl | exact Or.inr rfl) (hf : X.fn x = true ∨ X.env.scope.names.lookup x = some .local := by first | exact .inl rfl | exact .inr rfl | assumption) : GX X (.Name x pos) (bindD i) [i] :=
  ⟨_, pg_name hN hi hx hf, fun A F H σ env env' d v Q S r h q => q _ ⟨List.length_set, fun j hj => sget_ne fun z => hj (by rw [z]; exact List.mem_singleton_self _)⟩ (S.bindD r h)⟩
theorem gx_nil : GXs X [] tgNil [] := ⟨_, pgs_nil, fun A F H σ env env' ds vs Q S r h q => by
  cases r with
  | nil => cases h; exact ⟨rfl, q _ ⟨rfl, fun _ _ => rfl⟩ S⟩
  | cons _ _ => cases h⟩
theorem gx_cons {f : FG} {g : FGs} {ws us : List Nat} (h1 : GX X e f ws) (h2 : GXs X es g us) (hs : (assignEach (e :: es) X.env).map (·.2) = assign e X.env :: (assignEach es X.env).map (·.2) := by rfl) : GXs X (e :: es) (tgCons f g) (ws ++ us) := by
  obtain ⟨t, p, r⟩ := h1
  obtain ⟨t', p', r'⟩ := h2
  refine ⟨_, pgs_cons p p' hs, fun A F H σ env env' ds vs Q S rr h q => ?_⟩
  cases rr with
  | nil => cases h
  | cons a b =>
    simp only [tgCons] at h
    cases c : f _ env with
    | ok e1 =>
      rw [c] at h
      exact ⟨_, _, rfl, r A F H σ env e1 _ _ _ S a c fun σ1 o1 S1 => r' A F H σ1 e1 env' _ _ Q S1 b h fun σ2 o2 S2 => q σ2 (o1.trans o2) S2⟩
    | ex _ _ => rw [c] at h; cases h
    | no => rw [c] at h; cases h
theorem gx_tup {k : Nat} {g : FGs} {n : Nat} {ws : List Nat} (hc : X.calm = true) (h : GXs X es g ws) (hn : (assignEach es X.env).length = n := by rfl) (hst : (assignEach es X.env).findIdx? (·.1) = none := by rfl)
    (hl : ∀ ds env env', g ds env = .ok env' → ds.length = n) : GX X (.Tuple es k pos) (tgTup g) ws := by
  obtain ⟨t, p, r⟩ := h
  refine ⟨_, pg_tup hc p hn hst, fun A F H σ env env' d v Q S rr h q => ?_⟩
  cases d with
  | tup ds =>
    cases rr with
    | tup a b => exact ⟨_, _, rfl, S.sub.t a, by rw [b.len]; exact hl _ _ _ h, r A F H σ env env' ds _ Q S b h q⟩
  | _ => cases h
end
theorem tg_len0 : ∀ ds env env', tgNil ds env = .ok env' → ds.length = 0 := fun ds env env' h => by
  cases ds with
  | nil => rfl
  | cons _ _ => cases h
theorem tg_len {f : FG} {g : FGs} {n : Nat} (hl : ∀ ds env env', g ds env = .ok env' → ds.length = n) : ∀ ds env env', tgCons f g ds env = .ok env' → ds.length = n + 1 := fun ds env env' h => by
  cases ds with
  | nil => cases h
  | cons d r =>
    simp only [tgCons] at h
    cases c : f d env with
    | ok e1 => rw [c] at h; rw [List.length_cons, hl _ _ _ h]
    | ex _ _ => rw [c] at h; cases h
    | no => rw [c] at h; cases h

/-! ### simple statements -/
def sasg (i : Nat) (f : FE) : FS := fun env => (f env).go fun p => (bindA i p.1 p.2).go .nx
def sasgT (g : FG) (f : FE) : FS := fun env => (f env).go fun p => match hold p.1 p.2 with
  | some q => (g q.1 q.2).go .nx
  | none => .no
def sexp (f : FE) : FS := fun env => (f env).go fun p => .nx p.2
def sret (f : FE) : FS := fun env => (f env).go fun p => match p.1 with
  | .val d => .rt (.fz d) p.2
  | .new o => .rt (.ow o) p.2
  | .slot j => (match p.2[j]? with
    | some (some (.fz d)) => .rt (.fz d) p.2
    | some (some (.ow o)) => .rt (.ow o) (p.2.set j none)
    | _ => .no)
def sseq (f g : FS) : FS := fun env => match f env with
  | .nx e => g e
  | r => r
def sif (c : FT) (f g : FS) : FS := fun env => (c env).go fun p => if p.1 = true then f p.2 else g p.2
section
variable {X : Cx} {W : WP} {pos : Pos} {e : Expr} {es : List Expr} {f : FE} {st : Stmt} {sts : List Stmt} {g g' : FS}
theorem sx_asg (i : Nat) {x : Str} {pos' : Pos} (hN : X.N.Nodup) (h : EX X W e f) (hi : X.N[i]? = some x := by rfl) (hx : Loc X.env.scope x := by first | exact Or.inl rfl | exact Or.inr rfl) (hs : swapsWith e (some (.Name x pos')) pos.line X.env = pure false := by rfl)
    (hf : X.fn x = true ∨ X.env.scope.names.lookup x = some .local := by first | exact .inl rfl | exact .inr rfl | assumption) : SX X W (.Assign [.Name x pos'] e pos) (sasg i f) := by
  obtain ⟨t, p, r⟩ := h
  refine ⟨_, ps_set hN hi hx p hs hf, fun A F H σ env D S q => r A F H σ env _ S (q.afE fun p F1 H1 v1 s1 S1 r1 q1 => ?_)⟩
  cases c : bindA i p.1 p.2 with
  | ok e1 =>
    rw [c] at q1
    obtain ⟨F2, s2, S2⟩ := S1.bindA r1 c
    exact q1 F2 H1 _ s2 S2
  | ex _ _ => cases h : p.1 <;> rw [h] at c <;> simp only [bindA, bindD] at c <;> (repeat' split at c) <;> cases c
  | no => rw [c] at q1; exact q1.elim
theorem sx_asgT {tg : Expr} {h : FG} {ws : List Nat} (he : EX X W e f) (hg : GX X tg h ws) (hne : ∀ d env x e, h d env ≠ .ex x e) (hs : swapsWithSole [tg] e pos.line X.env = pure false := by rfl) (hw : swappedStores [tg] e X.env = pure none := by rfl)
    (h1 : (assignEach [tg] X.env).map (·.2) = [assign tg X.env] := by rfl) : SX X W (.Assign [tg] e pos) (sasgT h f) := by
  obtain ⟨t, p, r⟩ := he
  obtain ⟨tg, pg, rg⟩ := hg
  refine ⟨_, ps_asg p pg hs hw h1, fun A F H σ env D S q => r A F H σ env _ S (q.afE fun p F1 H1 v1 s1 S1 r1 q1 => ?_)⟩
  split at q1
  · rename_i d ed
    obtain ⟨F2, s2, S2, r2⟩ := S1.hold r1 (d := d.1) (env' := d.2) ed
    cases c : h d.1 d.2 with
    | ok e1 =>
      rw [c] at q1
      exact rg A F2 H1 σ d.2 e1 d.1 v1 _ S2 r2 c fun σ' _ S' => q1 F2 H1 σ' s2 S'
    | ex x e => exact absurd c (hne _ _ _ _)
    | no => rw [c] at q1; exact q1.elim
  · exact q1.elim
theorem sx_exp (h : EX X W e f) (hs : swapsWith e none pos.line X.env = pure false := by rfl) : SX X W (.Expr e pos) (sexp f) := by
  obtain ⟨t, p, r⟩ := h
  exact ⟨_, ps_expr p hs, fun A F H σ env D S q => r A F H σ env _ S (q.afE fun p F1 H1 v1 s1 S1 r1 q1 => q1 F1 H1 σ (.refl _) S1)⟩
theorem sx_ret (h : EX X W e f) : SX X W (.Return (some e) pos) (sret f) := by
  obtain ⟨t, p, r⟩ := h
  refine ⟨_, ps_ret p, fun A F H σ env D S q => r A F H σ env _ S (q.afE fun p F1 H1 v1 s1 S1 r1 q1 => ?_)⟩
  obtain ⟨x, e⟩ := p
  cases x with
  | val d => exact q1 F1 H1 σ v1 (.refl _) S1 r1
  | new o => exact q1 F1 H1 σ v1 (.refl _) S1 r1
  | slot j =>
    have r' : σ[j]? = some (some v1) := r1
    simp only at q1 S1
    split at q1
    · rename_i d ed
      obtain ⟨w, e1, q⟩ := S1.rel j _ ed
      rw [e1] at r'; cases r'
      exact q1 F1 H1 σ _ (.refl _) S1 q
    · rename_i o eo
      obtain ⟨p, u, e1, hp, ro, hF, hK⟩ := S1.at (.inl eo)
      rw [e1] at r'; cases r'
      have S2 := S1.put eo (fun o z => by cases z) (sl := none) (v := none) (fun s' z => by cases z)
      have back : ∀ {i : Nat} {o' : O}, OwnAt (e.set j none) i o' → i ≠ j ∧ OwnAt e i o' := fun {i o'} z => by
        have ne : i ≠ j := fun q => by
          subst q
          rcases z with z | z <;> (rw [get_set_eq eo] at z; cases z)
        refine ⟨ne, ?_⟩
        rcases z with z | z
        · exact .inl (by rw [get_set_ne ne] at z; exact z)
        · exact .inr (by rw [get_set_ne ne] at z; exact z)
      refine q1 F1 H1 _ _ (.refl _) S2 ⟨p, u, rfl, hp, ro, hF, hK, fun i w a b => ?_⟩
      obtain ⟨ne, a'⟩ := back a
      rw [sget_ne ne] at b
      exact ne (S1.dis i j _ _ _ a' (.inl eo) b e1)
    · exact q1.elim
theorem sx_retN : SX X W (.Return none pos) (fun env => .rt (.fz .non) env) :=
  ⟨_, ps_retN, fun A F H σ env D S q => q F H σ _ (.refl _) S .non⟩
theorem sx_pass : SX X W (.Pass pos) .nx := ⟨_, ps_pass, fun A F H σ env D S q => q F H σ (.refl _) S⟩
theorem sx_break : SX X W (.Break pos) .bk := ⟨_, ps_break, fun A F H σ env D S q => q F H σ (.refl _) S⟩
theorem sx_cont : SX X W (.Continue pos) .ct := ⟨_, ps_continue, fun A F H σ env D S q => q F H σ (.refl _) S⟩
theorem sx_never : SX X W st (fun _ => .no) := ⟨_, ps_never, fun _ _ _ _ _ _ _ q => q⟩
theorem bx_nil : BX X W [] .nx := ⟨_, pss_nil, fun A F H σ env D S q => q F H σ (.refl _) S⟩
theorem bx_one (h : SX X W st g) : BX X W [st] g := let ⟨_, p, r⟩ := h; ⟨_, pss_one p, r⟩
theorem bx_cons (h : SX X W st g) (h' : BX X W sts g') : BX X W (st :: sts) (sseq g g') := by
  obtain ⟨t, p, r⟩ := h
  obtain ⟨t', p', r'⟩ := h'
  refine ⟨_, pss_cons p p', fun A F H σ env D S q => r A F H σ env _ S ?_⟩
  simp only [sseq] at q
  cases c : g env with
  | nx e => rw [c] at q; exact fun F1 H1 σ1 s1 S1 => r' A F1 H1 σ1 e D S1 (PostS.mono s1 q)
  | rt x e => rw [c] at q; exact q
  | bk e => rw [c] at q; exact q
  | ct e => rw [c] at q; exact q
  | ex x e => rw [c] at q; exact q
  | no => rw [c] at q; exact q
theorem sx_if {c : Expr} {fc : FT} {a b : List Stmt} (hc : TX X W c fc) (ha : BX X W a g) (hb : BX X W b g') : SX X W (.If c a b pos) (sif fc g g') := by
  obtain ⟨t0, p0, r0⟩ := hc
  obtain ⟨t, p, r⟩ := ha
  obtain ⟨t', p', r'⟩ := hb
  refine ⟨_, ps_if p0 p p', fun A F H σ env D S q => r0 A F H σ env _ S (q.afT fun p F1 H1 s1 S1 q1 => ?_)⟩
  by_cases c : p.1 = true
  · rw [if_pos c] at q1 ⊢; exact r A F1 H1 σ p.2 D S1 q1
  · rw [if_neg c] at q1 ⊢; exact r' A F1 H1 σ p.2 D S1 q1
end
end PL

/-! PL: what is walked; loops; comprehensions. -/
namespace PL
open PySem PySem.Spec PyProof.Rows L2

abbrev FI := En → Res (List D × En)
/-- the iterator gives ds, one by one -/
def Feeds (k : Kn) (F : Hp) (ds : List D) (J : It) : Prop :=
  ∀ F2 H2, Sub F F2 → Sub F2 H2 → ∀ i, (∀ d, ds[i]? = some d → J.go i H2 ∧ ∀ x H3, J.yld i H2 x H3 →
      (H3 = H2 ∧ Rep k F2 d x) ∨ ∃ T us es, x = .ref T ∧ H2 T = none ∧ H3 = upd H2 T (.tup us) ∧ d = .tup es ∧ Reps k F2 es us) ∧ (ds.length ≤ i → J.stop i H2)
def PostI (k : Kn) (A : Amb) (W : WP) (F : Hp) (σ : L2.St) (r : Res (List D × En)) (R : It → Hp → Prop) : Prop :=
  match r with
  | .ok p => ∀ F' H' J, Sub F F' → Sta k A F' H' σ p.2 → Feeds k F' p.1 J → R J H'
  | .ex x e => W.w A F x e
  | .no => False
def IX (X : Cx) (W : WP) (tg iter : Expr) (f : FI) : Prop :=
  ∃ w, PI X tg iter w ∧ ∀ (A : Amb) (F H : Hp) (σ : L2.St) (env : En) (R : It → Hp → Prop), Sta (kn X) A F H σ env → PostI (kn X) A W F σ (f env) R → w σ H R
section
variable {k : Kn} {A : Amb} {W : WP} {F F' : Hp} {σ : L2.St}
theorem PostI.mono {r : Res (List D × En)} {R : It → Hp → Prop} (s : Sub F F') (h : PostI k A W F σ r R) : PostI k A W F' σ r R := by
  cases r with
  | ok p => exact fun F1 H1 v a b c => h F1 H1 v (s.trans a) b c
  | ex x e => exact W.mono s h
  | no => exact h
theorem PostI.afE {r : Res (Arg × En)} {f : Arg × En → Res (List D × En)} {R : It → Hp → Prop} {Q1 : VK} (h : PostI k A W F σ (r.bind f) R)
    (g : ∀ p F' H' v, Sub F F' → Sta k A F' H' σ p.2 → RArg k A F' H' σ p.2 p.1 v → PostI k A W F' σ (f p) R → Q1 v H') : PostE k A W F σ r Q1 :=
  PostE.bnd (P := fun F r => PostI k A W F σ r R) (fun _ _ h => h) (fun h => h) (fun s h => h.mono s) h g
theorem PostI.afA {r : Res (List Arg × En)} {f : List Arg × En → Res (List D × En)} {R : It → Hp → Prop} {Q1 : List V → Hp → Prop} (h : PostI k A W F σ (r.bind f) R)
    (g : ∀ p F' H' vs, Sub F F' → Sta k A F' H' σ p.2 → RArgs k A F' H' σ p.2 p.1 vs → PostI k A W F' σ (f p) R → Q1 vs H') : PostA k A W F σ r Q1 :=
  PostA.bnd (P := fun F r => PostI k A W F σ r R) (fun _ _ h => h) (fun h => h) (fun s h => h.mono s) h g
end
/-- lists and tuples -/
def itSeq (f : FE) : FI := fun env => (f env).bind fun p => match hold p.1 p.2 with
  | some (.lst ds, e) => .ok (ds, e)
  | some (.tup ds, e) => .ok (ds, e)
  | _ => .no
theorem feeds_list {k : Kn} {F : Hp} {a : Addr} {vs : List V} {ds : List D} (h : F a = some (.lst vs)) (r : Reps k F ds vs) : Feeds k F ds (Itl k.K a) := by
  intro F2 H2 s1 s2 i
  have hq : SqL k.K H2 a vs := SqL.of (s2 _ _ (s1 _ _ h))
  have r2 := r.mono s1
  refine ⟨fun d e => ?_, fun e => ⟨vs, hq, by rw [r.len]; exact e⟩⟩
  obtain ⟨v, ev, rv⟩ := r2.get e
  exact ⟨⟨vs, v, hq, ev⟩, fun x H3 hy => .inl ⟨hy.1, by
    have := hy.2 vs hq
    rw [ev] at this; cases this; exact rv⟩⟩
theorem feeds_tup {k : Kn} {F : Hp} {a : Addr} {vs : List V} {ds : List D} (h : SqT k.K F a vs) (r : Reps k F ds vs) : Feeds k F ds (Itt k.K a) := by
  intro F2 H2 s1 s2 i
  have hq : SqT k.K H2 a vs := s2.t (s1.t h)
  have r2 := r.mono s1
  refine ⟨fun d e => ?_, fun e => ⟨vs, hq, by rw [r.len]; exact e⟩⟩
  obtain ⟨v, ev, rv⟩ := r2.get e
  exact ⟨⟨vs, v, hq, ev⟩, fun x H3 hy => .inl ⟨hy.1, by
    have := hy.2 vs hq
    rw [ev] at this; cases this; exact rv⟩⟩
def dints (lo : Int) (n : Nat) : List D := (List.range n).map fun (i : Nat) => D.int (lo + (i : Int))
theorem feeds_rng {k : Kn} {F : Hp} {lo : Int} {n : Nat} : Feeds k F (dints lo n) (Itr lo n) := by
  intro F2 H2 s1 s2 i
  have hl : (dints lo n).length = n := by simp [dints]
  refine ⟨fun d e => ?_, fun e => by rw [hl] at e; exact e⟩
  have hi : i < n := by
    have := (List.getElem?_eq_some_iff.mp e).1
    rwa [hl] at this
  refine ⟨hi, fun x H3 hy => .inl ⟨hy.1, ?_⟩⟩
  have : d = .int (lo + (i : Int)) := by
    simp only [dints, List.getElem?_map, List.getElem?_range hi, Option.map_some, Option.some.injEq] at e
    exact e.symm
  rw [this, hy.2]
  exact .int _
theorem PI.or {X : Cx} {tg e : Expr} {w w' : TI} (h : PI X tg e w) (h' : PI X tg e w') : PI X tg e (fun σ H R => w σ H R ∨ w' σ H R) :=
  ⟨fun pins s σ H R I q => q.elim (h.run pins s σ H R I) (h'.run pins s σ H R I)⟩
section
variable {X : Cx} {W : WP} {pos : Pos} {tg : Expr}
theorem ix_seq' {e : Expr} {f : FE} (h : EX X W e f) : IX X W tg e (itSeq f) := by
  obtain ⟨t, p, r⟩ := h
  refine ⟨_, PI.or (pi_list p) (pi_tup p), fun A F H σ env R S q => ?_⟩
  -- the kind of what comes
  cases c : f env with
  | no => simp only [itSeq, c, Res.bind_no] at q; exact q.elim
  | ex x e =>
    simp only [itSeq, c, Res.bind_ex] at q
    exact .inl (r A F H σ env _ S (by rw [c]; exact q))
  | ok p =>
    simp only [itSeq, c, Res.bind_ok] at q
    split at q
    · rename_i ds e1 eh
      refine .inl (r A F H σ env _ S ?_)
      rw [c]
      intro F1 H1 v1 s1 S1 r1
      obtain ⟨F2, s2, S2, r2⟩ := S1.hold r1 eh
      cases r2 with
      | lst a b => exact ⟨_, rfl, ⟨_, SqL.of (S2.sub _ _ a)⟩, q F2 H1 _ (s1.trans s2) S2 (feeds_list a b)⟩
    · rename_i ds e1 eh
      refine .inr (r A F H σ env _ S ?_)
      rw [c]
      intro F1 H1 v1 s1 S1 r1
      obtain ⟨F2, s2, S2, r2⟩ := S1.hold r1 eh
      cases r2 with
      | tup a b => exact ⟨_, rfl, ⟨_, S2.sub.t a⟩, q F2 H1 _ (s1.trans s2) S2 (feeds_tup a b)⟩
    · exact q.elim
def itRng1 (g : FA) : FI := fun env => (g env).bind fun p => match conts p.1 p.2 with
  | some [.int j] => if -(2 ^ 62) ≤ j ∧ j < 2 ^ 62 then .ok (dints 0 j.toNat, p.2) else .no
  | _ => .no
def itRng2 (g : FA) : FI := fun env => (g env).bind fun p => match conts p.1 p.2 with
  | some [.int i, .int j] => if -(2 ^ 62) ≤ i ∧ i < 2 ^ 62 ∧ -(2 ^ 62) ≤ j ∧ j < 2 ^ 62 then .ok (dints i (j - i).toNat, p.2) else .no
  | _ => .no
theorem ix_rng1 {a : Expr} {g : FA} {p : Pos} (hg : Gl X "range") (hm : X.mg "range" = none) (h : AX X W [a] g) (hs : starEach [a] X.env = [(false, eval a X.env)] := by rfl) : IX X W tg (.Call (.Name "range" p) [a] [] pos) (itRng1 g) := by
  obtain ⟨t, pa, r⟩ := h
  refine ⟨_, pi_range1 hg hm pa hs, fun A F H σ env R S q => r A F H σ env _ S (q.afA fun p F1 H1 vs s1 S1 r1 q1 => ?_)⟩
  split at q1
  · rename_i j e
    split at q1
    · rename_i c
      cases S1.views r1 e with
      | cons v t => cases t; cases v.int; exact ⟨j, rfl, c.1, c.2, q1 F1 H1 _ (.refl _) S1 feeds_rng⟩
    · exact q1.elim
  · exact q1.elim
theorem ix_rng2 {a b : Expr} {g : FA} {p : Pos} (hg : Gl X "range") (hm : X.mg "range" = none) (h : AX X W [a, b] g) (hs : starEach [a, b] X.env = [(false, eval a X.env), (false, eval b X.env)] := by rfl) (hs2 : starEach [b] X.env = [(false, eval b X.env)] := by rfl) : IX X W tg (.Call (.Name "range" p) [a, b] [] pos) (itRng2 g) := by
  obtain ⟨t, pa, r⟩ := h
  refine ⟨_, pi_range2 hg hm pa hs hs2, fun A F H σ env R S q => r A F H σ env _ S (q.afA fun p F1 H1 vs s1 S1 r1 q1 => ?_)⟩
  split at q1
  · rename_i i j e
    split at q1
    · rename_i c
      cases S1.views r1 e with
      | cons v t => cases t with | cons v' t => cases t; cases v.int; cases v'.int; exact ⟨i, j, rfl, c, q1 F1 H1 _ (.refl _) S1 feeds_rng⟩
    · exact q1.elim
  · exact q1.elim

/-! ### for -/
def forL (tg : FG) (body : FS) : List D → En → RS
  | [], e => .nx e
  | d :: ds, e => (tg d e).go fun e1 => match body e1 with
    | .nx e2 => forL tg body ds e2
    | .ct e2 => forL tg body ds e2
    | .bk e2 => .nx e2
    | r => r
def sfor (it : FI) (tg : FG) (body : FS) : FS := fun env => (it env).go fun p => forL tg body p.1 p.2
theorem sx_for {iter : Expr} {body : List Stmt} {it : FI} {h : FG} {ws : List Nat} {g : FS} (hp : PassesOwn (model X.prog X.w) X.A X.env X.xe) (hc : X.calm = true) (hi : IX X W tg iter it) (hg : GX X tg h ws) (hb : BX X W body g)
    (hne : ∀ d env x e, h d env ≠ .ex x e) (hs : ∀ x, foldedSetIterable iter X.env x = pure x := by intro _; rfl) : SX X W (.For tg iter body [] pos) (sfor it h g) := by
  obtain ⟨wi, pi, ri⟩ := hi
  obtain ⟨gt, pg, rg⟩ := hg
  obtain ⟨tb, pb, rb⟩ := hb
  refine ⟨_, ps_for hp hc pi pg pb hs, fun A F H σ env D S q => ri A F H σ env _ S ?_⟩
  simp only [sfor] at q
  cases c : it env with
  | no => rw [c] at q; exact q
  | ex x e => rw [c] at q; exact q
  | ok p =>
    rw [c] at q
    obtain ⟨ds, e0⟩ := p
    intro F1 H1 J s1 S1 hf
    refine ⟨fun i m σ' H' => ∃ F' e, Sub F1 F' ∧ Sta (kn X) A F' H' σ' e ∧ i + m = ds.length ∧ PostS (kn X) A W F' (forL h g (ds.drop i) e) D, ⟨ds.length, F1, e0, .refl _, S1, by omega, PostS.mono s1 q⟩, fun i m σ' H' hw => ?_⟩
    obtain ⟨F', e, s2, S2, hm, q2⟩ := hw
    have hfi := hf F' H' s2 S2.sub i
    cases hd : ds[i]? with
    | none =>
      have hl : ds.length ≤ i := List.getElem?_eq_none_iff.mp hd
      rw [List.drop_eq_nil_of_le hl] at q2
      exact .inl ⟨hfi.2 hl, q2 F' H' σ' (.refl _) S2⟩
    | some d =>
      have hl : i < ds.length := (List.getElem?_eq_some_iff.mp hd).1
      have hdr : ds.drop i = d :: ds.drop (i + 1) := by
        rw [List.drop_eq_getElem_cons hl]
        have := (List.getElem?_eq_some_iff.mp hd).2
        rw [this]
      rw [hdr] at q2
      obtain ⟨go, yl⟩ := hfi.1 d hd
      refine .inr ⟨go, fun σ3 H3 => ∃ F' e, Sub F1 F' ∧ Sta (kn X) A F' H3 σ3 e ∧ PostS (kn X) A W F' (forL h g (ds.drop (i + 1)) e) D, fun σ3 H3 ⟨F', e, a, b, c⟩ => ⟨m - 1, by omega, F', e, a, b, by omega, c⟩, fun x H3 hy => ?_⟩
      have stp : ∃ F3, Sub F' F3 ∧ Sta (kn X) A F3 H3 σ' e ∧ Rep (kn X) F3 d x := by
        rcases yl x H3 hy with ⟨rfl, r⟩ | ⟨T, us, es, rfl, nT, rfl, rfl, r⟩
        · exact ⟨F', .refl _, S2, r⟩
        · obtain ⟨a, _, _⟩ := S2.fresh nT
          exact ⟨_, .new a, S2.lay nT, .tup (SqT.of upd_same) (r.mono (.new a))⟩
      obtain ⟨F3, s3, S3, r3⟩ := stp
      simp only [forL] at q2
      cases ct : h d e with
      | no => rw [ct] at q2; exact q2.elim
      | ex x e => exact absurd ct (hne _ _ _ _)
      | ok e1 =>
        rw [ct] at q2
        simp only [Res.go_ok] at q2
        refine rg A F3 H3 σ' e e1 d x _ S3 r3 ct fun σ4 _ S4 => rb A F3 H3 σ4 e1 _ S4 ?_
        cases cb : g e1 with
        | nx e2 => rw [cb] at q2; exact fun F5 H5 σ5 a b => ⟨F5, e2, (s2.trans s3).trans a, b, PostS.mono (s3.trans a) q2⟩
        | ct e2 => rw [cb] at q2; exact fun F5 H5 σ5 a b => ⟨F5, e2, (s2.trans s3).trans a, b, PostS.mono (s3.trans a) q2⟩
        | bk e2 => rw [cb] at q2; exact fun F5 H5 σ5 a b => PostS.mono s3 q2 F5 H5 σ5 a b
        | rt x e2 => rw [cb] at q2; exact fun F5 H5 σ5 v a b c => PostS.mono s3 q2 F5 H5 σ5 v a b c
        | ex x e2 => rw [cb] at q2; exact PostS.mono s3 q2
        | no => rw [cb] at q2; exact q2.elim

/-! ### while -/
def whl (c : FT) (body : FS) : Nat → En → RS
  | 0, _ => .no
  | n + 1, e => (c e).go fun p => if p.1 = true then (match body p.2 with
      | .nx e2 => whl c body n e2
      | .ct e2 => whl c body n e2
      | .bk e2 => .nx e2
      | r => r) else .nx p.2
/-- turns enough for anything here -/
def fuel : Nat := 1000000000
theorem sx_while {c : Expr} {body : List Stmt} {fc : FT} {g : FS} (hp : PassesOwn (model X.prog X.w) X.A X.env X.xe) (hc : TX X W c fc) (hb : BX X W body g) : SX X W (.While c body [] pos) (whl fc g fuel) := by
  obtain ⟨tc, pc, rc⟩ := hc
  obtain ⟨tb, pb, rb⟩ := hb
  refine ⟨_, ps_while hp pc pb, fun A F H σ env D S q => ?_⟩
  refine ⟨fun m σ' H' => ∃ F' e, Sub F F' ∧ Sta (kn X) A F' H' σ' e ∧ PostS (kn X) A W F' (whl fc g m e) D, ⟨fuel, F, env, .refl _, S, q⟩, fun m σ' H' ⟨F', e, s1, S1, q1⟩ => ?_⟩
  cases m with
  | zero => exact q1.elim
  | succ m =>
    simp only [whl] at q1
    refine rc A F' H' σ' e _ S1 (q1.afT fun p F1 H1 s2 S2 q2 => ?_)
    by_cases b : p.1 = true
    · rw [if_pos b] at q2 ⊢
      refine ⟨fun σ3 H3 => ∃ F' e, Sub F F' ∧ Sta (kn X) A F' H3 σ3 e ∧ PostS (kn X) A W F' (whl fc g m e) D, fun σ3 H3 ⟨F', e, a, b, c⟩ => ⟨m, Nat.lt_succ_self m, F', e, a, b, c⟩, rb A F1 H1 σ' p.2 _ S2 ?_⟩
      cases cb : g p.2 with
      | nx e2 => rw [cb] at q2; exact fun F5 H5 σ5 a b => ⟨F5, e2, (s1.trans s2).trans a, b, PostS.mono a q2⟩
      | ct e2 => rw [cb] at q2; exact fun F5 H5 σ5 a b => ⟨F5, e2, (s1.trans s2).trans a, b, PostS.mono a q2⟩
      | bk e2 => rw [cb] at q2; exact fun F5 H5 σ5 a b => q2 F5 H5 σ5 a b
      | rt x e2 => rw [cb] at q2; exact fun F5 H5 σ5 v a b c => q2 F5 H5 σ5 v a b c
      | ex x e2 => rw [cb] at q2; exact q2
      | no => rw [cb] at q2; exact q2.elim
    · rw [if_neg b] at q2 ⊢
      exact q2 F1 H1 σ' (.refl _) S2
end

/-! ### comprehensions -/
def clr (env : En) : List Nat → En
  | [] => env
  | v :: vs => (clr env vs).set v none
/-- the comprehension's own slots are as they were -/
def rst (env0 e : En) : List Nat → En
  | [] => e
  | v :: vs => (rst env0 e vs).set v (match env0[v]? with
    | some x => x
    | none => none)
def plainS (env : En) (vs : List Nat) : Bool := vs.all fun v => match env[v]? with
  | some none => true
  | some (some (.fz _)) => true
  | _ => false
/-- nothing may be raised -/
def Res.bin {α β : Type} : Res α → (α → Res β) → Res β
  | .ok a, f => f a
  | _, _ => .no
@[simp] theorem Res.bin_ok {α β : Type} (a : α) (f : α → Res β) : (Res.ok a).bin f = f a := rfl
def lcL (tg : FG) (tt : FT) (fe : FE) (vs : List Nat) : List D → List D → En → Res (List D × En)
  | [], acc, e => .ok (acc, e)
  | d :: ds, acc, e => (tg d e).bin fun e1 => (tt e1).bin fun b => if b.1 = true then (fe b.2).bin fun x => (match hold x.1 x.2 with
      | some h => if acc.length < sizeLine then lcL tg tt fe vs ds (acc ++ [h.1]) (clr h.2 vs) else .no
      | none => .no) else lcL tg tt fe vs ds acc (clr b.2 vs)
theorem Res.bin_inv {α β : Type} {r : Res α} {f : α → Res β} {b : β} (h : r.bin f = .ok b) : ∃ a, r = .ok a ∧ f a = .ok b := by
  cases r with
  | ok a => exact ⟨a, rfl, h⟩
  | ex _ _ => cases h
  | no => cases h
def tyes : FT := fun env => .ok (true, env)
def vlc (it : FI) (tg : FG) (tt : FT) (fe : FE) (vs : List Nat) : FE := fun env => (it env).bind fun p => if plainS p.2 vs = true then (lcL tg tt fe vs p.1 [] (clr p.2 vs)).bin fun r => .ok (.new (.lst r.1), rst p.2 r.2 vs) else .no
section
variable {k : Kn} {A : Amb} {F H : Hp} {σ : L2.St} {env : En}
theorem clr_len : ∀ vs : List Nat, (clr env vs).length = env.length
  | [] => rfl
  | v :: vs => by rw [clr, List.length_set, clr_len vs]
theorem clr_out {i : Nat} : ∀ {vs : List Nat}, i ∉ vs → (clr env vs)[i]? = env[i]?
  | [], _ => rfl
  | v :: vs, h => by
    rw [clr, get_set_ne (fun z => h (by rw [z]; exact List.mem_cons_self)), clr_out fun z => h (List.mem_cons_of_mem _ z)]
theorem clr_in {i : Nat} (hi : i < env.length) : ∀ {vs : List Nat}, i ∈ vs → (clr env vs)[i]? = some none
  | v :: vs, h => by
    by_cases q : i = v
    · subst q
      rw [clr, List.getElem?_set_self]
      rw [clr_len]; exact hi
    · rw [clr, get_set_ne q]
      rcases List.mem_cons.mp h with z | z
      · exact absurd z q
      · exact clr_in hi z
theorem clr_some {i : Nat} {vs : List Nat} {sl : Sl} (h : (clr env vs)[i]? = some (some sl)) : i ∉ vs ∧ env[i]? = some (some sl) := by
  have hi : i < env.length := by
    have := (List.getElem?_eq_some_iff.mp h).1
    rwa [clr_len] at this
  by_cases q : i ∈ vs
  · rw [clr_in hi q] at h; cases h
  · rw [clr_out q] at h; exact ⟨q, h⟩
theorem clr_own {i : Nat} {vs : List Nat} {o : O} (h : OwnAt (clr env vs) i o) : i ∉ vs ∧ OwnAt env i o := by
  rcases h with h | h
  · exact ⟨(clr_some h).1, .inl (clr_some h).2⟩
  · exact ⟨(clr_some h).1, .inr (clr_some h).2⟩
/-- a comprehension's block begins -/
theorem Sta.clr (S : Sta k A F H σ env) (vs : List Nat) {σ' : L2.St} (ho : Out vs σ σ') : Sta k A F H σ' (PL.clr env vs) := by
  refine ⟨S.sub, S.kp, S.f0, S.frz, fun i sl e => ?_, fun i o p a b => ?_, fun i j o u p a b c d => ?_, by rw [clr_len, ho.1]; exact S.len, fun i o e => ?_⟩
  · obtain ⟨n, e'⟩ := clr_some e
    rw [ho.2 i n]; exact S.rel i sl e'
  · obtain ⟨n, a'⟩ := clr_own a
    rw [ho.2 i n] at b; exact S.own i o p a' b
  · obtain ⟨n, a'⟩ := clr_own a
    obtain ⟨n', b'⟩ := clr_own b
    rw [ho.2 i n] at c; rw [ho.2 j n'] at d
    exact S.dis i j o u p a' b' c d
  · obtain ⟨n, e'⟩ := clr_some e
    rw [ho.2 i n]; exact S.mus i o e'
theorem wipe_out' (σ : L2.St) (vs : List Nat) : Out vs σ (wipe σ vs) := by
  refine ⟨wipe_length σ vs, fun i h => ?_⟩
  exact L2.wipe_out h
theorem wipe_eq {vs : List Nat} {σ1 σ2 : L2.St} (h : Out vs σ1 σ2) : wipe σ2 vs = wipe σ1 vs := by
  have inn : ∀ {σ : L2.St} {i : Nat}, i < σ.length → ∀ {us : List Nat}, i ∈ us → (wipe σ us)[i]? = some none := by
    intro σ i hi us
    induction us with
    | nil => intro z; cases z
    | cons u us ih =>
      intro z
      by_cases q : i = u
      · subst q
        show ((wipe σ us).set i none)[i]? = _
        rw [List.getElem?_set_self]
        rw [wipe_length]; exact hi
      · show ((wipe σ us).set u none)[i]? = _
        rw [sget_ne q]
        rcases List.mem_cons.mp z with z | z
        · exact absurd z q
        · exact ih z
  apply List.ext_getElem?
  intro i
  by_cases hv : i ∈ vs
  · by_cases hi : i < σ1.length
    · rw [inn hi hv, inn (by rw [h.1]; exact hi) hv]
    · rw [List.getElem?_eq_none_iff.mpr (by rw [wipe_length, h.1]; omega), List.getElem?_eq_none_iff.mpr (by rw [wipe_length]; omega)]
  · rw [L2.wipe_out hv, L2.wipe_out hv]
    exact h.2 i hv
theorem rst_len {env0 : En} : ∀ {vs : List Nat}, (rst env0 env vs).length = env.length
  | [] => rfl
  | v :: vs => by rw [rst, List.length_set, rst_len]
theorem rst_out {env0 : En} {i : Nat} : ∀ {vs : List Nat}, i ∉ vs → (rst env0 env vs)[i]? = env[i]?
  | [], _ => rfl
  | v :: vs, h => by
    rw [rst, get_set_ne (fun z => h (by rw [z]; exact List.mem_cons_self)), rst_out fun z => h (List.mem_cons_of_mem _ z)]
theorem rst_in {env0 : En} {i : Nat} (hi : i < env.length) {x : Option Sl} (hx : env0[i]? = some x) : ∀ {vs : List Nat}, i ∈ vs → (rst env0 env vs)[i]? = some x
  | v :: vs, h => by
    by_cases q : i = v
    · subst q
      rw [rst, List.getElem?_set_self (by rw [rst_len]; exact hi), hx]
    · rw [rst, get_set_ne q]
      rcases List.mem_cons.mp h with z | z
      · exact absurd z q
      · exact rst_in hi hx z
/-- a comprehension's block has ended -/
theorem Sta.rst {F0 H0 : Hp} {env0 : En} {vs : List Nat} {σ' : L2.St} (S0 : Sta k A F0 H0 σ env0) (hpl : plainS env0 vs = true) (s : Sub F0 F) (S : Sta k A F H σ' env) (ho : Out vs σ σ') : Sta k A F H σ (PL.rst env0 env vs) := by
  have hlen : env.length = env0.length := by rw [← S.len, ← S0.len, ho.1]
  have inv : ∀ {i : Nat}, i ∈ vs → ∃ x, env0[i]? = some x ∧ (∀ o, x ≠ some (.ow o)) ∧ (∀ o, x ≠ some (.mu o)) := fun {i} hi => by
    have := List.all_eq_true.mp hpl i hi
    cases c : env0[i]? with
    | none => rw [c] at this; cases this
    | some x =>
      rw [c] at this
      refine ⟨x, rfl, fun o z => ?_, fun o z => ?_⟩
      · subst z; cases this
      · subst z; cases this
  have key : ∀ {i : Nat} {sl : Sl}, (PL.rst env0 env vs)[i]? = some (some sl) → (i ∉ vs ∧ env[i]? = some (some sl)) ∨ (i ∈ vs ∧ env0[i]? = some (some sl)) := fun {i sl} e => by
    by_cases hi : i ∈ vs
    · obtain ⟨x, hx, _⟩ := inv hi
      have hl : i < env.length := by rw [hlen]; exact (List.getElem?_eq_some_iff.mp hx).1
      rw [rst_in hl hx hi] at e
      exact .inr ⟨hi, by rw [hx, e]⟩
    · rw [rst_out hi] at e; exact .inl ⟨hi, e⟩
  have own : ∀ {i : Nat} {o : O}, OwnAt (PL.rst env0 env vs) i o → i ∉ vs ∧ OwnAt env i o := fun {i o} z => by
    rcases z with z | z
    · rcases key z with ⟨a, b⟩ | ⟨a, b⟩
      · exact ⟨a, .inl b⟩
      · obtain ⟨x, hx, n1, _⟩ := inv a
        rw [hx] at b; cases b; exact absurd rfl (n1 o)
    · rcases key z with ⟨a, b⟩ | ⟨a, b⟩
      · exact ⟨a, .inr b⟩
      · obtain ⟨x, hx, _, n2⟩ := inv a
        rw [hx] at b; cases b; exact absurd rfl (n2 o)
  refine ⟨S.sub, S.kp, S.f0, S.frz, fun i sl e => ?_, fun i o p a b => ?_, fun i j o u p a b c d => ?_, by rw [rst_len, hlen]; exact S0.len, fun i o e => ?_⟩
  · rcases key e with ⟨n, e'⟩ | ⟨n, e'⟩
    · rw [← ho.2 i n]; exact S.rel i sl e'
    · obtain ⟨v, e1, r⟩ := S0.rel i sl e'
      refine ⟨v, e1, ?_⟩
      obtain ⟨x, hx, n1, n2⟩ := inv n
      rw [hx] at e'; cases e'
      cases sl with
      | fz d => exact r.mono s
      | ow o => exact absurd rfl (n1 o)
      | mu o => exact absurd rfl (n2 o)
  · obtain ⟨n, a'⟩ := own a
    rw [← ho.2 i n] at b; exact S.own i o p a' b
  · obtain ⟨n, a'⟩ := own a
    obtain ⟨n', b'⟩ := own b
    rw [← ho.2 i n] at c; rw [← ho.2 j n'] at d
    exact S.dis i j o u p a' b' c d
  · obtain ⟨n, e'⟩ := own (i := i) (o := o) (.inr e)
    rcases key e with ⟨_, e2⟩ | ⟨m, _⟩
    · rw [← ho.2 i n]; exact S.mus i o e2
    · exact absurd m n
/-- an object that must stand is kept by the way -/
def Amb.keep (A : Amb) (p : Addr) (u : HO) : Amb := { A with Kp := upd A.Kp p u }
theorem Sta.keepIn (S : Sta k A F H σ env) {p : Addr} {u : HO} (hp : H p = some u) (hF : F p = none) (hK : A.Kp p = none) (hs : ∀ (j : Nat) (o : O), OwnAt env j o → σ[j]? ≠ some (some (V.ref p))) : Sta k (A.keep p u) F H σ env := by
  refine ⟨S.sub, fun a o e => ?_, S.f0, fun a o e => ?_, S.rel, fun i o q a b => ⟨(S.own i o q a b).1, ?_⟩, S.dis, S.len, S.mus⟩
  · by_cases q : a = p
    · subst q
      have e' : upd A.Kp a u a = some o := e
      rw [upd_same] at e'; cases e'; exact hp
    · have e' : upd A.Kp p u a = some o := e
      rw [upd_ne q] at e'; exact S.kp a o e'
  · have ne : a ≠ p := fun z => by subst z; rw [hF] at e; cases e
    rcases S.frz a o e with h | h
    · exact .inl h
    · exact .inr (by show upd A.Kp p u a = none; rw [upd_ne ne]; exact h)
  · have ne : q ≠ p := fun z => by subst z; exact hs i o a b
    show upd A.Kp p u q = none
    rw [upd_ne ne]; exact (S.own i o q a b).2
theorem Sta.keepOut {p : Addr} {u : HO} (S : Sta k (A.keep p u) F H σ env) (hK : A.Kp p = none) (hF0 : A.F0 p = none) : Sta k A F H σ env ∧ H p = some u ∧ F p = none ∧ ∀ (j : Nat) (o : O), OwnAt env j o → σ[j]? ≠ some (some (V.ref p)) := by
  have kp : ∀ a, a ≠ p → (A.keep p u).Kp a = A.Kp a := fun a h => upd_ne h
  have kpp : (A.keep p u).Kp p = some u := upd_same
  refine ⟨⟨S.sub, fun a o e => S.kp a o ?_, S.f0, fun a o e => ?_, S.rel, fun i o q a b => ⟨(S.own i o q a b).1, ?_⟩, S.dis, S.len, S.mus⟩, S.kp p u kpp, ?_, fun j o a b => ?_⟩
  · have ne : a ≠ p := fun z => by subst z; rw [hK] at e; cases e
    rw [kp a ne]; exact e
  · rcases S.frz a o e with h | h
    · exact .inl h
    · by_cases q : a = p
      · subst q; exact .inr hK
      · rw [kp a q] at h; exact .inr h
  · have := (S.own i o q a b).2
    have ne : q ≠ p := fun z => by subst z; rw [kpp] at this; cases this
    rwa [kp q ne] at this
  · cases c : F p with
    | none => rfl
    | some w =>
      rcases S.frz p w c with h | h
      · have h' : A.F0 p = some w := h
        rw [hF0] at h'; cases h'
      · rw [kpp] at h; cases h
  · have := (S.own j o p a b).2
    rw [kpp] at this; cases this
end

/-! ### readings by the mirrors -/
def tOf (k : Kn) (W : WP) (f : FE) : TE := fun σ H Q => ∃ A F env, Sta k A F H σ env ∧ PostE k A W F σ (f env) Q
theorem EX.can {X : Cx} {W : WP} {e : Expr} {f : FE} (h : EX X W e f) : PE X e (tOf (kn X) W f) := by
  obtain ⟨t, p, r⟩ := h
  exact ⟨fun pins s σ H Q I ⟨A, F, env, S, q⟩ => p.run pins s σ H Q I (r A F H σ env Q S q)⟩
def ttOf (k : Kn) (W : WP) (f : FT) : TT := fun σ H Q => ∃ A F env, Sta k A F H σ env ∧ PostT k A W F σ (f env) Q
def TsX (X : Cx) (W : WP) (ifs : List Expr) (f : FT) : Prop :=
  ∃ t, PTs X ifs t ∧ ∀ (A : Amb) (F H : Hp) (σ : L2.St) (env : En) (Q : Bool → Hp → Prop), Sta (kn X) A F H σ env → PostT (kn X) A W F σ (f env) Q → t σ H Q
theorem TsX.can {X : Cx} {W : WP} {ifs : List Expr} {f : FT} (h : TsX X W ifs f) : PTs X ifs (ttOf (kn X) W f) := by
  obtain ⟨t, p, r⟩ := h
  exact ⟨fun pins s σ H Q I ⟨A, F, env, S, q⟩ => p.run pins s σ H Q I (r A F H σ env Q S q)⟩
theorem tsx_nil {X : Cx} {W : WP} : TsX X W [] tyes := ⟨_, pts_nil, fun A F H σ env Q S q => q F H (.refl _) S⟩
theorem tsx_one {X : Cx} {W : WP} {c : Expr} {f : FT} (h : TX X W c f) : TsX X W [c] f := let ⟨_, p, r⟩ := h; ⟨_, pts_one p, r⟩
def gOf (k : Kn) (f : FG) (ws : List Nat) : TG := fun v σ H Q => ∃ A F env env' d, Sta k A F H σ env ∧ Rep k F d v ∧ f d env = .ok env' ∧ ∀ σ', Out ws σ σ' → Sta k A F H σ' env' → Q σ' H
theorem GX.can {X : Cx} {e : Expr} {f : FG} {ws : List Nat} (h : GX X e f ws) : PG X e (gOf (kn X) f ws) := by
  obtain ⟨t, p, r⟩ := h
  exact ⟨fun pins s σ H v u Q I rv ⟨A, F, env, env', d, S, rd, e, q⟩ => p.run pins s σ H v u Q I rv (r A F H σ env env' d v Q S rd e q)⟩

theorem Out.sub {ws us : List Nat} {σ σ' : L2.St} (h : Out ws σ σ') (hs : ∀ i ∈ ws, i ∈ us) : Out us σ σ' := ⟨h.1, fun i n => h.2 i fun z => n (hs i z)⟩
theorem Out.refl (ws : List Nat) (σ : L2.St) : Out ws σ σ := ⟨rfl, fun _ _ => rfl⟩
theorem Out.join {ws : List Nat} {σ σ1 σ2 : L2.St} (a : Out ws σ σ1) (b : Out ws σ1 σ2) : Out ws σ σ2 := ⟨b.1.trans a.1, fun i h => (b.2 i h).trans (a.2 i h)⟩
/-- the reading of a comprehension, from the mirror -/
theorem lc_reads {X : Cx} {W : WP} {wi : TI} {tg iter : Expr} {it : FI} {g : FG} {ws : List Nat} {tt : FT} {fe : FE} {vs : List Nat}
    (ri : ∀ (A : Amb) (F H : Hp) (σ : L2.St) (env : En) (R : It → Hp → Prop), Sta (kn X) A F H σ env → PostI (kn X) A W F σ (it env) R → wi σ H R) (hw : ∀ i ∈ ws, i ∈ vs) :
    ∀ (A : Amb) (F H : Hp) (σ : L2.St) (env : En) (Q : VK), Sta (kn X) A F H σ env → PostE (kn X) A W F σ (vlc it g tt fe vs env) Q → tLc wi (gOf (kn X) g ws) (ttOf (kn X) W0 tt) (tOf (kn X) W0 fe) vs σ H Q := by
  intro A F H σ env Q S q
  refine ri A F H σ env _ S ?_
  simp only [vlc] at q
  cases c : it env with
  | no => rw [c] at q; exact q.elim
  | ex x e => rw [c] at q; exact q
  | ok p =>
    rw [c] at q
    obtain ⟨ds, e0⟩ := p
    simp only [Res.bind_ok] at q
    by_cases hpl : plainS e0 vs = true
    · rw [if_pos hpl] at q
      cases cl : lcL g tt fe vs ds [] (clr e0 vs) with
      | no => rw [cl] at q; exact q.elim
      | ex x e => rw [cl] at q; exact q.elim
      | ok fin =>
        rw [cl] at q
        intro F1 H1 J s1 S1 hf Dd nD
        obtain ⟨nF, nK, nO⟩ := S1.fresh nD
        have nF0 : A.F0 Dd = none := S1.f0.free nF
        refine ⟨fun i m H' => ∃ F' e us acc, Sub F1 F' ∧ Sta (kn X) (A.keep Dd (.lst us)) F' H' (wipe σ vs) (clr e vs) ∧ Reps (kn X) F' acc us ∧ i + m = ds.length ∧ lcL g tt fe vs (ds.drop i) acc (clr e vs) = .ok fin,
          ⟨ds.length, F1, e0, [], [], .refl _, ?_, .nil, by omega, cl⟩, fun i m H' hw' => ?_⟩
        · refine ((S1.grow (u := .lst []) nD).clr vs (wipe_out' σ vs)).keepIn upd_same nF nK fun j o a b => ?_
          obtain ⟨n, a'⟩ := clr_own a
          rw [(wipe_out' σ vs).2 j n] at b
          exact nO j o a' b
        · obtain ⟨F', e, us, acc, s2, S2, ra, hm, hl⟩ := hw'
          have hfi := hf F' H' s2 S2.sub i
          cases hd : ds[i]? with
          | none =>
            have hle : ds.length ≤ i := List.getElem?_eq_none_iff.mp hd
            rw [List.drop_eq_nil_of_le hle] at hl
            simp only [lcL, Res.ok.injEq] at hl
            subst hl
            refine .inl ⟨hfi.2 hle, ?_⟩
            obtain ⟨S3, hD, fD, oD⟩ := S2.keepOut nK nF0
            have S4 := Sta.rst S1 hpl s2 S3 (wipe_out' σ vs)
            refine q F' H' _ (s1.trans s2) S4 ⟨Dd, _, rfl, hD, .lst ra, fD, nK, fun j o a b => ?_⟩
            -- an owned slot behind is one ahead
            have hj : j ∉ vs := fun hj => by
              have := List.all_eq_true.mp hpl j hj
              have hx : ∃ x, e0[j]? = some x := by
                cases c : e0[j]? with
                | none => rw [c] at this; cases this
                | some x => exact ⟨x, rfl⟩
              obtain ⟨x, hx⟩ := hx
              have hlen : j < (clr e vs).length := by
                rw [← S3.len, wipe_length, S1.len]; exact (List.getElem?_eq_some_iff.mp hx).1
              rw [hx] at this
              rcases a with a | a <;> (rw [rst_in hlen hx hj] at a; cases a; cases this)
            have a' : OwnAt (clr e vs) j o := by
              rcases a with a | a
              · exact .inl (by rw [rst_out hj] at a; exact a)
              · exact .inr (by rw [rst_out hj] at a; exact a)
            exact oD j o a' (by rw [(wipe_out' σ vs).2 j hj]; exact b)
          | some d =>
            have hlt : i < ds.length := (List.getElem?_eq_some_iff.mp hd).1
            have hdr : ds.drop i = d :: ds.drop (i + 1) := by
              rw [List.drop_eq_getElem_cons hlt, (List.getElem?_eq_some_iff.mp hd).2]
            rw [hdr] at hl
            simp only [lcL] at hl
            obtain ⟨e1, h1, hl⟩ := Res.bin_inv hl
            obtain ⟨b, h2, hl⟩ := Res.bin_inv hl
            obtain ⟨go, yl⟩ := hfi.1 d hd
            refine .inr ⟨go, fun H3 => ∃ F' e us acc, Sub F1 F' ∧ Sta (kn X) (A.keep Dd (.lst us)) F' H3 (wipe σ vs) (clr e vs) ∧ Reps (kn X) F' acc us ∧ lcL g tt fe vs (ds.drop (i + 1)) acc (clr e vs) = .ok fin,
              fun H3 ⟨F', e, us, acc, a, b, c, d⟩ => ⟨m - 1, by omega, F', e, us, acc, a, b, c, by omega, d⟩, fun x H3 hy => ?_⟩
            have stp : ∃ F3, Sub F' F3 ∧ Sta (kn X) (A.keep Dd (.lst us)) F3 H3 (wipe σ vs) (clr e vs) ∧ Rep (kn X) F3 d x := by
              rcases yl x H3 hy with ⟨rfl, r⟩ | ⟨T, ts, es, rfl, nT, rfl, rfl, r⟩
              · exact ⟨F', .refl _, S2, r⟩
              · obtain ⟨a, _, _⟩ := S2.fresh nT
                exact ⟨_, .new a, S2.lay nT, .tup (SqT.of upd_same) (r.mono (.new a))⟩
            obtain ⟨F3, s3, S3, r3⟩ := stp
            refine ⟨A.keep Dd (.lst us), F3, _, e1, d, S3, r3, h1, fun σ4 o4 S4 => ?_⟩
            have o4' : Out vs (wipe σ vs) σ4 := o4.sub hw
            refine ⟨(wipe_eq o4').trans ?_, A.keep Dd (.lst us), F3, e1, S4, ?_⟩
            · exact wipe_eq (wipe_out' σ vs)
            rw [h2]
            intro F5 H5 s5 S5
            have oo : Out vs σ4 (wipe σ vs) := ⟨o4'.1.symm, fun j hj => (o4'.2 j hj).symm⟩
            by_cases hb : b.1 = true
            · rw [if_pos hb] at hl ⊢
              obtain ⟨xv, h3, hl⟩ := Res.bin_inv hl
              refine ⟨A.keep Dd (.lst us), F5, b.2, S5, ?_⟩
              rw [h3]
              intro F6 H6 v6 s6 S6 r6
              cases hh : hold xv.1 xv.2 with
              | none => rw [hh] at hl; cases hl
              | some hd2 =>
                rw [hh] at hl
                simp only at hl
                by_cases hz : acc.length < sizeLine
                · rw [if_pos hz] at hl
                  obtain ⟨F7, s7, S7, r7⟩ := S6.hold r6 (d := hd2.1) (env' := hd2.2) hh
                  obtain ⟨S8, hD, fD, oD⟩ := S7.keepOut nK nF0
                  have sAll : Sub F' F7 := ((s3.trans s5).trans s6).trans s7
                  refine ⟨us, hD, by rw [ra.len]; exact hz, F7, hd2.2, us ++ [v6], acc ++ [hd2.1], s2.trans sAll, ?_, (ra.mono sAll).append (.cons r7 .nil), hl⟩
                  -- the list grows
                  have S9 : Sta (kn X) A F7 (upd H6 Dd (.lst (us ++ [v6]))) σ4 hd2.2 := by
                    refine ⟨S8.sub.mut fD, S8.kp.mut nK, S8.f0, S8.frz, fun i sl e => ?_, S8.own, S8.dis, S8.len, S8.mus⟩
                    obtain ⟨v, e1, rr⟩ := S8.rel i sl e
                    refine ⟨v, e1, ?_⟩
                    cases sl with
                    | fz d => exact rr
                    | ow o =>
                      obtain ⟨p, u, rfl, hp, rr⟩ := rr
                      exact ⟨p, u, rfl, by rw [upd_ne fun z => by subst z; exact oD i o (.inl e) e1]; exact hp, rr⟩
                    | mu o =>
                      obtain ⟨p, u, rfl, hp, rr⟩ := rr
                      exact ⟨p, u, rfl, by rw [upd_ne fun z => by subst z; exact oD i o (.inr e) e1]; exact hp, rr⟩
                  refine (S9.clr vs oo).keepIn upd_same fD nK fun j o a b => ?_
                  obtain ⟨n, a'⟩ := clr_own a
                  rw [oo.2 j n] at b
                  exact oD j o a' b
                · rw [if_neg hz] at hl; cases hl
            · rw [if_neg hb] at hl ⊢
              exact ⟨F5, b.2, us, acc, s2.trans (s3.trans s5), S5.clr vs oo, ra.mono (s3.trans s5), hl⟩
    · rw [if_neg hpl] at q; exact q.elim
section
variable {X : Cx} {W : WP} {pos : Pos} {elt tg iter : Expr} {ifs : List Expr} {scope : Scope} {own : List (Str × Nat)} {it : FI} {g : FG} {ws : List Nat} {tt : FT} {fe : FE}
theorem ex_lc (hc : X.calm = true) (hN : X.N.Nodup) (hi : IX X W tg iter it) (ok : BlkOk X.N X.env.scope scope own)
    (hg : ∀ (s : Shared) (H : Hp) (C : Addr) (cl : List (Str × Addr)) (fp : List Addr), GX (X.blk s H scope (compEnvC scope cl C X.env) fp) tg g ws)
    (ht : ∀ (s : Shared) (H : Hp) (C : Addr) (cl : List (Str × Addr)) (fp : List Addr), TsX (X.blk s H scope (compEnvC scope cl C X.env) fp) W0 ifs tt)
    (he : ∀ (s : Shared) (H : Hp) (C : Addr) (cl : List (Str × Addr)) (fp : List Addr), EX (X.blk s H scope (compEnvC scope cl C X.env) fp) W0 elt fe)
    (hw : ∀ i ∈ ws, i ∈ own.map (·.2)) (hs : ∀ x, foldedSetIterable iter X.env x = pure x := by intro _; rfl) : EX X W (.ListComp elt [⟨tg, iter, ifs, 0⟩] scope pos) (vlc it g tt fe (own.map (·.2))) := by
  obtain ⟨wi, pi, ri⟩ := hi
  exact ⟨_, pe_lc (g := gOf (kn X) g ws) (tt := ttOf (kn X) W0 tt) (te := tOf (kn X) W0 fe) hc hN pi ok (fun s H C cl fp => (hg s H C cl fp).can) (fun s H C cl fp => (ht s H C cl fp).can) (fun s H C cl fp => (he s H C cl fp).can) hs, lc_reads (tg := tg) (iter := iter) ri hw⟩
theorem sx_setLc (i : Nat) {y : Str} {py spos : Pos} (hc : X.calm = true) (hN : X.N.Nodup) (hsw : swapsWith (.ListComp elt [⟨tg, iter, ifs, 0⟩] scope pos) (some (.Name y py)) spos.line X.env = pure true) (hi : IX X W tg iter it) (ok : BlkOk X.N X.env.scope scope own)
    (hg : ∀ (s : Shared) (H : Hp) (C : Addr) (cl : List (Str × Addr)) (fp : List Addr), GX (X.blk s H scope (compEnvC scope cl C X.env) fp) tg g ws)
    (ht : ∀ (s : Shared) (H : Hp) (C : Addr) (cl : List (Str × Addr)) (fp : List Addr), TsX (X.blk s H scope (compEnvC scope cl C X.env) fp) W0 ifs tt)
    (he : ∀ (s : Shared) (H : Hp) (C : Addr) (cl : List (Str × Addr)) (fp : List Addr), EX (X.blk s H scope (compEnvC scope cl C X.env) fp) W0 elt fe)
    (hw : ∀ i ∈ ws, i ∈ own.map (·.2)) (hy : X.N[i]? = some y := by rfl) (hyl : X.env.scope.names.lookup y = some .local := by rfl) (hs : ∀ x, foldedSetIterable iter X.env x = pure x := by intro _; rfl) :
    SX X W (.Assign [.Name y py] (.ListComp elt [⟨tg, iter, ifs, 0⟩] scope pos) spos) (sasg i (vlc it g tt fe (own.map (·.2)))) := by
  obtain ⟨wi, pi, ri⟩ := hi
  refine ⟨_, ps_setLc (g := gOf (kn X) g ws) (tt := ttOf (kn X) W0 tt) (te := tOf (kn X) W0 fe) hc hN hy hyl hsw pi ok (fun s H C cl fp => (hg s H C cl fp).can) (fun s H C cl fp => (ht s H C cl fp).can) (fun s H C cl fp => (he s H C cl fp).can) hs, fun A F H σ env D S q => ?_⟩
  refine lc_reads (tg := tg) (iter := iter) ri hw A F H σ env _ S (q.afE fun p F1 H1 v1 s1 S1 r1 q1 => ?_)
  cases c : bindA i p.1 p.2 with
  | ok e1 =>
    rw [c] at q1
    obtain ⟨F2, s2, S2⟩ := S1.bindA r1 c
    exact q1 F2 H1 _ s2 S2
  | ex _ _ => cases h : p.1 <;> rw [h] at c <;> simp only [bindA, bindD] at c <;> (repeat' split at c) <;> cases c
  | no => rw [c] at q1; exact q1.elim
end
end PL

/-! PL: defs and their calls. -/
namespace PL
open PySem PySem.Spec PyProof.Rows L2

/-! ### what a def does -/
inductive FRes where
  | ok (r : Sl) (ms : List (Option O))
  | ex (x : Exn) (ms : List (Option O))
  | no
abbrev FFn := List Sl → FRes
def muts : List Sl → En → List (Option O)
  | .mu _ :: as, some (.mu o) :: e => some o :: muts as e
  | _ :: as, _ :: e => none :: muts as e
  | _, _ => []
def callEnv (args : List Sl) (n : Nat) : En := args.map some ++ List.replicate (n - args.length) none
def runF (n : Nat) (g : FS) : FFn := fun args => match g (callEnv args n) with
  | .nx e => .ok (.fz .non) (muts args e)
  | .rt r e => .ok r (muts args e)
  | .ex x e => .ex x (muts args e)
  | _ => .no
def cAmb (Kp F : Hp) (vs : List V) : Amb := ⟨Kp, F, fun i => vs[i]?⟩
/-- the promise «called with arguments that hold args, it does f args» -/
def Prom (k : Kn) (n : Nat) (f : FFn) : Sp := fun vs H Q _ => ∃ (Kp F : Hp) (args : List Sl),
  Sta k (cAmb Kp F vs) F H (vs.map some) (args.map some) ∧ args.length = n ∧ (∀ a ∈ args, ∀ o, a ≠ .ow o) ∧
  ∃ r ms, f args = .ok r ms ∧ ∀ F' H' σ' e' v, Sub F F' → Sta k (cAmb Kp F vs) F' H' σ' e' → muts args e' = ms → RRet k (cAmb Kp F vs) F' H' σ' e' r v → Q v H'
theorem Prom.len {k : Kn} {n : Nat} {f : FFn} {vs : List V} {H : Hp} {Q : VK} {E : XK} (h : Prom k n f vs H Q E) : vs.length = n := by
  obtain ⟨Kp, F, args, S, hl, _⟩ := h
  have := S.len
  rw [List.length_map, List.length_map] at this
  rw [this, hl]
section
variable {k : Kn} {A : Amb} {F H : Hp} {σ : L2.St} {env : En}
/-- further slots, empty -/
theorem Sta.ext (S : Sta k A F H σ env) (m : Nat) : Sta k A F H (σ ++ List.replicate m none) (env ++ List.replicate m none) := by
  have ge : ∀ {i : Nat} {sl : Sl}, (env ++ List.replicate m none)[i]? = some (some sl) → env[i]? = some (some sl) ∧ (σ ++ List.replicate m none)[i]? = σ[i]? := fun {i sl} e => by
    by_cases h : i < env.length
    · rw [List.getElem?_append_left h] at e
      exact ⟨e, List.getElem?_append_left (by rw [S.len]; exact h)⟩
    · rw [List.getElem?_append_right (by omega)] at e
      have := List.mem_of_getElem? e
      rw [List.mem_replicate] at this
      cases this.2
  have go : ∀ {i : Nat} {o : O}, OwnAt (env ++ List.replicate m none) i o → OwnAt env i o ∧ (σ ++ List.replicate m none)[i]? = σ[i]? := fun {i o} e => by
    rcases e with e | e
    · exact ⟨.inl (ge e).1, (ge e).2⟩
    · exact ⟨.inr (ge e).1, (ge e).2⟩
  refine ⟨S.sub, S.kp, S.f0, S.frz, fun i sl e => ?_, fun i o p a b => ?_, fun i j o u p a b c d => ?_, by simp [S.len], fun i o e => ?_⟩
  · rw [(ge e).2]; exact S.rel i sl (ge e).1
  · rw [(go a).2] at b; exact S.own i o p (go a).1 b
  · rw [(go a).2] at c; rw [(go b).2] at d; exact S.dis i j o u p (go a).1 (go b).1 c d
  · rw [(ge e).2]; exact S.mus i o (ge e).1
end
section
variable {P : Program} {w : World} {K : PySem.W.Frag} {mg : Str → Option Value} {base : Heap}
theorem fun_body {X : Cx} {n : Nat} {sts : List Stmt} {g : FS} {N : List Str} {np : Nat} (h : BX X W0 sts g) {vs : List V} {H : Hp} {Q : VK} {E : XK} (hN : N.length = n) (hs : Prom (kn X) np (runF n g) vs H Q E) :
    ∃ t, PSs X sts t ∧ t { nx := fun _ H' => Q .non H', rt := Q } (L2.start N vs) H := by
  obtain ⟨t, p, r⟩ := h
  refine ⟨t, p, ?_⟩
  obtain ⟨Kp, F, args, S, hl, hno, res, ms, hf, q⟩ := hs
  have hlen : vs.length = args.length := by
    have := S.len
    rwa [List.length_map, List.length_map] at this
  have S' := S.ext (n - args.length)
  have e1 : L2.start N vs = vs.map some ++ List.replicate (n - args.length) none := by
    unfold L2.start; rw [hN, hlen]
  rw [e1]
  refine r _ F H _ _ _ S' ?_
  show PostS _ _ _ _ (g (callEnv args n)) _
  unfold runF at hf
  cases c : g (callEnv args n) with
  | nx e =>
    rw [c] at hf; cases hf
    exact fun F' H' σ' a b => q F' H' σ' e _ a b rfl .non
  | rt x e =>
    rw [c] at hf; cases hf
    exact fun F' H' σ' v a b d => q F' H' σ' e v a b rfl d
  | bk e => rw [c] at hf; cases hf
  | ct e => rw [c] at hf; cases hf
  | ex x e => rw [c] at hf; cases hf
  | no => rw [c] at hf; cases hf
/-- THE RULE for a def -/
theorem fun_ok {x qual : Str} {st : Stmt} {f : Addr} {fd : FuncData} {N ps : List Str} {k np : Nat} {g : FS} (F : Fun K x qual st f fd) (S : FnScope N ps (defScope st)) (hnp : ps.length = np)
    (hb : ∀ (cdv : Value) (A : Around) (outer : List Env) (s : Shared) (H : Hp) (E : XK), Room k (A.deeper (envOfC qual (defScope st) s.heap.objs.size f cdv)) →
      BX (cxOf CX0 P w K mg base N qual (defScope st) f cdv A outer s H E).nox W0 (defBody st) g) : FnOk P w K mg base CX0 (k + 1) f fd ps (Prom ⟨K, mg⟩ np (runF N.length g)) :=
  F.ok S (fun vs H Q E h => by rw [hnp]; exact h.len) fun cdv A outer s H vs Q E hr h => fun_body (hb cdv A outer s H E hr) rfl h
end

/-! ### a call -/
inductive Md where
  | rd | bw | mt
inductive Pa where
  | hd (d : D)
  | bo (j : Nat)
  | mt (j : Nat)
def Pa.sl (e : En) : Pa → Option Sl
  | .hd d => some (.fz d)
  | .bo j => (slotO e j).map fun o => .fz o.toD
  | .mt j => (slotO e j).map .mu
def slsOf (e : En) : List Pa → Option (List Sl)
  | [] => some []
  | p :: ps => (match p.sl e, slsOf e ps with
    | some s, some r => some (s :: r)
    | _, _ => none)
/-- how an argument is handed over -/
def prep1 (m : Md) (x : Arg) (env : En) : Option (Pa × En) :=
  match m, x with
  | .mt, .slot j => some (.mt j, env)
  | .mt, _ => none
  | .bw, .slot j => (match slotO env j with
    | some _ => some (.bo j, env)
    | none => (hold (.slot j) env).map fun p => (.hd p.1, p.2))
  | _, x => (hold x env).map fun p => (.hd p.1, p.2)
def prep : List Md → List Arg → En → Option (List Pa × En)
  | [], [], env => some ([], env)
  | m :: ms, x :: xs, env => (match prep1 m x env with
    | some p => (match prep ms xs p.2 with
      | some q => some (p.1 :: q.1, q.2)
      | none => none)
    | none => none)
  | _, _, _ => none
def mslots : List Pa → List Nat
  | [] => []
  | .mt j :: ps => j :: mslots ps
  | _ :: ps => mslots ps
def bslots : List Pa → List Nat
  | [] => []
  | .bo j :: ps => j :: bslots ps
  | _ :: ps => bslots ps
/-- no list, no dict anywhere -/
def noL : D → Bool
  | .lst _ => false
  | .dct _ _ => false
  | .dctT _ _ => false
  | .scr _ => false
  | .tup ds => noLs ds
  | .inst _ _ ds => noLs ds
  | _ => true
where noLs : List D → Bool
  | [] => true
  | d :: ds => noL d && noLs ds
def noLO : O → Bool
  | .lst ds => noL.noLs ds
  | .dct _ ds => noL.noLs ds
  | .dctT _ _ => false
  | .inst _ _ ds => noL.noLs ds
def flatO : O → Bool
  | .inst _ _ _ => false
  | _ => true
def noLS : Sl → Bool
  | .fz d => noL d
  | .ow o => noLO o
  | .mu o => noLO o
/-- the borrowed slots are still held -/
def clean (ps : List Pa) (env : En) (r : Sl) (os : List (Option O)) : Bool :=
  (bslots ps).isEmpty || ((bslots ps).all (fun j => match slotO env j with
    | some o => flatO o
    | none => false) && noLS r && os.all fun o => match o with
    | some o => noLO o
    | none => true)
def applyO : List Pa → List (Option O) → En → Option En
  | [], [], e => some e
  | .mt j :: ps, some o' :: os, e => applyO ps os (setO e j o')
  | .hd _ :: ps, none :: os, e => applyO ps os e
  | .bo _ :: ps, none :: os, e => applyO ps os e
  | _, _, _ => none
def okPa (ps : List Pa) : Bool := decide (mslots ps).Nodup && (bslots ps).all fun j => !(mslots ps).contains j
def toArg : Sl → Option Arg
  | .fz d => some (.val d)
  | .ow o => some (.new o)
  | .mu _ => none
def callF (ms : List Md) (f : FFn) (fa : FA) : FE := fun env => (fa env).bind fun p => match prep ms p.1 p.2 with
  | some (ps, e) => (match slsOf e ps with
    | some as => if okPa ps = true then (match f as with
      | .ok r os => if clean ps e r os = true then (match toArg r, applyO ps os e with
        | some x, some e' => .ok (x, e')
        | _, _ => .no) else .no
      | _ => .no) else .no
    | none => .no)
  | none => .no

/-! soundness -/
def RPa (k : Kn) (F : Hp) (σ : L2.St) : Pa → V → Prop
  | .hd d, v => Rep k F d v
  | .bo j, v => σ[j]? = some (some v)
  | .mt j, v => σ[j]? = some (some v)
inductive RPas (k : Kn) (F : Hp) (σ : L2.St) : List Pa → List V → Prop
  | nil : RPas k F σ [] []
  | cons {p : Pa} {v : V} {ps : List Pa} {vs : List V} : RPa k F σ p v → RPas k F σ ps vs → RPas k F σ (p :: ps) (v :: vs)
section
variable {k : Kn} {A : Amb} {F H : Hp} {σ : L2.St} {env : En}
theorem RPa.mono {F' : Hp} {p : Pa} {v : V} (s : Sub F F') (h : RPa k F σ p v) : RPa k F' σ p v := by
  cases p with
  | hd d => exact Rep.mono s h
  | bo j => exact h
  | mt j => exact h
theorem Sta.prep1 (S : Sta k A F H σ env) {m : Md} {x : Arg} {v : V} {q : Pa × En} (r : RArg k A F H σ env x v) (h : PL.prep1 m x env = some q) : ∃ F', Sub F F' ∧ Sta k A F' H σ q.2 ∧ RPa k F' σ q.1 v := by
  have hl : ∀ {x : Arg}, RArg k A F H σ env x v → (PL.hold x env).map (fun p => ((.hd p.1, p.2) : Pa × En)) = some q → ∃ F', Sub F F' ∧ Sta k A F' H σ q.2 ∧ RPa k F' σ q.1 v := fun {x} r h => by
    cases c : PL.hold x env with
    | none => rw [c] at h; cases h
    | some p =>
      rw [c] at h; cases h
      obtain ⟨F', a, b, d⟩ := S.hold r (d := p.1) (env' := p.2) c
      exact ⟨F', a, b, d⟩
  unfold PL.prep1 at h
  split at h
  · cases h; exact ⟨F, .refl F, S, r⟩
  · cases h
  · split at h
    · cases h; exact ⟨F, .refl F, S, r⟩
    · exact hl r h
  · exact hl r h
end
theorem Sta.prep {k : Kn} {A : Amb} {H : Hp} {σ : L2.St} : ∀ {ms : List Md} {F : Hp} {env env0 : En} {xs : List Arg} {vs : List V} {q : List Pa × En}, Sta k A F H σ env → RArgs k A F H σ env0 xs vs → PL.prep ms xs env = some q →
    ∃ F', Sub F F' ∧ Sta k A F' H σ q.2 ∧ RPas k F' σ q.1 vs
  | [], F, env, env0, _, _, q, S, .nil, h => by cases h; exact ⟨F, .refl F, S, .nil⟩
  | _ :: _, F, env, env0, _, _, q, S, .nil, h => by cases h
  | [], F, env, env0, _, _, q, S, .cons _ _, h => by cases h
  | m :: ms, F, env, env0, _, _, q, S, .cons (x := x) (v := v) (xs := xs) r t, h => by
    simp only [PL.prep] at h
    split at h
    · rename_i p e1
      split at h
      · rename_i q' e2
        cases h
        have r' : RArg k A F H σ env (PL.settle x) v := by cases x <;> exact r
        obtain ⟨F1, a1, S1, r1⟩ := S.prep1 r' e1
        obtain ⟨F2, a2, S2, r2⟩ := Sta.prep (env0 := env0) S1 (t.keep (env' := env0) a1) e2
        exact ⟨F2, a1.trans a2, S2, .cons (r1.mono a2) r2⟩
      · cases h
    · cases h
/-- what is read does not lean on lists, dicts -/
def Thin (F F' : Hp) (B : Addr → Prop) : Prop := ∀ a, ¬ B a → F' a = F a
mutual
theorem Rep.thin {k : Kn} {F F' : Hp} (h1 : ∀ a vs, F a = some (.tup vs) → F' a = some (.tup vs)) (h2 : ∀ a o u, F a = some (.frz o u) → F' a = some (.frz o u)) (h3 : ∀ a C dx fs, F a = some (.ins C dx fs) → F' a = some (.ins C dx fs)) :
    ∀ {d : D} {v : V}, Rep k F d v → noL d = true → Rep k F' d v
  | _, _, .non, _ => .non
  | _, _, .bl b, _ => .bl b
  | _, _, .int i, _ => .int i
  | _, _, .str s, _ => .str s
  | _, _, .tup h r, e => .tup (h.imp (fun h => h.imp (h1 _ _) fun ⟨o, z⟩ => ⟨o, h2 _ _ _ z⟩) id) (Reps.thin h1 h2 h3 r (by simpa [noL] using e))
  | _, _, .lst _ _, e => by simp [noL] at e
  | _, _, .dct _ _, e => by simp [noL] at e
  | _, _, .dctT _ _, e => by simp [noL] at e
  | _, _, .inst c h r, e => .inst c (h3 _ _ _ _ h) (Reps.thin h1 h2 h3 r (by simpa [noL] using e))
  | _, _, .fn h, _ => .fn h
  | _, _, .scr h, e => by simp [noL] at e
theorem Reps.thin {k : Kn} {F F' : Hp} (h1 : ∀ a vs, F a = some (.tup vs) → F' a = some (.tup vs)) (h2 : ∀ a o u, F a = some (.frz o u) → F' a = some (.frz o u)) (h3 : ∀ a C dx fs, F a = some (.ins C dx fs) → F' a = some (.ins C dx fs)) :
    ∀ {ds : List D} {vs : List V}, Reps k F ds vs → noL.noLs ds = true → Reps k F' ds vs
  | _, _, .nil, _ => .nil
  | _, _, .cons h t, e => by
    simp only [noL.noLs, Bool.and_eq_true] at e
    exact .cons (Rep.thin h1 h2 h3 h e.1) (Reps.thin h1 h2 h3 t e.2)
end

theorem RPas.at {k : Kn} {F : Hp} {σ : L2.St} : ∀ {ps : List Pa} {vs : List V} {i : Nat} {p : Pa}, RPas k F σ ps vs → ps[i]? = some p → ∃ v, vs[i]? = some v ∧ RPa k F σ p v
  | _, _, _, _, .nil, e => by simp at e
  | _, _, 0, _, .cons r _, e => by simp at e; subst e; exact ⟨_, rfl, r⟩
  | _, _, i + 1, _, .cons _ t, e => by
    obtain ⟨v, h1, h2⟩ := RPas.at (i := i) t (by simpa using e)
    exact ⟨v, by simpa using h1, h2⟩
theorem RPas.len {k : Kn} {F : Hp} {σ : L2.St} : ∀ {ps : List Pa} {vs : List V}, RPas k F σ ps vs → vs.length = ps.length
  | _, _, .nil => rfl
  | _, _, .cons _ t => by rw [List.length_cons, List.length_cons, RPas.len t]
theorem slsOf_at {e : En} : ∀ {ps : List Pa} {as : List Sl}, slsOf e ps = some as → as.length = ps.length ∧ ∀ (i : Nat) (a : Sl), as[i]? = some a → ∃ p : Pa, ps[i]? = some p ∧ p.sl e = some a
  | [], as, h => by cases h; exact ⟨rfl, fun i a e => by simp at e⟩
  | p :: ps, as, h => by
    simp only [slsOf] at h
    split at h
    · rename_i s r e1 e2
      cases h
      obtain ⟨hl, hi⟩ := slsOf_at e2
      refine ⟨by rw [List.length_cons, List.length_cons, hl], fun i a e => ?_⟩
      cases i with
      | zero => simp at e; subst e; exact ⟨p, rfl, e1⟩
      | succ i =>
        obtain ⟨q, a1, a2⟩ := hi i a (by simpa using e)
        exact ⟨q, by simpa using a1, a2⟩
    · cases h
theorem muts_at : ∀ {as : List Sl} {e : En} {i : Nat} {o : O}, (muts as e)[i]? = some (some o) → e[i]? = some (some (.mu o)) ∧ ∃ o', as[i]? = some (.mu o')
  | [], e, i, o, h => by simp [muts] at h
  | a :: as, [], i, o, h => by cases a <;> simp [muts] at h
  | a :: as, x :: e, 0, o, h => by
    cases a with
    | mu o' =>
      cases x with
      | none => simp [muts] at h
      | some sl => cases sl with
        | mu u => simp [muts] at h; subst h; exact ⟨rfl, o', rfl⟩
        | fz _ => simp [muts] at h
        | ow _ => simp [muts] at h
    | fz _ => simp [muts] at h
    | ow _ => simp [muts] at h
  | a :: as, x :: e, i + 1, o, h => by
    have : (muts as e)[i]? = some (some o) := by
      cases a <;> (try cases x) <;> (try (rename_i sl; cases sl)) <;> simpa [muts] using h
    obtain ⟨h1, o', h2⟩ := muts_at this
    exact ⟨by simpa using h1, o', by simpa using h2⟩
/-- what the outs do to the frame -/
theorem setO_len (e : En) (j : Nat) (o : O) : (setO e j o).length = e.length := by
  unfold setO; split <;> first | rw [List.length_set] | rfl
theorem setO_ne {e : En} {i j : Nat} {o : O} (h : i ≠ j) : (setO e j o)[i]? = e[i]? := by
  unfold setO; split <;> first | rw [get_set_ne h] | rfl
theorem setO_eq {e : En} {j : Nat} {o u : O} (h : OwnAt e j u) : OwnAt (setO e j o) j o ∧ ∀ w, (setO e j o)[j]? = some (some (.mu w)) → ∃ w', e[j]? = some (some (.mu w')) := by
  rcases h with h | h
  · simp only [setO, h]
    exact ⟨.inl (get_set_eq h), fun w z => by rw [get_set_eq h] at z; cases z⟩
  · simp only [setO, h]
    exact ⟨.inr (get_set_eq h), fun w z => ⟨u, rfl⟩⟩
theorem applyO_at : ∀ {ps : List Pa} {os : List (Option O)} {e e' : En}, applyO ps os e = some e' → (mslots ps).Nodup → (∀ j ∈ mslots ps, ∃ u, OwnAt e j u) →
    e'.length = e.length ∧ (∀ i, i ∉ mslots ps → e'[i]? = e[i]?) ∧ ∀ (n j : Nat), ps[n]? = some (Pa.mt j) → ∃ o, os[n]? = some (some o) ∧ OwnAt e' j o ∧ ∀ w, e'[j]? = some (some (.mu w)) → ∃ w', e[j]? = some (some (.mu w'))
  | [], os, e, e', h, _, _ => by
    cases os with
    | nil => cases h; exact ⟨rfl, fun _ _ => rfl, fun n j z => by simp at z⟩
    | cons _ _ => simp [applyO] at h
  | p :: ps, [], e, e', h, _, _ => by cases p <;> simp [applyO] at h
  | .hd d :: ps, o :: os, e, e', h, nd, ow => by
    cases o with
    | some _ => simp [applyO] at h
    | none =>
      simp only [applyO] at h
      obtain ⟨a, b, c⟩ := applyO_at h nd ow
      refine ⟨a, b, fun n j z => ?_⟩
      cases n with
      | zero => simp at z
      | succ n => simpa using c n j (by simpa using z)
  | .bo x :: ps, o :: os, e, e', h, nd, ow => by
    cases o with
    | some _ => simp [applyO] at h
    | none =>
      simp only [applyO] at h
      obtain ⟨a, b, c⟩ := applyO_at h nd ow
      refine ⟨a, b, fun n j z => ?_⟩
      cases n with
      | zero => simp at z
      | succ n => simpa using c n j (by simpa using z)
  | .mt x :: ps, o :: os, e, e', h, nd, ow => by
    cases o with
    | none => simp [applyO] at h
    | some o =>
      simp only [applyO] at h
      have nd' : x ∉ mslots ps ∧ (mslots ps).Nodup := List.nodup_cons.mp nd
      obtain ⟨u, hu⟩ := ow x List.mem_cons_self
      have so := setO_eq (o := o) hu
      obtain ⟨a, b, c⟩ := applyO_at h nd'.2 fun j hj => by
        have ne : j ≠ x := fun z => nd'.1 (z ▸ hj)
        obtain ⟨w, hw⟩ := ow j (List.mem_cons_of_mem _ hj)
        refine ⟨w, ?_⟩
        unfold OwnAt
        rw [setO_ne ne]; exact hw
      refine ⟨by rw [a, setO_len], fun i hi => ?_, fun n j z => ?_⟩
      · have : i ≠ x ∧ i ∉ mslots ps := ⟨fun z => hi (z ▸ List.mem_cons_self), fun z => hi (List.mem_cons_of_mem _ z)⟩
        rw [b i this.2, setO_ne this.1]
      · cases n with
        | zero =>
          simp at z; subst z
          refine ⟨o, rfl, ?_, fun w hw => so.2 w (by rw [← b x nd'.1]; exact hw)⟩
          unfold OwnAt
          rw [b x nd'.1]; exact so.1
        | succ n =>
          obtain ⟨o', h1, h2, h3⟩ := c n j (by simpa using z)
          have hj : j ∈ mslots ps := by
            have : ∀ {ps : List Pa} {n : Nat}, ps[n]? = some (.mt j) → j ∈ mslots ps := by
              intro ps
              induction ps with
              | nil => intro n z; simp at z
              | cons p ps ih =>
                intro n z
                cases n with
                | zero => simp at z; subst z; exact List.mem_cons_self
                | succ n =>
                  have := ih (n := n) (by simpa using z)
                  cases p <;> first | exact this | exact List.mem_cons_of_mem _ this
            exact this (n := n) (by simpa using z)
          have ne : j ≠ x := fun q => nd'.1 (q ▸ hj)
          exact ⟨o', by simpa using h1, h2, fun w hw => by
            obtain ⟨w', q⟩ := h3 w hw
            exact ⟨w', by rw [← setO_ne ne]; exact q⟩⟩
theorem mem_mslots {j : Nat} : ∀ {ps : List Pa} {n : Nat}, ps[n]? = some (.mt j) → j ∈ mslots ps
  | [], n, z => by simp at z
  | p :: ps, 0, z => by simp at z; subst z; exact List.mem_cons_self
  | p :: ps, n + 1, z => by
    have := mem_mslots (ps := ps) (n := n) (by simpa using z)
    cases p <;> first | exact this | exact List.mem_cons_of_mem _ this
theorem of_mslots {j : Nat} : ∀ {ps : List Pa}, j ∈ mslots ps → ∃ n : Nat, ps[n]? = some (Pa.mt j)
  | p :: ps, h => by
    cases p with
    | mt x =>
      rcases List.mem_cons.mp h with rfl | h
      · exact ⟨0, rfl⟩
      · obtain ⟨n, e⟩ := of_mslots h; exact ⟨n + 1, by simpa using e⟩
    | hd d => obtain ⟨n, e⟩ := of_mslots (ps := ps) h; exact ⟨n + 1, by simpa using e⟩
    | bo x => obtain ⟨n, e⟩ := of_mslots (ps := ps) h; exact ⟨n + 1, by simpa using e⟩
theorem mem_bslots {j : Nat} : ∀ {ps : List Pa} {n : Nat}, ps[n]? = some (.bo j) → j ∈ bslots ps
  | [], n, z => by simp at z
  | p :: ps, 0, z => by simp at z; subst z; exact List.mem_cons_self
  | p :: ps, n + 1, z => by
    have := mem_bslots (ps := ps) (n := n) (by simpa using z)
    cases p <;> first | exact this | exact List.mem_cons_of_mem _ this
theorem mslots_inj {j : Nat} : ∀ {ps : List Pa} {n m : Nat}, (mslots ps).Nodup → ps[n]? = some (.mt j) → ps[m]? = some (.mt j) → n = m
  | [], n, m, _, z, _ => by simp at z
  | p :: ps, n, m, nd, z, z' => by
    have tl : (mslots ps).Nodup := by cases p <;> first | exact nd | exact (List.nodup_cons.mp nd).2
    cases n with
    | zero =>
      cases m with
      | zero => rfl
      | succ m =>
        simp at z; subst z
        exact absurd (mem_mslots (n := m) (by simpa using z')) (List.nodup_cons.mp nd).1
    | succ n =>
      cases m with
      | zero =>
        simp at z'; subst z'
        exact absurd (mem_mslots (n := n) (by simpa using z)) (List.nodup_cons.mp nd).1
      | succ m => exact congrArg (· + 1) (mslots_inj (n := n) (m := m) tl (by simpa using z) (by simpa using z'))
open Classical in
/-- THE CALL: the caller's frame behind it -/
theorem call_sound {k : Kn} {A : Amb} {F H : Hp} {σ : L2.St} {e e' : En} {ps : List Pa} {vs : List V} {as : List Sl} {f : FFn} {r : Sl} {os : List (Option O)} {x : Arg} {Q : VK} {E : XK} {n : Nat}
    (S : Sta k A F H σ e) (rp : RPas k F σ ps vs) (hsl : slsOf e ps = some as) (hok : okPa ps = true) (hf : f as = .ok r os) (hcl : clean ps e r os = true) (hx : toArg r = some x) (ha : applyO ps os e = some e') (hn : ps.length = n)
    (q : ∀ F' H' v, Sub F F' → Sta k A F' H' σ e' → RArg k A F' H' σ e' x v → Q v H') : Prom k n f vs H Q E := by
  have hnd : (mslots ps).Nodup := by
    have := (Bool.and_eq_true_iff.mp hok).1
    exact of_decide_eq_true this
  have hbm : ∀ j ∈ bslots ps, j ∉ mslots ps := fun j hj hm => by
    have := List.all_eq_true.mp (Bool.and_eq_true_iff.mp hok).2 j hj
    simp [List.contains_iff_mem] at this
    exact this hm
  obtain ⟨hal, hat⟩ := slsOf_at hsl
  -- addresses of the slots that are handed over
  have mtA : ∀ (i j : Nat), ps[i]? = some (Pa.mt j) → ∃ p u o, vs[i]? = some (.ref p) ∧ σ[j]? = some (some (V.ref p)) ∧ OwnAt e j o ∧ as[i]? = some (.mu o) ∧ H p = some u ∧ RepO k F o u ∧ F p = none ∧ A.Kp p = none := fun i j hi => by
    obtain ⟨v, e1, rv⟩ := rp.at hi
    have rv' : σ[j]? = some (some v) := rv
    have hi' : i < as.length := by rw [hal]; exact (List.getElem?_eq_some_iff.mp hi).1
    obtain ⟨p2, e2, e3⟩ := hat i _ (List.getElem?_eq_getElem hi')
    rw [hi] at e2; cases e2
    simp only [Pa.sl] at e3
    cases c : slotO e j with
    | none => rw [c] at e3; cases e3
    | some o =>
      rw [c] at e3
      obtain ⟨p, u, e4, hp, ro, hF, hK⟩ := S.at (slotO_own c)
      rw [e4] at rv'; cases rv'
      have e3' : some (Sl.mu o) = some as[i] := e3
      exact ⟨p, u, o, e1, e4, slotO_own c, by rw [List.getElem?_eq_getElem hi', ← e3'], hp, ro, hF, hK⟩
  have boA : ∀ (i j : Nat), ps[i]? = some (Pa.bo j) → ∃ p u o, vs[i]? = some (.ref p) ∧ σ[j]? = some (some (V.ref p)) ∧ OwnAt e j o ∧ as[i]? = some (.fz o.toD) ∧ H p = some u ∧ RepO k F o u ∧ F p = none ∧ A.Kp p = none := fun i j hi => by
    obtain ⟨v, e1, rv⟩ := rp.at hi
    have rv' : σ[j]? = some (some v) := rv
    have hi' : i < as.length := by rw [hal]; exact (List.getElem?_eq_some_iff.mp hi).1
    obtain ⟨p2, e2, e3⟩ := hat i _ (List.getElem?_eq_getElem hi')
    rw [hi] at e2; cases e2
    simp only [Pa.sl] at e3
    cases c : slotO e j with
    | none => rw [c] at e3; cases e3
    | some o =>
      rw [c] at e3
      obtain ⟨p, u, e4, hp, ro, hF, hK⟩ := S.at (slotO_own c)
      rw [e4] at rv'; cases rv'
      have e3' : some (Sl.fz o.toD) = some as[i] := e3
      exact ⟨p, u, o, e1, e4, slotO_own c, by rw [List.getElem?_eq_getElem hi', ← e3'], hp, ro, hF, hK⟩
  let B : Addr → Prop := fun a => ∃ i j : Nat, ps[i]? = some (Pa.bo j) ∧ σ[j]? = some (some (V.ref a))
  let M : Addr → Prop := fun a => ∃ i j : Nat, ps[i]? = some (Pa.mt j) ∧ σ[j]? = some (some (V.ref a))
  have BM : ∀ a, B a → ¬ M a := fun a ⟨i, j, h1, h2⟩ ⟨i', j', h3, h4⟩ => by
    obtain ⟨_, _, o1, _, _, w1, _⟩ := boA i j h1
    obtain ⟨_, _, o2, _, _, w2, _⟩ := mtA i' j' h3
    have := S.dis j j' _ _ a w1 w2 h2 h4
    subst this
    exact hbm j (mem_bslots h1) (mem_mslots h3)
  have ownB : ∀ a, B a → F a = none ∧ A.Kp a = none := fun a ⟨i, j, h1, h2⟩ => by
    obtain ⟨_, _, o, _, _, w1, _⟩ := boA i j h1
    exact S.own j o a w1 h2
  have ownM : ∀ a, M a → F a = none ∧ A.Kp a = none := fun a ⟨i, j, h1, h2⟩ => by
    obtain ⟨_, _, o, _, _, w1, _⟩ := mtA i j h1
    exact S.own j o a w1 h2
  let F2 : Hp := fun a => if B a then H a else F a
  let K2 : Hp := fun a => if M a then none else H a
  have F2B : ∀ {a}, B a → F2 a = H a := fun {a} h => if_pos h
  have F2N : ∀ {a}, ¬ B a → F2 a = F a := fun {a} h => if_neg h
  have K2M : ∀ {a}, M a → K2 a = none := fun {a} h => if_pos h
  have K2N : ∀ {a}, ¬ M a → K2 a = H a := fun {a} h => if_neg h
  have sF2 : Sub F F2 := fun a o h => by
    have : ¬ B a := fun z => by rw [(ownB a z).1] at h; cases h
    rw [F2N this]; exact h
  have F2H : Sub F2 H := fun a o h => by
    by_cases z : B a
    · rw [F2B z] at h; exact h
    · rw [F2N z] at h; exact S.sub a o h
  have asmu : ∀ (i : Nat) (o : O), (as.map some)[i]? = some (some (.mu o)) → ∃ j : Nat, ps[i]? = some (Pa.mt j) := fun i o h => by
    rw [List.getElem?_map] at h
    cases c : as[i]? with
    | none => rw [c] at h; cases h
    | some a =>
      rw [c] at h
      have h' : a = .mu o := by simpa using h
      subst h'
      obtain ⟨p, e1, e2⟩ := hat i _ c
      cases p with
      | hd d => cases e2
      | bo j => simp only [Pa.sl] at e2; cases c2 : slotO e j <;> rw [c2] at e2 <;> cases e2
      | mt j => exact ⟨j, e1⟩
  have asno : ∀ a ∈ as, ∀ o, a ≠ .ow o := fun a ha o h => by
    subst h
    obtain ⟨i, hi⟩ := List.getElem?_of_mem ha
    obtain ⟨p, e1, e2⟩ := hat i _ hi
    cases p with
    | hd d => cases e2
    | bo j => simp only [Pa.sl] at e2; cases c2 : slotO e j <;> rw [c2] at e2 <;> cases e2
    | mt j => simp only [Pa.sl] at e2; cases c2 : slotO e j <;> rw [c2] at e2 <;> cases e2
  have vget : ∀ {i : Nat} {v : V}, (vs.map some)[i]? = some (some v) → vs[i]? = some v := fun {i v} h => by
    rw [List.getElem?_map] at h
    cases c : vs[i]? with
    | none => rw [c] at h; cases h
    | some a => rw [c] at h; simpa using h
  have ownAs : ∀ (i : Nat) (o : O) (p : Addr), OwnAt (as.map some) i o → (vs.map some)[i]? = some (some (V.ref p)) → ∃ j : Nat, ps[i]? = some (Pa.mt j) ∧ σ[j]? = some (some (V.ref p)) := fun i o p h1 h2 => by
    have hmu : (as.map some)[i]? = some (some (.mu o)) := by
      rcases h1 with h1 | h1
      · rw [List.getElem?_map] at h1
        cases c : as[i]? with
        | none => rw [c] at h1; cases h1
        | some a =>
          rw [c] at h1
          have h' : a = .ow o := by simpa using h1
          exact absurd h' (asno a (List.mem_of_getElem? c) o)
      · exact h1
    obtain ⟨j, hj⟩ := asmu i o hmu
    obtain ⟨p', _, _, e1, e2, _⟩ := mtA i j hj
    have := vget h2
    rw [e1] at this; cases this
    exact ⟨j, hj, e2⟩
  have S2 : Sta k (cAmb K2 F2 vs) F2 H (vs.map some) (as.map some) := by
    refine ⟨F2H, fun a o h => ?_, .refl _, fun a o h => .inl h, fun i sl h => ?_, fun i o p h1 h2 => ?_, fun i i' o u p h1 h2 h3 h4 => ?_, by rw [List.length_map, List.length_map, rp.len, hal], fun i o h => ?_⟩
    · have h' : K2 a = some o := h
      by_cases z : M a
      · rw [K2M z] at h'; cases h'
      · rw [K2N z] at h'; exact h'
    · rw [List.getElem?_map] at h
      cases c : as[i]? with
      | none => rw [c] at h; cases h
      | some a =>
        rw [c] at h
        have h' : a = sl := by simpa using h
        subst h'
        obtain ⟨p, e1, e2⟩ := hat i _ c
        cases p with
        | hd d =>
          cases e2
          obtain ⟨v, e3, rv⟩ := rp.at e1
          exact ⟨v, by rw [List.getElem?_map, e3]; rfl, Rep.mono sF2 rv⟩
        | bo j =>
          obtain ⟨p, u, o, e3, e4, w, e5, hp, ro, _⟩ := boA i j e1
          rw [c] at e5; cases e5
          refine ⟨.ref p, by rw [List.getElem?_map, e3]; rfl, ?_⟩
          exact (ro.mono sF2).rep (by rw [F2B ⟨i, j, e1, e4⟩]; exact hp)
        | mt j =>
          obtain ⟨p, u, o, e3, e4, w, e5, hp, ro, _⟩ := mtA i j e1
          rw [c] at e5; cases e5
          exact ⟨.ref p, by rw [List.getElem?_map, e3]; rfl, p, u, rfl, hp, ro.mono sF2⟩
    · obtain ⟨j, hj, hs⟩ := ownAs i o p h1 h2
      have hm : M p := ⟨i, j, hj, hs⟩
      refine ⟨?_, K2M hm⟩
      rw [F2N fun z => BM p z hm]
      exact (ownM p hm).1
    · obtain ⟨j, hj, hs⟩ := ownAs i o p h1 h3
      obtain ⟨j', hj', hs'⟩ := ownAs i' u p h2 h4
      obtain ⟨_, _, o1, _, _, w1, _⟩ := mtA i j hj
      obtain ⟨_, _, o2, _, _, w2, _⟩ := mtA i' j' hj'
      have := S.dis j j' _ _ p w1 w2 hs hs'
      subst this
      exact mslots_inj hnd hj hj'
    · obtain ⟨j, hj⟩ := asmu i o h
      obtain ⟨p, _, _, e1, _⟩ := mtA i j hj
      rw [List.getElem?_map, e1]
      show some (some (V.ref p)) = some (vs[i]?)
      rw [e1]
  refine ⟨K2, F2, as, S2, by rw [hal, hn], asno, r, os, hf, fun F' H' σ' ec v sF S3 hm rr => ?_⟩
  -- the caller's frozen part behind the call
  let F3 : Hp := fun a => if B a then none else F' a
  have F3B : ∀ {a}, B a → F3 a = none := fun {a} h => if_pos h
  have F3N : ∀ {a}, ¬ B a → F3 a = F' a := fun {a} h => if_neg h
  have F3F : Sub F3 F' := fun a o h => by
    by_cases z : B a
    · rw [F3B z] at h; cases h
    · rw [F3N z] at h; exact h
  have sF3 : Sub F F3 := fun a o h => by
    have nb : ¬ B a := fun z => by rw [(ownB a z).1] at h; cases h
    rw [F3N nb]; exact sF a o (sF2 a o h)
  have keep : ∀ {a o}, H a = some o → ¬ M a → H' a = some o := fun {a o} h nm => S3.kp a o (by show K2 a = some o; rw [K2N nm]; exact h)
  obtain ⟨elen, eout, ein⟩ := applyO_at ha hnd fun j hj => by
    obtain ⟨i, hi⟩ := of_mslots hj
    obtain ⟨_, _, o, _, _, w, _⟩ := mtA i j hi
    exact ⟨o, w⟩
  -- a mutable argument behind the call
  have mtB : ∀ (i j : Nat) (o : O), ps[i]? = some (Pa.mt j) → os[i]? = some (some o) → ∃ p u, σ[j]? = some (some (V.ref p)) ∧ H' p = some u ∧ RepO k F' o u ∧ F' p = none ∧ (∀ w, RRet k (cAmb K2 F2 vs) F' H' σ' ec (.ow w) v → v ≠ .ref p) := fun i j o h1 h2 => by
    rw [← hm] at h2
    obtain ⟨e1, o', e2⟩ := muts_at h2
    obtain ⟨p, _, _, e3, e4, _⟩ := mtA i j h1
    obtain ⟨p', u', e5, hp, ro, hF, hK⟩ := S3.at (.inr e1)
    have := S3.mus i o e1
    rw [e5] at this
    have t2 : some (some (V.ref p')) = some (vs[i]?) := this
    rw [e3] at t2; cases t2
    refine ⟨p, u', e4, hp, ro, hF, fun w hw hv => ?_⟩
    subst hv
    obtain ⟨p2, u2, e6, _, _, _, _, hs⟩ := hw
    cases e6
    exact hs i o (.inr e1) e5
  have nMF : ∀ a, M a → F' a = none := fun a ⟨i, j, h1, h2⟩ => by
    obtain ⟨o, h3, _⟩ := ein i j h1
    obtain ⟨p, u, e1, _, _, hF, _⟩ := mtB i j o h1 h3
    rw [h2] at e1; cases e1
    exact hF
  have newF : ∀ {a o}, F' a = some o → ¬ B a → F a = some o ∨ H a = none := fun {a o} h nb => by
    rcases S3.frz a o h with z | z
    · have z' : F2 a = some o := z
      rw [F2N nb] at z'; exact .inl z'
    · have z' : K2 a = none := z
      by_cases m : M a
      · rw [nMF a m] at h; cases h
      · rw [K2N m] at z'; exact .inr z'
  -- what is read through F' without lists is read through F3
  have thinAll : clean ps e r os = true → (∀ a, ¬ B a) ∨ ((∀ a, B a → ∃ u, F' a = some u ∧ ((∃ xs, u = .lst xs) ∨ (∃ kvs, u = .dK kvs) ∨ ∃ kvs, u = .dT kvs)) ∧ noLS r = true ∧ ∀ (i : Nat) (o : O), os[i]? = some (some o) → noLO o = true) := fun hc => by
    rcases (Bool.or_eq_true_iff.mp hc) with h | h
    · refine .inl fun a ⟨i, j, h1, _⟩ => ?_
      have := mem_bslots h1
      rw [List.isEmpty_iff.mp h] at this
      cases this
    · obtain ⟨h12, h3⟩ := Bool.and_eq_true_iff.mp h
      obtain ⟨h1, h2⟩ := Bool.and_eq_true_iff.mp h12
      refine .inr ⟨fun a ⟨i, j, e1, e2⟩ => ?_, h2, fun i o hi => ?_⟩
      · have := List.all_eq_true.mp h1 j (mem_bslots e1)
        obtain ⟨p, u, o, e3, e4, w, e5, hp, ro, _⟩ := boA i j e1
        rw [own_slotO w] at this
        rw [e2] at e4; cases e4
        refine ⟨u, sF a u (by rw [F2B ⟨i, j, e1, e2⟩]; exact hp), ?_⟩
        cases ro with
        | lst _ => exact .inl ⟨_, rfl⟩
        | dct _ => exact .inr (.inl ⟨_, rfl⟩)
        | dctT _ => exact .inr (.inr ⟨_, rfl⟩)
        | inst _ _ => cases this
      · exact List.all_eq_true.mp h3 (some o) (List.mem_of_getElem? hi)
  have tE : (∀ a, ¬ B a) → F3 = F' := fun h => funext fun a => F3N (h a)
  have t1 : (∀ a, B a → ∃ u, F' a = some u ∧ ((∃ xs, u = .lst xs) ∨ (∃ kvs, u = .dK kvs) ∨ ∃ kvs, u = .dT kvs)) → ∀ a u, F' a = some u → (∀ xs, u ≠ .lst xs) → (∀ xs, u ≠ .dK xs) → (∀ xs, u ≠ .dT xs) → F3 a = some u := fun h a u hu n1 n2 n3 => by
    have nb : ¬ B a := fun z => by
      obtain ⟨u', e1, e2⟩ := h a z
      rw [hu] at e1; cases e1
      rcases e2 with ⟨_, rfl⟩ | ⟨_, rfl⟩ | ⟨_, rfl⟩
      · exact n1 _ rfl
      · exact n2 _ rfl
      · exact n3 _ rfl
    rw [F3N nb]; exact hu
  have repT : ∀ {d w}, Rep k F' d w → (noLS r = true → noL d = true) → Rep k F3 d w := fun {d w} h hd => by
    rcases thinAll hcl with z | ⟨z1, z2, _⟩
    · rw [tE z]; exact h
    · exact h.thin (fun a vs e => t1 z1 a _ e (fun _ q => by cases q) (fun _ q => by cases q) (fun _ q => by cases q)) (fun a o u e => t1 z1 a _ e (fun _ q => by cases q) (fun _ q => by cases q) (fun _ q => by cases q)) (fun a C dx fs e => t1 z1 a _ e (fun _ q => by cases q) (fun _ q => by cases q) (fun _ q => by cases q)) (hd z2)
  have repOT : ∀ {o u}, RepO k F' o u → ((∀ a, ¬ B a) ∨ noLO o = true) → RepO k F3 o u := fun {o u} h hd => by
    rcases thinAll hcl with z | ⟨z1, _, _⟩
    · rw [tE z]; exact h
    · rcases hd with z | hd
      · rw [tE z]; exact h
      · have go : ∀ {ds ws}, Reps k F' ds ws → noL.noLs ds = true → Reps k F3 ds ws := fun {ds ws} h hd => h.thin (fun a vs e => t1 z1 a _ e (fun _ q => by cases q) (fun _ q => by cases q) (fun _ q => by cases q)) (fun a o u e => t1 z1 a _ e (fun _ q => by cases q) (fun _ q => by cases q) (fun _ q => by cases q)) (fun a C dx fs e => t1 z1 a _ e (fun _ q => by cases q) (fun _ q => by cases q) (fun _ q => by cases q)) hd
        cases h with
        | lst r => exact .lst (go r hd)
        | dct r => exact .dct (go r hd)
        | dctT r => cases hd
        | inst c r => exact .inst c (go r hd)
  have kindE : ∀ (i : Nat) (sl : Sl), e'[i]? = some (some sl) → (i ∉ mslots ps ∧ e[i]? = some (some sl)) ∨ ∃ (m : Nat) (o : O), ps[m]? = some (Pa.mt i) ∧ os[m]? = some (some o) ∧ OwnAt e' i o := fun i sl h => by
    by_cases z : i ∈ mslots ps
    · obtain ⟨m, hm'⟩ := of_mslots z
      obtain ⟨o, h1, h2, _⟩ := ein m i hm'
      exact .inr ⟨m, o, hm', h1, h2⟩
    · exact .inl ⟨z, by rw [← eout i z]; exact h⟩
  have ownE : ∀ (i : Nat) (o : O), OwnAt e' i o → ∃ o', OwnAt e i o' := fun i o h => by
    by_cases z : i ∈ mslots ps
    · obtain ⟨m, hm'⟩ := of_mslots z
      obtain ⟨_, _, o1, _, _, w, _⟩ := mtA m i hm'
      exact ⟨o1, w⟩
    · exact ⟨o, by unfold OwnAt at h ⊢; rwa [eout i z] at h⟩
  have nMown : ∀ (i : Nat) (o : O) (p : Addr), i ∉ mslots ps → OwnAt e i o → σ[i]? = some (some (V.ref p)) → ¬ M p := fun i o p z w hp ⟨m, j, h1, h2⟩ => by
    obtain ⟨_, _, o1, _, _, w1, _⟩ := mtA m j h1
    have := S.dis i j _ _ p w w1 hp h2
    subst this
    exact z (mem_mslots h1)
  have S4 : Sta k A F3 H' σ e' := by
    refine ⟨F3F.trans S3.sub, fun a o h => ?_, S.f0.trans sF3, fun a o h => ?_, fun i sl h => ?_, fun i o p h1 h2 => ?_, fun i j o u p h1 h2 h3 h4 => ?_, by rw [elen]; exact S.len, fun i o h => ?_⟩
    · refine keep (S.kp a o h) fun m => ?_
      rw [(ownM a m).2] at h; cases h
    · by_cases nb : B a
      · rw [F3B nb] at h; cases h
      · rw [F3N nb] at h
        rcases newF h nb with z | z
        · exact S.frz a o z
        · exact .inr (S.kp.free z)
    · rcases kindE i sl h with ⟨nm, h'⟩ | ⟨m, o, h1, h2, h3⟩
      · obtain ⟨w, e1, rr'⟩ := S.rel i sl h'
        refine ⟨w, e1, ?_⟩
        cases sl with
        | fz d => exact Rep.mono sF3 rr'
        | ow o =>
          obtain ⟨p, u, rfl, hp, ro⟩ := rr'
          exact ⟨p, u, rfl, keep hp (nMown i o p nm (.inl h') e1), ro.mono sF3⟩
        | mu o =>
          obtain ⟨p, u, rfl, hp, ro⟩ := rr'
          exact ⟨p, u, rfl, keep hp (nMown i o p nm (.inr h') e1), ro.mono sF3⟩
      · obtain ⟨p, u, e1, hp, ro, _⟩ := mtB m i o h1 h2
        have ro' : RepO k F3 o u := repOT ro (by
          rcases thinAll hcl with z | ⟨_, _, z⟩
          · exact .inl z
          · exact .inr (z m o h2))
        refine ⟨.ref p, e1, ?_⟩
        rcases h3 with h3 | h3
        · rw [h] at h3; cases h3; exact ⟨p, u, rfl, hp, ro'⟩
        · rw [h] at h3; cases h3; exact ⟨p, u, rfl, hp, ro'⟩
    · obtain ⟨o', w⟩ := ownE i o h1
      obtain ⟨a, b⟩ := S.own i o' p w h2
      refine ⟨?_, b⟩
      by_cases nb : B p
      · exact F3B nb
      · rw [F3N nb]
        cases c : F' p with
        | none => rfl
        | some y =>
          rcases newF c nb with z | z
          · rw [a] at z; cases z
          · obtain ⟨_, _, e1, hp, _⟩ := S.at w
            rw [h2] at e1; cases e1
            rw [z] at hp; cases hp
    · obtain ⟨o', w⟩ := ownE i o h1
      obtain ⟨u', w'⟩ := ownE j u h2
      exact S.dis i j _ _ p w w' h3 h4
    · by_cases z : i ∈ mslots ps
      · obtain ⟨m, hm'⟩ := of_mslots z
        obtain ⟨o1, h1, h2, h3⟩ := ein m i hm'
        obtain ⟨w', q'⟩ := h3 o h
        exact S.mus i w' q'
      · exact S.mus i o (by rw [← eout i z]; exact h)
  refine q F3 H' v sF3 S4 ?_
  cases r with
  | fz d =>
    cases hx
    exact repT rr fun z => z
  | mu o => cases hx
  | ow o =>
    cases hx
    obtain ⟨p, u, rfl, hp, ro, hF, hK, hs⟩ := rr
    have hK' : K2 p = none := hK
    have nM : ¬ M p := fun m => by
      obtain ⟨i, j, h1, h2⟩ := m
      obtain ⟨o1, h3, _⟩ := ein i j h1
      obtain ⟨p', u', e1, _, _, _, hv⟩ := mtB i j o1 h1 h3
      rw [h2] at e1; cases e1
      exact hv o ⟨p, u, rfl, hp, ro, hF, hK, hs⟩ rfl
    have nH : H p = none := by rw [← K2N nM]; exact hK'
    have nB : ¬ B p := fun ⟨i, j, h1, h2⟩ => by
      obtain ⟨p', u', o1, _, e4, _, _, hp', _⟩ := boA i j h1
      rw [h2] at e4; cases e4
      rw [nH] at hp'; cases hp'
    refine ⟨p, u, rfl, hp, repOT ro ?_, by rw [F3N nB]; exact hF, S.kp.free nH, fun j w h1 h2 => ?_⟩
    · rcases thinAll hcl with z | ⟨_, z, _⟩
      · exact .inl z
      · exact .inr z
    · obtain ⟨o', w'⟩ := ownE j w h1
      obtain ⟨_, _, e1, hp', _⟩ := S.at w'
      rw [h2] at e1; cases e1
      rw [nH] at hp'; cases hp'
section
variable {X : Cx} {W : WP} {k : Nat} {f : Addr} {fd : FuncData} {pn : List Str} {x : Str} {p pos : Pos} {e : Expr} {es : List Expr} {fa : FA} {fn : FFn}
theorem callF_ok {ms : List Md} {t : TA} {n : Nat} (hn : ms.length = n) (ra : ∀ (A : Amb) (F H : Hp) (σ : L2.St) (env : En) (Q : List V → Hp → Prop), Sta (kn X) A F H σ env → PostA (kn X) A W F σ (fa env) Q → t σ H Q) :
    ∀ (A : Amb) (F H : Hp) (σ : L2.St) (env : En) (Q : VK), Sta (kn X) A F H σ env → PostE (kn X) A W F σ (callF ms fn fa env) Q → tCall (Prom (kn X) n fn) [] E0 t σ H Q := by
  intro A F H σ env Q S q
  refine ra A F H σ env _ S (q.afA fun p F1 H1 vs s1 S1 r1 q1 => ?_)
  show Prom (kn X) n fn (vs ++ []) H1 Q E0
  rw [List.append_nil]
  cases c : prep ms p.1 p.2 with
  | none => simp only [c] at q1; exact q1.elim
  | some pe =>
    obtain ⟨ps, e1⟩ := pe
    simp only [c] at q1
    obtain ⟨F2, s2, S2, r2⟩ := Sta.prep S1 r1 c
    have hl : ps.length = n := by
      have : ∀ {ms : List Md} {xs : List Arg} {e : En} {q : List Pa × En}, prep ms xs e = some q → q.1.length = ms.length := by
        intro ms
        induction ms with
        | nil => intro xs e q h; cases xs <;> cases h; rfl
        | cons m ms ih =>
          intro xs e q h
          cases xs with
          | nil => cases h
          | cons x xs =>
            simp only [prep] at h
            split at h
            · split at h
              · rename_i e2
                cases h
                rw [List.length_cons, List.length_cons, ih e2]
              · cases h
            · cases h
      rw [this c, hn]
    cases ca : slsOf e1 ps with
    | none => simp only [ca] at q1; exact q1.elim
    | some as =>
      simp only [ca] at q1
      by_cases ho : okPa ps = true
      · rw [if_pos ho] at q1
        cases cf : fn as with
        | ok r os =>
          simp only [cf] at q1
          by_cases hc : clean ps e1 r os = true
          · rw [if_pos hc] at q1
            cases cx : toArg r with
            | none => simp only [cx] at q1; exact q1.elim
            | some xa =>
              cases cp : applyO ps os e1 with
              | none => simp only [cx, cp] at q1; exact q1.elim
              | some e2 =>
                simp only [cx, cp] at q1
                exact call_sound S2 r2 ca ho cf hc cx cp hl fun F' H' v a b c => q1 F' H' v (s2.trans a) b c
          · rw [if_neg hc] at q1; exact q1.elim
        | ex _ _ => simp only [cf] at q1; exact q1.elim
        | no => simp only [cf] at q1; exact q1.elim
      · rw [if_neg ho] at q1; exact q1.elim
theorem ex_call {ms : List Md} {n : Nat} (Fo : FnOk X.prog X.w X.K X.mg X.base CX0 k f fd pn (Prom (kn X) n fn)) (hn : ms.length = n) (hr : Room k X.A) (hg : Gl X x) (hm : X.mg x = some (.ref f)) (hk : PySem.W.keepIn X.K (.ref f) = true) (hb : Binds X.K fd pn []) (ha : AX X W (e :: es) fa)
    (hdb : (x == ("__debug__" : Str)) = false := by decide) (he : starEach (e :: es) X.env = (false, eval e X.env) :: starEach es X.env := by rfl) (hpl : (backTo pos (starEach es X.env)).any (·.1) = false := by rfl) :
    EX X W (.Call (.Name x p) (e :: es) [] pos) (callF ms fn fa) := by
  obtain ⟨t, pa, ra⟩ := ha
  exact ⟨_, pe_call Fo hr hg hm hk hb .nil pass0 pa hdb he hpl, callF_ok hn ra⟩
end
end PL

/-! PL: subscripts, slices, stores, methods of lists, built-ins by name. -/
namespace PL
open PySem PySem.Spec PyProof.Rows L2

/-! ### x[i] -/
def gIx : D → D → Option Arg
  | .lst ds, .int i => (atI ds i).map .val
  | .tup ds, .int i => (atI ds i).map .val
  | .scr is, .int i => (atI is i).map fun n => .val (.int n)
  | .str z, .int i => if z.length ≤ sizeLine then (atI z.cps.toList i).map fun c => .val (.str ⟨#[c]⟩) else none
  | _, _ => none
theorem atI_rep {k : Kn} {F : Hp} {ds : List D} {vs : List V} {i : Int} {d : D} (r : Reps k F ds vs) (h : atI ds i = some d) : ∃ v, atI vs i = some v ∧ Rep k F d v := by
  unfold atI at h ⊢
  rw [r.len]
  cases c : ixN ds.length i with
  | none => rw [c] at h; cases h
  | some j =>
    rw [c] at h
    exact r.get h
theorem bok_ix {k : Kn} : BOk k (rIx k.K) gIx := by
  intro A F H σ env x y a b z Q S va vb e q
  unfold gIx at e
  split at e
  · rename_i ds i
    cases c : atI ds i with
    | none => rw [c] at e; cases e
    | some d =>
      rw [c] at e; cases e
      obtain ⟨p, vs, rfl, hp, r⟩ := va.lst S.sub
      cases vb.int
      obtain ⟨v, e1, rv⟩ := atI_rep r c
      exact .inl ⟨p, vs, i, v, rfl, rfl, SqL.of hp, e1, q F H v (.refl F) S rv⟩
  · rename_i ds i
    cases c : atI ds i with
    | none => rw [c] at e; cases e
    | some d =>
      rw [c] at e; cases e
      obtain ⟨p, vs, rfl, hp, r⟩ := va.tup
      cases vb.int
      obtain ⟨v, e1, rv⟩ := atI_rep r c
      exact .inr (.inl ⟨p, vs, i, v, rfl, rfl, S.sub.t hp, e1, q F H v (.refl F) S rv⟩)
  · rename_i is i
    cases c : atI is i with
    | none => rw [c] at e; cases e
    | some n =>
      rw [c] at e; cases e
      obtain ⟨p, rfl, hp⟩ := va.scr S.sub
      cases vb.int
      refine .inl ⟨p, _, i, .int n, rfl, rfl, hp, ?_, q F H _ (.refl F) S (.int n)⟩
      unfold atI at c ⊢
      rw [List.length_map]
      cases c2 : ixN is.length i with
      | none => rw [c2] at c; cases c
      | some j =>
        rw [c2] at c
        have c' : is[j]? = some n := c
        show (is.map V.int)[j]? = _
        rw [List.getElem?_map, c']; rfl
  · rename_i zz i
    split at e
    · rename_i hz
      cases c : atI zz.cps.toList i with
      | none => rw [c] at e; cases e
      | some d =>
        rw [c] at e; cases e
        cases va.str; cases vb.int
        exact .inr (.inr ⟨zz, i, d, rfl, rfl, hz, c, q F H _ (.refl F) S (.str _)⟩)
    · cases e
  · cases e
section
variable {X : Cx} {W : WP} {a b e : Expr} {es : List Expr} {fa fb f : FE} {pos : Pos}
theorem ex_ix (ha : EX X W a fa) (hb : EX X W b fb) (hs : PlainIx b := by intro _ _; rfl) : EX X W (.Subscript a b pos) (bop gIx fa fb) :=
  let ⟨_, _, pa, pb, h⟩ := bop_ok bok_ix ha hb
  ⟨_, pe_ix ix_seq pa pb hs, h⟩
end

/-! ### x[a:b] -/
abbrev FO := En → Res (Option Int × En)
def PostO (k : Kn) (A : Amb) (W : WP) (F : Hp) (σ : L2.St) (r : Res (Option Int × En)) (Q : Option Int → Hp → Prop) : Prop :=
  match r with
  | .ok p => ∀ F' H', Sub F F' → Sta k A F' H' σ p.2 → Q p.1 H'
  | .ex x e => W.w A F x e
  | .no => False
def OX (X : Cx) (W : WP) (o : Option Expr) (f : FO) : Prop :=
  ∃ t, PO X o t ∧ ∀ (A : Amb) (F H : Hp) (σ : L2.St) (env : En) (Q : Option Int → Hp → Prop), Sta (kn X) A F H σ env → PostO (kn X) A W F σ (f env) Q → t σ H Q
section
variable {k : Kn} {A : Amb} {W : WP} {F F' : Hp} {σ : L2.St}
theorem PostO.mono {r : Res (Option Int × En)} {Q : Option Int → Hp → Prop} (s : Sub F F') (h : PostO k A W F σ r Q) : PostO k A W F' σ r Q := by
  cases r with
  | ok p => exact fun F1 H1 a b => h F1 H1 (s.trans a) b
  | ex x e => exact W.mono s h
  | no => exact h
theorem PostO.afE {r : Res (Arg × En)} {f : Arg × En → Res (Option Int × En)} {Q : Option Int → Hp → Prop} {Q1 : VK} (h : PostO k A W F σ (r.bind f) Q)
    (g : ∀ p F' H' v, Sub F F' → Sta k A F' H' σ p.2 → RArg k A F' H' σ p.2 p.1 v → PostO k A W F' σ (f p) Q → Q1 v H') : PostE k A W F σ r Q1 :=
  PostE.bnd (P := fun F r => PostO k A W F σ r Q) (fun _ _ h => h) (fun h => h) (fun s h => h.mono s) h g
theorem PostE.afO {r : Res (Option Int × En)} {f : Option Int × En → Res (Arg × En)} {Q : VK} {Q1 : Option Int → Hp → Prop} (h : PostE k A W F σ (r.bind f) Q)
    (g : ∀ p F' H', Sub F F' → Sta k A F' H' σ p.2 → PostE k A W F' σ (f p) Q → Q1 p.1 H') : PostO k A W F σ r Q1 := by
  cases r with
  | ok p => exact fun F' H' a b => g p F' H' a b (PostE.mono a h)
  | ex x e => exact h
  | no => exact h
end
def onone : FO := fun env => .ok (none, env)
def osome (f : FE) : FO := fun env => (f env).bind fun p => match cont p.1 p.2 with
  | some (.int i) => .ok (some i, p.2)
  | _ => .no
def cut {α : Type} (xs : List α) (lo hi : Option Int) : List α := (xs.drop (HT.sIx xs.length 0 lo)).take (HT.sIx xs.length xs.length hi - HT.sIx xs.length 0 lo)
theorem Reps.cut {k : Kn} {F : Hp} {ds : List D} {vs : List V} (r : Reps k F ds vs) (lo hi : Option Int) : Reps k F (PL.cut ds lo hi) (cutV vs lo hi) := by
  unfold PL.cut cutV
  rw [r.len]
  exact (r.drop _).take _
def gSl (d : D) (lo hi : Option Int) : Option Arg :=
  match d with
  | .lst ds => some (.new (.lst (cut ds lo hi)))
  | .tup ds => some (.val (.tup (cut ds lo hi)))
  | .str z => if z.length ≤ sizeLine then some (.val (.str (cutS z lo hi))) else none
  | _ => none
def vsl (f : FE) (g h : FO) : FE := fun env => (f env).bind fun p => (g p.2).bind fun q => (h q.2).bind fun r => match (cont (settle p.1) r.2).bind fun d => gSl d q.1 r.1 with
  | some x => .ok (x, r.2)
  | none => .no
section
variable {X : Cx} {W : WP} {a b e : Expr} {es : List Expr} {fa fb f : FE} {pos : Pos}
theorem ox_none : OX X W none onone := ⟨_, po_none, fun A F H σ env Q S q => q F H (.refl _) S⟩
theorem ox_some (h : EX X W e f) : OX X W (some e) (osome f) := by
  obtain ⟨t, p, r⟩ := h
  refine ⟨_, po_some p, fun A F H σ env Q S q => r A F H σ env _ S (q.afE fun p F1 H1 v1 s1 S1 r1 q1 => ?_)⟩
  cases c : cont p.1 p.2 with
  | none => rw [c] at q1; exact q1.elim
  | some d =>
    rw [c] at q1
    have vw := S1.view r1 c
    cases d with
    | int i => cases vw.int; exact ⟨i, rfl, q1 F1 H1 (.refl _) S1⟩
    | _ => exact q1.elim
def rSlAll (K : PySem.W.Frag) : V → Option Int → Option Int → Hp → VK → Prop := fun x lo hi H Q => rSlL K x lo hi H Q ∨ (rSlA K x lo hi H Q ∨ rSlS x lo hi H Q)
theorem sl_ok {k : Kn} {A : Amb} {F H : Hp} {σ : L2.St} {env : En} {d : D} {v : V} {lo hi : Option Int} {x : Arg} {Q : VK} (S : Sta k A F H σ env) (vw : View k F H d v) (h : gSl d lo hi = some x)
    (q : ∀ F' H' v, Sub F F' → Sta k A F' H' σ env → RArg k A F' H' σ env x v → Q v H') : rSlAll k.K v lo hi H Q := by
  unfold gSl at h
  split at h
  · cases h
    obtain ⟨p, vs, rfl, hp, r⟩ := vw.lst S.sub
    exact .inl ⟨p, vs, rfl, SqL.of hp, S.newL (r.cut lo hi) q⟩
  · rename_i ds
    cases h
    obtain ⟨p, vs, rfl, hp, r⟩ := vw.tup
    refine .inr (.inl ⟨p, vs, rfl, S.sub.t hp, fun hw => ?_, fun _ => S.newT (r.cut lo hi) q⟩)
    refine q F H _ (.refl _) S (.tup hp ?_)
    have : cut ds lo hi = ds := by
      unfold cut
      rw [← r.len, hw.1, hw.2, List.drop_zero, Nat.sub_zero, r.len, List.take_length]
    rw [this]; exact r
  · split at h
    · rename_i hz; cases h; cases vw.str; exact .inr (.inr ⟨_, rfl, hz, q F H _ (.refl _) S (.str _)⟩)
    · cases h
  · cases h
theorem ex_slice {lo hi : Option Expr} {p2 : Pos} {g h : FO} (he : EX X W e f) (hl : OX X W lo g) (hh : OX X W hi h) : EX X W (.Subscript e (.Slice lo hi none p2) pos) (vsl f g h) := by
  obtain ⟨t, p, r⟩ := he
  obtain ⟨t1, p1, r1⟩ := hl
  obtain ⟨t2, p2, r2⟩ := hh
  refine ⟨_, pe_slice (SlR.or sl_list (SlR.or sl_tupA sl_str)) p p1 p2, fun A F H σ env Q S q => r A F H σ env _ S (q.afE fun p F1 H1 v1 s1 S1 rr q1 => ?_)⟩
  obtain ⟨F1', s1', S1', rr'⟩ := S1.settle rr
  refine r1 A F1' H1 σ p.2 _ S1' ((q1.mono s1').afO fun p2 F2 H2 s2 S2 q2 => ?_)
  refine r2 A F2 H2 σ p2.2 _ S2 (q2.afO fun p3 F3 H3 s3 S3 q3 => ?_)
  have k1 := rr'.keep (F' := F3) (H' := H3) (env' := p3.2) (s2.trans s3)
  cases c : cont (settle p.1) p3.2 with
  | none => rw [c] at q3; exact q3.elim
  | some d =>
    rw [c] at q3
    simp only [Option.bind_some] at q3
    cases c2 : gSl d p2.1 p3.1 with
    | none => rw [c2] at q3; exact q3.elim
    | some x => rw [c2] at q3; exact sl_ok S3 (S3.view k1 c) c2 fun F' H' v a b c => q3 F' H' v a b c
/-- x[::-1] of a list -/
def gRev : D → Option Arg
  | .lst ds => some (.new (.lst ds.reverse))
  | _ => none
theorem ex_revL {n : Nat} {p1 p2 p3 : Pos} (he : EX X W e f) : EX X W (.Subscript e (.Slice none none (some (.UnaryOp .USub (.Constant (.int 1) n p1) p2)) p3) pos) (uop gRev f) := by
  obtain ⟨t, p, r⟩ := he
  refine ⟨_, pe_revL p, fun A F H σ env Q S q => r A F H σ env _ S (q.afE fun p F1 H1 v1 s1 S1 r1 q1 => ?_)⟩
  cases c : cont p.1 p.2 with
  | none => rw [c] at q1; exact q1.elim
  | some d =>
    rw [c] at q1
    have vw := S1.view r1 c
    cases d with
    | lst ds =>
      obtain ⟨a, vs, rfl, hp, rr⟩ := vw.lst S1.sub
      exact ⟨a, vs, rfl, SqL.of hp, S1.newL rr.reverse q1⟩
    | _ => exact q1.elim

/-! ### x[i] = e, x a slot's list -/
def sset (j : Nat) (f g : FE) : FS := fun env => (f env).go fun p => match hold p.1 p.2 with
  | some d => (match slotO d.2 j with
    | some _ => (g d.2).go fun q => (match cont q.1 q.2, slotO q.2 j with
      | some (.int i), some (.lst ds) => (match ixN ds.length i with
        | some m => .nx (setO q.2 j (.lst (ds.set m d.1)))
        | none => .no)
      | _, _ => .no)
    | none => .no)
  | none => .no
theorem sx_setix (j : Nat) {x : Str} {ie : Expr} {px pt : Pos} {g : FE} (he : EX X W e f) (hi : EX X W ie g) (hN : X.N[j]? = some x := by rfl) (hv : Vis X.env.scope x := by first | exact Or.inl rfl | exact Or.inr (Or.inl rfl) | exact Or.inr (Or.inr rfl))
    (ha : ∀ v, assign (.Subscript (.Name x px) ie pt) X.env v = (do
      let ov ← holding [v] (eval (.Name x px) X.env)
      let iv ← holding [v, ov] (eval ie X.env)
      standAt pt
      holding [v, ov, iv] (setItem ov iv v)
      release [v, ov, iv] []) := by intro _; rfl)
    (hd : (x == ("__debug__" : Str)) = false := by decide) (hcd : (x == ("__classdict__" : Str)) = false := by decide)
    (hs : swapsWithSole [.Subscript (.Name x px) ie pt] e pos.line X.env = pure false := by rfl) (hw : swappedStores [.Subscript (.Name x px) ie pt] e X.env = pure none := by rfl)
    (h1 : (assignEach [.Subscript (.Name x px) ie pt] X.env).map (·.2) = [assign (.Subscript (.Name x px) ie pt) X.env] := by rfl) :
    SX X W (.Assign [.Subscript (.Name x px) ie pt] e pos) (sset j f g) := by
  obtain ⟨t, p, r⟩ := he
  obtain ⟨t', p', r'⟩ := hi
  refine ⟨_, ps_asg p (pg_sub (pe_var hN hv hd hcd) p' set_list ha) hs hw h1, fun A F H σ env D S q => r A F H σ env _ S (q.afE fun p F1 H1 v1 s1 S1 r1 q1 => ?_)⟩
  cases c : hold p.1 p.2 with
  | none => rw [c] at q1; exact q1.elim
  | some d =>
    rw [c] at q1
    obtain ⟨F2, s2, S2, r2⟩ := S1.hold r1 (d := d.1) (env' := d.2) c
    cases c2 : slotO d.2 j with
    | none => simp only [c2] at q1; exact q1.elim
    | some o =>
      simp only [c2] at q1
      obtain ⟨pa, u, e1, hp, ro, hF, hK⟩ := S2.at (slotO_own c2)
      refine ⟨_, e1, r' A F2 H1 σ d.2 _ S2 ((PostS.mono s2 q1).afE fun p2 F3 H3 v3 s3 S3 r3 q3 => ?_)⟩
      split at q3
      · rename_i i ds ci co
        split at q3
        · rename_i m hm
          have vw := S3.view r3 ci
          cases vw.int
          obtain ⟨pb, u3, e3, hp3, ro3, _⟩ := S3.at (slotO_own co)
          rw [e1] at e3; cases e3
          cases ro3 with
          | lst rr =>
            refine ⟨pa, _, i, m, rfl, rfl, hp3, by rw [rr.len]; exact hm, ?_⟩
            exact q3 F3 _ σ (.refl _) (S3.write (slotO_own co) e1 (.lst (rr.set (r2.mono s3) m)))
        · exact q3.elim
      · exact q3.elim
end
end PL

/-! PL: methods of a slot's list; built-ins by name; repr. -/
namespace PL
open PySem PySem.Spec PyProof.Rows L2

/-! ### a method that changes a slot's list -/
def MOk (k : Kn) (r : V → List V → Hp → VK → Prop) (g : List D → List D → Option (List D × D)) : Prop :=
  ∀ (F H : Hp) (p : Addr) (us vs : List V) (xs ds ys : List D) (d : D) (Q : VK), H p = some (.lst us) → Reps k F xs us → Reps k F ds vs → g xs ds = some (ys, d) →
    (∀ ws v, Reps k F ys ws → Rep k F d v → Q v (upd H p (.lst ws))) → r (.ref p) vs H Q
def mcall (j : Nat) (g : List D → List D → Option (List D × D)) (fa : FA) : FE := fun env => match slotO env j with
  | some (.lst _) => (fa env).bind fun p => (match holds p.1 p.2 with
    | some q => (match slotO q.2 j with
      | some (.lst xs) => (match g xs q.1 with
        | some r => .ok (.val r.2, setO q.2 j (.lst r.1))
        | none => .no)
      | _ => .no)
    | none => .no)
  | _ => .no
section
variable {X : Cx} {W : WP} {e : Expr} {es : List Expr} {fa : FA} {x : Str} {name : Str} {px apos cpos : Pos} {id : String} {r : V → List V → Hp → VK → Prop} {g : List D → List D → Option (List D × D)}
theorem mcall_ok (j : Nat) {t : TA} (hg : MOk (kn X) r g) (ra : ∀ (A : Amb) (F H : Hp) (σ : L2.St) (env : En) (Q : List V → Hp → Prop), Sta (kn X) A F H σ env → PostA (kn X) A W F σ (fa env) Q → t σ H Q) :
    ∀ (A : Amb) (F H : Hp) (σ : L2.St) (env : En) (Q : VK), Sta (kn X) A F H σ env → PostE (kn X) A W F σ (mcall j g fa env) Q → tVar j σ H fun x H1 => tyV X.K "list" x H1 ∧ t σ H1 fun xs H2 => r x xs H2 Q := by
  intro A F H σ env Q S q
  unfold mcall at q
  split at q
  · rename_i xs0 c0
    obtain ⟨p, u, e1, hp, ro, hF, hK⟩ := S.at (slotO_own c0)
    cases ro with
    | lst ro =>
      refine ⟨_, e1, .inl ⟨rfl, _, SqL.of hp⟩, ra A F H σ env _ S (q.afA fun p2 F1 H1 vs s1 S1 r1 q1 => ?_)⟩
      cases c : holds p2.1 p2.2 with
      | none => rw [c] at q1; exact q1.elim
      | some q2 =>
        simp only [c] at q1
        obtain ⟨F2, s2, S2, r2⟩ := S1.holds r1 (ds := q2.1) (env' := q2.2) c
        split at q1
        · rename_i xs c3
          split at q1
          · rename_i res c4
            obtain ⟨pb, u3, e3, hp3, ro3, _⟩ := S2.at (slotO_own c3)
            rw [e1] at e3; cases e3
            cases ro3 with
            | lst rr =>
              exact hg F2 H1 p _ vs xs q2.1 res.1 res.2 Q hp3 rr r2 c4 fun ws v a b => q1 F2 _ v s2 (S2.write (slotO_own c3) e1 (.lst a)) b
          · exact q1.elim
        · exact q1.elim
  · exact q.elim
theorem ex_mth (j : Nat) (hg : MOk (kn X) r g) (slot : Slot "list" name id) (hty : typeOf (.builtin id) = pure (.type "method_descriptor")) (hm : MtR X id r) (ha : AX X W (e :: es) fa) (hN : X.N[j]? = some x := by rfl)
    (hv : Vis X.env.scope x := by first | exact Or.inl rfl | exact Or.inr (Or.inl rfl) | exact Or.inr (Or.inr rfl)) (hd : (x == ("__debug__" : Str)) = false := by decide) (hcd : (x == ("__classdict__" : Str)) = false := by decide)
    (hbase : attributeBase (.Name x px) name X.env (eval (.Name x px) X.env) = eval (.Name x px) X.env := by rfl)
    (hfew : ((backTo cpos (starEach (e :: es) X.env)).all (fun x => !x.1) && (backToKw cpos (keywordEach [] X.env)).all (fun x => x.1.isSome)
      && decide ((e :: es).length + ([] : List Keyword).length + (if ([] : List Keyword).isEmpty then 0 else 1) < 30)) = true := by rfl)
    (hline : (apos.endLine == cpos.line) = true := by rfl) (hs : starEach (e :: es) X.env = (false, eval e X.env) :: starEach es X.env := by rfl) (hplain : (backTo cpos (starEach es X.env)).any (·.1) = false := by rfl) :
    EX X W (.Call (.Attribute (.Name x px) name apos) (e :: es) [] cpos) (mcall j g fa) := by
  obtain ⟨t, pa, ra⟩ := ha
  exact ⟨_, pe_bm PySem.F.plainAttrs_list slot hty hm (pe_var hN hv hd hcd) pa hbase hfew hline hs hplain, mcall_ok j hg ra⟩
theorem ex_mth0 (j : Nat) (hg : MOk (kn X) r g) (slot : Slot "list" name id) (hty : typeOf (.builtin id) = pure (.type "method_descriptor")) (hm : MtR X id r) (hN : X.N[j]? = some x := by rfl)
    (hv : Vis X.env.scope x := by first | exact Or.inl rfl | exact Or.inr (Or.inl rfl) | exact Or.inr (Or.inr rfl)) (hd : (x == ("__debug__" : Str)) = false := by decide) (hcd : (x == ("__classdict__" : Str)) = false := by decide)
    (hbase : attributeBase (.Name x px) name X.env (eval (.Name x px) X.env) = eval (.Name x px) X.env := by rfl) (hline : (apos.endLine == cpos.line) = true := by rfl) :
    EX X W (.Call (.Attribute (.Name x px) name apos) [] [] cpos) (mcall j g anil) := by
  refine ⟨_, pe_bm0 PySem.F.plainAttrs_list slot hty hm (pe_var hN hv hd hcd) hbase hline, fun A F H σ env Q S q => ?_⟩
  obtain ⟨v, h1, h2, h3⟩ := mcall_ok (X := X) (W := W) (t := tNil) (fa := anil) j hg (fun A F H σ env Q S q => q F H [] (.refl F) S .nil) A F H σ env Q S q
  exact ⟨v, h1, h2, h3⟩
end
def gApp (xs ds : List D) : Option (List D × D) := match ds with
  | [d] => if xs.length < sizeLine then some (xs ++ [d], .non) else none
  | _ => none
def gPop (xs ds : List D) : Option (List D × D) := match ds with
  | [] => (xs[xs.length - 1]?).map fun d => (xs.dropLast, d)
  | _ => none
def gPopAt (xs ds : List D) : Option (List D × D) := match ds with
  | [.int i] => if -(2 ^ 63) ≤ i ∧ i < 2 ^ 63 then (seqIndex? i xs.length).bind fun j => (xs[j]?).map fun d => (xs.eraseIdx j, d) else none
  | _ => none
def gClear (xs ds : List D) : Option (List D × D) := match ds with
  | [] => some ([], .non)
  | _ => none
def gIns (xs ds : List D) : Option (List D × D) := match ds with
  | [.int i, d] => if xs.length < sizeLine ∧ 0 ≤ i ∧ i < 2 ^ 63 then some (xs.take i.toNat ++ [d] ++ xs.drop i.toNat, .non) else none
  | _ => none
section
variable {k : Kn}
theorem mok_app : MOk k rAppend gApp := by
  intro F H p us vs xs ds ys d Q hp rx rd e q
  unfold gApp at e
  split at e
  · rename_i d1
    split at e
    · rename_i c
      cases e
      cases rd with
      | cons a b => cases b; exact ⟨p, us, _, rfl, rfl, hp, by rw [rx.len]; exact c, q _ _ (rx.append (.cons a .nil)) .non⟩
    · cases e
  · cases e
theorem mok_pop : MOk k rPop gPop := by
  intro F H p us vs xs ds ys d Q hp rx rd e q
  unfold gPop at e
  split at e
  · cases rd
    cases c : xs[xs.length - 1]? with
    | none => rw [c] at e; cases e
    | some y =>
      rw [c] at e; cases e
      obtain ⟨v, h1, h2⟩ := rx.get c
      exact ⟨p, us, v, rfl, rfl, hp, by rw [rx.len]; exact h1, q _ _ rx.dropLast h2⟩
  · cases e
theorem mok_popAt : MOk k rPopAt gPopAt := by
  intro F H p us vs xs ds ys d Q hp rx rd e q
  unfold gPopAt at e
  split at e
  · rename_i i
    split at e
    · rename_i c
      cases c1 : seqIndex? i xs.length with
      | none => rw [c1] at e; cases e
      | some j =>
        rw [c1] at e
        simp only [Option.bind_some] at e
        cases c2 : xs[j]? with
        | none => rw [c2] at e; cases e
        | some y =>
          rw [c2] at e; cases e
          cases rd with
          | cons a b =>
            cases b; cases a
            obtain ⟨v, h1, h2⟩ := rx.get c2
            exact ⟨p, us, i, j, v, rfl, rfl, hp, c.1, c.2, by rw [rx.len]; exact c1, h1, q _ _ (rx.eraseIdx j) h2⟩
    · cases e
  · cases e
theorem mok_clear : MOk k rClear gClear := by
  intro F H p us vs xs ds ys d Q hp rx rd e q
  unfold gClear at e
  split at e
  · cases rd; cases e
    exact ⟨p, us, rfl, rfl, hp, q _ _ .nil .non⟩
  · cases e
theorem mok_ins : MOk k (fun x vs H Q => ∃ (l : Addr) (xs : List V) (i : Int) (y : V), x = .ref l ∧ vs = [.int i, y] ∧ H l = some (.lst xs) ∧ xs.length < sizeLine ∧ 0 ≤ i ∧ i < 2 ^ 63 ∧
    Q .non (upd H l (.lst (xs.take i.toNat ++ [y] ++ xs.drop i.toNat)))) gIns := by
  intro F H p us vs xs ds ys d Q hp rx rd e q
  unfold gIns at e
  split at e
  · rename_i i d1
    split at e
    · rename_i c
      cases e
      cases rd with
      | cons a b => cases b with
        | cons b c' =>
          cases c'; cases a
          exact ⟨p, us, i, _, rfl, rfl, hp, by rw [rx.len]; exact c.1, c.2.1, c.2.2, q _ _ (((rx.take _).append (.cons b .nil)).append (rx.drop _)) .non⟩
    · cases e
  · cases e
end

/-! ### built-ins by values -/
section
variable {k : Kn}
def cLen : List D → Option Arg
  | [.str s] => if s.length ≤ sizeLine then vI s.length else none
  | [.lst ds] => vI ds.length
  | [.tup ds] => vI ds.length
  | [.scr is] => vI is.length
  | _ => none
theorem Vws.one {F H : Hp} {d : D} {vs : List V} (h : Vws k F H [d] vs) : ∃ v, vs = [v] ∧ View k F H d v := by
  cases h with
  | cons a b => cases b; exact ⟨_, rfl, a⟩
theorem Vws.two {F H : Hp} {d d' : D} {vs : List V} (h : Vws k F H [d, d'] vs) : ∃ v v', vs = [v, v'] ∧ View k F H d v ∧ View k F H d' v' := by
  cases h with
  | cons a b => cases b with | cons b c => cases c; exact ⟨_, _, rfl, a, b⟩
theorem cok_len : COk k (fun xs H Q => ∃ x n, xs = [x] ∧ LenV k.K x H n ∧ Q (.int n) H) cLen := by
  intro A F H σ env vs ds z Q S va e q
  unfold cLen at e
  split at e
  · obtain ⟨v, rfl, vw⟩ := va.one
    split at e
    · rename_i c; cases e; cases vw.str
      exact ⟨_, _, rfl, ⟨c, rfl⟩, q F H _ (.refl _) S (.int _)⟩
    · cases e
  · obtain ⟨v, rfl, vw⟩ := va.one
    cases e
    obtain ⟨p, us, rfl, hp, r⟩ := vw.lst S.sub
    exact ⟨_, us.length, rfl, .inl ⟨us, SqL.of hp, rfl⟩, q F H _ (.refl _) S (by rw [r.len]; exact .int _)⟩
  · obtain ⟨v, rfl, vw⟩ := va.one
    cases e
    obtain ⟨p, us, rfl, hp, r⟩ := vw.tup
    exact ⟨_, us.length, rfl, .inr ⟨us, S.sub.t hp, rfl⟩, q F H _ (.refl _) S (by rw [r.len]; exact .int _)⟩
  · rename_i is
    obtain ⟨v, rfl, vw⟩ := va.one
    cases e
    obtain ⟨p, rfl, hp⟩ := vw.scr S.sub
    exact ⟨_, is.length, rfl, .inl ⟨_, hp, (List.length_map _).symm⟩, q F H _ (.refl _) S (.int _)⟩
  · cases e
def cAbs : List D → Option Arg
  | [.int i] => vI (if i < 0 then -i else i)
  | _ => none
theorem cok_abs : COk k (fun xs H Q => ∃ i, xs = [.int i] ∧ Q (.int (if i < 0 then -i else i)) H) cAbs := by
  intro A F H σ env vs ds z Q S va e q
  unfold cAbs at e
  split at e
  · obtain ⟨v, rfl, vw⟩ := va.one
    cases e; cases vw.int
    exact ⟨_, rfl, q F H _ (.refl _) S (.int _)⟩
  · cases e
def cMax2 : List D → Option Arg
  | [.int i, .int j] => vI (if j > i then j else i)
  | _ => none
def cMin2 : List D → Option Arg
  | [.int i, .int j] => vI (if j < i then j else i)
  | _ => none
theorem cok_max2 : COk k (fun xs H Q => ∃ i j, xs = [.int i, .int j] ∧ Q (.int (if j > i then j else i)) H) cMax2 := by
  intro A F H σ env vs ds z Q S va e q
  unfold cMax2 at e
  split at e
  · obtain ⟨v, v', rfl, vw, vw'⟩ := va.two
    cases e; cases vw.int; cases vw'.int
    exact ⟨_, _, rfl, q F H _ (.refl _) S (.int _)⟩
  · cases e
theorem cok_min2 : COk k (fun xs H Q => ∃ i j, xs = [.int i, .int j] ∧ Q (.int (if j < i then j else i)) H) cMin2 := by
  intro A F H σ env vs ds z Q S va e q
  unfold cMin2 at e
  split at e
  · obtain ⟨v, v', rfl, vw, vw'⟩ := va.two
    cases e; cases vw.int; cases vw'.int
    exact ⟨_, _, rfl, q F H _ (.refl _) S (.int _)⟩
  · cases e
def cInt : List D → Option Arg
  | [.int i] => vI i
  | [.bl b] => vI (if b then 1 else 0)
  | _ => none
theorem cok_int : COk k (fun xs H Q => (∃ i, xs = [.int i] ∧ Q (.int i) H) ∨ ∃ k, xs = [.bl k] ∧ Q (.int (if k then 1 else 0)) H) cInt := by
  intro A F H σ env vs ds z Q S va e q
  unfold cInt at e
  split at e
  · obtain ⟨v, rfl, vw⟩ := va.one
    cases e; cases vw.int
    exact .inl ⟨_, rfl, q F H _ (.refl _) S (.int _)⟩
  · obtain ⟨v, rfl, vw⟩ := va.one
    cases e; cases vw.bl
    exact .inr ⟨_, rfl, q F H _ (.refl _) S (.int _)⟩
  · cases e
def cList : List D → Option Arg
  | [.lst ds] => some (.new (.lst ds))
  | [.tup ds] => some (.new (.lst ds))
  | _ => none
theorem cok_list : COk k (fun xs H Q => ∃ p ys, xs = [.ref p] ∧ (SqL k.K H p ys ∨ SqT k.K H p ys) ∧ ∀ l, H l = none → Q (.ref l) (upd H l (.lst ys))) cList := by
  intro A F H σ env vs ds z Q S va e q
  unfold cList at e
  split at e
  · obtain ⟨v, rfl, vw⟩ := va.one
    cases e
    obtain ⟨p, us, rfl, hp, r⟩ := vw.lst S.sub
    exact ⟨p, us, rfl, .inl (SqL.of hp), S.newL r q⟩
  · obtain ⟨v, rfl, vw⟩ := va.one
    cases e
    obtain ⟨p, us, rfl, hp, r⟩ := vw.tup
    exact ⟨p, us, rfl, .inr (S.sub.t hp), S.newL r q⟩
  · cases e
def cTuple : List D → Option Arg
  | [.lst ds] => some (.val (.tup ds))
  | [.tup ds] => some (.val (.tup ds))
  | _ => none
theorem cok_tuple : COk k (fun xs H Q => ∃ p ys, xs = [.ref p] ∧ ((SqL k.K H p ys ∧ ∀ l, H l = none → Q (.ref l) (upd H l (.tup ys))) ∨ (SqT k.K H p ys ∧ Q (.ref p) H))) cTuple := by
  intro A F H σ env vs ds z Q S va e q
  unfold cTuple at e
  split at e
  · obtain ⟨v, rfl, vw⟩ := va.one
    cases e
    obtain ⟨p, us, rfl, hp, r⟩ := vw.lst S.sub
    exact ⟨p, us, rfl, .inl ⟨SqL.of hp, S.newT r q⟩⟩
  · obtain ⟨v, rfl, vw⟩ := va.one
    cases e
    obtain ⟨p, us, rfl, hp, r⟩ := vw.tup
    exact ⟨p, us, rfl, .inr ⟨S.sub.t hp, q F H _ (.refl _) S (.tup hp r)⟩⟩
  · cases e
/-- all of them whole numbers -/
def intsOf : List D → Option (List Int)
  | [] => some []
  | .int i :: r => (intsOf r).map (i :: ·)
  | _ => none
theorem intsOf_eq : ∀ {ds : List D} {is : List Int}, intsOf ds = some is → ds = is.map D.int
  | [], is, h => by cases h; rfl
  | d :: ds, is, h => by
    cases d with
    | int i =>
      simp only [intsOf] at h
      cases c : intsOf ds with
      | none => rw [c] at h; cases h
      | some js => rw [c] at h; cases h; rw [intsOf_eq c]; rfl
    | _ => cases h
@[simp] theorem intsOf_map : ∀ is : List Int, intsOf (is.map D.int) = some is
  | [] => rfl
  | i :: is => by simp [intsOf, intsOf_map is]
def sortI (is : List Int) : List Int := is.mergeSort fun a b => decide (a ≤ b)
theorem sortI_one {is js : List Int} (h1 : js.Perm is) (h2 : js.Pairwise (· ≤ ·)) : js = sortI is := by
  have p : (sortI is).Pairwise (· ≤ ·) := by
    have := List.pairwise_mergeSort (le := fun a b : Int => decide (a ≤ b)) (fun a b c h1 h2 => by simp at *; omega) (fun a b => by simp; omega) is
    exact this.imp fun h => of_decide_eq_true h
  exact List.Perm.eq_of_pairwise (le := (· ≤ ·)) (fun a b _ _ h1 h2 => Int.le_antisymm h1 h2) h2 p (h1.trans (List.mergeSort_perm _ _).symm)
def cSorted : List D → Option Arg
  | [.lst ds] => (intsOf ds).map fun is => .new (.lst ((sortI is).map D.int))
  | _ => none
theorem ints_reps {F : Hp} : ∀ is : List Int, Reps k F (is.map D.int) (is.map V.int)
  | [] => .nil
  | i :: is => .cons (.int i) (ints_reps is)
theorem cok_sorted : COk k (rSortedI k.K) cSorted := by
  intro A F H σ env vs ds z Q S va e q
  unfold cSorted at e
  split at e
  · rename_i ds
    obtain ⟨v, rfl, vw⟩ := va.one
    cases c : intsOf ds with
    | none => rw [c] at e; cases e
    | some is =>
      rw [c] at e; cases e
      obtain ⟨p, us, rfl, hp, r⟩ := vw.lst S.sub
      rw [intsOf_eq c] at r
      have := r.ints
      subst this
      refine ⟨p, is, rfl, SqL.of hp, fun ns' l h1 h2 hl => ?_⟩
      rw [sortI_one h1 h2]
      exact S.newL (ints_reps _) q l hl
  · cases e
/-- all of them truth values -/
def blsOf : List D → Option (List Bool)
  | [] => some []
  | .bl i :: r => (blsOf r).map (i :: ·)
  | _ => none
theorem blsOf_eq : ∀ {ds : List D} {is : List Bool}, blsOf ds = some is → ds = is.map D.bl
  | [], is, h => by cases h; rfl
  | d :: ds, is, h => by
    cases d with
    | bl i =>
      simp only [blsOf] at h
      cases c : blsOf ds with
      | none => rw [c] at h; cases h
      | some js => rw [c] at h; cases h; rw [blsOf_eq c]; rfl
    | _ => cases h
@[simp] theorem blsOf_map : ∀ is : List Bool, blsOf (is.map D.bl) = some is
  | [] => rfl
  | i :: is => by simp [blsOf, blsOf_map is]
def cAll : List D → Option Arg
  | [.lst ds] => (blsOf ds).map fun bs => .val (.bl (bs.all id))
  | _ => none
def cAny : List D → Option Arg
  | [.lst ds] => (blsOf ds).map fun bs => .val (.bl (bs.any id))
  | _ => none
theorem cok_all : COk k (rAll k.K) cAll := by
  intro A F H σ env vs ds z Q S va e q
  unfold cAll at e
  split at e
  · rename_i ds
    obtain ⟨v, rfl, vw⟩ := va.one
    cases c : blsOf ds with
    | none => rw [c] at e; cases e
    | some is =>
      rw [c] at e; cases e
      obtain ⟨p, us, rfl, hp, r⟩ := vw.lst S.sub
      rw [blsOf_eq c] at r
      have := r.bls
      subst this
      exact ⟨p, is, rfl, SqL.of hp, q F H _ (.refl _) S (.bl _)⟩
  · cases e
theorem cok_any : COk k (rAny k.K) cAny := by
  intro A F H σ env vs ds z Q S va e q
  unfold cAny at e
  split at e
  · rename_i ds
    obtain ⟨v, rfl, vw⟩ := va.one
    cases c : blsOf ds with
    | none => rw [c] at e; cases e
    | some is =>
      rw [c] at e; cases e
      obtain ⟨p, us, rfl, hp, r⟩ := vw.lst S.sub
      rw [blsOf_eq c] at r
      have := r.bls
      subst this
      exact ⟨p, is, rfl, SqL.of hp, q F H _ (.refl _) S (.bl _)⟩
  · cases e
def cSum : List D → Option Arg
  | [.lst ds] => (intsOf ds).map fun is => .val (.int is.sum)
  | _ => none
theorem cok_sum : COk k (rSum k.K) cSum := by
  intro A F H σ env vs ds z Q S va e q
  unfold cSum at e
  split at e
  · rename_i ds
    obtain ⟨v, rfl, vw⟩ := va.one
    cases c : intsOf ds with
    | none => rw [c] at e; cases e
    | some is =>
      rw [c] at e; cases e
      obtain ⟨p, us, rfl, hp, r⟩ := vw.lst S.sub
      rw [intsOf_eq c] at r
      have := r.ints
      subst this
      exact ⟨p, is, rfl, SqL.of hp, q F H _ (.refl _) S (.int _)⟩
  · cases e
def cStr : List D → Option Arg
  | [.int i] => if i.natAbs.log2 < 1920 then some (.val (.str (toString i))) else none
  | _ => none
theorem cok_str : COk k (fun xs H Q => ∃ i, xs = [.int i] ∧ i.natAbs.log2 < 1920 ∧ Q (.str (toString i)) H) cStr := by
  intro A F H σ env vs ds z Q S va e q
  unfold cStr at e
  split at e
  · obtain ⟨v, rfl, vw⟩ := va.one
    split at e
    · rename_i c; cases e; cases vw.int
      exact ⟨_, rfl, c, q F H _ (.refl _) S (.str _)⟩
    · cases e
  · cases e
end

/-! ### repr -/
def rRepr (K : PySem.W.Frag) : List V → Hp → VK → Prop := fun xs H Q => ∃ x d, xs = [x] ∧ Dp K H x d ∧ d.showable = true ∧ d.hasDict = false ∧ d.depth ≤ 32 ∧ d.shown.length ≤ sizeLine ∧ Q (.str d.shown) H
theorem call_reprD {X : Cx} (hg : X.A.guards = some []) (hu : X.A.units + 64 < cLine) : CallR X (.builtin "repr") (rRepr X.K) := by
  intro pins s σ H xs us Q I r h
  obtain ⟨x, d, rfl, hd, h1, h2, h3, h4, q⟩ := h
  obtain ⟨u, rfl, ru⟩ := vals1 r
  obtain ⟨as, rd⟩ := Dp.reads I d x u hd ru
  have fin : ∀ h' tk, (∀ b o, s.heap.get? b = some o → h'.get? b = some o) → ∀ t, EP X pins σ Q (.str d.shown t) { s with heap := h', toks := tk } := fun h' tk hk t => ⟨.str d.shown, H, I.kept (t' := tk) hk, ⟨t, rfl⟩, q⟩
  cases hd with
  | non => cases ru; exact P.repr_of_none (fin _ _ (fun _ _ e => e) _)
  | bl b => cases ru; exact P.repr_of_bool (fin _ _ (fun _ _ e => e) _)
  | int i =>
    obtain ⟨t, rfl⟩ := ru
    exact P.repr_of_int (by simpa [PyData.showable] using h1) (fin _ _ (fun _ _ e => e) _)
  | str z =>
    obtain ⟨t, rfl⟩ := ru
    exact P.repr_of_str (fin _ _ (fun _ _ e => e) _) (by simpa [PyData.shown] using h4)
  | lst a b =>
    cases ru
    exact repr_of_reads' rd h1 (fun e => by rw [h2] at e; cases e) hg (by omega) (fun _ _ e => e) (fun h' u tk hk => fin h' tk hk u) h4
  | tup a b =>
    cases ru
    exact repr_of_reads' rd h1 (fun e => by rw [h2] at e; cases e) hg (by omega) (fun _ _ e => e) (fun h' u tk hk => fin h' tk hk u) h4
def cRepr : List D → Option Arg
  | [d] => (toP d).bind fun p => if p.showable = true ∧ p.hasDict = false ∧ p.depth ≤ 32 ∧ p.shown.length ≤ sizeLine then some (.val (.str p.shown)) else none
  | _ => none
theorem cok_repr {k : Kn} : COk k (rRepr k.K) cRepr := by
  intro A F H σ env vs ds z Q S va e q
  unfold cRepr at e
  split at e
  · rename_i d
    obtain ⟨v, rfl, vw⟩ := va.one
    cases c : toP d with
    | none => rw [c] at e; cases e
    | some p =>
      rw [c] at e
      simp only [Option.bind_some] at e
      split at e
      · rename_i h
        cases e
        exact ⟨v, p, rfl, (vw.rep S.sub).dp c, h.1, h.2.1, h.2.2.1, h.2.2.2, q F H _ (.refl _) S (.str _)⟩
      · cases e
  · cases e
end PL

/-! PL: defs that call repr: nothing is being shown around them. -/
namespace PL
open PySem PySem.Spec PyProof.Rows L2

structure GnOk (P : Program) (w : World) (K : PySem.W.Frag) (mg : Str → Option Value) (base : Heap) (k : Nat) (f : Addr) (fd : FuncData) (ps : List Str) (sp : Sp) : Prop where
  len : ∀ vs H Q, sp vs H Q E0 → vs.length = ps.length
  run : ∀ (A : Around) (outer : List Env) (s : Shared) (H : Hp) (args : Args) (us : List Value) (vs : List V) (Q : VK), A.guards = some [] → Room k A → Env0 P w K mg base A outer s H →
    BindsTo s fd args (ps.zip us) → Vals vs us → sp vs H Q E0 → codeAny (model P w) A (.call (.ref f) args) (CR CX0 outer P w H s Q E0) s

section
variable {P : Program} {w : World} {K : PySem.W.Frag} {mg : Str → Option Value} {base : Heap}
theorem FnOk.gn {k : Nat} {f : Addr} {fd : FuncData} {ps : List Str} {sp : Sp} (h : FnOk P w K mg base CX0 k f fd ps sp) : GnOk P w K mg base k f fd ps sp :=
  ⟨fun vs H Q z => h.len vs H Q E0 z, fun A outer s H args us vs Q _ hr e0 hb hv hs => h.run A outer s H args us vs Q E0 hr e0 hb hv hs⟩
theorem GnOk.mono {j k : Nat} {f : Addr} {fd : FuncData} {ps : List Str} {sp : Sp} (h : GnOk P w K mg base j f fd ps sp) (hjk : j ≤ k) : GnOk P w K mg base k f fd ps sp :=
  ⟨h.len, fun A outer s H args us vs Q hg hr => h.run A outer s H args us vs Q hg (hr.mono hjk)⟩
/-- the end of a body is the end of the call -/
theorem end_of {X : Cx} {s' : Shared} {Q : VK} {σ' : L2.St} {H' : Hp} {v : V} {u : Value} (hex : X.ex = []) (J : Inv X [] σ' H' s') (r : RelV v u) (q : Q v H') : CE X.outer X.prog X.w X.H_0 X.s_0 Q u s' := by
  have b := J.base
  rw [hex] at b
  exact ⟨_, _, J.os, J.bare, b, J.hok, r, q⟩
theorem gn_of {x qual : Str} {st : Stmt} {f : Addr} {fd : FuncData} {N ps : List Str} {k : Nat} {sp : Sp} (F : Fun K x qual st f fd) (S : FnScope N ps (defScope st)) (len : ∀ vs H Q, sp vs H Q E0 → vs.length = ps.length)
    (hb : ∀ (cdv : Value) (A : Around) (outer : List Env) (s : Shared) (H : Hp) (vs : List V) (Q : VK), A.guards = some [] → Room k (A.deeper (envOfC qual (defScope st) s.heap.objs.size f cdv)) → sp vs H Q E0 →
      ∃ t, PSs (cxOf CX0 P w K mg base N qual (defScope st) f cdv A outer s H E0).nox (defBody st) t ∧ t { nx := fun _ H' => Q .non H', rt := Q } (L2.start N vs) H) : GnOk P w K mg base (k + 1) f fd ps sp := by
  obtain ⟨oc, od, kV, doc, pm, an, cdv, ct, osl, efd, lk, hcd⟩ := F.ex
  subst efd
  refine ⟨len, fun A outer s H args us vs Q hg hr e0 hbd r hsp => ?_⟩
  have keeps : ∀ b o, base.get? b = some o → s.heap.get? b = some o := fun b o z => (e0.bs b o z).1
  have hz : vs.length = ps.length := len _ _ _ hsp
  have names : ∀ y ∈ ps.zip us, (defScope st).names.lookup y.1 = some .local ∨ ((defScope st).names.lookup y.1 = some .cell ∧ ((cellsFrom (s.heap.objs.size + 1) (defScope st).names []).lookup y.1).isSome = true) := by
    intro y hy
    refine (S.par y.1 (List.of_mem_zip (a := y.1) (b := y.2) hy).1).imp id fun q => ⟨q, ?_⟩
    exact PySem.W.cellsFrom_some _ _ _ (.inl q)
  refine codeAny_call_function hr.depth (e0.mod.kin.keeps keeps _ _ lk) rfl S.co S.gen rfl (PySem.W.codeRec_of (e0.mod.kin.keeps keeps) hcd) (hbd _ _ _ _ ?_)
  refine wpAny_newFunctionEnv_cells S.kind names fun env he s1 xin => ?_
  subst he
  refine ⟨(e0.mod.nolimit.keeps keeps).keeps xin.toInCall.keep, codeAny_func ?_⟩
  obtain ⟨t, ht, hq⟩ := hb cdv A outer s H vs Q hg (hr.deeper _) hsp
  have J := inv_start (CX := CX0) (E := E0) S hr.hd e0 hz r xin
  refine wpAny_mono (ht.run [] s1 (L2.start N vs) H _ (J.wish _) hq) (fun fl s' hs => ?_) fun _ _ hs => hs.elim
  cases fl with
  | next => obtain ⟨_, _, Z, q⟩ := hs; exact end_of (v := V.non) (u := Value.none) rfl Z rfl q
  | ret u => obtain ⟨_, _, _, Z, rv, q⟩ := hs; exact end_of rfl Z rv q
  | brk => obtain ⟨_, _, _, q⟩ := hs; exact q.elim
  | cont => obtain ⟨_, _, _, q⟩ := hs; exact q.elim
theorem gn_ok {x qual : Str} {st : Stmt} {f : Addr} {fd : FuncData} {N ps : List Str} {k np : Nat} {g : FS} (F : Fun K x qual st f fd) (S : FnScope N ps (defScope st)) (hnp : ps.length = np)
    (hb : ∀ (cdv : Value) (A : Around) (outer : List Env) (s : Shared) (H : Hp), A.guards = some [] → Room k (A.deeper (envOfC qual (defScope st) s.heap.objs.size f cdv)) →
      BX (cxOf CX0 P w K mg base N qual (defScope st) f cdv A outer s H E0).nox W0 (defBody st) g) : GnOk P w K mg base (k + 1) f fd ps (Prom ⟨K, mg⟩ np (runF N.length g)) :=
  gn_of F S (fun vs H Q h => by rw [hnp]; exact h.len) fun cdv A outer s H vs Q hg hr h => fun_body (hb cdv A outer s H hg hr) rfl h
end
section
variable {X : Cx} {W : WP} {k : Nat} {f : Addr} {fd : FuncData} {pn : List Str} {x : Str} {p pos : Pos} {e : Expr} {es : List Expr} {fa : FA} {fn : FFn} {sp : Sp} {t : TA}
/-- a call of such a def -/
theorem pe_gcall (hgu : X.A.guards = some []) (Fo : GnOk X.prog X.w X.K X.mg X.base k f fd pn sp) (hr : Room k X.A) (hg : Gl X x) (hm : X.mg x = some (.ref f)) (hk : PySem.W.keepIn X.K (.ref f) = true) (hb : Binds X.K fd pn []) (ha : PA X (e :: es) t)
    (hdb : (x == ("__debug__" : Str)) = false := by decide) (he : starEach (e :: es) X.env = (false, eval e X.env) :: starEach es X.env := by rfl) (hpl : (backTo pos (starEach es X.env)).any (·.1) = false := by rfl) :
    PE X (.Call (.Name x p) (e :: es) [] pos) (tCall sp [] E0 t) := by
  constructor
  intro pins s σ H Q I h
  refine wpAny_Call_Name_kw (ld_glob I hg hm (PySem.W.callWith_K (h₀ := X.base) I.ok.mod.kin hk (thn (ha.run pos pins s σ H _ I h) ?_) he hpl) hdb)
  rintro us s1 ⟨vs, H1, I1, r, q⟩
  have q' : sp vs H1 Q E0 := by
    have z : sp (vs ++ []) H1 Q E0 := q
    rwa [List.append_nil] at z
  have hl : (us ++ []).length = pn.length := by rw [List.append_nil, ← r.length]; exact Fo.len _ _ _ q'
  have bd := hb s1 us I1.kIn hl
  rw [List.append_nil] at bd
  refine ⟨I1.kIn, wpAny_call (codeAny_mono (Fo.run X.A X.stack s1 H1 ⟨us, []⟩ us vs Q hgu hr I1.env0 bd r q') ?_)⟩
  intro res s2 hq
  match res, hq with
  | .error _, hq => exact hq.elim
  | .ok (.ret _), hq => exact I1.after hq
  | .ok .next, hq => exact hq.elim
  | .ok .brk, hq => exact hq.elim
  | .ok .cont, hq => exact hq.elim
theorem ex_gcall {ms : List Md} {n : Nat} (hgu : X.A.guards = some []) (Fo : GnOk X.prog X.w X.K X.mg X.base k f fd pn (Prom (kn X) n fn)) (hn : ms.length = n) (hr : Room k X.A) (hg : Gl X x) (hm : X.mg x = some (.ref f)) (hk : PySem.W.keepIn X.K (.ref f) = true) (hb : Binds X.K fd pn []) (ha : AX X W (e :: es) fa)
    (hdb : (x == ("__debug__" : Str)) = false := by decide) (he : starEach (e :: es) X.env = (false, eval e X.env) :: starEach es X.env := by rfl) (hpl : (backTo pos (starEach es X.env)).any (·.1) = false := by rfl) :
    EX X W (.Call (.Name x p) (e :: es) [] pos) (callF ms fn fa) := by
  obtain ⟨t, pa, ra⟩ := ha
  exact ⟨_, pe_gcall hgu Fo hr hg hm hk hb pa hdb he hpl, callF_ok hn ra⟩
end
end PL

/-! PL: the end of a law. -/
namespace PL
open PySem PySem.Spec PyProof.Rows L2

/-- the call of the law, over an abstract heap that knows the script alone -/
theorem law_core {P : Program} {w : World} {K : PySem.W.Frag} {mg mb : Str → Option Value} {k : Nat} {fa a : Addr} {fd : FuncData} {x : Str} {sp : Sp} {s : Shared} {vs : List Value} {H : Hp}
    (KX : K.In s.heap) (hns : s.heap.Ns mainGlobals mg) (hb : s.heap.Ns builtinsNs mb) (hbb : ∀ x : Str, x ≠ "__name__" → mb x = bootBuiltins x) (hlim : s.heap.NoLimit) (hg : s.gens = #[])
    (ha : s.heap.get? a = some { cls := .type "list", data := .seq vs.toArray }) (hr : Room k callerA)
    (Fn : ∀ base : Heap, K.In base → base.Ns mainGlobals mg → GnOk P w K mg base k fa fd [x] sp) (hbind : ∀ (s : Shared) (u : Value), BindsTo s fd ⟨[u], []⟩ [(x, u)])
    (hsp : sp [.ref a] H (fun v _ => v = .bl true) E0) (hO : Only H) (hok : HOk P w H s.heap) (hA : ∀ b, H b ≠ none → b = a) (hK : H a ≠ none → K.lookup a = none) :
    codeAny (model P w) callerA (.call (.ref fa) ⟨[.ref a], []⟩) (fun r s' => r = .ok (.ret (.bool true)) ∧ OldK s.heap s'.heap ∧ s'.os = s.os ∧ AllBare s'.gens) s := by
  have other : ∀ {b : Addr} {o : Obj}, s.heap.get? b = some o → H b = none → (hidT s.heap H).get? b = some o := fun e n => hidT_get e n
  have plain : ∀ {b : Addr}, b ≠ a → H b = none := fun {b} ne => by
    cases c : H b with
    | none => rfl
    | some u => exact absurd (hA b (by rw [c]; exact Option.some_ne_none _)) ne
  have nsIn : ∀ {b : Addr} {m : Str → Option Value}, s.heap.Ns b m → (hidT s.heap H).Ns b m := by
    rintro b m ⟨o, es, ep, e, d, r⟩
    have ne : b ≠ a := fun z => by
      rw [z, ha] at e
      cases e
      have z' : Data.seq vs.toArray 0 = Data.dict es ep := d
      cases z'
    exact ⟨o, es, ep, other e (plain ne), d, r⟩
  have kIn : K.In (hidT s.heap H) := fun b o e => other (KX b o e) <| by
    cases c : H b with
    | none => rfl
    | some u =>
      have z := hA b (by rw [c]; exact Option.some_ne_none _)
      rw [z] at c e
      rw [hK (by rw [c]; exact Option.some_ne_none _)] at e
      cases e
  have md : Mod K mg (hidT s.heap H) := by
    refine ⟨kIn, nsIn hns, ⟨mb, nsIn hb, hbb⟩, ?_⟩
    obtain ⟨mc, l1, l2⟩ := hlim
    exact ⟨mc, nsIn l1, l2⟩
  have env0 : Env0 P w K mg (hidT s.heap H) callerA [] s H := {
    frames := rfl
    mod := md
    bs := fun b o e => of_hidT e
    bsz := Nat.le_of_eq (hidT_size _ _)
    funs := trivial
    frf := fun b z => by cases (show b ∈ ([] : List Addr) from z)
    hok := hok
    bare := .of_eq hg }
  refine codeAny_mono ((Fn _ kIn (nsIn hns)).run callerA [] s H ⟨[.ref a], []⟩ [.ref a] [.ref a] _ rfl hr env0 (hbind s (.ref a)) (.cons rfl .nil) hsp) ?_
  intro r s' h
  match r, h with
  | .error _, h => exact h.elim
  | .ok .next, h => exact h.elim
  | .ok .brk, h => exact h.elim
  | .ok .cont, h => exact h.elim
  | .ok (.ret u), ⟨v, H', os, bare, un, hok', r', q⟩ =>
    have q' : v = .bl true := q
    rw [q'] at r'
    have hu : u = Value.bool true := r'
    rw [hu]
    refine ⟨rfl, OldK.of_keep fun b o e => ?_, os, bare⟩
    rcases hO b with z | ⟨ob, xs, z⟩
    · exact un.keep b o e z (fun m => by cases (show b ∈ ([] : List Addr) from m)) (fun m => by cases m)
    · have e1 := (hok b _ z).1
      have e2 := (hok' b _ (un.frzs b ob _ z)).1
      rw [e1] at e
      rw [← e]
      exact e2
theorem law_gcall {P : Program} {w : World} {K : PySem.W.Frag} {mg mb : Str → Option Value} {k : Nat} {fa a : Addr} {fd : FuncData} {x : Str} {fn : FFn} {s : Shared} {vs : List Value} {ns : List Int} {ms : List (Option O)}
    (KX : K.In s.heap) (hns : s.heap.Ns mainGlobals mg) (hb : s.heap.Ns builtinsNs mb) (hbb : ∀ x : Str, x ≠ "__name__" → mb x = bootBuiltins x) (hlim : s.heap.NoLimit) (hg : s.gens = #[])
    (ha : s.heap.get? a = some { cls := .type "list", data := .seq vs.toArray }) (hi : IntsAre vs ns) (hl : ns.length ≤ sizeLine) (hr : Room k callerA)
    (Fn : ∀ base : Heap, K.In base → base.Ns mainGlobals mg → GnOk P w K mg base k fa fd [x] (Prom ⟨K, mg⟩ 1 fn)) (hbind : ∀ (s : Shared) (u : Value), BindsTo s fd ⟨[u], []⟩ [(x, u)])
    (hfn : fn [.fz (.scr ns)] = .ok (.fz (.bl true)) ms) :
    codeAny (model P w) callerA (.call (.ref fa) ⟨[.ref a], []⟩) (fun r s' => r = .ok (.ret (.bool true)) ∧ OldK s.heap s'.heap ∧ s'.os = s.os ∧ AllBare s'.gens) s := by
  have prom : ∀ H : Hp, SqL K H a (ns.map V.int) → Prom ⟨K, mg⟩ 1 fn [.ref a] H (fun v _ => v = .bl true) E0 := fun H hS => by
    refine ⟨fun _ => none, H, [.fz (.scr ns)], ⟨.refl H, (fun _ _ z => by cases (show (none : Option HO) = _ from z)), .refl H, fun a o z => .inl z, fun i sl e => ?_, fun i o p h1 _ => ?_, fun i j o u p h1 _ _ _ => ?_, rfl, fun i o e => ?_⟩, rfl, (fun b hb o z => ?_), _, _, hfn, fun F' H' σ' e' v _ _ _ r => ?_⟩
    · cases i with
      | zero => cases e; exact ⟨_, rfl, .scr hS⟩
      | succ i => simp at e
    · cases i with
      | zero => rcases h1 with z | z <;> cases z
      | succ i => rcases h1 with z | z <;> simp at z
    · cases i with
      | zero => rcases h1 with z | z <;> cases z
      | succ i => rcases h1 with z | z <;> simp at z
    · cases i with
      | zero => cases e
      | succ i => simp at e
    · rw [List.mem_singleton.mp hb] at z; cases z
    · cases r; rfl
  cases hk : K.lookup a with
  | some o =>
    have e := KX a o hk
    rw [ha] at e
    have sq : SqL K (fun _ => none) a (ns.map V.int) := by
      refine .inr ⟨o, vs.toArray, 0, hk, ?_, ?_, ?_, ?_, ?_⟩
      · cases e; rfl
      · cases e; rfl
      · cases e; rfl
      · rw [List.size_toArray, hi.length]; exact hl
      · simpa using vals_ints hi
    exact law_core (H := fun _ => none) KX hns hb hbb hlim hg ha hr Fn hbind (prom _ sq) (fun _ => .inl rfl) (fun b u z => by cases (show (none : Option HO) = some u from z)) (fun b z => absurd rfl z) (fun z => absurd rfl z)
  | none =>
    let u : HO := .frz { cls := .type "list", data := .seq vs.toArray } (.lst (ns.map V.int))
    let H : Hp := fun b => if b = a then some u else none
    have Ha : H a = some u := if_pos rfl
    have Hn : ∀ {b}, b ≠ a → H b = none := fun h => if_neg h
    refine law_core (H := H) KX hns hb hbb hlim hg ha hr Fn hbind (prom _ (.inl (.inr ⟨_, Ha⟩))) (fun b => ?_) (fun b v z => ?_) (fun b z => ?_) (fun _ => hk)
    · by_cases c : b = a
      · rw [c]; exact .inr ⟨_, _, Ha⟩
      · exact .inl (Hn c)
    · by_cases c : b = a
      · rw [c] at z ⊢
        rw [Ha] at z
        cases z
        exact ⟨ha, by rw [List.length_map]; exact hl, vs, 0, vals_ints hi, ha⟩
      · rw [Hn c] at z; cases z
    · by_cases c : b = a
      · exact c
      · exact absurd (Hn c) z
/-- THE END: as the kit's walk_of, for a def that may show things -/
theorem law_done {l : PySem.W.OpenLaw} {n k : Nat} {q : Program} {loose : List Str} {XP : (Str → Option Value) → Heap → Prop} {YP : World → Heap → Prop} {d : DefRec} {K : Params → PySem.W.Frag} {x : Str} {fn : FFn}
    (hn : l.most = some n) (hn2 : n ≤ sizeLine) (hdf : d.params.defaults = []) (hr : Room k callerA) (hY : ∀ (w : World) (h : Heap), YP w h → (K w.params).In h)
    (F : ∀ (w : World) (mg : Str → Option Value) (fa : Addr) (h : Heap), (K w.params).In h → h.Ns mainGlobals mg → mg d.name = some (.ref fa) →
      ∃ fd : FuncData, (∀ (s : Shared) (u : Value), BindsTo s fd ⟨[u], []⟩ [(x, u)]) ∧
        ∀ base : Heap, (K w.params).In base → base.Ns mainGlobals mg → GnOk l.prog w (K w.params) mg base k fa fd [x] (Prom ⟨K w.params, mg⟩ 1 fn))
    (hfn : ∀ ns : List Int, ns.length ≤ n → ∃ ms, fn [.fz (.scr ns)] = .ok (.fz (.bl true)) ms) :
    PySem.W.WalkO q loose XP YP l.row.toRowW d [] (fun f vs => PySem.call f vs) := by
  refine Att.attach_call hn hdf ?_
  intro w s₀ s₁ mg mb fa o pm cd doc a vs ns G Y ho hd hcd hmg hobj hints hlen hg
  obtain ⟨fd, hb, hF⟩ := F w mg fa _ (hY w _ Y) G.T.g hmg
  obtain ⟨ms, hm⟩ := hfn ns hlen
  exact law_gcall (hY w _ Y) G.T.g G.T.b G.T.builtins G.T.nolimit hg hobj hints (Nat.le_trans hlen hn2) hr hF hb hm
end PL

/-! PL: chains, several names at once, list(range(..)), in. -/
namespace PL
open PySem PySem.Spec PyProof.Rows L2

/-! ### a < b < c -/
def vch (g g' : D → D → Option Arg) (fa fb fc : FE) : FE := fun env => (fa env).bind fun p => (fb p.2).bind fun q =>
  match cont (settle p.1) q.2, cont (settle q.1) q.2 with
  | some a, some b => (match g a b with
    | some (.val (.bl true)) => (fc q.2).bind fun r => (match cont (settle q.1) r.2, cont r.1 r.2 with
      | some b', some c => (match g' b' c with
        | some z => .ok (z, r.2)
        | none => .no)
      | _, _ => .no)
    | some (.val (.bl false)) => .ok (.val (.bl false), q.2)
    | _ => .no)
  | _, _ => .no
section
variable {X : Cx} {W : WP} {a b c : Expr} {fa fb fc : FE} {pos : Pos}
theorem vch_ok {r r' : R2} {g g' : D → D → Option Arg} (hg : BOk (kn X) r g) (hg' : BOk (kn X) r' g') (ha : EX X W a fa) (hb : EX X W b fb) (hc : EX X W c fc) :
    ∃ ta tb tc, PE X a ta ∧ PE X b tb ∧ PE X c tc ∧ ∀ (A : Amb) (F H : Hp) (σ : L2.St) (env : En) (Q : VK), Sta (kn X) A F H σ env → PostE (kn X) A W F σ (vch g g' fa fb fc env) Q → tChain r r' ta tb tc σ H Q := by
  obtain ⟨ta, pa, ra⟩ := ha
  obtain ⟨tb, pb, rb⟩ := hb
  obtain ⟨tc, pc, rc⟩ := hc
  refine ⟨ta, tb, tc, pa, pb, pc, fun A F H σ env Q S q => ra A F H σ env _ S (q.afE fun p F1 H1 v1 s1 S1 r1 q1 => ?_)⟩
  obtain ⟨F1', s1', S1', r1'⟩ := S1.settle r1
  refine rb A F1' H1 σ p.2 _ S1' ((q1.mono s1').afE fun p2 F2 H2 v2 s2 S2 r2 q2 => ?_)
  have k1 := r1'.keep (F' := F2) (H' := H2) (env' := p2.2) s2
  obtain ⟨F2', s2', S2', r2'⟩ := S2.settle r2
  have k1' := k1 |> fun z => (show RArg (kn X) A F2' H2 σ p2.2 (settle p.1) v1 by
    cases h : p.1 with
    | val d => rw [h] at z; exact Rep.mono s2' z
    | slot j => rw [h] at z; exact z
    | new o => rw [h] at z; exact Rep.mono s2' z)
  have q2' := q2.mono s2'
  cases ca : cont (settle p.1) p2.2 with
  | none => simp only [ca] at q2'; exact q2'.elim
  | some da =>
    cases cb : cont (settle p2.1) p2.2 with
    | none => simp only [ca, cb] at q2'; exact q2'.elim
    | some db =>
      simp only [ca, cb] at q2'
      cases cg : g da db with
      | none => simp only [cg] at q2'; exact q2'.elim
      | some z =>
        simp only [cg] at q2'
        split at q2'
        · rename_i ez
          cases ez
          refine hg A F2' H2 σ p2.2 v1 v2 da db _ _ S2' (S2'.view k1' ca) (S2'.view r2' cb) cg fun F3 H3 v s3 S3 rz => ?_
          cases rz
          refine ⟨true, rfl, ?_⟩
          rw [if_pos rfl]
          refine rc A F3 H3 σ p2.2 _ S3 ((q2'.mono s3).afE fun p4 F4 H4 v4 s4 S4 r4 q4 => ?_)
          have k2 := (r2'.keep (F' := F4) (H' := H4) (env' := p4.2) (s3.trans s4))
          cases cb' : cont (settle p2.1) p4.2 with
          | none => simp only [cb'] at q4; exact q4.elim
          | some db' =>
            cases cc : cont p4.1 p4.2 with
            | none => simp only [cb', cc] at q4; exact q4.elim
            | some dc =>
              simp only [cb', cc] at q4
              split at q4
              · rename_i z' ez'
                exact hg' A F4 H4 σ p4.2 v2 v4 db' dc _ _ S4 (S4.view k2 cb') (S4.view r4 cc) ez' fun F' H' v a b c => q4 F' H' v a b c
              · exact q4.elim
        · rename_i ez
          cases ez
          refine hg A F2' H2 σ p2.2 v1 v2 da db _ _ S2' (S2'.view k1' ca) (S2'.view r2' cb) cg fun F3 H3 v s3 S3 rz => ?_
          cases rz
          refine ⟨false, rfl, ?_⟩
          rw [if_neg Bool.false_ne_true]
          exact q2' F3 H3 _ s3 S3 (.bl false)
        · exact q2'.elim
theorem ex_chain {op op' : CmpOp} {r r' : R2} {g g' : D → D → Option Arg} (ho : OpR X (compareOp op) r) (hg : BOk (kn X) r g) (ho' : OpR X (compareOp op') r') (hg' : BOk (kn X) r' g') (ha : EX X W a fa) (hb : EX X W b fb) (hc : EX X W c fc)
    (hm : lastMarks [op, op'] [b, c] = false := by with_unfolding_all rfl) : EX X W (.Compare a [op, op'] [b, c] pos) (vch g g' fa fb fc) :=
  let ⟨_, _, _, pa, pb, pc, h⟩ := vch_ok hg hg' ha hb hc
  ⟨_, pe_chain ho ho' pa pb pc hm, h⟩
theorem tx_chain {op op' : CmpOp} {r r' : R2} {g g' : D → D → Option Arg} (ho : OpR X (compareOp op) r) (hg : BOk (kn X) r g) (ho' : OpR X (compareOp op') r') (hg' : BOk (kn X) r' g') (ha : EX X W a fa) (hb : EX X W b fb) (hc : EX X W c fc)
    (hm : lastMarks [op, op'] [b, c] = false := by with_unfolding_all rfl) : TX X W (.Compare a [op, op'] [b, c] pos) (tst (vch g g' fa fb fc)) :=
  let ⟨_, _, _, pa, pb, pc, h⟩ := vch_ok hg hg' ha hb hc
  ⟨_, pt_chain ho ho' pa pb pc hm, tst_ok h⟩
end

/-! ### a, b = x, y -/
def fixS (x : Arg) (e : En) : Option (Arg × En) :=
  match x with
  | .slot j => (hold (.slot j) e).map fun p => (.val p.1, p.2)
  | x => some (x, e)
def evU : List FE → En → Res (List Arg × En)
  | [], e => .ok ([], e)
  | f :: fs, e => (f e).bind fun p => (match fixS p.1 p.2 with
    | some q => (evU fs q.2).bind fun r => .ok (q.1 :: r.1, r.2)
    | none => .no)
inductive RU (k : Kn) (A : Amb) (F H : Hp) (σ : L2.St) (env : En) : List Arg → List V → Prop
  | nil : RU k A F H σ env [] []
  | cons {x : Arg} {v : V} {xs : List Arg} {vs : List V} (r : RArg k A F H σ env x v) (ns : ∀ j, x ≠ .slot j) (nd : (∃ o, x = .new o) → ∀ (m : Nat) (o' : O) (v' : V), xs[m]? = some (.new o') → vs[m]? = some v' → v' ≠ v)
      (t : RU k A F H σ env xs vs) : RU k A F H σ env (x :: xs) (v :: vs)
def PostU (k : Kn) (A : Amb) (W : WP) (F : Hp) (σ : L2.St) (r : Res (List Arg × En)) (Q : List V → Hp → Prop) : Prop :=
  match r with
  | .ok p => ∀ F' H' vs, Sub F F' → Sta k A F' H' σ p.2 → RU k A F' H' σ p.2 p.1 vs → Q vs H'
  | .ex x e => W.w A F x e
  | .no => False
/-- an error wish that does not hang on what is kept -/
structure WP.Keep (W : WP) : Prop where
  keep : ∀ {A F x e p u}, W.w A F x e → W.w (A.keep p u) F x e
theorem W0.keep : W0.Keep := ⟨fun h => h⟩
def UX (X : Cx) (W : WP) (es : List Expr) (fs : List FE) : Prop :=
  ∃ t, PA X es t ∧ ∀ (A : Amb) (F H : Hp) (σ : L2.St) (env : En) (Q : List V → Hp → Prop), Sta (kn X) A F H σ env → PostU (kn X) A W F σ (evU fs env) Q → t σ H Q
section
variable {X : Cx} {W : WP} {pos : Pos} {e : Expr} {es : List Expr} {f : FE} {fs : List FE}
theorem ux_nil : UX X W [] [] := ⟨_, pa_nil, fun A F H σ env Q S q => q F H [] (.refl F) S .nil⟩
theorem RU.unkeep {k : Kn} {A : Amb} {F H : Hp} {σ : L2.St} {env : En} {p : Addr} {u : HO} (hK : A.Kp p = none) : ∀ {xs : List Arg} {vs : List V}, RU k (A.keep p u) F H σ env xs vs → RU k A F H σ env xs vs ∧ ∀ (m : Nat) (o : O) (v : V), xs[m]? = some (.new o) → vs[m]? = some v → v ≠ .ref p
  | _, _, .nil => ⟨.nil, fun m o v h => by simp at h⟩
  | _, _, .cons (x := x) (v := v) r ns nd t => by
    obtain ⟨t', h'⟩ := RU.unkeep hK t
    have kpp : (A.keep p u).Kp p = some u := upd_same
    have ne : ∀ {o}, x = .new o → v ≠ .ref p := fun {o} z w => by
      subst z; subst w
      obtain ⟨q, w, e, _, _, _, b, _⟩ := r
      cases e
      rw [kpp] at b; cases b
    have r' : RArg k A F H σ env x v := by
      cases x with
      | val d => exact r
      | slot j => exact r
      | new o =>
        obtain ⟨q, w, e, a1, a2, a3, b, c⟩ := r
        refine ⟨q, w, e, a1, a2, a3, ?_, c⟩
        have nq : q ≠ p := fun z => ne rfl (by rw [e, z])
        have b' : upd A.Kp p u q = none := b
        rwa [upd_ne nq] at b'
    refine ⟨.cons r' ns nd t', fun m o v' h1 h2 => ?_⟩
    cases m with
    | zero => simp at h1 h2; subst h2; exact ne h1
    | succ m => exact h' m o v' (by simpa using h1) (by simpa using h2)
theorem ux_cons (hW : W.Keep) (h : EX X W e f) (h' : UX X W es fs) (hs : starEach (e :: es) X.env = (false, eval e X.env) :: starEach es X.env := by rfl) : UX X W (e :: es) (f :: fs) := by
  obtain ⟨t, p, r⟩ := h
  obtain ⟨t', p', r'⟩ := h'
  refine ⟨_, pa_cons p p' hs, fun A F H σ env Q S q => r A F H σ env _ S ?_⟩
  simp only [evU] at q
  cases c : f env with
  | no => rw [c] at q; exact q.elim
  | ex x e => rw [c] at q; exact q
  | ok pp =>
    rw [c] at q
    simp only [Res.bind_ok] at q
    intro F1 H1 v1 s1 S1 r1
    cases cf : fixS pp.1 pp.2 with
    | none => rw [cf] at q; exact q.elim
    | some qq =>
      rw [cf] at q
      simp only at q
      -- what is held is new or frozen
      have base : ∃ F2, Sub F1 F2 ∧ Sta (kn X) A F2 H1 σ qq.2 ∧ RArg (kn X) A F2 H1 σ qq.2 qq.1 v1 ∧ ∀ j, qq.1 ≠ .slot j := by
        unfold fixS at cf
        split at cf
        · rename_i j hj
          cases ch : hold (.slot j) pp.2 with
          | none => rw [ch] at cf; cases cf
          | some d =>
            rw [ch] at cf; cases cf
            rw [hj] at r1
            obtain ⟨F2, a, b, c⟩ := S1.hold r1 (d := d.1) (env' := d.2) ch
            exact ⟨F2, a, b, c, fun j z => by cases z⟩
        · rename_i hn
          cases cf
          exact ⟨F1, .refl _, S1, r1, hn⟩
      obtain ⟨F2, s2, S2, r2, ns⟩ := base
      cases hx : qq.1 with
      | slot j => exact absurd hx (ns j)
      | val d =>
        rw [hx] at r2
        refine r' A F2 H1 σ qq.2 _ S2 ?_
        cases ct : evU fs qq.2 with
        | no => rw [ct] at q; exact q.elim
        | ex x e => rw [ct] at q; exact W.mono (s1.trans s2) q
        | ok rr =>
          rw [ct] at q
          intro F3 H3 vs s3 S3 r3
          refine q F3 H3 (v1 :: vs) ((s1.trans s2).trans s3) S3 ?_
          rw [hx]
          exact .cons (Rep.mono s3 r2) (fun j z => by cases z) (fun ⟨o, z⟩ => by cases z) r3
      | new o =>
        rw [hx] at r2
        obtain ⟨p0, u0, rfl, hp, ro, hF, hK, hO⟩ := r2
        have nF0 : A.F0 p0 = none := S2.f0.free hF
        refine r' (A.keep p0 u0) F2 H1 σ qq.2 _ (S2.keepIn hp hF hK hO) ?_
        cases ct : evU fs qq.2 with
        | no => rw [ct] at q; exact q.elim
        | ex x e => rw [ct] at q; exact hW.keep (W.mono (s1.trans s2) q)
        | ok rr =>
          rw [ct] at q
          intro F3 H3 vs s3 S3 r3
          obtain ⟨S4, hp4, hF4, hO4⟩ := S3.keepOut hK nF0
          obtain ⟨r4, h4⟩ := r3.unkeep hK
          refine q F3 H3 (V.ref p0 :: vs) ((s1.trans s2).trans s3) S4 ?_
          rw [hx]
          exact .cons ⟨p0, u0, rfl, hp4, ro.mono s3, hF4, hK, hO4⟩ (fun j z => by cases z) (fun _ m o' v' a b => h4 m o' v' a b) r4
end
def stores : List Nat → List Arg → En → Res En
  | [], [], e => .ok e
  | i :: is, x :: xs, e => (bindA i x e).bind fun e1 => stores is xs e1
  | _, _, _ => .no
theorem bindA_nx {i : Nat} {x : Arg} {e : En} {y : Exn} {z : En} : bindA i x e ≠ .ex y z := by
  intro c
  cases h : x <;> rw [h] at c <;> simp only [bindA, bindD] at c <;> (repeat' split at c) <;> cases c
theorem stores_nx : ∀ {is : List Nat} {xs : List Arg} {e : En} {y : Exn} {z : En}, stores is xs e ≠ .ex y z
  | [], [], e, y, z => by simp [stores]
  | [], _ :: _, e, y, z => by simp [stores]
  | _ :: _, [], e, y, z => by simp [stores]
  | i :: is, x :: xs, e, y, z => by
    simp only [stores]
    cases c : bindA i x e with
    | ok e1 => exact stores_nx
    | no => simp
    | ex _ _ => exact absurd c bindA_nx
/-- the slots behind several stores -/
def setAll (σ : L2.St) : List Nat → List V → L2.St
  | i :: is, v :: vs => setAll (σ.set i (some v)) is vs
  | _, _ => σ
theorem Sta.bindNS {k : Kn} {A : Amb} {F H : Hp} {σ : L2.St} {env env' : En} (S : Sta k A F H σ env) {i : Nat} {x : Arg} {v : V} (r : RArg k A F H σ env x v) (ns : ∀ j, x ≠ .slot j) (h : PL.bindA i x env = .ok env') :
    Sta k A F H (σ.set i (some v)) env' ∧ ∀ (j : Nat) (o : O) (p : Addr), OwnAt env' j o → (σ.set i (some v))[j]? = some (some (V.ref p)) → OwnAt env j o ∧ σ[j]? = some (some (V.ref p)) ∨ (∃ o', x = .new o') ∧ v = .ref p := by
  have key : ∃ sl, env' = env.set i (some sl) ∧ (∃ y, env[i]? = some y) ∧ ((∃ d, sl = .fz d) ∨ ∃ o, sl = .ow o ∧ x = .new o) := by
    cases x with
    | slot j => exact absurd rfl (ns j)
    | val d =>
      obtain ⟨y, e, _, z⟩ := bindD_ok h
      exact ⟨_, z, ⟨y, e⟩, .inl ⟨d, rfl⟩⟩
    | new o =>
      simp only [PL.bindA] at h
      split at h
      · cases h
      · cases h
      · rename_i n1 n2
        cases h
        refine ⟨_, rfl, ?_, .inr ⟨o, rfl, rfl⟩⟩
        cases e : env[i]? with
        | none => exact absurd e n2
        | some y => exact ⟨y, rfl⟩
  have SS : Sta k A F H (σ.set i (some v)) env' := by
    cases x with
    | slot j => exact absurd rfl (ns j)
    | val d => exact S.bindD r h
    | new o =>
      obtain ⟨p, u, rfl, hp, ro, hF, hK, hs⟩ := r
      simp only [PL.bindA] at h
      split at h
      · cases h
      · cases h
      · rename_i n1 n2
        cases h
        cases e : env[i]? with
        | none => exact absurd e n2
        | some y =>
          refine S.put e (fun o z => n1 o (by rw [e, z])) fun s' z => ?_
          cases z
          exact ⟨_, rfl, ⟨p, u, rfl, hp, ro⟩, (fun o z => by cases z), (fun _ q z => by cases z; exact ⟨hF, hK, hs⟩)⟩
  refine ⟨SS, fun j o p h1 h2 => ?_⟩
  obtain ⟨sl, rfl, ⟨y, hy⟩, hsl⟩ := key
  obtain ⟨z, hz⟩ := S.sthere hy
  by_cases q : j = i
  · subst q
    rw [sget_eq hz] at h2
    have : v = .ref p := by simpa using h2
    rcases hsl with ⟨d, rfl⟩ | ⟨o', rfl, hx⟩
    · rcases h1 with h1 | h1 <;> (rw [get_set_eq hy] at h1; cases h1)
    · exact .inr ⟨⟨o', hx⟩, this⟩
  · rw [sget_ne q] at h2
    refine .inl ⟨?_, h2⟩
    rcases h1 with h1 | h1
    · exact .inl (by rw [get_set_ne q] at h1; exact h1)
    · exact .inr (by rw [get_set_ne q] at h1; exact h1)
theorem Sta.stores {k : Kn} {A : Amb} {F H : Hp} {is : List Nat} : ∀ {xs : List Arg} {vs : List V} {σ : L2.St} {env env' : En}, Sta k A F H σ env → RU k A F H σ env xs vs → PL.stores is xs env = .ok env' → Sta k A F H (setAll σ is vs) env' := by
  induction is with
  | nil =>
    intro xs vs σ env env' S t h
    cases t with
    | nil => cases h; exact S
    | cons _ _ _ _ => cases h
  | cons i is ih =>
    intro xs vs σ env env' S t h
    cases t with
    | nil => cases h
    | cons r ns nd t =>
      rename_i x v xs vs
      simp only [PL.stores] at h
      cases c : PL.bindA i x env with
      | no => rw [c] at h; cases h
      | ex _ _ => rw [c] at h; cases h
      | ok e1 =>
        rw [c] at h
        obtain ⟨S1, h1⟩ := S.bindNS r ns c
        have go : ∀ {xs : List Arg} {vs : List V}, RU k A F H σ env xs vs → ((∃ o, x = .new o) → ∀ (m : Nat) (o' : O) (v' : V), xs[m]? = some (.new o') → vs[m]? = some v' → v' ≠ v) → RU k A F H (σ.set i (some v)) e1 xs vs := by
          intro xs vs t
          induction t with
          | nil => intro _; exact .nil
          | cons r' ns' nd' t' ih' =>
            intro nd
            refine .cons ?_ ns' nd' (ih' fun ho m o' v' a b => nd ho (m + 1) o' v' (by simpa using a) (by simpa using b))
            rename_i x' v' xs' vs'
            cases x' with
            | val d => exact r'
            | slot j => exact absurd rfl (ns' j)
            | new o =>
              obtain ⟨p, u, rfl, a1, a2, a3, a4, a5⟩ := r'
              refine ⟨p, u, rfl, a1, a2, a3, a4, fun j w b1 b2 => ?_⟩
              rcases h1 j w p b1 b2 with ⟨c1, c2⟩ | ⟨c1, c2⟩
              · exact a5 j w c1 c2
              · exact nd c1 0 o _ rfl rfl c2.symm
        exact ih S1 (go t nd) h
theorem st_len : ∀ {is : List Nat} {xs : List Arg} {e e' : En}, stores is xs e = .ok e' → xs.length = is.length
  | [], [], _, _, _ => rfl
  | [], _ :: _, _, _, h => by cases h
  | _ :: _, [], _, _, h => by cases h
  | i :: is, x :: xs, e, e', h => by
    simp only [stores] at h
    cases c : bindA i x e with
    | ok e1 => rw [c] at h; rw [List.length_cons, List.length_cons, st_len h]
    | no => rw [c] at h; cases h
    | ex _ _ => rw [c] at h; cases h
def spar (is : List Nat) (fs : List FE) : FS := fun env => (evU fs env).go fun p => (stores is p.1 p.2).go .nx
section
variable {X : Cx} {W : WP} {pos : Pos} {a b c : Expr} {fs : List FE}
theorem sx_par2 (i j : Nat) {x y : Str} {px py pt : Pos} {kt k2 : Nat} {pt2 : Pos} (hc : X.calm = true) (hN : X.N.Nodup) (h : UX X W [a, b] fs)
    (hw : swappedStores [.Tuple [.Name x px, .Name y py] kt pt] (.Tuple [a, b] k2 pt2) X.env = pure (some [x, y])) (hi : X.N[i]? = some x := by rfl) (hj : X.N[j]? = some y := by rfl) (hij : i ≠ j := by decide)
    (hx : X.env.scope.names.lookup x = some .local := by rfl) (hy : X.env.scope.names.lookup y = some .local := by rfl)
    (hs : swapsWithSole [.Tuple [.Name x px, .Name y py] kt pt] (.Tuple [a, b] k2 pt2) pos.line X.env = pure false := by rfl) :
    SX X W (.Assign [.Tuple [.Name x px, .Name y py] kt pt] (.Tuple [a, b] k2 pt2) pos) (spar [i, j] fs) := by
  obtain ⟨t, pa, ra⟩ := h
  refine ⟨_, ps_par hc hN hi hj hij hx hy pa hw hs, fun A F H σ env D S q => ?_⟩
  show t σ H fun vs H1 => ∃ v w, vs = [v, w] ∧ D.nx ((σ.set i (some v)).set j (some w)) H1
  refine ra A F H σ env _ S ?_
  simp only [spar] at q
  cases c : evU fs env with
  | no => rw [c] at q; exact q
  | ex x e => rw [c] at q; exact q
  | ok p =>
    rw [c] at q
    intro F1 H1 vs s1 S1 r1
    simp only [Res.go_ok] at q
    cases c2 : stores [i, j] p.1 p.2 with
    | no => rw [c2] at q; exact q.elim
    | ex _ _ => exact absurd c2 stores_nx
    | ok e1 =>
      rw [c2] at q
      have S2 := Sta.stores S1 r1 c2
      have hl := st_len c2
      obtain ⟨xs, e⟩ := p
      cases r1 with
      | nil => cases hl
      | cons r _ _ t1 => cases t1 with
        | nil => cases hl
        | cons r2 _ _ t2 => cases t2 with
          | nil => exact ⟨_, _, rfl, q F1 H1 _ s1 S2⟩
          | cons _ _ _ _ => cases hl
theorem sx_par3 (i j l : Nat) {x y z : Str} {px py pz pt : Pos} {kt k2 : Nat} {pt2 : Pos} (hc : X.calm = true) (hN : X.N.Nodup) (h : UX X W [a, b, c] fs)
    (hw : swappedStores [.Tuple [.Name x px, .Name y py, .Name z pz] kt pt] (.Tuple [a, b, c] k2 pt2) X.env = pure (some [x, y, z])) (hi : X.N[i]? = some x := by rfl) (hj : X.N[j]? = some y := by rfl) (hl : X.N[l]? = some z := by rfl)
    (hij : i ≠ j := by decide) (hil : i ≠ l := by decide) (hjl : j ≠ l := by decide)
    (hx : X.env.scope.names.lookup x = some .local := by rfl) (hy : X.env.scope.names.lookup y = some .local := by rfl) (hz : X.env.scope.names.lookup z = some .local := by rfl)
    (hs : swapsWithSole [.Tuple [.Name x px, .Name y py, .Name z pz] kt pt] (.Tuple [a, b, c] k2 pt2) pos.line X.env = pure false := by rfl) :
    SX X W (.Assign [.Tuple [.Name x px, .Name y py, .Name z pz] kt pt] (.Tuple [a, b, c] k2 pt2) pos) (spar [i, j, l] fs) := by
  obtain ⟨t, pa, ra⟩ := h
  refine ⟨_, ps_par3 hc hN hi hj hl hij hil hjl hx hy hz pa hw hs, fun A F H σ env D S q => ?_⟩
  show t σ H fun vs H1 => ∃ u v w, vs = [u, v, w] ∧ D.nx (((σ.set i (some u)).set j (some v)).set l (some w)) H1
  refine ra A F H σ env _ S ?_
  simp only [spar] at q
  cases c : evU fs env with
  | no => rw [c] at q; exact q
  | ex x e => rw [c] at q; exact q
  | ok p =>
    rw [c] at q
    intro F1 H1 vs s1 S1 r1
    simp only [Res.go_ok] at q
    cases c2 : stores [i, j, l] p.1 p.2 with
    | no => rw [c2] at q; exact q.elim
    | ex _ _ => exact absurd c2 stores_nx
    | ok e1 =>
      rw [c2] at q
      have S2 := Sta.stores S1 r1 c2
      have hl := st_len c2
      obtain ⟨xs, e⟩ := p
      cases r1 with
      | nil => cases hl
      | cons r _ _ t1 => cases t1 with
        | nil => cases hl
        | cons r2 _ _ t2 => cases t2 with
          | nil => cases hl
          | cons r3 _ _ t3 => cases t3 with
            | nil => exact ⟨_, _, _, rfl, q F1 H1 _ s1 S2⟩
            | cons _ _ _ _ => cases hl
end

/-! ### list(range(..)) -/
def lsRng1 (f : FE) : FE := fun env => (f env).bind fun p => match cont p.1 p.2 with
  | some (.int n) => if -(2 ^ 62) ≤ n ∧ n ≤ 2 ^ 24 then .ok (.new (.lst (dints 0 n.toNat)), p.2) else .no
  | _ => .no
def lsRng2 (f g : FE) : FE := fun env => (f env).bind fun p => (g p.2).bind fun q => match cont (settle p.1) q.2, cont q.1 q.2 with
  | some (.int i), some (.int j) => if -(2 ^ 62) ≤ i ∧ i < 2 ^ 62 ∧ -(2 ^ 62) ≤ j ∧ j < 2 ^ 62 ∧ (j - i).toNat ≤ 2 ^ 24 then .ok (.new (.lst (dints i (j - i).toNat)), q.2) else .no
  | _, _ => .no
theorem dints_reps {k : Kn} {F : Hp} (a b : Int) : Reps k F (dints a (b - a).toNat) (rgV a b) := by
  have go : ∀ l : List Nat, Reps k F (l.map fun (i : Nat) => D.int (a + (i : Int))) (l.map fun i => V.int (a + (i : Nat))) := by
    intro l
    induction l with
    | nil => exact .nil
    | cons i l ih => exact .cons (.int _) ih
  exact go _
section
variable {X : Cx} {W : WP} {a b : Expr} {f g : FE} {p pos p2 p3 : Pos}
theorem ex_lsRng1 (hc : X.calm = true) (hl : Gl X "list") (hml : X.mg "list" = none) (hg : Gl X "range") (hm : X.mg "range" = none) (h : EX X W a f) (na : starEach [a] X.env = (false, eval a X.env) :: starEach [] X.env := by rfl)
    (na2 : starEach [.Call (.Name "range" p2) [a] [] p] X.env = (false, eval (.Call (.Name "range" p2) [a] [] p) X.env) :: starEach [] X.env := by rfl) : EX X W (.Call (.Name "list" p3) [.Call (.Name "range" p2) [a] [] p] [] pos) (lsRng1 f) := by
  obtain ⟨t, pa, r⟩ := h
  refine ⟨_, pe_listRg hc hl hml (prg_1 hg hm pa na) na2, fun A F H σ env Q S q => r A F H σ env _ S (q.afE fun p F1 H1 v1 s1 S1 r1 q1 => ?_)⟩
  split at q1
  · rename_i n e
    split at q1
    · rename_i c
      have vw := S1.view r1 e
      cases vw.int
      refine ⟨n, rfl, ⟨by decide, by decide, c.1, Int.lt_of_le_of_lt c.2 (by decide), by omega⟩, ?_⟩
      have h := dints_reps (k := kn X) (F := F1) 0 n
      rw [Int.sub_zero] at h
      exact S1.newL h q1
    · exact q1.elim
  · exact q1.elim
theorem ex_lsRng2 (hc : X.calm = true) (hl : Gl X "list") (hml : X.mg "list" = none) (hg : Gl X "range") (hm : X.mg "range" = none) (ha : EX X W a f) (hb : EX X W b g) (na : starEach [a, b] X.env = (false, eval a X.env) :: starEach [b] X.env := by rfl)
    (nb : starEach [b] X.env = (false, eval b X.env) :: starEach [] X.env := by rfl) (hp : (backTo p (starEach [b] X.env)).any (·.1) = false := by rfl)
    (na2 : starEach [.Call (.Name "range" p2) [a, b] [] p] X.env = (false, eval (.Call (.Name "range" p2) [a, b] [] p) X.env) :: starEach [] X.env := by rfl) : EX X W (.Call (.Name "list" p3) [.Call (.Name "range" p2) [a, b] [] p] [] pos) (lsRng2 f g) := by
  obtain ⟨t, pa, r⟩ := ha
  obtain ⟨t', pb, r'⟩ := hb
  refine ⟨_, pe_listRg hc hl hml (prg_2 hg hm pa pb na nb hp) na2, fun A F H σ env Q S q => r A F H σ env _ S (q.afE fun p F1 H1 v1 s1 S1 r1 q1 => ?_)⟩
  obtain ⟨F1', s1', S1', r1'⟩ := S1.settle r1
  refine r' A F1' H1 σ p.2 _ S1' ((q1.mono s1').afE fun p2 F2 H2 v2 s2 S2 r2 q2 => ?_)
  have k1 := r1'.keep (F' := F2) (H' := H2) (env' := p2.2) s2
  split at q2
  · rename_i i j e1 e2
    split at q2
    · rename_i c
      have vw := S2.view k1 e1
      cases vw.int
      have vw2 := S2.view r2 e2
      cases vw2.int
      exact ⟨i, j, rfl, rfl, c, S2.newL (dints_reps i j) q2⟩
    · exact q2.elim
  · exact q2.elim
end
end PL

/-! PL: targets raise nothing; x += e. -/
namespace PL
open PySem PySem.Spec PyProof.Rows L2
theorem bindD_nx {i : Nat} : ∀ (d : D) (env : En) (x : Exn) (e : En), bindD i d env ≠ .ex x e := fun d env x e c => by
  unfold bindD at c; (repeat' split at c) <;> cases c
theorem tgNil_nx : ∀ (d : List D) (env : En) (x : Exn) (e : En), tgNil d env ≠ .ex x e := fun d env x e c => by
  cases d <;> cases c
theorem tgCons_nx {f : FG} {g : FGs} (h : ∀ (d : D) (env : En) (x : Exn) (e : En), f d env ≠ .ex x e) (h' : ∀ (d : List D) (env : En) (x : Exn) (e : En), g d env ≠ .ex x e) : ∀ (d : List D) (env : En) (x : Exn) (e : En), tgCons f g d env ≠ .ex x e := fun d env x e c => by
  cases d with
  | nil => cases c
  | cons a r =>
    simp only [tgCons] at c
    cases q : f a env with
    | ok e1 => rw [q] at c; exact h' _ _ _ _ c
    | no => rw [q] at c; cases c
    | ex _ _ => exact h _ _ _ _ q
theorem tgTup_nx {g : FGs} (h : ∀ (d : List D) (env : En) (x : Exn) (e : En), g d env ≠ .ex x e) : ∀ (d : D) (env : En) (x : Exn) (e : En), tgTup g d env ≠ .ex x e := fun d env x e c => by
  cases d <;> first | exact h _ _ _ _ c | cases c
/-- x op= e over whole numbers -/
def saug (g : Int → Int → Int) (i : Nat) (f : FE) : FS := fun env => match env[i]? with
  | some (some (.fz (.int _))) => (f env).go fun p => (match p.2[i]?, cont p.1 p.2 with
    | some (some (.fz (.int a))), some (.int b) => (bindD i (.int (g a b)) p.2).go .nx
    | _, _ => .no)
  | _ => .no
def saugAdd : Nat → FE → FS := saug (· + ·)
def saugSub : Nat → FE → FS := saug (· - ·)
section
variable {X : Cx} {W : WP} {pos : Pos} {e : Expr} {f : FE}
theorem saug_ok {g : Int → Int → Int} {i : Nat} {te : TE} (r : ∀ (A : Amb) (F H : Hp) (σ : L2.St) (env : En) (Q : VK), Sta (kn X) A F H σ env → PostE (kn X) A W F σ (f env) Q → te σ H Q) :
    ∀ (A : Amb) (F H : Hp) (σ : L2.St) (env : En) (D : Ends), Sta (kn X) A F H σ env → PostS (kn X) A W F (saug g i f env) D → tAug i te (ipI g) D σ H := by
  intro A F H σ env D S q
  unfold saug at q
  split at q
  · rename_i a0 e0
    obtain ⟨v, e1, rv⟩ := S.rel i _ e0
    cases rv
    refine ⟨_, e1, r A F H σ env _ S (q.afE fun p F1 H1 v1 s1 S1 r1 q1 => ?_)⟩
    split at q1
    · rename_i a b ea eb
      obtain ⟨v', e2, rv'⟩ := S1.rel i _ ea
      rw [e1] at e2; cases e2
      cases rv'
      have vw := S1.view r1 eb
      cases vw.int
      refine ⟨_, b, rfl, rfl, ?_⟩
      cases c : bindD i (.int (g a0 b)) p.2 with
      | ok e3 => rw [c] at q1; exact q1 F1 H1 _ (.refl _) (S1.bindD (.int _) c)
      | no => rw [c] at q1; exact q1.elim
      | ex _ _ => exact absurd c (bindD_nx _ _ _ _)
    · exact q1.elim
  · exact q.elim
theorem sx_augAdd (i : Nat) {x : Str} {px : Pos} (hN : X.N.Nodup) (h : EX X W e f) (hi : X.N[i]? = some x := by rfl) (hx : Loc X.env.scope x := by first | exact Or.inl rfl | exact Or.inr rfl)
    (hf : X.fn x = true ∨ X.env.scope.names.lookup x = some .local := by first | exact .inl rfl | exact .inr rfl | assumption) : SX X W (.AugAssign (.Name x px) .Add e pos) (saugAdd i f) := by
  obtain ⟨t, p, r⟩ := h
  exact ⟨_, ps_aug hN hi hx p ip_add hf, saug_ok r⟩
theorem sx_augSub (i : Nat) {x : Str} {px : Pos} (hN : X.N.Nodup) (h : EX X W e f) (hi : X.N[i]? = some x := by rfl) (hx : Loc X.env.scope x := by first | exact Or.inl rfl | exact Or.inr rfl)
    (hf : X.fn x = true ∨ X.env.scope.names.lookup x = some .local := by first | exact .inl rfl | exact .inr rfl | assumption) : SX X W (.AugAssign (.Name x px) .Sub e pos) (saugSub i f) := by
  obtain ⟨t, p, r⟩ := h
  exact ⟨_, ps_aug hN hi hx p ip_sub hf, saug_ok r⟩
end
end PL

/-! PL: slots are forgotten or frozen between the statements. -/
namespace PL
open PySem PySem.Spec PyProof.Rows L2
inductive Ad where
  | fz (i : Nat)
  | no (i : Nat)
def ad1 (a : Ad) (e : En) : En := match a with
  | .fz i => (match e[i]? with
    | some (some (.ow o)) => e.set i (some (.fz o.toD))
    | _ => e)
  | .no i => (match e[i]? with
    | some (some (.mu _)) => e
    | none => e
    | _ => e.set i none)
def adj : List Ad → En → En
  | [], e => e
  | a :: as, e => adj as (ad1 a e)
/-! adj in one pass, slot by slot -/
def adS (k : Nat) : List Ad → Option Sl → Option Sl
  | [], x => x
  | .fz i :: as, x => adS k as (match Nat.beq i k with
    | true => (match x with
      | some (.ow o) => some (.fz o.toD)
      | _ => x)
    | false => x)
  | .no i :: as, x => adS k as (match Nat.beq i k with
    | true => (match x with
      | some (.mu _) => x
      | _ => none)
    | false => x)
def adjA (k : Nat) (js : List Ad) : En → En
  | [] => []
  | x :: e => adS k js x :: adjA (k + 1) js e
theorem adjA_get (js : List Ad) : ∀ (e : En) (k i : Nat), (adjA k js e)[i]? = e[i]?.map (adS (k + i) js)
  | [], k, i => by simp [adjA]
  | x :: e, k, 0 => by simp [adjA]
  | x :: e, k, i + 1 => by
    simp only [adjA, List.getElem?_cons_succ]
    rw [adjA_get js e (k + 1) i, show k + 1 + i = k + (i + 1) by omega]
theorem adS_cons (k : Nat) (a : Ad) (as : List Ad) (x : Option Sl) : adS k (a :: as) x = adS k as (adS k [a] x) := by cases a <;> rfl
theorem ad1_get (a : Ad) (e : En) (i : Nat) : (ad1 a e)[i]? = e[i]?.map (adS i [a]) := by
  cases a with
  | fz j =>
    simp only [ad1, adS]
    by_cases h : j = i
    · subst h
      have hb : Nat.beq j j = true := Nat.beq_refl j
      rw [hb]
      cases c : e[j]? with
      | none => simp [c]
      | some x =>
        cases x with
        | none => simp [c]
        | some sl => cases sl <;> simp [c, List.getElem?_set_self']
    · have hb : Nat.beq j i = false := by cases q : Nat.beq j i with
        | true => exact absurd (Nat.eq_of_beq_eq_true q) h
        | false => rfl
      rw [hb]
      split <;> simp [List.getElem?_set_ne h]
  | no j =>
    simp only [ad1, adS]
    by_cases h : j = i
    · subst h
      have hb : Nat.beq j j = true := Nat.beq_refl j
      rw [hb]
      cases c : e[j]? with
      | none => simp [c]
      | some x =>
        cases x with
        | none => simp [c, List.getElem?_set_self']
        | some sl => cases sl <;> simp [c, List.getElem?_set_self']
    · have hb : Nat.beq j i = false := by cases q : Nat.beq j i with
        | true => exact absurd (Nat.eq_of_beq_eq_true q) h
        | false => rfl
      rw [hb]
      split <;> simp [List.getElem?_set_ne h]
theorem adj_A : ∀ (js : List Ad) (e : En), adj js e = adjA 0 js e
  | [], e => by
    apply List.ext_getElem?
    intro i
    rw [adjA_get]
    cases h : e[i]? with
    | none => simp [adj, h]
    | some x => simp [adj, adS, h]
  | a :: as, e => by
    show adj as (ad1 a e) = _
    rw [adj_A as]
    apply List.ext_getElem?
    intro i
    rw [adjA_get, adjA_get, Nat.zero_add, ad1_get]
    cases e[i]? with
    | none => rfl
    | some x => simp only [Option.map_some]; rw [adS_cons i a as x]
theorem adjR {js : List Ad} {e E : En} (h : adjA 0 js e = E) : adj js e = E := (adj_A js e).trans h
section
variable {k : Kn} {A : Amb} {F H : Hp} {σ : L2.St} {env : En}
theorem Sta.forget (S : Sta k A F H σ env) {i : Nat} (hm : ∀ o, env[i]? ≠ some (some (.mu o))) : Sta k A F H σ (env.set i none) := by
  have ge : ∀ {j : Nat} {sl : Sl}, (env.set i none)[j]? = some (some sl) → j ≠ i ∧ env[j]? = some (some sl) := fun {j sl} e => by
    by_cases q : j = i
    · subst q
      by_cases hl : j < env.length
      · rw [List.getElem?_set_self hl] at e; cases e
      · rw [List.getElem?_eq_none (by rw [List.length_set]; omega)] at e; cases e
    · exact ⟨q, by rw [get_set_ne q] at e; exact e⟩
  have go : ∀ {j : Nat} {o : O}, OwnAt (env.set i none) j o → OwnAt env j o := fun {j o} z => by
    rcases z with z | z
    · exact .inl (ge z).2
    · exact .inr (ge z).2
  exact ⟨S.sub, S.kp, S.f0, S.frz, fun j sl e => S.rel j sl (ge e).2, fun j o p a b => S.own j o p (go a) b, fun j j' o u p a b c d => S.dis j j' o u p (go a) (go b) c d, by rw [List.length_set]; exact S.len, fun j o e => S.mus j o (ge e).2⟩
theorem Sta.ad1 (S : Sta k A F H σ env) (a : Ad) : ∃ F', Sub F F' ∧ Sta k A F' H σ (PL.ad1 a env) := by
  cases a with
  | fz i =>
    simp only [PL.ad1]
    split
    · rename_i o e
      obtain ⟨F', v, h1, h2, _, _⟩ := S.frzAt e
      exact ⟨F', h1, h2⟩
    · exact ⟨F, .refl F, S⟩
  | no i =>
    simp only [PL.ad1]
    split
    · exact ⟨F, .refl F, S⟩
    · exact ⟨F, .refl F, S⟩
    · rename_i n _
      exact ⟨F, .refl F, S.forget fun o z => n o z⟩
end
theorem Sta.adj {k : Kn} {A : Amb} {H : Hp} {σ : L2.St} : ∀ (as : List Ad) {F : Hp} {env : En}, Sta k A F H σ env → ∃ F', Sub F F' ∧ Sta k A F' H σ (PL.adj as env)
  | [], F, env, S => ⟨F, .refl F, S⟩
  | a :: as, F, env, S => by
    obtain ⟨F1, s1, S1⟩ := S.ad1 a
    obtain ⟨F2, s2, S2⟩ := Sta.adj as S1
    exact ⟨F2, s1.trans s2, S2⟩
def RS.adj (as : List Ad) : RS → RS
  | .nx e => .nx (PL.adj as e)
  | .bk e => .bk (PL.adj as e)
  | .ct e => .ct (PL.adj as e)
  | .rt r e => .rt r e
  | .ex x e => .ex x e
  | .no => .no
def sadj (as : List Ad) (g : FS) : FS := fun env => (g env).adj as
def spre (as : List Ad) (g : FS) : FS := fun env => g (adj as env)
theorem PostS.adj {k : Kn} {A : Amb} {W : WP} {F : Hp} {r : RS} {D : Ends} {as : List Ad} (h : PostS k A W F (r.adj as) D) : PostS k A W F r D := by
  cases r with
  | nx e => exact fun F' H' σ' s S => let ⟨F2, s2, S2⟩ := Sta.adj as S; h F2 H' σ' (s.trans s2) S2
  | bk e => exact fun F' H' σ' s S => let ⟨F2, s2, S2⟩ := Sta.adj as S; h F2 H' σ' (s.trans s2) S2
  | ct e => exact fun F' H' σ' s S => let ⟨F2, s2, S2⟩ := Sta.adj as S; h F2 H' σ' (s.trans s2) S2
  | rt r e => exact h
  | ex x e => exact h
  | no => exact h
section
variable {X : Cx} {W : WP} {st : Stmt} {sts : List Stmt} {g : FS}
theorem sx_adj (as : List Ad) (h : SX X W st g) : SX X W st (sadj as g) := by
  obtain ⟨t, p, r⟩ := h
  exact ⟨t, p, fun A F H σ env D S q => r A F H σ env D S (PostS.adj q)⟩
theorem bx_adj (as : List Ad) (h : BX X W sts g) : BX X W sts (sadj as g) := by
  obtain ⟨t, p, r⟩ := h
  exact ⟨t, p, fun A F H σ env D S q => r A F H σ env D S (PostS.adj q)⟩
theorem sx_pre (as : List Ad) (h : SX X W st g) : SX X W st (spre as g) := by
  obtain ⟨t, p, r⟩ := h
  refine ⟨t, p, fun A F H σ env D S q => ?_⟩
  obtain ⟨F', s, S'⟩ := Sta.adj as S
  exact r A F' H σ _ D S' (PostS.mono s q)
theorem bx_pre (as : List Ad) (h : BX X W sts g) : BX X W sts (spre as g) := by
  obtain ⟨t, p, r⟩ := h
  refine ⟨t, p, fun A F H σ env D S q => ?_⟩
  obtain ⟨F', s, S'⟩ := Sta.adj as S
  exact r A F' H σ _ D S' (PostS.mono s q)
end
end PL

/-! PL: the set of a list of ints, sorted. -/
namespace PL
open PySem PySem.Spec PyProof.Rows L2
/-- a set without items, as it is laid -/
abbrev emptySet (w : World) : Obj := { cls := .type "set", dict := none, data := .set #[] 0 (.fresh 0 0 (!w.params.followText "set-order")) }
section
variable {P : Program} {w : World} {A : Around} {E : Value → Shared → Prop} {s : Shared}
/-- a set is filled from a list -/
theorem fill_list {S l : Addr} {xs : Array Value} {ns : List Int} {Q : Value → Shared → Prop} (hh : A.handled = none) (hS : s.heap.get? S = some (emptySet w)) (hl : s.heap.IsList l xs) (hx : IntsAre xs.toList ns) (hb : ns.length + 1 < scanBound)
    (k : ∀ (h : Heap) (t c : Nat), SetR w h S (fun j => decide (j ∈ ns)) c → c ≤ ns.length → (∀ b o, b ≠ S → s.heap.get? b = some o → h.get? b = some o) → Q .none { s with heap := h, toks := t }) :
    codeAny (model P w) A (.call (.builtin "set.__init__") ⟨[.ref S, .ref l], []⟩) (wants Q E) s := by
  have size_x : xs.size = ns.length := by
    have := IntsAre.length hx
    simpa using this
  have typ : s.TypeIs (.ref S) "set" := ⟨_, hS, rfl⟩
  have Sl : S ≠ l := by
    rintro rfl
    obtain ⟨o, h1, h2, _⟩ := hl
    rw [hS] at h1
    cases h1
    have bad : Value.type "set" = Value.type "list" := h2
    exact absurd bad (by decide)
  have each : ∀ (i : Nat) (v : Value), xs[i]? = some v → ∃ z t, ns[i]? = some z ∧ v = .int z t := by
    intro i v hv
    have lt : i < ns.length := size_x ▸ (Array.getElem?_eq_some_iff.mp hv).1
    obtain ⟨t, rfl⟩ := IntsAre.int_at hx i v (by rw [Array.getElem?_toList]; exact hv)
    exact ⟨ns.getD i 0, t, by simp [lt], rfl⟩
  refine codeAny_call_builtin F.called_set.init.plain F.entry_set_init (PySem.check_set_init_1 typ ?_)
  have copy := hl
  obtain ⟨⟨c0, d0, dt0, sl0⟩, at_l, e1, cap, e2⟩ := copy
  simp only at e1 e2
  subst e1 e2
  have no1 := F.sub_list_set
  have no2 := F.sub_list_frozenset
  have no3 : (Value.type "list" == Value.type "dict") = false := by decide
  unfold Builtin.«set.__init__» noKeywords Builtin.Frozenset.updateFrom
  generalize hold : pyIter = it
  wp_walk
  subst hold
  refine wpAny_pyIter_list hl (wpAny_bind (wpAny_runValue ?_))
  have ltS : S < s.heap.objs.size := Heap.lt_size hS
  have ltl : l < s.heap.objs.size := Heap.lt_size at_l
  have quiet : A.in1.in1.handled = none := by simp [hh]
  refine set_update_ints ((Walks.list quiet s.heap.objs.size l (Nat.ne_of_lt ltl) xs).toS) S ?out ns size_x hb each xs.size 0 _ (by omega) (Nat.zero_le _) ?begin ?start ?fin
  case begin => exact ⟨⟨_, Heap.get?_push_size _ rfl, rfl, rfl⟩, hl.push _⟩
  case start => exact ⟨0, Nat.le_refl 0, setR_new_at (Heap.get?_push_of_some _ hS)⟩
  case out =>
    simp only [List.mem_cons, List.not_mem_nil, or_false, not_or]
    exact ⟨Nat.ne_of_lt ltS, Sl⟩
  case fin =>
    rintro ⟨h, g, d, t, os⟩ c moved hc R
    have eg := moved.gens
    have ed := moved.drawn
    have eo := moved.os
    simp only at eg ed eo
    subst eg ed eo
    refine wpAny_pure ?_
    show wpAny _ _ (ret Value.none) _ _ _
    refine wpAny_pure (k h t c R (size_x ▸ hc) fun b o nb hbo => moved.heap b o ?_ (Heap.get?_push_of_some _ hbo))
    simp only [List.mem_cons, List.not_mem_nil, or_false, not_or]
    exact ⟨nb, Nat.ne_of_lt (Heap.lt_size hbo)⟩
/-- set(l) -/
theorem set_of_list {l : Addr} {xs : Array Value} {ns : List Int} {Q : Value → Shared → Prop} (hh : A.handled = none) (hl : s.heap.IsList l xs) (hx : IntsAre xs.toList ns) (hb : ns.length + 1 < scanBound)
    (k : ∀ (h : Heap) (t c : Nat), SetR w h s.heap.objs.size (fun j => decide (j ∈ ns)) c → c ≤ ns.length → (∀ b o, s.heap.get? b = some o → h.get? b = some o) → Q (.ref s.heap.objs.size) { s with heap := h, toks := t }) :
    wpAny (model P w) A (call (.type "set") [.ref l]) Q E s := by
  obtain ⟨c0, tl, ways⟩ := F.called_set.mro
  have made := F.called_set.made
  have below := F.called_set.sub
  have nt := F.called_set.notType
  have can := F.called_set.canCreate
  have chk1 := F.typeCall_set_1 (.ref l)
  refine wpAny_call (codeAny_of_tree ?_)
  show wpAny _ _ (callAny (.type "set") _) _ _ _
  refine wpAny_pure ⟨Code.quiet_builtin _ (by decide +kernel), codeAny_builtin F.entry_type_call ?_⟩
  rw [Around.under_plain (weight_type_call_type "set" [.ref l] []) rfl]
  repeat any_goals first | wp_step | assumption
  refine codeAny_mono (code_set_led1 (.ref l) (E := E) (Q₁ := fun v s1 => v = .ref s.heap.objs.size ∧ s1 = { s with heap := s.heap.push (emptySet w) }) ⟨rfl, rfl⟩) fun r s1 hr => ?_
  match r, hr with
  | .error _, hr => exact hr
  | .ok .next, hr => exact hr.elim
  | .ok .brk, hr => exact hr.elim
  | .ok .cont, hr => exact hr.elim
  | .ok (.ret v), hr =>
    obtain ⟨rfl, rfl⟩ := hr
    have at_S : (s.heap.push (emptySet w)).get? s.heap.objs.size = some (emptySet w) := Heap.get?_push_size _ rfl
    have typ : Shared.TypeIs { s with heap := s.heap.push (emptySet w) } (.ref s.heap.objs.size) "set" := ⟨_, at_S, rfl⟩
    have li := F.called_set.init.lookup
    have bi := F.called_set.init.bind (.ref s.heap.objs.size)
    repeat any_goals first | wp_step | assumption
    refine codeAny_mono (fill_list (E := E) (Q := fun v s2 => v = .none ∧ ∃ h t c, s2 = { s with heap := h, toks := t } ∧ SetR w h s.heap.objs.size (fun j => decide (j ∈ ns)) c ∧ c ≤ ns.length ∧ ∀ b o, s.heap.get? b = some o → h.get? b = some o) (by simp [hh]) at_S (hl.push _) hx hb
      fun h t c R hc old => ⟨rfl, h, t, c, rfl, R, hc, fun b o e => old b o (Nat.ne_of_lt (Heap.lt_size e)) (Heap.get?_push_of_some _ e)⟩) fun r2 s2 hr2 => ?_
    match r2, hr2 with
    | .error _, hr2 => exact hr2
    | .ok .next, hr2 => exact hr2.elim
    | .ok .brk, hr2 => exact hr2.elim
    | .ok .cont, hr2 => exact hr2.elim
    | .ok (.ret u), hr2 =>
      obtain ⟨rfl, h, t, c, rfl, R, hc, old⟩ := hr2
      repeat any_goals first | wp_step | assumption
      exact k h t c R hc old
end
section
variable {X : Cx}
def rSetL (K : PySem.W.Frag) (w : World) : List V → Hp → VK → Prop := fun xs H Q => ∃ (l : Addr) (ns : List Int), xs = [.ref l] ∧ SqL K H l (ns.map V.int) ∧ ns.length ≤ 1000 ∧
  ∀ (p : Addr) (c : Nat), H p = none → c ≤ ns.length → Q (.ref p) (upd H p (SetO w p (fun j => decide (j ∈ ns)) c))
theorem call_setL (hc : X.calm = true) : CallR X (.type "set") (rSetL X.K X.w) := by
  intro pins s σ H xs us Q I r h
  obtain ⟨l, ns, rfl, hq, hn, q⟩ := h
  rw [Vals.ref1 r]
  obtain ⟨its, rv, ⟨o, n, ho, hcl, _, hda⟩, _⟩ := I.list hq
  have at_l : s.heap.IsList l its.toArray := ⟨o, ho, hcl, n, hda⟩
  refine set_of_list (I.ok.hd hc) at_l (ints_of_vals rv) (by unfold scanBound; omega) fun h t c R hc' old => ?_
  have fresh : H s.heap.objs.size = none := I.hok.fresh (Nat.le_refl _)
  exact ⟨.ref _, _, I.laid (t' := t) old (Nat.le_refl _) (setO_new R), rfl, q _ c fresh hc'⟩
end
end PL

/-! PL: sorted(set(list of ints)). -/
namespace PL
open PySem PySem.Spec PyProof.Rows L2
/-- the members, each once, ascending -/
def ssort (is : List Int) : List Int := (sortI is).foldr (fun a l => if l.head? = some a then l else a :: l) []
theorem sortI_perm (is : List Int) : (sortI is).Perm is := List.mergeSort_perm _ _
theorem sortI_le (is : List Int) : (sortI is).Pairwise (· ≤ ·) := by
  have := List.pairwise_mergeSort (le := fun a b : Int => decide (a ≤ b)) (by intro a b c h1 h2; simp at *; omega) (by intro a b; simp; omega) is
  exact this.imp fun h => of_decide_eq_true h
theorem once_ok : ∀ l : List Int, l.Pairwise (· ≤ ·) → (l.foldr (fun a l => if l.head? = some a then l else a :: l) []).Pairwise (· < ·) ∧ ∀ k, k ∈ l.foldr (fun a l => if l.head? = some a then l else a :: l) [] ↔ k ∈ l
  | [], _ => ⟨.nil, fun k => Iff.rfl⟩
  | a :: l, h => by
    obtain ⟨h1, h2⟩ := List.pairwise_cons.mp h
    obtain ⟨i1, i2⟩ := once_ok l h2
    simp only [List.foldr_cons]
    split
    · rename_i q
      refine ⟨i1, fun k => ?_⟩
      have : a ∈ l := (i2 a).mp (List.mem_of_head? q)
      rw [i2 k, List.mem_cons]
      exact ⟨.inr, fun z => z.elim (fun z => z ▸ this) id⟩
    · rename_i q
      refine ⟨List.pairwise_cons.mpr ⟨fun b hb => ?_, i1⟩, fun k => by rw [List.mem_cons, List.mem_cons, i2 k]⟩
      have l1 := h1 b ((i2 b).mp hb)
      have : a ≠ b := fun z => by
        subst z
        refine q ?_
        cases c : l.foldr (fun a l => if l.head? = some a then l else a :: l) [] with
        | nil => rw [c] at hb; cases hb
        | cons x r =>
          rw [c] at hb i1
          have hx := h1 x ((i2 x).mp (by rw [c]; exact List.mem_cons_self))
          rcases List.mem_cons.mp hb with rfl | hb
          · rfl
          · have := (List.pairwise_cons.mp i1).1 a hb
            omega
      omega
theorem ssort_lt (is : List Int) : (ssort is).Pairwise (· < ·) := (once_ok _ (sortI_le is)).1
theorem ssort_mem (is : List Int) (k : Int) : k ∈ ssort is ↔ k ∈ is := ((once_ok _ (sortI_le is)).2 k).trans (sortI_perm is).mem_iff
theorem asc_one : ∀ {l m : List Int}, l.Pairwise (· < ·) → m.Pairwise (· < ·) → (∀ k, k ∈ l ↔ k ∈ m) → l = m
  | [], [], _, _, _ => rfl
  | [], b :: m, _, _, h => absurd ((h b).mpr List.mem_cons_self) (by simp)
  | a :: l, [], _, _, h => absurd ((h a).mp List.mem_cons_self) (by simp)
  | a :: l, b :: m, h1, h2, h => by
    obtain ⟨p1, p2⟩ := List.pairwise_cons.mp h1
    obtain ⟨q1, q2⟩ := List.pairwise_cons.mp h2
    have e : a = b := by
      rcases List.mem_cons.mp ((h a).mp List.mem_cons_self) with e | e
      · exact e
      · rcases List.mem_cons.mp ((h b).mpr List.mem_cons_self) with e' | e'
        · exact e'.symm
        · have := q1 a e; have := p1 b e'; omega
    subst e
    congr 1
    refine asc_one p2 q2 fun k => ⟨fun hk => ?_, fun hk => ?_⟩
    · rcases List.mem_cons.mp ((h k).mp (List.mem_cons_of_mem _ hk)) with e | e
      · have := p1 k hk; omega
      · exact e
    · rcases List.mem_cons.mp ((h k).mpr (List.mem_cons_of_mem _ hk)) with e | e
      · have := q1 k hk; omega
      · exact e
def cSsort : List D → Option Arg
  | [.lst ds] => (intsOf ds).bind fun is => if is.length < 64 then some (.new (.lst ((ssort is).map D.int))) else none
  | _ => none
section
variable {X : Cx} {W : WP} {pos p p2 q : Pos} {e : Expr} {fa : FA}
theorem ex_ssort (hc : X.calm = true) (hg1 : Gl X "sorted") (hm1 : X.mg "sorted" = none) (hg2 : Gl X "set") (hm2 : X.mg "set" = none) (h : AX X W [e] fa)
    (na : starEach [e] X.env = (false, eval e X.env) :: starEach [] X.env := by rfl)
    (na2 : starEach [.Call (.Name "set" p2) [e] [] q] X.env = (false, eval (.Call (.Name "set" p2) [e] [] q) X.env) :: starEach [] X.env := by rfl)
    (pl : (backTo q (starEach [] X.env)).any (·.1) = false := by rfl) (pl2 : (backTo pos (starEach [] X.env)).any (·.1) = false := by rfl) :
    EX X W (.Call (.Name "sorted" p) [.Call (.Name "set" p2) [e] [] q] [] pos) (cbn cSsort fa) := by
  obtain ⟨t, pa, r⟩ := h
  have p1 : PE X (.Call (.Name "set" p2) [e] [] q) _ := pe_callTy (call_setL hc) hg2 hm2 boot_set pa (by decide) (by decide) na pl
  refine ⟨_, pe_callB (cr_sortedSet hc) hg1 hm1 boot_sorted (pa_cons p1 pa_nil na2) (by decide) (by decide) na2 pl2, fun A F H σ env Q S q0 => ?_⟩
  refine r A F H σ env _ S (q0.afA fun pr F1 H1 vs s1 S1 r1 q1 => ?_)
  cases c : conts pr.1 pr.2 with
  | none => rw [c] at q1; exact q1.elim
  | some ds =>
    rw [c] at q1
    simp only [Option.bind_some] at q1
    split at q1
    · rename_i z ez
      have vw := S1.views r1 c
      unfold cSsort at ez
      split at ez
      · rename_i es
        cases ci : intsOf es with
        | none => rw [ci] at ez; cases ez
        | some is =>
          rw [ci] at ez
          simp only [Option.bind_some] at ez
          split at ez
          · rename_i h64
            cases ez
            obtain ⟨v, rfl, v1⟩ := vw.one
            obtain ⟨l, us, rfl, hl, ru⟩ := v1.lst S1.sub
            rw [intsOf_eq ci] at ru
            have eu := ru.ints
            subst eu
            refine ⟨l, is, rfl, SqL.of hl, by omega, fun a cn ha hcn => ?_⟩
            refine ⟨a, _, cn, rfl, upd_same, by omega, fun ns b hs hm hln hb => ?_⟩
            have e1 : ns = ssort is := asc_one hs (ssort_lt is) fun k => by rw [hm k, ssort_mem]; simp
            subst e1
            have S2 := S1.grow (u := SetO X.w a (fun j => decide (j ∈ is)) cn) ha
            exact S2.newL (ints_reps _) (fun F' H' v' x1 x2 x3 => q1 F' H' v' x1 x2 x3) b hb
          · cases ez
      · cases ez
    · exact q1.elim
end
end PL

/-! PL: xs[a:b] = row, del xs[a:b]. -/
namespace PL
open PySem PySem.Spec PyProof.Rows L2
section
variable {P : Program} {w : World} {A : Around} {E : Value → Shared → Prop} {s : Shared}
theorem bounds_any (lo hi : Option Int) (n : Nat) : sliceBounds lo hi none n = (((HT.sIx n 0 lo : Nat) : Int), ((HT.sIx n n hi : Nat) : Int), 1) := by
  obtain ⟨a, b, c⟩ := slice_bounds lo hi n
  exact Prod.ext a (Prod.ext b c)
theorem max_nat (a b : Nat) : (max (a : Int) (b : Int)).toNat = max a b := by omega
/-- a row (list, tuple) is laid in the place of a piece of a list -/
theorem lay_piece {l b sl : Addr} {xs ys : Array Value} {n : Nat} {T : String} {o : Obj} {m : Nat} {vl vu : Value} {lo hi : Option Int} {Q : Unit → Shared → Prop}
    (el : s.heap.get? l = some { cls := .type "list", data := .seq xs n }) (eb : s.heap.get? b = some o) (ct : o.cls = .type T) (dt : o.data = .seq ys m) (hT : T = "list" ∨ T = "tuple") (ne : l ≠ b)
    (es : s.heap.IsSliceOf sl vl vu .none) (p1 : IsPart vl lo) (p2 : IsPart vu hi) (room : xs.size + ys.size ≤ sizeLine)
    (k : Q () { s with heap := s.heap.update l (Obj.mapSeq fun zs => zs.extract 0 (HT.sIx xs.size 0 lo) ++ ys ++ zs.extract (max (HT.sIx xs.size 0 lo) (HT.sIx xs.size xs.size hi)) zs.size) }) :
    wpAny (model P w) A (setItem (.ref l) (.ref sl) (.ref b)) Q E s := by
  have isl : s.heap.IsList l xs := PySem.IsL.isList el
  have tb : s.TypeIs (.ref b) T := ⟨o, eb, ct⟩
  obtain ⟨os, e1, e2, e3⟩ := id es
  have tsl : s.TypeIs (.ref sl) "slice" := ⟨os, e1, e2⟩
  have other : Builtin.List.listSameRef (.ref l) (.ref b) = false := beq_eq_false_iff_ne.mpr ne
  have rowlike : ((Value.type T == Value.type "list") || (Value.type T == Value.type "tuple")) = true := by
    rcases hT with rfl | rfl <;> decide
  have small : ((fun zs : Array Value => zs.extract 0 (HT.sIx xs.size 0 lo) ++ ys ++ zs.extract (max (HT.sIx xs.size 0 lo) (HT.sIx xs.size xs.size hi)) zs.size) xs).size ≤ sizeLine + 1 := by
    have := HT.sIx_le xs.size 0 (Nat.zero_le _) lo
    simp only [Array.size_append, Array.size_extract]
    omega
  unfold setItem
  refine wpAny_holding (wpAny_bind (wpAny_sequenceKey isl.typeIs (by decide) (wpAny_bind (wpAny_callSpecial?_slot (name := Str.ofString "__setitem__") isl.typeIs slot_list_setitem (wpAny_call_entry slot_list_setitem isl.typeIs entry_list_setitem ?run (args_list_setitem _ _ _))))))
  case run =>
    show wpAny _ _ (Builtin.List.listSubscript? (.ref sl) >>= _) _ _ s
    unfold Builtin.List.listSubscript?
    refine wpAny_bind (wpAny_bind (wpAny_specialOf tsl slice_no_index ?_))
    simp only [Option.isNone_none, if_true]
    refine wpAny_pure ?_
    show wpAny _ _ (typeOf (.ref sl) >>= _) _ _ s
    refine wpAny_bind (wpAny_typeOf tsl ?_)
    rw [if_neg (by decide), listSliceParts_eq]
    refine wpAny_bind (wpAny_bind (wpAny_field e1 e3 (x := .none) rfl (wpAny_bind (wpAny_listPart .none ?_))))
    rw [if_neg (show ¬ ((rawPart none == rawInt 0) = true) from Bool.false_ne_true)]
    refine wpAny_bind (wpAny_field e1 e3 (x := vl) rfl (wpAny_bind (wpAny_listPart p1 ?_)))
    refine wpAny_bind (wpAny_field e1 e3 (x := vu) rfl (wpAny_bind (wpAny_listPart p2 (wpAny_pure ?_))))
    simp only [other, Bool.false_eq_true, if_false]
    refine wpAny_bind (m := Builtin.List.listAllItems (.ref b) "must assign iterable to extended slice") ?_
    unfold Builtin.List.listAllItems
    refine wpAny_bind (wpAny_typeOf tb ?_)
    rw [if_pos rowlike]
    unfold Builtin.List.listItems
    refine wpAny_bind (wpAny_seqItems eb dt (wpAny_pure ?_))
    refine wpAny_bind (wpAny_bind (wpAny_seqItems el rfl (wpAny_pure ?_)))
    refine wpAny_bind (wpAny_of_eq ((sliceIndices_raw lo hi none xs.size (by simp)).trans (congrArg (pure : Int × Int × Int → Sem (Int × Int × Int)) (bounds_any lo hi xs.size))) ?_)
    show wpAny _ _ (if ((1 : Int) == 1) = true then _ else _) _ _ s
    rw [if_pos (by decide)]
    refine wpAny_bind (wpAny_rule ?_)
    simp only [notLongL room, Bool.false_eq_true, if_false]
    first | refine wpAny_bind (wpAny_pure ?_) | skip
    show wpAny _ _ (updateSeq l (fun zs => zs.extract 0 ((HT.sIx xs.size 0 lo : Nat) : Int).toNat ++ ys ++ zs.extract (max ((HT.sIx xs.size 0 lo : Nat) : Int) ((HT.sIx xs.size xs.size hi : Nat) : Int)).toNat zs.size) >>= _) _ _ s
    rw [max_nat, Int.toNat_natCast]
    refine wpAny_bind (wpAny_updateSeq (hz := by omega) (_hz' := small) el rfl (wpAny_bind (wpAny_letGo ?_)))
    first
      | exact wpAny_pure ⟨.none, rfl, wpAny_pure k⟩
      | exact wpAny_bind (wpAny_pure (wpAny_pure ⟨.none, rfl, wpAny_pure k⟩))
theorem keep_piece {α : Type} (sel : Nat → Bool) (a c : Nat) (h : ∀ i, sel i = decide (a ≤ i ∧ i < c)) : ∀ (xs : List α) (i : Nat), (xs.zipIdx i).filterMap (fun p => if sel p.2 = true then none else some p.1) = xs.take (a - i) ++ xs.drop (max (a - i) (c - i))
  | [], i => by simp
  | x :: xs, i => by
    rw [List.zipIdx_cons, List.filterMap_cons, keep_piece sel a c h xs (i + 1)]
    by_cases q : a ≤ i ∧ i < c
    · have e : sel i = true := by rw [h]; exact decide_eq_true q
      simp only [e, if_true]
      have h1 : a - i = 0 := by omega
      have h2 : a - (i + 1) = 0 := by omega
      rw [h1, h2, List.take_zero, List.take_zero, Nat.zero_max, Nat.zero_max, show c - i = (c - (i + 1)) + 1 by omega, List.drop_succ_cons]
    · have e : sel i = false := by rw [h]; exact decide_eq_false q
      simp only [e, Bool.false_eq_true, if_false]
      by_cases q2 : i < a
      · rw [show a - i = (a - (i + 1)) + 1 by omega, List.take_succ_cons]
        have : max ((a - (i + 1)) + 1) (c - i) = max (a - (i + 1)) (c - (i + 1)) + 1 := by omega
        rw [this, List.drop_succ_cons, List.cons_append]
      · have h1 : a - i = 0 := by omega
        have h2 : a - (i + 1) = 0 := by omega
        have h3 : c - i = 0 := by omega
        have h4 : c - (i + 1) = 0 := by omega
        rw [h1, h2, h3, h4]; simp
/-- a piece of a list goes -/
theorem drop_piece {l sl : Addr} {xs : Array Value} {n : Nat} {vl vu : Value} {lo hi : Option Int} {Q : Unit → Shared → Prop} (el : s.heap.get? l = some { cls := .type "list", data := .seq xs n }) (room : xs.size ≤ sizeLine)
    (es : s.heap.IsSliceOf sl vl vu .none) (p1 : IsPart vl lo) (p2 : IsPart vu hi)
    (k : ∀ f : Array Value → Array Value, f xs = (xs.toList.take (HT.sIx xs.size 0 lo) ++ xs.toList.drop (max (HT.sIx xs.size 0 lo) (HT.sIx xs.size xs.size hi))).toArray → Q () { s with heap := s.heap.update l (Obj.mapSeq f) }) :
    wpAny (model P w) A (delItem (.ref l) (.ref sl)) Q E s := by
  have isl : s.heap.IsList l xs := PySem.IsL.isList el
  obtain ⟨os, e1, e2, e3⟩ := id es
  have tsl : s.TypeIs (.ref sl) "slice" := ⟨os, e1, e2⟩
  unfold delItem
  refine wpAny_holding (wpAny_bind (wpAny_sequenceKey isl.typeIs (by decide) (wpAny_bind (wpAny_callSpecial?_slot (name := Str.ofString "__delitem__") isl.typeIs PySem.F.slot_list_delitem (wpAny_call_entry PySem.F.slot_list_delitem isl.typeIs PySem.F.entry_list_delitem ?run (PySem.F.args_list_delitem_2 _ _))))))
  case run =>
    show wpAny _ _ (Builtin.List.listSubscript? (.ref sl) >>= _) _ _ s
    unfold Builtin.List.listSubscript?
    refine wpAny_bind (wpAny_bind (wpAny_specialOf tsl slice_no_index ?_))
    simp only [Option.isNone_none, if_true]
    refine wpAny_pure ?_
    show wpAny _ _ (typeOf (.ref sl) >>= _) _ _ s
    refine wpAny_bind (wpAny_typeOf tsl ?_)
    rw [if_neg (by decide), listSliceParts_eq]
    refine wpAny_bind (wpAny_bind (wpAny_field e1 e3 (x := .none) rfl (wpAny_bind (wpAny_listPart .none ?_))))
    rw [if_neg (show ¬ ((rawPart none == rawInt 0) = true) from Bool.false_ne_true)]
    refine wpAny_bind (wpAny_field e1 e3 (x := vl) rfl (wpAny_bind (wpAny_listPart p1 ?_)))
    refine wpAny_bind (wpAny_field e1 e3 (x := vu) rfl (wpAny_bind (wpAny_listPart p2 (wpAny_pure ?_))))
    unfold Builtin.List.listItems
    refine wpAny_bind (wpAny_bind (wpAny_seqItems el rfl (wpAny_pure ?_)))
    refine wpAny_bind (wpAny_of_eq ((sliceIndices_raw lo hi none xs.size (by simp)).trans (congrArg (pure : Int × Int × Int → Sem (Int × Int × Int)) (bounds_any lo hi xs.size))) ?_)
    dsimp only
    refine wpAny_bind (wpAny_rule ?_)
    refine wpAny_bind (m := updateSeq l _) (wpAny_updateSeq (hz := room) (_hz' := ?sz) el rfl ?fin)
    case sz =>
      rw [List.size_toArray]
      exact Nat.le_trans (List.length_filterMap_le _ _) (by simp; omega)
    case fin =>
      refine wpAny_bind (wpAny_letGo (wpAny_pure ⟨.none, rfl, wpAny_pure (k _ ?_)⟩))
      congr 1
      refine (keep_piece _ (HT.sIx xs.size 0 lo) (HT.sIx xs.size xs.size hi) (fun i => ?_) xs.toList 0).trans (by simp)
      show (if (1 : Int) > 0 then decide (((HT.sIx xs.size 0 lo : Nat) : Int) ≤ (i : Int)) && decide ((i : Int) < ((HT.sIx xs.size xs.size hi : Nat) : Int)) && ((i : Int) - ((HT.sIx xs.size 0 lo : Nat) : Int)) % 1 == 0 else _) = _
      rw [if_pos (by decide)]
      have z : ((i : Int) - ((HT.sIx xs.size 0 lo : Nat) : Int)) % 1 = 0 := Int.emod_one _
      rw [z]
      simp only [beq_self_eq_true, Bool.and_true, Bool.decide_and]
      congr 1 <;> (simp)
end
end PL

/-! PL: sorted pairs; enumerate and zip; methods that change nothing; max and min of a list; in. -/
namespace PL
open PySem PySem.Spec PyProof.Rows L2
/-! ### sorted of pairs of ints -/
/-- the pair that lies at a place -/
def pairAt (h : Heap) : Value → Int × Int
  | .ref a => (match h.get? a with
    | some o => (match o.data with
      | .seq its _ => (match its.toList with
        | [.int i _, .int j _] => (i, j)
        | _ => (0, 0))
      | _ => (0, 0))
    | none => (0, 0))
  | _ => (0, 0)
def leP (p q : Int × Int) : Bool := !SrtO.lexB q p
def rSrtP (K : PySem.W.Frag) : List V → Hp → VK → Prop := fun vs H Q => ∃ (a : Addr) (zs : List (V × (Int × Int))), vs = [V.ref a] ∧ SqL K H a (zs.map (·.1)) ∧
  (∀ z ∈ zs, ∃ t, z.1 = V.ref t ∧ SqT K H t [.int z.2.1, .int z.2.2]) ∧
  ∀ (ys : List (V × (Int × Int))) (p : Addr), ys.Perm zs → (ys.map (·.2)).Pairwise (fun p q => leP p q = true) → H p = none → Q (.ref p) (upd H p (.lst (ys.map (·.1))))
section
variable {X : Cx}
theorem vals_pairs {pins : List (Addr × Obj)} {σ : L2.St} {H : Hp} {s : Shared} (I : Inv X pins σ H s) : ∀ {zs : List (V × (Int × Int))} {us : List Value}, Vals (zs.map (·.1)) us → (∀ z ∈ zs, ∃ t, z.1 = V.ref t ∧ SqT X.K H t [.int z.2.1, .int z.2.2]) →
    zs = us.map (fun u => (backV u, pairAt s.heap u)) ∧ ∀ u ∈ us, Srt.IsPair s.heap u (pairAt s.heap u).1 (pairAt s.heap u).2 ∧ ∃ a, u = Value.ref a
  | [], us, h, hz => by cases h; exact ⟨rfl, fun _ m => nomatch m⟩
  | z :: zs, us, h, hz => by
    cases h with
    | cons r t =>
      rename_i u us
      obtain ⟨i1, i2⟩ := vals_pairs I t fun y hy => hz y (List.mem_cons_of_mem _ hy)
      obtain ⟨a, e, q⟩ := hz z List.mem_cons_self
      have r : L2.RelV z.1 u := r
      rw [e] at r
      obtain rfl : u = Value.ref a := r
      obtain ⟨its, rv, ⟨o, ho, hc, n, hd⟩, _⟩ := I.tuple q
      obtain ⟨u1, u2, rfl, r1, r2⟩ := vals2 rv
      obtain ⟨t1, rfl⟩ := r1
      obtain ⟨t2, rfl⟩ := r2
      have e2 : pairAt s.heap (.ref a) = z.2 := by
        simp only [pairAt, ho, hd]
      refine ⟨?_, fun v hv => ?_⟩
      · rw [List.map_cons, ← i1, e2]
        show z :: zs = (V.ref a, z.2) :: zs
        rw [← e]
      · rcases List.mem_cons.mp hv with rfl | hv
        · refine ⟨⟨a, o, t1, t2, n, rfl, ho, hc, ?_⟩, a, rfl⟩
          rw [e2]; exact hd
        · exact i2 v hv
theorem cr_srtP : CallR X (.builtin "sorted") (rSrtP X.K) := by
  intro pins s σ H vs us Q I r h
  obtain ⟨a, zs, rfl, hs, hz, q⟩ := h
  obtain ⟨its, rv, hl, hn⟩ := I.list hs
  obtain ⟨u, rfl, ru⟩ := vals1 r
  obtain rfl : u = Value.ref a := ru
  obtain ⟨e1, e2⟩ := vals_pairs I rv hz
  have hlen : its.length ≤ sizeLine := by rw [← rv.length]; exact hn
  refine SrtO.sorted_pairsO (k := pairAt s.heap) hl.isList hlen (fun v hv => (e2 v hv).1) fun h' d out so st keep hd hnew => ?_
  obtain ⟨n, hnew⟩ := hnew
  have mem : ∀ u ∈ out, ∃ a, u = Value.ref a := fun u hu => (e2 u (st.perm.mem_iff.mp hu)).2
  have ev : (out.map fun u => (backV u, pairAt s.heap u)).map (·.1) = out.map backV := by simp [List.map_map, Function.comp_def]
  have ok : ObjOk X.prog X.w (upd H d (.lst (out.map backV))) h' d (.lst (out.map backV)) := by
    refine ⟨?_, out, n, vals_back mem, hnew⟩
    rw [List.length_map, st.perm.length_eq]; exact hlen
  refine ⟨.ref d, upd H d (.lst (out.map backV)), I.laid (t' := s.toks) keep hd ok, rfl, ?_⟩
  have := q (out.map fun u => (backV u, pairAt s.heap u)) d (by rw [e1]; exact st.perm.map _) ?_ (I.hok.fresh hd)
  · rw [ev] at this; exact this
  · rw [List.map_map]
    refine List.pairwise_map.mpr (so.imp fun {x y} hxy => ?_)
    show (!SrtO.lexB (pairAt s.heap y) (pairAt s.heap x)) = true
    have hxy : SrtO.lexB (pairAt s.heap y) (pairAt s.heap x) = false := hxy
    rw [hxy]; rfl
end
def prD (p : Int × Int) : D := .tup [.int p.1, .int p.2]
def prsOf : List D → Option (List (Int × Int))
  | [] => some []
  | .tup [.int i, .int j] :: r => (prsOf r).map ((i, j) :: ·)
  | _ => none
theorem prsOf_map : ∀ ps : List (Int × Int), prsOf (ps.map prD) = some ps
  | [] => rfl
  | p :: ps => by simp [prsOf, prD, prsOf_map ps]
theorem prsOf_eq : ∀ {ds : List D} {ps : List (Int × Int)}, prsOf ds = some ps → ds = ps.map prD
  | [], ps, h => by cases h; rfl
  | d :: ds, ps, h => by
    unfold prsOf at h
    split at h
    · rename_i e; cases e
    · rename_i i j r e
      cases e
      cases c : prsOf ds with
      | none => rw [c] at h; cases h
      | some js => rw [c] at h; cases h; rw [prsOf_eq c]; rfl
    · cases h
def sortP (ps : List (Int × Int)) : List (Int × Int) := ps.mergeSort leP
theorem leP_iff {p q : Int × Int} : leP p q = true ↔ p.1 < q.1 ∨ (p.1 = q.1 ∧ p.2 ≤ q.2) := by
  unfold leP
  rw [Bool.not_eq_true', SrtO.lexB_no]
  omega
theorem sortP_pw (ps : List (Int × Int)) : (sortP ps).Pairwise fun p q => leP p q = true :=
  List.pairwise_mergeSort (le := leP) (fun a b c h1 h2 => by rw [leP_iff] at *; omega) (fun a b => by rw [Bool.or_eq_true, leP_iff, leP_iff]; omega) ps
theorem sortP_perm (ps : List (Int × Int)) : (sortP ps).Perm ps := List.mergeSort_perm _ _
theorem sortP_one {ps qs : List (Int × Int)} (h1 : qs.Perm ps) (h2 : qs.Pairwise fun p q => leP p q = true) : qs = sortP ps :=
  List.Perm.eq_of_pairwise (le := fun p q => leP p q = true) (fun a b _ _ h1 h2 => by rw [leP_iff] at h1 h2; exact Prod.ext (by omega) (by omega)) h2 (sortP_pw ps) (h1.trans (sortP_perm ps).symm)
def cSortP : List D → Option Arg
  | [.lst ds] => (prsOf ds).map fun ps => .new (.lst ((sortP ps).map prD))
  | _ => none
section
variable {k : Kn}
theorem reps_zip {F : Hp} : ∀ {ps : List (Int × Int)} {us : List V}, Reps k F (ps.map prD) us → ∃ zs : List (V × (Int × Int)), zs.map (·.1) = us ∧ zs.map (·.2) = ps ∧ ∀ z ∈ zs, Rep k F (prD z.2) z.1
  | [], us, h => by cases h; exact ⟨[], rfl, rfl, fun _ m => nomatch m⟩
  | p :: ps, us, h => by
    cases h with
    | cons a b =>
      obtain ⟨zs, e1, e2, h3⟩ := reps_zip b
      refine ⟨(_, p) :: zs, by rw [List.map_cons, e1], by rw [List.map_cons, e2], fun z hz => ?_⟩
      rcases List.mem_cons.mp hz with rfl | hz
      · exact a
      · exact h3 z hz
theorem reps_of {F : Hp} : ∀ {zs : List (V × (Int × Int))}, (∀ z ∈ zs, Rep k F (prD z.2) z.1) → Reps k F ((zs.map (·.2)).map prD) (zs.map (·.1))
  | [], _ => .nil
  | z :: zs, h => .cons (h z List.mem_cons_self) (reps_of fun y hy => h y (List.mem_cons_of_mem _ hy))
theorem rep_pr {F : Hp} {i j : Int} {v : V} (h : Rep k F (.tup [.int i, .int j]) v) : ∃ t, v = V.ref t ∧ SqT k.K F t [.int i, .int j] := by
  cases h with
  | tup a b =>
    cases b with
    | cons b1 b2 =>
      cases b1
      cases b2 with
      | cons b2 b3 =>
        cases b2; cases b3
        exact ⟨_, rfl, a⟩
theorem cok_sortP : COk k (rSrtP k.K) cSortP := by
  intro A F H σ env vs ds z Q S va e q
  unfold cSortP at e
  split at e
  · rename_i ds
    obtain ⟨v, rfl, vw⟩ := va.one
    cases c : prsOf ds with
    | none => rw [c] at e; cases e
    | some ps =>
      rw [c] at e; cases e
      obtain ⟨p, us, rfl, hp, r⟩ := vw.lst S.sub
      rw [prsOf_eq c] at r
      obtain ⟨zs, rfl, rfl, hz⟩ := reps_zip r
      refine ⟨p, zs, rfl, SqL.of hp, fun z hm => ?_, fun ys l h1 h2 hl => ?_⟩
      · obtain ⟨t, e1, e2⟩ := rep_pr (hz z hm)
        exact ⟨t, e1, S.sub.t e2⟩
      · have e3 := sortP_one (h1.map _) h2
        simp only at q
        rw [← e3] at q
        exact S.newL (reps_of fun z hm => hz z (h1.mem_iff.mp hm)) q l hl
  · cases e
/-! ### max and min of a list of ints -/
def maxL : List Int → Int
  | [] => 0
  | [a] => a
  | a :: l => max a (maxL l)
def minL : List Int → Int
  | [] => 0
  | [a] => a
  | a :: l => min a (minL l)
theorem maxL_mem : ∀ {l : List Int}, l ≠ [] → maxL l ∈ l ∧ ∀ y ∈ l, y ≤ maxL l
  | [], h => absurd rfl h
  | [a], _ => ⟨List.mem_singleton.mpr rfl, fun y hy => by rw [List.mem_singleton.mp hy]; exact Int.le_refl _⟩
  | a :: b :: l, _ => by
    obtain ⟨h1, h2⟩ := maxL_mem (l := b :: l) (by simp)
    show max a (maxL (b :: l)) ∈ _ ∧ ∀ y ∈ _, y ≤ max a (maxL (b :: l))
    refine ⟨?_, fun y hy => ?_⟩
    · rcases Int.le_total a (maxL (b :: l)) with h | h
      · rw [Int.max_eq_right h]; exact List.mem_cons_of_mem _ h1
      · rw [Int.max_eq_left h]; exact List.mem_cons_self
    · rcases List.mem_cons.mp hy with rfl | hy
      · omega
      · have := h2 y hy; omega
theorem minL_mem : ∀ {l : List Int}, l ≠ [] → minL l ∈ l ∧ ∀ y ∈ l, minL l ≤ y
  | [], h => absurd rfl h
  | [a], _ => ⟨List.mem_singleton.mpr rfl, fun y hy => by rw [List.mem_singleton.mp hy]; exact Int.le_refl _⟩
  | a :: b :: l, _ => by
    obtain ⟨h1, h2⟩ := minL_mem (l := b :: l) (by simp)
    show min a (minL (b :: l)) ∈ _ ∧ ∀ y ∈ _, min a (minL (b :: l)) ≤ y
    refine ⟨?_, fun y hy => ?_⟩
    · rcases Int.le_total a (minL (b :: l)) with h | h
      · rw [Int.min_eq_left h]; exact List.mem_cons_self
      · rw [Int.min_eq_right h]; exact List.mem_cons_of_mem _ h1
    · rcases List.mem_cons.mp hy with rfl | hy
      · omega
      · have := h2 y hy; omega
def cMaxL : List D → Option Arg
  | [.lst ds] => (intsOf ds).bind fun is => if is = [] then none else some (.val (.int (maxL is)))
  | _ => none
def cMinL : List D → Option Arg
  | [.lst ds] => (intsOf ds).bind fun is => if is = [] then none else some (.val (.int (minL is)))
  | _ => none
theorem cok_maxL : COk k (rMax k.K) cMaxL := by
  intro A F H σ env vs ds z Q S va e q
  unfold cMaxL at e
  split at e
  · rename_i ds
    obtain ⟨v, rfl, vw⟩ := va.one
    cases c : intsOf ds with
    | none => rw [c] at e; cases e
    | some is =>
      rw [c] at e
      by_cases hn : is = []
      · simp [hn] at e
      · simp only [Option.bind_some, if_neg hn, Option.some.injEq] at e
        cases e
        obtain ⟨p, us, rfl, hp, r⟩ := vw.lst S.sub
        rw [intsOf_eq c] at r
        have := r.ints
        subst this
        obtain ⟨m1, m2⟩ := maxL_mem hn
        refine ⟨p, is, rfl, SqL.of hp, List.length_pos_iff.mpr hn, fun m hm hy => ?_⟩
        have e2 : m = maxL is := by have := m2 m hm; have := hy _ m1; omega
        rw [e2]
        exact q F H _ (.refl _) S (.int _)
  · cases e
theorem cok_minL : COk k (rMin k.K) cMinL := by
  intro A F H σ env vs ds z Q S va e q
  unfold cMinL at e
  split at e
  · rename_i ds
    obtain ⟨v, rfl, vw⟩ := va.one
    cases c : intsOf ds with
    | none => rw [c] at e; cases e
    | some is =>
      rw [c] at e
      by_cases hn : is = []
      · simp [hn] at e
      · simp only [Option.bind_some, if_neg hn, Option.some.injEq] at e
        cases e
        obtain ⟨p, us, rfl, hp, r⟩ := vw.lst S.sub
        rw [intsOf_eq c] at r
        have := r.ints
        subst this
        obtain ⟨m1, m2⟩ := minL_mem hn
        refine ⟨p, is, rfl, SqL.of hp, List.length_pos_iff.mpr hn, fun m hm hy => ?_⟩
        have e2 : m = minL is := by have := m2 m hm; have := hy _ m1; omega
        rw [e2]
        exact q F H _ (.refl _) S (.int _)
  · cases e
/-! ### an int in a list or tuple of ints -/
def gIn (neg : Bool) : D → D → Option Arg
  | .int i, .lst ds => (intsOf ds).map fun is => .val (.bl (if neg then !decide (i ∈ is) else decide (i ∈ is)))
  | .int i, .tup ds => (intsOf ds).map fun is => .val (.bl (if neg then !decide (i ∈ is) else decide (i ∈ is)))
  | _, _ => none
theorem inV_ints (i : Int) : ∀ is : List Int, inV (.int i) (is.map V.int) = decide (i ∈ is)
  | [] => rfl
  | j :: is => by
    have h : inV (.int i) ((j :: is).map V.int) = ((j == i) || inV (.int i) (is.map V.int)) := rfl
    rw [h, inV_ints i is]
    by_cases c : j = i
    · subst c; simp
    · have c' : ¬ i = j := fun h => c h.symm
      simp [c, c']
theorem flat_ints : ∀ is : List Int, (is.map V.int).all flatV = true
  | [] => rfl
  | j :: is => by rw [List.map_cons, List.all_cons, flat_ints is]; rfl
theorem bok_in (neg : Bool) : BOk k (rIn k.K neg) (gIn neg) := by
  intro A F H σ env x y a b z Q S va vb e q
  unfold gIn at e
  split at e
  · rename_i i ds
    cases c : intsOf ds with
    | none => rw [c] at e; cases e
    | some is =>
      rw [c] at e; cases e
      obtain ⟨p, us, rfl, hp, r⟩ := vb.lst S.sub
      rw [intsOf_eq c] at r
      have := r.ints
      subst this
      cases va.int
      refine ⟨p, _, rfl, .inl (SqL.of hp), rfl, flat_ints is, ?_⟩
      rw [inV_ints]
      exact q F H _ (.refl _) S (.bl _)
  · rename_i i ds
    cases c : intsOf ds with
    | none => rw [c] at e; cases e
    | some is =>
      rw [c] at e; cases e
      obtain ⟨p, us, rfl, hp, r⟩ := vb.tup
      rw [intsOf_eq c] at r
      have := r.ints
      subst this
      cases va.int
      refine ⟨p, _, rfl, .inr (S.sub.t hp), rfl, flat_ints is, ?_⟩
      rw [inV_ints]
      exact q F H _ (.refl _) S (.bl _)
  · cases e
end
/-! ### methods that change nothing -/
def pmt (ok : D → Bool) (g : D → List D → Option Arg) (fe : FE) (ga : FA) : FE := fun env => (fe env).bind fun p => match settle p.1 with
  | .val a => if ok a = true then (ga p.2).bind fun q => (match (conts q.1 q.2).bind (g a) with
    | some z => .ok (z, q.2)
    | none => .no) else .no
  | _ => .no
def POk (k : Kn) (r : V → List V → Hp → VK → Prop) (g : D → List D → Option Arg) : Prop :=
  ∀ (A : Amb) (F H : Hp) (σ : L2.St) (env : En) (x : V) (vs : List V) (a : D) (ds : List D) (z : Arg) (Q : VK), Sta k A F H σ env → Rep k F a x → Vws k F H ds vs → g a ds = some z →
    (∀ F' H' v, Sub F F' → Sta k A F' H' σ env → RArg k A F' H' σ env z v → Q v H') → r x vs H Q
def isLst : D → Bool
  | .lst _ => true
  | _ => false
def isStr : D → Bool
  | .str _ => true
  | _ => false
def TyOk (k : Kn) (T : String) (ok : D → Bool) : Prop := ∀ (F H : Hp) (a : D) (x : V), Sub F H → Rep k F a x → ok a = true → tyV k.K T x H
theorem ty_lst {k : Kn} : TyOk k "list" isLst := by
  intro F H a x s r h
  cases r <;> try cases h
  rename_i p vs ds r1 r2
  exact .inl ⟨rfl, _, SqL.of (s _ _ r1)⟩
theorem ty_str {k : Kn} : TyOk k "str" isStr := by
  intro F H a x s r h
  cases r <;> try cases h
  rfl
section
variable {X : Cx} {W : WP} {e o : Expr} {es : List Expr} {fa : FA} {fo : FE} {name : Str} {apos cpos : Pos} {T id : String} {r : V → List V → Hp → VK → Prop} {g : D → List D → Option Arg} {ok : D → Bool}
theorem ex_pm (pa : PlainAttrs T) (hg : POk (kn X) r g) (hT : TyOk (kn X) T ok) (slot : Slot T name id) (hty : typeOf (.builtin id) = pure (.type "method_descriptor")) (hm : MtR X id r) (ho : EX X W o fo) (ha : AX X W (e :: es) fa)
    (hbase : attributeBase o name X.env (eval o X.env) = eval o X.env := by rfl)
    (hfew : ((backTo cpos (starEach (e :: es) X.env)).all (fun x => !x.1) && (backToKw cpos (keywordEach [] X.env)).all (fun x => x.1.isSome)
      && decide ((e :: es).length + ([] : List Keyword).length + (if ([] : List Keyword).isEmpty then 0 else 1) < 30)) = true := by rfl)
    (hline : (apos.endLine == cpos.line) = true := by rfl) (hs : starEach (e :: es) X.env = (false, eval e X.env) :: starEach es X.env := by rfl) (hplain : (backTo cpos (starEach es X.env)).any (·.1) = false := by rfl) :
    EX X W (.Call (.Attribute o name apos) (e :: es) [] cpos) (pmt ok g fo fa) := by
  obtain ⟨to, po, ro⟩ := ho
  obtain ⟨t, pt, ra⟩ := ha
  refine ⟨_, pe_bm pa slot hty hm po pt hbase hfew hline hs hplain, fun A F H σ env Q S q => ro A F H σ env _ S (q.afE fun p F1 H1 v1 s1 S1 r1 q1 => ?_)⟩
  obtain ⟨F1', s1', S1', r1'⟩ := S1.settle r1
  have q1 := q1.mono s1'
  split at q1
  · rename_i a ea
    split at q1
    · rename_i hok
      rw [ea] at r1'
      have r1' : Rep (kn X) F1' a v1 := r1'
      refine ⟨hT F1' H1 a v1 S1'.sub r1' hok, ra A F1' H1 σ p.2 _ S1' (q1.afA fun p2 F2 H2 vs s2 S2 r2 q2 => ?_)⟩
      cases c : conts p2.1 p2.2 with
      | none => simp only [c, Option.bind_none] at q2; exact q2.elim
      | some ds =>
        simp only [c, Option.bind_some] at q2
        split at q2
        · rename_i z ez
          exact hg A F2 H2 σ p2.2 v1 vs a ds z Q S2 (r1'.mono s2) (S2.views r2 c) ez fun F' H' v a b c => q2 F' H' v a b c
        · exact q2.elim
    · exact q1.elim
  · exact q1.elim
end
theorem no_before {i j : Int} : ∀ {is : List Int} {m : Nat}, m < is.idxOf i → is[m]? = some j → (j == i) = false
  | [], m, h, _ => by simp at h
  | a :: is, m, h, e => by
    rw [List.idxOf_cons] at h
    by_cases c : (a == i) = true
    · rw [c] at h; simp at h
    · have c' : (a == i) = false := by simpa using c
      rw [c'] at h
      cases m with
      | zero => cases e; exact c'
      | succ m => exact no_before (m := m) (by simpa using h) (by simpa using e)
/-- where an int lies first -/
def pIndex : D → List D → Option Arg
  | .lst ds, [.int i] => (intsOf ds).bind fun is => if i ∈ is then some (.val (.int (is.idxOf i : Nat))) else none
  | _, _ => none
theorem pok_index {k : Kn} : POk k (rIndex k.K) pIndex := by
  intro A F H σ env x vs a ds z Q S ra va e q
  unfold pIndex at e
  split at e
  · rename_i ds i
    cases c : intsOf ds with
    | none => rw [c] at e; cases e
    | some is =>
      rw [c] at e
      simp only [Option.bind_some] at e
      split at e
      · rename_i hm
        cases e
        obtain ⟨v, rfl, vw⟩ := va.one
        cases vw.int
        cases ra with
        | lst h1 h2 =>
          rw [intsOf_eq c] at h2
          have := h2.ints
          subst this
          have hlt := List.idxOf_lt_length_iff.mpr hm
          refine ⟨_, _, _, is.idxOf i, .int i, rfl, rfl, SqL.of (S.sub _ _ h1), rfl, flat_ints is, ?_, ?_, fun m z' hm' hz' => ?_, q F H _ (.refl _) S (.int _)⟩
          · rw [List.getElem?_map, List.getElem?_eq_getElem hlt, List.getElem_idxOf hlt]; rfl
          · show (i == i) = true
            simp
          · rw [List.getElem?_map] at hz'
            obtain ⟨j, hj, rfl⟩ := Option.map_eq_some_iff.mp hz'
            show (j == i) = false
            exact no_before hm' hj
      · cases e
  · cases e
/-! ### enumerate -/
def enumD (ds : List D) : List D := ds.zipIdx.map fun p => .tup [.int (p.2 : Nat), p.1]
def itEnum (g : FA) : FI := fun env => (g env).bind fun p => match holds p.1 p.2 with
  | some ([.lst ds], e) => .ok (enumD ds, e)
  | _ => .no
theorem enumD_get {ds : List D} {i : Nat} {d : D} (h : (enumD ds)[i]? = some d) : ∃ x, ds[i]? = some x ∧ d = .tup [.int (i : Nat), x] := by
  unfold enumD at h
  rw [List.getElem?_map, List.getElem?_zipIdx] at h
  cases c : ds[i]? with
  | none => rw [c] at h; cases h
  | some x => rw [c] at h; simp at h; exact ⟨x, rfl, h.symm⟩
theorem feeds_enum {k : Kn} {F : Hp} {a : Addr} {vs : List V} {ds : List D} (h : F a = some (.lst vs)) (r : Reps k F ds vs) : Feeds k F (enumD ds) (Ite k.K a) := by
  intro F2 H2 s1 s2 i
  have hq : SqL k.K H2 a vs := SqL.of (s2 _ _ (s1 _ _ h))
  have r2 := r.mono s1
  refine ⟨fun d e => ?_, fun e => ⟨vs, hq, by rw [r.len]; simpa [enumD] using e⟩⟩
  obtain ⟨x, ex, rfl⟩ := enumD_get e
  obtain ⟨v, ev, rv⟩ := r2.get ex
  refine ⟨⟨vs, v, hq, ev⟩, fun y H3 hy => .inr ?_⟩
  obtain ⟨T, x', e1, e2, e3, e4⟩ := hy
  have e5 := e4 vs hq
  rw [ev] at e5
  cases e5
  exact ⟨T, [.int (i : Nat), v], _, e1, e2, e3, rfl, .cons (.int _) (.cons rv .nil)⟩
section
variable {X : Cx} {W : WP} {pos p tpos : Pos} {e : Expr} {elts : List Expr} {kk : Nat} {g : FA}
theorem ix_enum (hg : Gl X "enumerate") (hm : X.mg "enumerate" = none) (h : AX X W [e] g) (hs : starEach [e] X.env = [(false, eval e X.env)] := by rfl) : IX X W (.Tuple elts kk tpos) (.Call (.Name "enumerate" p) [e] [] pos) (itEnum g) := by
  obtain ⟨t, pa, r⟩ := h
  refine ⟨_, pi_enum hg hm pa hs, fun A F H σ env R S q => r A F H σ env _ S (q.afA fun p F1 H1 vs s1 S1 r1 q1 => ?_)⟩
  split at q1
  · rename_i ds e1 eh
    obtain ⟨F2, s2, S2, r2⟩ := S1.holds r1 (ds := [.lst ds]) (env' := e1) eh
    cases r2 with
    | cons a b =>
      cases b
      cases a with
      | lst a b => exact ⟨_, _, rfl, SqL.of (S2.sub _ _ a), q1 F2 H1 _ s2 S2 (feeds_enum a b)⟩
  · exact q1.elim
end
end PL

/-! PL: how many different ones a list of ints has. -/
namespace PL
open PySem PySem.Spec PyProof.Rows L2
def rLenSet (w : World) : List V → Hp → VK → Prop := fun xs H Q => ∃ (a : Addr) (S : Int → Bool) (n : Nat), xs = [.ref a] ∧ H a = some (SetO w a S n) ∧
  ((∃ ks : List Int, ks.Nodup ∧ (∀ k, k ∈ ks ↔ S k = true) ∧ ks.length = n) → Q (.int (n : Nat)) H)
section
variable {X : Cx}
theorem cr_lenSet : CallR X (.builtin "len") (rLenSet X.w) := by
  intro pins s σ H xs us Q I r h
  obtain ⟨a, S, n, rfl, ha, q⟩ := h
  rw [Vals.ref1 r]
  obtain ⟨o, es, ep, t, ho, hex, hd, hg, hnd, hm, hsz, hf, hn, _⟩ := setO_get I ha
  refine call_len_set ho hex hd hf (by unfold scanBound at hsz; omega) ⟨.int n, H, I.tok _, ⟨_, by rw [hn]⟩, q ⟨_, hnd, fun k => (hm k).symm, ?_⟩⟩
  simp [← hn]
end
def cLenset : List D → Option Arg
  | [.lst ds] => (intsOf ds).bind fun is => if is.length ≤ 1000 then some (.val (.int ((ssort is).length : Nat))) else none
  | _ => none
theorem len_sub : ∀ {l m : List Int}, l.Nodup → (∀ k ∈ l, k ∈ m) → l.length ≤ m.length
  | [], m, _, _ => Nat.zero_le _
  | a :: l, m, h, s => by
    obtain ⟨h1, h2⟩ := List.nodup_cons.mp h
    have ha := s a List.mem_cons_self
    have := len_sub (l := l) (m := m.erase a) h2 fun k hk => (List.mem_erase_of_ne (by rintro rfl; exact h1 hk)).mpr (s k (List.mem_cons_of_mem _ hk))
    rw [List.length_erase_of_mem ha] at this
    have := List.length_pos_of_mem ha
    simp only [List.length_cons]
    omega
theorem same_len {l m : List Int} (h1 : l.Nodup) (h2 : m.Nodup) (h : ∀ k, k ∈ l ↔ k ∈ m) : l.length = m.length :=
  Nat.le_antisymm (len_sub h1 fun k hk => (h k).mp hk) (len_sub h2 fun k hk => (h k).mpr hk)
section
variable {X : Cx} {W : WP} {e : Expr} {fa : FA} {p p2 q pos : Pos}
theorem ex_lenset (hc : X.calm = true) (hg1 : Gl X "len") (hm1 : X.mg "len" = none) (hg2 : Gl X "set") (hm2 : X.mg "set" = none) (h : AX X W [e] fa)
    (na : starEach [e] X.env = (false, eval e X.env) :: starEach [] X.env := by rfl)
    (na2 : starEach [.Call (.Name "set" p2) [e] [] q] X.env = (false, eval (.Call (.Name "set" p2) [e] [] q) X.env) :: starEach [] X.env := by rfl)
    (pl : (backTo q (starEach [] X.env)).any (·.1) = false := by rfl) (pl2 : (backTo pos (starEach [] X.env)).any (·.1) = false := by rfl) :
    EX X W (.Call (.Name "len" p) [.Call (.Name "set" p2) [e] [] q] [] pos) (cbn cLenset fa) := by
  obtain ⟨t, pa, r⟩ := h
  have p1 : PE X (.Call (.Name "set" p2) [e] [] q) _ := pe_callTy (call_setL hc) hg2 hm2 boot_set pa (by decide) (by decide) na pl
  refine ⟨_, pe_callB cr_lenSet hg1 hm1 boot_len (pa_cons p1 pa_nil na2) (by decide) (by decide) na2 pl2, fun A F H σ env Q S q0 => ?_⟩
  refine r A F H σ env _ S (q0.afA fun pr F1 H1 vs s1 S1 r1 q1 => ?_)
  cases c : conts pr.1 pr.2 with
  | none => rw [c] at q1; exact q1.elim
  | some ds =>
    rw [c] at q1
    simp only [Option.bind_some] at q1
    split at q1
    · rename_i z ez
      have vw := S1.views r1 c
      unfold cLenset at ez
      split at ez
      · rename_i es
        cases ci : intsOf es with
        | none => rw [ci] at ez; cases ez
        | some is =>
          rw [ci] at ez
          simp only [Option.bind_some] at ez
          split at ez
          · rename_i h64
            cases ez
            obtain ⟨v, rfl, v1⟩ := vw.one
            obtain ⟨l, us, rfl, hl, ru⟩ := v1.lst S1.sub
            rw [intsOf_eq ci] at ru
            have eu := ru.ints
            subst eu
            refine ⟨l, is, rfl, SqL.of hl, h64, fun a cn ha hcn => ?_⟩
            refine ⟨a, _, cn, rfl, upd_same, fun hk => ?_⟩
            obtain ⟨ks, h1, h2, h3⟩ := hk
            have e1 : cn = (ssort is).length := by
              rw [← h3]
              refine same_len h1 ((ssort_lt is).imp fun h => by omega) fun k => ?_
              rw [h2 k, ssort_mem]; simp
            subst e1
            have S2 := S1.grow (u := SetO X.w a (fun j => decide (j ∈ is)) (ssort is).length) ha
            exact q1 F1 _ _ (.refl _) S2 (.int _)
          · cases ez
      · cases ez
    · exact q1.elim
end
end PL

/-! PL: instances: made, read, written. -/
namespace PL
open PySem PySem.Spec PyProof.Rows L2
section
variable {k : Kn} {A : Amb} {F H : Hp} {σ : L2.St} {env : En}
/-- one slot more: a new instance without fields -/
theorem Sta.extI (S : Sta k A F H σ env) {c : Str} {C x dx : Addr} (hc : k.mg c = some (.ref C)) (hx : H x = none) (hd : H dx = none) (ne : dx ≠ x) :
    Sta k A F (upd (upd H dx (.own x)) x (.ins C dx [])) (σ ++ [some (.ref x)]) (env ++ [some (.ow (.inst c [] []))]) := by
  have hx' : upd H dx (.own x) x = none := by rw [upd_ne (Ne.symm ne)]; exact hx
  have S1 : Sta k A F (upd (upd H dx (.own x)) x (.ins C dx [])) σ env := (S.grow hd).grow hx'
  have old : ∀ {i : Nat} {sl : Option Sl}, i < env.length → (env ++ [some (.ow (.inst c [] []))])[i]? = some sl → env[i]? = some sl ∧ (σ ++ [some (V.ref x)])[i]? = σ[i]? := fun {i sl} h e => by
    rw [List.getElem?_append_left h] at e
    exact ⟨e, List.getElem?_append_left (by rw [S.len]; exact h)⟩
  have lim : ∀ {i : Nat} {sl : Option Sl}, (env ++ [some (.ow (.inst c [] []))])[i]? = some sl → i < env.length ∨ (i = env.length ∧ sl = some (.ow (.inst c [] [])) ∧ (σ ++ [some (V.ref x)])[i]? = some (some (V.ref x))) := fun {i sl} e => by
    by_cases h : i < env.length
    · exact .inl h
    · have hi := (List.getElem?_eq_some_iff.mp e).1
      simp only [List.length_append, List.length_singleton] at hi
      have hi' : i = env.length := by omega
      subst hi'
      rw [List.getElem?_append_right (Nat.le_refl _), Nat.sub_self] at e
      refine .inr ⟨rfl, (Option.some.inj e).symm, ?_⟩
      rw [← S.len, List.getElem?_append_right (Nat.le_refl _), Nat.sub_self]; rfl
  have ow : ∀ {i : Nat} {o : O}, OwnAt (env ++ [some (.ow (.inst c [] []))]) i o → (OwnAt env i o ∧ (σ ++ [some (V.ref x)])[i]? = σ[i]?) ∨ (i = env.length ∧ (σ ++ [some (V.ref x)])[i]? = some (some (V.ref x))) := fun {i o} e => by
    rcases e with e | e <;> rcases lim e with h | ⟨h1, h2, h3⟩
    · exact .inl ⟨.inl (old h e).1, (old h e).2⟩
    · exact .inr ⟨h1, h3⟩
    · exact .inl ⟨.inr (old h e).1, (old h e).2⟩
    · cases h2
  have nx : ∀ {i : Nat} {o : O}, OwnAt env i o → σ[i]? ≠ some (some (V.ref x)) := fun {i o} a e => by
    obtain ⟨q, u, e1, hq, _⟩ := S.at a
    rw [e1] at e; cases e; rw [hx] at hq; cases hq
  refine ⟨S1.sub, S1.kp, S1.f0, S1.frz, fun i sl e => ?_, fun i o p a b => ?_, fun i j o u p a b c d => ?_, by simp [S.len], fun i o e => ?_⟩
  · rcases lim e with h | ⟨h1, h2, h3⟩
    · rw [(old h e).2]; exact S1.rel i sl (old h e).1
    · cases h2
      exact ⟨.ref x, h3, x, _, rfl, upd_same, .inst (fs := []) hc .nil⟩
  · rcases ow a with ⟨a', e⟩ | ⟨_, e⟩
    · rw [e] at b; exact S1.own i o p a' b
    · rw [e] at b; cases b
      exact ⟨S.sub.free hx, S.kp.free hx⟩
  · rcases ow a with ⟨a', e⟩ | ⟨h1, e⟩ <;> rcases ow b with ⟨b', e'⟩ | ⟨h2, e'⟩
    · rw [e] at c; rw [e'] at d; exact S1.dis i j o u p a' b' c d
    · rw [e] at c; rw [e'] at d; cases d; exact absurd c (nx a')
    · rw [e] at c; rw [e'] at d; cases c; exact absurd d (nx b')
    · rw [h1, h2]
  · rcases lim e with h | ⟨h1, h2, h3⟩
    · rw [(old h e).2]; exact S1.mus i o (old h e).1
    · cases h2
/-- one slot less -/
theorem Sta.cut {y : Option V} {e : En} (S : Sta k A F H (σ ++ [y]) e) : Sta k A F H σ (e.take σ.length) := by
  have hl : e.length = σ.length + 1 := by rw [← S.len]; simp
  have old : ∀ {i : Nat} {sl : Option Sl}, (e.take σ.length)[i]? = some sl → e[i]? = some sl ∧ (σ ++ [y])[i]? = σ[i]? := fun {i sl} h => by
    have hi := (List.getElem?_eq_some_iff.mp h).1
    rw [List.length_take] at hi
    rw [List.getElem?_take, if_pos (by omega)] at h
    exact ⟨h, List.getElem?_append_left (by omega)⟩
  have ow : ∀ {i : Nat} {o : O}, OwnAt (e.take σ.length) i o → OwnAt e i o ∧ (σ ++ [y])[i]? = σ[i]? := fun {i o} a => by
    rcases a with a | a
    · exact ⟨.inl (old a).1, (old a).2⟩
    · exact ⟨.inr (old a).1, (old a).2⟩
  refine ⟨S.sub, S.kp, S.f0, S.frz, fun i sl h => ?_, fun i o p a b => ?_, fun i j o u p a b c d => ?_, by rw [List.length_take]; omega, fun i o h => ?_⟩
  · rw [← (old h).2]; exact S.rel i sl (old h).1
  · rw [← (ow a).2] at b; exact S.own i o p (ow a).1 b
  · rw [← (ow a).2] at c; rw [← (ow b).2] at d; exact S.dis i j o u p (ow a).1 (ow b).1 c d
  · rw [← (old h).2]; exact S.mus i o (old h).1
theorem RPas.ext {y : Option V} : ∀ {ps : List Pa} {vs : List V}, RPas k F σ ps vs → RPas k F (σ ++ [y]) ps vs
  | _, _, .nil => .nil
  | _, _, .cons (p := p) h t => by
    refine .cons ?_ (RPas.ext t)
    cases p with
    | hd d => exact h
    | bo j =>
      have h : σ[j]? = _ := h
      show (σ ++ [y])[j]? = _
      rw [List.getElem?_append_left (List.getElem?_eq_some_iff.mp h).1]; exact h
    | mt j =>
      have h : σ[j]? = _ := h
      show (σ ++ [y])[j]? = _
      rw [List.getElem?_append_left (List.getElem?_eq_some_iff.mp h).1]; exact h
end
/-- c(..): a new instance, worked on by its __init__ -/
def mkF (c : Str) (ms : List Md) (f : FFn) (fa : FA) : FE := fun env => (fa env).bind fun p => match prep ms p.1 p.2 with
  | some (ps, e) => (match slsOf (e ++ [some (.ow (.inst c [] []))]) (.mt e.length :: ps) with
    | some as => if okPa (.mt e.length :: ps) = true then (match f as with
      | .ok (.fz .non) os => if clean (.mt e.length :: ps) (e ++ [some (.ow (.inst c [] []))]) (.fz .non) os = true then (match applyO (.mt e.length :: ps) os (e ++ [some (.ow (.inst c [] []))]) with
        | some e' => (match e'[e.length]? with
          | some (some (.ow o)) => .ok (.new o, e'.take e.length)
          | _ => .no)
        | none => .no) else .no
      | _ => .no) else .no
    | none => .no)
  | none => .no
section
variable {X : Cx} {W : WP} {k : Nat} {f C : Addr} {fd : FuncData} {pn : List Str} {x c : Str} {p pos : Pos} {e : Expr} {es : List Expr} {fa : FA} {fn : FFn}
theorem prep_len : ∀ {ms : List Md} {xs : List Arg} {e : En} {q : List Pa × En}, prep ms xs e = some q → q.1.length = ms.length
  | [], xs, e, q, h => by cases xs <;> cases h; rfl
  | m :: ms, [], e, q, h => by cases h
  | m :: ms, x :: xs, e, q, h => by
    simp only [prep] at h
    split at h
    · split at h
      · rename_i e2
        cases h
        rw [List.length_cons, List.length_cons, prep_len e2]
      · cases h
    · cases h
theorem mkF_ok {ms : List Md} {t : TA} {n : Nat} (hn : ms.length + 1 = n) (hc : X.mg c = some (.ref C)) (ra : ∀ (A : Amb) (F H : Hp) (σ : L2.St) (env : En) (Q : List V → Hp → Prop), Sta (kn X) A F H σ env → PostA (kn X) A W F σ (fa env) Q → t σ H Q) :
    ∀ (A : Amb) (F H : Hp) (σ : L2.St) (env : En) (Q : VK), Sta (kn X) A F H σ env → PostE (kn X) A W F σ (mkF c ms fn fa env) Q → tMake C (Prom (kn X) n fn) [] E0 t σ H Q := by
  intro A F H σ env Q S q
  refine ra A F H σ env _ S (q.afA fun p F1 H1 vs s1 S1 r1 q1 => ?_)
  intro x dx hx hd ne
  show Prom (kn X) n fn (.ref x :: (vs ++ [])) _ _ E0
  rw [List.append_nil]
  cases cp : prep ms p.1 p.2 with
  | none => simp only [cp] at q1; exact q1.elim
  | some pe =>
    obtain ⟨ps, e1⟩ := pe
    simp only [cp] at q1
    obtain ⟨F2, s2, S2, r2⟩ := Sta.prep S1 r1 cp
    have hl : (Pa.mt e1.length :: ps).length = n := by rw [List.length_cons, prep_len cp, hn]
    have le : σ.length = e1.length := S2.len
    have S3 := S2.extI (c := c) (C := C) hc hx hd ne
    have r3 : RPas (kn X) F2 (σ ++ [some (V.ref x)]) (Pa.mt e1.length :: ps) (V.ref x :: vs) := by
      refine .cons ?_ r2.ext
      show (σ ++ [some (V.ref x)])[e1.length]? = _
      rw [← le, List.getElem?_append_right (Nat.le_refl _), Nat.sub_self]; rfl
    cases ca : slsOf (e1 ++ [some (.ow (.inst c [] []))]) (.mt e1.length :: ps) with
    | none => simp only [ca] at q1; exact q1.elim
    | some as =>
      simp only [ca] at q1
      by_cases ho : okPa (.mt e1.length :: ps) = true
      · rw [if_pos ho] at q1
        split at q1
        · rename_i os cf
          by_cases hcl : clean (.mt e1.length :: ps) (e1 ++ [some (.ow (.inst c [] []))]) (.fz .non) os = true
          · rw [if_pos hcl] at q1
            cases cap : applyO (.mt e1.length :: ps) os (e1 ++ [some (.ow (.inst c [] []))]) with
            | none => simp only [cap] at q1; exact q1.elim
            | some e2 =>
              simp only [cap] at q1
              split at q1
              · rename_i o hslot
                refine call_sound S3 r3 ca ho cf hcl rfl cap hl fun F' H' v a S4 r4 => ?_
                have r4 : Rep (kn X) F' .non v := r4
                cases r4
                refine ⟨rfl, ?_⟩
                have own4 : OwnAt e2 e1.length o := .inl hslot
                obtain ⟨px, u, hp1, hp2, ro, hF, hK⟩ := S4.at own4
                have at_x : (σ ++ [some (V.ref x)])[e1.length]? = some (some (V.ref x)) := by
                  rw [← le, List.getElem?_append_right (Nat.le_refl _), Nat.sub_self]; rfl
                rw [at_x] at hp1
                cases hp1
                have S5 := S4.cut
                rw [le] at S5
                refine q1 F' H' _ (s2.trans a) S5 ⟨x, u, rfl, hp2, ro, hF, hK, fun j w h1 h2 => ?_⟩
                -- no other slot holds it
                have hj : j < e1.length := by
                  have : j < (e2.take e1.length).length := by
                    rcases h1 with h1 | h1 <;> exact (List.getElem?_eq_some_iff.mp h1).1
                  rw [List.length_take] at this; omega
                have h1' : OwnAt e2 j w := by
                  unfold OwnAt at h1 ⊢
                  rwa [List.getElem?_take, if_pos hj] at h1
                have h2' : (σ ++ [some (V.ref x)])[j]? = some (some (V.ref x)) := by
                  rw [List.getElem?_append_left (by omega)]; exact h2
                have := S4.dis j e1.length w o x h1' own4 h2' at_x
                omega
              · exact q1.elim
          · rw [if_neg hcl] at q1; exact q1.elim
        · exact q1.elim
      · rw [if_neg ho] at q1; exact q1.elim
theorem ex_make {ms : List Md} {n : Nat} (M : Mk X.K C f) (Fo : FnOk X.prog X.w X.K X.mg X.base CX0 k f fd pn (Prom (kn X) n fn)) (hn : ms.length + 1 = n) (hr : Room (k + 1) X.A) (hg : Gl X c) (hm : X.mg c = some (.ref C)) (hb : Binds X.K fd pn []) (ha : AX X W (e :: es) fa)
    (hdb : (c == ("__debug__" : Str)) = false := by decide) (he : starEach (e :: es) X.env = (false, eval e X.env) :: starEach es X.env := by rfl) (hpl : (backTo pos (starEach es X.env)).any (·.1) = false := by rfl) :
    EX X W (.Call (.Name c p) (e :: es) [] pos) (mkF c ms fn fa) := by
  obtain ⟨t, pa, ra⟩ := ha
  exact ⟨_, pe_make M Fo hr hg hm hb .nil pass0 pa hdb he hpl, mkF_ok hn hm ra⟩
end
end PL

/-! PL: fields; classes as values; methods. -/
namespace PL
open PySem PySem.Spec PyProof.Rows L2
def lkD (f : Str) : List Str → List D → Option D
  | n :: ns, d :: ds => if n = f then some d else lkD f ns ds
  | _, _ => none
def putN (f : Str) : List Str → List Str
  | [] => [f]
  | n :: ns => if n = f then n :: ns else n :: putN f ns
def putD (f : Str) (v : D) : List Str → List D → List D
  | n :: ns, d :: ds => if n = f then v :: ds else d :: putD f v ns ds
  | _, _ => [v]
section
variable {k : Kn} {A : Amb} {F H : Hp} {σ : L2.St} {env : En}
theorem lk_get {f : Str} : ∀ {fs : List (Str × V)} {ds : List D} {d : D}, Reps k F ds (fs.map (·.2)) → lkD f (fs.map (·.1)) ds = some d → ∃ v, fs.lookup f = some v ∧ Rep k F d v
  | [], ds, d, r, h => by cases r; cases h
  | (n, v) :: fs, ds, d, r, h => by
    cases r with
    | cons r1 r2 =>
      simp only [List.map_cons, lkD] at h
      by_cases c : n = f
      · rw [if_pos c] at h; cases h
        exact ⟨v, by subst c; simp [List.lookup], r1⟩
      · rw [if_neg c] at h
        obtain ⟨w, h1, h2⟩ := lk_get r2 h
        have c' : (f == n) = false := by simpa using fun e => c e.symm
        exact ⟨w, by rw [List.lookup, c']; exact h1, h2⟩
theorem put_eq {f : Str} {v : V} {d : D} (rv : Rep k F d v) : ∀ {fs : List (Str × V)} {ds : List D}, Reps k F ds (fs.map (·.2)) → (putF f v fs).map (·.1) = putN f (fs.map (·.1)) ∧ Reps k F (putD f d (fs.map (·.1)) ds) ((putF f v fs).map (·.2))
  | [], ds, r => by cases r; exact ⟨rfl, .cons rv .nil⟩
  | (n, w) :: fs, ds, r => by
    cases r with
    | cons r1 r2 =>
      simp only [List.map_cons, putN, putD, putF]
      by_cases c : n = f
      · simp only [if_pos c, List.map_cons]
        exact ⟨trivial, .cons rv r2⟩
      · simp only [if_neg c, List.map_cons]
        obtain ⟨h1, h2⟩ := put_eq rv r2
        exact ⟨by rw [h1], .cons r1 h2⟩
end
/-- e.f of an instance of c -/
def fld (c f : Str) (fe : FE) : FE := fun env => (fe env).bind fun p => match cont p.1 p.2 with
  | some (.inst c' ns ds) => if c' = c then (match lkD f ns ds with
    | some d => .ok (.val d, p.2)
    | none => .no) else .no
  | _ => .no
structure ClsOk (X : Cx) (c : Str) (C : Addr) : Prop where
  mg : X.mg c = some (.ref C)
  cls : Cls X.K C
section
variable {X : Cx} {W : WP} {e : Expr} {es : List Expr} {f c x : Str} {C : Addr} {fe fa : FE} {pos pos' px p : Pos}
theorem ex_fld (hC : ClsOk X c C) (hN : NoAttr X.K C f) (he : EX X W e fe) (hb : attributeBase e f X.env (eval e X.env) = eval e X.env := by rfl) : EX X W (.Attribute e f pos) (fld c f fe) := by
  obtain ⟨t, pe, r⟩ := he
  refine ⟨_, pe_fld pe hb, fun A F H σ env Q S q => r A F H σ env _ S (q.afE fun p F1 H1 v1 s1 S1 r1 q1 => ?_)⟩
  split at q1
  · rename_i c' ns ds ec
    split at q1
    · rename_i hc
      subst hc
      split at q1
      · rename_i d ed
        obtain ⟨a, C', dx, fs, rfl, h2, h1, rfl, h4⟩ := (S1.view r1 ec).inst S1.sub
        have h1 : X.mg c' = some (.ref C') := h1
        rw [hC.mg] at h1; cases h1
        obtain ⟨v, l1, l2⟩ := lk_get h4 ed
        exact ⟨a, C, dx, fs, v, rfl, h2, hC.cls, hN, l1, q1 F1 H1 v (.refl _) S1 l2⟩
      · exact q1.elim
    · exact q1.elim
  · exact q1.elim
/-- x.f = e, x an instance of c -/
def sfldC (c : Str) (j : Nat) (f : Str) (fe : FE) : FS := fun env => (fe env).go fun p => match hold p.1 p.2 with
  | some d => (match slotO d.2 j with
    | some (.inst c' ns ds) => if c' = c ∧ ns.length < 999 then .nx (setO d.2 j (.inst c (putN f ns) (putD f d.1 ns ds))) else .no
    | _ => .no)
  | none => .no
theorem sx_fldC (j : Nat) (hC : ClsOk X c C) (hF : NoAttr X.K C f) (he : EX X W e fe)
    (hN : X.N[j]? = some x := by rfl) (hv : Vis X.env.scope x := by first | exact Or.inl rfl | exact Or.inr (Or.inl rfl) | exact Or.inr (Or.inr rfl))
    (hs : swapsWith e (some (.Attribute (.Name x px) f pos')) pos.line X.env = pure false := by rfl)
    (hd : (x == ("__debug__" : Str)) = false := by decide) (hcd : (x == ("__classdict__" : Str)) = false := by decide) : SX X W (.Assign [.Attribute (.Name x px) f pos'] e pos) (sfldC c j f fe) := by
  obtain ⟨t, pe, r⟩ := he
  refine ⟨_, ps_fld (pe_var hN hv hd hcd) pe hs, fun A F H σ env D S q => r A F H σ env _ S (q.afE fun p F1 H1 v1 s1 S1 r1 q1 => ?_)⟩
  cases ch : hold p.1 p.2 with
  | none => rw [ch] at q1; exact q1.elim
  | some d =>
    rw [ch] at q1
    obtain ⟨F2, s2, S2, r2⟩ := S1.hold r1 (d := d.1) (env' := d.2) ch
    split at q1
    · rename_i dd hh
      cases hh
      split at q1
      · rename_i c' ns ds co
        split at q1
        · rename_i hcc
          obtain ⟨rfl, hlen⟩ := hcc
          obtain ⟨pa, u, e1, hp, ro, hF2, hK⟩ := S2.at (slotO_own co)
          cases ro with
          | inst h1 h2 =>
            rename_i C' dx fs
            have h1 : X.mg c' = some (.ref C') := h1
            rw [hC.mg] at h1; cases h1
            obtain ⟨n1, n2⟩ := put_eq (f := f) r2 h2
            refine ⟨_, e1, pa, C, dx, fs, rfl, hp, hC.cls, hF, by rw [List.length_map] at hlen; omega, ?_⟩
            have ro' : RepO (kn X) F2 (.inst c' ((putF f v1 fs).map (·.1)) (putD f d.1 (fs.map (·.1)) ds)) (.ins C dx (putF f v1 fs)) := .inst hC.mg n2
            rw [n1] at ro'
            exact q1 F2 _ σ s2 (S2.write (slotO_own co) e1 ro')
        · exact q1.elim
      · exact q1.elim
    · rename_i hh; cases hh
end
end PL

/-! PL: classes as values, their classmethods; methods of instances. -/
namespace PL
open PySem PySem.Spec PyProof.Rows L2
section
variable {X : Cx} {W : WP} {k : Nat} {f C g p0 : Addr} {mc : Value} {fd : FuncData} {pn : List Str} {x c m : Str} {p pos apos : Pos} {e o : Expr} {es : List Expr} {fa : FA} {fo : FE} {fn : FFn} {ms : List Md} {n : Nat}
theorem ex_cls (hm : X.mg c = some (.ref C)) (hg : Gl X c) (hd : (c == ("__debug__" : Str)) = false := by decide) : EX X W (.Name c pos) (kst (.fn c)) := ex_kst (v := .ref C) (pe_glob hg hm rfl hd) fun _ => .fn hm
/-- a first argument that is not evaluated -/
theorem pre_fn {t : TA} (hm : X.mg c = some (.ref C)) (ra : ∀ (A : Amb) (F H : Hp) (σ : L2.St) (env : En) (Q : List V → Hp → Prop), Sta (kn X) A F H σ env → PostA (kn X) A W F σ (fa env) Q → t σ H Q) :
    ∀ (A : Amb) (F H : Hp) (σ : L2.St) (env : En) (Q : List V → Hp → Prop), Sta (kn X) A F H σ env → PostA (kn X) A W F σ (acons (kst (.fn c)) fa env) Q → t σ H fun vs H2 => Q (.ref C :: vs) H2 := by
  intro A F H σ env Q S q
  refine ra A F H σ env _ S ?_
  have q : PostA (kn X) A W F σ ((fa env).bind fun q => .ok (settle (.val (.fn c)) :: q.1, q.2)) Q := q
  refine q.afA fun p2 F2 H2 vs s2 S2 r2 q2 => ?_
  exact q2 F2 H2 _ (.refl _) S2 (.cons (x := .val (.fn c)) (Rep.fn hm) r2)
theorem ex_cm (hm : X.mg c = some (.ref C)) (hg : Gl X c) (r : ClX.CRead X.K C mc) (cm : ClX.CMet X.K C mc m p0 g) (Fo : FnOk X.prog X.w X.K X.mg X.base CX0 k g fd pn (Prom (kn X) n fn)) (hb : Binds X.K fd pn []) (hn : ms.length + 1 = n) (hr : Room k X.A) (ha : AX X W (e :: es) fa)
    (hd : (c == ("__debug__" : Str)) = false := by decide)
    (hst : starEach (e :: es) X.env = (false, eval e X.env) :: starEach es X.env := by rfl) (hpl : (backTo pos (starEach es X.env)).any (·.1) = false := by rfl)
    {pl : Sem Bool}
    (ht : eval (.Call (.Attribute (.Name c p) m apos) (e :: es) [] pos) X.env = (do
      let ov ← eval (.Name c p) X.env
      standAt apos.atName
      let (f, first) ← holding [ov] (getMethod ov m pl)
      callWith pos f first (backTo pos (starEach (e :: es) X.env)) (backToKw pos (keywordEach [] X.env))) := by rfl) :
    EX X W (.Call (.Attribute (.Name c p) m apos) (e :: es) [] pos) (callF (.rd :: ms) fn (acons (kst (.fn c)) fa)) := by
  obtain ⟨t, pa, ra⟩ := ha
  refine ⟨_, ClX.pe_cmeth (pl := pl) (E := E0) (pe_glob (v := .ref C) hg hm rfl hd) r cm (Fo.raw hb .nil) hr pass0 pa hst hpl ht, fun A F H σ env Q S q => ?_⟩
  exact ⟨rfl, callF_ok (ms := .rd :: ms) (by simpa using hn) (pre_fn hm ra) A F H σ env Q S q⟩
/-! a class in a slot -/
def isFn (j : Nat) (c : Str) (env : En) : Bool := match env[j]? with
  | some (some (.fz (.fn c'))) => decide (c' = c)
  | _ => false
theorem isFn_eq {j : Nat} {c : Str} {env : En} (h : isFn j c env = true) : env[j]? = some (some (.fz (.fn c))) := by
  unfold isFn at h
  split at h
  · rename_i c' e
    rw [e, of_decide_eq_true h]
  · cases h
def mkL (j : Nat) (c : Str) (ms : List Md) (f : FFn) (fa : FA) : FE := fun env => if isFn j c env = true then mkF c ms f fa env else .no
theorem pe_makeL {CX : CXT} {j : Nat} {ps : List Str} {sp : Sp} {dvs : List V} {ds : List Value} {E : XK} {t : TA} (M : Mk X.K C f) (F : FnOk X.prog X.w X.K X.mg X.base CX k f fd ps sp) (hr : Room (k + 1) X.A) (hN : X.N[j]? = some x) (hv : Vis X.env.scope x) (hb : Binds X.K fd ps ds) (hd : Vals dvs ds) (hx : Passes CX X E)
    (ha : PA X (e :: es) t) (hdb : (x == ("__debug__" : Str)) = false := by decide) (hcd : (x == ("__classdict__" : Str)) = false := by decide) (he : starEach (e :: es) X.env = (false, eval e X.env) :: starEach es X.env := by rfl) (hpl : (backTo pos (starEach es X.env)).any (·.1) = false := by rfl) :
    PE X (.Call (.Name x p) (e :: es) [] pos) (fun σ H Q => σ[j]? = some (some (.ref C)) ∧ tMake C sp dvs E t σ H Q) := by
  refine ⟨fun pins s σ H Q I h => ?_⟩
  obtain ⟨slot, h⟩ := h
  have load := (pe_var (pos := p) hN hv hdb hcd).run pins s σ H (fun v H1 => v = .ref C ∧ H1 = H) I ⟨.ref C, slot, rfl, rfl⟩
  refine wpAny_Call_Name_kw (thn load fun u s1 ⟨v, H1, I1, r1, e1, e2⟩ => ?_)
  subst e1 e2
  cases r1
  refine PySem.W.callWith_K (h₀ := X.base) I1.ok.mod.kin M.kp (thn (ha.run pos pins s1 σ _ _ I1 h) fun us s2 ⟨vs, H2, I2, r, q⟩ => ⟨I2.kIn, ?_⟩) he hpl
  exact run_make M F hr hb hd hx I2 r q
theorem ex_makeL (j : Nat) (M : Mk X.K C f) (Fo : FnOk X.prog X.w X.K X.mg X.base CX0 k f fd pn (Prom (kn X) n fn)) (hn : ms.length + 1 = n) (hr : Room (k + 1) X.A) (hm : X.mg c = some (.ref C)) (hb : Binds X.K fd pn []) (ha : AX X W (e :: es) fa)
    (hN : X.N[j]? = some x := by rfl) (hv : Vis X.env.scope x := by first | exact Or.inl rfl | exact Or.inr (Or.inl rfl) | exact Or.inr (Or.inr rfl))
    (hdb : (x == ("__debug__" : Str)) = false := by decide) (hcd : (x == ("__classdict__" : Str)) = false := by decide) (he : starEach (e :: es) X.env = (false, eval e X.env) :: starEach es X.env := by rfl) (hpl : (backTo pos (starEach es X.env)).any (·.1) = false := by rfl) :
    EX X W (.Call (.Name x p) (e :: es) [] pos) (mkL j c ms fn fa) := by
  obtain ⟨t, pa, ra⟩ := ha
  refine ⟨_, pe_makeL M Fo hr hN hv hb .nil pass0 pa hdb hcd he hpl, fun A F H σ env Q S q => ?_⟩
  unfold mkL at q
  by_cases hj : isFn j c env = true
  · rw [if_pos hj] at q
    obtain ⟨v, e1, r⟩ := S.rel j _ (isFn_eq hj)
    cases r with
    | fn h =>
      have h : X.mg c = some _ := h
      rw [hm] at h; cases h
      exact ⟨e1, mkF_ok hn hm ra A F H σ env Q S q⟩
  · rw [if_neg hj] at q; exact q.elim
/-! methods of an instance -/
def aself (c m : Str) (fe : FE) (ga : FA) : FA := fun env => (fe env).bind fun p => match settle p.1, cont p.1 p.2 with
  | y, some (.inst c' ns _) => if c' = c ∧ m ∉ ns then (ga p.2).bind fun q => .ok (y :: q.1, q.2) else .no
  | _, _ => .no
theorem lk_none {fs : List (Str × V)} (h : m ∉ fs.map (·.1)) : fs.lookup m = none := by
  induction fs with
  | nil => rfl
  | cons a fs ih =>
    obtain ⟨n, v⟩ := a
    simp only [List.map_cons, List.mem_cons, not_or] at h
    have c' : (m == n) = false := by simpa using h.1
    rw [List.lookup, c']
    exact ih h.2
theorem ex_meth (hC : ClsOk X c C) (hm : Meth X.K C m f) (Fo : FnOk X.prog X.w X.K X.mg X.base CX0 k f fd pn (Prom (kn X) n fn)) (hb : Binds X.K fd pn []) (hn : ms.length = n) (hr : Room k X.A) (ho : EX X W o fo) (ha : AX X W (e :: es) fa)
    (hst : starEach (e :: es) X.env = (false, eval e X.env) :: starEach es X.env := by rfl) (hpl : (backTo pos (starEach es X.env)).any (·.1) = false := by rfl)
    {pl : Sem Bool}
    (ht : eval (.Call (.Attribute o m apos) (e :: es) [] pos) X.env = (do
      let ov ← eval o X.env
      standAt apos.atName
      let (f, first) ← holding [ov] (getMethod ov m pl)
      callWith pos f first (backTo pos (starEach (e :: es) X.env)) (backToKw pos (keywordEach [] X.env))) := by rfl) :
    EX X W (.Call (.Attribute o m apos) (e :: es) [] pos) (callF ms fn (aself c m fo fa)) := by
  obtain ⟨t, pa, ra⟩ := ha
  obtain ⟨to, po, ro⟩ := ho
  refine ⟨_, pe_meth (pl := pl) po hC.cls hm Fo hr hb .nil pass0 pa hst hpl ht, ?_⟩
  refine callF_ok (t := fun σ H Q => to σ H fun x H1 => ∃ a dx fs, x = .ref a ∧ H1 a = some (.ins C dx fs) ∧ fs.lookup m = none ∧ t σ H1 fun vs H2 => Q (x :: vs) H2) hn fun A F H σ env Q S q => ?_
  refine ro A F H σ env _ S (q.afE fun p F1 H1 v1 s1 S1 r1 q1 => ?_)
  split at q1
  · rename_i y c' ns ds ec
    split at q1
    · rename_i hcm
      obtain ⟨rfl, hnm⟩ := hcm
      obtain ⟨a, C', dx, fs, rfl, h2, h1, rfl, h4⟩ := (S1.view r1 ec).inst S1.sub
      have h1 : X.mg c' = some (.ref C') := h1
      rw [hC.mg] at h1; cases h1
      obtain ⟨F1', s1', S1', r1'⟩ := S1.settle r1
      refine ⟨a, dx, fs, rfl, h2, lk_none hnm, ra A F1' H1 σ p.2 _ S1' ((q1.mono s1').afA fun p2 F2 H2 vs s2 S2 r2 q2 => ?_)⟩
      exact q2 F2 H2 _ (.refl _) S2 (.cons (r1'.keep (F' := F2) (H' := H2) (env' := p2.2) s2 |> fun z => by
        cases hx : p.1 <;> rw [hx] at z <;> exact z) r2)
    · exact q1.elim
  · exact q1.elim
end
end PL

/-! PL: xs += ys, xs[a:b] = row, del xs[a:b] as statements. -/
namespace PL
open PySem PySem.Spec PyProof.Rows L2
def splc {α : Type} (xs : List α) (lo hi : Option Int) (ys : List α) : List α := xs.take (HT.sIx xs.length 0 lo) ++ ys ++ xs.drop (max (HT.sIx xs.length 0 lo) (HT.sIx xs.length xs.length hi))
def saugL (i : Nat) (f : FE) : FS := fun env => match slotO env i with
  | some (.lst _) => (f env).go fun p => (match slotO p.2 i, cont p.1 p.2 with
    | some (.lst xs), some (.lst ys) => if xs.length + ys.length ≤ sizeLine then .nx (setO p.2 i (.lst (xs ++ ys))) else .no
    | _, _ => .no)
  | _ => .no
section
variable {X : Cx} {W : WP} {pos : Pos} {e : Expr} {f : FE}
theorem sx_augL (i : Nat) {x : Str} {px : Pos} (hN : X.N.Nodup) (h : EX X W e f) (hi : X.N[i]? = some x := by rfl) (hx : Loc X.env.scope x := by first | exact Or.inl rfl | exact Or.inr rfl)
    (hf : X.fn x = true ∨ X.env.scope.names.lookup x = some .local := by first | exact .inl rfl | exact .inr rfl | assumption) : SX X W (.AugAssign (.Name x px) .Add e pos) (saugL i f) := by
  obtain ⟨t, p, r⟩ := h
  refine ⟨_, ps_aug hN hi hx p (ti := rExt2) iop_ext hf, fun A F H σ env D S q => ?_⟩
  unfold saugL at q
  split at q
  · rename_i xs0 c0
    obtain ⟨pa, u, e1, hp, ro, hF, hK⟩ := S.at (slotO_own c0)
    refine ⟨_, e1, r A F H σ env _ S (q.afE fun p F1 H1 v1 s1 S1 r1 q1 => ?_)⟩
    split at q1
    · rename_i xs ys co cv
      split at q1
      · rename_i room
        obtain ⟨pb, u3, e3, hp3, ro3, _⟩ := S1.at (slotO_own co)
        rw [e1] at e3; cases e3
        cases ro3 with
        | lst rr =>
          obtain ⟨b, vs, rfl, hb, rb⟩ := (S1.view r1 cv).lst S1.sub
          refine ⟨pa, b, _, vs, rfl, rfl, hp3, hb, by rw [rr.len, rb.len]; exact room, ?_⟩
          have e4 : σ.set i (some (V.ref pa)) = σ := by
            refine List.ext_getElem? fun j => ?_
            by_cases c : j = i
            · subst c
              rw [e1, List.getElem?_set_self (List.getElem?_eq_some_iff.mp e1).1]
            · rw [List.getElem?_set_ne (fun z => c z.symm)]
          show D.nx (σ.set i (some (V.ref pa))) _
          rw [e4]
          exact q1 F1 _ σ (.refl _) (S1.write (slotO_own co) e1 (.lst (rr.append rb)))
      · exact q1.elim
    · exact q1.elim
  · exact q.elim
end
/-! ### pieces -/
section
variable {X : Cx}
theorem cut_arr {its its2 : List Value} {a c : Nat} : (its.toArray.extract 0 a ++ its2.toArray ++ its.toArray.extract c its.toArray.size) = (its.take a ++ its2 ++ its.drop c).toArray := by
  apply Array.ext'
  simp
  exact List.take_of_length_le (by simp)
/-- xs[lo:hi] = row, by values -/
theorem set_piece {pins : List (Addr × Obj)} {s : Shared} {σ : L2.St} {H : Hp} {l b sl : Addr} {xs ys : List V} {lo hi : Option Int} {vl vu : Value} {Q : Unit → Shared → Prop} (I : Inv X pins σ H s)
    (hH : H l = some (.lst xs)) (hB : (H b = some (.lst ys) ∧ l ≠ b) ∨ SqT X.K H b ys) (hs : s.heap.IsSliceOf sl vl vu .none) (p1 : IsPart vl lo) (p2 : IsPart vu hi)
    (hz : xs.length + ys.length ≤ sizeLine) (h : ∀ s', Inv X pins σ (upd H l (.lst (splc xs lo hi ys))) s' → Q () s') :
    wpAny (model X.prog X.w) X.A (setItem (.ref l) (.ref sl) (.ref b)) Q X.xe s := by
  obtain ⟨z, its, n, r, hl, e⟩ := I.lstM hH
  have sz : its.toArray.size = xs.length := by rw [List.size_toArray, hl]
  -- the row
  have row : ∃ (T : String) (o : Obj) (its2 : List Value) (m : Nat), (T = "list" ∨ T = "tuple") ∧ s.heap.get? b = some o ∧ o.cls = .type T ∧ o.data = .seq its2.toArray m ∧ Vals ys its2 ∧ l ≠ b := by
    rcases hB with ⟨hB, hne⟩ | hB
    · obtain ⟨_, its2, m, r2, _, e2⟩ := I.lstM hB
      exact ⟨"list", _, its2, m, .inl rfl, e2, rfl, rfl, r2, hne⟩
    · obtain ⟨its2, r2, ⟨o, ho, hc, m, hd⟩, _⟩ := I.tuple hB
      refine ⟨"tuple", o, its2, m, .inr rfl, ho, hc, hd, r2, ?_⟩
      rintro rfl
      rw [e] at ho; cases ho
      exact absurd (Value.type.inj hc) (by decide)
  obtain ⟨T, o, its2, m, hT, eb, ct, dt, r2, ne⟩ := row
  have l2 : its2.length = ys.length := r2.length.symm
  refine lay_piece e eb ct dt hT ne hs p1 p2 (by rw [sz, List.size_toArray, l2]; exact hz) (h _ ?_)
  have := I.lset (its' := its.take (HT.sIx xs.length 0 lo) ++ its2 ++ its.drop (max (HT.sIx xs.length 0 lo) (HT.sIx xs.length xs.length hi))) (ys := splc xs lo hi ys) (t' := s.toks) (f := fun zs => zs.extract 0 (HT.sIx its.toArray.size 0 lo) ++ its2.toArray ++ zs.extract (max (HT.sIx its.toArray.size 0 lo) (HT.sIx its.toArray.size its.toArray.size hi)) zs.size) hH e
    (by show _ ++ _ ++ its.toArray.extract _ its.toArray.size = _; rw [cut_arr, sz]) (Vals.append (Vals.append (r.take _) r2) (r.drop _)) (by
      unfold splc
      have := HT.sIx_le xs.length 0 (Nat.zero_le _) lo
      rw [List.length_append, List.length_append, List.length_take, List.length_drop]; omega)
  exact this
theorem del_piece {pins : List (Addr × Obj)} {s : Shared} {σ : L2.St} {H : Hp} {l sl : Addr} {xs : List V} {lo hi : Option Int} {vl vu : Value} {Q : Unit → Shared → Prop} (I : Inv X pins σ H s)
    (hH : H l = some (.lst xs)) (hs : s.heap.IsSliceOf sl vl vu .none) (p1 : IsPart vl lo) (p2 : IsPart vu hi)
    (h : ∀ s', Inv X pins σ (upd H l (.lst (splc xs lo hi []))) s' → Q () s') :
    wpAny (model X.prog X.w) X.A (delItem (.ref l) (.ref sl)) Q X.xe s := by
  obtain ⟨z, its, n, r, hl, e⟩ := I.lstM hH
  have sz : its.toArray.size = xs.length := by rw [List.size_toArray, hl]
  refine drop_piece e (by rw [sz]; exact z) hs p1 p2 fun f hf => h _ ?_
  refine I.lset (its' := its.take (HT.sIx xs.length 0 lo) ++ its.drop (max (HT.sIx xs.length 0 lo) (HT.sIx xs.length xs.length hi))) (t' := s.toks) hH e ?_ ?_ ?_
  · rw [hf, sz]
  · unfold splc
    rw [List.append_nil]
    exact Vals.append (r.take _) (r.drop _)
  · unfold splc
    have := HT.sIx_le xs.length 0 (Nat.zero_le _) lo
    rw [List.append_nil, List.length_append, List.length_take, List.length_drop]; omega
/-- the piece that is meant -/
def gPc (to : TE) (tl th : TO) (t : V → V → Option Int → Option Int → Hp → (Hp → Prop) → Prop) : TG := fun v σ H Q => to σ H fun o H1 => tl σ H1 fun l H2 => th σ H2 fun u H3 => t o v l u H3 fun H4 => Q σ H4
def rPc (K : PySem.W.Frag) : V → V → Option Int → Option Int → Hp → (Hp → Prop) → Prop := fun o v lo hi H Q => ∃ p b xs ys, o = .ref p ∧ v = .ref b ∧ H p = some (.lst xs) ∧ ((H b = some (.lst ys) ∧ p ≠ b) ∨ SqT K H b ys) ∧ xs.length + ys.length ≤ sizeLine ∧ Q (upd H p (.lst (splc xs lo hi ys)))
theorem pg_piece {o : Expr} {lo hi : Option Expr} {to : TE} {tl th : TO} {pos p2 : Pos} (ho : PE X o to) (hl : PO X lo tl) (hu : PO X hi th)
    (ha : ∀ v, assign (.Subscript o (.Slice lo hi none p2) pos) X.env v = (do
      let ov ← holding [v] (eval o X.env)
      let iv ← holding [v, ov] (eval (.Slice lo hi none p2) X.env)
      standAt pos
      holding [v, ov, iv] (setItem ov iv v)
      release [iv, v, ov] []) := by intro _; rfl) : PG X (.Subscript o (.Slice lo hi none p2) pos) (gPc to tl th (rPc X.K)) := by
  refine ⟨fun pins s σ H v u Q I r h => ?_⟩
  rw [ha]
  refine wpAny_bind (wpAny_holding (thn (ho.run pins s σ H _ I h) fun ov s1 ⟨x, H1, I1, r1, q1⟩ => ?_))
  refine wpAny_bind (wpAny_holding (wpAny_Slice (thn (hl.run pins s1 σ H1 _ I1 q1) fun vl s2 ⟨l, H2, I2, pl, q2⟩ => thn (hu.run pins s2 σ H2 _ I2 q2) fun vu s3 ⟨w, H3, I3, pu, q3⟩ => ?_)))
  rw [evalPart_none]
  refine wpAny_pure ?_
  have I4 : Inv X pins σ H3 { s3 with heap := s3.heap.push { cls := .type "slice", data := .fields #[vl, vu, .none] } } := I3.kept (t' := s3.toks) fun b ob q => Heap.get?_push_of_some _ q
  obtain ⟨p, b, xs, ys, rfl, rfl, hp, hb, hz, q4⟩ := q3
  obtain rfl : ov = Value.ref p := r1
  obtain rfl : u = Value.ref b := r
  refine wpAny_bind (wpAny_standAt (wpAny_bind (wpAny_holding (set_piece I4 hp hb (Heap.IsSliceOf.new ..) pl pu hz fun s5 I5 => ?_))))
  exact wpAny_release ⟨σ, _, I5, q4⟩
def tDelPc (to : TE) (tl th : TO) : TS := fun D σ H => to σ H fun x H1 => tl σ H1 fun l H2 => th σ H2 fun u H3 => ∃ p xs, x = .ref p ∧ H3 p = some (.lst xs) ∧ D.nx σ (upd H3 p (.lst (splc xs l u [])))
theorem ps_delPc {o : Expr} {lo hi : Option Expr} {to : TE} {tl th : TO} {pos tpos p2 : Pos} (ho : PE X o to) (hl : PO X lo tl) (hu : PO X hi th) : PS X (.Delete [.Subscript o (.Slice lo hi none p2) tpos] pos) (tDelPc to tl th) := by
  refine ⟨fun pins s σ H D I h => ?_⟩
  refine wpAny_Delete (wpAny_deleteEach_cons (wpAny_delete_Subscript (thn (ho.run pins s σ H _ I h) fun u s1 ⟨x, H1, I1, rx, q1⟩ => wpAny_Slice (thn (hl.run pins s1 σ H1 _ I1 q1) fun vl s2 ⟨l, H2, I2, pl, q2⟩ => thn (hu.run pins s2 σ H2 _ I2 q2) fun vu s3 ⟨w, H3, I3, pu, q3⟩ => ?_))))
  rw [evalPart_none]
  refine wpAny_pure ?_
  have I4 : Inv X pins σ H3 { s3 with heap := s3.heap.push { cls := .type "slice", data := .fields #[vl, vu, .none] } } := I3.kept (t' := s3.toks) fun b ob q => Heap.get?_push_of_some _ q
  obtain ⟨p, xs, rfl, hp, q4⟩ := q3
  obtain rfl : u = Value.ref p := rx
  exact del_piece I4 hp (Heap.IsSliceOf.new ..) pl pu fun s5 I5 => wpAny_deleteEach_nil ⟨σ, _, I5, q4⟩
end
/-! ### on a slot, the bounds written -/
def ssetPc (j : Nat) (lo hi : Option Int) (f : FE) : FS := fun env => (f env).go fun p => match hold p.1 p.2 with
  | some d => (match slotO d.2 j, d.1 with
    | some (.lst xs), .lst ys => if xs.length + ys.length ≤ sizeLine then .nx (setO d.2 j (.lst (splc xs lo hi ys))) else .no
    | some (.lst xs), .tup ys => if xs.length + ys.length ≤ sizeLine then .nx (setO d.2 j (.lst (splc xs lo hi ys))) else .no
    | _, _ => .no)
  | none => .no
def sdelPc (j : Nat) (lo hi : Option Int) : FS := fun env => match slotO env j with
  | some (.lst xs) => .nx (setO env j (.lst (splc xs lo hi [])))
  | _ => .no
section
variable {k : Kn} {F : Hp}
theorem Reps.splc {lo hi : Option Int} {ds es : List D} {vs ws : List V} (a : Reps k F ds vs) (b : Reps k F es ws) : Reps k F (PL.splc ds lo hi es) (PL.splc vs lo hi ws) := by
  have tk : ∀ (n : Nat) {ds : List D} {vs : List V}, Reps k F ds vs → Reps k F (ds.take n) (vs.take n) := by
    intro n
    induction n with
    | zero => intro ds vs h; exact .nil
    | succ n ih =>
      intro ds vs h
      cases h with
      | nil => exact .nil
      | cons x y => exact .cons x (ih y)
  have dp : ∀ (n : Nat) {ds : List D} {vs : List V}, Reps k F ds vs → Reps k F (ds.drop n) (vs.drop n) := by
    intro n
    induction n with
    | zero => intro ds vs h; exact h
    | succ n ih =>
      intro ds vs h
      cases h with
      | nil => exact .nil
      | cons x y => exact ih y
  unfold PL.splc
  rw [a.len]
  exact ((tk _ a).append b).append (dp _ a)
end
section
variable {X : Cx} {W : WP} {pos pt p2 px : Pos} {e : Expr} {x : Str} {f : FE} {lo' hi' : Option Expr} {g1 g2 : FO} {lo hi : Option Int}
theorem sx_setPc (j : Nat) (he : EX X W e f) (hl : OX X W lo' g1) (hh : OX X W hi' g2) (h1 : ∀ env, g1 env = .ok (lo, env) := by intro _; rfl) (h2 : ∀ env, g2 env = .ok (hi, env) := by intro _; rfl) (hN : X.N[j]? = some x := by rfl) (hv : Vis X.env.scope x := by first | exact Or.inl rfl | exact Or.inr (Or.inl rfl) | exact Or.inr (Or.inr rfl))
    (ha : ∀ v, assign (.Subscript (.Name x px) (.Slice lo' hi' none p2) pt) X.env v = (do
      let ov ← holding [v] (eval (.Name x px) X.env)
      let iv ← holding [v, ov] (eval (.Slice lo' hi' none p2) X.env)
      standAt pt
      holding [v, ov, iv] (setItem ov iv v)
      release [iv, v, ov] []) := by intro _; rfl)
    (hd : (x == ("__debug__" : Str)) = false := by decide) (hcd : (x == ("__classdict__" : Str)) = false := by decide)
    (hs : swapsWithSole [.Subscript (.Name x px) (.Slice lo' hi' none p2) pt] e pos.line X.env = pure false := by rfl) (hw : swappedStores [.Subscript (.Name x px) (.Slice lo' hi' none p2) pt] e X.env = pure none := by rfl)
    (h0 : (assignEach [.Subscript (.Name x px) (.Slice lo' hi' none p2) pt] X.env).map (·.2) = [assign (.Subscript (.Name x px) (.Slice lo' hi' none p2) pt) X.env] := by rfl) :
    SX X W (.Assign [.Subscript (.Name x px) (.Slice lo' hi' none p2) pt] e pos) (ssetPc j lo hi f) := by
  obtain ⟨t, p, r⟩ := he
  obtain ⟨t1, p1, r1⟩ := hl
  obtain ⟨t2, p3, r2⟩ := hh
  refine ⟨_, ps_asg p (pg_piece (pe_var hN hv hd hcd) p1 p3 ha) hs hw h0, fun A F H σ env D S q => r A F H σ env _ S (q.afE fun p F1 H1 v1 s1 S1 rr q1 => ?_)⟩
  cases c : hold p.1 p.2 with
  | none => rw [c] at q1; exact q1.elim
  | some d =>
    rw [c] at q1
    obtain ⟨F2, s2, S2, r3⟩ := S1.hold rr (d := d.1) (env' := d.2) c
    have fin : ∀ xs ys, slotO d.2 j = some (.lst xs) → (d.1 = .lst ys ∨ d.1 = .tup ys) → xs.length + ys.length ≤ sizeLine → PostS (kn X) A W F2 (.nx (setO d.2 j (.lst (splc xs lo hi ys)))) D →
        (gPc (tVar j) t1 t2 (rPc X.K)) v1 σ H1 D.nx := by
      intro xs ys co cd room q2
      obtain ⟨pa, u, e1, hp, ro, hF, hK⟩ := S2.at (slotO_own co)
      refine ⟨_, e1, r1 A F2 H1 σ d.2 _ S2 ?_⟩
      rw [h1]
      intro F3 H3 s3 S3
      refine r2 A F3 H3 σ d.2 _ S3 ?_
      rw [h2]
      intro F4 H4 s4 S4
      obtain ⟨pb, u3, e3, hp3, ro3, hF3, _⟩ := S4.at (slotO_own co)
      rw [e1] at e3; cases e3
      have r5 := r3.mono (s3.trans s4)
      cases ro3 with
      | lst rs =>
        have go : ∀ b ws, v1 = .ref b → Reps (kn X) F4 ys ws → ((H4 b = some (.lst ws) ∧ pa ≠ b) ∨ SqT X.K H4 b ws) → (rPc X.K) (.ref pa) v1 lo hi H4 (D.nx σ) := fun b ws ev rb hb =>
          ⟨pa, b, _, ws, rfl, ev, hp3, hb, by rw [rs.len, rb.len]; exact room, q2 F4 _ σ (s3.trans s4) (S4.write (slotO_own co) e1 (.lst (rs.splc rb)))⟩
        rcases cd with cd | cd
        · rw [cd] at r5
          cases r5 with
          | lst a b => exact go _ _ rfl b (.inl ⟨S4.sub _ _ a, fun z => by subst z; rw [hF3] at a; cases a⟩)
        · rw [cd] at r5
          cases r5 with
          | tup a b =>
            exact go _ _ rfl b (.inr (S4.sub.t a))
    split at q1
    · rename_i dd hdd
      cases hdd
      split at q1
      · rename_i xs ys co cd
        split at q1
        · rename_i room; exact fin xs ys co (.inl cd) room (PostS.mono s2 q1)
        · exact q1.elim
      · rename_i xs ys co cd
        split at q1
        · rename_i room; exact fin xs ys co (.inr cd) room (PostS.mono s2 q1)
        · exact q1.elim
      · exact q1.elim
    · rename_i hdd; cases hdd
theorem sx_delPc (j : Nat) (hl : OX X W lo' g1) (hh : OX X W hi' g2) (h1 : ∀ env, g1 env = .ok (lo, env) := by intro _; rfl) (h2 : ∀ env, g2 env = .ok (hi, env) := by intro _; rfl) (hN : X.N[j]? = some x := by rfl) (hv : Vis X.env.scope x := by first | exact Or.inl rfl | exact Or.inr (Or.inl rfl) | exact Or.inr (Or.inr rfl))
    (hd : (x == ("__debug__" : Str)) = false := by decide) (hcd : (x == ("__classdict__" : Str)) = false := by decide) : SX X W (.Delete [.Subscript (.Name x px) (.Slice lo' hi' none p2) pt] pos) (sdelPc j lo hi) := by
  obtain ⟨t1, p1, r1⟩ := hl
  obtain ⟨t2, p3, r2⟩ := hh
  refine ⟨_, ps_delPc (pe_var hN hv hd hcd) p1 p3, fun A F H σ env D S q => ?_⟩
  unfold sdelPc at q
  split at q
  · rename_i xs co
    obtain ⟨pa, u, e1, hp, ro, hF, hK⟩ := S.at (slotO_own co)
    refine ⟨_, e1, r1 A F H σ env _ S ?_⟩
    rw [h1]
    intro F3 H3 s3 S3
    refine r2 A F3 H3 σ env _ S3 ?_
    rw [h2]
    intro F4 H4 s4 S4
    obtain ⟨pb, u3, e3, hp3, ro3, hF3, _⟩ := S4.at (slotO_own co)
    rw [e1] at e3; cases e3
    cases ro3 with
    | lst rs => exact ⟨pa, _, rfl, hp3, q F4 _ σ (s3.trans s4) (S4.write (slotO_own co) e1 (.lst (rs.splc .nil)))⟩
  · exact q.elim
end
end PL

/-! PL: sorted(tuple of pairs of ints). -/
namespace PL
open PySem PySem.Spec PyProof.Rows L2 SrtO
section
variable {prog : Program} {w : World} {A : Around} {E : Value → Shared → Prop} {s : Shared}
/-- sorted of a row (list or tuple) of pairs: a new list -/
theorem sorted_row {it : Addr} {T : String} {o : Obj} {vs : List Value} {n : Nat} {k : Value → Int × Int} {Q : Value → Shared → Prop} (hT : T = "list" ∨ T = "tuple") (ho : s.heap.get? it = some o) (hc : o.cls = .type T) (hd : o.data = .seq vs.toArray n) (hz : vs.length ≤ sizeLine)
    (hp : ∀ v ∈ vs, Srt.IsPair s.heap v (k v).1 (k v).2)
    (h : ∀ (h1 h' : Heap) (d : Addr) (out : List Value), Srtd (fun v u => lexB (k v) (k u)) out → Stb (fun v u => lexB (k v) (k u)) out vs → (∀ b o, s.heap.get? b = some o → h1.get? b = some o) → (∀ b o, h1.get? b = some o → h'.get? b = some o) → h1.objs.size ≤ d → (∃ m, h'.get? d = some (seqObj "list" out.toArray m)) → Q (.ref d) { s with heap := h' }) :
    wpAny (model prog w) A (call (.builtin "sorted") [.ref it]) Q E s := by
  refine Calls.call_function_entry kind_sorted plain_sorted entry_sorted (args_sorted1 _) ?_
  unfold Builtin.«sorted»
  refine wpAny_bind (m := checkCount "sorted" 1 1 _) (wpAny_pure ?_)
  refine wpAny_bind (wpAny_collect_seq it hT ho hc hd (fun h1 old => ?_) (by rw [List.size_toArray]; exact hz))
  have col : vs.toArray.toList = vs := by simp
  rw [col]
  refine wpAny_bind (wpAny_newList ?_ hz)
  have new : (h1.push (seqObj "list" vs.toArray 0)).get? h1.objs.size = some (seqObj "list" vs.toArray 0) := Heap.get?_push_size _ rfl
  have grow : ∀ b u, s.heap.get? b = some u → b ≠ h1.objs.size ∧ (h1.push (seqObj "list" vs.toArray 0)).get? b = some u := fun b u e =>
    ⟨Nat.ne_of_lt (Heap.lt_size (old b u e)), Heap.get?_push_of_some _ (old b u e)⟩
  show wpAny _ _ _ _ _ { s with heap := h1.push (seqObj "list" vs.toArray 0) }
  refine wpAny_bind (wpAny_holding (wpAny_call_entry slot_list_sort ⟨_, new, rfl⟩ entry_list_sort (list_sort_ord (swo_lex k) new hz (fun h2 => ?srt) fun out hs hb => ⟨_, rfl, ?_⟩) (args_list_sort _)))
  case srt =>
    refine pairs_sortableO (s := { s with heap := h1.push (seqObj "list" vs.toArray 0) }) (by omega) (fun v hm => (hp v hm).keeps fun b u e _ => (grow b u e).2) fun u e c => ?_
    have e' : some u = some (seqObj "list" vs.toArray 0) := e.symm.trans new
    cases e'
    exact absurd (Value.type.inj c) (by decide)
  refine wpAny_pure ⟨_, rfl, h h1 _ _ out hs hb old (fun b u e => ?_) (Nat.le_refl _) ?_⟩
  · have lt := Heap.lt_size e
    exact (PyProof.Rows.sortedHeap_old (Nat.ne_of_lt lt) (Heap.lt_size (Heap.get?_push_of_some _ e))).trans (Heap.get?_push_of_some _ e)
  · obtain ⟨m, e⟩ := PyProof.Rows.sortedHeap_at (vs := vs) (out := out.toArray) new
    exact ⟨m, e⟩
end
def rSrtPT (K : PySem.W.Frag) : List V → Hp → VK → Prop := fun vs H Q => ∃ (a : Addr) (zs : List (V × (Int × Int))), vs = [V.ref a] ∧ SqT K H a (zs.map (·.1)) ∧
  (∀ z ∈ zs, ∃ t, z.1 = V.ref t ∧ SqT K H t [.int z.2.1, .int z.2.2]) ∧
  ∀ (ys : List (V × (Int × Int))) (p : Addr), ys.Perm zs → (ys.map (·.2)).Pairwise (fun p q => leP p q = true) → H p = none → Q (.ref p) (upd H p (.lst (ys.map (·.1))))
section
variable {X : Cx}
theorem cr_srtPT : CallR X (.builtin "sorted") (rSrtPT X.K) := by
  intro pins s σ H vs us Q I r h
  obtain ⟨a, zs, rfl, hs, hz, q⟩ := h
  obtain ⟨its, rv, ⟨o, ho, hc, m, hd⟩, hn⟩ := I.tuple hs
  obtain ⟨u, rfl, ru⟩ := vals1 r
  obtain rfl : u = Value.ref a := ru
  obtain ⟨e1, e2⟩ := vals_pairs I rv hz
  have hlen : its.length ≤ sizeLine := by rw [← rv.length]; exact hn
  refine sorted_row (k := pairAt s.heap) (.inr rfl) ho hc hd hlen (fun v hv => (e2 v hv).1) fun h1 h' d out so st old keep hd' hnew => ?_
  obtain ⟨n, hnew⟩ := hnew
  have mem : ∀ u ∈ out, ∃ a, u = Value.ref a := fun u hu => (e2 u (st.perm.mem_iff.mp hu)).2
  have ev : (out.map fun u => (backV u, pairAt s.heap u)).map (·.1) = out.map backV := by simp [List.map_map, Function.comp_def]
  have ok : ObjOk X.prog X.w (upd H d (.lst (out.map backV))) h' d (.lst (out.map backV)) := by
    refine ⟨?_, out, n, vals_back mem, hnew⟩
    rw [List.length_map, st.perm.length_eq]; exact hlen
  have I1 : Inv X pins σ H { s with heap := h1 } := I.kept (t' := s.toks) old
  refine ⟨.ref d, upd H d (.lst (out.map backV)), I1.laid (t' := s.toks) keep hd' ok, rfl, ?_⟩
  have := q (out.map fun u => (backV u, pairAt s.heap u)) d (by rw [e1]; exact st.perm.map _) ?_ (I1.hok.fresh hd')
  · rw [ev] at this; exact this
  · rw [List.map_map]
    refine List.pairwise_map.mpr (so.imp fun {x y} hxy => ?_)
    show (!SrtO.lexB (pairAt s.heap y) (pairAt s.heap x)) = true
    have hxy : SrtO.lexB (pairAt s.heap y) (pairAt s.heap x) = false := hxy
    rw [hxy]; rfl
end
def cSortPT : List D → Option Arg
  | [.tup ds] => (prsOf ds).map fun ps => .new (.lst ((sortP ps).map prD))
  | _ => none
theorem cok_sortPT {k : Kn} : COk k (rSrtPT k.K) cSortPT := by
  intro A F H σ env vs ds z Q S va e q
  unfold cSortPT at e
  split at e
  · rename_i ds
    obtain ⟨v, rfl, vw⟩ := va.one
    cases c : prsOf ds with
    | none => rw [c] at e; cases e
    | some ps =>
      rw [c] at e; cases e
      obtain ⟨p, us, rfl, hp, r⟩ := vw.tup
      rw [prsOf_eq c] at r
      obtain ⟨zs, rfl, rfl, hz⟩ := reps_zip r
      refine ⟨p, zs, rfl, S.sub.t hp, fun z hm => ?_, fun ys l h1 h2 hl => ?_⟩
      · obtain ⟨t, e1, e2⟩ := rep_pr (hz z hm)
        exact ⟨t, e1, S.sub.t e2⟩
      · have e3 := sortP_one (h1.map _) h2
        simp only at q
        rw [← e3] at q
        exact S.newL (reps_of fun z hm => hz z (h1.mem_iff.mp hm)) q l hl
  · cases e
end PL

/-! PL: isinstance(x, a built-in type). -/
namespace PL
open PySem PySem.Spec PyProof.Rows L2
def tyD : D → Option String
  | .non => some "NoneType"
  | .bl _ => some "bool"
  | .int _ => some "int"
  | .str _ => some "str"
  | .lst _ => some "list"
  | .tup _ => some "tuple"
  | _ => none
/-- of what is known: is one such type below another -/
def subT (a b : String) : Bool := a == b || (a == "bool" && b == "int")
def isiD (T : String) (f : FE) : FE := fun env => (f env).bind fun p => match (cont p.1 p.2).bind tyD with
  | some t => .ok (.val (.bl (subT t T)), p.2)
  | none => .no
/-- the types that are asked for -/
def askT (T : String) : Prop := kitB "NoneType" T = some (subT "NoneType" T) ∧ kitB "bool" T = some (subT "bool" T) ∧ kitB "int" T = some (subT "int" T) ∧ kitB "str" T = some (subT "str" T) ∧ kitB "list" T = some (subT "list" T) ∧ kitB "tuple" T = some (subT "tuple" T)
theorem ask_int : askT "int" := ⟨by decide +kernel, by decide +kernel, by decide +kernel, by decide +kernel, by decide +kernel, by decide +kernel⟩
theorem ask_bool : askT "bool" := ⟨by decide +kernel, by decide +kernel, by decide +kernel, by decide +kernel, by decide +kernel, by decide +kernel⟩
theorem ask_list : askT "list" := ⟨by decide +kernel, by decide +kernel, by decide +kernel, by decide +kernel, by decide +kernel, by decide +kernel⟩
theorem ask_tuple : askT "tuple" := ⟨by decide +kernel, by decide +kernel, by decide +kernel, by decide +kernel, by decide +kernel, by decide +kernel⟩
theorem ask_str : askT "str" := ⟨by decide +kernel, by decide +kernel, by decide +kernel, by decide +kernel, by decide +kernel, by decide +kernel⟩
section
variable {X : Cx} {W : WP} {e : Expr} {f : FE} {p p2 pos : Pos} {x : Str} {T : String}
theorem ty_view {F H : Hp} {d : D} {v : V} {t : String} (s : Sub F H) (h : View (kn X) F H d v) (ht : tyD d = some t) : TyX X.K H v (.type t) := by
  cases d with
  | non => cases ht; cases h.non; exact .base .non
  | bl b => cases ht; cases h.bl; exact .base (.bl b)
  | int i => cases ht; cases h.int; exact .base (.int i)
  | str z => cases ht; cases h.str; exact .base (.str z)
  | lst ds =>
    cases ht
    obtain ⟨a, vs, rfl, hp, _⟩ := h.lst s
    exact .base (.lst hp)
  | tup ds =>
    cases ht
    obtain ⟨a, vs, rfl, hp, _⟩ := h.tup
    rcases s.t hp with (hp | ⟨o, hp⟩) | ⟨o, its, n, hk, hc, _⟩
    · exact .base (.tup hp)
    · exact .fTuple hp
    · exact .kTuple hk hc
  | _ => cases ht
theorem ex_isi (hT : askT T) (hg : Gl X "isinstance") (hm : X.mg "isinstance" = none) (hg2 : Gl X x) (hm2 : X.mg x = none) (hv : bootBuiltins x = some (.type T)) (h : EX X W e f) (hn : x ≠ "__name__" := by decide) (hd : (x == ("__debug__" : Str)) = false := by decide)
    (h1 : starEach [e, .Name x p2] X.env = (false, eval e X.env) :: starEach [.Name x p2] X.env := by rfl) (h2 : starEach [.Name x p2] X.env = (false, eval (.Name x p2) X.env) :: starEach [] X.env := by rfl) (pl : (backTo pos (starEach [.Name x p2] X.env)).any (·.1) = false := by rfl) :
    EX X W (.Call (.Name "isinstance" p) [e, .Name x p2] [] pos) (isiD T f) := by
  obtain ⟨t, pe, r⟩ := h
  have pt : PE X (.Name x p2) (tC (.ty T)) := pe_bltn hg2 hm2 hv rfl hn hd
  refine ⟨_, pe_callB call_isi hg hm boot_isinstance (pa_cons pe (pa_cons pt pa_nil h2) h1) (by decide) (by decide) h1 pl, fun A F H σ env Q S q => r A F H σ env _ S (q.afE fun p F1 H1 v1 s1 S1 r1 q1 => ?_)⟩
  cases c : cont p.1 p.2 with
  | none => simp only [c, Option.bind_none] at q1; exact q1.elim
  | some d =>
    simp only [c, Option.bind_some] at q1
    cases ct : tyD d with
    | none => rw [ct] at q1; exact q1.elim
    | some u =>
      rw [ct] at q1
      have tx := ty_view S1.sub (S1.view r1 c) ct
      have ek : kitB u T = some (subT u T) := by
        obtain ⟨a1, a2, a3, a4, a5, a6⟩ := hT
        cases d <;> simp only [tyD, Option.some.injEq, reduceCtorEq] at ct <;> (subst ct; assumption)
      exact ⟨v1, .ty T, .type u, .type T, subT u T, rfl, .ty T, tx, kit_ty ek, q1 F1 H1 _ (.refl _) S1 (.bl _)⟩
end
end PL

/-! PL: own == and !=; isinstance(x, an own class). -/
namespace PL
open PySem PySem.Spec PyProof.Rows L2
/-- what is asked of an own class in isinstance -/
structure IsC (K : PySem.W.Frag) (C : Addr) : Prop where
  ha : PySem.W.findIn K (.ref C) "__class__" = some (some (.builtin "object.__class__"))
  hn : PySem.W.specialIn K (.builtin "object.__class__") "__get__" = some (some (.builtin "getset_descriptor.__get__"))
  tk : PySem.W.takesIn K (.builtin "object.__class__") = some true
  top : PySem.W.mroIn K C (.type "object") = some true
  cls : PySem.W.isClsIn K C = true
  ty : PySem.W.typeIn K (.ref C) = some (.type "type")
structure OwnEq (K : PySem.W.Frag) (C f : Addr) : Prop where
  eq : PySem.W.findIn K (.ref C) "__eq__" = some (some (.ref f))
  fn : PySem.W.isFn K (.ref f) = true
  ne : PySem.W.findIn K (.ref C) "__ne__" = some (some (.builtin "object.__ne__"))
  top : PySem.W.mroIn K C (.type "object") = some true
/-- types that no own class lies above -/
def plainT (T : String) : Bool := T == "NoneType" || T == "bool" || T == "int" || T == "str" || T == "list" || T == "tuple" || T == "dict"
def noRefs (l : List Value) : Bool := l.all fun v => match v with
  | .type _ => true
  | _ => false
theorem noRefs_c {l : List Value} {C : Addr} (h : noRefs l = true) : l.contains (.ref C) = false := by
  rw [Bool.eq_false_iff]
  intro hc
  have hm : Value.ref C ∈ l := by simpa using hc
  have := List.all_eq_true.mp h _ hm
  cases this
theorem mro_plain {T : String} (h : plainT T = true) : ∃ l, fastBuiltinMro T = some l ∧ noRefs l = true := by
  simp only [plainT, Bool.or_eq_true, beq_iff_eq] at h
  have go : ∀ T, (fastBuiltinMro T).any noRefs = true → ∃ l, fastBuiltinMro T = some l ∧ noRefs l = true := fun T h => by
    cases c : fastBuiltinMro T with
    | none => rw [c] at h; cases h
    | some l => rw [c] at h; exact ⟨l, rfl, h⟩
  rcases h with (((((rfl | rfl) | rfl) | rfl) | rfl) | rfl) | rfl <;> exact go _ (by decide +kernel)
theorem sub_plain {K : PySem.W.Frag} {T : String} {C : Addr} (h : plainT T = true) : PySem.W.subIn K (.type T) (.ref C) = some false := by
  obtain ⟨l, e, n⟩ := mro_plain h
  show (fastBuiltinMro T).map _ = _
  rw [e]
  show some (l.contains (.ref C)) = _
  rw [noRefs_c n]
theorem kit_plain {K : PySem.W.Frag} {T : String} {C : Addr} (h : plainT T = true) (I : IsC K C) : PySem.W.kitOne K (.type T) (.ref C) = some false := by
  unfold PySem.W.kitOne
  rw [if_neg (by simp)]
  unfold PySem.W.kitCls
  have hc : (PySem.W.clsIn K C).isSome = true := I.cls
  simp only [hc, I.ty, beq_self_eq_true, Bool.and_self, if_true]
  exact sub_plain h
theorem tyD_plain {d : D} {T : String} (h : tyD d = some T) : plainT T = true := by
  cases d <;> simp only [tyD, Option.some.injEq, reduceCtorEq] at h <;> (subst h; decide)
section
variable {X : Cx} {W : WP} {pins : List (Addr × Obj)} {σ : L2.St} {H : Hp} {s : Shared} {C f : Addr} {k : Nat} {fd : FuncData} {pn : List Str} {sp : Sp}
def EqR (K : PySem.W.Frag) (C : Addr) (y : V) (H : Hp) : Prop := (∃ b dy gs, y = .ref b ∧ H b = some (.ins C dy gs)) ∨ ∃ T, TyX K H y (.type T) ∧ plainT T = true
theorem looks_eqR {y : V} {u : Value} (I : Inv X pins σ H s) (ry : RelV y u) (h : EqR X.K C y H) : ∃ tb, PySem.W.Looks (model X.prog X.w) s.heap (typeOf u) tb ∧ PySem.W.notFirst X.K C tb = true := by
  rcases h with ⟨b, dy, gs, rfl, hb⟩ | ⟨T, ty, hT⟩
  · cases ry
    obtain ⟨mB, J', _⟩ := ins_get I.hok hb
    obtain ⟨od', J', _⟩ := J'.look
    exact ⟨.ref C, J'.type, by simp [PySem.W.notFirst]⟩
  · obtain ⟨P, Z, p, _⟩ := kit_of I ry ty
    refine ⟨.type T, Z.ty _ _ I.kIn p, ?_⟩
    unfold PySem.W.notFirst
    rw [sub_plain hT]
    simp
theorem own_call {A : Around} {x y : V} {u v : Value} {Q : VK} (F : FnOk X.prog X.w X.K X.mg X.base CX0 k f fd pn sp) (hb : Binds X.K fd pn []) (hr : Room k A) (fr : A.frames = X.A.frames) (I : Inv X pins σ H s) (rx : RelV x u) (ry : RelV y v) (h : sp [x, y] H Q E0) :
    wpAny (model X.prog X.w) A (call (.ref f) [u, v]) (EP X pins σ Q) X.xe s := by
  have e0 : Env0 X.prog X.w X.K X.mg X.base A X.stack s H := by
    have e := I.env0
    exact ⟨by rw [fr]; exact e.frames, e.mod, e.bs, e.bsz, e.funs, e.frf, e.hok, e.bare⟩
  have hl := F.len _ _ _ _ h
  have r2 : Vals [x, y] [u, v] := .cons rx (.cons ry .nil)
  refine wpAny_call (codeAny_mono (F.run A X.stack s H ⟨[u, v], []⟩ [u, v] [x, y] Q E0 hr e0 (by
    have := hb s [u, v] I.kIn (by simpa using hl)
    simpa using this) r2 h) fun r s' hq => ?_)
  match r, hq with
  | .error _, hq => exact hq.elim
  | .ok (.ret _), hq => exact I.after hq
  | .ok .next, hq => exact hq.elim
  | .ok .brk, hq => exact hq.elim
  | .ok .cont, hq => exact hq.elim
/-- == and != by the own == -/
def rOwn (K : PySem.W.Frag) (C : Addr) (sp : Sp) (neg : Bool) : R2 := fun x y H Q => (∃ a dx fs, x = .ref a ∧ H a = some (.ins C dx fs)) ∧ EqR K C y H ∧ sp [x, y] H (fun v H' => ∃ b, v = .bl b ∧ Q (.bl (if neg then !b else b)) H') E0
theorem op_own (E : OwnEq X.K C f) (F : FnOk X.prog X.w X.K X.mg X.base CX0 k f fd pn sp) (hb : Binds X.K fd pn []) (hr : Room k X.A) : OpR X (compareOp .Eq) (rOwn X.K C sp false) := by
  intro pins s σ H x y u v Q I rx ry h
  obtain ⟨⟨a, dx, fs, rfl, ha⟩, hy, q⟩ := h
  cases rx
  obtain ⟨mA, J, _⟩ := ins_get I.hok ha
  obtain ⟨od, J, _⟩ := J.look
  obtain ⟨tb, lt, nf⟩ := looks_eqR I ry hy
  obtain ⟨m, hF⟩ := I.fr
  show wpAny (model X.prog X.w) X.A (richCompare .Eq (.ref a) v) (EP X pins σ Q) X.xe s
  refine PySem.W.cmp_K (op := .Eq) (tb := tb) hr.units0 hF I.ok.mod.kin J lt nf E.eq E.fn ?_
  refine wpAny_mono (own_call (x := .ref a) F hb hr rfl I rfl ry q) (fun r s' z => ?_) fun _ _ e => e
  obtain ⟨w, H', I', rw', b, rfl, q'⟩ := z
  cases rw'
  exact ⟨.bl b, H', I', rfl, q'⟩
theorem ne_slot {x : Addr} {ox : Obj} {od : Option Obj} {u : Value} {A : Around} {E' : Value → Shared → Prop} {Q : Option Value → Shared → Prop} (Ki : X.K.In s.heap) (I : PySem.W.InstAt s.heap x ox C od) (E : OwnEq X.K C f) (hu : A.units + 1 < cLine)
    (h : wpAny (model X.prog X.w) A.in1 (call (.ref f) [.ref x, u]) (fun v s' => ∃ b, v = .bool b ∧ Q (some (.bool (!b))) s') E' s) : wpAny (model X.prog X.w) A (tryCompare (.ref x) "__ne__" u) Q E' s := by
  simp only [tryCompare]
  refine wpAny_bind ?_
  simp only [callSpecialIfBound?, bindSpecialIfBound?]
  refine wpAny_holding (wpAny_bind (wpAny_bind (wpAny_bind (I.type.here ((PySem.W.looks_findIn Ki E.ne).here ?_)))))
  refine wpAny_bind (wpAny_askSetting (wpAny_ite ?_))
  have fin : wpAny (model X.prog X.w) A (call (.builtin "object.__ne__") ([.ref x] ++ [u]) >>= fun v => pure (some v)) (fun r s' => wpAny (model X.prog X.w) A (match r with
      | some .notImplemented | none => pure none
      | some v => pure (some v)) Q E' s') E' s := by
    refine wpAny_bind (wpAny_call (codeAny_call_builtin PySem.F.cmp_object.ne.plain PySem.F.cmpEntry_ne (PySem.W.check_slot PySem.F.cmpKind_ne PySem.F.cmpSplit_ne ?_ (PySem.F.cmpArgs_ne _ _) ?_)))
    · exact I.type.andThen (PySem.W.looks_subIn Ki E.top)
    · unfold Builtin.«object.__ne__»
      repeat (first
        | with_reducible refine wpAny_cRoomFor hu ?_
        | (refine wpAny_bind (m := callSpecialIfBound? (.ref x) (Str.ofString "__eq__") [u]) (PySem.W.ifBound_K Ki I E.eq E.fn (wpAny_mono h (fun r s' hr => by
            obtain ⟨b, rfl, hq⟩ := hr
            refine wpAny_bind (m := truthy (.bool _)) (wpAny_truthy_bool ?_)
            repeat (first | exact wpAny_pure (wpAny_pure hq) | wp_step)) fun _ _ e => e)))
        | wp_step)
  split
  · exact wpAny_bind (wpAny_of_eq (PySem.F.cmp_object.ne.bind _) (wpAny_pure (by exact fin)))
  · exact wpAny_tryCatch (wpAny_bind (wpAny_of_eq (PySem.F.cmp_object.ne.bind _) (wpAny_pure (by exact fin))))
end
end PL

/-! PM: t[::-1] of a tuple. -/
namespace PL
open PySem PySem.Spec PyProof.Rows L2 HT
section
variable {prog : Program} {w : World} {A : Around} {E : Value → Shared → Prop} {s : Shared}
theorem sliceApplied_rev {sl : Addr} {vs : Value} {n : Nat} {Q : Int × Int × Nat → Shared → Prop} (hs : s.heap.IsSliceOf sl .none .none vs) (ps : IsPart vs (some (-1)))
    (h : Q ((n : Int) - 1, -1, n) s) : wpAny (model prog w) A (Builtin.Slice.sliceApplied (.ref sl) (pure (n : Int))) Q E s := by
  obtain ⟨os, hos, hcs, hds⟩ := id hs
  unfold Builtin.Slice.sliceApplied Builtin.Slice.sliceFields
  refine wpAny_bind (wpAny_bind (wpAny_field hos hds (x := .none) rfl (wpAny_bind (wpAny_field hos hds (x := .none) rfl (wpAny_bind (wpAny_field hos hds (x := vs) rfl (wpAny_pure ?_)))))))
  refine wpAny_bind (slicePart_ ps ?_)
  show wpAny _ _ (if ((-1 : Int) == 0) = true then _ else _) _ _ s
  rw [if_neg (by decide)]
  refine wpAny_bind (slicePart_none (wpAny_bind (slicePart_none (wpAny_bind (wpAny_pure ?_)))))
  show wpAny _ _ (pure ((n : Int) - 1, (-1 : Int), Builtin.Slice.slicePlaces ((n : Int) - 1) (-1) (-1))) _ _ s
  have e : Builtin.Slice.slicePlaces ((n : Int) - 1) (-1) (-1) = n := by
    unfold Builtin.Slice.slicePlaces
    rw [if_neg (by decide)]
    split
    · have : ((n : Int) - 1 - -1 - 1) / (- -1) + 1 = n := by
        rw [show (- -1 : Int) = 1 from rfl, Int.ediv_one]; omega
      rw [this]; simp
    · omega
  rw [e]
  exact wpAny_pure h
theorem pick_rev (xs : List Value) : ((List.range xs.length).filterMap fun (k : Nat) => xs.toArray[(((xs.length : Int) - 1) + (k : Int) * (-1)).toNat]?) = xs.reverse := by
  have e : ∀ l : List Value, (List.range l.length).filterMap (fun k => l[k]?) = l := fun l => by
    induction l with
    | nil => rfl
    | cons a l ih =>
      rw [List.length_cons, List.range_succ_eq_map, List.filterMap_cons, List.filterMap_map]
      show a :: List.filterMap (fun k => l[k]?) (List.range l.length) = _
      rw [ih]
  have := e xs.reverse
  rw [List.length_reverse] at this
  rw [← this]
  have go : ∀ (l : List Nat), (∀ k ∈ l, k < xs.length) → l.filterMap (fun (k : Nat) => xs.toArray[(((xs.length : Int) - 1) + (k : Int) * (-1)).toNat]?) = l.filterMap fun k => xs.reverse[k]? := by
    intro l
    induction l with
    | nil => intro _; rfl
    | cons k l ih =>
      intro h
      have hk := h k (by simp)
      have : (((xs.length : Int) - 1) + (k : Int) * (-1)).toNat = xs.length - 1 - k := by omega
      have e2 : xs.toArray[(((xs.length : Int) - 1) + (k : Int) * (-1)).toNat]? = xs.reverse[k]? := by
        rw [this, List.getElem?_reverse hk]
        simp
      rw [List.filterMap_cons, List.filterMap_cons, e2, ih fun k hk => h k (by simp [hk])]
  rw [go _ (fun k hk => List.mem_range.mp hk), this]
theorem getItem_tuple_rev {t sl : Addr} {items : List Value} {vs : Value} {Q : Value → Shared → Prop} (ht : IsTup s.heap t items.toArray) (hs : s.heap.IsSliceOf sl .none .none vs) (ps : IsPart vs (some (-1)))
    (h : Q (.ref s.heap.objs.size) { s with heap := s.heap.push { cls := .type "tuple", data := .seq items.reverse.toArray } })
    (hsz : items.length ≤ sizeLine) : wpAny (model prog w) A (getItem (.ref t) (.ref sl)) Q E s := by
  have htake : sizeOk (.seq items.reverse.toArray) := by
    show items.reverse.toArray.size ≤ sizeLine
    rw [List.size_toArray, List.length_reverse]; exact hsz
  obtain ⟨os, hos, hcs, hds⟩ := id hs
  have hTs : s.TypeIs (.ref sl) "slice" := ⟨os, hos, hcs⟩
  unfold getItem
  try with_reducible refine wpAny_holding ?_
  first | refine wpAny_bind (wpAny_pure ?_) | skip
  refine wpAny_bind (wpAny_sequenceKey ht.typeIs (by decide) ?_)
  refine wpAny_bind (wpAny_callSpecial?_slot (name := Str.ofString "__getitem__") ht.typeIs PyProof.Rows.slot_tuple_getitem
    (wpAny_call_entry PyProof.Rows.slot_tuple_getitem ht.typeIs entry_tuple_getitem ?_ (args_tuple_getitem _ _)))
  show wpAny _ _ (Builtin.Tuple.tupleItemsOf (.ref t) >>= _) _ _ s
  refine wpAny_bind (tupleItemsOf_ ht ?_)
  refine wpAny_bind (wpAny_typeOf hTs ?_)
  rw [if_pos (by decide)]
  have hn : items.toArray.size = items.length := List.size_toArray
  rw [hn]
  refine wpAny_bind (sliceApplied_rev hs ps ?_)
  have hno : ¬ ((((items.length : Int) - 1) == 0 && (-1 : Int) == 1 && items.length == items.length) = true) := by simp
  show wpAny _ _ (if (((items.length : Int) - 1) == 0 && (-1 : Int) == 1 && items.length == items.length) = true then _ else _) _ _ s
  rw [if_neg hno, pick_rev]
  first
    | exact wpAny_bind (m := Builtin.Tuple.tupleExact _) (wpAny_newObj_type (wpAny_pure ⟨_, rfl, wpAny_pure h⟩) htake)
    | exact wpAny_bind (m := Builtin.Tuple.tupleExact _) (wpAny_newObj_type (wpAny_bind (wpAny_pure (wpAny_pure ⟨_, rfl, wpAny_pure h⟩))) htake)
    | exact wpAny_bind (wpAny_bind (m := Builtin.Tuple.tupleExact _) (wpAny_newObj_type (wpAny_pure (wpAny_pure ⟨_, rfl, wpAny_pure h⟩)) htake))
    | exact wpAny_bind (wpAny_bind (m := Builtin.Tuple.tupleExact _) (wpAny_newObj_type (wpAny_pure ⟨_, rfl, wpAny_pure h⟩) htake))
end
section
variable {X : Cx} {W : WP}
def tRevT (K : PySem.W.Frag) (te : TE) : TE := fun σ H Q => te σ H fun x H1 => ∃ a xs, x = .ref a ∧ SqT K H1 a xs ∧ ∀ p, H1 p = none → Q (.ref p) (upd H1 p (.tup xs.reverse))
theorem pe_revT {e : Expr} {te : TE} {k : Nat} {p1 p2 p3 pos : Pos} (he : PE X e te) : PE X (.Subscript e (.Slice none none (some (.UnaryOp .USub (.Constant (.int 1) k p1) p2)) p3) pos) (tRevT X.K te) := by
  refine ⟨fun pins s σ H Q I h => ?_⟩
  refine Subscript_ (thn (he.run pins s σ H _ I h) fun v s1 ⟨x, H1, I1, r1, q1⟩ => ?_)
  obtain ⟨a, xs, ex, hx, q⟩ := q1
  subst ex
  cases r1
  have hst : PO X (some (.UnaryOp .USub (.Constant (.int 1) k p1) p2)) (tPart (tUn (rU fun i => .int (-i)) (tC (.int 1)))) := po_some (pe_un un_neg pe_int)
  refine wpAny_Slice (thn (po_none.run pins s1 σ H1 (fun o H2 => o = none ∧ H2 = H1) I1 ⟨rfl, rfl⟩) fun vl s2 ⟨l, H2, I2, pl, el, e2⟩ => ?_)
  subst el e2
  refine thn (po_none.run pins s2 σ H2 (fun o H3 => o = none ∧ H3 = H2) I2 ⟨rfl, rfl⟩) fun vu s3 ⟨u, H3, I3, pu, eu, e3⟩ => ?_
  subst eu e3
  refine thn (hst.run pins s3 σ H3 (fun o H4 => o = some (-1) ∧ H4 = H3) I3 ⟨1, rfl, -1, rfl, rfl, rfl⟩) fun vs s4 ⟨o, H4, I4, ps, eo, e4⟩ => ?_
  subst eo e4
  have I5 : Inv X pins σ H4 { s4 with heap := s4.heap.push { cls := .type "slice", data := .fields #[vl, vu, vs] } } := I4.kept (t' := s4.toks) fun b ob q => Heap.get?_push_of_some _ q
  obtain ⟨its, r, ht, hz⟩ := I5.tuple hx
  have hlen := r.length
  cases pl
  cases pu
  show wpAny (model X.prog X.w) X.A (subscriptTail e (.Slice none none (some (.UnaryOp .USub (.Constant (.int 1) k p1) p2)) p3) (.ref a) (.ref s4.heap.objs.size)) (EP X pins σ Q) X.xe { s4 with heap := s4.heap.push { cls := .type "slice", data := .fields #[.none, .none, vs] } }
  refine tail_any (ops := [.ref a, .ref s4.heap.objs.size]) ht.typeIs (PyProof.Rows.slot_tuple_getitem.lookup) ?_ (by with_unfolding_all rfl)
  refine getItem_tuple_rev ht (Heap.IsSliceOf.new _ .none .none vs) ps ?_ (by omega)
  refine ⟨.ref _, _, I5.laid (t' := s4.toks) (o := .tup xs.reverse) (fun b ob q => Heap.get?_push_of_some _ q) (Nat.le_refl _) ?_, rfl, q _ (I5.hok.fresh (Nat.le_refl _))⟩
  exact ⟨by rw [List.length_reverse]; exact hz, _, r.reverse, IsTup.new _ _⟩
def gRevT : D → Option Arg
  | .tup ds => some (.val (.tup ds.reverse))
  | _ => none
theorem ex_revT {e : Expr} {f : FE} {n : Nat} {p1 p2 p3 pos : Pos} (he : EX X W e f) : EX X W (.Subscript e (.Slice none none (some (.UnaryOp .USub (.Constant (.int 1) n p1) p2)) p3) pos) (uop gRevT f) := by
  obtain ⟨t, p, r⟩ := he
  refine ⟨_, pe_revT p, fun A F H σ env Q S q => r A F H σ env _ S (q.afE fun p F1 H1 v1 s1 S1 r1 q1 => ?_)⟩
  cases c : cont p.1 p.2 with
  | none => rw [c] at q1; exact q1.elim
  | some d =>
    rw [c] at q1
    have vw := S1.view r1 c
    cases d with
    | tup ds =>
      obtain ⟨a, vs, rfl, hp, rr⟩ := vw.tup
      exact ⟨a, vs, rfl, S1.sub.t hp, S1.newT rr.reverse q1⟩
    | _ => exact q1.elim
end
end PL

/-! PM: own == and != over data; isinstance of an own class. -/
namespace PL
open PySem PySem.Spec PyProof.Rows L2
/-- the two sides: the left one an instance of c, the right one of a kind that is known -/
def okEq (c : Str) (d : D) : Bool := match d with
  | .inst c' _ _ => c' == c
  | d => (tyD d).isSome
def aown (c : Str) (fa fb : FE) : FA := fun env => (fa env).bind fun p => (fb p.2).bind fun q => match cont (settle p.1) q.2, cont q.1 q.2 with
  | some (.inst c' _ _), some d => if c' = c ∧ okEq c d = true then .ok ([settle p.1, settle q.1], q.2) else .no
  | _, _ => .no
def oeq (c : Str) (neg : Bool) (f : FFn) (fa fb : FE) : FE := fun env => (callF [.rd, .rd] f (aown c fa fb) env).bind fun p => match p.1 with
  | .val (.bl b) => .ok (.val (.bl (if neg then !b else b)), p.2)
  | _ => .no
section
variable {X : Cx} {W : WP} {k : Nat} {f C : Addr} {fd : FuncData} {pn : List Str} {c : Str} {pos : Pos} {a b : Expr} {fa fb : FE} {fn : FFn}
theorem View.ins' {kk : Kn} {F H : Hp} {c : Str} {ns : List Str} {ds : List D} {v : V} (s : Sub F H) (h : View kk F H (.inst c ns ds) v) : ∃ a C dx fs, v = .ref a ∧ kk.mg c = some (.ref C) ∧ H a = some (.ins C dx fs) := by
  obtain ⟨a, C', dx, fs, rfl, h2, h1, _⟩ := h.inst s
  exact ⟨a, C', dx, fs, rfl, h1, h2⟩
theorem eqr_view {F H : Hp} {d : D} {v : V} (hC : ClsOk X c C) (s : Sub F H) (h : View (kn X) F H d v) (ok : okEq c d = true) : EqR X.K C v H := by
  have go : ∀ T, tyD d = some T → EqR X.K C v H := fun T ht => .inr ⟨T, ty_view s h ht, tyD_plain ht⟩
  cases d with
  | inst c' ns ds =>
    have e : c' = c := by simpa [okEq] using ok
    subst e
    obtain ⟨a, C', dx, fs, rfl, h1, h2⟩ := h.ins' s
    have h1 : X.mg c' = some (.ref C') := h1
    rw [hC.mg] at h1; cases h1
    exact .inl ⟨a, dx, fs, rfl, h2⟩
  | non => exact go _ rfl
  | bl _ => exact go _ rfl
  | int _ => exact go _ rfl
  | str _ => exact go _ rfl
  | tup _ => exact go _ rfl
  | lst _ => exact go _ rfl
  | dct _ _ => cases ok
  | dctT _ _ => cases ok
  | fn _ => cases ok
  | scr _ => cases ok
theorem oeq_ok {neg : Bool} {ta tb : TE} (hC : ClsOk X c C) (ra : ∀ (A : Amb) (F H : Hp) (σ : L2.St) (env : En) (Q : VK), Sta (kn X) A F H σ env → PostE (kn X) A W F σ (fa env) Q → ta σ H Q)
    (rb : ∀ (A : Amb) (F H : Hp) (σ : L2.St) (env : En) (Q : VK), Sta (kn X) A F H σ env → PostE (kn X) A W F σ (fb env) Q → tb σ H Q) :
    ∀ (A : Amb) (F H : Hp) (σ : L2.St) (env : En) (Q : VK), Sta (kn X) A F H σ env → PostE (kn X) A W F σ (oeq c neg fn fa fb env) Q → tOp (rOwn X.K C (Prom (kn X) 2 fn) neg) ta tb σ H Q := by
  intro A F H σ env Q S q
  have q := q.afE (Q1 := fun v H' => ∃ b, v = .bl b ∧ Q (.bl (if neg then !b else b)) H') fun p F' H' v s1 S1 r1 q1 => by
    obtain ⟨x, e⟩ := p
    dsimp only at q1 r1
    split at q1
    · cases r1
      exact ⟨_, rfl, q1 F' H' _ (.refl _) S1 (.bl _)⟩
    · exact q1.elim
  have := callF_ok (X := X) (W := W) (fa := aown c fa fb) (fn := fn) (n := 2) (ms := [.rd, .rd])
    (t := fun σ H R => ta σ H fun x H1 => tb σ H1 fun y H2 => (∃ a dx fs, x = .ref a ∧ H2 a = some (.ins C dx fs)) ∧ EqR X.K C y H2 ∧ R [x, y] H2) rfl (fun A F H σ env R S q => by
      refine ra A F H σ env _ S (q.afE fun p F1 H1 v1 s1 S1 r1 q1 => ?_)
      obtain ⟨F1', s1', S1', r1'⟩ := S1.settle r1
      refine rb A F1' H1 σ p.2 _ S1' ((q1.mono s1').afE fun p2 F2 H2 v2 s2 S2 r2 q2 => ?_)
      have k1 := r1'.keep (F' := F2) (H' := H2) (env' := p2.2) s2
      split at q2
      · rename_i c' ns ds d ea eb
        split at q2
        · rename_i hc
          obtain ⟨rfl, ok⟩ := hc
          obtain ⟨ad, C', dx, fs, rfl, h1, h2⟩ := (S2.view k1 ea).ins' S2.sub
          have h1 : X.mg c' = some (.ref C') := h1
          rw [hC.mg] at h1; cases h1
          obtain ⟨F2', s2', S2', r2'⟩ := S2.settle r2
          refine ⟨⟨ad, dx, fs, rfl, h2⟩, eqr_view hC S2.sub (S2.view r2 eb) ok, (q2.mono s2') F2' H2 _ (.refl _) S2' ?_⟩
          exact .cons (k1.keep (F' := F2') (H' := H2) (env' := p2.2) s2' |> fun z => by cases hx : p.1 <;> rw [hx] at z <;> exact z) (.cons (r2' |> fun z => by cases hx : p2.1 <;> rw [hx] at z <;> exact z) .nil)
        · exact q2.elim
      · exact q2.elim) A F H σ env _ S q
  exact this
theorem ex_own (hC : ClsOk X c C) (E : OwnEq X.K C f) (Fo : FnOk X.prog X.w X.K X.mg X.base CX0 k f fd pn (Prom (kn X) 2 fn)) (hb : Binds X.K fd pn []) (hr : Room k X.A) (ha : EX X W a fa) (hb' : EX X W b fb) : EX X W (.Compare a [.Eq] [b] pos) (oeq c false fn fa fb) :=
  let ⟨_, pa, ra⟩ := ha
  let ⟨_, pb, rb⟩ := hb'
  ⟨_, pe_cmpR (op_own E Fo hb hr) pa pb (nomark _), oeq_ok hC ra rb⟩
theorem tx_own (hC : ClsOk X c C) (E : OwnEq X.K C f) (Fo : FnOk X.prog X.w X.K X.mg X.base CX0 k f fd pn (Prom (kn X) 2 fn)) (hb : Binds X.K fd pn []) (hr : Room k X.A) (ha : EX X W a fa) (hb' : EX X W b fb) : TX X W (.Compare a [.Eq] [b] pos) (tst (oeq c false fn fa fb)) :=
  let ⟨_, pa, ra⟩ := ha
  let ⟨_, pb, rb⟩ := hb'
  ⟨_, pt_cmpR (op_own E Fo hb hr) pa pb (nomark _), tst_ok (oeq_ok hC ra rb)⟩
theorem op_ownN (E : OwnEq X.K C f) {sp : Sp} (F : FnOk X.prog X.w X.K X.mg X.base CX0 k f fd pn sp) (hb : Binds X.K fd pn []) (hr : Room (k + 1) X.A) : OpR X (compareOp .NotEq) (rOwn X.K C sp true) := by
  intro pins s σ H x y u v Q I rx ry h
  obtain ⟨⟨a, dx, fs, rfl, ha⟩, hy, q⟩ := h
  cases rx
  obtain ⟨mA, J, _⟩ := ins_get I.hok ha
  obtain ⟨od, J, _⟩ := J.look
  obtain ⟨tb, lt, nf⟩ := looks_eqR I ry hy
  have Ki := I.kIn
  have hu := hr.units0
  have hu1 : X.A.units + 1 < cLine := by have := hr.un; omega
  show wpAny (model X.prog X.w) X.A (richCompare .NotEq (.ref a) v) (EP X pins σ Q) X.xe s
  have one : wpAny (model X.prog X.w) X.A (tryCompare (.ref a) "__ne__" v) (fun r s' => ∃ w, r = some w ∧ EP X pins σ Q w s') X.xe s := by
    refine ne_slot Ki J E hu1 (wpAny_mono (own_call (x := .ref a) F hb hr.in1 rfl I rfl ry q) (fun r s' z => ?_) fun _ _ e => e)
    obtain ⟨w, H', I', rw', b, rfl, q'⟩ := z
    cases rw'
    exact ⟨b, rfl, _, rfl, .bl (!b), H', I', rfl, q'⟩
  unfold richCompare
  simp only [oneThing_ref]
  refine wpAny_holding (wpAny_bind (wpAny_cRoomFor hu ?_))
  refine wpAny_bind (J.type.here (wpAny_bind (lt.here ?_)))
  split
  · rename_i qq
    have e : PySem.W.subIn X.K tb (.ref C) = some false := by
      rcases Bool.or_eq_true_iff.mp nf with e | e
      · rw [beq_iff_eq.mp e] at qq; simp at qq
      · exact beq_iff_eq.mp e
    refine wpAny_bind ((PySem.W.looks_subIn Ki e).here ?_)
    simp only [Bool.false_eq_true, if_false]
    refine wpAny_bind (wpAny_mono one (fun r s' z => ?_) fun _ _ e => e)
    obtain ⟨v, rfl, hq⟩ := z
    exact wpAny_pure hq
  · refine wpAny_bind (wpAny_pure ?_)
    simp only [Bool.false_eq_true, if_false]
    refine wpAny_bind (wpAny_mono one (fun r s' z => ?_) fun _ _ e => e)
    obtain ⟨v, rfl, hq⟩ := z
    exact wpAny_pure hq
theorem ex_ownN (hC : ClsOk X c C) (E : OwnEq X.K C f) (Fo : FnOk X.prog X.w X.K X.mg X.base CX0 k f fd pn (Prom (kn X) 2 fn)) (hb : Binds X.K fd pn []) (hr : Room (k + 1) X.A) (ha : EX X W a fa) (hb' : EX X W b fb) : EX X W (.Compare a [.NotEq] [b] pos) (oeq c true fn fa fb) :=
  let ⟨_, pa, ra⟩ := ha
  let ⟨_, pb, rb⟩ := hb'
  ⟨_, pe_cmpR (op_ownN E Fo hb hr) pa pb (nomark _), oeq_ok hC ra rb⟩
theorem tx_ownN (hC : ClsOk X c C) (E : OwnEq X.K C f) (Fo : FnOk X.prog X.w X.K X.mg X.base CX0 k f fd pn (Prom (kn X) 2 fn)) (hb : Binds X.K fd pn []) (hr : Room (k + 1) X.A) (ha : EX X W a fa) (hb' : EX X W b fb) : TX X W (.Compare a [.NotEq] [b] pos) (tst (oeq c true fn fa fb)) :=
  let ⟨_, pa, ra⟩ := ha
  let ⟨_, pb, rb⟩ := hb'
  ⟨_, pt_cmpR (op_ownN E Fo hb hr) pa pb (nomark _), tst_ok (oeq_ok hC ra rb)⟩
/-! isinstance(e, C) -/
def isiC (c : Str) (f : FE) : FE := fun env => (f env).bind fun p => match cont p.1 p.2 with
  | some (.inst c' _ _) => if c' = c then .ok (.val (.bl true), p.2) else .no
  | some d => (match tyD d with
    | some _ => .ok (.val (.bl false), p.2)
    | none => .no)
  | none => .no
theorem ex_isiC {p p2 : Pos} {e : Expr} {f : FE} (hC : ClsOk X c C) (hI : IsC X.K C) (hg : Gl X "isinstance") (hm : X.mg "isinstance" = none) (hg2 : Gl X c) (h : EX X W e f) (hd : (c == ("__debug__" : Str)) = false := by decide)
    (h1 : starEach [e, .Name c p2] X.env = (false, eval e X.env) :: starEach [.Name c p2] X.env := by rfl) (h2 : starEach [.Name c p2] X.env = (false, eval (.Name c p2) X.env) :: starEach [] X.env := by rfl) (pl : (backTo pos (starEach [.Name c p2] X.env)).any (·.1) = false := by rfl) :
    EX X W (.Call (.Name "isinstance" p) [e, .Name c p2] [] pos) (isiC c f) := by
  obtain ⟨t, pe, r⟩ := h
  have pt : PE X (.Name c p2) (tC (.ref C)) := pe_glob (v := .ref C) hg2 hC.mg rfl hd
  refine ⟨_, pe_callB call_isi hg hm boot_isinstance (pa_cons pe (pa_cons pt pa_nil h2) h1) (by decide) (by decide) h1 pl, fun A F H σ env Q S q => r A F H σ env _ S (q.afE fun p F1 H1 v1 s1 S1 r1 q1 => ?_)⟩
  have plain : ∀ d T, cont p.1 p.2 = some d → tyD d = some T → PostE (kn X) A W F1 σ (.ok (.val (.bl false), p.2)) Q → ∃ (x c : V) (t u : Value) (b : Bool), [v1, .ref C] = [x, c] ∧ ClsV c u ∧ TyX X.K H1 x t ∧ PySem.W.kitOne X.K t u = some b ∧ Q (.bl b) H1 := fun d T ec ct q1 =>
    ⟨v1, .ref C, .type T, .ref C, false, rfl, .own C, ty_view S1.sub (S1.view r1 ec) ct, kit_plain (tyD_plain ct) hI, q1 F1 H1 _ (.refl _) S1 (.bl _)⟩
  split at q1
  · rename_i c' ns ds ec
    split at q1
    · rename_i e
      subst e
      obtain ⟨ad, C', dx, fs, rfl, h1, h2⟩ := (S1.view r1 ec).ins' S1.sub
      have h1 : X.mg c' = some (.ref C') := h1
      rw [hC.mg] at h1; cases h1
      refine ⟨.ref ad, .ref C, .ref C, .ref C, true, rfl, .own C, .base (.ins h2 hC.cls hI.ha hI.hn hI.tk hI.top), ?_, q1 F1 H1 _ (.refl _) S1 (.bl _)⟩
      unfold PySem.W.kitOne
      rw [if_pos (by simp)]
    · exact q1.elim
  · rename_i d _ ec
    split at q1
    · rename_i T ct
      exact plain d T ec ct q1
    · exact q1.elim
  · exact q1.elim
end
end PL

/-! PM: str(an instance) by its own __str__; sep.join(list). -/
namespace PL
open PySem PySem.Spec PyProof.Rows L2
section
variable {prog : Program} {w : World} {A : Around} {E : Value → Shared → Prop} {s : Shared}
/-- a call of a built-in type, in one model -/
theorem callType_in {T newId : String} {Bn : Builtin} {args : List Value} {S : PySem.Spec} {Q : Value → Shared → Prop} (ft : TypeCalled T newId "object.__init__")
    (hne : (some newId != some "object.__new__") = true) (hct : checkTypeCall T ⟨args, []⟩ = pure ()) (hcn : checkBuiltinCall newId ⟨.type T :: args, []⟩ = pure ())
    (hok : ∀ obj, argsOk "object.__init__" ⟨obj :: args, []⟩) (entryN : entryFor table newId = some Bn) (g : MeetsIn prog w (Bn ⟨.type T :: args, []⟩) S)
    (h : S A.in1 (wants (fun obj s₁ => s₁.TypeIs obj T ∧ Q obj s₁) E) s) : wpAny (model prog w) A (call (.type T) args) Q E s := by
  obtain ⟨c, tl, hmro⟩ := ft.mro
  have hmade := ft.made
  have hsub := ft.sub
  refine wpAny_call (codeAny_of_tree ?_)
  show wpAny _ _ (callAny (.type T) _) _ _ _
  refine wpAny_pure ⟨Code.quiet_builtin _ (by decide +kernel), codeAny_builtin PySem.F.entry_type_call ?_⟩
  rw [Around.under_plain (weight_type_call_type T args []) (units_type_call_type T args [])]
  have h1 := ft.notType
  have h2 := ft.canCreate
  repeat (any_goals (first | assumption | wp_step))
  refine codeAny_mono (codeAny_call_builtin ft.plain entryN (wpAny_of_eq hcn (g A.in1 _ s h))) fun r s₁ hr => ?_
  cases r with
  | error e => exact hr
  | ok fl =>
    cases fl with
    | ret obj =>
      obtain ⟨hT, hq0⟩ := hr
      have hli := ft.init.lookup
      have hbi := ft.init.bind obj
      repeat (any_goals (first | assumption | wp_step))
      refine codeAny_mono (codeAny_call_builtin ft.init.plain PySem.F.entry_object_init (ft.init.check _ _ _ _ _ _ _ _ hT (hok obj) (object_init_meets ft.init.lookup ft.made hne prog w A.in1 (wants (fun r s₂ => r = .none ∧ Q obj s₂) E) s₁ ⟨hT, rfl, hq0⟩))) fun r₂ s₂ hr₂ => ?_
      cases r₂ with
      | error e => exact hr₂
      | ok fl₂ =>
        cases fl₂ with
        | ret r =>
          obtain ⟨rfl, hq⟩ := hr₂
          repeat (any_goals (first | assumption | wp_step))
        | _ => exact hr₂.elim
    | _ => exact hr.elim
theorem str_new_in {v : Value} {S : PySem.Spec} (hs : ∀ (A : Around) (R : Result → Shared → Prop) (s : Shared), S A R s →
      wpAny (model prog w) A.in1 (Builtin.Str.strOf v) (fun r s' => R (.ok (.ret r)) s') (fun e s' => R (.error e) s') s) : MeetsIn prog w (Builtin.«str.__new__» ⟨[.type "str", v], []⟩) S := by
  refine MeetsIn.of_wp fun A R s h => ?_
  rw [str_new_tree v]
  refine wpAny_bind (wpAny_pure ?_)
  refine wpAny_bind (wpAny_of_eq isSubtype_str_str ?_)
  exact wpAny_bind (wpAny_mono (hs A R s h) (fun r s' h' => wpAny_pure ⟨_, rfl, h'⟩) fun _ _ e => e)
end
structure OwnStr (K : PySem.W.Frag) (C f : Addr) : Prop where
  st : PySem.W.findIn K (.ref C) "__str__" = some (some (.ref f))
  fn : PySem.W.isFn K (.ref f) = true
section
variable {X : Cx} {W : WP} {pins : List (Addr × Obj)} {σ : L2.St} {H : Hp} {s : Shared} {C f : Addr} {k : Nat} {fd : FuncData} {pn : List Str} {sp : Sp}
theorem own_call1 {A : Around} {x : V} {u : Value} {Q : VK} (F : FnOk X.prog X.w X.K X.mg X.base CX0 k f fd pn sp) (hb : Binds X.K fd pn []) (hr : Room k A) (fr : A.frames = X.A.frames) (I : Inv X pins σ H s) (rx : RelV x u) (h : sp [x] H Q E0) :
    wpAny (model X.prog X.w) A (call (.ref f) [u]) (EP X pins σ Q) X.xe s := by
  have e0 : Env0 X.prog X.w X.K X.mg X.base A X.stack s H := by
    have e := I.env0
    exact ⟨by rw [fr]; exact e.frames, e.mod, e.bs, e.bsz, e.funs, e.frf, e.hok, e.bare⟩
  have hl := F.len _ _ _ _ h
  have r2 : Vals [x] [u] := .cons rx .nil
  refine wpAny_call (codeAny_mono (F.run A X.stack s H ⟨[u], []⟩ [u] [x] Q E0 hr e0 (by
    have := hb s [u] I.kIn (by simpa using hl)
    simpa using this) r2 h) fun r s' hq => ?_)
  match r, hq with
  | .error _, hq => exact hq.elim
  | .ok (.ret _), hq => exact I.after hq
  | .ok .next, hq => exact hq.elim
  | .ok .brk, hq => exact hq.elim
  | .ok .cont, hq => exact hq.elim
def rStrI (C : Addr) (sp : Sp) : List V → Hp → VK → Prop := fun xs H Q => ∃ a dx fs, xs = [.ref a] ∧ H a = some (.ins C dx fs) ∧ sp [.ref a] H (fun v H' => ∃ z, v = .str z ∧ Q (.str z) H') E0
theorem strOf_own {A : Around} {a : Addr} {ox : Obj} {od : Option Obj} {Q : Value → Shared → Prop} {E' : Value → Shared → Prop} (Ki : X.K.In s.heap) (I : PySem.W.InstAt s.heap a ox C od) (O : OwnStr X.K C f) (hu : A.units < cLine)
    (h : wpAny (model X.prog X.w) A (call (.ref f) [.ref a]) (fun v s' => ∃ z t, v = .str z t ∧ Q (.str z t) s') E' s) : wpAny (model X.prog X.w) A (Builtin.Str.strOf (.ref a)) Q E' s := by
  unfold Builtin.Str.strOf
  rw [show Builtin.Str.isExactStr (.ref a) = false from rfl]
  simp only [Bool.false_eq_true, if_false]
  refine wpAny_bind (wpAny_cRoomFor hu ?_)
  refine wpAny_bind (m := callSpecial? (.ref a) (Str.ofString "__str__")) ?_
  unfold callSpecial?
  refine wpAny_bind (wpAny_bind (I.type.here ((PySem.W.looks_findIn Ki O.st).here ?_)))
  refine wpAny_holding (wpAny_bind ((PySem.W.bind_fn Ki _ (beq_iff_eq.mp O.fn)).here ?_))
  refine wpAny_bind (wpAny_mono h (fun v s' hv => ?_) fun _ _ e => e)
  obtain ⟨z, t, rfl, q⟩ := hv
  repeat (first | exact q | wp_step)
theorem call_strI (O : OwnStr X.K C f) (F : FnOk X.prog X.w X.K X.mg X.base CX0 k f fd pn sp) (hb : Binds X.K fd pn []) (hr : Room (k + 2) X.A) : CallR X (.type "str") (rStrI C sp) := by
  intro pins s σ H xs us Q I r h
  obtain ⟨a, dx, fs, rfl, ha, q⟩ := h
  obtain ⟨u, rfl, ru⟩ := vals1 r
  cases ru
  obtain ⟨mA, J, _⟩ := ins_get I.hok ha
  obtain ⟨od, J, _⟩ := J.look
  have hr2 : Room k X.A.in1.in1 := hr.in1.in1
  refine callType_in PySem.F.called_str (by decide) (PySem.F.typeCall_str_1 _) (PySem.F.newCall_str_1 _) (fun obj => PySem.F.args_object_init_2 obj _) PySem.F.entry_str_new
    (str_new_in (S := fun A R s => wpAny (model X.prog X.w) A.in1 (Builtin.Str.strOf (.ref a)) (fun r s' => R (.ok (.ret r)) s') (fun e s' => R (.error e) s') s) fun _ _ _ h => h) ?_
  refine strOf_own I.kIn J O hr2.units0 (wpAny_mono (own_call1 (x := .ref a) F hb hr2 rfl I rfl q) (fun v s' z => ?_) fun _ _ e => e)
  obtain ⟨y, H', I', rw', z, rfl, q'⟩ := z
  obtain ⟨t, rfl⟩ := rw'
  exact ⟨z, t, rfl, typeIs_str _ _ _, .str z, H', I', ⟨t, rfl⟩, q'⟩
end
/-- str of an instance of c -/
def aone (c : Str) (fe : FE) : FA := fun env => (fe env).bind fun p => match cont p.1 p.2 with
  | some (.inst c' _ _) => if c' = c then .ok ([settle p.1], p.2) else .no
  | _ => .no
def ostr (c : Str) (f : FFn) (fe : FE) : FE := fun env => (callF [.rd] f (aone c fe) env).bind fun p => match p.1 with
  | .val (.str z) => .ok (.val (.str z), p.2)
  | _ => .no
section
variable {X : Cx} {W : WP} {k : Nat} {f C : Addr} {fd : FuncData} {pn : List Str} {c : Str} {pos p : Pos} {e : Expr} {fe : FE} {fn : FFn}
theorem ex_strI (hC : ClsOk X c C) (O : OwnStr X.K C f) (Fo : FnOk X.prog X.w X.K X.mg X.base CX0 k f fd pn (Prom (kn X) 1 fn)) (hb : Binds X.K fd pn []) (hr : Room (k + 2) X.A) (hg : Gl X "str") (hm : X.mg "str" = none) (h : EX X W e fe)
    (h1 : starEach [e] X.env = (false, eval e X.env) :: starEach [] X.env := by rfl) (pl : (backTo pos (starEach ([] : List Expr) X.env)).any (·.1) = false := by rfl) :
    EX X W (.Call (.Name "str" p) [e] [] pos) (ostr c fn fe) := by
  obtain ⟨t, pe, r⟩ := h
  refine ⟨_, pe_callTy (call_strI O Fo hb hr) hg hm boot_str (pa_cons pe pa_nil h1) (by decide) (by decide) h1 pl, fun A F H σ env Q S q => ?_⟩
  have q := q.afE (Q1 := fun v H' => ∃ z, v = .str z ∧ Q (.str z) H') fun p F' H' v s1 S1 r1 q1 => by
    obtain ⟨x, e⟩ := p
    dsimp only at q1 r1
    split at q1
    · cases r1
      exact ⟨_, rfl, q1 F' H' _ (.refl _) S1 (.str _)⟩
    · exact q1.elim
  have := callF_ok (X := X) (W := W) (fa := aone c fe) (fn := fn) (n := 1) (ms := [.rd])
    (t := fun σ H R => t σ H fun x H1 => ∃ a dx fs, [x] = [V.ref a] ∧ H1 a = some (.ins C dx fs) ∧ R [.ref a] H1) rfl (fun A F H σ env R S q => by
      refine r A F H σ env _ S (q.afE fun p F1 H1 v1 s1 S1 r1 q1 => ?_)
      split at q1
      · rename_i c' ns ds ec
        split at q1
        · rename_i hc
          subst hc
          obtain ⟨ad, C', dx, fs, rfl, h1, h2⟩ := (S1.view r1 ec).ins' S1.sub
          have h1 : X.mg c' = some (.ref C') := h1
          rw [hC.mg] at h1; cases h1
          obtain ⟨F1', s1', S1', r1'⟩ := S1.settle r1
          exact ⟨ad, dx, fs, rfl, h2, (q1.mono s1') F1' H1 _ (.refl _) S1' (.cons (r1' |> fun z => by cases hx : p.1 <;> rw [hx] at z <;> exact z) .nil)⟩
        · exact q1.elim
      · exact q1.elim) A F H σ env _ S q
  exact this
end
/-! sep.join(xs) -/
def strsOf : List D → Option (List Str)
  | [] => some []
  | .str z :: r => (strsOf r).map (z :: ·)
  | _ => none
theorem strsOf_map : ∀ zs : List Str, strsOf (zs.map D.str) = some zs
  | [] => rfl
  | z :: zs => by simp [strsOf, strsOf_map zs]
theorem strsOf_eq : ∀ {ds : List D} {zs : List Str}, strsOf ds = some zs → ds = zs.map D.str
  | [], zs, h => by cases h; rfl
  | d :: ds, zs, h => by
    unfold strsOf at h
    split at h
    · rename_i e; cases e
    · rename_i z r e
      cases e
      cases c : strsOf ds with
      | none => rw [c] at h; cases h
      | some js => rw [c] at h; cases h; rw [strsOf_eq c]; rfl
    · cases h
def pJoin : D → List D → Option Arg
  | .str a, [.lst ds] => (strsOf ds).bind fun ys => if (ys.map (·.length)).sum + ys.length * a.length ≤ 16777216 then some (.val (.str (Txt.join a ys))) else none
  | _, _ => none
theorem pok_join {k : Kn} : POk k (fun x xs H Q => ∃ a p, ∃ ys : List Str, x = .str a ∧ xs = [.ref p] ∧ (SqL k.K H p (ys.map V.str) ∨ SqT k.K H p (ys.map V.str)) ∧ (ys.map (·.length)).sum + ys.length * a.length ≤ 16777216 ∧ Q (.str (Txt.join a ys)) H) pJoin := by
  intro A F H σ env x vs a ds z Q S ra va e q
  unfold pJoin at e
  split at e
  · rename_i sep ds
    cases c : strsOf ds with
    | none => rw [c] at e; cases e
    | some ys =>
      rw [c] at e
      simp only [Option.bind_some] at e
      split at e
      · rename_i hz
        cases e
        obtain ⟨v, rfl, vw⟩ := va.one
        cases ra
        obtain ⟨p, us, rfl, hp, rr⟩ := vw.lst S.sub
        rw [strsOf_eq c] at rr
        have := rr.strs
        subst this
        exact ⟨sep, p, ys, rfl, rfl, .inl (SqL.of hp), hz, q F H _ (.refl _) S (.str _)⟩
      · cases e
  · cases e
end PL

/-! PL: static methods; a def with *args only. -/
namespace PL
open PySem PySem.Spec PyProof.Rows L2
/-- C.m is a staticmethod: its record at p, its def at g -/
structure SMet (K : PySem.W.Frag) (C : Addr) (mc : Value) (m : Str) (p g : Addr) : Prop where
  at_ : PySem.W.findCls K (.ref C) mc m = some (.get (.builtin "staticmethod.__get__") (.ref p) .none (.ref C))
  rc : ∃ rest, PySem.W.recIn K p "staticmethod" = some (.ref g :: rest)
section
variable {X : Cx} {pins : List (Addr × Obj)} {σ : L2.St} {H : Hp} {s : Shared} {C p g : Addr} {mc : Value} {m : Str} {A : Around} {E : Value → Shared → Prop}
theorem getsmet_ok {b : Bool} {Q : Value → Shared → Prop} (I : Inv X pins σ H s) (r : ClX.CRead X.K C mc) (k : SMet X.K C mc m p g) (hh : PySem.W.handedIn (.ref g) = true)
    (h : ∀ s', Inv X pins σ H s' → Q (.ref g) s') : wpAny (model X.prog X.w) A (getAttr (.ref C) m b) Q E s := by
  obtain ⟨rest, hp⟩ := k.rc
  refine PySem.W.cls_bind I.kIn r.rd k.at_ ?_
  refine wpAny_call (PySem.W.sm_get (s := { s with toks := s.toks + 1 }) I.kIn hp (PySem.W.handed_on hh ?_))
  exact h _ (I.tok _)
end
section
variable {X : Cx} {CX : CXT} {k : Nat} {C p g : Addr} {mc : Value} {sp : Sp} {E : XK} {o e : Expr} {es : List Expr} {f m : Str} {pos apos : Pos} {ta : TE} {t : TA} {pl : Sem Bool}
theorem pe_smeth (he : PE X o ta) (r : ClX.CRead X.K C mc) (c : SMet X.K C mc m p g) (hk : PySem.W.keepIn X.K (.ref g) = true) (F : FnR X.prog X.w X.K X.mg X.base CX k g sp) (hr : Room k X.A) (hx : Passes CX X E) (ha : PA X (e :: es) t)
    (hst : starEach (e :: es) X.env = (false, eval e X.env) :: starEach es X.env := by rfl) (hpl : (backTo pos (starEach es X.env)).any (·.1) = false := by rfl)
    (ht : eval (.Call (.Attribute o m apos) (e :: es) [] pos) X.env = (do
      let ov ← eval o X.env
      standAt apos.atName
      let (f, first) ← holding [ov] (getMethod ov m pl)
      callWith pos f first (backTo pos (starEach (e :: es) X.env)) (backToKw pos (keywordEach [] X.env))) := by rfl) :
    PE X (.Call (.Attribute o m apos) (e :: es) [] pos) (fun σ H Q => ta σ H fun x H1 => x = .ref C ∧ t σ H1 fun vs H2 => sp vs H2 Q E) := by
  refine ⟨fun pins s σ H Q I h => ?_⟩
  refine PySem.W.methodCall_KW (pl := pl) (thn (he.run pins s σ H _ I h) fun u s1 ⟨x, H1, I1, rx, ex, q⟩ => ?_) ht
  subst ex
  obtain rfl : u = Value.ref C := rx
  refine PySem.W.method_cls I1.kIn r.ga (getsmet_ok I1 r c rfl fun s2 I2 => ?_)
  refine PySem.W.callWith_K (h₀ := X.base) (first := []) I2.ok.mod.kin hk (thn (ha.run pos pins s2 σ H1 _ I2 q) fun us s3 ⟨vs, H2, I3, rv, q2⟩ => ⟨I3.kIn, ?_⟩) hst hpl
  exact wpAny_call (run_fnR F hr hx I3 rv q2)
theorem pe_smeth0 (he : PE X o ta) (r : ClX.CRead X.K C mc) (c : SMet X.K C mc m p g) (hk : PySem.W.keepIn X.K (.ref g) = true) (F : FnR X.prog X.w X.K X.mg X.base CX k g sp) (hr : Room k X.A) (hx : Passes CX X E)
    (ht : eval (.Call (.Attribute o m apos) [] [] pos) X.env = (do
      let ov ← eval o X.env
      standAt apos.atName
      let (f, first) ← holding [ov] (getMethod ov m pl)
      callWith pos f first (backTo pos (starEach [] X.env)) (backToKw pos (keywordEach [] X.env))) := by rfl) :
    PE X (.Call (.Attribute o m apos) [] [] pos) (fun σ H Q => ta σ H fun x H1 => x = .ref C ∧ sp [] H1 Q E) := by
  refine ⟨fun pins s σ H Q I h => ?_⟩
  refine PySem.W.methodCall_KW (pl := pl) (thn (he.run pins s σ H _ I h) fun u s1 ⟨x, H1, I1, rx, ex, q⟩ => ?_) ht
  subst ex
  obtain rfl : u = Value.ref C := rx
  refine PySem.W.method_cls I1.kIn r.ga (getsmet_ok I1 r c rfl fun s2 I2 => ?_)
  exact PySem.W.callWith_K0 (first := []) I2.kIn hk (wpAny_call (run_fnR (us := []) (vs := []) F hr hx I2 .nil q))
end
/-! ### def f(*v) -/
/-- the promise of a def with *args only: its one parameter holds a tuple of all arguments -/
def PromS (k : Kn) (fn : FFn) : Sp := fun vs H Q E => vs.length ≤ sizeLine ∧ ∀ p, H p = Option.none → Prom k 1 fn [V.ref p] (upd H p (.tup vs)) Q E
/-- how it binds -/
def BindS (K : PySem.W.Frag) (fd : FuncData) (pv : Str) : Prop := ∀ rest : List Value, bindArgs fd ⟨rest, []⟩ = (newTuple rest >>= fun t => pure [(pv, t)])
section
variable {P : Program} {w : World} {K : PySem.W.Frag} {mg : Str → Option Value} {base : Heap}
theorem _root_.L2.Fun.bindS {x qual : Str} {st : Stmt} {f : Addr} {fd : FuncData} {pv : Str} (F : Fun K x qual st f fd)
    (h : ∀ (kV doc pm : Value) (an : Option Addr) (cdv ct : Value) (rest : List Value), bindArgs (PySem.W.fnOf x qual (defArgs st) (defBody st) (defScope st) .none kV doc pm an cdv ct) ⟨rest, []⟩ = (newTuple rest >>= fun t => pure [(pv, t)])) : BindS K fd pv := by
  obtain ⟨oc, od, kV, doc, pm, an, cdv, ct, osl, rfl, lk, hcd⟩ := F.ex
  exact h kV doc pm an cdv ct
/-- THE RULE for a def with *args only -/
theorem funS_ok {x qual : Str} {st : Stmt} {f : Addr} {fd : FuncData} {N : List Str} {pv : Str} {k : Nat} {g : FS} (F : Fun K x qual st f fd) (B : BindS K fd pv) (S : FnScope N [pv] (defScope st))
    (hb : ∀ (cdv : Value) (A : Around) (outer : List Env) (s : Shared) (H : Hp) (E : XK), Room k (A.deeper (envOfC qual (defScope st) s.heap.objs.size f cdv)) →
      BX (cxOf CX0 P w K mg base N qual (defScope st) f cdv A outer s H E).nox W0 (defBody st) g) : FnR P w K mg base CX0 (k + 1) f (PromS ⟨K, mg⟩ (runF N.length g)) := by
  obtain ⟨oc, od, kV, doc, pm, an, cdv, ct, osl, rfl, lk, hcd⟩ := F.ex
  have R := StX.fn_star (P := P) (w := w) (mg := mg) (base := base) (k := k) (ps := []) (pv := pv) (N := N) (CX := CX0) (sp := Prom ⟨K, mg⟩ 1 (runF N.length g)) lk hcd S StX.cxUp_none
    (fun us rest h => by
      have : us = [] := List.eq_nil_of_length_eq_zero h
      subst this
      exact B rest)
    (fun A outer s H vs Q E hr h => by
      obtain ⟨t, h1, q⟩ := fun_body (hb cdv A outer s H E hr) rfl h
      exact ⟨t, h1.nox, q⟩)
  exact R.imp fun vs H Q E h => ⟨[], vs, rfl, rfl, h.1, h.2⟩
end
section
variable {X : Cx} {W : WP} {k : Nat} {C g p0 : Addr} {mc : Value} {c m : Str} {p pos apos : Pos} {e : Expr} {es : List Expr} {fa : FA} {fn : FFn}
theorem star_ok {t : TA} (ra : ∀ (A : Amb) (F H : Hp) (σ : L2.St) (env : En) (Q : List V → Hp → Prop), Sta (kn X) A F H σ env → PostA (kn X) A W F σ (fa env) Q → t σ H Q) :
    ∀ (A : Amb) (F H : Hp) (σ : L2.St) (env : En) (Q : VK), Sta (kn X) A F H σ env → PostE (kn X) A W F σ (callF [.rd] fn (acons (dsp (fun ds => .val (.tup ds)) fa) anil) env) Q → t σ H fun vs H1 => PromS (kn X) fn vs H1 Q E0 := by
  intro A F H σ env Q S q
  have z := callF_ok (X := X) (W := W) (fn := fn) (ms := [.rd]) (n := 1) (fa := acons (dsp (fun ds => .val (.tup ds)) fa) anil) (t := fun σ H Q => t σ H fun vs H1 => vs.length ≤ sizeLine ∧ ∀ p, H1 p = none → Q [V.ref p] (upd H1 p (.tup vs))) rfl ?_ A F H σ env Q S q
  · exact z
  intro A F H σ env Q S q
  refine ra A F H σ env _ S ?_
  have q : PostA (kn X) A W F σ (((fa env).bind fun p => match holds p.1 p.2 with
    | some q => if q.1.length ≤ sizeLine then .ok (Arg.val (.tup q.1), q.2) else .no
    | none => .no).bind fun p => (anil p.2).bind fun q => .ok (settle p.1 :: q.1, q.2)) Q := q
  cases cf : fa env with
  | no => rw [cf] at q; exact q.elim
  | ex x en => rw [cf] at q; exact q
  | ok a =>
    rw [cf] at q
    intro F1 H1 vs s1 S1 r1
    simp only [Res.bind] at q
    cases ch : holds a.1 a.2 with
    | none => simp only [ch] at q; exact q.elim
    | some ds =>
      simp only [ch] at q
      by_cases hc : ds.1.length ≤ sizeLine
      · rw [if_pos hc] at q
        obtain ⟨F2, s2, S2, r2⟩ := S1.holds r1 (ds := ds.1) (env' := ds.2) ch
        refine ⟨by rw [r2.len]; exact hc, S2.newT (Q := fun v H => Q [v] H) r2 fun F' H' v a b c => ?_⟩
        exact q F' H' [v] (s1.trans (s2.trans a)) b (.cons c .nil)
      · rw [if_neg hc] at q; exact q.elim
theorem ex_sm (hm : X.mg c = some (.ref C)) (hg : Gl X c) (r : ClX.CRead X.K C mc) (cm : SMet X.K C mc m p0 g) (hk : PySem.W.keepIn X.K (.ref g) = true) (Fo : FnR X.prog X.w X.K X.mg X.base CX0 k g (PromS (kn X) fn)) (hr : Room k X.A) (ha : AX X W (e :: es) fa)
    (hd : (c == ("__debug__" : Str)) = false := by decide)
    (hst : starEach (e :: es) X.env = (false, eval e X.env) :: starEach es X.env := by rfl) (hpl : (backTo pos (starEach es X.env)).any (·.1) = false := by rfl)
    {pl : Sem Bool}
    (ht : eval (.Call (.Attribute (.Name c p) m apos) (e :: es) [] pos) X.env = (do
      let ov ← eval (.Name c p) X.env
      standAt apos.atName
      let (f, first) ← holding [ov] (getMethod ov m pl)
      callWith pos f first (backTo pos (starEach (e :: es) X.env)) (backToKw pos (keywordEach [] X.env))) := by rfl) :
    EX X W (.Call (.Attribute (.Name c p) m apos) (e :: es) [] pos) (callF [.rd] fn (acons (dsp (fun ds => .val (.tup ds)) fa) anil)) := by
  obtain ⟨t, pa, ra⟩ := ha
  refine ⟨_, pe_smeth (pl := pl) (E := E0) (pe_glob (v := .ref C) hg hm rfl hd) r cm hk Fo hr pass0 pa hst hpl ht, fun A F H σ env Q S q => ?_⟩
  exact ⟨rfl, star_ok ra A F H σ env Q S q⟩
theorem ex_sm0 (hm : X.mg c = some (.ref C)) (hg : Gl X c) (r : ClX.CRead X.K C mc) (cm : SMet X.K C mc m p0 g) (hk : PySem.W.keepIn X.K (.ref g) = true) (Fo : FnR X.prog X.w X.K X.mg X.base CX0 k g (PromS (kn X) fn)) (hr : Room k X.A)
    (hd : (c == ("__debug__" : Str)) = false := by decide)
    {pl : Sem Bool}
    (ht : eval (.Call (.Attribute (.Name c p) m apos) [] [] pos) X.env = (do
      let ov ← eval (.Name c p) X.env
      standAt apos.atName
      let (f, first) ← holding [ov] (getMethod ov m pl)
      callWith pos f first (backTo pos (starEach [] X.env)) (backToKw pos (keywordEach [] X.env))) := by rfl) :
    EX X W (.Call (.Attribute (.Name c p) m apos) [] [] pos) (callF [.rd] fn (acons (dsp (fun ds => .val (.tup ds)) anil) anil)) := by
  refine ⟨_, pe_smeth0 (pl := pl) (E := E0) (pe_glob (v := .ref C) hg hm rfl hd) r cm hk Fo hr pass0 ht, fun A F H σ env Q S q => ?_⟩
  exact ⟨rfl, star_ok (t := tNil) (fa := anil) (fun A F H σ env Q S q => q F H [] (.refl F) S .nil) A F H σ env Q S q⟩
end
end PL

/-! PL: comprehensions with two sources. -/
namespace PL
open PySem PySem.Spec PyProof.Rows L2
def lcL2 (tg : FG) (tt : FT) (it1 : FI) (tg1 : FG) (tt1 : FT) (fe : FE) (vs vs1 : List Nat) : List D → List D → En → Res (List D × En)
  | [], acc, e => .ok (acc, e)
  | d :: ds, acc, e => (tg d e).bin fun e1 => (tt e1).bin fun b => if b.1 = true then (it1 b.2).bin fun p => (lcL tg1 tt1 fe vs1 p.1 acc (clr p.2 vs1)).bin fun q => lcL2 tg tt it1 tg1 tt1 fe vs vs1 ds q.1 (clr q.2 vs)
      else lcL2 tg tt it1 tg1 tt1 fe vs vs1 ds acc (clr b.2 vs)
def vlc2 (it : FI) (tg : FG) (tt : FT) (it1 : FI) (tg1 : FG) (tt1 : FT) (fe : FE) (vs vs1 : List Nat) : FE := fun env => (it env).bind fun p => if plainS p.2 vs = true then (lcL2 tg tt it1 tg1 tt1 fe vs vs1 p.1 [] (clr p.2 vs)).bin fun r => .ok (.new (.lst r.1), rst p.2 r.2 vs) else .no
def iOf (k : Kn) (W : WP) (f : FI) : TI := fun σ H R => ∃ A F env, Sta k A F H σ env ∧ PostI k A W F σ (f env) R
theorem IX.can {X : Cx} {W : WP} {tg e : Expr} {f : FI} (h : IX X W tg e f) : PI X tg e (iOf (kn X) W f) := by
  obtain ⟨t, p, r⟩ := h
  exact ⟨fun pins s σ H Q I ⟨A, F, env, S, q⟩ => p.run pins s σ H Q I (r A F H σ env Q S q)⟩
section
variable {k : Kn} {A : Amb} {F H : Hp} {σ : L2.St} {env : En}
/-- the list that the comprehension makes grows -/
theorem Sta.growL {p : Addr} {us : List V} {v : V} (S : Sta k (A.keep p (.lst us)) F H σ env) (nK : A.Kp p = none) (nF0 : A.F0 p = none) : H p = some (.lst us) ∧ Sta k (A.keep p (.lst (us ++ [v]))) F (upd H p (.lst (us ++ [v]))) σ env := by
  obtain ⟨S8, hD, fD, oD⟩ := S.keepOut nK nF0
  have S9 : Sta k A F (upd H p (.lst (us ++ [v]))) σ env := by
    refine ⟨S8.sub.mut fD, S8.kp.mut nK, S8.f0, S8.frz, fun i sl e => ?_, S8.own, S8.dis, S8.len, S8.mus⟩
    obtain ⟨v, e1, rr⟩ := S8.rel i sl e
    refine ⟨v, e1, ?_⟩
    cases sl with
    | fz d => exact rr
    | ow o =>
      obtain ⟨q, u, rfl, hp, rr⟩ := rr
      exact ⟨q, u, rfl, by rw [upd_ne fun z => by subst z; exact oD i o (.inl e) e1]; exact hp, rr⟩
    | mu o =>
      obtain ⟨q, u, rfl, hp, rr⟩ := rr
      exact ⟨q, u, rfl, by rw [upd_ne fun z => by subst z; exact oD i o (.inr e) e1]; exact hp, rr⟩
  exact ⟨hD, S9.keepIn upd_same fD nK oD⟩
/-- one item of a source, its tuple laid if it is a pair that is made -/
theorem Out.symm {vs : List Nat} {a b : L2.St} (h : Out vs a b) : Out vs b a := ⟨h.1.symm, fun j hj => (h.2 j hj).symm⟩
end
theorem lc2_reads {X : Cx} {W : WP} {wi : TI} {it it1 : FI} {g g1 : FG} {ws ws1 : List Nat} {tt tt1 : FT} {fe : FE} {vs vs1 : List Nat}
    (ri : ∀ (A : Amb) (F H : Hp) (σ : L2.St) (env : En) (R : It → Hp → Prop), Sta (kn X) A F H σ env → PostI (kn X) A W F σ (it env) R → wi σ H R) (hw : ∀ i ∈ ws, i ∈ vs) (hw1 : ∀ i ∈ ws1, i ∈ vs1) (hv : ∀ i ∈ vs1, i ∈ vs) :
    ∀ (A : Amb) (F H : Hp) (σ : L2.St) (env : En) (Q : VK), Sta (kn X) A F H σ env → PostE (kn X) A W F σ (vlc2 it g tt it1 g1 tt1 fe vs vs1 env) Q →
      tLc2 wi (gOf (kn X) g ws) (ttOf (kn X) W0 tt) (iOf (kn X) W0 it1) (gOf (kn X) g1 ws1) (ttOf (kn X) W0 tt1) (tOf (kn X) W0 fe) vs vs1 σ H Q := by
  intro A F H σ env Q S q
  refine ri A F H σ env _ S ?_
  simp only [vlc2] at q
  cases c : it env with
  | no => rw [c] at q; exact q.elim
  | ex x e => rw [c] at q; exact q
  | ok p =>
    rw [c] at q
    obtain ⟨ds, e0⟩ := p
    simp only [Res.bind_ok] at q
    by_cases hpl : plainS e0 vs = true
    · rw [if_pos hpl] at q
      cases cl : lcL2 g tt it1 g1 tt1 fe vs vs1 ds [] (clr e0 vs) with
      | no => rw [cl] at q; exact q.elim
      | ex x e => rw [cl] at q; exact q.elim
      | ok fin =>
        rw [cl] at q
        intro F1 H1 J s1 S1 hf Dd nD
        obtain ⟨nF, nK, nO⟩ := S1.fresh nD
        have nF0 : A.F0 Dd = none := S1.f0.free nF
        refine ⟨fun i m H' => ∃ F' e us acc, Sub F1 F' ∧ Sta (kn X) (A.keep Dd (.lst us)) F' H' (wipe σ vs) (clr e vs) ∧ Reps (kn X) F' acc us ∧ i + m = ds.length ∧ lcL2 g tt it1 g1 tt1 fe vs vs1 (ds.drop i) acc (clr e vs) = .ok fin,
          ⟨ds.length, F1, e0, [], [], .refl _, ?_, .nil, by omega, cl⟩, fun i m H' hw' => ?_⟩
        · refine ((S1.grow (u := .lst []) nD).clr vs (wipe_out' σ vs)).keepIn upd_same nF nK fun j o a b => ?_
          obtain ⟨n, a'⟩ := clr_own a
          rw [(wipe_out' σ vs).2 j n] at b
          exact nO j o a' b
        · obtain ⟨F', e, us, acc, s2, S2, ra, hm, hl⟩ := hw'
          have hfi := hf F' H' s2 S2.sub i
          cases hd : ds[i]? with
          | none =>
            have hle : ds.length ≤ i := List.getElem?_eq_none_iff.mp hd
            rw [List.drop_eq_nil_of_le hle] at hl
            simp only [lcL2, Res.ok.injEq] at hl
            subst hl
            refine .inl ⟨hfi.2 hle, ?_⟩
            obtain ⟨S3, hD, fD, oD⟩ := S2.keepOut nK nF0
            have S4 := Sta.rst S1 hpl s2 S3 (wipe_out' σ vs)
            refine q F' H' _ (s1.trans s2) S4 ⟨Dd, _, rfl, hD, .lst ra, fD, nK, fun j o a b => ?_⟩
            have hj : j ∉ vs := fun hj => by
              have := List.all_eq_true.mp hpl j hj
              have hx : ∃ x, e0[j]? = some x := by
                cases c : e0[j]? with
                | none => rw [c] at this; cases this
                | some x => exact ⟨x, rfl⟩
              obtain ⟨x, hx⟩ := hx
              have hlen : j < (clr e vs).length := by
                rw [← S3.len, wipe_length, S1.len]; exact (List.getElem?_eq_some_iff.mp hx).1
              rw [hx] at this
              rcases a with a | a <;> (rw [rst_in hlen hx hj] at a; cases a; cases this)
            have a' : OwnAt (clr e vs) j o := by
              rcases a with a | a
              · exact .inl (by rw [rst_out hj] at a; exact a)
              · exact .inr (by rw [rst_out hj] at a; exact a)
            exact oD j o a' (by rw [(wipe_out' σ vs).2 j hj]; exact b)
          | some d =>
            have hlt : i < ds.length := (List.getElem?_eq_some_iff.mp hd).1
            have hdr : ds.drop i = d :: ds.drop (i + 1) := by
              rw [List.drop_eq_getElem_cons hlt, (List.getElem?_eq_some_iff.mp hd).2]
            rw [hdr] at hl
            simp only [lcL2] at hl
            obtain ⟨e1, h1, hl⟩ := Res.bin_inv hl
            obtain ⟨b, h2, hl⟩ := Res.bin_inv hl
            obtain ⟨go, yl⟩ := hfi.1 d hd
            refine .inr ⟨go, fun H3 => ∃ F' e us acc, Sub F1 F' ∧ Sta (kn X) (A.keep Dd (.lst us)) F' H3 (wipe σ vs) (clr e vs) ∧ Reps (kn X) F' acc us ∧ lcL2 g tt it1 g1 tt1 fe vs vs1 (ds.drop (i + 1)) acc (clr e vs) = .ok fin,
              fun H3 ⟨F', e, us, acc, a, b, c, d⟩ => ⟨m - 1, by omega, F', e, us, acc, a, b, c, by omega, d⟩, fun x H3 hy => ?_⟩
            have stp : ∃ F3, Sub F' F3 ∧ Sta (kn X) (A.keep Dd (.lst us)) F3 H3 (wipe σ vs) (clr e vs) ∧ Rep (kn X) F3 d x := by
              rcases yl x H3 hy with ⟨rfl, r⟩ | ⟨T, ts, es, rfl, nT, rfl, rfl, r⟩
              · exact ⟨F', .refl _, S2, r⟩
              · obtain ⟨a, _, _⟩ := S2.fresh nT
                exact ⟨_, .new a, S2.lay nT, .tup (SqT.of upd_same) (r.mono (.new a))⟩
            obtain ⟨F3, s3, S3, r3⟩ := stp
            refine ⟨A.keep Dd (.lst us), F3, _, e1, d, S3, r3, h1, fun σ4 o4 S4 => ?_⟩
            have o4' : Out vs (wipe σ vs) σ4 := o4.sub hw
            refine ⟨(wipe_eq o4').trans (wipe_eq (wipe_out' σ vs)), A.keep Dd (.lst us), F3, e1, S4, ?_⟩
            rw [h2]
            intro F5 H5 s5 S5
            have oo : Out vs σ4 (wipe σ vs) := o4'.symm
            by_cases hb : b.1 = true
            · rw [if_pos hb] at hl ⊢
              obtain ⟨p1, h3, hl⟩ := Res.bin_inv hl
              obtain ⟨q1, h4, hl⟩ := Res.bin_inv hl
              refine ⟨A.keep Dd (.lst us), F5, b.2, S5, ?_⟩
              rw [h3]
              intro F6 H6 J1 s6 S6 hf1
              have s16 : Sub F1 F6 := ((s2.trans s3).trans s5).trans s6
              have o5 : Out vs (wipe σ4 vs1) (wipe σ vs) := (((wipe_out' σ4 vs1).sub hv).symm).join oo
              refine ⟨fun j m1 H' => ∃ F' e us acc, Sub F6 F' ∧ Sta (kn X) (A.keep Dd (.lst us)) F' H' (wipe σ4 vs1) (clr e vs1) ∧ Reps (kn X) F' acc us ∧ j + m1 = p1.1.length ∧ lcL g1 tt1 fe vs1 (p1.1.drop j) acc (clr e vs1) = .ok q1,
                ⟨p1.1.length, F6, p1.2, us, acc, .refl _, S6.clr vs1 (wipe_out' σ4 vs1), ra.mono ((s3.trans s5).trans s6), by omega, h4⟩, fun j m1 H' hw' => ?_⟩
              obtain ⟨F', e, us, acc, s7, S7, ra, hm, hl1⟩ := hw'
              have hfj := hf1 F' H' s7 S7.sub j
              cases hd1 : p1.1[j]? with
              | none =>
                have hle : p1.1.length ≤ j := List.getElem?_eq_none_iff.mp hd1
                rw [List.drop_eq_nil_of_le hle] at hl1
                simp only [lcL, Res.ok.injEq] at hl1
                subst hl1
                exact .inl ⟨hfj.2 hle, F', clr e vs1, us, acc, s16.trans s7, S7.clr vs o5, ra, hl⟩
              | some d1 =>
                have hlt1 : j < p1.1.length := (List.getElem?_eq_some_iff.mp hd1).1
                have hdr1 : p1.1.drop j = d1 :: p1.1.drop (j + 1) := by
                  rw [List.drop_eq_getElem_cons hlt1, (List.getElem?_eq_some_iff.mp hd1).2]
                rw [hdr1] at hl1
                simp only [lcL] at hl1
                obtain ⟨e2, k1, hl1⟩ := Res.bin_inv hl1
                obtain ⟨b1, k2, hl1⟩ := Res.bin_inv hl1
                obtain ⟨go1, yl1⟩ := hfj.1 d1 hd1
                refine .inr ⟨go1, fun H3 => ∃ F' e us acc, Sub F6 F' ∧ Sta (kn X) (A.keep Dd (.lst us)) F' H3 (wipe σ4 vs1) (clr e vs1) ∧ Reps (kn X) F' acc us ∧ lcL g1 tt1 fe vs1 (p1.1.drop (j + 1)) acc (clr e vs1) = .ok q1,
                  fun H3 ⟨F', e, us, acc, a, b, c, d⟩ => ⟨m1 - 1, by omega, F', e, us, acc, a, b, c, by omega, d⟩, fun x H3 hy => ?_⟩
                have stp : ∃ F3, Sub F' F3 ∧ Sta (kn X) (A.keep Dd (.lst us)) F3 H3 (wipe σ4 vs1) (clr e vs1) ∧ Rep (kn X) F3 d1 x := by
                  rcases yl1 x H3 hy with ⟨rfl, r⟩ | ⟨T, ts, es, rfl, nT, rfl, rfl, r⟩
                  · exact ⟨F', .refl _, S7, r⟩
                  · obtain ⟨a, _, _⟩ := S7.fresh nT
                    exact ⟨_, .new a, S7.lay nT, .tup (SqT.of upd_same) (r.mono (.new a))⟩
                obtain ⟨F8, s8, S8, r8⟩ := stp
                refine ⟨A.keep Dd (.lst us), F8, _, e2, d1, S8, r8, k1, fun σ5 o6 S9 => ?_⟩
                have o6' : Out vs1 (wipe σ4 vs1) σ5 := o6.sub hw1
                refine ⟨(wipe_eq o6').trans (wipe_eq (wipe_out' σ4 vs1)), A.keep Dd (.lst us), F8, e2, S9, ?_⟩
                rw [k2]
                intro F10 H10 s10 S10
                by_cases hb1 : b1.1 = true
                · rw [if_pos hb1] at hl1 ⊢
                  obtain ⟨xv, k3, hl1⟩ := Res.bin_inv hl1
                  refine ⟨A.keep Dd (.lst us), F10, b1.2, S10, ?_⟩
                  rw [k3]
                  intro F11 H11 v11 s11 S11 r11
                  cases hh : hold xv.1 xv.2 with
                  | none => rw [hh] at hl1; cases hl1
                  | some hd2 =>
                    rw [hh] at hl1
                    simp only at hl1
                    by_cases hz : acc.length < sizeLine
                    · rw [if_pos hz] at hl1
                      obtain ⟨F12, s12, S12, r12⟩ := S11.hold r11 (d := hd2.1) (env' := hd2.2) hh
                      obtain ⟨hD, S13⟩ := S12.growL (v := v11) nK nF0
                      have sAll : Sub F' F12 := ((s8.trans s10).trans s11).trans s12
                      exact ⟨us, hD, by rw [ra.len]; exact hz, F12, hd2.2, us ++ [v11], acc ++ [hd2.1], s7.trans sAll, S13.clr vs1 o6'.symm, (ra.mono sAll).append (.cons r12 .nil), hl1⟩
                    · rw [if_neg hz] at hl1; cases hl1
                · rw [if_neg hb1] at hl1 ⊢
                  exact ⟨F10, b1.2, us, acc, s7.trans (s8.trans s10), S10.clr vs1 o6'.symm, ra.mono (s8.trans s10), hl1⟩
            · rw [if_neg hb] at hl ⊢
              exact ⟨F5, b.2, us, acc, s2.trans (s3.trans s5), S5.clr vs oo, ra.mono (s3.trans s5), hl⟩
    · rw [if_neg hpl] at q; exact q.elim
section
variable {X : Cx} {W : WP} {pos : Pos} {elt tg iter tg1 iter1 : Expr} {ifs ifs1 : List Expr} {scope : Scope} {own : List (Str × Nat)} {it it1 : FI} {g g1 : FG} {ws ws1 : List Nat} {tt tt1 : FT} {fe : FE}
theorem ex_lc2 {vs1 : List Nat} (hc : X.calm = true) (hN : X.N.Nodup) (hi : IX X W tg iter it) (ok : BlkOk X.N X.env.scope scope own)
    (hg : ∀ (s : Shared) (H : Hp) (C : Addr) (cl : List (Str × Addr)) (fp : List Addr), GX (X.blk s H scope (compEnvC scope cl C X.env) fp) tg g ws)
    (ht : ∀ (s : Shared) (H : Hp) (C : Addr) (cl : List (Str × Addr)) (fp : List Addr), TsX (X.blk s H scope (compEnvC scope cl C X.env) fp) W0 ifs tt)
    (hi1 : ∀ (s : Shared) (H : Hp) (C : Addr) (cl : List (Str × Addr)) (fp : List Addr), IX (X.blk s H scope (compEnvC scope cl C X.env) fp) W0 tg1 iter1 it1)
    (hg1 : ∀ (s : Shared) (H : Hp) (C : Addr) (cl : List (Str × Addr)) (fp : List Addr), GX (X.blk s H scope (compEnvC scope cl C X.env) fp) tg1 g1 ws1)
    (ht1 : ∀ (s : Shared) (H : Hp) (C : Addr) (cl : List (Str × Addr)) (fp : List Addr), TsX (X.blk s H scope (compEnvC scope cl C X.env) fp) W0 ifs1 tt1)
    (he : ∀ (s : Shared) (H : Hp) (C : Addr) (cl : List (Str × Addr)) (fp : List Addr), EX (X.blk s H scope (compEnvC scope cl C X.env) fp) W0 elt fe)
    (hw : ∀ i ∈ ws, i ∈ own.map (·.2)) (hw1 : ∀ i ∈ ws1, i ∈ vs1) (hv : ∀ i ∈ vs1, i ∈ own.map (·.2)) (hs : ∀ x, foldedSetIterable iter X.env x = pure x := by intro _; rfl) (hs1 : ∀ env x, foldedSetIterable iter1 env x = pure x := by intro _ _; rfl) :
    EX X W (.ListComp elt [⟨tg, iter, ifs, 0⟩, ⟨tg1, iter1, ifs1, 0⟩] scope pos) (vlc2 it g tt it1 g1 tt1 fe (own.map (·.2)) vs1) := by
  obtain ⟨wi, pi, ri⟩ := hi
  exact ⟨_, pe_lc2 (g := gOf (kn X) g ws) (tt := ttOf (kn X) W0 tt) (wi1 := iOf (kn X) W0 it1) (g1 := gOf (kn X) g1 ws1) (tt1 := ttOf (kn X) W0 tt1) (te := tOf (kn X) W0 fe) hc hN pi ok hv (fun s H C cl fp => (hg s H C cl fp).can) (fun s H C cl fp => (ht s H C cl fp).can)
    (fun s H C cl fp => (hi1 s H C cl fp).can) (fun s H C cl fp => (hg1 s H C cl fp).can) (fun s H C cl fp => (ht1 s H C cl fp).can) (fun s H C cl fp => (he s H C cl fp).can) hs hs1, lc2_reads ri hw hw1 hv⟩
theorem sx_setLc2 {vs1 : List Nat} (i : Nat) {y : Str} {py spos : Pos} (hc : X.calm = true) (hN : X.N.Nodup) (hsw : swapsWith (.ListComp elt [⟨tg, iter, ifs, 0⟩, ⟨tg1, iter1, ifs1, 0⟩] scope pos) (some (.Name y py)) spos.line X.env = pure true) (hi : IX X W tg iter it) (ok : BlkOk X.N X.env.scope scope own)
    (hg : ∀ (s : Shared) (H : Hp) (C : Addr) (cl : List (Str × Addr)) (fp : List Addr), GX (X.blk s H scope (compEnvC scope cl C X.env) fp) tg g ws)
    (ht : ∀ (s : Shared) (H : Hp) (C : Addr) (cl : List (Str × Addr)) (fp : List Addr), TsX (X.blk s H scope (compEnvC scope cl C X.env) fp) W0 ifs tt)
    (hi1 : ∀ (s : Shared) (H : Hp) (C : Addr) (cl : List (Str × Addr)) (fp : List Addr), IX (X.blk s H scope (compEnvC scope cl C X.env) fp) W0 tg1 iter1 it1)
    (hg1 : ∀ (s : Shared) (H : Hp) (C : Addr) (cl : List (Str × Addr)) (fp : List Addr), GX (X.blk s H scope (compEnvC scope cl C X.env) fp) tg1 g1 ws1)
    (ht1 : ∀ (s : Shared) (H : Hp) (C : Addr) (cl : List (Str × Addr)) (fp : List Addr), TsX (X.blk s H scope (compEnvC scope cl C X.env) fp) W0 ifs1 tt1)
    (he : ∀ (s : Shared) (H : Hp) (C : Addr) (cl : List (Str × Addr)) (fp : List Addr), EX (X.blk s H scope (compEnvC scope cl C X.env) fp) W0 elt fe)
    (hw : ∀ i ∈ ws, i ∈ own.map (·.2)) (hw1 : ∀ i ∈ ws1, i ∈ vs1) (hv : ∀ i ∈ vs1, i ∈ own.map (·.2)) (hy : X.N[i]? = some y := by rfl) (hyl : X.env.scope.names.lookup y = some .local := by rfl) (hs : ∀ x, foldedSetIterable iter X.env x = pure x := by intro _; rfl) (hs1 : ∀ env x, foldedSetIterable iter1 env x = pure x := by intro _ _; rfl) :
    SX X W (.Assign [.Name y py] (.ListComp elt [⟨tg, iter, ifs, 0⟩, ⟨tg1, iter1, ifs1, 0⟩] scope pos) spos) (sasg i (vlc2 it g tt it1 g1 tt1 fe (own.map (·.2)) vs1)) := by
  obtain ⟨wi, pi, ri⟩ := hi
  refine ⟨_, ps_setLc2 (g := gOf (kn X) g ws) (tt := ttOf (kn X) W0 tt) (wi1 := iOf (kn X) W0 it1) (g1 := gOf (kn X) g1 ws1) (tt1 := ttOf (kn X) W0 tt1) (te := tOf (kn X) W0 fe) hc hN hy hyl hsw pi ok hv (fun s H C cl fp => (hg s H C cl fp).can) (fun s H C cl fp => (ht s H C cl fp).can)
    (fun s H C cl fp => (hi1 s H C cl fp).can) (fun s H C cl fp => (hg1 s H C cl fp).can) (fun s H C cl fp => (ht1 s H C cl fp).can) (fun s H C cl fp => (he s H C cl fp).can) hs hs1, fun A F H σ env D S q => ?_⟩
  refine lc2_reads ri hw hw1 hv A F H σ env _ S (q.afE fun p F1 H1 v1 s1 S1 r1 q1 => ?_)
  cases c : bindA i p.1 p.2 with
  | ok e1 =>
    rw [c] at q1
    obtain ⟨F2, s2, S2⟩ := S1.bindA r1 c
    exact q1 F2 H1 _ s2 S2
  | ex _ _ => cases h : p.1 <;> rw [h] at c <;> simp only [bindA, bindD] at c <;> (repeat' split at c) <;> cases c
  | no => rw [c] at q1; exact q1.elim
end
end PL

/-! PL: a list unpacked. -/
namespace PL
open PySem PySem.Spec PyProof.Rows L2
def tgUnl (g : FGs) : FG := fun d env => match d with
  | .lst ds => g ds env
  | _ => .no
theorem gx_unl {X : Cx} {pos : Pos} {es : List Expr} {k : Nat} {g : FGs} {n : Nat} {ws : List Nat} (hc : X.calm = true) (h : GXs X es g ws) (hn : (assignEach es X.env).length = n := by rfl) (hst : (assignEach es X.env).findIdx? (·.1) = none := by rfl)
    (hl : ∀ ds env env', g ds env = .ok env' → ds.length = n) : GX X (.Tuple es k pos) (tgUnl g) ws := by
  obtain ⟨t, p, r⟩ := h
  refine ⟨_, pg_unl hc p hn hst, fun A F H σ env env' d v Q S rr h q => ?_⟩
  cases d with
  | lst ds =>
    cases rr with
    | lst a b => exact ⟨_, _, rfl, SqL.of (S.sub _ _ a), by rw [b.len]; exact hl _ _ _ h, r A F H σ env env' ds _ Q S b h q⟩
  | _ => cases h
theorem tgUnl_nx {g : FGs} (h : ∀ (d : List D) (env : En) (x : Exn) (e : En), g d env ≠ .ex x e) : ∀ (d : D) (env : En) (x : Exn) (e : En), tgUnl g d env ≠ .ex x e := fun d env x e c => by
  cases d <;> first | exact h _ _ _ _ c | cases c
end PL

/-! PL: max(list, default = whole number). -/
namespace PL
open PySem PySem.Spec PyProof.Rows L2
theorem max_argsD (a d : Value) : argsOk "max" ⟨[a], [(Str.ofString "default", d)]⟩ := by unfold argsOk; kernel_rfl
section
variable {prog : Program} {w : World} {A : Around} {R : Result → Shared → Prop} {I : Addr} {fp wr : List Addr} {n : Nat} {P : Nat → Value → Prop} {St : Nat → Heap → Prop}
def bestA : Option Value → Array Value
  | none => #[]
  | some v => #[v, v]
/-- the loop of max with a default: best, what is the best of the items so far -/
theorem max_loopD (W : Walks prog w A.in1 I fp wr n P St) (bt : Nat → Nat → Bool) (hcmp : CmpOf prog w A.in1 .Gt P bt) (S : Addr) (hSf : S ∉ fp) (d : Value) :
    ∀ (k j : Nat) (s : Shared) (best : Option Value) (c : Nat), n - j = k → j ≤ n → St j s.heap → (∀ v, best = some v → 0 < j ∧ P (argBest bt (j - 1)) v) → (best = none → j = 0) →
    s.heap.get? S = some { cls := .type "list", dict := none, data := .seq (bestA best) c, slots := #[] } →
    (∀ v h' tk, ((n = 0 ∧ v = d) ∨ (0 < n ∧ P (argBest bt (n - 1)) v)) → (∀ b o, b ∉ wr → b ≠ S → s.heap.get? b = some o → h'.get? b = some o) → R (.ok (.ret v)) { s with heap := h', toks := tk }) →
    codeAny (model prog w) A (.builtin "max.loop" ⟨[.ref I, .none, .ref S], [(Str.ofString "default", d)]⟩) R s := by
  have hSw : S ∉ wr := fun h => hSf (W.sub _ h)
  have nm : (toString "max" ++ toString ".loop" : String) = "max.loop" := by decide
  intro k
  induction k with
  | zero =>
    intro j s best c hk hj hst hb hn hS hR
    have e : j = n := by omega
    subst e
    refine codeAny_builtin F.entry_max_loop ?_
    rw [Around.under_plainId F.plain_max_loop _]
    cases best with
    | none =>
      have j0 := hn rfl
      show wpAny _ A.in1 (seqItems? (.ref S) >>= _) _ _ s
      refine wpAny_bind (wpAny_seqItems hS rfl ?_)
      show wpAny _ A.in1 (tryCatch (pyNext (.ref I)) _ >>= _) _ _ s
      refine wpAny_bind (wpAny_tryCatch (W.done s _ _ hst fun h' tk hk' => ?_))
      show wpAny _ A.in1 (rule _ >>= _) _ _ _
      exact wpAny_bind (wpAny_rule (wpAny_pure (hR d h' tk (.inl ⟨j0, rfl⟩) fun b o hbw _ e => hk' b o hbw e)))
    | some vb =>
      obtain ⟨jp, hP⟩ := hb vb rfl
      have hS : s.heap.get? S = some { cls := .type "list", dict := none, data := .seq #[vb, vb] c, slots := #[] } := hS
      show wpAny _ A.in1 (seqItems? (.ref S) >>= _) _ _ s
      refine wpAny_bind (wpAny_seqItems hS rfl ?_)
      show wpAny _ A.in1 (tryCatch (pyNext (.ref I)) _ >>= _) _ _ s
      refine wpAny_bind (wpAny_tryCatch (W.done s _ _ hst fun h' tk hk' => ?_))
      have hS' := hk' S _ hSw hS
      show wpAny _ A.in1 (updateSeq S (fun _ => #[]) >>= _) _ _ _
      refine wpAny_bind ?_
      refine wpAny_updateSeq hS' rfl (wpAny_bind (wpAny_letGo (wpAny_pure ?_)))
      exact hR vb _ tk (.inr ⟨jp, hP⟩) fun b o hbw hbS e => (Heap.get?_update_other _ _ (Ne.symm hbS)).trans (hk' b o hbw e)
  | succ k ih =>
    intro j s best c hk hj hst hb hn hS hR
    have lt : j < n := by omega
    refine codeAny_builtin F.entry_max_loop ?_
    rw [Around.under_plainId F.plain_max_loop _]
    cases best with
    | none =>
      have j0 := hn rfl
      subst j0
      show wpAny _ A.in1 (seqItems? (.ref S) >>= _) _ _ s
      refine wpAny_bind (wpAny_seqItems hS rfl ?_)
      show wpAny _ A.in1 (tryCatch (pyNext (.ref I)) _ >>= _) _ _ s
      refine wpAny_bind (wpAny_tryCatch (W.item 0 s _ _ lt hst fun v h' tk hP hst' hk' => ?_))
      have hS' := hk' S _ hSw hS
      show wpAny _ A.in1 (updateSeq S (fun _ => #[v, v]) >>= _) _ _ _
      refine wpAny_bind ?_
      refine wpAny_updateSeq hS' rfl ?_
      rw [nm]
      refine wpAny_pure ⟨plainId_quiet F.plain_max_loop _, ih (0 + 1) _ (some v) _ (by omega) lt (W.frame _ _ _ hst' fun b hbf o e => ?_) (fun u hu => by cases hu; exact ⟨Nat.succ_pos _, hP⟩) (fun h => nomatch h) (Heap.get?_update_self _ hS' rfl) fun v' h'' tk'' hv hk'' => ?_⟩
      · exact (Heap.get?_update_other _ _ (fun h : S = b => hSf (by rw [h]; exact hbf))).trans e
      · exact hR v' h'' tk'' hv fun b o hbw hbS e => hk'' b o hbw hbS ((Heap.get?_update_other _ _ (Ne.symm hbS)).trans (hk' b o hbw e))
    | some vb =>
      obtain ⟨jp, hPb⟩ := hb vb rfl
      have hS : s.heap.get? S = some { cls := .type "list", dict := none, data := .seq #[vb, vb] c, slots := #[] } := hS
      obtain ⟨i, rfl⟩ : ∃ i, j = i + 1 := ⟨j - 1, by omega⟩
      rw [Nat.add_sub_cancel] at hPb
      show wpAny _ A.in1 (seqItems? (.ref S) >>= _) _ _ s
      refine wpAny_bind (wpAny_seqItems hS rfl ?_)
      show wpAny _ A.in1 (tryCatch (pyNext (.ref I)) _ >>= _) _ _ s
      refine wpAny_bind (wpAny_tryCatch (W.item (i + 1) s _ _ lt hst fun v h' tk hP hst' hk' => ?_))
      have hS' := hk' S _ hSw hS
      show wpAny _ A.in1 (tryCatch (holding [v, v] (richCompare .Gt v vb >>= _)) _ >>= _) _ _ _
      refine wpAny_bind (wpAny_tryCatch (wpAny_holding (wpAny_bind (hcmp (i + 1) (argBest bt i) v vb _ _ _ hP hPb ?_))))
      refine wpAny_bind (wpAny_holding (wpAny_truthy_bool ?_))
      refine wpAny_bind (wpAny_letGo (wpAny_pure ?_))
      cases hb : bt (i + 1) (argBest bt i) with
      | true =>
        simp only [if_true]
        refine wpAny_bind ?_
        refine wpAny_updateSeq hS' rfl (wpAny_bind (wpAny_letGo ?_))
        rw [nm]
        refine wpAny_pure ⟨plainId_quiet F.plain_max_loop _, ih (i + 1 + 1) _ (some v) _ (by omega) lt (W.frame _ _ _ hst' fun b hbf o e => ?_) (fun u hu => by cases hu; exact ⟨Nat.succ_pos _, by rw [Nat.add_sub_cancel]; simp only [argBest, hb, if_true]; exact hP⟩) (fun h => nomatch h) (Heap.get?_update_self _ hS' rfl) fun v' h'' tk'' hv hk'' => ?_⟩
        · exact (Heap.get?_update_other _ _ (fun h : S = b => hSf (by rw [h]; exact hbf))).trans e
        · exact hR v' h'' tk'' hv fun b o hbw hbS e => hk'' b o hbw hbS ((Heap.get?_update_other _ _ (Ne.symm hbS)).trans (hk' b o hbw e))
      | false =>
        simp only [Bool.false_eq_true, if_false]
        refine wpAny_bind (wpAny_letGo ?_)
        rw [nm]
        refine wpAny_pure ⟨plainId_quiet F.plain_max_loop _, ih (i + 1 + 1) _ (some vb) c (by omega) lt hst' (fun u hu => by cases hu; exact ⟨Nat.succ_pos _, by rw [Nat.add_sub_cancel]; simp only [argBest, hb, Bool.false_eq_true, if_false]; exact hPb⟩) (fun h => nomatch h) hS' fun v' h'' tk'' hv hk'' => ?_⟩
        exact hR v' h'' tk'' hv fun b o hbw hbS e => hk'' b o hbw hbS (hk' b o hbw e)
end
section
variable {prog : Program} {w : World} {A : Around} {E : Value → Shared → Prop} {s : Shared} {l : Addr} {its : List Value} {ns : List Int} {Q : Value → Shared → Prop}
theorem max_rawD (hh : A.handled = none) (hl : s.heap.IsList l its.toArray) (hi : IntsAre its ns) {d : Int} {td : Tok}
    (h : ∀ h' tk M t', (∀ b o, s.heap.get? b = some o → h'.get? b = some o) → ((ns = [] ∧ M = d) ∨ (M ∈ ns ∧ ∀ a, a ∈ ns → a ≤ M)) → Q (.int M t') { s with heap := h', toks := tk }) : wpAny (model prog w) A (call (.builtin "max") [.ref l] [(Str.ofString "default", .int d td)]) Q E s := by
  obtain ⟨xs, e⟩ := hi.allInts.items
  have hn : numsOf (intItems xs).toList = ns := by rw [← e]; exact hi.numsOf
  rw [nums_intItems] at hn
  subst hn
  rw [e] at hl
  have nm : (toString "max" ++ toString ".loop" : String) = "max.loop" := by decide
  refine wpAny_call (codeAny_call_builtin F.plain_max F.entry_max ?_)
  have main : wpAny (model prog w) A.in1 (Builtin.«max» ⟨[.ref l], [(Str.ofString "default", .int d td)]⟩) (fun fin s' => match fin with
      | .done f => (match (Except.ok f : Result) with | .ok (.ret v) => Q v s' | .ok _ => False | .error e => E e s')
      | .again c' => c'.quiet = true ∧ codeAny (model prog w) A c' (fun r s' => match r with | .ok (.ret v) => Q v s' | .ok _ => False | .error e => E e s') s') E s := by
    show wpAny _ A.in1 (Builtin.Builtins.bindParams "max" ["key", "default"] 0 ⟨[], [(Str.ofString "default", .int d td)]⟩ >>= _) _ _ s
    refine wpAny_bind (wpAny_of_eq (show Builtin.Builtins.bindParams "max" ["key", "default"] 0 ⟨[], [(Str.ofString "default", .int d td)]⟩ = pure [none, some (.int d td)] from by kernel_rfl) ?_)
    refine wpAny_bind (wpAny_pure ?_)
    refine wpAny_bind (iter_intList hl fun s₂ e2 st hfp hlI => ?_)
    subst e2
    refine wpAny_bind (wpAny_newObj_type ?_)
    rw [nm]
    have hSf : (s.heap.push { cls := .type "list_iterator", data := .fields #[.ref l, .int 0 0] }).objs.size ∉ [s.heap.objs.size, l] := fun hm => Nat.lt_irrefl _ (hfp _ hm)
    have W := Walks.list (prog := prog) (w := w) (A := A.in1) hh s.heap.objs.size l hlI (intItems xs)
    refine wpAny_pure ⟨plainId_quiet F.plain_max_loop _, max_loopD W _ (CmpOf.ints_gt (numAt xs) (fun _ _ => intItems_at)) _ hSf (.int d td) _ 0 _ none _ rfl (Nat.zero_le _) (W.frame _ _ _ st fun b _ o e => Heap.get?_push_of_some _ e) (fun v hv => nomatch hv) (fun _ => rfl) (Heap.get?_push_size _ rfl) fun v h' tk hv hk => ?_⟩
    have keep : ∀ b o, s.heap.get? b = some o → h'.get? b = some o := fun b o eb => by
      have hlt := Heap.lt_size eb
      refine hk b o ?_ ?_ (Heap.get?_push_of_some _ (Heap.get?_push_of_some _ eb))
      · intro hm
        simp only [List.mem_cons, List.not_mem_nil, or_false] at hm
        subst hm; exact Nat.lt_irrefl _ hlt
      · intro e0
        have : (s.heap.push { cls := .type "list_iterator", data := .fields #[.ref l, .int 0 0] }).objs.size = s.heap.objs.size + 1 := Heap.size_push _ _
        exact absurd hlt (by rw [e0]; exact Nat.not_lt.mpr (by rw [this]; exact Nat.le_succ _))
    rcases hv with ⟨h0, rfl⟩ | ⟨h0, hP⟩
    · refine h h' tk d td keep (.inl ⟨?_, rfl⟩)
      have : xs.size = 0 := by simpa [intItems] using h0
      have : xs = #[] := Array.eq_empty_of_size_eq_zero this
      rw [this]; rfl
    · obtain ⟨t, rfl⟩ := intItems_at hP
      have hsz : 0 < xs.size := by simpa [intItems] using h0
      obtain ⟨h1, h2⟩ := argBest_gt (numAt xs) (xs.size - 1)
      have es : (intItems xs).size = xs.size := by simp [intItems]
      rw [es]
      refine h h' tk _ t keep (.inr ⟨?_, fun a ha => ?_⟩)
      · rw [numAt_eq]; exact PySem.getD_mem (by rw [List.length_map, Array.length_toList]; omega)
      · obtain ⟨j, hj, rfl⟩ := mem_getD ha
        rw [List.length_map, Array.length_toList] at hj
        rw [← numAt_eq]; exact h2 j (by omega)
  simp only [checkBuiltinCall, F.kind_max]
  cases hsig : Manifest.signature? "max" with
  | none => exact wpAny_pure main
  | some sig =>
    have ha' : Bind.checkArgs "max" sig ⟨[.ref l], [(Str.ofString "default", .int d td)]⟩ = pure () := by simpa only [argsOk, hsig] using max_argsD (.ref l) (.int d td)
    simp only [ha']
    exact wpAny_pure main
end
def rMaxDf (K : PySem.W.Frag) (d : Int) : List V → List V → Hp → VK → Prop := fun xs zs H Q => ∃ (a : Addr) (ns : List Int), xs = [V.ref a] ∧ zs = [V.int d] ∧ SqL K H a (ns.map V.int) ∧ ∀ M, ((ns = [] ∧ M = d) ∨ (M ∈ ns ∧ ∀ a, a ∈ ns → a ≤ M)) → Q (.int M) H
def maxDl (d : Int) (l : List Int) : Int := if l = [] then d else maxL l
def cMaxD (d : Int) : List D → Option Arg
  | [.lst ds] => (intsOf ds).map fun is => .val (.int (maxDl d is))
  | _ => none
section
variable {X : Cx} {W : WP} {pos p : Pos} {e : Expr} {es : List Expr} {fa : FA} {x : Str} {d : Int} {k : Kn}
theorem crk_max (hc : X.calm = true) : CallRK X (.builtin "max") [Str.ofString "default"] (rMaxDf X.K d) := by
  intro pins s σ H xs zs us ws Q I r rz h
  obtain ⟨a, ns, rfl, rfl, hs, q⟩ := h
  obtain ⟨its, rv, hl, _⟩ := I.list hs
  rw [Vals.ref1 r]
  cases rz with
  | cons r1 r2 =>
    cases r2
    obtain ⟨t, rfl⟩ := r1
    exact max_rawD (I.ok.hd hc) hl.isList rv.ints fun h' tk m t' hk hm => ⟨.int _, H, I.kept hk, ⟨_, rfl⟩, q m hm⟩
theorem cok_maxD : COk k (fun vs H Q => rMaxDf k.K d vs [V.int d] H Q) (cMaxD d) := by
  intro A F H σ env vs ds z Q S va e q
  unfold cMaxD at e
  split at e
  · rename_i ds
    obtain ⟨v, rfl, vw⟩ := va.one
    cases c : intsOf ds with
    | none => rw [c] at e; cases e
    | some is =>
      rw [c] at e
      simp only [Option.map_some, Option.some.injEq] at e
      cases e
      obtain ⟨p, us, rfl, hp, r⟩ := vw.lst S.sub
      rw [intsOf_eq c] at r
      have := r.ints
      subst this
      refine ⟨p, is, rfl, rfl, SqL.of hp, fun m hm => ?_⟩
      have e2 : m = maxDl d is := by
        unfold maxDl
        rcases hm with ⟨h1, h2⟩ | ⟨h1, h2⟩
        · rw [if_pos h1, h2]
        · have hn : is ≠ [] := fun e => by rw [e] at h1; cases h1
          rw [if_neg hn]
          obtain ⟨m1, m2⟩ := maxL_mem hn
          have := m2 m h1
          have := h2 _ m1
          omega
      rw [e2]
      exact q F H _ (.refl _) S (.int _)
  · cases e
/-- max(list, default = d) -/
theorem ex_maxD {j : Nat} {dpos kpos : Pos} (hc : X.calm = true) (hgl : Gl X x) (hm : X.mg x = none) (hv : bootBuiltins x = some (.builtin "max")) (ha : AX X W (e :: es) fa) (hn : x ≠ "__name__" := by decide) (hd : (x == ("__debug__" : Str)) = false := by decide)
    (he : backTo pos (starEach (e :: es) X.env) = (false, eval e X.env) :: backTo pos (starEach es X.env) := by rfl) (hpl : (backTo pos (starEach (e :: es) X.env)).any (·.1) = false := by rfl) :
    EX X W (.Call (.Name x p) (e :: es) [⟨some (Str.ofString "default"), .Constant (.int d) j dpos, kpos⟩] pos) (cbn (cMaxD d) fa) := by
  obtain ⟨t, pa, ra⟩ := ha
  exact ⟨_, pe_callBK (crk_max (d := d) hc) hgl hm hv pa (pk_cons pe_int pk_nil) hn hd he hpl, cbn_ok (cok_maxD (k := kn X) (d := d)) ra⟩
end
end PL

/-! PL: texts split, read as numbers, gone through; a sign in a text. -/
namespace PL
open PySem PySem.Spec PyProof.Rows L2
section
variable {k : Kn}
theorem reps_strs {F : Hp} : ∀ ys : List Str, Reps k F (ys.map D.str) (ys.map V.str)
  | [] => .nil
  | y :: ys => .cons (.str y) (reps_strs ys)
/-! a.split(b) -/
def pSplit : D → List D → Option Arg
  | .str a, [.str b] => if (b.length == 0) = false ∧ a.length + 2 ≤ 16777216 then some (.new (.lst ((Txt.split a b).map .str))) else none
  | _, _ => none
theorem pok_split : POk k (fun x xs H Q => ∃ a b, x = .str a ∧ xs = [.str b] ∧ (b.length == 0) = false ∧ a.length + 2 ≤ sizeLine ∧ rNewStrs (Txt.split a b) H Q) pSplit := by
  intro A F H σ env x vs a ds z Q S ra va e q
  unfold pSplit at e
  split at e
  · rename_i a b
    split at e
    · rename_i hz
      cases e
      obtain ⟨v, rfl, vw⟩ := va.one
      cases ra
      cases vw.str
      exact ⟨a, b, rfl, rfl, hz.1, by rw [sizeLine_eq]; exact hz.2, fun p hp => S.newL (reps_strs _) (fun F' H' v a b c => q F' H' v a b c) p hp⟩
    · cases e
  · cases e
/-! int(a) -/
def cIntS : List D → Option Arg
  | [.str a] => if a.length ≤ 640 then (PySem.intText? a).map fun n => .val (.int n) else none
  | _ => none
theorem cok_intS : COk k (fun xs H Q => ∃ a n, xs = [.str a] ∧ PySem.intText? a = some n ∧ a.length ≤ 640 ∧ Q (.int n) H) cIntS := by
  intro A F H σ env vs ds z Q S va e q
  unfold cIntS at e
  split at e
  · rename_i a
    split at e
    · rename_i hz
      cases c : PySem.intText? a with
      | none => rw [c] at e; cases e
      | some n =>
        rw [c] at e
        cases e
        obtain ⟨v, rfl, vw⟩ := va.one
        cases vw.str
        exact ⟨a, n, rfl, c, hz, q F H _ (.refl _) S (.int _)⟩
    · cases e
  · cases e
/-! a sign in a text -/
def gInS : D → D → Option Arg
  | .str x, .str z => match x.cps.toList with
    | [c] => some (.val (.bl (decide (c ∈ z.cps.toList))))
    | _ => none
  | _, _ => none
theorem bok_inS : BOk k (fun x y H Q => ∃ (c : Nat) (z : Str), x = .str ⟨#[c]⟩ ∧ y = .str z ∧ Q (.bl (decide (c ∈ z.cps.toList))) H) gInS := by
  intro A F H σ env x y a b z Q S va vb e q
  unfold gInS at e
  split at e
  · rename_i x z
    split at e
    · rename_i c hc
      cases e
      cases va.str
      cases vb.str
      have hx : x = ⟨#[c]⟩ := by
        have : x.cps = #[c] := by exact Array.toList_inj.mp (by rw [hc])
        cases x; simp only at this; rw [this]
      subst hx
      exact ⟨c, z, rfl, rfl, q F H _ (.refl _) S (.bl _)⟩
    · cases e
  · cases e
/-! the signs of a text, one by one -/
def signs (x : Str) : List Str := x.cps.toList.map fun c => ⟨#[c]⟩
def itStr (f : FE) : FI := fun env => (f env).bind fun p => match cont p.1 p.2 with
  | some (.str x) => .ok ((signs x).map .str, p.2)
  | _ => .no
theorem feeds_str {F : Hp} {x : Str} : Feeds k F ((signs x).map D.str) (Its x) := by
  intro F2 H2 s1 s2 i
  have hl : ((signs x).map D.str).length = x.cps.size := by simp [signs]
  refine ⟨fun d e => ?_, fun e => by rw [hl] at e; exact e⟩
  have hi : i < x.cps.size := by
    have := (List.getElem?_eq_some_iff.mp e).1
    rwa [hl] at this
  refine ⟨hi, fun y H3 hy => .inl ⟨hy.1, ?_⟩⟩
  obtain ⟨c, hc, rfl⟩ := hy.2
  have : d = .str ⟨#[c]⟩ := by
    simp only [signs, List.map_map, List.getElem?_map, Array.getElem?_toList, hc, Option.map_some, Option.some.injEq, Function.comp] at e
    exact e.symm
  rw [this]
  exact .str _
end
section
variable {X : Cx} {W : WP} {tg : Expr}
theorem ix_str {e : Expr} {f : FE} (h : EX X W e f) : IX X W tg e (itStr f) := by
  obtain ⟨t, p, r⟩ := h
  refine ⟨_, pi_str p, fun A F H σ env R S q => r A F H σ env _ S (q.afE fun p F1 H1 v1 s1 S1 r1 q1 => ?_)⟩
  split at q1
  · rename_i x ec
    cases (S1.view r1 ec).str
    exact ⟨x, rfl, q1 F1 H1 _ (.refl _) S1 feeds_str⟩
  · exact q1.elim
end
/-! range(i, j, -1) -/
def ddown (i : Int) (n : Nat) : List D := (List.range n).map fun (m : Nat) => D.int (i + (m : Int) * (-1))
def itRngD (g : FA) : FI := fun env => (g env).bind fun p => match conts p.1 p.2 with
  | some [.int i, .int j, .int c] => if c = -1 ∧ -(2 ^ 62) ≤ i ∧ i < 2 ^ 62 ∧ -(2 ^ 62) ≤ j ∧ j < 2 ^ 62 then .ok (ddown i (i - j).toNat, p.2) else .no
  | _ => .no
theorem feeds_down {k : Kn} {F : Hp} {i : Int} {n : Nat} : Feeds k F (ddown i n) (Itc i (-1) n) := by
  intro F2 H2 s1 s2 m
  have hl : (ddown i n).length = n := by simp [ddown]
  refine ⟨fun d e => ?_, fun e => by rw [hl] at e; exact e⟩
  have hi : m < n := by
    have := (List.getElem?_eq_some_iff.mp e).1
    rwa [hl] at this
  refine ⟨hi, fun x H3 hy => .inl ⟨hy.1, ?_⟩⟩
  have : d = .int (i + (m : Int) * (-1)) := by
    simp only [ddown, List.getElem?_map, List.getElem?_range hi, Option.map_some, Option.some.injEq] at e
    exact e.symm
  rw [this, hy.2]
  exact .int _
theorem ix_rngD {X : Cx} {W : WP} {pos : Pos} {tg : Expr} {a b c : Expr} {g : FA} {p : Pos} (hg : Gl X "range") (hm : X.mg "range" = none) (h : AX X W [a, b, c] g) (hs : starEach [a, b, c] X.env = (false, eval a X.env) :: starEach [b, c] X.env := by rfl) (hpl : (backTo pos (starEach [b, c] X.env)).any (·.1) = false := by rfl) : IX X W tg (.Call (.Name "range" p) [a, b, c] [] pos) (itRngD g) := by
  obtain ⟨t, pa, r⟩ := h
  refine ⟨_, pi_range3 hg hm pa hs hpl, fun A F H σ env R S q => r A F H σ env _ S (q.afA fun p F1 H1 vs s1 S1 r1 q1 => ?_)⟩
  split at q1
  · rename_i i j c e
    split at q1
    · rename_i hc
      obtain ⟨rfl, c1, c2, c3, c4⟩ := hc
      cases S1.views r1 e with
      | cons v t => cases t with | cons v' t => cases t with | cons v'' t => cases t; cases v.int; cases v'.int; cases v''.int; exact ⟨i, j, -1, _, rfl, RgC.neg c1 c2 c3 c4, q1 F1 H1 _ (.refl _) S1 feeds_down⟩
    · exact q1.elim
  · exact q1.elim
/-! a call without arguments -/
theorem ex_call0 {X : Cx} {W : WP} {k : Nat} {f : Addr} {fd : FuncData} {x : Str} {p pos : Pos} {fn : FFn} (Fo : FnOk X.prog X.w X.K X.mg X.base CX0 k f fd [] (Prom (kn X) 0 fn)) (hr : Room k X.A) (hg : Gl X x) (hm : X.mg x = some (.ref f)) (hk : PySem.W.keepIn X.K (.ref f) = true) (hb : Binds X.K fd [] [])
    (hdb : (x == ("__debug__" : Str)) = false := by decide) : EX X W (.Call (.Name x p) [] [] pos) (callF [] fn anil) := by
  exact ⟨_, pe_call0 Fo hr hg hm hk hb .nil pass0 hdb, callF_ok (ms := []) (n := 0) rfl (fun A F H σ env Q S q => q F H [] (.refl F) S .nil)⟩
end PL

/-! ML: mirrors are evaluated -/
namespace PL
open PySem L2
def okB : Option (Option Sl) → Bool
  | none => false
  | some (some (.mu _)) => false
  | _ => true
def okC : Option (Option Sl) → Bool
  | some none => true
  | some (some (.fz _)) => true
  | _ => false
@[simp] theorem okB_no : okB (some none) = true := rfl
@[simp] theorem okB_fz (d : D) : okB (some (some (.fz d))) = true := rfl
@[simp] theorem okB_ow (o : O) : okB (some (some (.ow o))) = true := rfl
@[simp] theorem okC_no : okC (some none) = true := rfl
@[simp] theorem okC_fz (d : D) : okC (some (some (.fz d))) = true := rfl
/-- a bound of list(range(..)) -/
def Rl (n : Int) : Prop := -(2 ^ 62) ≤ n ∧ n ≤ 2 ^ 24
noncomputable instance (j : Int) : Decidable (Rl j) := Classical.propDecidable _
/-- a bound of range -/
def Rk (j : Int) : Prop := -(2 ^ 62) ≤ j ∧ j < 2 ^ 62
noncomputable instance (j : Int) : Decidable (Rk j) := Classical.propDecidable _
/-- a factor -/
def Mk (a : Int) : Prop := -(2 ^ 64) < a ∧ a < 2 ^ 64
noncomputable instance (j : Int) : Decidable (Mk j) := Classical.propDecidable _
/-- a divisor -/
def Dk (a : Int) : Prop := 0 < a ∧ a < 2 ^ 64
noncomputable instance (j : Int) : Decidable (Dk j) := Classical.propDecidable _
theorem ite_cg {α : Type} {c c' : Prop} [i : Decidable c] [i' : Decidable c'] (h : c ↔ c') (a b : α) : ite c a b = ite c' a b := by
  by_cases q : c
  · rw [if_pos q, if_pos (h.mp q)]
  · rw [if_neg q, if_neg fun z => q (h.mpr z)]
theorem mk_of {j : Int} (h : -18446744073709551616 < j) (h2 : j < 18446744073709551616) : Mk j := ⟨by omega, by omega⟩
theorem dk_of {j : Int} (h : 0 < j) (h2 : j < 18446744073709551616) : Dk j := ⟨by omega, by omega⟩
theorem rl_of {j : Int} (h : -1000000000000 ≤ j) (h2 : j ≤ 16777216) : Rl j := ⟨by omega, by omega⟩
theorem rk_of {j : Int} (h : -1000000000000 ≤ j) (h2 : j ≤ 1000000000000) : Rk j := ⟨by omega, by omega⟩
theorem rk_nat {n : Nat} (h : n ≤ 1000000000000) : Rk (n : Int) := rk_of (by omega) (by omega)
section
variable {α β : Type} (env e : En) (f g h : FE) (t u : FT) (s s' : FS) (fa : FA) (i j : Nat) (d d' : D) (x : Arg)
theorem cg_bind {r r' : Res α} {k : α → Res β} (h : r = r') : r.bind k = r'.bind k := by rw [h]
theorem cg_bin {r r' : Res α} {k : α → Res β} (h : r = r') : r.bin k = r'.bin k := by rw [h]
theorem cg_go {r r' : Res α} {k : α → RS} (h : r = r') : r.go k = r'.go k := by rw [h]
@[simp] theorem x_bind (a : α) (k : α → Res β) : (Res.ok a).bind k = k a := rfl
@[simp] theorem x_bin (a : α) (k : α → Res β) : (Res.ok a).bin k = k a := rfl
@[simp] theorem x_go (a : α) (k : α → RS) : (Res.ok a).go k = k a := rfl
@[simp] theorem x_kst : kst d env = .ok (.val d, env) := rfl
@[simp] theorem x_rdv : rdv i env = (match env[i]? with
  | some (some (.fz d)) => .ok (.val d, env)
  | some (some (.ow _)) => .ok (.slot i, env)
  | some (some (.mu _)) => .ok (.slot i, env)
  | _ => .no) := rfl
@[simp] theorem x_bop (o : D → D → Option Arg) : bop o f g env = (f env).bind fun p => (g p.2).bind fun q =>
  match cont (settle p.1) q.2, cont q.1 q.2 with
  | some a, some b => (match o a b with
    | some r => .ok (r, q.2)
    | none => .no)
  | _, _ => .no := rfl
@[simp] theorem x_settle1 : settle (.val d) = .val d := rfl
@[simp] theorem x_settle2 : settle (.slot i) = .slot i := rfl
@[simp] theorem x_settle3 (o : O) : settle (.new o) = .val o.toD := rfl
@[simp] theorem x_toD1 (ds : List D) : O.toD (.lst ds) = .lst ds := rfl
@[simp] theorem x_slD1 : Sl.toD (.fz d) = d := rfl
@[simp] theorem x_slD2 (o : O) : Sl.toD (.ow o) = o.toD := rfl
@[simp] theorem x_slD3 (o : O) : Sl.toD (.mu o) = o.toD := rfl
@[simp] theorem x_cont1 : cont (.val d) env = some d := rfl
@[simp] theorem x_cont2 : cont (.slot j) env = (match env[j]? with
    | some (some sl) => some sl.toD
    | _ => none) := rfl
@[simp] theorem x_cont3 (o : O) : cont (.new o) env = some o.toD := rfl
@[simp] theorem x_hold1 : hold (.val d) env = some (d, env) := rfl
@[simp] theorem x_hold2 : hold (.slot j) env = (match env[j]? with
    | some (some (.fz d)) => some (d, env)
    | some (some (.ow o)) => some (o.toD, env.set j (some (.fz o.toD)))
    | _ => none) := rfl
@[simp] theorem x_hold3 (o : O) : hold (.new o) env = some (o.toD, env) := rfl
@[simp] theorem x_holds0 : holds [] env = some ([], env) := rfl
@[simp] theorem x_holds1 (xs : List Arg) : holds (x :: xs) env = (match hold x env with
    | some p => (match holds xs p.2 with
      | some q => some (p.1 :: q.1, q.2)
      | none => none)
    | none => none) := rfl
@[simp] theorem x_conts0 : conts [] env = some [] := rfl
@[simp] theorem x_conts1 (xs : List Arg) : conts (x :: xs) env = (match cont x env, conts xs env with
    | some d, some ds => some (d :: ds)
    | _, _ => none) := rfl
@[simp] theorem x_tst : tst f env = (f env).bind fun p => match p.1 with
  | .val (.bl b) => .ok (b, p.2)
  | _ => .no := rfl
@[simp] theorem x_trt : trt f env = (f env).bind fun p => match (cont p.1 p.2).bind tru with
  | some b => .ok (b, p.2)
  | none => .no := rfl
@[simp] theorem x_tnot : tnot t env = (t env).bind fun p => .ok (!p.1, p.2) := rfl
@[simp] theorem x_tand : tand t u env = (t env).bind fun p => if p.1 = true then u p.2 else .ok (false, p.2) := rfl
@[simp] theorem x_tor : tor t u env = (t env).bind fun p => if p.1 = true then .ok (true, p.2) else u p.2 := rfl
@[simp] theorem x_vnot : vnot f env = (tst f env).bind fun p => .ok (.val (.bl (!p.1)), p.2) := rfl
@[simp] theorem x_vand : vand f g env = (tst f env).bind fun p => if p.1 = true then g p.2 else .ok (.val (.bl false), p.2) := rfl
@[simp] theorem x_vor : vor f g env = (tst f env).bind fun p => if p.1 = true then .ok (.val (.bl true), p.2) else g p.2 := rfl
@[simp] theorem x_vif : vif t f g env = (t env).bind fun p => if p.1 = true then f p.2 else g p.2 := rfl
@[simp] theorem x_uop (o : D → Option Arg) : uop o f env = (f env).bind fun p => match (cont p.1 p.2).bind o with
  | some r => .ok (r, p.2)
  | none => .no := rfl
@[simp] theorem x_anil : anil env = .ok ([], env) := rfl
@[simp] theorem x_acons : acons f fa env = (f env).bind fun p => (fa p.2).bind fun q => .ok (settle p.1 :: q.1, q.2) := rfl
@[simp] theorem x_dsp (mk : List D → Arg) : dsp mk fa env = (fa env).bind fun p => match holds p.1 p.2 with
  | some q => if q.1.length ≤ sizeLine then .ok (mk q.1, q.2) else .no
  | none => .no := rfl
@[simp] theorem x_cbn (o : List D → Option Arg) : cbn o fa env = (fa env).bind fun p => match (conts p.1 p.2).bind o with
  | some r => .ok (r, p.2)
  | none => .no := rfl
@[simp] theorem x_bindD : bindD i d env = if okB env[i]? = true then .ok (env.set i (some (.fz d))) else .no := by
  unfold bindD okB
  cases env[i]? with
  | none => rfl
  | some x => cases x with
    | none => rfl
    | some y => cases y <;> rfl
@[simp] theorem x_bindA1 : bindA i (.val d) env = bindD i d env := rfl
@[simp] theorem x_bindA2 (o : O) : bindA i (.new o) env = if okB env[i]? = true then .ok (env.set i (some (.ow o))) else .no := by
  unfold bindA okB
  cases env[i]? with
  | none => rfl
  | some x => cases x with
    | none => rfl
    | some y => cases y <;> rfl
@[simp] theorem x_bindA3 : bindA i (.slot j) env = (match hold (.slot j) env with
    | some p => bindD i p.1 p.2
    | none => .no) := rfl
@[simp] theorem x_sasg : sasg i f env = (f env).go fun p => (bindA i p.1 p.2).go .nx := rfl
@[simp] theorem x_sasgT (g : FG) : sasgT g f env = (f env).go fun p => match hold p.1 p.2 with
  | some q => (g q.1 q.2).go .nx
  | none => .no := rfl
@[simp] theorem x_sexp : sexp f env = (f env).go fun p => .nx p.2 := rfl
@[simp] theorem x_sret : sret f env = (f env).go fun p => match p.1 with
  | .val d => .rt (.fz d) p.2
  | .new o => .rt (.ow o) p.2
  | .slot j => (match p.2[j]? with
    | some (some (.fz d)) => .rt (.fz d) p.2
    | some (some (.ow o)) => .rt (.ow o) (p.2.set j none)
    | _ => .no) := rfl
@[simp] theorem x_sseq : sseq s s' env = (match s env with
  | .nx e => s' e
  | r => r) := rfl
@[simp] theorem x_sif : sif t s s' env = (t env).go fun p => if p.1 = true then s p.2 else s' p.2 := rfl
@[simp] theorem x_sfor (it : FI) (tg : FG) : sfor it tg s env = (it env).go fun p => forL tg s p.1 p.2 := rfl
@[simp] theorem x_itSeq : itSeq f env = (f env).bind fun p => match hold p.1 p.2 with
  | some (.lst ds, e) => .ok (ds, e)
  | some (.tup ds, e) => .ok (ds, e)
  | _ => .no := rfl
@[simp] theorem x_itRng1 : itRng1 fa env = (fa env).bind fun p => match conts p.1 p.2 with
  | some [.int j] => if Rk j then .ok (dints 0 j.toNat, p.2) else .no
  | _ => .no := by
  unfold itRng1
  congr 1
  funext p
  split
  · rename_i j e
    try rw [e]
    exact ite_cg (c := -(2 ^ 62) ≤ j ∧ j < 2 ^ 62) (c' := Rk j) Iff.rfl _ _
  · rename_i e
    first
      | rfl
      | (split
         · rename_i j e'; exact absurd e' (e j)
         · rfl)
@[simp] theorem x_itRng2 : itRng2 fa env = (fa env).bind fun p => match conts p.1 p.2 with
  | some [.int i, .int j] => if Rk i ∧ Rk j then .ok (dints i (j - i).toNat, p.2) else .no
  | _ => .no := by
  unfold itRng2
  congr 1
  funext p
  have h : ∀ i j : Int, (-(2 ^ 62) ≤ i ∧ i < 2 ^ 62 ∧ -(2 ^ 62) ≤ j ∧ j < 2 ^ 62) = (Rk i ∧ Rk j) := fun i j => propext ⟨fun ⟨a, b, c, d⟩ => ⟨⟨a, b⟩, c, d⟩, fun ⟨⟨a, b⟩, c, d⟩ => ⟨a, b, c, d⟩⟩
  split
  · rename_i i j e
    try rw [e]
    show _ = (if Rk i ∧ Rk j then _ else _)
    by_cases c : Rk i ∧ Rk j
    · rw [if_pos c, if_pos ((h i j).mpr c)]
    · rw [if_neg c, if_neg fun z => c ((h i j).mp z)]
  · rename_i e
    first
      | rfl
      | (split
         · rename_i i j e'; exact absurd e' (e i j)
         · rfl)
@[simp] theorem x_tyes : tyes env = .ok (true, env) := rfl
@[simp] theorem x_onone : onone env = .ok (none, env) := rfl
@[simp] theorem x_osome : osome f env = (f env).bind fun p => match cont p.1 p.2 with
  | some (.int i) => .ok (some i, p.2)
  | _ => .no := rfl
@[simp] theorem x_vsl (g h : FO) : vsl f g h env = (f env).bind fun p => (g p.2).bind fun q => (h q.2).bind fun r => match (cont (settle p.1) r.2).bind fun d => gSl d q.1 r.1 with
  | some x => .ok (x, r.2)
  | none => .no := rfl
@[simp] theorem x_slotO : slotO env j = (match env[j]? with
  | some (some (.ow o)) => some o
  | some (some (.mu o)) => some o
  | _ => none) := rfl
@[simp] theorem x_setO (o : O) : setO env j o = (match env[j]? with
  | some (some (.ow _)) => env.set j (some (.ow o))
  | some (some (.mu _)) => env.set j (some (.mu o))
  | _ => env) := rfl
@[simp] theorem x_sset : sset j f g env = (f env).go fun p => match hold p.1 p.2 with
  | some d => (match slotO d.2 j with
    | some _ => (g d.2).go fun q => (match cont q.1 q.2, slotO q.2 j with
      | some (.int i), some (.lst ds) => (match ixN ds.length i with
        | some m => .nx (setO q.2 j (.lst (ds.set m d.1)))
        | none => .no)
      | _, _ => .no)
    | none => .no)
  | none => .no := rfl
@[simp] theorem x_mcall (o : List D → List D → Option (List D × D)) : mcall j o fa env = (match slotO env j with
  | some (.lst _) => (fa env).bind fun p => (match holds p.1 p.2 with
    | some q => (match slotO q.2 j with
      | some (.lst xs) => (match o xs q.1 with
        | some r => .ok (.val r.2, setO q.2 j (.lst r.1))
        | none => .no)
      | _ => .no)
    | none => .no)
  | _ => .no) := rfl
@[simp] theorem x_vch (o o' : D → D → Option Arg) : vch o o' f g h env = (f env).bind fun p => (g p.2).bind fun q =>
  match cont (settle p.1) q.2, cont (settle q.1) q.2 with
  | some a, some b => (match o a b with
    | some (.val (.bl true)) => (h q.2).bind fun r => (match cont (settle q.1) r.2, cont r.1 r.2 with
      | some b', some c => (match o' b' c with
        | some z => .ok (z, r.2)
        | none => .no)
      | _, _ => .no)
    | some (.val (.bl false)) => .ok (.val (.bl false), q.2)
    | _ => .no)
  | _, _ => .no := rfl
@[simp] theorem x_lsRng1 : lsRng1 f env = (f env).bind fun p => match cont p.1 p.2 with
  | some (.int n) => if Rl n then .ok (.new (.lst (dints 0 n.toNat)), p.2) else .no
  | _ => .no := by
  unfold lsRng1
  congr 1
  funext p
  split
  · rename_i j e
    try rw [e]
    exact ite_cg (c := -(2 ^ 62) ≤ j ∧ j ≤ 2 ^ 24) (c' := Rl j) Iff.rfl _ _
  · rename_i e
    first
      | rfl
      | (split
         · rename_i j e'; exact absurd e' (e j)
         · rfl)
@[simp] theorem x_callF (ms : List Md) (fn : FFn) : callF ms fn fa env = (fa env).bind fun p => match prep ms p.1 p.2 with
  | some (ps, e) => (match slsOf e ps with
    | some as => if okPa ps = true then (match fn as with
      | .ok r os => if clean ps e r os = true then (match toArg r, applyO ps os e with
        | some x, some e' => .ok (x, e')
        | _, _ => .no) else .no
      | _ => .no) else .no
    | none => .no)
  | none => .no := rfl
@[simp] theorem x_prep0 : prep [] [] env = some ([], env) := rfl
@[simp] theorem x_prep1 (m : Md) (ms : List Md) (xs : List Arg) : prep (m :: ms) (x :: xs) env = (match prep1 m x env with
    | some p => (match prep ms xs p.2 with
      | some q => some (p.1 :: q.1, q.2)
      | none => none)
    | none => none) := rfl
@[simp] theorem x_prepA : prep1 .mt (.slot j) env = some (.mt j, env) := rfl
@[simp] theorem x_prepB : prep1 .bw (.slot j) env = (match slotO env j with
    | some _ => some (.bo j, env)
    | none => (hold (.slot j) env).map fun p => (.hd p.1, p.2)) := rfl
@[simp] theorem x_prepC : prep1 .rd x env = (hold x env).map fun p => (.hd p.1, p.2) := by cases x <;> rfl
@[simp] theorem x_prepD : prep1 .bw (.val d) env = some (.hd d, env) := rfl
@[simp] theorem x_prepE (o : O) : prep1 .bw (.new o) env = some (.hd o.toD, env) := rfl
@[simp] theorem x_sls0 : slsOf env [] = some [] := rfl
@[simp] theorem x_sls1 (p : Pa) (ps : List Pa) : slsOf env (p :: ps) = (match p.sl env, slsOf env ps with
    | some s, some r => some (s :: r)
    | _, _ => none) := rfl
@[simp] theorem x_pa1 : Pa.sl env (.hd d) = some (.fz d) := rfl
@[simp] theorem x_pa2 : Pa.sl env (.bo j) = (slotO env j).map fun o => .fz o.toD := rfl
@[simp] theorem x_pa3 : Pa.sl env (.mt j) = (slotO env j).map .mu := rfl
@[simp] theorem x_ms0 : mslots [] = [] := rfl
@[simp] theorem x_ms1 (ps : List Pa) : mslots (.hd d :: ps) = mslots ps := rfl
@[simp] theorem x_ms2 (ps : List Pa) : mslots (.bo j :: ps) = mslots ps := rfl
@[simp] theorem x_ms3 (ps : List Pa) : mslots (.mt j :: ps) = j :: mslots ps := rfl
@[simp] theorem x_bs0 : bslots [] = [] := rfl
@[simp] theorem x_bs1 (ps : List Pa) : bslots (.hd d :: ps) = bslots ps := rfl
@[simp] theorem x_bs2 (ps : List Pa) : bslots (.bo j :: ps) = j :: bslots ps := rfl
@[simp] theorem x_bs3 (ps : List Pa) : bslots (.mt j :: ps) = bslots ps := rfl
@[simp] theorem x_okPa (ps : List Pa) : okPa ps = (decide (mslots ps).Nodup && (bslots ps).all fun j => !(mslots ps).contains j) := rfl
@[simp] theorem x_clean (ps : List Pa) (r : Sl) (os : List (Option O)) : clean ps env r os = ((bslots ps).isEmpty || ((bslots ps).all (fun j => match slotO env j with
    | some o => flatO o
    | none => false) && noLS r && os.all fun o => match o with
    | some o => noLO o
    | none => true)) := rfl
@[simp] theorem x_ap0 : applyO [] [] env = some env := rfl
@[simp] theorem x_ap1 (ps : List Pa) (os : List (Option O)) : applyO (.hd d :: ps) (none :: os) env = applyO ps os env := rfl
@[simp] theorem x_ap2 (ps : List Pa) (os : List (Option O)) : applyO (.bo j :: ps) (none :: os) env = applyO ps os env := rfl
@[simp] theorem x_ap3 (ps : List Pa) (os : List (Option O)) (o : O) : applyO (.mt j :: ps) (some o :: os) env = applyO ps os (setO env j o) := rfl
@[simp] theorem x_toArg1 : toArg (.fz d) = some (.val d) := rfl
@[simp] theorem x_toArg2 (o : O) : toArg (.ow o) = some (.new o) := rfl
@[simp] theorem x_muts0 (e : En) : muts [] e = [] := by cases e <;> rfl
@[simp] theorem x_muts1 (as : List Sl) (z : Option Sl) : muts (.fz d :: as) (z :: e) = none :: muts as e := by cases z with
  | none => rfl
  | some y => cases y <;> rfl
@[simp] theorem x_muts2 (as : List Sl) (o o' : O) : muts (.mu o :: as) (some (.mu o') :: e) = some o' :: muts as e := rfl
@[simp] theorem x_flat (ds : List D) : flatO (.lst ds) = true := rfl
@[simp] theorem x_noLS1 : noLS (.fz d) = noL d := rfl
@[simp] theorem x_noLS2 (o : O) : noLS (.ow o) = noLO o := rfl
@[simp] theorem x_noLO (ds : List D) : noLO (.lst ds) = noL.noLs ds := rfl
@[simp] theorem x_noLi (i : Int) : noL (.int i) = true := by simp [noL]
@[simp] theorem x_noLb (b : Bool) : noL (.bl b) = true := by simp [noL]
@[simp] theorem x_noLn : noL .non = true := by simp [noL]
@[simp] theorem x_noLs (z : Str) : noL (.str z) = true := by simp [noL]
@[simp] theorem x_noLt (ds : List D) : noL (.tup ds) = noL.noLs ds := by simp [noL]
@[simp] theorem x_noLs0 : noL.noLs [] = true := by simp [noL.noLs]
@[simp] theorem x_noLs1 (ds : List D) : noL.noLs (d :: ds) = (noL d && noL.noLs ds) := by simp [noL.noLs]
@[simp] theorem x_noLsA (ds es : List D) : noL.noLs (ds ++ es) = (noL.noLs ds && noL.noLs es) := by
  induction ds with
  | nil => simp
  | cons a l ih => simp [ih, Bool.and_assoc]
theorem noLs_all (ds : List D) : noL.noLs ds = ds.all noL := by
  induction ds with
  | nil => simp
  | cons a l ih => simp [ih]
@[simp] theorem x_noLsI (is : List Int) : noL.noLs (is.map D.int) = true := by rw [noLs_all]; simp
/-! operations on values -/
@[simp] theorem x_vI (n : Int) : vI n = some (.val (.int n)) := rfl
@[simp] theorem x_vB (b : Bool) : vB b = some (.val (.bl b)) := rfl
end
section
variable (a b : Int) (ds es : List D)
@[simp] theorem x_add : gAdd (.int a) (.int b) = some (.val (.int (a + b))) := rfl
@[simp] theorem x_addL : gAdd (.lst ds) (.lst es) = if ds.length + es.length ≤ sizeLine then some (.new (.lst (ds ++ es))) else none := by
  by_cases h : ds.length + es.length ≤ sizeLine <;> simp [gAdd, gor, gAddI, gAddL, gAddT, gAddS, h, Option.orElse]
@[simp] theorem x_addT : gAdd (.tup ds) (.tup es) = if ds.length + es.length ≤ sizeLine then some (.val (.tup (ds ++ es))) else none := by
  by_cases h : ds.length + es.length ≤ sizeLine <;> simp [gAdd, gor, gAddI, gAddL, gAddT, gAddS, h, Option.orElse]
@[simp] theorem x_sub : gSub (.int a) (.int b) = some (.val (.int (a - b))) := rfl
@[simp] theorem x_neg : gNeg (.int a) = some (.val (.int (-a))) := rfl
@[simp] theorem x_mul : gMul (.int a) (.int b) = if Mk a ∨ Mk b then some (.val (.int (a * b))) else none := by
  by_cases h : (-(2 ^ 64) < a ∧ a < 2 ^ 64) ∨ (-(2 ^ 64) < b ∧ b < 2 ^ 64)
  · rw [if_pos (show Mk a ∨ Mk b from h)]; simp only [gMul, gor, gMulI, if_pos h]; rfl
  · rw [if_neg (show ¬ (Mk a ∨ Mk b) from h)]; simp only [gMul, gor, gMulI, if_neg h]; rfl
@[simp] theorem x_mulL : gMul (.lst ds) (.int b) = if -(2 ^ 63) ≤ b ∧ b < 2 ^ 63 ∧ ds.length * b.toNat ≤ sizeLine then some (.new (.lst (List.replicate b.toNat ds).flatten)) else none := by
  by_cases h : -(2 ^ 63) ≤ b ∧ b < 2 ^ 63 ∧ ds.length * b.toNat ≤ sizeLine
  · rw [if_pos h]; simp only [gMul, gor, gMulI, gMulL, if_pos h]; rfl
  · rw [if_neg h]; simp only [gMul, gor, gMulI, gMulL, if_neg h]; rfl
@[simp] theorem x_div : gDiv (.int a) (.int b) = if Dk b then some (.val (.int (a / b))) else none := ite_cg (c := 0 < b ∧ b < 2 ^ 64) (c' := Dk b) Iff.rfl _ _
@[simp] theorem x_mod : gMod (.int a) (.int b) = if 0 < b then some (.val (.int (a % b))) else none := rfl
@[simp] theorem x_pow : gPow (.int a) (.int b) = if 0 ≤ b ∧ b ≤ 1000000 ∧ a.natAbs < 2 ^ 64 then some (.val (.int (a ^ b.toNat))) else none := rfl
@[simp] theorem x_lt : gLt (.int a) (.int b) = some (.val (.bl (decide (a < b)))) := rfl
@[simp] theorem x_le : gLe (.int a) (.int b) = some (.val (.bl (decide (a ≤ b)))) := rfl
@[simp] theorem x_gt : gGt (.int a) (.int b) = some (.val (.bl (decide (b < a)))) := rfl
@[simp] theorem x_ge : gGe (.int a) (.int b) = some (.val (.bl (decide (b ≤ a)))) := rfl
@[simp] theorem x_eq : gEq (.int a) (.int b) = some (.val (.bl (decide (a = b)))) := rfl
@[simp] theorem x_eqS (s s' : Str) : gEq (.str s) (.str s') = some (.val (.bl (decide (s = s')))) := rfl
@[simp] theorem x_ne : gNe (.int a) (.int b) = some (.val (.bl (!decide (a = b)))) := rfl
@[simp] theorem x_neS (s s' : Str) : gNe (.str s) (.str s') = some (.val (.bl (!decide (s = s')))) := rfl
@[simp] theorem x_eqL : gEq (.lst ds) (.lst es) = eqD false (.lst ds) (.lst es) := rfl
@[simp] theorem x_eqT : gEq (.tup ds) (.tup es) = eqD false (.tup ds) (.tup es) := rfl
@[simp] theorem x_neL : gNe (.lst ds) (.lst es) = eqD true (.lst ds) (.lst es) := rfl
@[simp] theorem x_neT : gNe (.tup ds) (.tup es) = eqD true (.tup ds) (.tup es) := rfl
@[simp] theorem x_eqB (b b' : Bool) : gEq (.bl b) (.bl b') = eqD false (.bl b) (.bl b') := rfl
@[simp] theorem x_is (d : D) : gIs d .non = some (.val (.bl (isNon d))) := by cases d <;> rfl
@[simp] theorem x_isn (d : D) : gNot d .non = some (.val (.bl (!isNon d))) := by cases d <;> rfl
@[simp] theorem x_ixL : gIx (.lst ds) (.int a) = (atI ds a).map .val := rfl
@[simp] theorem x_ixT : gIx (.tup ds) (.int a) = (atI ds a).map .val := rfl
@[simp] theorem x_ixS (is : List Int) : gIx (.scr is) (.int a) = (atI is a).map fun n => .val (.int n) := rfl
@[simp] theorem x_slL (lo hi : Option Int) : gSl (.lst ds) lo hi = some (.new (.lst (cut ds lo hi))) := rfl
@[simp] theorem x_slT (lo hi : Option Int) : gSl (.tup ds) lo hi = some (.val (.tup (cut ds lo hi))) := rfl
@[simp] theorem x_rev : gRev (.lst ds) = some (.new (.lst ds.reverse)) := rfl
@[simp] theorem x_cLenL : cLen [.lst ds] = some (.val (.int ds.length)) := rfl
@[simp] theorem x_cLenT : cLen [.tup ds] = some (.val (.int ds.length)) := rfl
@[simp] theorem x_cLenS (is : List Int) : cLen [.scr is] = some (.val (.int is.length)) := rfl
@[simp] theorem x_cAbs : cAbs [.int a] = some (.val (.int (if a < 0 then -a else a))) := rfl
@[simp] theorem x_cMax : cMax2 [.int a, .int b] = some (.val (.int (max a b))) := by simp only [cMax2, vI]; congr 3; omega
@[simp] theorem x_cMin : cMin2 [.int a, .int b] = some (.val (.int (min a b))) := by simp only [cMin2, vI]; congr 3; omega
@[simp] theorem x_cIntI : cInt [.int a] = some (.val (.int a)) := rfl
@[simp] theorem x_cIntB (b : Bool) : cInt [.bl b] = some (.val (.int (if b then 1 else 0))) := rfl
@[simp] theorem x_cList1 : cList [.lst ds] = some (.new (.lst ds)) := rfl
@[simp] theorem x_cList2 : cList [.tup ds] = some (.new (.lst ds)) := rfl
@[simp] theorem x_cTup1 : cTuple [.lst ds] = some (.val (.tup ds)) := rfl
@[simp] theorem x_cTup2 : cTuple [.tup ds] = some (.val (.tup ds)) := rfl
@[simp] theorem x_app (d : D) : gApp ds [d] = if ds.length < sizeLine then some (ds ++ [d], .non) else none := rfl
theorem x_pop : gPop ds [] = (ds[ds.length - 1]?).map fun d => (ds.dropLast, d) := rfl
@[simp] theorem x_pop1 (d : D) : gPop (ds ++ [d]) [] = some (ds, d) := by simp [x_pop]
@[simp] theorem x_pop2 (d d' : D) : gPop (ds ++ [d, d']) [] = some (ds ++ [d], d') := by
  have := x_pop1 (ds ++ [d]) d'
  simpa using this
@[simp] theorem x_clear : gClear ds [] = some ([], .non) := rfl
@[simp] theorem x_truB (b : Bool) : tru (.bl b) = some b := rfl
@[simp] theorem x_truI : tru (.int a) = some (a != 0) := rfl
@[simp] theorem x_truL : tru (.lst ds) = some (!ds.isEmpty) := rfl
@[simp] theorem x_truT : tru (.tup ds) = some (!ds.isEmpty) := rfl
@[simp] theorem x_truN : tru .non = some false := rfl
@[simp] theorem x_forL0 (tg : FG) (body : FS) (e : En) : forL tg body [] e = .nx e := rfl
end
@[simp] theorem sl_eq : sizeLine = 16777216 := by decide
/-! ### indices -/
theorem atI_nat {α : Type} (xs : List α) (k : Nat) : atI xs (k : Int) = xs[k]? := by
  unfold atI ixN
  rw [if_pos (by omega)]
  by_cases h : (k : Int) < xs.length
  · rw [if_pos h]; simp
  · rw [if_neg h]; simp; omega
@[simp] theorem atI_0 {α : Type} (xs : List α) : atI xs 0 = xs[0]? := atI_nat xs 0
@[simp] theorem atI_1 {α : Type} (xs : List α) : atI xs 1 = xs[1]? := atI_nat xs 1
@[simp] theorem atI_m1 {α : Type} (xs : List α) (a : α) : atI (xs ++ [a]) (-1) = some a := by
  unfold atI ixN
  rw [if_neg (by omega), if_pos (by simp; omega)]
  simp only [List.length_append, List.length_cons, List.length_nil]
  show (xs ++ [a])[_]? = _
  have : ((-1 : Int) + ((xs.length + (0 + 1) : Nat) : Int)).toNat = xs.length := by omega
  rw [this, List.getElem?_append_right (by omega)]
  simp
@[simp] theorem atI_m1b {α : Type} (xs : List α) (a b : α) : atI (xs ++ [a, b]) (-1) = some b := by
  have := atI_m1 (xs ++ [a]) b
  simpa using this
@[simp] theorem atI_m1s {α : Type} (a : α) : atI [a] (-1) = some a := atI_m1 [] a
@[simp] theorem atI_m1t {α : Type} (a b : α) : atI [a, b] (-1) = some b := atI_m1 [a] b
@[simp] theorem atI_m2 {α : Type} (xs : List α) (a b : α) : atI (xs ++ [a, b]) (-2) = some a := by
  unfold atI ixN
  rw [if_neg (by omega), if_pos (by simp; omega)]
  simp only [List.length_append, List.length_cons, List.length_nil]
  show (xs ++ [a, b])[_]? = _
  have : ((-2 : Int) + ((xs.length + (0 + 1 + 1) : Nat) : Int)).toNat = xs.length := by omega
  rw [this, List.getElem?_append_right (by omega)]
  simp
@[simp] theorem atI_m2t {α : Type} (a b : α) : atI [a, b] (-2) = some a := atI_m2 [] a b
theorem atI_cast {α : Type} (xs : List α) (k : Nat) : atI xs (k : Int) = xs[k]? := atI_nat xs k
theorem atI_s {α : Type} (xs : List α) (k : Nat) : atI xs ((k : Int) + 1) = xs[k + 1]? := atI_nat xs (k + 1)
theorem atI_ss {α : Type} (xs : List α) (k : Nat) : atI xs ((k : Int) + 1 + 1) = xs[k + 2]? := atI_nat xs (k + 2)
theorem gd {xs : List Int} {k : Nat} (h : k < xs.length) : xs[k]? = some (xs.getD k 0) := by simp [h]
@[simp] theorem eqD_bl (b b' : Bool) : eqD false (.bl b) (.bl b') = some (.val (.bl (b == b'))) := by
  have h : ∀ c : Bool, SeqAt.shaped (.bool c) = true := fun c => by cases c <;> decide
  simp [eqD, toP, h, PyData.eqv, vB]
/-! ### loops -/
theorem forL_inv {tg : FG} {body : FS} (I : List D → En → Prop) : ∀ (ds : List D) (e : En), I ds e →
    (∀ d r e, I (d :: r) e → ∃ e1, tg d e = .ok e1 ∧ ∃ e2, (body e1 = .nx e2 ∨ body e1 = .ct e2) ∧ I r e2) → ∃ e', forL tg body ds e = .nx e' ∧ I [] e'
  | [], e, h, _ => ⟨e, rfl, h⟩
  | d :: r, e, h, st => by
    obtain ⟨e1, h1, e2, h2, h3⟩ := st d r e h
    obtain ⟨e', h4, h5⟩ := forL_inv I r e2 h3 st
    refine ⟨e', ?_, h5⟩
    rcases h2 with h2 | h2 <;> simp only [forL, h1, Res.go, h2, h4]
theorem lcL_inv {tg : FG} {tt : FT} {fe : FE} {vs : List Nat} (I : List D → List D → En → Prop) : ∀ (ds acc : List D) (e : En), I ds acc e →
    (∀ d r acc e, I (d :: r) acc e → ∃ e1 b, tg d e = .ok e1 ∧ tt e1 = .ok b ∧ ((b.1 = false ∧ I r acc (clr b.2 vs)) ∨
      (b.1 = true ∧ ∃ x h, fe b.2 = .ok x ∧ hold x.1 x.2 = some h ∧ acc.length < sizeLine ∧ I r (acc ++ [h.1]) (clr h.2 vs)))) → ∃ r, lcL tg tt fe vs ds acc e = .ok r ∧ I [] r.1 r.2
  | [], acc, e, h, _ => ⟨(acc, e), rfl, h⟩
  | d :: r, acc, e, h, st => by
    obtain ⟨e1, b, h1, h2, h3⟩ := st d r acc e h
    rcases h3 with ⟨h3, h4⟩ | ⟨h3, x, q, h4, h5, h6, h7⟩
    · obtain ⟨z, h8, h9⟩ := lcL_inv I r _ _ h4 st
      exact ⟨z, by simp only [lcL, h1, Res.bin, h2, h3, h8, Bool.false_eq_true, if_false], h9⟩
    · obtain ⟨z, h8, h9⟩ := lcL_inv I r _ _ h7 st
      exact ⟨z, by simp only [lcL, h1, Res.bin, h2, h3, h4, h5, h6, h8, if_true], h9⟩
end PL

/-! ML: values that are compared and shown -/
namespace PL
open PySem L2
/-- depth at most k, weight at most n -/
inductive Rp : Nat → Nat → D → Prop
  | non (k n : Nat) : Rp k n .non
  | bl (k n : Nat) (b : Bool) : Rp k n (.bl b)
  | int (k : Nat) {n : Nat} {i : Int} : i.natAbs < 2 ^ 63 → 64 ≤ n → Rp k n (.int i)
  | str (k : Nat) {n : Nat} {s : Str} : PyData.canLay0 (.str s) = true → s.cps.size ≤ n → Rp k n (.str s)
  | lst {k m n : Nat} {ds : List D} : (∀ d ∈ ds, Rp k m d) → ds.length * (m + 1) ≤ n → Rp (k + 1) n (.lst ds)
  | tup {k m n : Nat} {ds : List D} : (∀ d ∈ ds, Rp k m d) → ds.length * (m + 1) ≤ n → Rp (k + 1) n (.tup ds)
structure RpP (k n : Nat) (p : PyData) : Prop where
  lay : p.canLay0 = true
  dep : p.depth ≤ k
  wt : p.weight ≤ n
  lv : p.leavesShort 21 = true
  sh : p.showable = true
  nd : p.hasDict = false
theorem rpP_all {k m : Nat} : ∀ ds : List D, (∀ d ∈ ds, ∃ p, toP d = some p ∧ RpP k m p) → ∃ ps, toPs ds = some ps ∧ PyData.canLayAll0 ps = true ∧ PyData.depthAll ps ≤ k ∧
    PyData.weightAll ps ≤ ds.length * (m + 1) ∧ PyData.leavesShortAll 21 ps = true ∧ PyData.showableAll ps = true ∧ PyData.hasDictAll ps = false
  | [], _ => ⟨[], by simp [toPs], by simp [PyData.canLayAll0], by simp [PyData.depthAll], by simp [PyData.weightAll], by simp [PyData.leavesShortAll], by simp [PyData.showableAll], by simp [PyData.hasDictAll]⟩
  | d :: ds, h => by
    obtain ⟨p, e, r⟩ := h d List.mem_cons_self
    obtain ⟨ps, e2, h1, h2, h3, h4, h5, h6⟩ := rpP_all ds fun x hx => h x (List.mem_cons_of_mem _ hx)
    refine ⟨p :: ps, by simp [toPs, e, e2], by simp [PyData.canLayAll0, r.lay, h1], ?_, ?_, by simp [PyData.leavesShortAll, r.lv, h4], by simp [PyData.showableAll, r.sh, h5], by simp [PyData.hasDictAll, r.nd, h6]⟩
    · simp only [PyData.depthAll]; have := r.dep; omega
    · have := r.wt
      have e : (ds.length + 1) * (m + 1) = ds.length * (m + 1) + (m + 1) := Nat.succ_mul _ _
      simp only [PyData.weightAll, List.length_cons, e]
      omega
theorem Rp.to {k n : Nat} {d : D} (h : Rp k n d) : ∃ p, toP d = some p ∧ RpP k n p := by
  induction h with
  | non k n => exact ⟨_, by simp [toP]; rfl, by simp [PyData.canLay0], by simp [PyData.depth], by simp [PyData.weight], by simp [PyData.leavesShort], by simp [PyData.showable], by simp [PyData.hasDict]⟩
  | bl k n b => exact ⟨_, by simp [toP]; rfl, by simp [PyData.canLay0], by simp [PyData.depth], by simp [PyData.weight], by simp [PyData.leavesShort], by simp [PyData.showable], by simp [PyData.hasDict]⟩
  | @int k n i h hn =>
    have hl : i.natAbs.log2 < 63 := by
      by_cases z : i.natAbs = 0
      · rw [z]; decide
      · exact (Nat.log2_lt z).mpr h
    refine ⟨_, by simp [toP]; rfl, by simp [PyData.canLay0], by simp [PyData.depth], ?_, ?_, ?_, by simp [PyData.hasDict]⟩
    · simp only [PyData.weight]; split <;> omega
    · have := int_text_length_le10 (a := i) (k := 19) (by decide) (by omega)
      have h2 : (PyData.shown (.int i)).length ≤ 21 := by
        show (Str.ofString (toString i)).length ≤ 21
        rw [ofString_length]; omega
      simp only [PyData.leavesShort, decide_eq_true_eq]; exact h2
    · simp only [PyData.showable, decide_eq_true_eq]; omega
  | @str k n s h hn =>
    refine ⟨PyData.str s, by simp [toP], h, by simp [PyData.depth], by simpa [PyData.weight] using hn, ?_, by simp [PyData.showable], by simp [PyData.hasDict]⟩
    exact PyData.leavesShort_of_canLay0 21 (.str s) h (by simp [PyData.intsShort])
  | @lst k m n ds h hn ih =>
    obtain ⟨ps, e2, h1, h2, h3, h4, h5, h6⟩ := rpP_all ds ih
    exact ⟨.list ps, by simp [toP, e2], by simpa [PyData.canLay0] using h1, by simp only [PyData.depth]; omega, by simp only [PyData.weight]; omega, by simpa [PyData.leavesShort] using h4, by simpa [PyData.showable] using h5, by simpa [PyData.hasDict] using h6⟩
  | @tup k m n ds h hn ih =>
    obtain ⟨ps, e2, h1, h2, h3, h4, h5, h6⟩ := rpP_all ds ih
    exact ⟨.tuple ps, by simp [toP, e2], by simpa [PyData.canLay0] using h1, by simp only [PyData.depth]; omega, by simp only [PyData.weight]; omega, by simpa [PyData.leavesShort] using h4, by simpa [PyData.showable] using h5, by simpa [PyData.hasDict] using h6⟩
/-- what repr prints -/
def shw (d : D) : Str := match toP d with
  | some p => p.shown
  | none => ⟨#[]⟩
theorem Rp.repr {k n : Nat} {d : D} (h : Rp k n d) (hk : k ≤ 32) (hn : n ≤ 700000) : cRepr [d] = some (.val (.str (shw d))) := by
  obtain ⟨p, e, r⟩ := h.to
  have h1 := PyData.shown_le 21 (by decide) p r.lv
  have h2 := r.wt
  have h3 := r.dep
  have h4 : p.shown.length ≤ sizeLine := by rw [sizeLine_eq]; omega
  have h5 : p.depth ≤ 32 := by omega
  rw [sl_eq] at h4
  simp [cRepr, shw, e, r.sh, r.nd, h5, h4]
theorem Rp.eqs {k n : Nat} {d : D} (h : Rp k n d) (hk : k ≤ 64) : eqD false d d = some (.val (.bl true)) := by
  obtain ⟨p, e, r⟩ := h.to
  have h1 : SeqAt.shaped p = true := by
    have := r.dep
    simp only [SeqAt.shaped, r.lay, Bool.true_and, decide_eq_true_eq]; omega
  simp [eqD, e, h1, SeqAt.eqv_refl p r.lay]
theorem Rp.nes {k n : Nat} {d : D} (h : Rp k n d) (hk : k ≤ 64) : eqD true d d = some (.val (.bl false)) := by
  obtain ⟨p, e, r⟩ := h.to
  have h1 : SeqAt.shaped p = true := by
    have := r.dep
    simp only [SeqAt.shaped, r.lay, Bool.true_and, decide_eq_true_eq]; omega
  simp [eqD, e, h1, SeqAt.eqv_refl p r.lay]
theorem rp_nil (k n : Nat) : Rp (k + 1) n (.lst []) := .lst (m := 0) (fun _ h => absurd h (by simp)) (by simp)
@[simp] theorem eqD_nil0 : eqD false (.lst []) (.lst []) = some (.val (.bl true)) := (rp_nil 0 0).eqs (by decide)
@[simp] theorem neD_nil0 : eqD true (.lst []) (.lst []) = some (.val (.bl false)) := (rp_nil 0 0).nes (by decide)
theorem Rp.nil {k n : Nat} {ds : List D} (h : Rp k n (.lst ds)) (hk : k ≤ 64) (hd : ds ≠ []) (neg : Bool) : eqD neg (.lst ds) (.lst []) = some (.val (.bl neg)) := by
  cases ds with
  | nil => exact absurd rfl hd
  | cons d ds =>
    obtain ⟨p, e, r⟩ := h.to
    have h1 : SeqAt.shaped p = true := by
      have := r.dep
      simp only [SeqAt.shaped, r.lay, Bool.true_and, decide_eq_true_eq]; omega
    have h2 : SeqAt.shaped (.list []) = true := by decide
    have e2 : toP (.lst []) = some (.list []) := by simp [toP, toPs]
    simp only [toP, toPs] at e
    split at e
    · cases e
      unfold eqD
      simp only [toP, toPs, *, Option.map_some, h1, h2, and_self, if_true]
      cases neg <;> simp [PyData.eqv, PyData.eqvAll]
    · cases e
/-! ints -/
theorem rp_ints (k : Nat) {n : Nat} {xs : List Int} (h : ∀ x ∈ xs, x.natAbs < 2 ^ 63) (hl : xs.length * 65 ≤ n) : Rp (k + 1) n (.lst (xs.map D.int)) :=
  .lst (m := 64) (fun d hd => by
    obtain ⟨x, hx, rfl⟩ := List.mem_map.mp hd
    exact .int k (h x hx) (Nat.le_refl _)) (by simpa using hl)
theorem rp_intsT (k : Nat) {n : Nat} {xs : List Int} (h : ∀ x ∈ xs, x.natAbs < 2 ^ 63) (hl : xs.length * 65 ≤ n) : Rp (k + 1) n (.tup (xs.map D.int)) :=
  .tup (m := 64) (fun d hd => by
    obtain ⟨x, hx, rfl⟩ := List.mem_map.mp hd
    exact .int k (h x hx) (Nat.le_refl _)) (by simpa using hl)
/-- a pair of ints -/
def pr (p : Int × Int) : D := .tup [.int p.1, .int p.2]
theorem rp_pr (k : Nat) {n : Nat} {p : Int × Int} (h : p.1.natAbs < 2 ^ 63 ∧ p.2.natAbs < 2 ^ 63) (hn : 130 ≤ n) : Rp (k + 1) n (pr p) :=
  .tup (m := 64) (fun d hd => by
    simp only [List.mem_cons, List.not_mem_nil, or_false] at hd
    rcases hd with rfl | rfl
    · exact .int k h.1 (Nat.le_refl _)
    · exact .int k h.2 (Nat.le_refl _)) (by simpa using hn)
theorem rp_prs (k : Nat) {n : Nat} {ps : List (Int × Int)} (h : ∀ p ∈ ps, p.1.natAbs < 2 ^ 63 ∧ p.2.natAbs < 2 ^ 63) (hl : ps.length * 131 ≤ n) : Rp (k + 2) n (.lst (ps.map pr)) :=
  .lst (m := 130) (fun d hd => by
    obtain ⟨x, hx, rfl⟩ := List.mem_map.mp hd
    exact rp_pr k (h x hx) (Nat.le_refl _)) (by simpa using hl)
theorem rp_prsT (k : Nat) {n : Nat} {ps : List (Int × Int)} (h : ∀ p ∈ ps, p.1.natAbs < 2 ^ 63 ∧ p.2.natAbs < 2 ^ 63) (hl : ps.length * 131 ≤ n) : Rp (k + 2) n (.tup (ps.map pr)) :=
  .tup (m := 130) (fun d hd => by
    obtain ⟨x, hx, rfl⟩ := List.mem_map.mp hd
    exact rp_pr k (h x hx) (Nat.le_refl _)) (by simpa using hl)
end PL

/-! ML: comprehensions -/
namespace PL
open PySem L2
theorem lcL_pure {i : Nat} {tt : FT} {fe : FE} (E : En) (hE : E[i]? = some none) (c : D → Bool) (h : D → D) : ∀ (ds acc : List D),
    (∀ d ∈ ds, tt (E.set i (some (.fz d))) = .ok (c d, E.set i (some (.fz d))) ∧ (c d = true → fe (E.set i (some (.fz d))) = .ok (.val (h d), E.set i (some (.fz d))))) →
    acc.length + ds.length ≤ 16777216 → lcL (bindD i) tt fe [i] ds acc E = .ok (acc ++ (ds.filter c).map h, E)
  | [], acc, _, _ => by simp [lcL]
  | d :: ds, acc, H, hl => by
    obtain ⟨h1, h2⟩ := H d List.mem_cons_self
    have hb : bindD i d E = .ok (E.set i (some (.fz d))) := by simp [hE]
    have hc : clr (E.set i (some (.fz d))) [i] = E := by
      have hi : i < E.length := (List.getElem?_eq_some_iff.mp hE).1
      have he : E[i] = none := (List.getElem?_eq_some_iff.mp hE).2
      show (E.set i (some (.fz d))).set i none = E
      rw [List.set_set, ← he, List.set_getElem_self]
    simp only [List.length_cons] at hl
    have H' : ∀ d ∈ ds, _ := fun x hx => H x (List.mem_cons_of_mem _ hx)
    by_cases q : c d = true
    · rw [q] at h1
      have hs : acc.length < sizeLine := by rw [sl_eq]; omega
      rw [lcL, hb]
      simp only [Res.bin, h1, h2 q, if_true, hold, hs, hc]
      rw [lcL_pure E hE c h ds (acc ++ [h d]) H' (by simp; omega)]
      simp [q]
    · rw [lcL, hb]
      simp only [Res.bin, h1, q, if_false, Bool.false_eq_true, hc]
      rw [lcL_pure E hE c h ds acc H' (by omega)]
      simp [q]
/-- a comprehension that draws: the items have a law -/
theorem lcL_draw {i : Nat} {fe : FE} (I : En → Prop) (P : D → Prop) : ∀ (ds acc : List D) (E : En), I E → (∀ E, I E → E[i]? = some none ∧ ∀ d ∈ ds, ∃ x E', fe (E.set i (some (.fz d))) = .ok (.val x, E'.set i (some (.fz d))) ∧ P x ∧ I E') →
    acc.length + ds.length ≤ 16777216 → ∃ ys E', lcL (bindD i) tyes fe [i] ds acc E = .ok (acc ++ ys, E') ∧ ys.length = ds.length ∧ (∀ y ∈ ys, P y) ∧ I E'
  | [], acc, E, hE, _, _ => ⟨[], E, by simp [lcL], rfl, by simp, hE⟩
  | d :: ds, acc, E, hE, H, hl => by
    obtain ⟨h0, h1⟩ := H E hE
    obtain ⟨x, E', h2, h3, h4⟩ := h1 d List.mem_cons_self
    have h0' := (H E' h4).1
    have hb : bindD i d E = .ok (E.set i (some (.fz d))) := by simp [h0]
    have hc : clr (E'.set i (some (.fz d))) [i] = E' := by
      have he : E'[i]'(List.getElem?_eq_some_iff.mp h0').1 = none := (List.getElem?_eq_some_iff.mp h0').2
      show (E'.set i (some (.fz d))).set i none = E'
      rw [List.set_set, ← he, List.set_getElem_self]
    simp only [List.length_cons] at hl
    have hs : acc.length < sizeLine := by rw [sl_eq]; omega
    obtain ⟨ys, E2, h5, h6, h7, h8⟩ := lcL_draw I P ds (acc ++ [x]) E' h4 (fun E hE => ⟨(H E hE).1, fun d hd => (H E hE).2 d (List.mem_cons_of_mem _ hd)⟩) (by simp; omega)
    refine ⟨x :: ys, E2, ?_, by simp [h6], ?_, h8⟩
    · rw [lcL, hb]
      simp only [Res.bin, x_tyes, h2, if_true, hold, hs, hc, h5, List.append_assoc, List.singleton_append]
    · intro y hy
      rcases List.mem_cons.mp hy with rfl | hy
      · exact h3
      · exact h7 y hy
@[simp] theorem x_vlc (env : En) (it : FI) (tg : FG) (tt : FT) (fe : FE) (vs : List Nat) : vlc it tg tt fe vs env = (it env).bind fun p => if plainS p.2 vs = true then (lcL tg tt fe vs p.1 [] (clr p.2 vs)).bin fun r => .ok (.new (.lst r.1), rst p.2 r.2 vs) else .no := rfl
@[simp] theorem x_clr (env : En) (i : Nat) : clr env [i] = env.set i none := rfl
@[simp] theorem x_rst (e0 e : En) (i : Nat) : rst e0 e [i] = e.set i (match e0[i]? with
    | some x => x
    | none => none) := rfl
@[simp] theorem x_plainS (env : En) (i : Nat) : plainS env [i] = okC env[i]? := by
  simp only [plainS, List.all_cons, List.all_nil, Bool.and_true]
  cases env[i]? with
  | none => rfl
  | some x => cases x with
    | none => rfl
    | some y => cases y <;> rfl
theorem sseq_nx {f g : FS} {env e : En} (h : f env = .nx e) : sseq f g env = g e := by simp only [sseq, h]
theorem runF_rt {n : Nat} {g : FS} {args : List Sl} {r : Sl} {e E : En} {ms : List (Option O)} (hE : PL.callEnv args n = E) (h : g E = .rt r e) (hm : muts args e = ms) : runF n g args = .ok r ms := by
  subst hE; subst hm; simp only [runF, h]
/-- a list over the first numbers -/
theorem dints_0 (n : Nat) : dints 0 n = (List.range n).map fun (k : Nat) => D.int (k : Int) := by simp [dints]
end PL

/-! TL: mirrors and typed functions. -/
namespace PL
open PySem PySem.Spec PyProof.Rows L2
/-- a value is handed back, frozen -/
def sretF (f : FE) : FS := fun env => (f env).go fun p => match hold p.1 p.2 with
  | some q => .rt (.fz q.1) q.2
  | none => .no
theorem sx_retF {X : Cx} {W : WP} {pos : Pos} {e : Expr} {f : FE} (h : EX X W e f) : SX X W (.Return (some e) pos) (sretF f) := by
  obtain ⟨t, p, r⟩ := h
  refine ⟨_, ps_ret p, fun A F H σ env D S q => r A F H σ env _ S (q.afE fun p F1 H1 v1 s1 S1 r1 q1 => ?_)⟩
  split at q1
  · rename_i d ed
    obtain ⟨F2, s2, S2, r2⟩ := S1.hold r1 (d := d.1) (env' := d.2) ed
    exact q1 F2 H1 σ v1 s2 S2 r2
  · exact q1.elim
inductive R (α : Type) where
  | ok (a : α)
  | no
def R.bind {α β : Type} (r : R α) (f : α → R β) : R β := match r with
  | .ok a => f a
  | .no => .no
@[simp] theorem R.bind_ok {α β : Type} (a : α) (f : α → R β) : (R.ok a).bind f = f a := rfl
@[simp] theorem R.bind_no {α β : Type} (f : α → R β) : (R.no : R α).bind f = .no := rfl
theorem R.bind_bind {α β γ : Type} (r : R α) (f : α → R β) (g : β → R γ) : (r.bind f).bind g = r.bind fun a => (f a).bind g := by cases r <;> rfl
open Classical in
/-- under a condition -/
noncomputable def chk {α : Type} (p : Prop) (r : R α) : R α := if p then r else .no
theorem chk_of {α : Type} {p : Prop} (h : p) (r : R α) : chk p r = r := if_pos h
theorem chk_ok {α : Type} {p : Prop} {r : R α} {a : α} (h : chk p r = .ok a) : p ∧ r = .ok a := by
  unfold chk at h; split at h
  · exact ⟨by assumption, h⟩
  · cases h

/-! ### encodings -/
section
variable {α β γ δ : Type}
abbrev eN : Unit → D := fun _ => .non
abbrev eL (e : α → D) : List α → D := fun l => .lst (l.map e)
abbrev eT (e : α → D) : List α → D := fun l => .tup (l.map e)
abbrev e1 (a : α → D) : α → D := fun p => .tup [a p]
abbrev e2 (a : α → D) (b : β → D) : α × β → D := fun p => .tup [a p.1, b p.2]
abbrev e3 (a : α → D) (b : β → D) (c : γ → D) : α × β × γ → D := fun p => .tup [a p.1, b p.2.1, c p.2.2]
abbrev e4 (a : α → D) (b : β → D) (c : γ → D) (d : δ → D) : α × β × γ × δ → D := fun p => .tup [a p.1, b p.2.1, c p.2.2.1, d p.2.2.2]
abbrev eO (e : α → D) : Option α → D := fun o => match o with
  | none => .non
  | some a => e a
abbrev eD : D → D := fun d => d
abbrev oL (e : α → D) : List α → O := fun l => .lst (l.map e)
end

/-! ### judgements -/
section
variable {α : Type}
def HV (x : Arg) (d : D) : Prop := x = .val d ∨ ∃ o : O, x = .new o ∧ o.toD = d
theorem HV.hold {x : Arg} {d : D} (h : HV x d) (env : En) : hold x env = some (d, env) := by
  rcases h with rfl | ⟨o, rfl, rfl⟩ <;> rfl
theorem HV.settle {x : Arg} {d : D} (h : HV x d) : settle x = .val d := by
  rcases h with rfl | ⟨o, rfl, rfl⟩ <;> rfl
theorem HV.cont {x : Arg} {d : D} (h : HV x d) (env : En) : cont x env = some d := by
  rcases h with rfl | ⟨o, rfl, rfl⟩ <;> rfl
theorem cont_settle (x : Arg) (env : En) : cont (settle x) env = cont x env := by cases x <;> rfl
def EC (fe : FE) (env : En) (o : R α) (c : α → D) : Prop := match o with
  | .ok a => ∃ x, fe env = .ok (x, env) ∧ cont x env = some (c a)
  | .no => True
def EH (fe : FE) (env : En) (o : R α) (c : α → D) : Prop := match o with
  | .ok a => ∃ x, fe env = .ok (x, env) ∧ HV x (c a)
  | .no => True
def EN (fe : FE) (env : En) (o : R α) (c : α → O) : Prop := match o with
  | .ok a => fe env = .ok (.new (c a), env)
  | .no => True
def TP (ft : FT) (env : En) (o : R Bool) : Prop := match o with
  | .ok b => ft env = .ok (b, env)
  | .no => True
theorem EH.c {fe : FE} {env : En} {o : R α} {c : α → D} (h : EH fe env o c) : EC fe env o c := by
  cases o with
  | ok a => obtain ⟨x, h1, h2⟩ := h; exact ⟨x, h1, h2.cont _⟩
  | no => exact h
theorem EN.h {fe : FE} {env : En} {o : R α} {c : α → O} (h : EN fe env o c) : EH fe env o (fun a => (c a).toD) := by
  cases o with
  | ok a => exact ⟨_, h, .inr ⟨_, rfl, rfl⟩⟩
  | no => exact h
end
section
variable {α β γ δ : Type} {fa fb fc : FE} {env : En} {oa : R α} {ob : R β} {oc : R γ} {ca : α → D} {cb : β → D} {cc : γ → D} {g g' : D → D → Option Arg}
/-! ### names, constants -/
theorem h_kst {d : D} {a : α} (h : ca a = d := by rfl) : EH (kst d) env (.ok a) ca := ⟨_, rfl, .inl (by rw [h])⟩
theorem h_v {i : Nat} {x : α} (h : env[i]? = some (some (.fz (ca x))) := by rfl) : EH (rdv i) env (.ok x) ca :=
  ⟨.val (ca x), by simp only [rdv, h], .inl rfl⟩
theorem c_o {i : Nat} {x : α} {o : O} (h : env[i]? = some (some (.ow o)) := by rfl) (h2 : o.toD = ca x := by rfl) : EC (rdv i) env (.ok x) ca :=
  ⟨.slot i, by simp only [rdv, h], by simp only [cont, h, Sl.toD, h2]⟩
theorem c_m {i : Nat} {x : α} {o : O} (h : env[i]? = some (some (.mu o)) := by rfl) (h2 : o.toD = ca x := by rfl) : EC (rdv i) env (.ok x) ca :=
  ⟨.slot i, by simp only [rdv, h], by simp only [cont, h, Sl.toD, h2]⟩
/-- whatever is computed -/
theorem h_lit {d : D} {a : α} (h : ∀ e : En, fa e = .ok (.val d, e)) (h2 : ca a = d := by rfl) : EH fa env (.ok a) ca := ⟨_, h env, .inl (by rw [h2])⟩
theorem EH.enc {c' : α → D} (h : EH fa env oa ca) (e : ∀ a, ca a = c' a := by intro _; rfl) : EH fa env oa c' := by
  have : ca = c' := funext e
  rw [← this]; exact h
theorem EC.enc {c' : α → D} (h : EC fa env oa ca) (e : ∀ a, ca a = c' a := by intro _; rfl) : EC fa env oa c' := by
  have : ca = c' := funext e
  rw [← this]; exact h
/-- seen as another type -/
theorem EH.as {c' : β → D} (h : EH fa env oa ca) (f : α → β) (e : ∀ a, c' (f a) = ca a := by intro _; rfl) : EH fa env (oa.bind fun a => .ok (f a)) c' := by
  cases oa with
  | ok a => obtain ⟨x, h1, h2⟩ := h; exact ⟨x, h1, by rw [e]; exact h2⟩
  | no => trivial
theorem EC.as {c' : β → D} (h : EC fa env oa ca) (f : α → β) (e : ∀ a, c' (f a) = ca a := by intro _; rfl) : EC fa env (oa.bind fun a => .ok (f a)) c' := by
  cases oa with
  | ok a => obtain ⟨x, h1, h2⟩ := h; exact ⟨x, h1, by rw [e]; exact h2⟩
  | no => trivial
/-- out of an option -/
def unO (o : Option α) : R α := match o with
  | some a => .ok a
  | none => .no
theorem EH.un {ob : R (Option α)} (h : EH fa env ob (eO ca)) : EH fa env (ob.bind unO) ca := by
  cases ob with
  | ok a =>
    cases a with
    | none => trivial
    | some a => exact h
  | no => trivial
theorem EC.un {ob : R (Option α)} (h : EC fa env ob (eO ca)) : EC fa env (ob.bind unO) ca := by
  cases ob with
  | ok a =>
    cases a with
    | none => trivial
    | some a => exact h
  | no => trivial

/-! ### two-place operations -/
theorem bop_ok' {a : α} {b : β} {z : Arg} (ha : EC fa env (.ok a) ca) (hb : EC fb env (.ok b) cb) (h : g (ca a) (cb b) = some z) : bop g fa fb env = .ok (z, env) := by
  obtain ⟨x, h1, h2⟩ := ha
  obtain ⟨y, h3, h4⟩ := hb
  simp only [bop, h1, h3, Res.bind_ok, cont_settle, h2, h4, h]
theorem h_bop {cz : γ → D} (ha : EC fa env oa ca) (hb : EC fb env ob cb) (r : α → β → R γ) (h : ∀ a b, match r a b with | .ok z => g (ca a) (cb b) = some (.val (cz z)) | .no => True) :
    EH (bop g fa fb) env (oa.bind fun a => ob.bind fun b => r a b) cz := by
  cases oa with
  | ok a =>
    cases ob with
    | ok b =>
      show EH _ _ (r a b) _
      have := h a b
      cases c : r a b with
      | ok z => rw [c] at this; exact ⟨_, bop_ok' ha hb this, .inl rfl⟩
      | no => trivial
    | no => trivial
  | no => trivial
theorem n_bop {cz : γ → O} (ha : EC fa env oa ca) (hb : EC fb env ob cb) (r : α → β → R γ) (h : ∀ a b, match r a b with | .ok z => g (ca a) (cb b) = some (.new (cz z)) | .no => True) :
    EN (bop g fa fb) env (oa.bind fun a => ob.bind fun b => r a b) cz := by
  cases oa with
  | ok a =>
    cases ob with
    | ok b =>
      show EN _ _ (r a b) _
      have := h a b
      cases c : r a b with
      | ok z => rw [c] at this; exact bop_ok' ha hb this
      | no => trivial
    | no => trivial
  | no => trivial
end
/-! operations, checked -/
section
variable {α β γ : Type}
theorem chk_m {α : Type} {p : Prop} {a : α} {P : α → Prop} (h : p → P a) : match chk p (.ok a) with | .ok z => P z | .no => True := by
  cases c : chk p (R.ok a) with
  | ok z => obtain ⟨h1, h2⟩ := chk_ok c; cases h2; exact h h1
  | no => trivial
noncomputable def mulR (a b : Int) : R Int := chk (Mk a ∨ Mk b) (.ok (a * b))
noncomputable def divR (a b : Int) : R Int := chk (Dk b) (.ok (a / b))
noncomputable def modR (a b : Int) : R Int := chk (0 < b) (.ok (a % b))
noncomputable def powR (a b : Int) : R Int := chk (0 ≤ b ∧ b ≤ 1000000 ∧ a.natAbs < 2 ^ 64) (.ok (a ^ b.toNat))
noncomputable def catR (a b : List α) : R (List α) := chk (a.length + b.length ≤ 16777216) (.ok (a ++ b))
noncomputable def catS (a b : Str) : R Str := chk (a.length + b.length ≤ 16777216) (.ok (a ++ b))
noncomputable def repR (a : List α) (b : Int) : R (List α) := chk (-(2 ^ 63) ≤ b ∧ b < 2 ^ 63 ∧ a.length * b.toNat ≤ 16777216) (.ok (List.replicate b.toNat a).flatten)
noncomputable def repT (a : List α) (b : Int) : R (List α) := chk (a ≠ [] ∧ 2 ≤ b ∧ b ≤ 1000 ∧ a.length ≤ 1000) (.ok (List.replicate b.toNat a).flatten)
end
theorem map_rep {α β : Type} (e : α → β) (l : List α) (n : Nat) : (List.replicate n (l.map e)).flatten = ((List.replicate n l).flatten).map e := by
  rw [List.map_flatten, List.map_replicate]
section
variable {α β γ : Type} {fa fb fc : FE} {env : En} {e : α → D}
theorem h_add {oa ob : R Int} (ha : EC fa env oa .int) (hb : EC fb env ob .int) : EH (bop gAdd fa fb) env (oa.bind fun a => ob.bind fun b => .ok (a + b)) .int := h_bop ha hb _ fun a b => rfl
theorem h_sub {oa ob : R Int} (ha : EC fa env oa .int) (hb : EC fb env ob .int) : EH (bop gSub fa fb) env (oa.bind fun a => ob.bind fun b => .ok (a - b)) .int := h_bop ha hb _ fun a b => rfl
theorem h_mul {oa ob : R Int} (ha : EC fa env oa .int) (hb : EC fb env ob .int) : EH (bop gMul fa fb) env (oa.bind fun a => ob.bind fun b => mulR a b) .int := h_bop ha hb _ fun a b => chk_m fun h => by
  have h' : (-(2 ^ 64) < a ∧ a < 2 ^ 64) ∨ (-(2 ^ 64) < b ∧ b < 2 ^ 64) := h
  have : gMulI (.int a) (.int b) = some (.val (.int (a * b))) := if_pos h'
  simp only [gMul, gor, this]; rfl
theorem h_div {oa ob : R Int} (ha : EC fa env oa .int) (hb : EC fb env ob .int) : EH (bop gDiv fa fb) env (oa.bind fun a => ob.bind fun b => divR a b) .int := h_bop ha hb _ fun a b => chk_m fun h => if_pos h
theorem h_mod {oa ob : R Int} (ha : EC fa env oa .int) (hb : EC fb env ob .int) : EH (bop gMod fa fb) env (oa.bind fun a => ob.bind fun b => modR a b) .int := h_bop ha hb _ fun a b => chk_m fun h => if_pos h
theorem h_pow {oa ob : R Int} (ha : EC fa env oa .int) (hb : EC fb env ob .int) : EH (bop gPow fa fb) env (oa.bind fun a => ob.bind fun b => powR a b) .int := h_bop ha hb _ fun a b => chk_m fun h => if_pos h
theorem n_cat {oa ob : R (List α)} (ha : EC fa env oa (eL e)) (hb : EC fb env ob (eL e)) : EN (bop gAdd fa fb) env (oa.bind fun a => ob.bind fun b => catR a b) (oL e) := n_bop ha hb _ fun a b => chk_m fun h => by
  have : gAddL (.lst (a.map e)) (.lst (b.map e)) = some (.new (.lst (a.map e ++ b.map e))) := if_pos (by rw [List.length_map, List.length_map, sl_eq]; exact h)
  show gAdd (.lst (a.map e)) (.lst (b.map e)) = _
  have e2 : gAdd (.lst (a.map e)) (.lst (b.map e)) = some (.new (.lst (a.map e ++ b.map e))) := by simp only [gAdd, gor, this, gAddI]; rfl
  rw [e2, ← List.map_append]
theorem h_catT {oa ob : R (List α)} (ha : EC fa env oa (eT e)) (hb : EC fb env ob (eT e)) : EH (bop gAdd fa fb) env (oa.bind fun a => ob.bind fun b => catR a b) (eT e) := h_bop ha hb _ fun a b => chk_m fun h => by
  have : gAddT (.tup (a.map e)) (.tup (b.map e)) = some (.val (.tup (a.map e ++ b.map e))) := if_pos (by rw [List.length_map, List.length_map, sl_eq]; exact h)
  show gAdd (.tup (a.map e)) (.tup (b.map e)) = _
  have e2 : gAdd (.tup (a.map e)) (.tup (b.map e)) = some (.val (.tup (a.map e ++ b.map e))) := by simp only [gAdd, gor, this, gAddI, gAddL]; rfl
  rw [e2, ← List.map_append]
theorem h_catS {oa ob : R Str} (ha : EC fa env oa .str) (hb : EC fb env ob .str) : EH (bop gAdd fa fb) env (oa.bind fun a => ob.bind fun b => catS a b) .str := h_bop ha hb _ fun a b => chk_m fun h => by
  have : gAddS (.str a) (.str b) = some (.val (.str (a ++ b))) := if_pos (by rw [sl_eq]; exact h)
  show gAdd (.str a) (.str b) = _
  simp only [gAdd, gor, this, gAddI, gAddL, gAddT]; rfl
theorem n_rep {oa : R (List α)} {ob : R Int} (ha : EC fa env oa (eL e)) (hb : EC fb env ob .int) : EN (bop gMul fa fb) env (oa.bind fun a => ob.bind fun b => repR a b) (oL e) := n_bop ha hb _ fun a b => chk_m fun h => by
  have : gMulL (.lst (a.map e)) (.int b) = some (.new (.lst (List.replicate b.toNat (a.map e)).flatten)) := if_pos (by rw [List.length_map, sl_eq]; exact h)
  show gMul (.lst (a.map e)) (.int b) = _
  simp only [gMul, gor, this, gMulI, map_rep]; rfl
theorem h_repT {oa : R (List α)} {ob : R Int} (ha : EC fa env oa (eT e)) (hb : EC fb env ob .int) : EH (bop gMul fa fb) env (oa.bind fun a => ob.bind fun b => repT a b) (eT e) := h_bop ha hb _ fun a b => chk_m fun h => by
  have : gMulT (.tup (a.map e)) (.int b) = some (.val (.tup (List.replicate b.toNat (a.map e)).flatten)) := if_pos (by rw [List.length_map]; exact ⟨by simpa using h.1, h.2⟩)
  show gMul (.tup (a.map e)) (.int b) = _
  simp only [gMul, gor, this, gMulI, gMulL, map_rep]; rfl
/-! comparisons -/
theorem h_lt {oa ob : R Int} (ha : EC fa env oa .int) (hb : EC fb env ob .int) : EH (bop gLt fa fb) env (oa.bind fun a => ob.bind fun b => .ok (decide (a < b))) .bl := h_bop ha hb _ fun a b => rfl
theorem h_le {oa ob : R Int} (ha : EC fa env oa .int) (hb : EC fb env ob .int) : EH (bop gLe fa fb) env (oa.bind fun a => ob.bind fun b => .ok (decide (a ≤ b))) .bl := h_bop ha hb _ fun a b => rfl
theorem h_gt {oa ob : R Int} (ha : EC fa env oa .int) (hb : EC fb env ob .int) : EH (bop gGt fa fb) env (oa.bind fun a => ob.bind fun b => .ok (decide (b < a))) .bl := h_bop ha hb _ fun a b => rfl
theorem h_ge {oa ob : R Int} (ha : EC fa env oa .int) (hb : EC fb env ob .int) : EH (bop gGe fa fb) env (oa.bind fun a => ob.bind fun b => .ok (decide (b ≤ a))) .bl := h_bop ha hb _ fun a b => rfl
theorem h_eqI {oa ob : R Int} (ha : EC fa env oa .int) (hb : EC fb env ob .int) : EH (bop gEq fa fb) env (oa.bind fun a => ob.bind fun b => .ok (decide (a = b))) .bl := h_bop ha hb _ fun a b => rfl
theorem h_neI {oa ob : R Int} (ha : EC fa env oa .int) (hb : EC fb env ob .int) : EH (bop gNe fa fb) env (oa.bind fun a => ob.bind fun b => .ok (!decide (a = b))) .bl := h_bop ha hb _ fun a b => rfl
theorem h_eqS {oa ob : R Str} (ha : EC fa env oa .str) (hb : EC fb env ob .str) : EH (bop gEq fa fb) env (oa.bind fun a => ob.bind fun b => .ok (decide (a = b))) .bl := h_bop ha hb _ fun a b => rfl
theorem h_neS {oa ob : R Str} (ha : EC fa env oa .str) (hb : EC fb env ob .str) : EH (bop gNe fa fb) env (oa.bind fun a => ob.bind fun b => .ok (!decide (a = b))) .bl := h_bop ha hb _ fun a b => rfl
/-- data compared as a whole -/
noncomputable def eqR (a b : D) : R Bool := match eqD false a b with
  | some (.val (.bl z)) => .ok z
  | _ => .no
noncomputable def neR (a b : D) : R Bool := match eqD true a b with
  | some (.val (.bl z)) => .ok z
  | _ => .no
/-- neither two ints nor two texts -/
def big (a b : D) : Bool := match a, b with
  | .int _, .int _ => false
  | .str _, .str _ => false
  | _, _ => true
theorem gEq_big {a b : D} (h : big a b = true) : gEq a b = eqD false a b := by
  unfold gEq; split
  · cases h
  · cases h
  · rfl
theorem gNe_big {a b : D} (h : big a b = true) : gNe a b = eqD true a b := by
  unfold gNe; split
  · cases h
  · cases h
  · rfl
theorem h_eq {oa : R α} {ob : R β} {ca : α → D} {cb : β → D} (ha : EC fa env oa ca) (hb : EC fb env ob cb) (h : ∀ a b, big (ca a) (cb b) = true) : EH (bop gEq fa fb) env (oa.bind fun a => ob.bind fun b => eqR (ca a) (cb b)) .bl := h_bop ha hb _ fun a b => by
  cases c : eqR (ca a) (cb b) with
  | ok z =>
    show gEq _ _ = _
    rw [gEq_big (h a b)]
    unfold eqR at c; split at c
    · rename_i z e; cases c; exact e
    · cases c
  | no => trivial
theorem h_ne {oa : R α} {ob : R β} {ca : α → D} {cb : β → D} (ha : EC fa env oa ca) (hb : EC fb env ob cb) (h : ∀ a b, big (ca a) (cb b) = true) : EH (bop gNe fa fb) env (oa.bind fun a => ob.bind fun b => neR (ca a) (cb b)) .bl := h_bop ha hb _ fun a b => by
  cases c : neR (ca a) (cb b) with
  | ok z =>
    show gNe _ _ = _
    rw [gNe_big (h a b)]
    unfold neR at c; split at c
    · rename_i z e; cases c; exact e
    · cases c
  | no => trivial
theorem h_is {oa : R α} {ca : α → D} {ob : R Unit} (ha : EC fa env oa ca) (hb : EC fb env ob eN) : EH (bop gIs fa fb) env (oa.bind fun a => ob.bind fun _ => .ok (PL.isNon (ca a))) .bl := h_bop ha hb _ fun a b => by cases h : ca a <;> simp [gIs, h, vB]
theorem h_isnt {oa : R α} {ca : α → D} {ob : R Unit} (ha : EC fa env oa ca) (hb : EC fb env ob eN) : EH (bop gNot fa fb) env (oa.bind fun a => ob.bind fun _ => .ok (!PL.isNon (ca a))) .bl := h_bop ha hb _ fun a b => by cases h : ca a <;> simp [gNot, h, vB]
/-! subscripts -/
noncomputable def ixR (xs : List α) (i : Int) : R α := match atI xs i with
  | some a => .ok a
  | none => .no
theorem atI_map {α β : Type} (f : α → β) (xs : List α) (i : Int) : atI (xs.map f) i = (atI xs i).map f := by
  unfold atI
  rw [List.length_map]
  cases ixN xs.length i with
  | none => rfl
  | some j => simp
theorem ix_m {xs : List α} {i : Int} {e : α → D} {d : D} (h : gIx d (.int i) = (atI (xs.map e) i).map .val) : match ixR xs i with | .ok z => gIx d (.int i) = some (.val (e z)) | .no => True := by
  rw [h]
  unfold ixR
  rw [atI_map]
  cases atI xs i with
  | none => trivial
  | some a => rfl
theorem h_ixL {oa : R (List α)} {ob : R Int} (ha : EC fa env oa (eL e)) (hb : EC fb env ob .int) : EH (bop gIx fa fb) env (oa.bind fun a => ob.bind fun b => ixR a b) e := h_bop ha hb _ fun a b => ix_m rfl
theorem h_ixT {oa : R (List α)} {ob : R Int} (ha : EC fa env oa (eT e)) (hb : EC fb env ob .int) : EH (bop gIx fa fb) env (oa.bind fun a => ob.bind fun b => ixR a b) e := h_bop ha hb _ fun a b => ix_m rfl
theorem h_ixX {oa : R (List Int)} {ob : R Int} (ha : EC fa env oa .scr) (hb : EC fb env ob .int) : EH (bop gIx fa fb) env (oa.bind fun a => ob.bind fun b => ixR a b) .int := h_bop ha hb _ fun a b => by
  have q : gIx (.scr a) (.int b) = (atI a b).map (fun n => Arg.val (.int n)) := rfl
  rw [q]
  unfold ixR
  cases atI a b with
  | none => trivial
  | some a => rfl
/-- a written place of a tuple of known parts -/
theorem h_ixP {oa : R α} {ca : α → D} {cz : γ → D} (ha : EC fa env oa ca) {i : Int} (f : α → γ) (h : ∀ a, gIx (ca a) (.int i) = some (.val (cz (f a))) := by intro _; rfl) : EH (bop gIx fa (kst (.int i))) env (oa.bind fun a => .ok (f a)) cz := by
  cases oa with
  | ok a =>
    obtain ⟨x, h1, h2⟩ := ha
    refine ⟨.val (cz (f a)), ?_, .inl rfl⟩
    simp only [bop, h1, kst, Res.bind_ok, cont_settle, h2, x_cont1, h]
  | no => trivial
end
end PL

/-! TL: tests, arguments, built-ins. -/
namespace PL
open PySem L2
section
variable {α β γ δ : Type} {fa fb fc : FE} {env : En} {e : α → D} {ta tb : FT} {oa : R α} {ob : R β} {oc : R γ} {ca : α → D} {cb : β → D} {cc : γ → D} {g g' : D → D → Option Arg}
/-! one place -/
theorem h_uop {cz : β → D} {u : D → Option Arg} (ha : EC fa env oa ca) (f : α → β) (h : ∀ a, u (ca a) = some (.val (cz (f a)))) : EH (uop u fa) env (oa.bind fun a => .ok (f a)) cz := by
  cases oa with
  | ok a =>
    obtain ⟨x, h1, h2⟩ := ha
    exact ⟨.val (cz (f a)), by simp only [uop, h1, Res.bind_ok, h2, Option.bind_some, h], .inl rfl⟩
  | no => trivial
theorem n_uop {cz : β → O} {u : D → Option Arg} (ha : EC fa env oa ca) (f : α → β) (h : ∀ a, u (ca a) = some (.new (cz (f a)))) : EN (uop u fa) env (oa.bind fun a => .ok (f a)) cz := by
  cases oa with
  | ok a =>
    obtain ⟨x, h1, h2⟩ := ha
    show uop u fa env = _
    simp only [uop, h1, Res.bind_ok, h2, Option.bind_some, h]
  | no => trivial
theorem h_neg {oa : R Int} (ha : EC fa env oa .int) : EH (uop gNeg fa) env (oa.bind fun a => .ok (-a)) .int := h_uop ha _ fun _ => rfl
theorem n_rev {oa : R (List α)} (ha : EC fa env oa (eL e)) : EN (uop gRev fa) env (oa.bind fun a => .ok a.reverse) (oL e) := n_uop ha _ fun a => by
  show some (Arg.new (.lst (a.map e).reverse)) = _
  rw [← List.map_reverse]
/-! tests -/
theorem t_tst {o : R Bool} (h : EH fa env o .bl) : TP (tst fa) env o := by
  cases o with
  | ok b =>
    obtain ⟨x, h1, h2⟩ := h
    rcases h2 with rfl | ⟨o, rfl, h3⟩
    · show tst fa env = _
      simp only [tst, h1, Res.bind_ok]
    · cases o <;> cases h3
  | no => trivial
theorem t_tru (h : EC fa env oa ca) (t : α → R Bool) (ht : ∀ a, match t a with | .ok z => tru (ca a) = some z | .no => True) : TP (trt fa) env (oa.bind t) := by
  cases oa with
  | ok a =>
    obtain ⟨x, h1, h2⟩ := h
    show TP _ _ (t a)
    have := ht a
    cases c : t a with
    | ok b =>
      rw [c] at this
      show trt fa env = _
      simp only [trt, h1, Res.bind_ok, h2, Option.bind_some, this]
    | no => trivial
  | no => trivial
theorem t_bl {o : R Bool} (h : EC fa env o .bl) : TP (trt fa) env (o.bind fun a => .ok a) := t_tru h (fun a => .ok a) fun a => rfl
theorem t_int {o : R Int} (h : EC fa env o .int) : TP (trt fa) env (o.bind fun a => .ok (a != 0)) := t_tru h _ fun a => rfl
theorem t_lst {o : R (List α)} (h : EC fa env o (eL e)) : TP (trt fa) env (o.bind fun a => .ok (!a.isEmpty)) := t_tru h _ fun a => by cases a <;> rfl
theorem t_tup {o : R (List α)} (h : EC fa env o (eT e)) : TP (trt fa) env (o.bind fun a => .ok (!a.isEmpty)) := t_tru h _ fun a => by cases a <;> rfl
theorem t_not {o : R Bool} (h : TP ta env o) : TP (tnot ta) env (o.bind fun a => .ok (!a)) := by
  cases o with
  | ok b =>
    have h' : ta env = .ok (b, env) := h
    show tnot ta env = _
    simp only [tnot, h', Res.bind_ok]
  | no => trivial
theorem t_and {o u : R Bool} (h : TP ta env o) (h2 : TP tb env u) : TP (tand ta tb) env (o.bind fun a => if a = true then u else .ok false) := by
  cases o with
  | ok b =>
    have h' : ta env = .ok (b, env) := h
    have e0 : tand ta tb env = if b = true then tb env else .ok (false, env) := by simp only [tand, h', Res.bind_ok]
    cases b with
    | true =>
      show TP _ _ u
      unfold TP at h2 ⊢
      rw [e0]; exact h2
    | false => exact e0
  | no => trivial
theorem t_or {o u : R Bool} (h : TP ta env o) (h2 : TP tb env u) : TP (tor ta tb) env (o.bind fun a => if a = true then .ok true else u) := by
  cases o with
  | ok b =>
    have h' : ta env = .ok (b, env) := h
    have e0 : tor ta tb env = if b = true then .ok (true, env) else tb env := by simp only [tor, h', Res.bind_ok]
    cases b with
    | true => exact e0
    | false =>
      show TP _ _ u
      unfold TP at h2 ⊢
      rw [e0]; exact h2
  | no => trivial
theorem h_not {o : R Bool} (h : EH fa env o .bl) : EH (vnot fa) env (o.bind fun a => .ok (!a)) .bl := by
  have t := t_tst h
  cases o with
  | ok b =>
    have h' : tst fa env = .ok (b, env) := t
    exact ⟨.val (.bl (!b)), by simp only [vnot, h', Res.bind_ok], .inl rfl⟩
  | no => trivial
theorem h_and {o u : R Bool} (h : EH fa env o .bl) (h2 : EH fb env u .bl) : EH (vand fa fb) env (o.bind fun a => if a = true then u else .ok false) .bl := by
  have t := t_tst h
  cases o with
  | ok b =>
    have h' : tst fa env = .ok (b, env) := t
    have e0 : vand fa fb env = if b = true then fb env else .ok (.val (.bl false), env) := by simp only [vand, h', Res.bind_ok]
    cases b with
    | true =>
      show EH _ _ u _
      unfold EH at h2 ⊢
      rw [e0]; exact h2
    | false => exact ⟨_, e0, .inl rfl⟩
  | no => trivial
theorem h_or {o u : R Bool} (h : EH fa env o .bl) (h2 : EH fb env u .bl) : EH (vor fa fb) env (o.bind fun a => if a = true then .ok true else u) .bl := by
  have t := t_tst h
  cases o with
  | ok b =>
    have h' : tst fa env = .ok (b, env) := t
    have e0 : vor fa fb env = if b = true then .ok (.val (.bl true), env) else fb env := by simp only [vor, h', Res.bind_ok]
    cases b with
    | true => exact ⟨_, e0, .inl rfl⟩
    | false =>
      show EH _ _ u _
      unfold EH at h2 ⊢
      rw [e0]; exact h2
  | no => trivial
theorem h_if {o : R Bool} {u v : R α} (h : TP ta env o) (ha : EH fa env u ca) (hb : EH fb env v ca) : EH (vif ta fa fb) env (o.bind fun b => if b = true then u else v) ca := by
  cases o with
  | ok b =>
    have h' : ta env = .ok (b, env) := h
    have e0 : vif ta fa fb env = if b = true then fa env else fb env := by simp only [vif, h', Res.bind_ok]
    cases b with
    | true =>
      show EH _ _ u _
      unfold EH at ha ⊢
      rw [e0]; exact ha
    | false =>
      show EH _ _ v _
      unfold EH at hb ⊢
      rw [e0]; exact hb
  | no => trivial
theorem n_if {o : R Bool} {u v : R α} {ca : α → O} (h : TP ta env o) (ha : EN fa env u ca) (hb : EN fb env v ca) : EN (vif ta fa fb) env (o.bind fun b => if b = true then u else v) ca := by
  cases o with
  | ok b =>
    have h' : ta env = .ok (b, env) := h
    have e0 : vif ta fa fb env = if b = true then fa env else fb env := by simp only [vif, h', Res.bind_ok]
    cases b with
    | true =>
      show EN _ _ u _
      unfold EN at ha ⊢
      rw [e0]; exact ha
    | false =>
      show EN _ _ v _
      unfold EN at hb ⊢
      rw [e0]; exact hb
  | no => trivial
theorem h_ch (ha : EC fa env oa ca) (hb : EC fb env ob cb) (hc : EC fc env oc cc) (r : α → β → Bool) (r' : β → γ → Bool) (h : ∀ a b, g (ca a) (cb b) = some (.val (.bl (r a b)))) (h' : ∀ b c, g' (cb b) (cc c) = some (.val (.bl (r' b c)))) :
    EH (vch g g' fa fb fc) env (oa.bind fun a => ob.bind fun b => if r a b = true then oc.bind fun c => .ok (r' b c) else .ok false) .bl := by
  cases oa with
  | ok a =>
    obtain ⟨x, h1, h2⟩ := ha
    cases ob with
    | ok b =>
      obtain ⟨y, h3, h4⟩ := hb
      show EH _ _ (if r a b = true then oc.bind fun c => .ok (r' b c) else .ok false) _
      cases q : r a b with
      | false => exact ⟨.val (.bl false), by simp only [vch, h1, h3, Res.bind_ok, cont_settle, h2, h4, h, q], .inl rfl⟩
      | true =>
        cases oc with
        | ok c =>
          obtain ⟨z, h5, h6⟩ := hc
          exact ⟨.val (.bl (r' b c)), by simp only [vch, h1, h3, Res.bind_ok, cont_settle, h2, h4, h, q, h5, h6, h'], .inl rfl⟩
        | no => trivial
    | no => trivial
  | no => trivial
end
/-! ### arguments -/
section
variable {α β γ δ : Type} {env : En} {fe : FE} {ga : FA} {oa : R α} {ob : R β} {ca : α → D} {cb : β → D} {xs : β → List D}
def AH (ga : FA) (env : En) (o : R α) (xs : α → List D) : Prop := match o with
  | .ok a => ga env = .ok ((xs a).map .val, env)
  | .no => True
def AC (ga : FA) (env : En) (o : R α) (xs : α → List D) : Prop := match o with
  | .ok a => ∃ l, ga env = .ok (l, env) ∧ conts l env = some (xs a)
  | .no => True
theorem ah_nil : AH anil env (.ok ()) fun _ => [] := rfl
theorem ac_nil : AC anil env (.ok ()) fun _ => [] := ⟨[], rfl, rfl⟩
theorem ah_cons (h : EH fe env oa ca) (h' : AH ga env ob xs) : AH (acons fe ga) env (oa.bind fun a => ob.bind fun r => .ok (a, r)) fun p => ca p.1 :: xs p.2 := by
  cases oa with
  | ok a =>
    obtain ⟨x, h1, h2⟩ := h
    cases ob with
    | ok r =>
      have h'' : ga env = .ok ((xs r).map .val, env) := h'
      show acons fe ga env = _
      simp only [acons, h1, Res.bind_ok, h'', h2.settle, List.map_cons]
    | no => trivial
  | no => trivial
theorem ac_cons (h : EC fe env oa ca) (h' : AC ga env ob xs) : AC (acons fe ga) env (oa.bind fun a => ob.bind fun r => .ok (a, r)) fun p => ca p.1 :: xs p.2 := by
  cases oa with
  | ok a =>
    obtain ⟨x, h1, h2⟩ := h
    cases ob with
    | ok r =>
      obtain ⟨l, h3, h4⟩ := h'
      exact ⟨settle x :: l, by simp only [acons, h1, Res.bind_ok, h3], by simp only [conts, cont_settle, h2, h4]⟩
    | no => trivial
  | no => trivial
theorem holds_vals : ∀ (ds : List D) (env : En), holds (ds.map .val) env = some (ds, env)
  | [], env => rfl
  | d :: ds, env => by simp only [List.map_cons, holds, hold, holds_vals ds env]
/-! displays -/
theorem h_dsp {cz : α → D} {xs : α → List D} (h : AH ga env oa xs) (n : Nat) (hn : ∀ a, (xs a).length ≤ 1000 := by intro _; exact Nat.le_of_ble_eq_true rfl) (hz : ∀ a, D.tup (xs a) = cz a := by intro _; rfl) : EH (dsp (fun ds => .val (.tup ds)) ga) env oa cz := by
  cases oa with
  | ok a =>
    have h' : ga env = .ok ((xs a).map .val, env) := h
    refine ⟨.val (.tup (xs a)), ?_, .inl (by rw [hz])⟩
    simp only [dsp, h', Res.bind_ok, holds_vals]
    rw [if_pos (by rw [sl_eq]; have := hn a; omega)]
  | no => trivial
theorem n_dsp {cz : α → O} {xs : α → List D} (h : AH ga env oa xs) (n : Nat) (hn : ∀ a, (xs a).length ≤ 1000 := by intro _; exact Nat.le_of_ble_eq_true rfl) (hz : ∀ a, O.lst (xs a) = cz a := by intro _; rfl) : EN (dsp (fun ds => .new (.lst ds)) ga) env oa cz := by
  cases oa with
  | ok a =>
    have h' : ga env = .ok ((xs a).map .val, env) := h
    show dsp _ ga env = _
    simp only [dsp, h', Res.bind_ok, holds_vals]
    rw [if_pos (by rw [sl_eq]; have := hn a; omega), hz]
  | no => trivial
theorem EN.as {co : α → O} {c' : β → O} (h : EN fe env oa co) (f : α → β) (e : ∀ a, c' (f a) = co a := by intro _; rfl) : EN fe env (oa.bind fun a => .ok (f a)) c' := by
  cases oa with
  | ok a => show fe env = _; rw [e]; exact h
  | no => trivial
/-! built-ins -/
theorem h_cbn {cz : β → D} {xs : α → List D} {g : List D → Option Arg} (h : AC ga env oa xs) (r : α → R β) (hg : ∀ a, match r a with | .ok z => g (xs a) = some (.val (cz z)) | .no => True) : EH (cbn g ga) env (oa.bind r) cz := by
  cases oa with
  | ok a =>
    obtain ⟨l, h1, h2⟩ := h
    show EH _ _ (r a) _
    have := hg a
    cases c : r a with
    | ok z => rw [c] at this; exact ⟨.val (cz z), by simp only [cbn, h1, Res.bind_ok, h2, Option.bind_some, this], .inl rfl⟩
    | no => trivial
  | no => trivial
theorem n_cbn {cz : β → O} {xs : α → List D} {g : List D → Option Arg} (h : AC ga env oa xs) (r : α → R β) (hg : ∀ a, match r a with | .ok z => g (xs a) = some (.new (cz z)) | .no => True) : EN (cbn g ga) env (oa.bind r) cz := by
  cases oa with
  | ok a =>
    obtain ⟨l, h1, h2⟩ := h
    show EN _ _ (r a) _
    have := hg a
    cases c : r a with
    | ok z => rw [c] at this; show cbn g ga env = _; simp only [cbn, h1, Res.bind_ok, h2, Option.bind_some, this]
    | no => trivial
  | no => trivial
variable {fa fb fc : FE} {e : α → D}
/-- one argument, two -/
theorem ac1 (h : EC fa env oa ca) : AC (acons fa anil) env oa fun a => [ca a] := by
  cases oa with
  | ok a => exact ac_cons h (ac_nil (env := env))
  | no => trivial
theorem ac2 (h : EC fa env oa ca) (h' : EC fb env ob cb) : AC (acons fa (acons fb anil)) env (oa.bind fun a => ob.bind fun b => .ok (a, b)) fun p => [ca p.1, cb p.2] := ac_cons h (ac1 h')
theorem h_lenL {o : R (List α)} (h : EC fa env o (eL e)) : EH (cbn cLen (acons fa anil)) env (o.bind fun a => .ok (a.length : Int)) .int := h_cbn (ac1 h) _ fun a => by simp [cLen, vI]
theorem h_lenT {o : R (List α)} (h : EC fa env o (eT e)) : EH (cbn cLen (acons fa anil)) env (o.bind fun a => .ok (a.length : Int)) .int := h_cbn (ac1 h) _ fun a => by simp [cLen, vI]
theorem h_lenX {o : R (List Int)} (h : EC fa env o .scr) : EH (cbn cLen (acons fa anil)) env (o.bind fun a => .ok (a.length : Int)) .int := h_cbn (ac1 h) _ fun a => by simp [cLen, vI]
noncomputable def lenS (s : Str) : R Int := chk (s.length ≤ 16777216) (.ok (s.length : Int))
theorem h_lenS {o : R Str} (h : EC fa env o .str) : EH (cbn cLen (acons fa anil)) env (o.bind lenS) .int := h_cbn (ac1 h) _ fun a => chk_m fun h => by simp only [cLen, sl_eq, if_pos h, vI]
theorem h_abs {o : R Int} (h : EC fa env o .int) : EH (cbn cAbs (acons fa anil)) env (o.bind fun a => .ok (a.natAbs : Int)) .int := h_cbn (ac1 h) _ fun a => by
  have : (if a < 0 then -a else a) = (a.natAbs : Int) := by split <;> omega
  simp [cAbs, vI, this]
theorem h_max {o u : R Int} (h : EC fa env o .int) (h' : EC fb env u .int) : EH (cbn cMax2 (acons fa (acons fb anil))) env ((o.bind fun a => u.bind fun b => .ok (a, b)).bind fun p => .ok (max p.1 p.2)) .int := h_cbn (ac2 h h') _ fun a => by
  have : (if a.2 > a.1 then a.2 else a.1) = max a.1 a.2 := by split <;> omega
  simp only [cMax2, vI, this]
theorem h_min {o u : R Int} (h : EC fa env o .int) (h' : EC fb env u .int) : EH (cbn cMin2 (acons fa (acons fb anil))) env ((o.bind fun a => u.bind fun b => .ok (a, b)).bind fun p => .ok (min p.1 p.2)) .int := h_cbn (ac2 h h') _ fun a => by
  have : (if a.2 < a.1 then a.2 else a.1) = min a.1 a.2 := by split <;> omega
  simp only [cMin2, vI, this]
theorem h_intI {o : R Int} (h : EC fa env o .int) : EH (cbn cInt (acons fa anil)) env (o.bind fun a => .ok a) .int := h_cbn (ac1 h) _ fun a => rfl
theorem h_intB {o : R Bool} (h : EC fa env o .bl) : EH (cbn cInt (acons fa anil)) env (o.bind fun a => .ok (if a = true then 1 else 0)) .int := h_cbn (ac1 h) _ fun a => rfl
theorem n_listL {o : R (List α)} (h : EC fa env o (eL e)) : EN (cbn cList (acons fa anil)) env (o.bind fun a => .ok a) (oL e) := n_cbn (ac1 h) _ fun a => rfl
theorem n_listT {o : R (List α)} (h : EC fa env o (eT e)) : EN (cbn cList (acons fa anil)) env (o.bind fun a => .ok a) (oL e) := n_cbn (ac1 h) _ fun a => rfl
theorem h_tupL {o : R (List α)} (h : EC fa env o (eL e)) : EH (cbn cTuple (acons fa anil)) env (o.bind fun a => .ok a) (eT e) := h_cbn (ac1 h) _ fun a => rfl
theorem h_tupT {o : R (List α)} (h : EC fa env o (eT e)) : EH (cbn cTuple (acons fa anil)) env (o.bind fun a => .ok a) (eT e) := h_cbn (ac1 h) _ fun a => rfl
theorem n_sortI {o : R (List Int)} (h : EC fa env o (eL D.int)) : EN (cbn cSorted (acons fa anil)) env (o.bind fun a => .ok (sortI a)) (oL D.int) := n_cbn (ac1 h) _ fun a => by simp [cSorted, intsOf_map]
theorem h_all {o : R (List Bool)} (h : EC fa env o (eL D.bl)) : EH (cbn cAll (acons fa anil)) env (o.bind fun a => .ok (a.all id)) .bl := h_cbn (ac1 h) _ fun a => by simp [cAll, blsOf_map]
theorem h_any {o : R (List Bool)} (h : EC fa env o (eL D.bl)) : EH (cbn cAny (acons fa anil)) env (o.bind fun a => .ok (a.any id)) .bl := h_cbn (ac1 h) _ fun a => by simp [cAny, blsOf_map]
theorem h_sum {o : R (List Int)} (h : EC fa env o (eL D.int)) : EH (cbn cSum (acons fa anil)) env (o.bind fun a => .ok a.sum) .int := h_cbn (ac1 h) _ fun a => by simp [cSum, intsOf_map]
noncomputable def strR (i : Int) : R Str := chk (i.natAbs.log2 < 1920) (.ok (toString i))
theorem h_strI {o : R Int} (h : EC fa env o .int) : EH (cbn cStr (acons fa anil)) env (o.bind strR) .str := h_cbn (ac1 h) _ fun a => chk_m fun h => by
  simp only [cStr, if_pos h]
noncomputable def reprR (d : D) : R Str := match cRepr [d] with
  | some (.val (.str z)) => .ok z
  | _ => .no
theorem h_repr (h : EC fa env oa ca) : EH (cbn cRepr (acons fa anil)) env (oa.bind fun a => reprR (ca a)) .str := h_cbn (ac1 h) _ fun a => by
  unfold reprR
  cases c : cRepr [ca a] with
  | none => trivial
  | some x =>
    cases x with
    | val d => cases d <;> trivial
    | slot _ => trivial
    | new _ => trivial
/-! slices -/
def OP (fo : FO) (env : En) (o : R (Option Int)) : Prop := match o with
  | .ok b => fo env = .ok (b, env)
  | .no => True
theorem o_none : OP onone env (.ok none) := rfl
theorem o_some {o : R Int} (h : EC fa env o .int) : OP (osome fa) env (o.bind fun i => .ok (some i)) := by
  cases o with
  | ok a =>
    obtain ⟨x, h1, h2⟩ := h
    show osome fa env = _
    simp only [osome, h1, Res.bind_ok, h2]
  | no => trivial
theorem cut_map {α β : Type} (f : α → β) (xs : List α) (lo hi : Option Int) : cut (xs.map f) lo hi = (cut xs lo hi).map f := by
  simp only [cut, List.length_map, List.map_take, List.map_drop]
variable {fo go : FO} {lo hi : R (Option Int)}
theorem vsl_ok {a : α} {u v : Option Int} {z : Arg} (ha : EC fa env (.ok a) ca) (hl : OP fo env (.ok u)) (hh : OP go env (.ok v)) (h : gSl (ca a) u v = some z) : vsl fa fo go env = .ok (z, env) := by
  obtain ⟨x, h1, h2⟩ := ha
  have hl' : fo env = .ok (u, env) := hl
  have hh' : go env = .ok (v, env) := hh
  simp only [vsl, h1, hl', hh', Res.bind_ok, cont_settle, h2, Option.bind_some, h]
theorem n_sl {o : R (List α)} (ha : EC fa env o (eL e)) (hl : OP fo env lo) (hh : OP go env hi) : EN (vsl fa fo go) env (o.bind fun a => lo.bind fun u => hi.bind fun v => .ok (cut a u v)) (oL e) := by
  cases o with
  | ok a => cases lo with
    | ok u => cases hi with
      | ok v =>
        show vsl fa fo go env = _
        exact vsl_ok ha hl hh (by show some (Arg.new (.lst (cut (a.map e) u v))) = _; rw [cut_map])
      | no => trivial
    | no => trivial
  | no => trivial
theorem h_slT {o : R (List α)} (ha : EC fa env o (eT e)) (hl : OP fo env lo) (hh : OP go env hi) : EH (vsl fa fo go) env (o.bind fun a => lo.bind fun u => hi.bind fun v => .ok (cut a u v)) (eT e) := by
  cases o with
  | ok a => cases lo with
    | ok u => cases hi with
      | ok v => exact ⟨.val (.tup (cut (a.map e) u v)), vsl_ok ha hl hh rfl, .inl (by rw [cut_map])⟩
      | no => trivial
    | no => trivial
  | no => trivial
noncomputable def slS (s : Str) (u v : Option Int) : R Str := chk (s.length ≤ 16777216) (.ok (cutS s u v))
theorem h_slS {o : R Str} (ha : EC fa env o .str) (hl : OP fo env lo) (hh : OP go env hi) : EH (vsl fa fo go) env (o.bind fun a => lo.bind fun u => hi.bind fun v => slS a u v) .str := by
  cases o with
  | ok a => cases lo with
    | ok u => cases hi with
      | ok v =>
        show EH _ _ (slS a u v) _
        cases c : slS a u v with
        | ok z =>
          obtain ⟨h1, h2⟩ := chk_ok c
          cases h2
          exact ⟨.val (.str (cutS a u v)), vsl_ok ha hl hh (by simp only [gSl, sl_eq, if_pos h1]), .inl rfl⟩
        | no => trivial
      | no => trivial
    | no => trivial
  | no => trivial
end
end PL

/-! TL: iterables, comprehensions, calls. -/
namespace PL
open PySem L2
section
variable {α β γ δ : Type} {env : En} {fe fa : FE} {ga : FA} {it : FI} {tt : FT} {tg : FG} {e : α → D} {ed : δ → D}
def IT (it : FI) (env : En) (o : R (List δ)) (e : δ → D) : Prop := match o with
  | .ok ds => it env = .ok (ds.map e, env)
  | .no => True
theorem i_L {o : R (List δ)} (h : EH fa env o (eL ed)) : IT (itSeq fa) env o ed := by
  cases o with
  | ok a =>
    obtain ⟨x, h1, h2⟩ := h
    show itSeq fa env = _
    simp only [itSeq, h1, Res.bind_ok, h2.hold]
  | no => trivial
theorem i_T {o : R (List δ)} (h : EH fa env o (eT ed)) : IT (itSeq fa) env o ed := by
  cases o with
  | ok a =>
    obtain ⟨x, h1, h2⟩ := h
    show itSeq fa env = _
    simp only [itSeq, h1, Res.bind_ok, h2.hold]
  | no => trivial
def rng (lo hi : Int) : List Int := (List.range (hi - lo).toNat).map fun (i : Nat) => lo + (i : Int)
noncomputable def rngR (lo hi : Int) : R (List Int) := chk (Rk lo ∧ Rk hi) (.ok (rng lo hi))
theorem rng_d (lo hi : Int) : dints lo (hi - lo).toNat = (rng lo hi).map D.int := by simp [dints, rng]
theorem i_r1 {o : R Int} (h : EC fa env o .int) : IT (itRng1 (acons fa anil)) env (o.bind fun n => rngR 0 n) .int := by
  have h := ac1 h
  cases o with
  | ok a =>
    obtain ⟨l, h1, h2⟩ := h
    show IT _ _ (rngR 0 a) _
    cases c : rngR 0 a with
    | ok ds =>
      obtain ⟨h3, h4⟩ := chk_ok c
      cases h4
      show itRng1 _ env = _
      rw [x_itRng1, h1]
      simp only [Res.bind_ok, h2, h3.2, if_true]
      rw [← rng_d]; simp
    | no => trivial
  | no => trivial
theorem i_r2 {o u : R Int} (h : EC fa env o .int) (h' : EC fe env u .int) : IT (itRng2 (acons fa (acons fe anil))) env ((o.bind fun a => u.bind fun b => .ok (a, b)).bind fun p => rngR p.1 p.2) .int := by
  have h := ac2 h h'
  cases c0 : (o.bind fun a => u.bind fun b => R.ok (a, b)) with
  | ok a =>
    rw [c0] at h
    obtain ⟨l, h1, h2⟩ := h
    show IT _ _ (rngR a.1 a.2) _
    cases c : rngR a.1 a.2 with
    | ok ds =>
      obtain ⟨h3, h4⟩ := chk_ok c
      cases h4
      show itRng2 _ env = _
      rw [x_itRng2, h1]
      simp only [Res.bind_ok, h2, h3.1, h3.2, and_self, if_true]
      rw [← rng_d]
    | no => trivial
  | no => trivial
noncomputable def rngL (lo hi : Int) : R (List Int) := chk (Rk lo ∧ Rk hi ∧ (hi - lo).toNat ≤ 16777216) (.ok (rng lo hi))
noncomputable def rngL0 (hi : Int) : R (List Int) := chk (Rl hi) (.ok (rng 0 hi))
theorem n_ls1 {o : R Int} (h : EC fa env o .int) : EN (lsRng1 fa) env (o.bind fun n => rngL0 n) (oL .int) := by
  cases o with
  | ok a =>
    obtain ⟨x, h1, h2⟩ := h
    show EN _ _ (rngL0 a) _
    cases c : rngL0 a with
    | ok ds =>
      obtain ⟨h3, h4⟩ := chk_ok c
      cases h4
      show lsRng1 _ env = _
      rw [x_lsRng1, h1]
      simp only [Res.bind_ok, h2, h3, if_true]
      show _ = Res.ok (Arg.new (.lst ((rng 0 a).map D.int)), env)
      rw [← rng_d]; simp
    | no => trivial
  | no => trivial
theorem n_ls2 {o u : R Int} (h : EC fa env o .int) (h' : EC fe env u .int) : EN (lsRng2 fa fe) env (o.bind fun a => u.bind fun b => rngL a b) (oL .int) := by
  cases o with
  | ok a =>
    cases u with
    | ok b =>
      obtain ⟨x, h1, h2⟩ := h
      obtain ⟨y, h3, h4⟩ := h'
      show EN _ _ (rngL a b) _
      cases c : rngL a b with
      | ok ds =>
        obtain ⟨h5, h6⟩ := chk_ok c
        cases h6
        have q : -(2 ^ 62) ≤ a ∧ a < 2 ^ 62 ∧ -(2 ^ 62) ≤ b ∧ b < 2 ^ 62 ∧ (b - a).toNat ≤ 2 ^ 24 := ⟨h5.1.1, h5.1.2, h5.2.1.1, h5.2.1.2, h5.2.2⟩
        show lsRng2 _ _ env = Res.ok (Arg.new (.lst ((rng a b).map D.int)), env)
        rw [← rng_d]
        simp only [lsRng2, h1, h3, Res.bind_ok, cont_settle, h2, h4]
        rw [if_pos q]
      | no => trivial
    | no => trivial
  | no => trivial
/-! ### comprehensions -/
def colR {δ β : Type} (t : δ → R Bool) (f : δ → R β) : List δ → R (List β)
  | [] => .ok []
  | d :: ds => (t d).bind fun b => if b = true then (f d).bind fun y => (colR t f ds).bind fun l => .ok (y :: l) else colR t f ds
noncomputable def lcR {δ β : Type} (ds : List δ) (t : δ → R Bool) (f : δ → R β) : R (List β) := (colR t f ds).bind fun l => chk (l.length ≤ 16777216) (.ok l)
theorem lcL_col {vs : List Nat} {C : En} {C1 : δ → En} {t : δ → R Bool} {f : δ → R β} {cb : β → D} (h1 : ∀ d, tg (ed d) C = .ok (C1 d)) (h2 : ∀ d, TP tt (C1 d) (t d)) (h3 : ∀ d, EH fe (C1 d) (f d) cb) (h4 : ∀ d, clr (C1 d) vs = C) :
    ∀ (ds : List δ) (acc : List D) (l : List β), colR t f ds = .ok l → acc.length + l.length ≤ sizeLine → lcL tg tt fe vs (ds.map ed) acc C = .ok (acc ++ l.map cb, C)
  | [], acc, l, h, _ => by cases h; simp [lcL]
  | d :: ds, acc, l, h, hl => by
    simp only [colR] at h
    have q2 := h2 d
    have q3 := h3 d
    cases ct : t d with
    | no => rw [ct] at h; cases h
    | ok b =>
      rw [ct] at h q2
      have q2' : tt (C1 d) = .ok (b, C1 d) := q2
      cases b with
      | true =>
        cases cf : f d with
        | no => rw [cf] at h; cases h
        | ok y =>
          rw [cf] at h q3
          obtain ⟨x, q4, q5⟩ := q3
          cases cr : colR t f ds with
          | no => rw [cr] at h; cases h
          | ok l' =>
            rw [cr] at h; cases h
            simp only [List.length_cons] at hl
            have hs : acc.length < sizeLine := by omega
            simp only [List.map_cons, lcL, h1, Res.bin, q2', if_true, q4, q5.hold, hs, h4]
            rw [lcL_col h1 h2 h3 h4 ds (acc ++ [cb y]) l' cr (by simp only [List.length_append, List.length_cons, List.length_nil]; omega)]
            simp
      | false =>
        have h : colR t f ds = .ok l := h
        simp only [List.map_cons, lcL, h1, Res.bin, q2', Bool.false_eq_true, if_false, h4]
        exact lcL_col h1 h2 h3 h4 ds acc l h hl
theorem n_lc {vs : List Nat} {C : En} {C1 : δ → En} {t : δ → R Bool} {f : δ → R β} {cb : β → D} {o : R (List δ)} (hi : IT it env o ed) (hp : plainS env vs = true) (h0 : clr env vs = C) (h1 : ∀ d, tg (ed d) C = .ok (C1 d)) (h2 : ∀ d, TP tt (C1 d) (t d)) (h3 : ∀ d, EH fe (C1 d) (f d) cb)
    (h4 : ∀ d, clr (C1 d) vs = C) (h5 : rst env C vs = env) : EN (vlc it tg tt fe vs) env (o.bind fun ds => lcR ds t f) (oL cb) := by
  cases o with
  | ok ds =>
    have hi' : it env = .ok (ds.map ed, env) := hi
    show EN _ _ (lcR ds t f) _
    cases c : lcR ds t f with
    | ok l =>
      unfold lcR at c
      cases c2 : colR t f ds with
      | no => rw [c2] at c; cases c
      | ok l' =>
        rw [c2] at c
        obtain ⟨h6, h7⟩ := chk_ok c
        cases h7
        show vlc it tg tt fe vs env = _
        simp only [vlc, hi', Res.bind_ok, hp, if_true, h0]
        rw [lcL_col h1 h2 h3 h4 ds [] l c2 (by rw [sl_eq]; simpa using h6)]
        simp only [Res.bin, h5, List.nil_append]
    | no => trivial
  | no => trivial
theorem tp_yes {env : En} : TP tyes env (.ok true) := rfl
/-! ### calls -/
def F0 {ρ : Type} (f : FFn) (as : List Sl) (o : R ρ) (vr : ρ → Sl) : Prop := match o with
  | .ok r => f as = .ok (vr r) (as.map fun _ => none)
  | .no => True
structure PrepOk (ms : List Md) (l : List Arg) (env : En) (as : List Sl) (ps : List Pa) : Prop where
  pr : prep ms l env = some (ps, env)
  sl : slsOf env ps = some as
  mt : mslots ps = []
  ln : ps.length = as.length
  fl : (bslots ps).all (fun j => match slotO env j with | some o => flatO o | none => false) = true
def AK (ms : List Md) (ga : FA) (env : En) (o : R γ) (as : γ → List Sl) (bw : Bool) : Prop := match o with
  | .ok r => ∃ l ps, ga env = .ok (l, env) ∧ PrepOk ms l env (as r) ps ∧ (bw = false → bslots ps = [])
  | .no => True
theorem k_nil : AK [] anil env (.ok ()) (fun _ => []) false := ⟨[], [], rfl, ⟨rfl, rfl, rfl, rfl, rfl⟩, fun _ => rfl⟩
theorem prep_hd {m : Md} {x : Arg} {d : D} (hm : m = .rd ∨ m = .bw) (h : HV x d) : prep1 m (settle x) env = some (.hd d, env) := by
  rw [h.settle]
  rcases hm with rfl | rfl <;> rfl
theorem k_rd {m : Md} {ms : List Md} {oa : R α} {og : R γ} {ca : α → D} {as : γ → List Sl} {bw : Bool} (h : EH fe env oa ca) (h' : AK ms ga env og as bw) (hm : m = .rd ∨ m = .bw := by first | exact .inl rfl | exact .inr rfl) :
    AK (m :: ms) (acons fe ga) env (oa.bind fun a => og.bind fun r => .ok (a, r)) (fun p => .fz (ca p.1) :: as p.2) bw := by
  cases oa with
  | ok a =>
    obtain ⟨x, h1, h2⟩ := h
    cases og with
    | ok r =>
      obtain ⟨l, ps, h3, p, hb⟩ := h'
      refine ⟨settle x :: l, .hd (ca a) :: ps, by simp only [acons, h1, Res.bind_ok, h3], ⟨by simp only [prep, prep_hd hm h2, p.pr], by simp only [slsOf, Pa.sl, p.sl], p.mt, by simp only [List.length_cons, p.ln], p.fl⟩, hb⟩
    | no => trivial
  | no => trivial
theorem k_bw {i : Nat} {ms : List Md} {x : α} {o : O} {og : R γ} {ca : α → D} {as : γ → List Sl} {bw : Bool} (h : slotO env i = some o := by rfl) (hf : flatO o = true := by rfl) (h2 : o.toD = ca x := by rfl) (h' : AK ms ga env og as bw) :
    AK (.bw :: ms) (acons (rdv i) ga) env (og.bind fun r => .ok (x, r)) (fun p => .fz (ca p.1) :: as p.2) true := by
  cases og with
  | ok r =>
    obtain ⟨l, ps, h3, p, hb⟩ := h'
    have e1 : rdv i env = .ok (.slot i, env) := by
      unfold slotO at h
      unfold rdv
      split at h <;> simp_all
    refine ⟨.slot i :: l, .bo i :: ps, by simp only [acons, e1, Res.bind_ok, h3, settle], ⟨by simp only [prep, prep1, h, p.pr], by simp only [slsOf, Pa.sl, h, Option.map_some, p.sl, h2], p.mt, by simp only [List.length_cons, p.ln], ?_⟩, fun z => nomatch z⟩
    show (bslots (.bo i :: ps)).all _ = true
    simp only [bslots, List.all_cons, h, hf, p.fl, Bool.and_self]
  | no => trivial
theorem applyO_none : ∀ (ps : List Pa) (as : List Sl) (e : En), mslots ps = [] → ps.length = as.length → applyO ps (as.map fun _ => none) e = some e
  | [], [], e, _, _ => rfl
  | .hd d :: ps, a :: as, e, h, hl => by simp only [List.map_cons, applyO]; exact applyO_none ps as e h (by simpa using hl)
  | .bo d :: ps, a :: as, e, h, hl => by simp only [List.map_cons, applyO]; exact applyO_none ps as e h (by simpa using hl)
  | .mt d :: ps, a :: as, e, h, hl => by cases h
theorem allNone (as : List Sl) : ((as.map fun _ => none).all fun o : Option O => match o with | some o => noLO o | none => true) = true := by
  induction as with
  | nil => rfl
  | cons a as ih => simpa using ih
theorem callF_run {ms : List Md} {f : FFn} {l : List Arg} {ps : List Pa} {as : List Sl} {r : Sl} {x : Arg} {bw : Bool} (h1 : ga env = .ok (l, env)) (p : PrepOk ms l env as ps) (hb : bw = false → bslots ps = []) (hf : f as = .ok r (as.map fun _ => none)) (hn : bw = true → noLS r = true) (hx : toArg r = some x) : callF ms f ga env = .ok (x, env) := by
  have hc : clean ps env r (as.map fun _ => none) = true := by
    unfold clean
    cases bw with
    | false => rw [hb rfl]; rfl
    | true =>
      simp only [Bool.or_eq_true, Bool.and_eq_true]
      exact .inr ⟨⟨p.fl, hn rfl⟩, allNone as⟩
  have ho : okPa ps = true := by unfold okPa; rw [p.mt]; simp
  simp only [callF, h1, Res.bind_ok, p.pr, p.sl, ho, if_true, hf, hc, hx, applyO_none ps as env p.mt p.ln]
theorem h_call {ρ : Type} {ms : List Md} {f : FFn} {og : R γ} {as : γ → List Sl} {bw : Bool} {t : γ → R ρ} {vr : ρ → Sl} {c : ρ → D} (h : AK ms ga env og as bw) (hf : ∀ r, F0 f (as r) (t r) vr) (hv : ∀ r, vr r = .fz (c r) := by intro _; rfl) (hn : bw = true → ∀ r, noL (c r) = true) : EH (callF ms f ga) env (og.bind t) c := by
  cases og with
  | ok r =>
    obtain ⟨l, ps, h1, p, hb⟩ := h
    have q := hf r
    show EH _ _ (t r) _
    cases ct : t r with
    | ok z =>
      rw [ct] at q
      have q' : f (as r) = .ok (.fz (c z)) ((as r).map fun _ => none) := by rw [← hv]; exact q
      exact ⟨_, callF_run h1 p hb q' (fun b => hn b z) rfl, .inl rfl⟩
    | no => trivial
  | no => trivial
theorem n_call {ρ : Type} {ms : List Md} {f : FFn} {og : R γ} {as : γ → List Sl} {bw : Bool} {t : γ → R ρ} {vr : ρ → Sl} {c : ρ → O} (h : AK ms ga env og as bw) (hf : ∀ r, F0 f (as r) (t r) vr) (hv : ∀ r, vr r = .ow (c r) := by intro _; rfl) (hn : bw = true → ∀ r, noLO (c r) = true) : EN (callF ms f ga) env (og.bind t) c := by
  cases og with
  | ok r =>
    obtain ⟨l, ps, h1, p, hb⟩ := h
    have q := hf r
    show EN _ _ (t r) _
    cases ct : t r with
    | ok z =>
      rw [ct] at q
      have q' : f (as r) = .ok (.ow (c z)) ((as r).map fun _ => none) := by rw [← hv]; exact q
      exact callF_run h1 p hb q' (fun b => hn b z) rfl
    | no => trivial
  | no => trivial
end
end PL

/-! TL: what changes slots. E says what the frame is, by the changing contents S. -/
namespace PL
open PySem L2
section
variable {α β γ δ S : Type} {E : S → En} {s : S} {fe fa fb : FE} {ga : FA} {it : FI} {tt : FT} {tg : FG} {e : α → D} {ca : α → D} {cb : β → D} {ed : δ → D} {g : D → D → Option Arg}
def ECM (fe : FE) (E : S → En) (s : S) (o : R (α × S)) (c : α → D) : Prop := match o with
  | .ok a => ∃ x, fe (E s) = .ok (x, E a.2) ∧ cont x (E a.2) = some (c a.1)
  | .no => True
def EHM (fe : FE) (E : S → En) (s : S) (o : R (α × S)) (c : α → D) : Prop := match o with
  | .ok a => ∃ x, fe (E s) = .ok (x, E a.2) ∧ HV x (c a.1)
  | .no => True
def ENM (fe : FE) (E : S → En) (s : S) (o : R (α × S)) (c : α → O) : Prop := match o with
  | .ok a => fe (E s) = .ok (.new (c a.1), E a.2)
  | .no => True
def TPM (ft : FT) (E : S → En) (s : S) (o : R (Bool × S)) : Prop := match o with
  | .ok b => ft (E s) = .ok (b.1, E b.2)
  | .no => True
def AHM (ga : FA) (E : S → En) (s : S) (o : R (α × S)) (xs : α → List D) : Prop := match o with
  | .ok a => ga (E s) = .ok ((xs a.1).map .val, E a.2)
  | .no => True
theorem EHM.c {o : R (α × S)} {c : α → D} (h : EHM fe E s o c) : ECM fe E s o c := by
  cases o with
  | ok a => obtain ⟨x, h1, h2⟩ := h; exact ⟨x, h1, h2.cont _⟩
  | no => exact h
theorem ENM.h {o : R (α × S)} {c : α → O} (h : ENM fe E s o c) : EHM fe E s o (fun a => (c a).toD) := by
  cases o with
  | ok a => exact ⟨_, h, .inr ⟨_, rfl, rfl⟩⟩
  | no => exact h
theorem EH.m {o : R α} {c : α → D} (h : EH fe (E s) o c) : EHM fe E s (o.bind fun a => .ok (a, s)) c := by
  cases o with
  | ok a => exact h
  | no => trivial
theorem EC.m {o : R α} {c : α → D} (h : EC fe (E s) o c) : ECM fe E s (o.bind fun a => .ok (a, s)) c := by
  cases o with
  | ok a => exact h
  | no => trivial
theorem EN.m {o : R α} {c : α → O} (h : EN fe (E s) o c) : ENM fe E s (o.bind fun a => .ok (a, s)) c := by
  cases o with
  | ok a => exact h
  | no => trivial
theorem TP.m {o : R Bool} (h : TP tt (E s) o) : TPM tt E s (o.bind fun a => .ok (a, s)) := by
  cases o with
  | ok a => exact h
  | no => trivial
theorem AH.m {o : R α} {xs : α → List D} (h : AH ga (E s) o xs) : AHM ga E s (o.bind fun a => .ok (a, s)) xs := by
  cases o with
  | ok a => exact h
  | no => trivial
theorem EHM.enc {o : R (α × S)} {c c' : α → D} (h : EHM fe E s o c) (e : ∀ a, c a = c' a := by intro _; rfl) : EHM fe E s o c' := by
  have : c = c' := funext e
  rw [← this]; exact h
theorem EHM.as {o : R (α × S)} {c : α → D} {c' : β → D} (h : EHM fe E s o c) (f : α → β) (e : ∀ a, c' (f a) = c a := by intro _; rfl) : EHM fe E s (o.bind fun a => .ok (f a.1, a.2)) c' := by
  cases o with
  | ok a => obtain ⟨x, h1, h2⟩ := h; exact ⟨x, h1, by rw [e]; exact h2⟩
  | no => trivial
theorem ENM.as {o : R (α × S)} {c : α → O} {c' : β → O} (h : ENM fe E s o c) (f : α → β) (e : ∀ a, c' (f a) = c a := by intro _; rfl) : ENM fe E s (o.bind fun a => .ok (f a.1, a.2)) c' := by
  cases o with
  | ok a => show fe (E s) = _; rw [e]; exact h
  | no => trivial
theorem bopm_ok {a : α} {b : β} {s1 s2 : S} {z : Arg} (ha : EHM fa E s (.ok (a, s1)) ca) (hb : ECM fb E s1 (.ok (b, s2)) cb) (h : g (ca a) (cb b) = some z) : bop g fa fb (E s) = .ok (z, E s2) := by
  obtain ⟨x, h1, h2⟩ := ha
  obtain ⟨y, h3, h4⟩ := hb
  simp only [bop, h1, h3, Res.bind_ok, h2.settle, x_cont1, h4, h]
theorem hm_bop {cz : γ → D} {oa : R (α × S)} {ob : S → R (β × S)} (ha : EHM fa E s oa ca) (hb : ∀ s', ECM fb E s' (ob s') cb) (r : α → β → R γ) (h : ∀ a b, match r a b with | .ok z => g (ca a) (cb b) = some (.val (cz z)) | .no => True) :
    EHM (bop g fa fb) E s (oa.bind fun a => (ob a.2).bind fun b => (r a.1 b.1).bind fun z => .ok (z, b.2)) cz := by
  cases oa with
  | no => trivial
  | ok a =>
    have hb' := hb a.2
    cases c1 : ob a.2 with
    | no => simp only [R.bind_ok, c1, R.bind_no]; trivial
    | ok b =>
      rw [c1] at hb'
      have := h a.1 b.1
      cases c : r a.1 b.1 with
      | no => simp only [R.bind_ok, c1, c, R.bind_no]; trivial
      | ok z =>
        rw [c] at this
        simp only [R.bind_ok, c1, c]
        exact ⟨.val (cz z), bopm_ok ha hb' this, .inl rfl⟩
theorem nm_bop {cz : γ → O} {oa : R (α × S)} {ob : S → R (β × S)} (ha : EHM fa E s oa ca) (hb : ∀ s', ECM fb E s' (ob s') cb) (r : α → β → R γ) (h : ∀ a b, match r a b with | .ok z => g (ca a) (cb b) = some (.new (cz z)) | .no => True) :
    ENM (bop g fa fb) E s (oa.bind fun a => (ob a.2).bind fun b => (r a.1 b.1).bind fun z => .ok (z, b.2)) cz := by
  cases oa with
  | no => trivial
  | ok a =>
    have hb' := hb a.2
    cases c1 : ob a.2 with
    | no => simp only [R.bind_ok, c1, R.bind_no]; trivial
    | ok b =>
      rw [c1] at hb'
      have := h a.1 b.1
      cases c : r a.1 b.1 with
      | no => simp only [R.bind_ok, c1, c, R.bind_no]; trivial
      | ok z =>
        rw [c] at this
        simp only [R.bind_ok, c1, c]
        exact bopm_ok ha hb' this
/-! the usual ones -/
theorem hm_add {oa : R (Int × S)} {ob : S → R (Int × S)} (ha : EHM fa E s oa .int) (hb : ∀ s', ECM fb E s' (ob s') .int) : EHM (bop gAdd fa fb) E s (oa.bind fun a => (ob a.2).bind fun b => .ok (a.1 + b.1, b.2)) .int := hm_bop ha hb (fun a b => .ok (a + b)) fun a b => rfl
theorem hm_sub {oa : R (Int × S)} {ob : S → R (Int × S)} (ha : EHM fa E s oa .int) (hb : ∀ s', ECM fb E s' (ob s') .int) : EHM (bop gSub fa fb) E s (oa.bind fun a => (ob a.2).bind fun b => .ok (a.1 - b.1, b.2)) .int := hm_bop ha hb (fun a b => .ok (a - b)) fun a b => rfl
theorem chk_b {α β : Type} {p : Prop} {a : α} {f : α → β} {P : α → Prop} (h : p → P a) : match chk p (.ok a) with | .ok z => P z | .no => True := chk_m h
theorem hm_mul {oa : R (Int × S)} {ob : S → R (Int × S)} (ha : EHM fa E s oa .int) (hb : ∀ s', ECM fb E s' (ob s') .int) : EHM (bop gMul fa fb) E s (oa.bind fun a => (ob a.2).bind fun b => (mulR a.1 b.1).bind fun z => .ok (z, b.2)) .int := hm_bop ha hb mulR fun a b => chk_m fun h => by
  have h' : (-(2 ^ 64) < a ∧ a < 2 ^ 64) ∨ (-(2 ^ 64) < b ∧ b < 2 ^ 64) := h
  have : gMulI (.int a) (.int b) = some (.val (.int (a * b))) := if_pos h'
  simp only [gMul, gor, this]; rfl
theorem hm_div {oa : R (Int × S)} {ob : S → R (Int × S)} (ha : EHM fa E s oa .int) (hb : ∀ s', ECM fb E s' (ob s') .int) : EHM (bop gDiv fa fb) E s (oa.bind fun a => (ob a.2).bind fun b => (divR a.1 b.1).bind fun z => .ok (z, b.2)) .int := hm_bop ha hb divR fun a b => chk_m fun h => if_pos h
theorem hm_lt {oa : R (Int × S)} {ob : S → R (Int × S)} (ha : EHM fa E s oa .int) (hb : ∀ s', ECM fb E s' (ob s') .int) : EHM (bop gLt fa fb) E s (oa.bind fun a => (ob a.2).bind fun b => .ok (decide (a.1 < b.1), b.2)) .bl := hm_bop ha hb (fun a b => .ok (decide (a < b))) fun a b => rfl
theorem hm_gt {oa : R (Int × S)} {ob : S → R (Int × S)} (ha : EHM fa E s oa .int) (hb : ∀ s', ECM fb E s' (ob s') .int) : EHM (bop gGt fa fb) E s (oa.bind fun a => (ob a.2).bind fun b => .ok (decide (b.1 < a.1), b.2)) .bl := hm_bop ha hb (fun a b => .ok (decide (b < a))) fun a b => rfl
theorem hm_eqI {oa : R (Int × S)} {ob : S → R (Int × S)} (ha : EHM fa E s oa .int) (hb : ∀ s', ECM fb E s' (ob s') .int) : EHM (bop gEq fa fb) E s (oa.bind fun a => (ob a.2).bind fun b => .ok (decide (a.1 = b.1), b.2)) .bl := hm_bop ha hb (fun a b => .ok (decide (a = b))) fun a b => rfl
theorem hm_neI {oa : R (Int × S)} {ob : S → R (Int × S)} (ha : EHM fa E s oa .int) (hb : ∀ s', ECM fb E s' (ob s') .int) : EHM (bop gNe fa fb) E s (oa.bind fun a => (ob a.2).bind fun b => .ok (!decide (a.1 = b.1), b.2)) .bl := hm_bop ha hb (fun a b => .ok (!decide (a = b))) fun a b => rfl
theorem nm_cat {e : α → D} {oa : R (List α × S)} {ob : S → R (List α × S)} (ha : EHM fa E s oa (eL e)) (hb : ∀ s', ECM fb E s' (ob s') (eL e)) : ENM (bop gAdd fa fb) E s (oa.bind fun a => (ob a.2).bind fun b => (catR a.1 b.1).bind fun z => .ok (z, b.2)) (oL e) := nm_bop ha hb catR fun a b => chk_m fun h => by
  have : gAddL (.lst (a.map e)) (.lst (b.map e)) = some (.new (.lst (a.map e ++ b.map e))) := if_pos (by rw [List.length_map, List.length_map, sl_eq]; exact h)
  have e2 : gAdd (.lst (a.map e)) (.lst (b.map e)) = some (.new (.lst (a.map e ++ b.map e))) := by simp only [gAdd, gor, this, gAddI]; rfl
  rw [e2, ← List.map_append]
theorem hm_catT {e : α → D} {oa : R (List α × S)} {ob : S → R (List α × S)} (ha : EHM fa E s oa (eT e)) (hb : ∀ s', ECM fb E s' (ob s') (eT e)) : EHM (bop gAdd fa fb) E s (oa.bind fun a => (ob a.2).bind fun b => (catR a.1 b.1).bind fun z => .ok (z, b.2)) (eT e) := hm_bop ha hb catR fun a b => chk_m fun h => by
  have : gAddT (.tup (a.map e)) (.tup (b.map e)) = some (.val (.tup (a.map e ++ b.map e))) := if_pos (by rw [List.length_map, List.length_map, sl_eq]; exact h)
  have e2 : gAdd (.tup (a.map e)) (.tup (b.map e)) = some (.val (.tup (a.map e ++ b.map e))) := by simp only [gAdd, gor, this, gAddI, gAddL]; rfl
  rw [e2, ← List.map_append]
theorem nm_rep {e : α → D} {oa : R (List α × S)} {ob : S → R (Int × S)} (ha : EHM fa E s oa (eL e)) (hb : ∀ s', ECM fb E s' (ob s') .int) : ENM (bop gMul fa fb) E s (oa.bind fun a => (ob a.2).bind fun b => (repR a.1 b.1).bind fun z => .ok (z, b.2)) (oL e) := nm_bop ha hb repR fun a b => chk_m fun h => by
  have : gMulL (.lst (a.map e)) (.int b) = some (.new (.lst (List.replicate b.toNat (a.map e)).flatten)) := if_pos (by rw [List.length_map, sl_eq]; exact h)
  show gMul (.lst (a.map e)) (.int b) = _
  simp only [gMul, gor, this, gMulI, map_rep]; rfl
theorem hm_ixL {e : α → D} {oa : R (List α × S)} {ob : S → R (Int × S)} (ha : EHM fa E s oa (eL e)) (hb : ∀ s', ECM fb E s' (ob s') .int) : EHM (bop gIx fa fb) E s (oa.bind fun a => (ob a.2).bind fun b => (ixR a.1 b.1).bind fun z => .ok (z, b.2)) e := hm_bop ha hb ixR fun a b => ix_m rfl
theorem hm_ixT {e : α → D} {oa : R (List α × S)} {ob : S → R (Int × S)} (ha : EHM fa E s oa (eT e)) (hb : ∀ s', ECM fb E s' (ob s') .int) : EHM (bop gIx fa fb) E s (oa.bind fun a => (ob a.2).bind fun b => (ixR a.1 b.1).bind fun z => .ok (z, b.2)) e := hm_bop ha hb ixR fun a b => ix_m rfl
theorem tm_tst {o : R (Bool × S)} (h : EHM fa E s o .bl) : TPM (tst fa) E s o := by
  cases o with
  | ok b =>
    obtain ⟨x, h1, h2⟩ := h
    rcases h2 with rfl | ⟨o, rfl, h3⟩
    · show tst fa (E s) = _
      simp only [tst, h1, Res.bind_ok]
    · cases o <;> cases h3
  | no => trivial
/-! arguments -/
theorem ahm_nil : AHM anil E s (.ok ((), s)) fun _ => [] := rfl
theorem ahm_cons {oa : R (α × S)} {ob : S → R (β × S)} {xs : β → List D} (h : EHM fe E s oa ca) (h' : ∀ s', AHM ga E s' (ob s') xs) : AHM (acons fe ga) E s (oa.bind fun a => (ob a.2).bind fun r => .ok ((a.1, r.1), r.2)) fun p => ca p.1 :: xs p.2 := by
  cases oa with
  | ok a =>
    obtain ⟨x, h1, h2⟩ := h
    have h'' := h' a.2
    cases c : ob a.2 with
    | ok r =>
      rw [c] at h''
      have h'' : ga (E a.2) = .ok ((xs r.1).map .val, E r.2) := h''
      simp only [R.bind_ok, c]
      show acons fe ga (E s) = _
      simp only [acons, h1, Res.bind_ok, h'', h2.settle, List.map_cons]
    | no => simp only [R.bind_ok, c, R.bind_no]; trivial
  | no => trivial
theorem hm_dsp {cz : α → D} {xs : α → List D} {oa : R (α × S)} (h : AHM ga E s oa xs) (n : Nat) (hn : ∀ a, (xs a).length ≤ 1000 := by intro _; exact Nat.le_of_ble_eq_true rfl) (hz : ∀ a, D.tup (xs a) = cz a := by intro _; rfl) : EHM (dsp (fun ds => .val (.tup ds)) ga) E s oa cz := by
  cases oa with
  | ok a =>
    have h' : ga (E s) = .ok ((xs a.1).map .val, E a.2) := h
    refine ⟨.val (.tup (xs a.1)), ?_, .inl (by rw [hz])⟩
    simp only [dsp, h', Res.bind_ok, holds_vals]
    rw [if_pos (by rw [sl_eq]; have := hn a.1; omega)]
  | no => trivial
theorem nm_dsp {cz : α → O} {xs : α → List D} {oa : R (α × S)} (h : AHM ga E s oa xs) (n : Nat) (hn : ∀ a, (xs a).length ≤ 1000 := by intro _; exact Nat.le_of_ble_eq_true rfl) (hz : ∀ a, O.lst (xs a) = cz a := by intro _; rfl) : ENM (dsp (fun ds => .new (.lst ds)) ga) E s oa cz := by
  cases oa with
  | ok a =>
    have h' : ga (E s) = .ok ((xs a.1).map .val, E a.2) := h
    show dsp _ ga (E s) = _
    simp only [dsp, h', Res.bind_ok, holds_vals]
    rw [if_pos (by rw [sl_eq]; have := hn a.1; omega), hz]
  | no => trivial
theorem conts_vals : ∀ (ds : List D) (env : En), conts (ds.map .val) env = some ds
  | [], env => rfl
  | d :: ds, env => by simp only [List.map_cons, conts, cont, conts_vals ds env]
theorem hm_cbn {cz : β → D} {xs : α → List D} {g : List D → Option Arg} {oa : R (α × S)} (h : AHM ga E s oa xs) (r : α → R β) (hg : ∀ a, match r a with | .ok z => g (xs a) = some (.val (cz z)) | .no => True) : EHM (cbn g ga) E s (oa.bind fun a => (r a.1).bind fun z => .ok (z, a.2)) cz := by
  cases oa with
  | ok a =>
    have h' : ga (E s) = .ok ((xs a.1).map .val, E a.2) := h
    have := hg a.1
    cases c : r a.1 with
    | ok z =>
      rw [c] at this
      simp only [R.bind_ok, c]
      exact ⟨.val (cz z), by simp only [cbn, h', Res.bind_ok, conts_vals, Option.bind_some, this], .inl rfl⟩
    | no => simp only [R.bind_ok, c, R.bind_no]; trivial
  | no => trivial
theorem nm_cbn {cz : β → O} {xs : α → List D} {g : List D → Option Arg} {oa : R (α × S)} (h : AHM ga E s oa xs) (r : α → R β) (hg : ∀ a, match r a with | .ok z => g (xs a) = some (.new (cz z)) | .no => True) : ENM (cbn g ga) E s (oa.bind fun a => (r a.1).bind fun z => .ok (z, a.2)) cz := by
  cases oa with
  | ok a =>
    have h' : ga (E s) = .ok ((xs a.1).map .val, E a.2) := h
    have := hg a.1
    cases c : r a.1 with
    | ok z =>
      rw [c] at this
      simp only [R.bind_ok, c]
      show cbn g ga (E s) = _
      simp only [cbn, h', Res.bind_ok, conts_vals, Option.bind_some, this]
    | no => simp only [R.bind_ok, c, R.bind_no]; trivial
  | no => trivial
/-! comprehensions that draw -/
def colM {δ β S : Type} (t : δ → S → R (Bool × S)) (f : δ → S → R (β × S)) : List δ → S → R (List β × S)
  | [], s => .ok ([], s)
  | d :: ds, s => (t d s).bind fun b => if b.1 = true then (f d b.2).bind fun y => (colM t f ds y.2).bind fun l => .ok (y.1 :: l.1, l.2) else colM t f ds b.2
noncomputable def lcM {δ β S : Type} (ds : List δ) (s : S) (t : δ → S → R (Bool × S)) (f : δ → S → R (β × S)) : R (List β × S) := (colM t f ds s).bind fun l => chk (l.1.length ≤ 16777216) (.ok l)
theorem lcL_colM {vs : List Nat} {C : S → En} {C1 : δ → S → En} {t : δ → S → R (Bool × S)} {f : δ → S → R (β × S)} (h1 : ∀ d s, tg (ed d) (C s) = .ok (C1 d s)) (h2 : ∀ d s, TPM tt (C1 d) s (t d s)) (h3 : ∀ d s, EHM fe (C1 d) s (f d s) cb) (h4 : ∀ d s, clr (C1 d s) vs = C s) :
    ∀ (ds : List δ) (acc : List D) (s : S) (l : List β × S), colM t f ds s = .ok l → acc.length + l.1.length ≤ sizeLine → lcL tg tt fe vs (ds.map ed) acc (C s) = .ok (acc ++ l.1.map cb, C l.2)
  | [], acc, s, l, h, _ => by cases h; simp [lcL]
  | d :: ds, acc, s, l, h, hl => by
    simp only [colM] at h
    have q2 := h2 d s
    cases ct : t d s with
    | no => rw [ct] at h; cases h
    | ok b =>
      rw [ct] at h q2
      have q2' : tt (C1 d s) = .ok (b.1, C1 d b.2) := q2
      obtain ⟨b, s1⟩ := b
      simp only [R.bind_ok] at h q2'
      cases b with
      | true =>
        rw [if_pos rfl] at h
        have q3 := h3 d s1
        cases cf : f d s1 with
        | no => rw [cf] at h; cases h
        | ok y =>
          rw [cf] at h q3
          obtain ⟨x, q4, q5⟩ := q3
          simp only [R.bind_ok] at h
          cases cr : colM t f ds y.2 with
          | no => rw [cr] at h; cases h
          | ok l' =>
            rw [cr] at h; cases h
            simp only [List.length_cons] at hl
            have hs : acc.length < sizeLine := by omega
            simp only [List.map_cons, lcL, h1, Res.bin, q2', if_true, q4, q5.hold, hs, h4]
            rw [lcL_colM h1 h2 h3 h4 ds (acc ++ [cb y.1]) y.2 l' cr (by simp only [List.length_append, List.length_cons, List.length_nil]; omega)]
            simp
      | false =>
        have h : colM t f ds s1 = .ok l := h
        simp only [List.map_cons, lcL, h1, Res.bin, q2', Bool.false_eq_true, if_false, h4]
        exact lcL_colM h1 h2 h3 h4 ds acc s1 l h hl
theorem nm_lc {vs : List Nat} {C : S → En} {C1 : δ → S → En} {t : δ → S → R (Bool × S)} {f : δ → S → R (β × S)} {o : R (List δ)} (hi : IT it (E s) o ed) (hp : plainS (E s) vs = true) (h0 : clr (E s) vs = C s) (h1 : ∀ d s, tg (ed d) (C s) = .ok (C1 d s)) (h2 : ∀ d s, TPM tt (C1 d) s (t d s)) (h3 : ∀ d s, EHM fe (C1 d) s (f d s) cb)
    (h4 : ∀ d s, clr (C1 d s) vs = C s) (h5 : ∀ s', rst (E s) (C s') vs = E s') : ENM (vlc it tg tt fe vs) E s (o.bind fun ds => lcM ds s t f) (oL cb) := by
  cases o with
  | ok ds =>
    have hi' : it (E s) = .ok (ds.map ed, E s) := hi
    show ENM _ _ _ (lcM ds s t f) _
    cases c : lcM ds s t f with
    | ok l =>
      unfold lcM at c
      cases c2 : colM t f ds s with
      | no => rw [c2] at c; cases c
      | ok l' =>
        rw [c2] at c
        obtain ⟨h6, h7⟩ := chk_ok c
        cases h7
        show vlc it tg tt fe vs (E s) = _
        simp only [vlc, hi', Res.bind_ok, hp, if_true, h0]
        rw [lcL_colM h1 h2 h3 h4 ds [] s l c2 (by rw [sl_eq]; simpa using h6)]
        simp only [Res.bin, h5, List.nil_append]
    | no => trivial
  | no => trivial
/-! calls that change what they are handed -/
def F1 {ρ : Type} (f : FFn) (as : List Sl) (o : R ρ) (vr : ρ → Sl) (mr : ρ → List (Option O)) : Prop := match o with
  | .ok r => f as = .ok (vr r) (mr r)
  | .no => True
theorem F0.f1 {ρ : Type} {f : FFn} {as : List Sl} {o : R ρ} {vr : ρ → Sl} (h : F0 f as o vr) : F1 f as o vr (fun _ => as.map fun _ => none) := h
/-- which slots are handed over to be changed -/
def apz : List (Option Nat) → List (Option O) → En → Option En
  | [], [], e => some e
  | some j :: ps, some o' :: os, e => apz ps os (setO e j o')
  | none :: ps, none :: os, e => apz ps os e
  | _, _, _ => none
structure PrepM (ms : List Md) (l : List Arg) (env : En) (as : List Sl) (ps : List Pa) (pz : List (Option Nat)) : Prop where
  pr : prep ms l env = some (ps, env)
  sl : slsOf env ps = some as
  mt : mslots ps = pz.filterMap id
  bs : bslots ps = []
  ap : ∀ os e, applyO ps os e = apz pz os e
def AKM (ms : List Md) (ga : FA) (E : S → En) (s : S) (o : R (γ × S)) (as : γ → S → List Sl) (pz : List (Option Nat)) : Prop := match o with
  | .ok r => ∃ l ps, ga (E s) = .ok (l, E r.2) ∧ PrepM ms l (E r.2) (as r.1 r.2) ps pz
  | .no => True
theorem km_nil : AKM [] anil E s (.ok ((), s)) (fun _ _ => []) [] := ⟨[], [], rfl, ⟨rfl, rfl, rfl, rfl, fun os e => by cases os <;> rfl⟩⟩
theorem prep1_hd {m : Md} {x : Arg} {d : D} {env : En} (hm : m = .rd ∨ m = .bw) (h : HV x d) : prep1 m (settle x) env = some (.hd d, env) := by
  rw [h.settle]
  rcases hm with rfl | rfl <;> rfl
theorem km_rd {m : Md} {ms : List Md} {oa : R (α × S)} {og : S → R (γ × S)} {as : γ → S → List Sl} {pz : List (Option Nat)} (h : EHM fe E s oa ca) (h' : ∀ s', AKM ms ga E s' (og s') as pz) (hm : m = .rd ∨ m = .bw := by first | exact .inl rfl | exact .inr rfl) :
    AKM (m :: ms) (acons fe ga) E s (oa.bind fun a => (og a.2).bind fun r => .ok ((a.1, r.1), r.2)) (fun p s' => .fz (ca p.1) :: as p.2 s') (none :: pz) := by
  cases oa with
  | ok a =>
    obtain ⟨x, h1, h2⟩ := h
    have h'' := h' a.2
    cases c : og a.2 with
    | ok r =>
      rw [c] at h''
      obtain ⟨l, ps, h3, p⟩ := h''
      simp only [R.bind_ok, c]
      refine ⟨settle x :: l, .hd (ca a.1) :: ps, by simp only [acons, h1, Res.bind_ok, h3], ⟨by simp only [prep, prep1_hd hm h2, p.pr], by simp only [slsOf, Pa.sl, p.sl], p.mt, p.bs, fun os e => ?_⟩⟩
      cases os with
      | nil => rfl
      | cons o os => cases o with
        | none => simp only [applyO, apz, p.ap]
        | some _ => rfl
    | no => simp only [R.bind_ok, c, R.bind_no]; trivial
  | no => trivial
theorem km_mt {i : Nat} {ms : List Md} {om : S → O} {og : R (γ × S)} {as : γ → S → List Sl} {pz : List (Option Nat)} (h : ∀ s, slotO (E s) i = some (om s)) (h' : AKM ms ga E s og as pz) :
    AKM (.mt :: ms) (acons (rdv i) ga) E s og (fun p s' => .mu (om s') :: as p s') (some i :: pz) := by
  cases og with
  | ok r =>
    obtain ⟨l, ps, h3, p⟩ := h'
    have e1 : ∀ s, rdv i (E s) = .ok (.slot i, E s) := fun s => by
      have h := h s
      unfold slotO at h
      unfold rdv
      split at h <;> simp_all
    refine ⟨.slot i :: l, .mt i :: ps, by simp only [acons, e1, Res.bind_ok, h3, settle], ⟨by simp only [prep, prep1, p.pr], by simp only [slsOf, Pa.sl, h, Option.map_some, p.sl], by simp only [mslots, p.mt]; rfl, p.bs, fun os e => ?_⟩⟩
    cases os with
    | nil => rfl
    | cons o os => cases o with
      | none => rfl
      | some o => simp only [applyO, apz, p.ap]
  | no => trivial
theorem callFm_ok {ms : List Md} {f : FFn} {l : List Arg} {ps : List Pa} {as : List Sl} {r : Sl} {x : Arg} {pz : List (Option Nat)} {env e1 e2 : En} {os : List (Option O)} (h1 : ga env = .ok (l, e1)) (p : PrepM ms l e1 as ps pz) (hf : f as = .ok r os) (hd : (pz.filterMap id).Nodup) (hx : toArg r = some x) (ha : apz pz os e1 = some e2) : callF ms f ga env = .ok (x, e2) := by
  have hc : clean ps e1 r os = true := by unfold clean; rw [p.bs]; rfl
  have ho : okPa ps = true := by
    unfold okPa; rw [p.mt, p.bs]
    simp only [List.all_nil, Bool.and_true, decide_eq_true_eq]; exact hd
  simp only [callF, h1, Res.bind_ok, p.pr, p.sl, ho, if_true, hf, hc, hx, p.ap, ha]
theorem hm_call {ρ M : Type} {ms : List Md} {f : FFn} {og : R (γ × S)} {as : γ → S → List Sl} {pz : List (Option Nat)} {t : γ → S → R (ρ × M)} {vr : ρ × M → Sl} {mr : ρ × M → List (Option O)} {c : ρ → D} (h : AKM ms ga E s og as pz) (up : S → M → S) (hf : ∀ r s', F1 f (as r s') (t r s') vr mr) (hv : ∀ r, vr r = .fz (c r.1) := by intro _; rfl)
    (hd : (pz.filterMap id).Nodup := by decide) (ha : ∀ r s', apz pz (mr r) (E s') = some (E (up s' r.2)) := by intro _ _; rfl) : EHM (callF ms f ga) E s (og.bind fun r => (t r.1 r.2).bind fun q => .ok (q.1, up r.2 q.2)) c := by
  cases og with
  | ok r =>
    obtain ⟨l, ps, h1, p⟩ := h
    have q := hf r.1 r.2
    cases ct : t r.1 r.2 with
    | ok z =>
      rw [ct] at q
      have q' : f (as r.1 r.2) = .ok (.fz (c z.1)) (mr z) := by rw [← hv]; exact q
      simp only [R.bind_ok, ct]
      exact ⟨_, callFm_ok h1 p q' hd rfl (ha z r.2), .inl rfl⟩
    | no => simp only [R.bind_ok, ct, R.bind_no]; trivial
  | no => trivial
theorem nm_call {ρ M : Type} {ms : List Md} {f : FFn} {og : R (γ × S)} {as : γ → S → List Sl} {pz : List (Option Nat)} {t : γ → S → R (ρ × M)} {vr : ρ × M → Sl} {mr : ρ × M → List (Option O)} {c : ρ → O} (h : AKM ms ga E s og as pz) (up : S → M → S) (hf : ∀ r s', F1 f (as r s') (t r s') vr mr) (hv : ∀ r, vr r = .ow (c r.1) := by intro _; rfl)
    (hd : (pz.filterMap id).Nodup := by decide) (ha : ∀ r s', apz pz (mr r) (E s') = some (E (up s' r.2)) := by intro _ _; rfl) : ENM (callF ms f ga) E s (og.bind fun r => (t r.1 r.2).bind fun q => .ok (q.1, up r.2 q.2)) c := by
  cases og with
  | ok r =>
    obtain ⟨l, ps, h1, p⟩ := h
    have q := hf r.1 r.2
    cases ct : t r.1 r.2 with
    | ok z =>
      rw [ct] at q
      have q' : f (as r.1 r.2) = .ok (.ow (c z.1)) (mr z) := by rw [← hv]; exact q
      simp only [R.bind_ok, ct]
      exact callFm_ok h1 p q' hd rfl (ha z r.2)
    | no => simp only [R.bind_ok, ct, R.bind_no]; trivial
  | no => trivial
/-! methods of a list -/
theorem hm_mth {i : Nat} {gm : List D → List D → Option (List D × D)} {xs : β → List D} {oa : R (β × S)} {ls : S → List D} {cz : γ → D} (hA : AHM ga E s oa xs) (ho : ∀ s, slotO (E s) i = some (.lst (ls s))) (r : β → S → R (γ × S))
    (hg : ∀ b s, match r b s with | .ok z => ∃ us, gm (ls s) (xs b) = some (us, cz z.1) ∧ setO (E s) i (.lst us) = E z.2 | .no => True) : EHM (mcall i gm ga) E s (oa.bind fun a => r a.1 a.2) cz := by
  cases oa with
  | ok a =>
    have h' : ga (E s) = .ok ((xs a.1).map .val, E a.2) := hA
    have := hg a.1 a.2
    show EHM _ _ _ (r a.1 a.2) _
    cases c : r a.1 a.2 with
    | ok z =>
      rw [c] at this
      obtain ⟨us, h1, h2⟩ := this
      exact ⟨.val (cz z.1), by simp only [mcall, ho, h', Res.bind_ok, holds_vals, h1, h2], .inl rfl⟩
    | no => trivial
  | no => trivial
end
end PL

/-! TL: statements, defs. -/
namespace PL
open PySem L2
inductive Otc (σ ρ : Type) where
  | go (s : σ)
  | bk (s : σ)
  | rt (r : ρ)
def Otc.to {σ ρ ω : Type} (o : Otc σ ρ) (fr : ρ → R ω) (fs : σ → R ω) : R ω := match o with
  | .go s => fs s
  | .bk s => fs s
  | .rt r => fr r
@[simp] theorem Otc.to_go {σ ρ ω : Type} (s : σ) (fr : ρ → R ω) (fs : σ → R ω) : (Otc.go s : Otc σ ρ).to fr fs = fs s := rfl
@[simp] theorem Otc.to_rt {σ ρ ω : Type} (r : ρ) (fr : ρ → R ω) (fs : σ → R ω) : (Otc.rt r : Otc σ ρ).to fr fs = fr r := rfl
def foldR {δ σ : Type} (f : δ → σ → R σ) : List δ → σ → R σ
  | [], s => .ok s
  | d :: ds, s => (f d s).bind fun s' => foldR f ds s'
def loopR {δ σ ρ : Type} (f : δ → σ → R (Otc σ ρ)) : List δ → σ → R (Otc σ ρ)
  | [], s => .ok (.go s)
  | d :: ds, s => (f d s).bind fun o => match o with
    | .go s' => loopR f ds s'
    | .bk s' => .ok (.go s')
    | .rt r => .ok (.rt r)
def whlR {σ : Type} (c : σ → R Bool) (f : σ → R σ) : Nat → σ → R σ
  | 0, _ => .no
  | n + 1, s => (c s).bind fun b => if b = true then (f s).bind fun s' => whlR c f n s' else .ok s
def whlO {σ ρ : Type} (c : σ → R Bool) (f : σ → R (Otc σ ρ)) : Nat → σ → R (Otc σ ρ)
  | 0, _ => .no
  | n + 1, s => (c s).bind fun b => if b = true then (f s).bind fun o => (match o with
    | .go s' => whlO c f n s'
    | .bk s' => .ok (.go s')
    | .rt r => .ok (.rt r)) else .ok (.go s)
section
variable {α β γ δ σ ρ ω S : Type} {I : ω → RS → Prop}
def CB (g : FS) (env : En) (o : R ω) (I : ω → RS → Prop) : Prop := match o with
  | .ok w => I w (g env)
  | .no => True
def IRt (vr : ρ → Sl) (M : ρ → En → Prop) : ρ → RS → Prop := fun r rs => ∃ e, rs = .rt (vr r) e ∧ M r e
/-- None behind the last statement, too -/
def IRn (vr : ρ → Sl) (M : ρ → En → Prop) : ρ → RS → Prop := fun r rs => ∃ e, (rs = .rt (vr r) e ∨ (rs = .nx e ∧ vr r = .fz .non)) ∧ M r e
def ILp (js : List Ad) (E : σ → En) : σ → RS → Prop := fun s rs => ∃ e, (rs = .nx e ∨ rs = .ct e) ∧ adj js e = E s
def INx (js : List Ad) (E : σ → En) : σ → RS → Prop := fun s rs => ∃ e, rs = .nx e ∧ adj js e = E s
def IOut (js : List Ad) (E : σ → En) (vr : ρ → Sl) (M : ρ → En → Prop) : Otc σ ρ → RS → Prop := fun o rs => match o with
  | .go s => ∃ e, (rs = .nx e ∨ rs = .ct e) ∧ adj js e = E s
  | .bk s => ∃ e, rs = .bk e ∧ adj js e = E s
  | .rt r => ∃ e, rs = .rt (vr r) e ∧ M r e
variable {g g1 g2 h : FS} {env env' : En} {fe fa fb : FE} {E : S → En} {s : S}
theorem cb_eq {o : R ω} {g' : FS} {e' : En} (hh : g' e' = g env) (h : CB g env o I) : CB g' e' o I := by
  cases o with
  | ok w => show I w (g' e'); rw [hh]; exact h
  | no => trivial
theorem cb_bind {o : R α} {k : α → R ω} (hh : ∀ a, o = .ok a → CB g env (k a) I) : CB g env (o.bind k) I := by
  cases o with
  | ok a => exact hh a rfl
  | no => trivial
theorem c_nx {w : ω} (h : I w (.nx env)) : CB RS.nx env (.ok w) I := h
theorem c_ct {w : ω} (h : I w (.ct env)) : CB (sseq RS.ct g) env (.ok w) I := h
theorem c_bk {w : ω} (h : I w (.bk env)) : CB (sseq RS.bk g) env (.ok w) I := h
theorem c_nxg {o : R ω} (h : CB g env o I) : CB (sseq RS.nx g) env o I := h
theorem c_pass {o : R ω} (h : CB g env o I) : CB (sseq RS.nx g) env o I := h
theorem c_assoc {o : R ω} (hh : CB (sseq g1 (sseq g2 h)) env o I) : CB (sseq (sseq g1 g2) h) env o I := by
  refine cb_eq ?_ hh
  simp only [sseq]
  cases g1 env <;> rfl
theorem c_pre {o : R ω} {as : List Ad} (e' : En) (hh : CB (sseq g h) e' o I) (he : adj as env = e' := by exact adjR rfl) : CB (sseq (spre as g) h) env o I := by
  subst he; exact hh
/-! assignments -/
theorem sasgF_ok {i : Nat} {x : Arg} {d : D} {env e1 : En} (h : fe env = .ok (x, e1)) (hv : HV x d) (hb : okB e1[i]? = true) : sadj [.fz i] (sasg i fe) env = .nx (e1.set i (some (.fz d))) := by
  rcases hv with rfl | ⟨o, rfl, rfl⟩
  · simp only [sadj, sasg, h, Res.go_ok, x_bindA1, x_bindD, hb, if_true, RS.adj, adj, ad1]
    have : (e1.set i (some (Sl.fz d)))[i]? = some (some (.fz d)) := by
      cases c : e1[i]? with
      | none => rw [c] at hb; cases hb
      | some y => exact get_set_eq c
    rw [this]
  · simp only [sadj, sasg, h, Res.go_ok, x_bindA2, hb, if_true, RS.adj, adj, ad1]
    have : (e1.set i (some (Sl.ow o)))[i]? = some (some (.ow o)) := by
      cases c : e1[i]? with
      | none => rw [c] at hb; cases hb
      | some y => exact get_set_eq c
    rw [this]
    simp only [List.set_set]
theorem c_asg {i : Nat} {o : R α} {c : α → D} {k : α → R ω} (E' : α → En) (he : EH fe env o c) (hk : ∀ a, CB g (E' a) (k a) I) (hb : okB env[i]? = true := by rfl) (h' : ∀ a, env.set i (some (.fz (c a))) = E' a := by intro _; rfl) : CB (sseq (sadj [.fz i] (sasg i fe)) g) env (o.bind k) I := by
  cases o with
  | ok a =>
    obtain ⟨x, h1, h2⟩ := he
    refine cb_eq ?_ (hk a)
    simp only [sseq]
    rw [sasgF_ok h1 h2 hb, h']
  | no => trivial
theorem c_asgM {i : Nat} {o : R (α × S)} {c : α → D} {k : α → S → R ω} (E' : α → S → En) (he : EHM fe E s o c) (hk : ∀ a s, CB g (E' a s) (k a s) I) (hb : ∀ s, okB (E s)[i]? = true := by intro _; rfl) (h' : ∀ a s, (E s).set i (some (.fz (c a))) = E' a s := by intro _ _; rfl) : CB (sseq (sadj [.fz i] (sasg i fe)) g) (E s) (o.bind fun p => k p.1 p.2) I := by
  cases o with
  | ok a =>
    obtain ⟨x, h1, h2⟩ := he
    refine cb_eq ?_ (hk a.1 a.2)
    simp only [sseq]
    rw [sasgF_ok h1 h2 (hb _), h']
  | no => trivial
theorem c_asgN {i : Nat} {o : R α} {c : α → O} {k : α → R ω} (E' : α → En) (he : EN fe env o c) (hk : ∀ a, CB g (E' a) (k a) I) (hb : okB env[i]? = true := by rfl) (h' : ∀ a, env.set i (some (.ow (c a))) = E' a := by intro _; rfl) : CB (sseq (sasg i fe) g) env (o.bind k) I := by
  cases o with
  | ok a =>
    have he' : fe env = .ok (.new (c a), env) := he
    refine cb_eq ?_ (hk a)
    simp only [sseq, sasg, he', Res.go_ok, x_bindA2, hb, if_true, h']
  | no => trivial
theorem c_asgNM {i : Nat} {o : R (α × S)} {c : α → O} {k : α → S → R ω} (E' : α → S → En) (he : ENM fe E s o c) (hk : ∀ a s, CB g (E' a s) (k a s) I) (hb : ∀ s, okB (E s)[i]? = true := by intro _; rfl) (h' : ∀ a s, (E s).set i (some (.ow (c a))) = E' a s := by intro _ _; rfl) : CB (sseq (sasg i fe) g) (E s) (o.bind fun p => k p.1 p.2) I := by
  cases o with
  | ok a =>
    have he' : fe (E s) = .ok (.new (c a.1), E a.2) := he
    refine cb_eq ?_ (hk a.1 a.2)
    simp only [sseq, sasg, he', Res.go_ok, x_bindA2, hb, if_true, h']
  | no => trivial
theorem c_asgT {tg : FG} {o : R α} {c : α → D} {k : α → R ω} (E' : α → En) (he : EH fe env o c) (hk : ∀ a, CB g (E' a) (k a) I) (h' : ∀ a, tg (c a) env = .ok (E' a) := by intro _; rfl) : CB (sseq (sasgT tg fe) g) env (o.bind k) I := by
  cases o with
  | ok a =>
    obtain ⟨x, h1, h2⟩ := he
    refine cb_eq ?_ (hk a)
    simp only [sseq, sasgT, h1, Res.go_ok, h2.hold, h']
  | no => trivial
theorem c_asgTM {tg : FG} {o : R (α × S)} {c : α → D} {k : α → S → R ω} (E' : α → S → En) (he : EHM fe E s o c) (hk : ∀ a s, CB g (E' a s) (k a s) I) (h' : ∀ a s, tg (c a) (E s) = .ok (E' a s) := by intro _ _; rfl) : CB (sseq (sasgT tg fe) g) (E s) (o.bind fun p => k p.1 p.2) I := by
  cases o with
  | ok a =>
    obtain ⟨x, h1, h2⟩ := he
    refine cb_eq ?_ (hk a.1 a.2)
    simp only [sseq, sasgT, h1, Res.go_ok, h2.hold, h']
  | no => trivial
theorem c_exp {o : R α} {c : α → D} {k : R ω} (he : EH fe env o c) (hk : CB g env k I) : CB (sseq (sexp fe) g) env (o.bind fun _ => k) I := by
  cases o with
  | ok a =>
    obtain ⟨x, h1, h2⟩ := he
    refine cb_eq ?_ hk
    simp only [sseq, sexp, h1, Res.go_ok]
  | no => trivial
theorem c_expM {o : R (α × S)} {c : α → D} {k : S → R ω} (he : EHM fe E s o c) (hk : ∀ s, CB g (E s) (k s) I) : CB (sseq (sexp fe) g) (E s) (o.bind fun p => k p.2) I := by
  cases o with
  | ok a =>
    obtain ⟨x, h1, h2⟩ := he
    refine cb_eq ?_ (hk a.2)
    simp only [sseq, sexp, h1, Res.go_ok]
  | no => trivial
/-! a list is added to -/
noncomputable def appR {α : Type} (l : List α) (a : α) : R (List α) := chk (l.length < 16777216) (.ok (l ++ [a]))
theorem c_app {i : Nat} {l : List α} {o : R α} {c : α → D} {k : List α → R ω} (E' : List α → En) (he : EH fe env o c) (hk : ∀ l', CB g (E' l') (k l') I) (h0 : slotO env i = some (oL c l) := by rfl) (h' : ∀ l', setO env i (oL c l') = E' l' := by intro _; rfl) :
    CB (sseq (sexp (mcall i gApp (acons fe anil))) g) env (o.bind fun a => (appR l a).bind k) I := by
  cases o with
  | ok a =>
    obtain ⟨x, h1, h2⟩ := he
    show CB _ _ ((appR l a).bind k) I
    refine cb_bind fun l' hl => ?_
    obtain ⟨h3, h4⟩ := chk_ok hl
    cases h4
    refine cb_eq ?_ (hk _)
    have e1 : gApp (l.map c) [c a] = some ((l ++ [a]).map c, .non) := by
      rw [List.map_append]; exact if_pos (by rw [List.length_map, sl_eq]; exact h3)
    have e2 : holds (settle x :: []) env = some ([c a], env) := by rw [h2.settle]; rfl
    simp only [sseq, sexp, mcall, h0, acons, anil, h1, Res.bind_ok, e2, e1, Res.go_ok]
    rw [← h']
  | no => trivial
theorem c_appM {i : Nat} {ls : S → List α} {o : R (α × S)} {c : α → D} {k : List α → S → R ω} (E' : List α → S → En) (he : EHM fe E s o c) (hk : ∀ l' s, CB g (E' l' s) (k l' s) I) (h0 : ∀ s, slotO (E s) i = some (oL c (ls s)) := by intro _; rfl) (h' : ∀ l' s, setO (E s) i (oL c l') = E' l' s := by intro _ _; rfl) :
    CB (sseq (sexp (mcall i gApp (acons fe anil))) g) (E s) (o.bind fun p => (appR (ls p.2) p.1).bind fun l => k l p.2) I := by
  cases o with
  | ok a =>
    obtain ⟨x, h1, h2⟩ := he
    show CB _ _ ((appR (ls a.2) a.1).bind fun l => k l a.2) I
    refine cb_bind fun l' hl => ?_
    obtain ⟨h3, h4⟩ := chk_ok hl
    cases h4
    refine cb_eq ?_ (hk _ _)
    have e1 : gApp ((ls a.2).map c) [c a.1] = some ((ls a.2 ++ [a.1]).map c, .non) := by
      rw [List.map_append]; exact if_pos (by rw [List.length_map, sl_eq]; exact h3)
    have e2 : holds (settle x :: []) (E a.2) = some ([c a.1], E a.2) := by rw [h2.settle]; rfl
    simp only [sseq, sexp, mcall, h0, acons, anil, h1, Res.bind_ok, e2, e1, Res.go_ok]
    rw [← h']
  | no => trivial
/-- a list's last item goes -/
def popR {α : Type} (l : List α) : R (α × List α) := match l.getLast? with
  | some a => .ok (a, l.dropLast)
  | none => .no
theorem c_pop {i : Nat} {l : List α} {c : α → D} {k : List α → R ω} (E' : List α → En) (hk : ∀ l', CB g (E' l') (k l') I) (h0 : slotO env i = some (oL c l) := by rfl) (h' : ∀ l', setO env i (oL c l') = E' l' := by intro _; rfl) :
    CB (sseq (sexp (mcall i gPop anil)) g) env ((popR l).bind fun p => k p.2) I := by
  refine cb_bind fun p hp => ?_
  unfold popR at hp
  split at hp
  · rename_i a ha
    cases hp
    refine cb_eq ?_ (hk _)
    have e1 : gPop (l.map c) [] = some ((l.dropLast).map c, c a) := by
      simp only [gPop, List.length_map, List.getElem?_map]
      rw [← List.getLast?_eq_getElem?, ha, List.map_dropLast]
      rfl
    simp only [sseq, sexp, mcall, h0, anil, Res.bind_ok, holds, e1, Res.go_ok]
    rw [← h']
  · cases hp
noncomputable def setR {α : Type} (l : List α) (i : Int) (a : α) : R (List α) := match ixN l.length i with
  | some m => .ok (l.set m a)
  | none => .no
theorem c_setix {j : Nat} {l : List α} {o : R α} {u : R Int} {c : α → D} {k : List α → R ω} (E' : List α → En) (hv : EH fa env o c) (hi : EC fb env u .int) (hk : ∀ l', CB g (E' l') (k l') I) (h0 : slotO env j = some (oL c l) := by rfl) (h' : ∀ l', setO env j (oL c l') = E' l' := by intro _; rfl) :
    CB (sseq (sset j fa fb) g) env (o.bind fun a => u.bind fun i => (setR l i a).bind k) I := by
  cases o with
  | no => trivial
  | ok a =>
    cases u with
    | no => trivial
    | ok i =>
      obtain ⟨x, h1, h2⟩ := hv
      obtain ⟨y, h3, h4⟩ := hi
      show CB _ _ ((setR l i a).bind k) I
      refine cb_bind fun l' hl => ?_
      unfold setR at hl
      split at hl
      · rename_i m hm
        cases hl
        refine cb_eq ?_ (hk _)
        have hm' : ixN (l.map c).length i = some m := by rw [List.length_map]; exact hm
        simp only [sseq, sset, h1, Res.go_ok, h2.hold, h0, h3, h4, hm']
        rw [← h', ← List.map_set]
      · cases hl
theorem c_aug {op : Int → Int → Int} {i : Nat} {n : Int} {o : R Int} {k : Int → R ω} (E' : Int → En) (he : EC fe env o .int) (hk : ∀ a, CB g (E' a) (k a) I) (h0 : env[i]? = some (some (.fz (.int n))) := by rfl) (h' : ∀ a, env.set i (some (.fz (.int a))) = E' a := by intro _; rfl) :
    CB (sseq (saug op i fe) g) env (o.bind fun a => k (op n a)) I := by
  cases o with
  | ok a =>
    obtain ⟨x, h1, h2⟩ := he
    refine cb_eq ?_ (hk _)
    rw [← h']
    simp only [sseq, saug, h0, h1, Res.go_ok, h2, x_bindD, okB_fz, if_true]
  | no => trivial
/-! results -/
theorem c_ret {o : R α} {c : α → D} {w : α → ω} (he : EH fe env o c) (hI : ∀ a, I (w a) (.rt (.fz (c a)) env)) : CB (sseq (sretF fe) g) env (o.bind fun a => .ok (w a)) I := by
  cases o with
  | ok a =>
    obtain ⟨x, h1, h2⟩ := he
    show I (w a) _
    have : sseq (sretF fe) g env = .rt (.fz (c a)) env := by simp only [sseq, sretF, h1, Res.go_ok, h2.hold]
    rw [this]; exact hI a
  | no => trivial
theorem c_retM {o : R (α × S)} {c : α → D} {w : α → S → ω} (he : EHM fe E s o c) (hI : ∀ a s, I (w a s) (.rt (.fz (c a)) (E s))) : CB (sseq (sretF fe) g) (E s) (o.bind fun a => .ok (w a.1 a.2)) I := by
  cases o with
  | ok a =>
    obtain ⟨x, h1, h2⟩ := he
    show I (w a.1 a.2) _
    have : sseq (sretF fe) g (E s) = .rt (.fz (c a.1)) (E a.2) := by simp only [sseq, sretF, h1, Res.go_ok, h2.hold]
    rw [this]; exact hI a.1 a.2
  | no => trivial
theorem c_retN {o : R α} {c : α → O} {w : α → ω} (he : EN fe env o c) (hI : ∀ a, I (w a) (.rt (.ow (c a)) env)) : CB (sseq (sret fe) g) env (o.bind fun a => .ok (w a)) I := by
  cases o with
  | ok a =>
    have he' : fe env = .ok (.new (c a), env) := he
    show I (w a) _
    have : sseq (sret fe) g env = .rt (.ow (c a)) env := by simp only [sseq, sret, he', Res.go_ok]
    rw [this]; exact hI a
  | no => trivial
theorem c_retNM {o : R (α × S)} {c : α → O} {w : α → S → ω} (he : ENM fe E s o c) (hI : ∀ a s, I (w a s) (.rt (.ow (c a)) (E s))) : CB (sseq (sret fe) g) (E s) (o.bind fun a => .ok (w a.1 a.2)) I := by
  cases o with
  | ok a =>
    have he' : fe (E s) = .ok (.new (c a.1), E a.2) := he
    show I (w a.1 a.2) _
    have : sseq (sret fe) g (E s) = .rt (.ow (c a.1)) (E a.2) := by simp only [sseq, sret, he', Res.go_ok]
    rw [this]; exact hI a.1 a.2
  | no => trivial
theorem c_retO {i : Nat} {o : O} {w : ω} (e' : En) (h0 : env[i]? = some (some (.ow o)) := by rfl) (he : env.set i none = e' := by rfl) (hI : I w (.rt (.ow o) e')) : CB (sseq (sret (rdv i)) g) env (.ok w) I := by
  have : sseq (sret (rdv i)) g env = .rt (.ow o) e' := by
    simp only [sseq, sret, rdv, h0, Res.go_ok, he]
  show I w _
  rw [this]; exact hI
theorem c_ret0 {w : ω} (hI : I w (.rt (.fz .non) env)) : CB (sseq (fun env => RS.rt (.fz .non) env) g) env (.ok w) I := hI
/-! branches -/
theorem c_if {c : FT} {o : R Bool} {ka kb : R ω} (hc : TP c env o) (ha : CB (sseq g1 g) env ka I) (hb : CB (sseq g2 g) env kb I) : CB (sseq (sif c g1 g2) g) env (o.bind fun b => if b = true then ka else kb) I := by
  cases o with
  | ok b =>
    have h' : c env = .ok (b, env) := hc
    cases b with
    | true => exact cb_eq (by simp only [sseq, sif, h', Res.go_ok, if_true]) ha
    | false => exact cb_eq (by simp only [sseq, sif, h', Res.go_ok, Bool.false_eq_true, if_false]) hb
  | no => trivial
theorem c_ifM {c : FT} {o : R (Bool × S)} {ka kb : S → R ω} (hc : TPM c E s o) (ha : ∀ s, CB (sseq g1 g) (E s) (ka s) I) (hb : ∀ s, CB (sseq g2 g) (E s) (kb s) I) : CB (sseq (sif c g1 g2) g) (E s) (o.bind fun b => if b.1 = true then ka b.2 else kb b.2) I := by
  cases o with
  | ok b =>
    obtain ⟨b, s1⟩ := b
    have h' : c (E s) = .ok (b, E s1) := hc
    cases b with
    | true => exact cb_eq (by simp only [sseq, sif, h', Res.go_ok, if_true]) (ha s1)
    | false => exact cb_eq (by simp only [sseq, sif, h', Res.go_ok, Bool.false_eq_true, if_false]) (hb s1)
  | no => trivial
/-- both ways go on alike -/
theorem c_ifJ {c : FT} {o : R Bool} {ka kb : R σ} {k : σ → R ω} {ja jb : List Ad} (N : σ → En) (hc : TP c env o) (ha : CB g1 env ka (INx ja N)) (hb : CB g2 env kb (INx jb N)) (hk : ∀ s, CB g (N s) (k s) I) : CB (sseq (sif c (sadj ja g1) (sadj jb g2)) g) env ((o.bind fun b => if b = true then ka else kb).bind k) I := by
  cases o with
  | ok b =>
    have h' : c env = .ok (b, env) := hc
    cases b with
    | true =>
      cases ka with
      | ok s =>
        obtain ⟨e, h1, h2⟩ := ha
        exact cb_eq (by simp only [sseq, sif, h', Res.go_ok, if_true, sadj, h1, RS.adj, h2]) (hk s)
      | no => trivial
    | false =>
      cases kb with
      | ok s =>
        obtain ⟨e, h1, h2⟩ := hb
        exact cb_eq (by simp only [sseq, sif, h', Res.go_ok, Bool.false_eq_true, if_false, sadj, h1, RS.adj, h2]) (hk s)
      | no => trivial
  | no => trivial
theorem c_ifJM {c : FT} {o : R (Bool × S)} {ka kb : S → R σ} {k : σ → R ω} {ja jb : List Ad} (N : σ → En) (hc : TPM c E s o) (ha : ∀ s, CB g1 (E s) (ka s) (INx ja N)) (hb : ∀ s, CB g2 (E s) (kb s) (INx jb N)) (hk : ∀ s, CB g (N s) (k s) I) : CB (sseq (sif c (sadj ja g1) (sadj jb g2)) g) (E s) ((o.bind fun b => if b.1 = true then ka b.2 else kb b.2).bind k) I := by
  cases o with
  | ok b =>
    obtain ⟨b, s1⟩ := b
    have h' : c (E s) = .ok (b, E s1) := hc
    cases b with
    | true =>
      have ha := ha s1
      simp only [R.bind_ok, if_true]
      cases q : ka s1 with
      | ok t =>
        rw [q] at ha
        obtain ⟨e, h1, h2⟩ := ha
        exact cb_eq (by simp only [sseq, sif, h', Res.go_ok, if_true, sadj, h1, RS.adj, h2]) (hk t)
      | no => trivial
    | false =>
      have hb := hb s1
      simp only [R.bind_ok, Bool.false_eq_true, if_false]
      cases q : kb s1 with
      | ok t =>
        rw [q] at hb
        obtain ⟨e, h1, h2⟩ := hb
        exact cb_eq (by simp only [sseq, sif, h', Res.go_ok, Bool.false_eq_true, if_false, sadj, h1, RS.adj, h2]) (hk t)
      | no => trivial
  | no => trivial
/-! loops -/
theorem forL_fold {tg : FG} {body : FS} {js : List Ad} {ed : δ → D} {F : σ → En} {E1 : δ → σ → En} {b : δ → σ → R σ} (ht : ∀ d s, tg (ed d) (F s) = .ok (E1 d s)) (hb : ∀ d s, CB body (E1 d s) (b d s) (ILp js F)) :
    ∀ (ds : List δ) (s s' : σ), foldR b ds s = .ok s' → forL tg (sadj js body) (ds.map ed) (F s) = .nx (F s')
  | [], s, s', h => by cases h; rfl
  | d :: ds, s, s', h => by
    simp only [foldR] at h
    have q := hb d s
    cases c : b d s with
    | no => rw [c] at h; cases h
    | ok s1 =>
      rw [c] at h q
      obtain ⟨e, h1, h2⟩ := q
      have ih := forL_fold ht hb ds s1 s' h
      simp only [List.map_cons, forL, ht, Res.go_ok, sadj]
      rcases h1 with h1 | h1 <;> (rw [h1]; simp only [RS.adj, h2]; exact ih)
theorem c_for {it : FI} {tg : FG} {body : FS} {js : List Ad} {ed : δ → D} {E1 : δ → σ → En} {b : δ → σ → R σ} {o : R (List δ)} {k : σ → R ω} {s0 : σ} (F : σ → En) (hi : IT it (F s0) o ed) (hb : ∀ d s, CB body (E1 d s) (b d s) (ILp js F)) (hk : ∀ s, CB g (F s) (k s) I) (ht : ∀ d s, tg (ed d) (F s) = .ok (E1 d s) := by intro _ _; rfl) :
    CB (sseq (sfor it tg (sadj js body)) g) (F s0) ((o.bind fun ds => foldR b ds s0).bind k) I := by
  cases o with
  | ok ds =>
    have hi' : it (F s0) = .ok (ds.map ed, F s0) := hi
    refine cb_bind fun s hs => ?_
    refine cb_eq ?_ (hk s)
    have := forL_fold ht hb ds s0 s hs
    simp only [sseq, sfor, hi', Res.go_ok, this]
  | no => trivial
theorem forL_loop {tg : FG} {body : FS} {js : List Ad} {ed : δ → D} {F : σ → En} {E1 : δ → σ → En} {b : δ → σ → R (Otc σ ρ)} {vr : ρ → Sl} {M : ρ → En → Prop} (ht : ∀ d s, tg (ed d) (F s) = .ok (E1 d s)) (hb : ∀ d s, CB body (E1 d s) (b d s) (IOut js F vr M)) :
    ∀ (ds : List δ) (s : σ) (w : Otc σ ρ), loopR b ds s = .ok w → match w with
      | .go s' => forL tg (sadj js body) (ds.map ed) (F s) = .nx (F s')
      | .bk _ => False
      | .rt r => ∃ e, forL tg (sadj js body) (ds.map ed) (F s) = .rt (vr r) e ∧ M r e
  | [], s, s', h => by cases h; rfl
  | d :: ds, s, w, h => by
    simp only [loopR] at h
    have q := hb d s
    cases c : b d s with
    | no => rw [c] at h; cases h
    | ok o =>
      rw [c] at h q
      cases o with
      | go s1 =>
        obtain ⟨e, h1, h2⟩ := q
        have ih := forL_loop ht hb ds s1 w h
        have e0 : forL tg (sadj js body) ((d :: ds).map ed) (F s) = forL tg (sadj js body) (ds.map ed) (F s1) := by
          simp only [List.map_cons, forL, ht, Res.go_ok, sadj]
          rcases h1 with h1 | h1 <;> (rw [h1]; simp only [RS.adj, h2])
        rw [e0]; exact ih
      | bk s1 =>
        obtain ⟨e, h1, h2⟩ := q
        cases h
        simp only [List.map_cons, forL, ht, Res.go_ok, sadj, h1, RS.adj, h2]
      | rt r =>
        obtain ⟨e, h1, h2⟩ := q
        cases h
        exact ⟨e, by simp only [List.map_cons, forL, ht, Res.go_ok, sadj, h1, RS.adj], h2⟩
theorem c_forO {it : FI} {tg : FG} {body : FS} {js : List Ad} {ed : δ → D} {E1 : δ → σ → En} {b : δ → σ → R (Otc σ ρ)} {vr : ρ → Sl} {M : ρ → En → Prop} {o : R (List δ)} {k : σ → R ω} {kr : ρ → R ω} {s0 : σ} (F : σ → En) (hi : IT it (F s0) o ed) (hb : ∀ d s, CB body (E1 d s) (b d s) (IOut js F vr M)) (hk : ∀ s, CB g (F s) (k s) I)
    (hr : ∀ r e, M r e → match kr r with | .ok w => I w (.rt (vr r) e) | .no => True) (ht : ∀ d s, tg (ed d) (F s) = .ok (E1 d s) := by intro _ _; rfl) :
    CB (sseq (sfor it tg (sadj js body)) g) (F s0) ((o.bind fun ds => loopR b ds s0).bind fun w => w.to kr k) I := by
  cases o with
  | ok ds =>
    have hi' : it (F s0) = .ok (ds.map ed, F s0) := hi
    refine cb_bind fun w hw => ?_
    have := forL_loop ht hb ds s0 w hw
    cases w with
    | go s =>
      refine cb_eq ?_ (hk s)
      have this : forL tg (sadj js body) (ds.map ed) (F s0) = .nx (F s) := this
      simp only [sseq, sfor, hi', Res.go_ok, this]
    | bk s => exact this.elim
    | rt r =>
      obtain ⟨e, h1, h2⟩ := this
      have := hr r e h2
      have e0 : sseq (sfor it tg (sadj js body)) g (F s0) = .rt (vr r) e := by simp only [sseq, sfor, hi', Res.go_ok, h1]
      show CB _ _ (kr r) I
      cases c : kr r with
      | ok w =>
        rw [c] at this
        show I w _
        rw [e0]; exact this
      | no => trivial
  | no => trivial
theorem whl_fold {c : FT} {body : FS} {js : List Ad} {F : σ → En} {tc : σ → R Bool} {b : σ → R σ} (hc : ∀ s, TP c (F s) (tc s)) (hb : ∀ s, CB body (F s) (b s) (ILp js F)) :
    ∀ (n : Nat) (s s' : σ), whlR tc b n s = .ok s' → whl c (sadj js body) n (F s) = .nx (F s')
  | 0, s, s', h => by cases h
  | n + 1, s, s', h => by
    simp only [whlR] at h
    have q := hc s
    cases t : tc s with
    | no => rw [t] at h; cases h
    | ok x =>
      rw [t] at h q
      have q' : c (F s) = .ok (x, F s) := q
      cases x with
      | false => cases h; simp only [whl, q', Res.go_ok, Bool.false_eq_true, if_false]
      | true =>
        have h : ((b s).bind fun s' => whlR tc b n s') = .ok s' := h
        have q2 := hb s
        cases u : b s with
        | no => rw [u] at h; cases h
        | ok s1 =>
          rw [u] at h q2
          obtain ⟨e, h1, h2⟩ := q2
          have ih := whl_fold hc hb n s1 s' h
          simp only [whl, q', Res.go_ok, if_true, sadj]
          rcases h1 with h1 | h1 <;> (rw [h1]; simp only [RS.adj, h2]; exact ih)
theorem c_whl {c : FT} {body : FS} {js : List Ad} {tc : σ → R Bool} {b : σ → R σ} {k : σ → R ω} {s0 : σ} (F : σ → En) (hc : ∀ s, TP c (F s) (tc s)) (hb : ∀ s, CB body (F s) (b s) (ILp js F)) (hk : ∀ s, CB g (F s) (k s) I) :
    CB (sseq (whl c (sadj js body) fuel) g) (F s0) ((whlR tc b fuel s0).bind k) I := by
  refine cb_bind fun s hs => ?_
  refine cb_eq ?_ (hk s)
  have := whl_fold hc hb fuel s0 s hs
  simp only [sseq, this]
theorem whl_loop {c : FT} {body : FS} {js : List Ad} {F : σ → En} {tc : σ → R Bool} {b : σ → R (Otc σ ρ)} {vr : ρ → Sl} {M : ρ → En → Prop} (hc : ∀ s, TP c (F s) (tc s)) (hb : ∀ s, CB body (F s) (b s) (IOut js F vr M)) :
    ∀ (n : Nat) (s : σ) (w : Otc σ ρ), whlO tc b n s = .ok w → match w with
      | .go s' => whl c (sadj js body) n (F s) = .nx (F s')
      | .bk _ => False
      | .rt r => ∃ e, whl c (sadj js body) n (F s) = .rt (vr r) e ∧ M r e
  | 0, s, w, h => by cases h
  | n + 1, s, w, h => by
    simp only [whlO] at h
    have q := hc s
    cases t : tc s with
    | no => rw [t] at h; cases h
    | ok x =>
      rw [t] at h q
      have q' : c (F s) = .ok (x, F s) := q
      cases x with
      | false => cases h; simp only [whl, q', Res.go_ok, Bool.false_eq_true, if_false]
      | true =>
        rw [R.bind_ok, if_pos rfl] at h
        have q2 := hb s
        cases u : b s with
        | no => rw [u] at h; cases h
        | ok o =>
          rw [u] at h q2
          cases o with
          | go s1 =>
            obtain ⟨e, h1, h2⟩ := q2
            have ih := whl_loop hc hb n s1 w h
            have e0 : whl c (sadj js body) (n + 1) (F s) = whl c (sadj js body) n (F s1) := by
              simp only [whl, q', Res.go_ok, if_true, sadj]
              rcases h1 with h1 | h1 <;> (rw [h1]; simp only [RS.adj, h2])
            rw [e0]; exact ih
          | bk s1 =>
            obtain ⟨e, h1, h2⟩ := q2
            cases h
            simp only [whl, q', Res.go_ok, if_true, sadj, h1, RS.adj, h2]
          | rt r =>
            obtain ⟨e, h1, h2⟩ := q2
            cases h
            exact ⟨e, by simp only [whl, q', Res.go_ok, if_true, sadj, h1, RS.adj], h2⟩
theorem c_whlO {c : FT} {body : FS} {js : List Ad} {tc : σ → R Bool} {b : σ → R (Otc σ ρ)} {vr : ρ → Sl} {M : ρ → En → Prop} {k : σ → R ω} {kr : ρ → R ω} {s0 : σ} (F : σ → En) (hc : ∀ s, TP c (F s) (tc s)) (hb : ∀ s, CB body (F s) (b s) (IOut js F vr M)) (hk : ∀ s, CB g (F s) (k s) I) (hr : ∀ r e, M r e → match kr r with | .ok w => I w (.rt (vr r) e) | .no => True) :
    CB (sseq (whl c (sadj js body) fuel) g) (F s0) ((whlO tc b fuel s0).bind fun w => w.to kr k) I := by
  refine cb_bind fun w hw => ?_
  have := whl_loop hc hb fuel s0 w hw
  cases w with
  | go s =>
    refine cb_eq ?_ (hk s)
    have this : whl c (sadj js body) fuel (F s0) = .nx (F s) := this
    simp only [sseq, this]
  | bk s => exact this.elim
  | rt r =>
    obtain ⟨e, h1, h2⟩ := this
    have := hr r e h2
    have e0 : sseq (whl c (sadj js body) fuel) g (F s0) = .rt (vr r) e := by simp only [sseq, h1]
    show CB _ _ (kr r) I
    cases c : kr r with
    | ok w =>
      rw [c] at this
      show I w _
      rw [e0]; exact this
    | no => trivial
/-! defs -/
theorem f_mk {n : Nat} {m : FS} {args : List Sl} {o : R ρ} {vr : ρ → Sl} {mr : ρ → List (Option O)} (env : En) (h : CB m env o (IRt vr fun r e => muts args e = mr r)) (he : callEnv args n = env := by rfl) : F1 (runF n m) args o vr mr := by
  subst he
  cases o with
  | ok r =>
    obtain ⟨e, h1, h2⟩ := h
    exact runF_rt rfl h1 h2
  | no => trivial
theorem f_mk0 {n : Nat} {m : FS} {args : List Sl} {o : R ρ} {vr : ρ → Sl} (env : En) (h : CB m env o (IRt vr fun r e => muts args e = args.map fun _ => none)) (he : callEnv args n = env := by rfl) : F0 (runF n m) args o vr := f_mk (mr := fun _ => args.map fun _ => none) env h he
theorem f_mkn {n : Nat} {m : FS} {args : List Sl} {o : R ρ} {vr : ρ → Sl} {mr : ρ → List (Option O)} (env : En) (h : CB m env o (IRn vr fun r e => muts args e = mr r)) (he : callEnv args n = env := by rfl) : F1 (runF n m) args o vr mr := by
  subst he
  cases o with
  | ok r =>
    obtain ⟨e, h1, h2⟩ := h
    show runF n m args = _
    rcases h1 with h1 | ⟨h1, h3⟩
    · exact runF_rt rfl h1 h2
    · simp only [runF, h1, h2, h3]
  | no => trivial
end
end PL

/-! TL: lists or tuples; more of what changes slots. -/
namespace PL
open PySem L2
section
variable {α β γ δ : Type}
/-- a tuple (true) or a list (false) -/
abbrev eS (e : α → D) : Bool × List α → D := fun p => match p.1 with
  | true => .tup (p.2.map e)
  | false => .lst (p.2.map e)
variable {env : En} {fa fb fe : FE} {e : α → D} {fo go : FO} {lo hi : R (Option Int)}
theorem i_S {o : R (Bool × List α)} (h : EH fa env o (eS e)) : IT (itSeq fa) env (o.bind fun p => .ok p.2) e := by
  cases o with
  | ok a =>
    obtain ⟨b, l⟩ := a
    obtain ⟨x, h1, h2⟩ := h
    cases b with
    | true =>
      show itSeq fa env = .ok (l.map e, env)
      have h2 : HV x (.tup (l.map e)) := h2
      simp only [itSeq, h1, Res.bind_ok, h2.hold]
    | false =>
      show itSeq fa env = .ok (l.map e, env)
      have h2 : HV x (.lst (l.map e)) := h2
      simp only [itSeq, h1, Res.bind_ok, h2.hold]
  | no => trivial
theorem h_lenQ {o : R (Bool × List α)} (h : EC fa env o (eS e)) : EH (cbn cLen (acons fa anil)) env (o.bind fun a => .ok (a.2.length : Int)) .int := h_cbn (ac1 h) _ fun a => by
  obtain ⟨b, l⟩ := a; cases b <;> simp [cLen, vI]
theorem n_listQ {o : R (Bool × List α)} (h : EC fa env o (eS e)) : EN (cbn cList (acons fa anil)) env (o.bind fun a => .ok a.2) (oL e) := n_cbn (ac1 h) _ fun a => by
  obtain ⟨b, l⟩ := a; cases b <;> rfl
theorem h_tupQ {o : R (Bool × List α)} (h : EC fa env o (eS e)) : EH (cbn cTuple (acons fa anil)) env (o.bind fun a => .ok a.2) (eT e) := h_cbn (ac1 h) _ fun a => by
  obtain ⟨b, l⟩ := a; cases b <;> rfl
theorem h_ixQ {oa : R (Bool × List α)} {ob : R Int} (ha : EC fa env oa (eS e)) (hb : EC fb env ob .int) : EH (bop gIx fa fb) env (oa.bind fun a => ob.bind fun b => ixR a.2 b) e := h_bop ha hb _ fun a b => by
  obtain ⟨c, l⟩ := a; cases c <;> exact ix_m rfl
theorem t_seq {o : R (Bool × List α)} (h : EC fa env o (eS e)) : TP (trt fa) env (o.bind fun a => .ok (!a.2.isEmpty)) := t_tru h _ fun a => by
  obtain ⟨b, l⟩ := a; cases b <;> cases l <;> rfl
theorem h_slQ {o : R (Bool × List α)} (ha : EC fa env o (eS e)) (hl : OP fo env lo) (hh : OP go env hi) : EH (vsl fa fo go) env (o.bind fun a => lo.bind fun u => hi.bind fun v => .ok (a.1, cut a.2 u v)) (eS e) := by
  cases o with
  | ok a => cases lo with
    | ok u => cases hi with
      | ok v =>
        obtain ⟨b, l⟩ := a
        cases b with
        | true => exact ⟨.val (.tup (cut (l.map e) u v)), vsl_ok ha hl hh rfl, .inl (by rw [cut_map])⟩
        | false => exact ⟨.new (.lst (cut (l.map e) u v)), vsl_ok ha hl hh rfl, .inr ⟨_, rfl, by rw [cut_map]; rfl⟩⟩
      | no => trivial
    | no => trivial
  | no => trivial
end
section
variable {α β γ δ S ω : Type} {E : S → En} {s : S} {fe fa fb fc : FE} {ga : FA} {ta tb : FT} {I : ω → RS → Prop} {g : FS}
/-! tests -/
theorem tm_not {o : R (Bool × S)} (h : TPM ta E s o) : TPM (tnot ta) E s (o.bind fun a => .ok (!a.1, a.2)) := by
  cases o with
  | ok b =>
    have h' : ta (E s) = .ok (b.1, E b.2) := h
    show tnot ta (E s) = _
    simp only [tnot, h', Res.bind_ok]
  | no => trivial
theorem tm_and {o : R (Bool × S)} {u : S → R (Bool × S)} (h : TPM ta E s o) (h2 : ∀ s', TPM tb E s' (u s')) : TPM (tand ta tb) E s (o.bind fun a => if a.1 = true then u a.2 else .ok (false, a.2)) := by
  cases o with
  | ok b =>
    obtain ⟨b, s1⟩ := b
    have h' : ta (E s) = .ok (b, E s1) := h
    have e0 : tand ta tb (E s) = if b = true then tb (E s1) else .ok (false, E s1) := by simp only [tand, h', Res.bind_ok]
    cases b with
    | true =>
      have := h2 s1
      show TPM _ _ _ (u s1)
      unfold TPM at this ⊢
      rw [e0]; exact this
    | false => exact e0
  | no => trivial
theorem tm_or {o : R (Bool × S)} {u : S → R (Bool × S)} (h : TPM ta E s o) (h2 : ∀ s', TPM tb E s' (u s')) : TPM (tor ta tb) E s (o.bind fun a => if a.1 = true then .ok (true, a.2) else u a.2) := by
  cases o with
  | ok b =>
    obtain ⟨b, s1⟩ := b
    have h' : ta (E s) = .ok (b, E s1) := h
    have e0 : tor ta tb (E s) = if b = true then .ok (true, E s1) else tb (E s1) := by simp only [tor, h', Res.bind_ok]
    cases b with
    | true => exact e0
    | false =>
      have := h2 s1
      show TPM _ _ _ (u s1)
      unfold TPM at this ⊢
      rw [e0]; exact this
  | no => trivial
theorem tm_bl {o : R (Bool × S)} (h : ECM fa E s o .bl) : TPM (trt fa) E s o := by
  cases o with
  | ok b =>
    obtain ⟨x, h1, h2⟩ := h
    show trt fa (E s) = _
    simp only [trt, h1, Res.bind_ok, h2, Option.bind_some, tru]
  | no => trivial
/-! built-ins -/
section
variable {xs : α → List D} {oa : R (α × S)} {gb : List D → Option Arg}
theorem hm_cbnT {cz : β → D} (h : AHM ga E s oa xs) (f : α → β) (hg : ∀ a, gb (xs a) = some (.val (cz (f a)))) : EHM (cbn gb ga) E s (oa.bind fun a => .ok (f a.1, a.2)) cz := hm_cbn h (fun a => .ok (f a)) hg
theorem nm_cbnT {cz : β → O} (h : AHM ga E s oa xs) (f : α → β) (hg : ∀ a, gb (xs a) = some (.new (cz (f a)))) : ENM (cbn gb ga) E s (oa.bind fun a => .ok (f a.1, a.2)) cz := nm_cbn h (fun a => .ok (f a)) hg
end
theorem hm_intI {o : R ((Int × Unit) × S)} (h : AHM ga E s o fun p => [D.int p.1]) : EHM (cbn cInt ga) E s (o.bind fun a => .ok (a.1.1, a.2)) .int := hm_cbnT h (·.1) fun _ => rfl
theorem hm_intB {o : R ((Bool × Unit) × S)} (h : AHM ga E s o fun p => [D.bl p.1]) : EHM (cbn cInt ga) E s (o.bind fun a => .ok (if a.1.1 = true then (1 : Int) else 0, a.2)) .int := hm_cbnT h (fun p => if p.1 = true then 1 else 0) fun _ => rfl
theorem hm_abs {o : R ((Int × Unit) × S)} (h : AHM ga E s o fun p => [D.int p.1]) : EHM (cbn cAbs ga) E s (o.bind fun a => .ok ((a.1.1.natAbs : Int), a.2)) .int := hm_cbnT h (fun p => (p.1.natAbs : Int)) fun a => by
  have : (if a.1 < 0 then -a.1 else a.1) = (a.1.natAbs : Int) := by split <;> omega
  simp [cAbs, vI, this]
theorem hm_max {o : R ((Int × Int × Unit) × S)} (h : AHM ga E s o fun p => [D.int p.1, D.int p.2.1]) : EHM (cbn cMax2 ga) E s (o.bind fun a => .ok (max a.1.1 a.1.2.1, a.2)) .int := hm_cbnT h (fun p => max p.1 p.2.1) fun a => by
  have : (if a.2.1 > a.1 then a.2.1 else a.1) = max a.1 a.2.1 := by split <;> omega
  simp only [cMax2, vI, this]
theorem hm_min {o : R ((Int × Int × Unit) × S)} (h : AHM ga E s o fun p => [D.int p.1, D.int p.2.1]) : EHM (cbn cMin2 ga) E s (o.bind fun a => .ok (min a.1.1 a.1.2.1, a.2)) .int := hm_cbnT h (fun p => min p.1 p.2.1) fun a => by
  have : (if a.2.1 < a.1 then a.2.1 else a.1) = min a.1 a.2.1 := by split <;> omega
  simp only [cMin2, vI, this]
theorem nm_sortI {o : R ((List Int × Unit) × S)} (h : AHM ga E s o fun p => [eL D.int p.1]) : ENM (cbn cSorted ga) E s (o.bind fun a => .ok (sortI a.1.1, a.2)) (oL D.int) := nm_cbnT h (fun p => sortI p.1) fun a => by simp [cSorted, intsOf_map]
theorem hm_tupL {e : α → D} {o : R ((List α × Unit) × S)} (h : AHM ga E s o fun p => [eL e p.1]) : EHM (cbn cTuple ga) E s (o.bind fun a => .ok (a.1.1, a.2)) (eT e) := hm_cbnT h (·.1) fun _ => rfl
theorem nm_listL {e : α → D} {o : R ((List α × Unit) × S)} (h : AHM ga E s o fun p => [eL e p.1]) : ENM (cbn cList ga) E s (o.bind fun a => .ok (a.1.1, a.2)) (oL e) := nm_cbnT h (·.1) fun _ => rfl
theorem nm_listT {e : α → D} {o : R ((List α × Unit) × S)} (h : AHM ga E s o fun p => [eT e p.1]) : ENM (cbn cList ga) E s (o.bind fun a => .ok (a.1.1, a.2)) (oL e) := nm_cbnT h (·.1) fun _ => rfl
theorem hm_lenL {e : α → D} {o : R ((List α × Unit) × S)} (h : AHM ga E s o fun p => [eL e p.1]) : EHM (cbn cLen ga) E s (o.bind fun a => .ok ((a.1.1.length : Int), a.2)) .int := hm_cbnT h (fun p => (p.1.length : Int)) fun a => by simp [cLen, vI]
/-! a place of a list goes -/
noncomputable def popAtR {α : Type} (l : List α) (i : Int) : R (α × List α) := chk (-(2 ^ 63) ≤ i ∧ i < 2 ^ 63) (match seqIndex? i l.length with
  | some j => (match l[j]? with
    | some a => .ok (a, l.eraseIdx j)
    | none => .no)
  | none => .no)
theorem map_eraseIdx' {α β : Type} (f : α → β) : ∀ (l : List α) (j : Nat), (l.map f).eraseIdx j = (l.eraseIdx j).map f
  | [], j => rfl
  | a :: l, 0 => rfl
  | a :: l, j + 1 => by simp [map_eraseIdx' f l j]
theorem popAt_ok {α : Type} {e : α → D} {l : List α} {i : Int} {z : α × List α} (h : popAtR l i = .ok z) : gPopAt (l.map e) [.int i] = some (z.2.map e, e z.1) := by
  obtain ⟨h1, h2⟩ := chk_ok h
  split at h2
  · rename_i j hj
    split at h2
    · rename_i a ha
      cases h2
      show (if -(2 ^ 63) ≤ i ∧ i < 2 ^ 63 then (seqIndex? i (l.map e).length).bind fun j => ((l.map e)[j]?).map fun d => ((l.map e).eraseIdx j, d) else none) = _
      rw [if_pos h1, List.length_map, hj]
      simp [ha, map_eraseIdx']
    · cases h2
  · cases h2
theorem hm_popAt {i : Nat} {e : α → D} {ls : S → List α} {up : S → List α → S} {o : R (Int × S)} (hA : EHM fa E s o .int) (ho : ∀ s, slotO (E s) i = some (.lst ((ls s).map e)) := by intro _; rfl) (hu : ∀ s l, setO (E s) i (.lst (l.map e)) = E (up s l) := by intro _ _; rfl) :
    EHM (mcall i gPopAt (acons fa anil)) E s (o.bind fun a => (popAtR (ls a.2) a.1).bind fun z => .ok (z.1, up a.2 z.2)) e := by
  cases o with
  | ok a =>
    obtain ⟨x, h1, h2⟩ := hA
    show EHM _ _ _ ((popAtR (ls a.2) a.1).bind fun z => .ok (z.1, up a.2 z.2)) _
    cases c : popAtR (ls a.2) a.1 with
    | ok z =>
      have q := popAt_ok (e := e) c
      have e2 : holds (settle x :: []) (E a.2) = some ([.int a.1], E a.2) := by rw [h2.settle]; rfl
      exact ⟨.val (e z.1), by simp only [mcall, ho, acons, anil, h1, Res.bind_ok, e2, q, hu], .inl rfl⟩
    | no => trivial
  | no => trivial
theorem c_clear {i : Nat} {env : En} {l : List α} {c : α → D} {k : List α → R ω} (E' : List α → En) (hk : ∀ l', CB g (E' l') (k l') I) (h0 : slotO env i = some (oL c l) := by rfl) (h' : ∀ l', setO env i (oL c l') = E' l' := by intro _; rfl) :
    CB (sseq (sexp (mcall i gClear anil)) g) env ((R.ok ([] : List α)).bind k) I := by
  refine cb_eq ?_ (hk [])
  simp only [sseq, sexp, mcall, h0, anil, Res.bind_ok, holds, gClear, Res.go_ok]
  rw [← h']
  rfl
/-! calls with arguments that change slots -/
theorem hm_call0 {ρ : Type} {ms : List Md} {f : FFn} {og : R (γ × S)} {as : γ → S → List Sl} {pz : List (Option Nat)} {t : γ → S → R ρ} {vr : ρ → Sl} {c : ρ → D} (h : AKM ms ga E s og as pz) (hf : ∀ r s', F0 f (as r s') (t r s') vr) (hv : ∀ r, vr r = .fz (c r) := by intro _; rfl)
    (hd : (pz.filterMap id).Nodup := by decide) (ha : ∀ r s', apz pz ((as r s').map fun _ => none) (E s') = some (E s') := by intro _ _; rfl) : EHM (callF ms f ga) E s (og.bind fun r => (t r.1 r.2).bind fun q => .ok (q, r.2)) c := by
  cases og with
  | ok r =>
    obtain ⟨l, ps, h1, p⟩ := h
    have q := hf r.1 r.2
    cases ct : t r.1 r.2 with
    | ok z =>
      rw [ct] at q
      have q' : f (as r.1 r.2) = .ok (.fz (c z)) ((as r.1 r.2).map fun _ => none) := by rw [← hv]; exact q
      simp only [R.bind_ok, ct]
      exact ⟨_, callFm_ok h1 p q' hd rfl (ha r.1 r.2), .inl rfl⟩
    | no => simp only [R.bind_ok, ct, R.bind_no]; trivial
  | no => trivial
theorem nm_call0 {ρ : Type} {ms : List Md} {f : FFn} {og : R (γ × S)} {as : γ → S → List Sl} {pz : List (Option Nat)} {t : γ → S → R ρ} {vr : ρ → Sl} {c : ρ → O} (h : AKM ms ga E s og as pz) (hf : ∀ r s', F0 f (as r s') (t r s') vr) (hv : ∀ r, vr r = .ow (c r) := by intro _; rfl)
    (hd : (pz.filterMap id).Nodup := by decide) (ha : ∀ r s', apz pz ((as r s').map fun _ => none) (E s') = some (E s') := by intro _ _; rfl) : ENM (callF ms f ga) E s (og.bind fun r => (t r.1 r.2).bind fun q => .ok (q, r.2)) c := by
  cases og with
  | ok r =>
    obtain ⟨l, ps, h1, p⟩ := h
    have q := hf r.1 r.2
    cases ct : t r.1 r.2 with
    | ok z =>
      rw [ct] at q
      have q' : f (as r.1 r.2) = .ok (.ow (c z)) ((as r.1 r.2).map fun _ => none) := by rw [← hv]; exact q
      simp only [R.bind_ok, ct]
      exact callFm_ok h1 p q' hd rfl (ha r.1 r.2)
    | no => simp only [R.bind_ok, ct, R.bind_no]; trivial
  | no => trivial
/-! several names at once. A part: what is stored where, new (N) or frozen (H) -/
structure PartOk (N : Bool) (x : Arg) (sl : Sl) : Prop where
  ns : ∀ j, x ≠ .slot j
  n : N = true → ∃ o, x = .new o ∧ sl = .ow o
  h : N = false → ∃ d, HV x d ∧ sl = .fz d
theorem PartOk.ofN {o : O} : PartOk true (.new o) (.ow o) := { ns := fun _ h => (nomatch h), n := fun _ => ⟨o, rfl, rfl⟩, h := fun h => (nomatch h) }
theorem PartOk.ofH {x : Arg} {d : D} (h : HV x d) : PartOk false x (.fz d) := { ns := fun j e => (by subst e; rcases h with h | ⟨o, h, _⟩ <;> cases h), n := fun h => (nomatch h), h := fun _ => ⟨d, h, rfl⟩ }
/-- stored and, where wanted, frozen -/
def put1 (N : Bool) (i : Nat) : List Ad := if N = true then [] else [.fz i]
theorem fixS_part {N : Bool} {x : Arg} {sl : Sl} {e : En} (h : PartOk N x sl) : fixS x e = some (x, e) := by
  cases x with
  | slot j => exact absurd rfl (h.ns j)
  | val d => rfl
  | new o => rfl
theorem bindA_part {N : Bool} {x : Arg} {sl : Sl} {e : En} {i : Nat} (h : PartOk N x sl) (hb : okB e[i]? = true) : ∃ y : Sl, bindA i x e = .ok (e.set i (some y)) ∧ (y = sl ∨ ∃ o, N = false ∧ y = .ow o ∧ sl = .fz o.toD) := by
  cases N with
  | true =>
    obtain ⟨o, rfl, rfl⟩ := h.n rfl
    exact ⟨.ow o, by rw [x_bindA2, if_pos hb], .inl rfl⟩
  | false =>
    obtain ⟨d, hv, rfl⟩ := h.h rfl
    rcases hv with rfl | ⟨o, rfl, rfl⟩
    · exact ⟨.fz d, by rw [x_bindA1, x_bindD, if_pos hb], .inl rfl⟩
    · exact ⟨.ow o, by rw [x_bindA2, if_pos hb], .inr ⟨o, rfl, rfl, rfl⟩⟩
theorem okB_set {e : En} {i j : Nat} {y : Sl} (h : okB e[j]? = true) (hy : ∀ o, y ≠ .mu o) : okB (e.set i (some y))[j]? = true := by
  by_cases q : j = i
  · subst q
    cases c : e[j]? with
    | none => rw [c] at h; cases h
    | some z => rw [get_set_eq c]; cases y <;> first | rfl | exact absurd rfl (hy _)
  · rw [get_set_ne q]; exact h
theorem ad_fz {e : En} {i : Nat} {y sl : Sl} {N : Bool} (h : y = sl ∨ ∃ o, N = false ∧ y = .ow o ∧ sl = .fz o.toD) (hs : N = false → ∃ d, sl = .fz d) (hi : e[i]? = some (some y)) : adj (put1 N i) e = e.set i (some sl) := by
  have same : ∀ {z : Sl}, e[i]? = some (some z) → e.set i (some z) = e := fun {z} q => by
    have h1 := (List.getElem?_eq_some_iff.mp q).2
    rw [← h1, List.set_getElem_self]
  cases N with
  | true =>
    rcases h with rfl | ⟨o, h, _⟩
    · exact (same hi).symm
    · cases h
  | false =>
    obtain ⟨d, rfl⟩ := hs rfl
    show adj [.fz i] e = _
    rcases h with rfl | ⟨o, _, rfl, h⟩
    · simp only [adj, ad1, hi]; exact (same hi).symm
    · simp only [adj, ad1, hi, h]
theorem adj_app (as bs : List Ad) (e : En) : adj (as ++ bs) e = adj bs (adj as e) := by
  induction as generalizing e with
  | nil => rfl
  | cons a as ih => exact ih _
theorem set_comm' {e : En} {i j : Nat} {x y : Option Sl} (h : i ≠ j) : (e.set i x).set j y = (e.set j y).set i x := List.set_comm _ _ h
theorem put_set {e : En} {i : Nat} {x : Arg} {y sl : Sl} {N : Bool} (p : PartOk N x sl) (h : y = sl ∨ ∃ o, N = false ∧ y = .ow o ∧ sl = .fz o.toD) (hb : okB e[i]? = true) : adj (put1 N i) (e.set i (some y)) = e.set i (some sl) := by
  have gi : ∃ z, e[i]? = some z := by cases c : e[i]? with | none => rw [c] at hb; cases hb | some z => exact ⟨z, rfl⟩
  obtain ⟨z, gi⟩ := gi
  rw [ad_fz h (fun h => let ⟨d, _, e⟩ := p.h h; ⟨d, e⟩) (get_set_eq gi), List.set_set]
theorem put_comm {e : En} {i j : Nat} {y : Option Sl} {N : Bool} (h : i ≠ j) : adj (put1 N i) (e.set j y) = (adj (put1 N i) e).set j y := by
  cases N with
  | true => rfl
  | false =>
    show ad1 (.fz i) (e.set j y) = (ad1 (.fz i) e).set j y
    simp only [ad1]
    rw [get_set_ne h]
    split
    · exact set_comm' h.symm
    · rfl
theorem part_m {N : Bool} {x : Arg} {y sl : Sl} (p : PartOk N x sl) (h : y = sl ∨ ∃ o, N = false ∧ y = .ow o ∧ sl = .fz o.toD) : ∀ o, y ≠ .mu o := fun o z => by
  subst z
  rcases h with r | ⟨o', _, r, _⟩
  · cases N with
    | true => obtain ⟨o', _, r'⟩ := p.n rfl; rw [r'] at r; cases r
    | false => obtain ⟨o', _, r'⟩ := p.h rfl; rw [r'] at r; cases r
  · cases r
theorem part_m' {N : Bool} {x : Arg} {sl : Sl} (p : PartOk N x sl) : ∀ o, sl ≠ .mu o := part_m (y := sl) p (.inl rfl)
/-- two at once -/
theorem par2_ok {N1 N2 : Bool} {x1 x2 : Arg} {s1 s2 : Sl} {i j : Nat} {e0 e1 e2 : En} (hij : i ≠ j) (h1 : fa e0 = .ok (x1, e1)) (h2 : fb e1 = .ok (x2, e2)) (p1 : PartOk N1 x1 s1) (p2 : PartOk N2 x2 s2) (b1 : okB e2[i]? = true) (b2 : okB e2[j]? = true) :
    sadj (put1 N1 i ++ put1 N2 j) (spar [i, j] [fa, fb]) e0 = .nx ((e2.set i (some s1)).set j (some s2)) := by
  obtain ⟨y1, q1, r1⟩ := bindA_part (i := i) p1 b1
  obtain ⟨y2, q2, r2⟩ := bindA_part (i := j) p2 (okB_set (i := i) b2 (part_m p1 r1))
  simp only [sadj, spar, evU, h1, Res.bind_ok, fixS_part p1, h2, fixS_part p2, Res.go_ok, stores, q1, q2, RS.adj]
  rw [adj_app, put_comm hij, put_set p1 r1 b1, put_set p2 r2 (okB_set (i := i) b2 (part_m' p1))]
theorem par3_ok {N1 N2 N3 : Bool} {x1 x2 x3 : Arg} {s1 s2 s3 : Sl} {i j l : Nat} {e0 e1 e2 e3 : En} (hij : i ≠ j) (hil : i ≠ l) (hjl : j ≠ l) (h1 : fa e0 = .ok (x1, e1)) (h2 : fb e1 = .ok (x2, e2)) (h3 : fc e2 = .ok (x3, e3)) (p1 : PartOk N1 x1 s1) (p2 : PartOk N2 x2 s2) (p3 : PartOk N3 x3 s3) (b1 : okB e3[i]? = true) (b2 : okB e3[j]? = true) (b3 : okB e3[l]? = true) :
    sadj (put1 N1 i ++ (put1 N2 j ++ put1 N3 l)) (spar [i, j, l] [fa, fb, fc]) e0 = .nx (((e3.set i (some s1)).set j (some s2)).set l (some s3)) := by
  obtain ⟨y1, q1, r1⟩ := bindA_part (i := i) p1 b1
  obtain ⟨y2, q2, r2⟩ := bindA_part (i := j) p2 (okB_set (i := i) b2 (part_m p1 r1))
  obtain ⟨y3, q3, r3⟩ := bindA_part (i := l) p3 (okB_set (i := j) (okB_set (i := i) b3 (part_m p1 r1)) (part_m p2 r2))
  simp only [sadj, spar, evU, h1, Res.bind_ok, fixS_part p1, h2, fixS_part p2, h3, fixS_part p3, Res.go_ok, stores, q1, q2, q3, RS.adj]
  rw [adj_app, adj_app, put_comm hil, put_comm hij, put_set p1 r1 b1, put_comm hjl, put_set p2 r2 (okB_set (i := i) b2 (part_m' p1)), put_set p3 r3 (okB_set (i := j) (okB_set (i := i) b3 (part_m' p1)) (part_m' p2))]
/-- a part of a parallel store -/
def PM' (N : Bool) (fe : FE) (E : S → En) (s : S) (o : R (α × S)) (c : α → Sl) : Prop := match o with
  | .ok a => ∃ x, fe (E s) = .ok (x, E a.2) ∧ PartOk N x (c a.1)
  | .no => True
theorem EHM.pm {o : R (α × S)} {c : α → D} (h : EHM fe E s o c) : PM' false fe E s o fun a => .fz (c a) := by
  cases o with
  | ok a => obtain ⟨x, h1, h2⟩ := h; exact ⟨x, h1, .ofH h2⟩
  | no => trivial
theorem ENM.pm {o : R (α × S)} {c : α → O} (h : ENM fe E s o c) : PM' true fe E s o fun a => .ow (c a) := by
  cases o with
  | ok a => exact ⟨_, h, .ofN⟩
  | no => trivial
theorem c_par2 {N1 N2 : Bool} {i j : Nat} {al : List Ad} {oa : R (α × S)} {ob : S → R (β × S)} {c1 : α → Sl} {c2 : β → Sl} {k : α → β → S → R ω} (E' : α → β → S → En) (h1 : PM' N1 fa E s oa c1) (h2 : ∀ s, PM' N2 fb E s (ob s) c2) (hk : ∀ a b s, CB g (E' a b s) (k a b s) I)
    (hij : i ≠ j := by decide) (hal : put1 N1 i ++ put1 N2 j = al := by rfl) (b1 : ∀ s, okB (E s)[i]? = true := by intro _; rfl) (b2 : ∀ s, okB (E s)[j]? = true := by intro _; rfl) (h' : ∀ a b s, ((E s).set i (some (c1 a))).set j (some (c2 b)) = E' a b s := by intro _ _ _; rfl) :
    CB (sseq (sadj al (spar [i, j] [fa, fb])) g) (E s) (oa.bind fun a => (ob a.2).bind fun b => k a.1 b.1 b.2) I := by
  subst hal
  cases oa with
  | no => trivial
  | ok a =>
    obtain ⟨x1, q1, p1⟩ := h1
    have h2' := h2 a.2
    show CB _ _ ((ob a.2).bind fun b => k a.1 b.1 b.2) I
    cases c : ob a.2 with
    | no => trivial
    | ok b =>
      rw [c] at h2'
      obtain ⟨x2, q2, p2⟩ := h2'
      refine cb_eq ?_ (hk a.1 b.1 b.2)
      rw [← h']
      have := par2_ok hij q1 q2 p1 p2 (b1 _) (b2 _)
      simp only [sseq, this]
theorem c_par3 {N1 N2 N3 : Bool} {i j l : Nat} {al : List Ad} {oa : R (α × S)} {ob : S → R (β × S)} {oc : S → R (γ × S)} {c1 : α → Sl} {c2 : β → Sl} {c3 : γ → Sl} {k : α → β → γ → S → R ω} (E' : α → β → γ → S → En) (h1 : PM' N1 fa E s oa c1) (h2 : ∀ s, PM' N2 fb E s (ob s) c2) (h3 : ∀ s, PM' N3 fc E s (oc s) c3) (hk : ∀ a b c s, CB g (E' a b c s) (k a b c s) I)
    (hij : i ≠ j := by decide) (hil : i ≠ l := by decide) (hjl : j ≠ l := by decide) (hal : put1 N1 i ++ (put1 N2 j ++ put1 N3 l) = al := by rfl) (b1 : ∀ s, okB (E s)[i]? = true := by intro _; rfl) (b2 : ∀ s, okB (E s)[j]? = true := by intro _; rfl) (b3 : ∀ s, okB (E s)[l]? = true := by intro _; rfl) (h' : ∀ a b c s, (((E s).set i (some (c1 a))).set j (some (c2 b))).set l (some (c3 c)) = E' a b c s := by intro _ _ _ _; rfl) :
    CB (sseq (sadj al (spar [i, j, l] [fa, fb, fc])) g) (E s) (oa.bind fun a => (ob a.2).bind fun b => (oc b.2).bind fun c => k a.1 b.1 c.1 c.2) I := by
  subst hal
  cases oa with
  | no => trivial
  | ok a =>
    obtain ⟨x1, q1, p1⟩ := h1
    have h2' := h2 a.2
    show CB _ _ ((ob a.2).bind fun b => (oc b.2).bind fun c => k a.1 b.1 c.1 c.2) I
    cases c : ob a.2 with
    | no => trivial
    | ok b =>
      rw [c] at h2'
      obtain ⟨x2, q2, p2⟩ := h2'
      have h3' := h3 b.2
      show CB _ _ ((oc b.2).bind fun c => k a.1 b.1 c.1 c.2) I
      cases c' : oc b.2 with
      | no => trivial
      | ok d =>
        rw [c'] at h3'
        obtain ⟨x3, q3, p3⟩ := h3'
        refine cb_eq ?_ (hk a.1 b.1 d.1 d.2)
        rw [← h']
        have := par3_ok hij hil hjl q1 q2 q3 p1 p2 p3 (b1 _) (b2 _) (b3 _)
        simp only [sseq, this]
end
noncomputable def ssortR (l : List Int) : R (List Int) := chk (l.length < 64) (.ok (ssort l))
theorem n_ssort {fa : FE} {env : En} {o : R (List Int)} (h : EC fa env o (eL D.int)) : EN (cbn cSsort (acons fa anil)) env (o.bind ssortR) (oL D.int) := n_cbn (ac1 h) _ fun a => chk_m fun h => by
  have e1 : intsOf (a.map D.int) = some a := intsOf_map a
  show ((intsOf (a.map D.int)).bind fun is => if is.length < 64 then some (Arg.new (.lst ((ssort is).map D.int))) else none) = _
  rw [e1, Option.bind_some, if_pos h]
end PL

/-! TM: laws of typed functions -/
namespace PL
open PySem L2
section
variable {α β γ δ σ ρ S : Type}
@[simp] theorem R.bind_ok' (a : α) (f : α → R β) : (R.ok a).bind f = f a := rfl
/-! loops -/
theorem foldR_eq {b : δ → σ → R σ} (f : σ → δ → σ) (P : σ → Prop) : ∀ (ds : List δ) (s : σ), P s → (∀ d ∈ ds, ∀ s, P s → b d s = .ok (f s d) ∧ P (f s d)) → foldR b ds s = .ok (ds.foldl f s) ∧ P (ds.foldl f s)
  | [], s, h, _ => ⟨rfl, h⟩
  | d :: ds, s, h, H => by
    obtain ⟨h1, h2⟩ := H d List.mem_cons_self s h
    simp only [foldR, h1, R.bind_ok, List.foldl_cons]
    exact foldR_eq f P ds (f s d) h2 fun d hd => H d (List.mem_cons_of_mem _ hd)
theorem foldR_inv {b : δ → σ → R σ} (I : Nat → σ → Prop) : ∀ (ds : List δ) (i : Nat) (s : σ), I i s → (∀ j d s, ds[j]? = some d → I (i + j) s → ∃ s', b d s = .ok s' ∧ I (i + j + 1) s') → ∃ s', foldR b ds s = .ok s' ∧ I (i + ds.length) s'
  | [], i, s, h, _ => ⟨s, rfl, h⟩
  | d :: ds, i, s, h, H => by
    obtain ⟨s1, h1, h2⟩ := H 0 d s rfl h
    obtain ⟨s', h3, h4⟩ := foldR_inv I ds (i + 1) s1 h2 fun j d s hj hs => by
      have := H (j + 1) d s (by simpa using hj) (by rw [show i + (j + 1) = i + 1 + j by omega]; exact hs)
      rw [show i + (j + 1) + 1 = i + 1 + j + 1 by omega] at this
      exact this
    refine ⟨s', by simp only [foldR, h1, R.bind_ok, h3], ?_⟩
    rw [List.length_cons, show i + (ds.length + 1) = i + 1 + ds.length by omega]; exact h4
theorem loopR_go {b : δ → σ → R (Otc σ ρ)} (P : σ → Prop) : ∀ (ds : List δ) (s : σ), P s → (∀ d ∈ ds, ∀ s, P s → ∃ s', b d s = .ok (.go s') ∧ P s') → ∃ s', loopR b ds s = .ok (.go s') ∧ P s'
  | [], s, h, _ => ⟨s, rfl, h⟩
  | d :: ds, s, h, H => by
    obtain ⟨s1, h1, h2⟩ := H d List.mem_cons_self s h
    obtain ⟨s', h3, h4⟩ := loopR_go P ds s1 h2 fun d hd => H d (List.mem_cons_of_mem _ hd)
    exact ⟨s', by simp only [loopR, h1, R.bind_ok, h3], h4⟩
theorem loopR_then {ω : Type} {b : δ → σ → R (Otc σ ρ)} {ds : List δ} {s : σ} {k : Otc σ ρ → R ω} {X : R ω} (P : σ → Prop) (h : P s) (H : ∀ d ∈ ds, ∀ s, P s → ∃ s', b d s = .ok (.go s') ∧ P s') (hk : ∀ s', P s' → k (.go s') = X) : (loopR b ds s).bind k = X := by
  obtain ⟨s', h1, h2⟩ := loopR_go P ds s h H
  rw [h1]; exact hk s' h2
theorem loopR_ex {ω τ : Type} {b : δ → σ → R (Otc σ ρ)} {ds : List δ} {s : σ} {k : Otc σ ρ → R ω} {g : τ → ω} {Q : τ → Prop} (P : σ → Prop) (h : P s) (H : ∀ d ∈ ds, ∀ s, P s → ∃ s', b d s = .ok (.go s') ∧ P s') (hk : ∀ s', P s' → ∃ t, k (.go s') = .ok (g t) ∧ Q t) : ∃ t, (loopR b ds s).bind k = .ok (g t) ∧ Q t := by
  obtain ⟨s', h1, h2⟩ := loopR_go P ds s h H
  rw [h1]; exact hk s' h2
theorem loopR_u {b : δ → Unit → R (Otc Unit ρ)} {ds : List δ} {u : Unit} (H : ∀ d ∈ ds, b d () = .ok (.go ())) : loopR b ds u = .ok (.go ()) := by
  obtain ⟨s, h, _⟩ := loopR_go (fun _ => True) ds u trivial fun d hd s _ => ⟨(), H d hd, trivial⟩
  exact h
/-! comprehensions -/
theorem colR_eq {t : δ → R Bool} {f : δ → R β} (p : δ → Bool) (g : δ → β) : ∀ ds : List δ, (∀ d ∈ ds, t d = .ok (p d) ∧ (p d = true → f d = .ok (g d))) → colR t f ds = .ok ((ds.filter p).map g)
  | [], _ => rfl
  | d :: ds, H => by
    obtain ⟨h1, h2⟩ := H d List.mem_cons_self
    have ih := colR_eq p g ds fun d hd => H d (List.mem_cons_of_mem _ hd)
    by_cases q : p d = true
    · simp only [colR, h1, R.bind_ok, q, if_true, h2 q, ih, List.filter_cons, List.map_cons]
    · simp only [colR, h1, R.bind_ok, q, ih, List.filter_cons, if_false, Bool.false_eq_true]
theorem lcR_eq {ds : List δ} {t : δ → R Bool} {f : δ → R β} (p : δ → Bool) (g : δ → β) (H : ∀ d ∈ ds, t d = .ok (p d) ∧ (p d = true → f d = .ok (g d))) (hl : ds.length ≤ 16777216) : lcR ds t f = .ok ((ds.filter p).map g) := by
  unfold lcR
  rw [colR_eq p g ds H, R.bind_ok]
  exact chk_of (Nat.le_trans (by rw [List.length_map]; exact List.length_filter_le _ _) hl) _
theorem lcR_map {ds : List δ} {t : δ → R Bool} {f : δ → R β} (g : δ → β) (ht : ∀ d, t d = .ok true) (H : ∀ d ∈ ds, f d = .ok (g d)) (hl : ds.length ≤ 16777216) : lcR ds t f = .ok (ds.map g) := by
  rw [lcR_eq (fun _ => true) g (fun d hd => ⟨ht d, fun _ => H d hd⟩) hl, List.filter_eq_self.mpr (fun _ _ => rfl)]
theorem colM_draw {t : δ → S → R (Bool × S)} {f : δ → S → R (β × S)} (P : S → Prop) (Q : β → Prop) : ∀ (ds : List δ) (s : S), P s → (∀ d ∈ ds, ∀ s, P s → t d s = .ok (true, s) ∧ ∃ y s', f d s = .ok (y, s') ∧ Q y ∧ P s') →
    ∃ l s', colM t f ds s = .ok (l, s') ∧ l.length = ds.length ∧ (∀ y ∈ l, Q y) ∧ P s'
  | [], s, h, _ => ⟨[], s, rfl, rfl, by simp, h⟩
  | d :: ds, s, h, H => by
    obtain ⟨h1, y, s1, h2, h3, h4⟩ := H d List.mem_cons_self s h
    obtain ⟨l, s', h5, h6, h7, h8⟩ := colM_draw P Q ds s1 h4 fun d hd => H d (List.mem_cons_of_mem _ hd)
    refine ⟨y :: l, s', by simp only [colM, h1, R.bind_ok, if_true, h2, h5], by simp [h6], fun z hz => ?_, h8⟩
    rcases List.mem_cons.mp hz with rfl | hz
    · exact h3
    · exact h7 z hz
theorem lcM_draw {ds : List δ} {s : S} {t : δ → S → R (Bool × S)} {f : δ → S → R (β × S)} (P : S → Prop) (Q : β → Prop) (h : P s) (H : ∀ d ∈ ds, ∀ s, P s → t d s = .ok (true, s) ∧ ∃ y s', f d s = .ok (y, s') ∧ Q y ∧ P s') (hl : ds.length ≤ 16777216) :
    ∃ l s', lcM ds s t f = .ok (l, s') ∧ l.length = ds.length ∧ (∀ y ∈ l, Q y) ∧ P s' := by
  obtain ⟨l, s', h1, h2, h3, h4⟩ := colM_draw P Q ds s h H
  exact ⟨l, s', by unfold lcM; rw [h1, R.bind_ok]; exact chk_of (by show l.length ≤ _; omega) _, h2, h3, h4⟩
theorem colM_some {t : δ → S → R (Bool × S)} {f : δ → S → R (δ × S)} (P : S → Prop) : ∀ (ds : List δ) (s : S), P s → (∀ d ∈ ds, ∀ s, P s → (∃ b s', t d s = .ok (b, s') ∧ P s') ∧ f d s = .ok (d, s)) → ∃ l s', colM t f ds s = .ok (l, s') ∧ l.Sublist ds ∧ P s'
  | [], s, h, _ => ⟨[], s, rfl, .slnil, h⟩
  | d :: ds, s, h, H => by
    obtain ⟨⟨b, s1, h1, h2⟩, _⟩ := H d List.mem_cons_self s h
    have h3 := (H d List.mem_cons_self s1 h2).2
    obtain ⟨l, s', h5, h6, h8⟩ := colM_some P ds s1 h2 fun d hd => H d (List.mem_cons_of_mem _ hd)
    cases b with
    | true => exact ⟨d :: l, s', by simp only [colM, h1, R.bind_ok, if_true, h3, h5], h6.cons_cons _, h8⟩
    | false => exact ⟨l, s', by simp only [colM, h1, R.bind_ok, if_false, h5, Bool.false_eq_true], h6.cons _, h8⟩
theorem lcM_some {ds : List δ} {s : S} {t : δ → S → R (Bool × S)} {f : δ → S → R (δ × S)} (P : S → Prop) (h : P s) (H : ∀ d ∈ ds, ∀ s, P s → (∃ b s', t d s = .ok (b, s') ∧ P s') ∧ f d s = .ok (d, s)) (hl : ds.length ≤ 16777216) : ∃ l s', lcM ds s t f = .ok (l, s') ∧ l.Sublist ds ∧ P s' := by
  obtain ⟨l, s', h1, h2, h4⟩ := colM_some P ds s h H
  exact ⟨l, s', by unfold lcM; rw [h1, R.bind_ok]; exact chk_of (Nat.le_trans h2.length_le hl) _, h2, h4⟩
/-! checked operations -/
theorem mulR_l {a b : Int} (h : -18446744073709551616 < a) (h2 : a < 18446744073709551616) : mulR a b = .ok (a * b) := chk_of (.inl (mk_of h h2)) _
theorem mulR_r {a b : Int} (h : -18446744073709551616 < b) (h2 : b < 18446744073709551616) : mulR a b = .ok (a * b) := chk_of (.inr (mk_of h h2)) _
theorem divR_ok {a b : Int} (h : 0 < b) (h2 : b < 18446744073709551616) : divR a b = .ok (a / b) := chk_of (dk_of h h2) _
theorem modR_ok {a b : Int} (h : 0 < b) : modR a b = .ok (a % b) := chk_of h _
theorem catR_ok {a b : List α} (h : a.length + b.length ≤ 16777216) : catR a b = .ok (a ++ b) := chk_of h _
theorem appR_ok {l : List α} {a : α} (h : l.length < 16777216) : appR l a = .ok (l ++ [a]) := chk_of h _
theorem rngR_ok {a b : Int} (h1 : -1000000000000 ≤ a) (h2 : a ≤ 1000000000000) (h3 : -1000000000000 ≤ b) (h4 : b ≤ 1000000000000) : rngR a b = .ok (rng a b) := chk_of ⟨rk_of h1 h2, rk_of h3 h4⟩ _
theorem rngR_len {l : List α} (h : l.length ≤ 1000000000000) : rngR 0 (l.length : Int) = .ok (rng 0 (l.length : Int)) := rngR_ok (by decide) (by decide) (by omega) (by omega)
theorem rng_mem {a b x : Int} : x ∈ rng a b ↔ a ≤ x ∧ x < b := by
  simp only [rng, List.mem_map, List.mem_range]
  exact ⟨fun ⟨i, h1, h2⟩ => by omega, fun ⟨h1, h2⟩ => ⟨(x - a).toNat, by omega, by omega⟩⟩
theorem rng_len (a b : Int) : (rng a b).length = (b - a).toNat := by simp [rng]
theorem rng_get {a b : Int} {j : Nat} {x : Int} (h : (rng a b)[j]? = some x) : x = a + j := by
  simp only [rng, List.getElem?_map] at h
  cases c : (List.range (b - a).toNat)[j]? with
  | none => rw [c] at h; cases h
  | some y =>
    rw [c] at h
    have := (List.getElem?_eq_some_iff.mp c)
    obtain ⟨h1, h2⟩ := this
    simp at h2
    simp at h
    omega
theorem rng_nat (n : Nat) : rng 0 (n : Int) = (List.range n).map fun (i : Nat) => (i : Int) := by simp [rng]
theorem ixR_nat {l : List α} {k : Nat} (h : k < l.length) : ixR l (k : Int) = .ok l[k] := by
  unfold ixR
  rw [atI_nat, List.getElem?_eq_getElem h]
theorem ixR_get {l : List α} {i : Int} {a : α} (h0 : 0 ≤ i) (h : l[i.toNat]? = some a) : ixR l i = .ok a := by
  unfold ixR
  have : i = (i.toNat : Int) := by omega
  rw [this, atI_nat, h]
@[simp] theorem ixR_0 (a : α) (l : List α) : ixR (a :: l) 0 = .ok a := ixR_get (by decide) rfl
@[simp] theorem ixR_1 (a b : α) (l : List α) : ixR (a :: b :: l) 1 = .ok b := ixR_get (by decide) rfl
@[simp] theorem ixR_2 (a b c : α) (l : List α) : ixR (a :: b :: c :: l) 2 = .ok c := ixR_get (by decide) rfl
theorem ixR_ok (l : List α) (i : Int) (h0 : 0 ≤ i) (h : i < l.length) : ∃ a, ixR l i = .ok a ∧ a ∈ l :=
  have q : i.toNat < l.length := by omega
  ⟨l[i.toNat], ixR_get h0 (List.getElem?_eq_getElem q), List.getElem_mem q⟩
theorem setR_0 (a x : α) (l : List α) : setR (a :: l) 0 x = .ok (x :: l) := by
  unfold setR ixN
  have h : (0 : Int) < ((a :: l).length : Int) := by simp only [List.length_cons]; omega
  simp
theorem setR_1 (a b x : α) (l : List α) : setR (a :: b :: l) 1 x = .ok (a :: x :: l) := by
  unfold setR ixN
  have h : (1 : Int) < ((a :: b :: l).length : Int) := by simp only [List.length_cons]; omega
  simp at h ⊢
  simp [h]
end
/-! ### data compared -/
structure Gd {α : Type} (k : Nat) (e : α → D) (q : α → PyData) : Prop where
  p : ∀ a, toP (e a) = some (q a)
  lay : ∀ a, (q a).canLay0 = true
  dep : ∀ a, (q a).depth ≤ k
  eqv : ∀ a b, PyData.eqv (q a) (q b) = true ↔ a = b
section
variable {α β γ : Type} {k m n : Nat} {e : α → D} {e' : β → D} {e'' : γ → D} {q : α → PyData} {q' : β → PyData} {q'' : γ → PyData}
theorem gd_int : Gd k D.int .int := ⟨fun a => by simp [toP], fun a => by simp [PyData.canLay0], fun a => by simp [PyData.depth], fun a b => by simp [PyData.eqv]⟩
theorem gd_bl : Gd k D.bl .bool := ⟨fun a => by simp [toP], fun a => by simp [PyData.canLay0], fun a => by simp [PyData.depth], fun a b => by cases a <;> cases b <;> simp [PyData.eqv]⟩
theorem gd_all (g : Gd k e q) : ∀ l : List α, toPs (l.map e) = some (l.map q) ∧ PyData.canLayAll0 (l.map q) = true ∧ PyData.depthAll (l.map q) ≤ k
  | [] => ⟨by simp [toPs], by simp [PyData.canLayAll0], by simp [PyData.depthAll]⟩
  | a :: l => by
    obtain ⟨h1, h2, h3⟩ := gd_all g l
    refine ⟨by simp [toPs, g.p, h1], by simp [PyData.canLayAll0, g.lay, h2], ?_⟩
    simp only [List.map_cons, PyData.depthAll]
    have := g.dep a
    omega
theorem gd_eqv (g : Gd k e q) : ∀ l m : List α, PyData.eqvAll (l.map q) (m.map q) = true ↔ l = m
  | [], [] => by simp [PyData.eqvAll]
  | [], _ :: _ => by simp [PyData.eqvAll]
  | _ :: _, [] => by simp [PyData.eqvAll]
  | a :: l, b :: m => by simp [PyData.eqvAll, g.eqv, gd_eqv g l m]
theorem gd_L (g : Gd k e q) : Gd (k + 1) (eL e) fun l => .list (l.map q) :=
  ⟨fun l => by simp [toP, (gd_all g l).1], fun l => by simpa [PyData.canLay0] using (gd_all g l).2.1, fun l => by have := (gd_all g l).2.2; simp only [PyData.depth]; omega, fun l m => by simp only [PyData.eqv]; exact gd_eqv g l m⟩
theorem gd_T (g : Gd k e q) : Gd (k + 1) (eT e) fun l => .tuple (l.map q) :=
  ⟨fun l => by simp [toP, (gd_all g l).1], fun l => by simpa [PyData.canLay0] using (gd_all g l).2.1, fun l => by have := (gd_all g l).2.2; simp only [PyData.depth]; omega, fun l m => by simp only [PyData.eqv]; exact gd_eqv g l m⟩
theorem gd_2 (g : Gd k e q) (g' : Gd k e' q') : Gd (k + 1) (e2 e e') fun p => .tuple [q p.1, q' p.2] :=
  ⟨fun p => by simp [toP, toPs, g.p, g'.p], fun p => by simp [PyData.canLay0, PyData.canLayAll0, g.lay, g'.lay], fun p => by have := g.dep p.1; have := g'.dep p.2; simp only [PyData.depth, PyData.depthAll]; omega,
    fun p r => by simp only [PyData.eqv, PyData.eqvAll, Bool.and_true, Bool.and_eq_true, g.eqv, g'.eqv]; exact ⟨fun ⟨a, b⟩ => Prod.ext a b, fun h => by subst h; exact ⟨rfl, rfl⟩⟩⟩
theorem gd_3 (g : Gd k e q) (g' : Gd k e' q') (g'' : Gd k e'' q'') : Gd (k + 1) (e3 e e' e'') fun p => .tuple [q p.1, q' p.2.1, q'' p.2.2] :=
  ⟨fun p => by simp [toP, toPs, g.p, g'.p, g''.p], fun p => by simp [PyData.canLay0, PyData.canLayAll0, g.lay, g'.lay, g''.lay], fun p => by have := g.dep p.1; have := g'.dep p.2.1; have := g''.dep p.2.2; simp only [PyData.depth, PyData.depthAll]; omega,
    fun p r => by simp only [PyData.eqv, PyData.eqvAll, Bool.and_true, Bool.and_eq_true, g.eqv, g'.eqv, g''.eqv]; exact ⟨fun ⟨a, b, c⟩ => Prod.ext a (Prod.ext b c), fun h => by subst h; exact ⟨rfl, rfl, rfl⟩⟩⟩
theorem Gd.shaped (g : Gd k e q) (hk : k ≤ 64) (a : α) : SeqAt.shaped (q a) = true := by
  have := g.dep a
  simp only [SeqAt.shaped, g.lay, Bool.true_and, decide_eq_true_eq]; omega
theorem Gd.eqv_d [DecidableEq α] (g : Gd k e q) (a b : α) : PyData.eqv (q a) (q b) = decide (a = b) := by
  rw [Bool.eq_iff_iff, g.eqv, decide_eq_true_eq]
theorem Gd.eq [DecidableEq α] (g : Gd k e q) (hk : k ≤ 64) (a b : α) : eqR (e a) (e b) = .ok (decide (a = b)) := by
  unfold eqR eqD
  simp only [g.p, g.shaped hk, and_self, if_true, vB, Bool.false_eq_true, if_false, g.eqv_d]
theorem Gd.ne [DecidableEq α] (g : Gd k e q) (hk : k ≤ 64) (a b : α) : neR (e a) (e b) = .ok (!decide (a = b)) := by
  unfold neR eqD
  simp only [g.p, g.shaped hk, and_self, if_true, vB, g.eqv_d]
/-! none, or some -/
theorem gd_O (g : Gd k e q) (h : ∀ a, q a ≠ .none) : Gd k (eO e) fun o => match o with
    | none => .none
    | some a => q a :=
  ⟨fun o => by cases o with
    | none => simp [toP]
    | some a => exact g.p a, fun o => by cases o with
    | none => simp [PyData.canLay0]
    | some a => exact g.lay a, fun o => by cases o with
    | none => simp [PyData.depth]
    | some a => exact g.dep a, fun o u => by
      have no : ∀ p : PyData, p ≠ .none → PyData.eqv .none p = false ∧ PyData.eqv p .none = false := fun p hp => by
        cases p <;> first | exact absurd rfl hp | exact ⟨by simp [PyData.eqv], by simp [PyData.eqv]⟩
      cases o with
      | none => cases u with
        | none => simp [PyData.eqv]
        | some b => simp [(no _ (h b)).1]
      | some a => cases u with
        | none => simp [(no _ (h a)).2]
        | some b => simpa using g.eqv a b⟩
theorem reprR_ok {d : D} (h : Rp k n d) (hk : k ≤ 32) (hn : n ≤ 700000) : reprR d = .ok (shw d) := by
  unfold reprR
  rw [h.repr hk hn]
theorem reprR_int {i : Int} (h : i.natAbs < 2 ^ 63) : reprR (.int i) = .ok (shw (.int i)) := reprR_ok (Rp.int 0 h (Nat.le_refl 64)) (by decide) (by decide)
theorem reprR_ints {xs : List Int} (h : ∀ x ∈ xs, x.natAbs < 2 ^ 63) (hl : xs.length ≤ 10000) : reprR (eL D.int xs) = .ok (shw (eL D.int xs)) := reprR_ok (rp_ints 0 h (Nat.le_refl _)) (by decide) (by omega)
theorem reprR_intsT {xs : List Int} (h : ∀ x ∈ xs, x.natAbs < 2 ^ 63) (hl : xs.length ≤ 10000) : reprR (eT D.int xs) = .ok (shw (eT D.int xs)) := reprR_ok (rp_intsT 0 h (Nat.le_refl _)) (by decide) (by omega)
end
/-! ### slices, sorted -/
section
variable {α : Type}
theorem cut_to (xs : List α) {i : Int} (h : 0 ≤ i) : cut xs none (some i) = xs.take i.toNat := by
  simp only [cut, HT.sIx, if_neg (show ¬ i < 0 by omega), List.drop_zero, Nat.sub_zero]
  rcases Nat.le_total i.toNat xs.length with h | h
  · rw [Nat.min_eq_left h]
  · rw [Nat.min_eq_right h, List.take_length, List.take_of_length_le h]
theorem cut_from (xs : List α) {i : Int} (h : 0 ≤ i) : cut xs (some i) none = xs.drop i.toNat := by
  simp only [cut, HT.sIx, if_neg (show ¬ i < 0 by omega)]
  rcases Nat.le_total i.toNat xs.length with h | h
  · rw [Nat.min_eq_left h, List.take_of_length_le (by rw [List.length_drop]; exact Nat.le_refl _)]
  · rw [Nat.min_eq_right h, List.drop_length, List.take_nil, List.drop_of_length_le h]
theorem cut_fromto (xs : List α) {i j : Int} (h : 0 ≤ i) (h2 : i ≤ j) : cut xs (some i) (some j) = (xs.drop i.toNat).take (j.toNat - i.toNat) := by
  simp only [cut, HT.sIx, if_neg (show ¬ i < 0 by omega), if_neg (show ¬ j < 0 by omega)]
  rcases Nat.le_total i.toNat xs.length with h3 | h3
  · rw [Nat.min_eq_left h3]
    rcases Nat.le_total j.toNat xs.length with h4 | h4
    · rw [Nat.min_eq_left h4]
    · rw [Nat.min_eq_right h4, List.take_of_length_le (by rw [List.length_drop]; exact Nat.le_refl _), List.take_of_length_le (by rw [List.length_drop]; omega)]
  · rw [Nat.min_eq_right h3, List.drop_length, List.drop_of_length_le h3, List.take_nil, List.take_nil]
theorem cut_split (xs : List α) {i : Int} (h : 0 ≤ i) : cut xs none (some i) ++ cut xs (some i) none = xs := by rw [cut_to xs h, cut_from xs h, List.take_append_drop]
theorem cut_back (xs : List α) {k : Nat} : cut xs (some (-((k : Int) + 1))) none = xs.drop (xs.length - (k + 1)) := by
  simp only [cut, HT.sIx, if_pos (show -((k : Int) + 1) < 0 by omega)]
  have : (-((k : Int) + 1) + (xs.length : Int)).toNat = xs.length - (k + 1) := by omega
  rw [this, List.take_of_length_le (by rw [List.length_drop]; exact Nat.le_refl _)]
theorem cut_len (xs : List α) (lo hi : Option Int) : (cut xs lo hi).length ≤ xs.length := by
  simp only [cut, List.length_take, List.length_drop]; omega
theorem cut_sub (xs : List α) (lo hi : Option Int) : (cut xs lo hi).Sublist xs := (List.take_sublist _ _).trans (List.drop_sublist _ _)
end
theorem sort2 (a b : Int) : sortI [a, b] = [min a b, max a b] := by
  have e : (sortI [a, b]).Perm [min a b, max a b] := (sortI_perm _).trans (by
    rcases Int.le_total a b with h | h
    · rw [Int.min_eq_left h, Int.max_eq_right h]
    · rw [Int.min_eq_right h, Int.max_eq_left h]; exact List.Perm.swap _ _ _)
  exact (sortI_one (e.symm.trans (sortI_perm _)) (by simp; omega)).symm
theorem ssort_len (l : List Int) : (ssort l).length ≤ l.length := by
  have h : ∀ m : List Int, (m.foldr (fun a l => if l.head? = some a then l else a :: l) []).length ≤ m.length := fun m => by
    induction m with
    | nil => exact Nat.le_refl _
    | cons a m ih =>
      simp only [List.foldr_cons]
      split <;> simp only [List.length_cons] <;> omega
  exact Nat.le_trans (h _) (by rw [(sortI_perm l).length_eq]; exact Nat.le_refl _)
theorem ssortR_ok {l : List Int} (h : l.length < 64) : ssortR l = .ok (ssort l) := chk_of h _
end PL

/-! TL: iterables that change slots -/
namespace PL
open PySem L2
section
variable {α β γ δ σ ρ ω S : Type} {E : S → En} {s : S} {fe fa fb : FE} {ga : FA} {it : FI} {tt : FT} {tg : FG} {e : α → D} {ca : α → D} {cb : β → D} {ed : δ → D} {g : FS} {I : ω → RS → Prop}
def ITM (it : FI) (E : S → En) (s : S) (o : R (List δ × S)) (e : δ → D) : Prop := match o with
  | .ok a => it (E s) = .ok (a.1.map e, E a.2)
  | .no => True
theorem im_L {o : R (List δ × S)} (h : EHM fa E s o (eL ed)) : ITM (itSeq fa) E s o ed := by
  cases o with
  | ok a =>
    obtain ⟨x, h1, h2⟩ := h
    show itSeq fa (E s) = _
    simp only [itSeq, h1, Res.bind_ok, h2.hold]
  | no => trivial
theorem im_T {o : R (List δ × S)} (h : EHM fa E s o (eT ed)) : ITM (itSeq fa) E s o ed := by
  cases o with
  | ok a =>
    obtain ⟨x, h1, h2⟩ := h
    show itSeq fa (E s) = _
    simp only [itSeq, h1, Res.bind_ok, h2.hold]
  | no => trivial
theorem im_r1 {o : R ((Int × Unit) × S)} (h : AHM ga E s o fun p => [.int p.1]) : ITM (itRng1 ga) E s (o.bind fun a => (rngR 0 a.1.1).bind fun z => .ok (z, a.2)) .int := by
  cases o with
  | ok a =>
    have h' : ga (E s) = .ok (([.int a.1.1] : List D).map .val, E a.2) := h
    show ITM _ _ _ ((rngR 0 a.1.1).bind _) _
    cases c : rngR 0 a.1.1 with
    | ok ds =>
      obtain ⟨h3, h4⟩ := chk_ok c
      cases h4
      show itRng1 ga (E s) = _
      rw [x_itRng1, h']
      simp only [Res.bind_ok, conts_vals, h3.2, if_true]
      rw [← rng_d]; simp
    | no => trivial
  | no => trivial
theorem im_r2 {o : R ((Int × Int × Unit) × S)} (h : AHM ga E s o fun p => [.int p.1, .int p.2.1]) : ITM (itRng2 ga) E s (o.bind fun a => (rngR a.1.1 a.1.2.1).bind fun z => .ok (z, a.2)) .int := by
  cases o with
  | ok a =>
    have h' : ga (E s) = .ok (([.int a.1.1, .int a.1.2.1] : List D).map .val, E a.2) := h
    show ITM _ _ _ ((rngR a.1.1 a.1.2.1).bind _) _
    cases c : rngR a.1.1 a.1.2.1 with
    | ok ds =>
      obtain ⟨h3, h4⟩ := chk_ok c
      cases h4
      show itRng2 ga (E s) = _
      rw [x_itRng2, h']
      simp only [Res.bind_ok, conts_vals, h3.1, h3.2, and_self, if_true]
      rw [← rng_d]
    | no => trivial
  | no => trivial
theorem nm_lcI {vs : List Nat} {C : S → En} {C1 : δ → S → En} {t : δ → S → R (Bool × S)} {f : δ → S → R (β × S)} {o : R (List δ × S)} (hi : ITM it E s o ed) (hp : ∀ s, plainS (E s) vs = true) (h0 : ∀ s, clr (E s) vs = C s) (h1 : ∀ d s, tg (ed d) (C s) = .ok (C1 d s)) (h2 : ∀ d s, TPM tt (C1 d) s (t d s)) (h3 : ∀ d s, EHM fe (C1 d) s (f d s) cb)
    (h4 : ∀ d s, clr (C1 d s) vs = C s) (h5 : ∀ s s', rst (E s) (C s') vs = E s') : ENM (vlc it tg tt fe vs) E s (o.bind fun a => lcM a.1 a.2 t f) (oL cb) := by
  cases o with
  | ok a =>
    have hi' : it (E s) = .ok (a.1.map ed, E a.2) := hi
    show ENM _ _ _ (lcM a.1 a.2 t f) _
    cases c : lcM a.1 a.2 t f with
    | ok l =>
      unfold lcM at c
      cases c2 : colM t f a.1 a.2 with
      | no => rw [c2] at c; cases c
      | ok l' =>
        rw [c2] at c
        obtain ⟨h6, h7⟩ := chk_ok c
        cases h7
        show vlc it tg tt fe vs (E s) = _
        simp only [vlc, hi', Res.bind_ok, hp, if_true, h0]
        rw [lcL_colM h1 h2 h3 h4 a.1 [] a.2 l c2 (by rw [sl_eq]; simpa using h6)]
        simp only [Res.bin, h5, List.nil_append]
    | no => trivial
  | no => trivial
theorem c_forI {js : List Ad} {body : FS} {E1 : S → δ → σ → En} {b : S → δ → σ → R σ} {o : R (List δ × S)} {k : S → σ → R ω} (F : S → σ → En) (i0 : S → σ) (hi : ITM it E s o ed) (he : ∀ s, E s = F s (i0 s)) (hb : ∀ s d t, CB body (E1 s d t) (b s d t) (ILp js (F s))) (hk : ∀ s t, CB g (F s t) (k s t) I) (ht : ∀ s d t, tg (ed d) (F s t) = .ok (E1 s d t) := by intro _ _ _; rfl) :
    CB (sseq (sfor it tg (sadj js body)) g) (E s) (o.bind fun a => (foldR (b a.2) a.1 (i0 a.2)).bind (k a.2)) I := by
  cases o with
  | ok a =>
    have hi' : it (E s) = .ok (a.1.map ed, E a.2) := hi
    show CB _ _ ((foldR (b a.2) a.1 (i0 a.2)).bind (k a.2)) I
    refine cb_bind fun t hs => ?_
    refine cb_eq ?_ (hk a.2 t)
    have := forL_fold (ht a.2) (hb a.2) a.1 (i0 a.2) t hs
    rw [← he] at this
    simp only [sseq, sfor, hi', Res.go_ok, this]
  | no => trivial
theorem c_forOI {js : List Ad} {body : FS} {E1 : S → δ → σ → En} {b : S → δ → σ → R (Otc σ ρ)} {vr : ρ → Sl} {M : ρ → En → Prop} {o : R (List δ × S)} {k : S → σ → R ω} {kr : ρ → R ω} (F : S → σ → En) (i0 : S → σ) (hi : ITM it E s o ed) (he : ∀ s, E s = F s (i0 s)) (hb : ∀ s d t, CB body (E1 s d t) (b s d t) (IOut js (F s) vr M)) (hk : ∀ s t, CB g (F s t) (k s t) I)
    (hr : ∀ r e, M r e → match kr r with | .ok w => I w (.rt (vr r) e) | .no => True) (ht : ∀ s d t, tg (ed d) (F s t) = .ok (E1 s d t) := by intro _ _ _; rfl) :
    CB (sseq (sfor it tg (sadj js body)) g) (E s) (o.bind fun a => (loopR (b a.2) a.1 (i0 a.2)).bind fun w => w.to kr (k a.2)) I := by
  cases o with
  | ok a =>
    have hi' : it (E s) = .ok (a.1.map ed, E a.2) := hi
    show CB _ _ ((loopR (b a.2) a.1 (i0 a.2)).bind fun w => w.to kr (k a.2)) I
    refine cb_bind fun w hw => ?_
    have := forL_loop (ht a.2) (hb a.2) a.1 (i0 a.2) w hw
    rw [← he] at this
    cases w with
    | go t =>
      refine cb_eq ?_ (hk a.2 t)
      have this : forL tg (sadj js body) (a.1.map ed) (E a.2) = .nx (F a.2 t) := this
      simp only [sseq, sfor, hi', Res.go_ok, this]
    | bk s => exact this.elim
    | rt r =>
      obtain ⟨e, h1, h2⟩ := this
      have := hr r e h2
      have e0 : sseq (sfor it tg (sadj js body)) g (E s) = .rt (vr r) e := by simp only [sseq, sfor, hi', Res.go_ok, h1]
      show CB _ _ (kr r) I
      cases c : kr r with
      | ok w =>
        rw [c] at this
        show I w _
        rw [e0]; exact this
      | no => trivial
  | no => trivial
end
end PL

/-! TL: sorted pairs, enumerate, in, index, max and min of a list. -/
namespace PL
open PySem L2
section
variable {α β γ δ : Type} {env : En} {fe fa fb : FE} {ga : FA} {e : α → D} {ca : α → D} {cb : β → D} {ed : δ → D}
theorem prD_e2 (ps : List (Int × Int)) : ps.map (e2 D.int D.int) = ps.map prD := rfl
theorem n_sortP {o : R (List (Int × Int))} (h : EC fa env o (eL (e2 D.int D.int))) : EN (cbn cSortP (acons fa anil)) env (o.bind fun a => .ok (sortP a)) (oL (e2 D.int D.int)) := n_cbn (ac1 h) _ fun a => by
  show cSortP [.lst (a.map (e2 D.int D.int))] = _
  rw [prD_e2]
  simp only [cSortP, prsOf_map, Option.map_some]
  rfl
noncomputable def maxR (l : List Int) : R Int := chk (l ≠ []) (.ok (maxL l))
noncomputable def minR (l : List Int) : R Int := chk (l ≠ []) (.ok (minL l))
theorem h_maxL {o : R (List Int)} (h : EC fa env o (eL D.int)) : EH (cbn cMaxL (acons fa anil)) env (o.bind maxR) .int := h_cbn (ac1 h) _ fun a => chk_m fun h => by
  show cMaxL [.lst (a.map D.int)] = _
  simp only [cMaxL, intsOf_map, Option.bind_some, if_neg h]
theorem h_minL {o : R (List Int)} (h : EC fa env o (eL D.int)) : EH (cbn cMinL (acons fa anil)) env (o.bind minR) .int := h_cbn (ac1 h) _ fun a => chk_m fun h => by
  show cMinL [.lst (a.map D.int)] = _
  simp only [cMinL, intsOf_map, Option.bind_some, if_neg h]
theorem h_inL {o : R Int} {u : R (List Int)} (h : EC fa env o .int) (h' : EC fb env u (eL D.int)) : EH (bop (gIn false) fa fb) env (o.bind fun a => u.bind fun b => .ok (decide (a ∈ b))) .bl := h_bop h h' (fun a b => .ok (decide (a ∈ b))) fun a b => by
  show gIn false (.int a) (.lst (b.map D.int)) = _
  simp only [gIn, intsOf_map, Option.map_some]; rfl
theorem h_inT {o : R Int} {u : R (List Int)} (h : EC fa env o .int) (h' : EC fb env u (eT D.int)) : EH (bop (gIn false) fa fb) env (o.bind fun a => u.bind fun b => .ok (decide (a ∈ b))) .bl := h_bop h h' (fun a b => .ok (decide (a ∈ b))) fun a b => by
  show gIn false (.int a) (.tup (b.map D.int)) = _
  simp only [gIn, intsOf_map, Option.map_some]; rfl
theorem h_ninL {o : R Int} {u : R (List Int)} (h : EC fa env o .int) (h' : EC fb env u (eL D.int)) : EH (bop (gIn true) fa fb) env (o.bind fun a => u.bind fun b => .ok (!decide (a ∈ b))) .bl := h_bop h h' (fun a b => .ok (!decide (a ∈ b))) fun a b => by
  show gIn true (.int a) (.lst (b.map D.int)) = _
  simp only [gIn, intsOf_map, Option.map_some]; rfl
theorem h_ninT {o : R Int} {u : R (List Int)} (h : EC fa env o .int) (h' : EC fb env u (eT D.int)) : EH (bop (gIn true) fa fb) env (o.bind fun a => u.bind fun b => .ok (!decide (a ∈ b))) .bl := h_bop h h' (fun a b => .ok (!decide (a ∈ b))) fun a b => by
  show gIn true (.int a) (.tup (b.map D.int)) = _
  simp only [gIn, intsOf_map, Option.map_some]; rfl
noncomputable def lenSetR (l : List Int) : R Int := chk (l.length ≤ 1000) (.ok ((ssort l).length : Nat))
theorem h_lenset {o : R (List Int)} (h : EC fa env o (eL D.int)) : EH (cbn cLenset (acons fa anil)) env (o.bind lenSetR) .int := h_cbn (ac1 h) _ fun a => chk_m fun h => by
  show cLenset [.lst (a.map D.int)] = _
  simp only [cLenset, intsOf_map, Option.bind_some, if_pos h]
/-! methods that change nothing -/
theorem h_pmt {cz : γ → D} {oa : R α} {ob : R β} {ok : D → Bool} {g : D → List D → Option Arg} {xs : β → List D} (ha : EH fa env oa ca) (hk : ∀ a, ok (ca a) = true) (hb : AC ga env ob xs) (r : α → β → R γ) (h : ∀ a b, match r a b with | .ok z => g (ca a) (xs b) = some (.val (cz z)) | .no => True) :
    EH (pmt ok g fa ga) env (oa.bind fun a => ob.bind fun b => r a b) cz := by
  cases oa with
  | no => trivial
  | ok a =>
    obtain ⟨x, h1, h2⟩ := ha
    cases ob with
    | no => trivial
    | ok b =>
      obtain ⟨l, h3, h4⟩ := hb
      show EH _ _ (r a b) _
      have := h a b
      cases c : r a b with
      | no => trivial
      | ok z =>
        rw [c] at this
        refine ⟨.val (cz z), ?_, .inl rfl⟩
        simp only [pmt, h1, Res.bind_ok, h2.settle, hk, if_true, h3, h4, Option.bind_some, this]
noncomputable def indexR (l : List Int) (i : Int) : R Int := chk (i ∈ l) (.ok (l.idxOf i : Nat))
theorem h_index {o : R (List Int)} {u : R Int} (h : EH fa env o (eL D.int)) (h' : EC fb env u .int) : EH (pmt isLst pIndex fa (acons fb anil)) env (o.bind fun l => u.bind fun i => indexR l i) .int := h_pmt h (fun _ => rfl) (ac1 h') _ fun a b => chk_m fun h => by
  show pIndex (.lst (a.map D.int)) [.int b] = _
  simp only [pIndex, intsOf_map, Option.bind_some, if_pos h]
/-! enumerate -/
def enm {α : Type} (l : List α) : List (Int × α) := l.zipIdx.map fun p => ((p.2 : Int), p.1)
theorem enm_d (l : List δ) : enumD (l.map ed) = (enm l).map (e2 D.int ed) := by
  unfold enumD enm
  rw [List.zipIdx_map, List.map_map, List.map_map]
  rfl
theorem i_enum {o : R (List δ)} (h : EH fa env o (eL ed)) : IT (itEnum (acons fa anil)) env (o.bind fun l => .ok (enm l)) (e2 D.int ed) := by
  cases o with
  | no => trivial
  | ok l =>
    obtain ⟨x, h1, h2⟩ := h
    show itEnum _ env = _
    have : holds [settle x] env = some ([.lst (l.map ed)], env) := by
      rw [h2.settle]; rfl
    simp only [itEnum, acons, anil, h1, Res.bind_ok, this, enm_d]
end
end PL

/-! TL: instances. -/
namespace PL
open PySem L2
/-- an instance: its class, the names of its fields, what they hold -/
def eI {α : Type} (c : Str) (ns : List Str) (g : α → List D) : α → D := fun a => .inst c ns (g a)
def oI {α : Type} (c : Str) (ns : List Str) (g : α → List D) : α → O := fun a => .inst c ns (g a)
/-- a class as a value -/
def eF (c : Str) : Unit → D := fun _ => .fn c
section
variable {α β γ δ ω ρ : Type} {env : En} {fe fa fb : FE} {ga : FA} {ca : α → D} {cb : β → D} {c f : Str} {ns : List Str} {gs : α → List D} {g : FS} {I : ω → RS → Prop} {ms : List Md}
theorem h_fld {oa : R α} (h : EC fa env oa (eI c ns gs)) (sel : α → β) (hs : ∀ a, lkD f ns (gs a) = some (cb (sel a)) := by intro _; rfl) : EH (fld c f fa) env (oa.bind fun a => .ok (sel a)) cb := by
  cases oa with
  | no => trivial
  | ok a =>
    obtain ⟨x, h1, h2⟩ := h
    have h2 : cont x env = some (.inst c ns (gs a)) := h2
    refine ⟨.val (cb (sel a)), ?_, .inl rfl⟩
    simp only [fld, h1, Res.bind_ok, h2, if_true, hs]
theorem c_fld {j : Nat} {o : R α} {k : α → R ω} {ds : List D} (E' : α → En) (he : EH fe env o ca) (hk : ∀ a, CB g (E' a) (k a) I) (h0 : slotO env j = some (.inst c ns ds) := by rfl) (hl : ns.length < 999 := by exact Nat.le_of_ble_eq_true rfl) (h' : ∀ a, setO env j (.inst c (putN f ns) (putD f (ca a) ns ds)) = E' a := by intro _; rfl) :
    CB (sseq (sfldC c j f fe) g) env (o.bind k) I := by
  cases o with
  | no => trivial
  | ok a =>
    obtain ⟨x, h1, h2⟩ := he
    refine cb_eq ?_ (hk a)
    simp only [sseq, sfldC, h1, Res.go_ok, h2.hold, h0, hl, and_self, if_true, h']
theorem slsOf_ext : ∀ {ps : List Pa} {as : List Sl} {e : En} {y : Option Sl}, slsOf e ps = some as → slsOf (e ++ [y]) ps = some as
  | [], as, e, y, h => h
  | p :: ps, as, e, y, h => by
    simp only [slsOf] at h ⊢
    cases c1 : p.sl e with
    | none => rw [c1] at h; cases h
    | some s =>
      rw [c1] at h
      have e1 : p.sl (e ++ [y]) = some s := by
        have go : ∀ j o, slotO e j = some o → slotO (e ++ [y]) j = some o := fun j o hj => by
          unfold slotO at hj ⊢
          cases c2 : e[j]? with
          | none => rw [c2] at hj; cases hj
          | some z => rw [List.getElem?_append_left (List.getElem?_eq_some_iff.mp c2).1, c2]; rw [c2] at hj; exact hj
        cases p with
        | hd d => exact c1
        | bo j =>
          cases c2 : slotO e j with
          | none => simp only [Pa.sl, c2] at c1; cases c1
          | some o => simp only [Pa.sl, c2] at c1; simp only [Pa.sl, go j o c2]; exact c1
        | mt j =>
          cases c2 : slotO e j with
          | none => simp only [Pa.sl, c2] at c1; cases c1
          | some o => simp only [Pa.sl, c2] at c1; simp only [Pa.sl, go j o c2]; exact c1
      rw [e1]
      cases c3 : slsOf e ps with
      | none => simp only [c3] at h; cases h
      | some r =>
        rw [slsOf_ext (y := y) c3]
        simp only [c3] at h
        exact h
theorem n_mkF {fn : FFn} {og : R γ} {as : γ → List Sl} {t : γ → R ρ} {vr : ρ → Sl} {mr : γ → ρ → List (Option O)} {cz : ρ → O} (h : AK ms ga env og as false) (hf : ∀ r, F1 fn (.mu (.inst c [] []) :: as r) (t r) vr (mr r))
    (hv : ∀ r, vr r = .fz .non := by intro _; rfl) (hm : ∀ r z, mr r z = some (cz z) :: (as r).map fun _ => none := by intro _ _; rfl) : EN (mkF c ms fn ga) env (og.bind t) cz := by
  cases og with
  | no => trivial
  | ok r =>
    obtain ⟨l, ps, h1, p, hb⟩ := h
    have q := hf r
    show EN _ _ (t r) _
    cases ct : t r with
    | no => trivial
    | ok z =>
      rw [ct] at q
      have q' : fn (.mu (.inst c [] []) :: as r) = .ok (.fz .non) (some (cz z) :: (as r).map fun _ => none) := by rw [← hm, ← hv]; exact q
      show mkF c ms fn ga env = _
      have s1 : slotO (env ++ [some (.ow (.inst c [] []))]) env.length = some (.inst c [] []) := by
        unfold slotO; simp
      have s2 : slsOf (env ++ [some (.ow (.inst c [] []))]) (.mt env.length :: ps) = some (.mu (.inst c [] []) :: as r) := by
        simp only [slsOf, Pa.sl, s1, Option.map_some, slsOf_ext p.sl]
      have ho : okPa (.mt env.length :: ps) = true := by
        unfold okPa
        simp only [mslots, bslots, p.mt, hb rfl]
        simp
      have hcl : clean (.mt env.length :: ps) (env ++ [some (.ow (.inst c [] []))]) (.fz .non) (some (cz z) :: (as r).map fun _ => none) = true := by
        unfold clean
        simp only [bslots, hb rfl]; rfl
      have hap : applyO (.mt env.length :: ps) (some (cz z) :: (as r).map fun _ => none) (env ++ [some (.ow (.inst c [] []))]) = some (env ++ [some (.ow (cz z))]) := by
        simp only [applyO]
        rw [applyO_none ps (as r) _ p.mt p.ln]
        unfold setO
        simp
      have hg : (env ++ [some (Sl.ow (cz z))])[env.length]? = some (some (.ow (cz z))) := by simp
      have ht : (env ++ [some (Sl.ow (cz z))]).take env.length = env := by simp
      simp only [mkF, h1, Res.bind_ok, p.pr, s2, ho, if_true, q', hcl, hap, hg, ht]
theorem n_mkL {j : Nat} {fn : FFn} {og : R γ} {as : γ → List Sl} {t : γ → R ρ} {vr : ρ → Sl} {mr : γ → ρ → List (Option O)} {cz : ρ → O} (h : AK ms ga env og as false) (hf : ∀ r, F1 fn (.mu (.inst c [] []) :: as r) (t r) vr (mr r))
    (hv : ∀ r, vr r = .fz .non := by intro _; rfl) (hm : ∀ r z, mr r z = some (cz z) :: (as r).map fun _ => none := by intro _ _; rfl) (hj : isFn j c env = true := by rfl) : EN (mkL j c ms fn ga) env (og.bind t) cz := by
  have := n_mkF (c := c) h hf hv hm
  cases e : og.bind t with
  | no => trivial
  | ok z =>
    rw [e] at this
    show mkL j c ms fn ga env = _
    unfold mkL
    rw [if_pos hj]; exact this
theorem k_self {m : Str} {oa : R α} {og : R γ} {as : γ → List Sl} {bw : Bool} (h : EH fe env oa (eI c ns gs)) (h' : AK ms ga env og as bw) (hm : m ∉ ns := by decide) :
    AK (.rd :: ms) (aself c m fe ga) env (oa.bind fun a => og.bind fun r => .ok (a, r)) (fun p => .fz (eI c ns gs p.1) :: as p.2) bw := by
  cases oa with
  | no => trivial
  | ok a =>
    obtain ⟨x, h1, h2⟩ := h
    cases og with
    | no => trivial
    | ok r =>
      obtain ⟨l, ps, h3, p, hb⟩ := h'
      have hc : cont x env = some (.inst c ns (gs a)) := h2.cont env
      refine ⟨settle x :: l, .hd (eI c ns gs a) :: ps, ?_, ⟨by simp only [prep, prep_hd (.inl rfl) h2, p.pr], by simp only [slsOf, Pa.sl, p.sl], p.mt, by simp only [List.length_cons, p.ln], p.fl⟩, hb⟩
      simp only [aself, h1, Res.bind_ok, hc, hm, not_false_eq_true, and_self, if_true, h3]
end
end PL

/-! TL: xs += ys, xs[a:b] = row, del xs[a:b]. -/
namespace PL
open PySem L2
theorem splc_map {α β : Type} (f : α → β) (xs : List α) (lo hi : Option Int) (ys : List α) : (splc xs lo hi ys).map f = splc (xs.map f) lo hi (ys.map f) := by
  unfold splc
  rw [List.map_append, List.map_append, List.map_take, List.map_drop, List.length_map]
theorem n_sortPT {env : En} {fa : FE} {o : R (List (Int × Int))} (h : EC fa env o (eT (e2 D.int D.int))) : EN (cbn cSortPT (acons fa anil)) env (o.bind fun a => .ok (sortP a)) (oL (e2 D.int D.int)) := n_cbn (ac1 h) _ fun a => by
  show cSortPT [.tup (a.map (e2 D.int D.int))] = _
  rw [prD_e2]
  simp only [cSortPT, prsOf_map, Option.map_some]
  rfl
theorem h_isi {α : Type} {env : En} {fa : FE} {oa : R α} {ca : α → D} {T u : String} (h : EC fa env oa ca) (b : Bool) (ht : ∀ a, tyD (ca a) = some u := by intro _; rfl) (hb : subT u T = b := by rfl) : EH (isiD T fa) env (oa.bind fun _ => .ok b) .bl := by
  cases oa with
  | no => trivial
  | ok a =>
    obtain ⟨x, h1, h2⟩ := h
    refine ⟨.val (.bl b), ?_, .inl rfl⟩
    simp only [isiD, h1, Res.bind_ok, h2, Option.bind_some, ht, hb]
/-- what is never reached -/
theorem c_no {ω : Type} {env : En} {g : FS} {I : ω → RS → Prop} : CB (sseq (fun _ => RS.no) g) env (.no : R ω) I := trivial
theorem hm_ne {α β S : Type} {E : S → En} {s : S} {fa fb : FE} {oa : R (α × S)} {ob : S → R (β × S)} {ca : α → D} {cb : β → D} (ha : EHM fa E s oa ca) (hb : ∀ s', ECM fb E s' (ob s') cb) (h : ∀ a b, big (ca a) (cb b) = true) :
    EHM (bop gNe fa fb) E s (oa.bind fun a => (ob a.2).bind fun b => (neR (ca a.1) (cb b.1)).bind fun z => .ok (z, b.2)) .bl := hm_bop ha hb (fun a b => neR (ca a) (cb b)) fun a b => by
  cases c : neR (ca a) (cb b) with
  | ok z =>
    show gNe _ _ = _
    rw [gNe_big (h a b)]
    unfold neR at c; split at c
    · rename_i z e; cases c; exact e
    · cases c
  | no => trivial
theorem hm_eq {α β S : Type} {E : S → En} {s : S} {fa fb : FE} {oa : R (α × S)} {ob : S → R (β × S)} {ca : α → D} {cb : β → D} (ha : EHM fa E s oa ca) (hb : ∀ s', ECM fb E s' (ob s') cb) (h : ∀ a b, big (ca a) (cb b) = true) :
    EHM (bop gEq fa fb) E s (oa.bind fun a => (ob a.2).bind fun b => (eqR (ca a.1) (cb b.1)).bind fun z => .ok (z, b.2)) .bl := hm_bop ha hb (fun a b => eqR (ca a) (cb b)) fun a b => by
  cases c : eqR (ca a) (cb b) with
  | ok z =>
    show gEq _ _ = _
    rw [gEq_big (h a b)]
    unfold eqR at c; split at c
    · rename_i z e; cases c; exact e
    · cases c
  | no => trivial
noncomputable def splcR {α : Type} (xs : List α) (lo hi : Option Int) (ys : List α) : R (List α) := chk (xs.length + ys.length ≤ 16777216) (.ok (splc xs lo hi ys))
section
variable {α ω S : Type} {env : En} {E : S → En} {s : S} {fe : FE} {e : α → D} {g : FS} {I : ω → RS → Prop}
theorem c_augL {i : Nat} {l : List α} {o : R (List α)} {k : List α → R ω} (E' : List α → En) (he : EC fe env o (eL e)) (hk : ∀ a, CB g (E' a) (k a) I) (h0 : slotO env i = some (oL e l) := by rfl) (h' : ∀ a, setO env i (oL e a) = E' a := by intro _; rfl) :
    CB (sseq (saugL i fe) g) env (o.bind fun a => (catR l a).bind k) I := by
  cases o with
  | no => trivial
  | ok a =>
    obtain ⟨x, h1, h2⟩ := he
    have h2 : cont x env = some (.lst (a.map e)) := h2
    have h0 : slotO env i = some (.lst (l.map e)) := h0
    show CB _ _ ((catR l a).bind k) I
    cases c : catR l a with
    | no => trivial
    | ok z =>
      obtain ⟨h3, h4⟩ := chk_ok c
      cases h4
      refine cb_eq ?_ (hk (l ++ a))
      rw [← h']
      have h5 : (l.map e).length + (a.map e).length ≤ sizeLine := by rw [List.length_map, List.length_map, sl_eq]; exact h3
      simp only [sseq, saugL, h0, h1, Res.go_ok, h2, if_pos h5, oL, List.map_append]
theorem c_augLM {i : Nat} {l : List α} {o : R (List α × S)} {k : List α → S → R ω} (E' : List α → S → En) (he : ECM fe E s o (eL e)) (hk : ∀ a s, CB g (E' a s) (k a s) I) (h0 : ∀ s, slotO (E s) i = some (oL e l) := by intro _; rfl) (h' : ∀ a s, setO (E s) i (oL e a) = E' a s := by intro _ _; rfl) :
    CB (sseq (saugL i fe) g) (E s) (o.bind fun a => (catR l a.1).bind fun z => k z a.2) I := by
  cases o with
  | no => trivial
  | ok a =>
    obtain ⟨x, h1, h2⟩ := he
    have h2 : cont x (E a.2) = some (.lst (a.1.map e)) := h2
    have h0 : ∀ s, slotO (E s) i = some (.lst (l.map e)) := h0
    show CB _ _ ((catR l a.1).bind fun z => k z a.2) I
    cases c : catR l a.1 with
    | no => trivial
    | ok z =>
      obtain ⟨h3, h4⟩ := chk_ok c
      cases h4
      refine cb_eq ?_ (hk (l ++ a.1) a.2)
      rw [← h']
      have h5 : (l.map e).length + (a.1.map e).length ≤ sizeLine := by rw [List.length_map, List.length_map, sl_eq]; exact h3
      simp only [sseq, saugL, h0, h1, Res.go_ok, h2, if_pos h5, oL, List.map_append]
theorem c_setPcL {j : Nat} {lo hi : Option Int} {l : List α} {o : R (List α)} {k : List α → R ω} (E' : List α → En) (he : EH fe env o (eL e)) (hk : ∀ a, CB g (E' a) (k a) I) (h0 : slotO env j = some (oL e l) := by rfl) (h' : ∀ a, setO env j (oL e a) = E' a := by intro _; rfl) :
    CB (sseq (ssetPc j lo hi fe) g) env (o.bind fun a => (splcR l lo hi a).bind k) I := by
  cases o with
  | no => trivial
  | ok a =>
    obtain ⟨x, h1, h2⟩ := he
    have h0 : slotO env j = some (.lst (l.map e)) := h0
    show CB _ _ ((splcR l lo hi a).bind k) I
    cases c : splcR l lo hi a with
    | no => trivial
    | ok z =>
      obtain ⟨h3, h4⟩ := chk_ok c
      cases h4
      refine cb_eq ?_ (hk (splc l lo hi a))
      rw [← h']
      have h5 : (l.map e).length + (a.map e).length ≤ sizeLine := by rw [List.length_map, List.length_map, sl_eq]; exact h3
      have h6 : hold x env = some (.lst (a.map e), env) := h2.hold env
      simp only [sseq, ssetPc, h1, Res.go_ok, h6, h0, if_pos h5, oL, splc_map]
theorem c_setPcT {j : Nat} {lo hi : Option Int} {l : List α} {o : R (List α)} {k : List α → R ω} (E' : List α → En) (he : EH fe env o (eT e)) (hk : ∀ a, CB g (E' a) (k a) I) (h0 : slotO env j = some (oL e l) := by rfl) (h' : ∀ a, setO env j (oL e a) = E' a := by intro _; rfl) :
    CB (sseq (ssetPc j lo hi fe) g) env (o.bind fun a => (splcR l lo hi a).bind k) I := by
  cases o with
  | no => trivial
  | ok a =>
    obtain ⟨x, h1, h2⟩ := he
    have h0 : slotO env j = some (.lst (l.map e)) := h0
    show CB _ _ ((splcR l lo hi a).bind k) I
    cases c : splcR l lo hi a with
    | no => trivial
    | ok z =>
      obtain ⟨h3, h4⟩ := chk_ok c
      cases h4
      refine cb_eq ?_ (hk (splc l lo hi a))
      rw [← h']
      have h5 : (l.map e).length + (a.map e).length ≤ sizeLine := by rw [List.length_map, List.length_map, sl_eq]; exact h3
      have h6 : hold x env = some (.tup (a.map e), env) := h2.hold env
      simp only [sseq, ssetPc, h1, Res.go_ok, h6, h0, if_pos h5, oL, splc_map]
theorem c_delPc {j : Nat} {lo hi : Option Int} {l : List α} {k : List α → R ω} (E' : List α → En) (hk : ∀ a, CB g (E' a) (k a) I) (h0 : slotO env j = some (oL e l) := by rfl) (h' : ∀ a, setO env j (oL e a) = E' a := by intro _; rfl) :
    CB (sseq (sdelPc j lo hi) g) env (k (splc l lo hi [])) I := by
  have h0 : slotO env j = some (.lst (l.map e)) := h0
  refine cb_eq ?_ (hk (splc l lo hi []))
  rw [← h']
  simp only [sseq, sdelPc, h0, oL, splc_map, List.map_nil]
end
end PL

/-! TL: own == and !=, isinstance of an own class, t[::-1], pairs of a tuple. -/
namespace PL
open PySem L2
section
variable {α β γ δ : Type} {env : En} {fa fb : FE} {ca : α → D} {cb : β → D} {e : α → D} {c : Str} {ns : List Str} {gs : α → List D} {oa : R α} {ob : R β} {fn : FFn}
theorem k_own (ha : EH fa env oa (eI c ns gs)) (hb : EH fb env ob cb) (hk : ∀ b, okEq c (cb b) = true) : AK [.rd, .rd] (aown c fa fb) env (oa.bind fun a => ob.bind fun b => .ok (a, b)) (fun p => [.fz (eI c ns gs p.1), .fz (cb p.2)]) false := by
  cases oa with
  | no => trivial
  | ok a =>
    obtain ⟨x, h1, h2⟩ := ha
    cases ob with
    | no => trivial
    | ok b =>
      obtain ⟨y, h3, h4⟩ := hb
      have hx : settle x = .val (.inst c ns (gs a)) := h2.settle
      have hy : cont y env = some (cb b) := h4.cont env
      refine ⟨[settle x, settle y], [.hd (eI c ns gs a), .hd (cb b)], ?_, ⟨?_, rfl, rfl, rfl, rfl⟩, fun _ => rfl⟩
      · simp only [aown, h1, h3, Res.bind_ok, hx, x_cont1, hy, hk, and_self, if_true]
      · simp only [prep, prep_hd (.inl rfl) h2, prep_hd (.inl rfl) h4]
theorem h_own {t : α → β → R Bool} (ha : EH fa env oa (eI c ns gs)) (hb : EH fb env ob cb) (hf : ∀ a b, F0 fn [.fz (eI c ns gs a), .fz (cb b)] (t a b) fun r => .fz (.bl r)) (hk : ∀ b, okEq c (cb b) = true := by intro _; rfl) :
    EH (oeq c false fn fa fb) env ((oa.bind fun a => ob.bind fun b => .ok (a, b)).bind fun p => t p.1 p.2) .bl := by
  have := h_call (c := D.bl) (t := fun p : α × β => t p.1 p.2) (vr := fun r => .fz (.bl r)) (f := fn) (k_own ha hb hk) (fun p => hf p.1 p.2) (hn := fun h => nomatch h)
  cases q : ((oa.bind fun a => ob.bind fun b => R.ok (a, b)).bind fun p => t p.1 p.2) with
  | no => trivial
  | ok r =>
    rw [q] at this
    obtain ⟨x, h1, h2⟩ := this
    rcases h2 with rfl | ⟨o, rfl, h3⟩
    · exact ⟨.val (.bl r), by simp only [oeq, h1, Res.bind_ok, Bool.false_eq_true, if_false], .inl rfl⟩
    · cases o <;> cases h3
theorem h_ownN {t : α → β → R Bool} (ha : EH fa env oa (eI c ns gs)) (hb : EH fb env ob cb) (hf : ∀ a b, F0 fn [.fz (eI c ns gs a), .fz (cb b)] (t a b) fun r => .fz (.bl r)) (hk : ∀ b, okEq c (cb b) = true := by intro _; rfl) :
    EH (oeq c true fn fa fb) env (((oa.bind fun a => ob.bind fun b => .ok (a, b)).bind fun p => t p.1 p.2).bind fun r => .ok (!r)) .bl := by
  have := h_call (c := D.bl) (t := fun p : α × β => t p.1 p.2) (vr := fun r => .fz (.bl r)) (f := fn) (k_own ha hb hk) (fun p => hf p.1 p.2) (hn := fun h => nomatch h)
  cases q : ((oa.bind fun a => ob.bind fun b => R.ok (a, b)).bind fun p => t p.1 p.2) with
  | no => trivial
  | ok r =>
    rw [q] at this
    obtain ⟨x, h1, h2⟩ := this
    rcases h2 with rfl | ⟨o, rfl, h3⟩
    · exact ⟨.val (.bl (!r)), by simp only [oeq, h1, Res.bind_ok, if_true], .inl rfl⟩
    · cases o <;> cases h3
def isiB (c : Str) (d : D) : Option Bool := match d with
  | .inst c' _ _ => if c' = c then some true else none
  | d => (tyD d).map fun _ => false
theorem h_isiC (h : EC fa env oa ca) (b : Bool) (hb : ∀ a, isiB c (ca a) = some b := by intro _; rfl) : EH (isiC c fa) env (oa.bind fun _ => .ok b) .bl := by
  cases oa with
  | no => trivial
  | ok a =>
    obtain ⟨x, h1, h2⟩ := h
    have hb := hb a
    refine ⟨.val (.bl b), ?_, .inl rfl⟩
    unfold isiC
    simp only [h1, Res.bind_ok, h2]
    cases q : ca a with
    | inst c' _ _ =>
      rw [q] at hb
      simp only [isiB] at hb
      by_cases k : c' = c
      · rw [if_pos k] at hb; cases hb; simp only [k, if_true]
      · rw [if_neg k] at hb; cases hb
    | _ => rw [q] at hb; cases hb <;> rfl
theorem h_revT {oa : R (List α)} (ha : EC fa env oa (eT e)) : EH (uop gRevT fa) env (oa.bind fun a => .ok a.reverse) (eT e) := h_uop ha _ fun a => by
  show some (Arg.val (.tup (a.map e).reverse)) = _
  rw [← List.map_reverse]
/-- a tuple known to be a pair -/
def two {α : Type} (l : List α) : R (α × α) := match l with
  | [a, b] => .ok (a, b)
  | _ => .no
theorem EH.pr2 {oa : R (List α)} (h : EH fa env oa (eT e)) : EH fa env (oa.bind two) (e2 e e) := by
  cases oa with
  | no => trivial
  | ok a =>
    match a, h with
    | [], _ => trivial
    | [_], _ => trivial
    | [a, b], h => exact h
    | _ :: _ :: _ :: _, _ => trivial
@[simp] theorem two_ok {α : Type} (a b : α) : two [a, b] = .ok (a, b) := rfl
end
end PL

/-! TL: str of an instance, join; values of any kind. -/
namespace PL
open PySem L2
theorem noLs_map {α : Type} (e : α → D) : ∀ l : List α, noL.noLs (l.map e) = l.all fun a => noL (e a)
  | [] => rfl
  | a :: l => by simp [noL.noLs, noLs_map e l]
section
variable {α β γ δ : Type} {env : En} {fa fb : FE} {ca : α → D} {cb : β → D} {e : α → D} {c f : Str} {ns : List Str} {gs : α → List D} {oa : R α} {ob : R β} {fn : FFn}
theorem h_strInst {t : α → R Str} (ha : EH fa env oa (eI c ns gs)) (hf : ∀ a, F0 fn [.fz (eI c ns gs a)] (t a) fun r => .fz (.str r)) : EH (ostr c fn fa) env (oa.bind t) .str := by
  have k1 : AK [.rd] (aone c fa) env oa (fun a => [.fz (eI c ns gs a)]) false := by
    cases oa with
    | no => trivial
    | ok a =>
      obtain ⟨x, h1, h2⟩ := ha
      have hx : cont x env = some (.inst c ns (gs a)) := h2.cont env
      refine ⟨[settle x], [.hd (eI c ns gs a)], ?_, ⟨?_, rfl, rfl, rfl, rfl⟩, fun _ => rfl⟩
      · simp only [aone, h1, Res.bind_ok, hx, if_true]
      · simp only [prep, prep_hd (.inl rfl) h2]
  have := h_call (c := D.str) (t := t) (vr := fun r => .fz (.str r)) (f := fn) k1 hf (hn := fun h => nomatch h)
  cases q : oa.bind t with
  | no => trivial
  | ok r =>
    rw [q] at this
    obtain ⟨x, h1, h2⟩ := this
    rcases h2 with rfl | ⟨o, rfl, h3⟩
    · exact ⟨.val (.str r), by simp only [ostr, h1, Res.bind_ok], .inl rfl⟩
    · cases o <;> cases h3
noncomputable def joinR (a : Str) (ys : List Str) : R Str := chk ((ys.map (·.length)).sum + ys.length * a.length ≤ 16777216) (.ok (Txt.join a ys))
theorem h_join {o : R Str} {u : R (List Str)} (h : EH fa env o .str) (h' : EC fb env u (eL D.str)) : EH (pmt isStr pJoin fa (acons fb anil)) env (o.bind fun a => u.bind fun ys => joinR a ys) .str := h_pmt h (fun _ => rfl) (ac1 h') _ fun a b => chk_m fun h => by
  show pJoin (.str a) [.lst (b.map D.str)] = _
  simp only [pJoin, strsOf_map, Option.bind_some, if_pos h]
/-! values of any kind -/
def isiR (c : Str) (d : D) : R Bool := match isiB c d with
  | some b => .ok b
  | none => .no
theorem isiB_ok {d : D} {b : Bool} {x : Arg} (h1 : fa env = .ok (x, env)) (h2 : cont x env = some d) (hb : isiB c d = some b) : isiC c fa env = .ok (.val (.bl b), env) := by
  unfold isiC
  simp only [h1, Res.bind_ok, h2]
  cases d with
  | inst c' _ _ =>
    simp only [isiB] at hb
    by_cases k : c' = c
    · rw [if_pos k] at hb; cases hb; simp only [k, if_true]
    · rw [if_neg k] at hb; cases hb
  | _ => cases hb <;> rfl
theorem h_isiCD {oa : R D} (h : EC fa env oa eD) : EH (isiC c fa) env (oa.bind fun d => isiR c d) .bl := by
  cases oa with
  | no => trivial
  | ok a =>
    obtain ⟨x, h1, h2⟩ := h
    show EH _ _ (isiR c a) _
    unfold isiR
    cases q : isiB c a with
    | none => trivial
    | some b => exact ⟨_, isiB_ok h1 h2 q, .inl rfl⟩
def fldR (c f : Str) (d : D) : R D := match d with
  | .inst c' ns ds => if c' = c then (match lkD f ns ds with
    | some x => .ok x
    | none => .no) else .no
  | _ => .no
theorem h_fldD {oa : R D} (h : EC fa env oa eD) : EH (fld c f fa) env (oa.bind fun d => fldR c f d) eD := by
  cases oa with
  | no => trivial
  | ok a =>
    obtain ⟨x, h1, h2⟩ := h
    show EH _ _ (fldR c f a) _
    cases a with
    | inst c' ns ds =>
      unfold fldR
      by_cases k : c' = c
      · simp only [k, if_true]
        cases q : lkD f ns ds with
        | none => trivial
        | some y =>
          refine ⟨.val y, ?_, .inl rfl⟩
          simp only [fld, h1, Res.bind_ok, h2, k, if_true, q]
      · simp only [k, if_false]; trivial
    | _ => trivial
def okR (c : Str) (d : D) (r : R Bool) : R Bool := if okEq c d = true then r else .no
theorem okR_ok {c : Str} {d : D} (h : okEq c d = true) (r : R Bool) : okR c d r = r := if_pos h
theorem h_ownD {ob : R D} {t : α → D → R Bool} (neg : Bool) (ha : EH fa env oa (eI c ns gs)) (hb : EH fb env ob eD) (hf : ∀ a b, F0 fn [.fz (eI c ns gs a), .fz b] (t a b) fun r => .fz (.bl r)) :
    EH (oeq c neg fn fa fb) env ((oa.bind fun a => ob.bind fun b => .ok (a, b)).bind fun p => (okR c p.2 (t p.1 p.2)).bind fun r => .ok (if neg = true then !r else r)) .bl := by
  cases oa with
  | no => trivial
  | ok a => cases ob with
    | no => trivial
    | ok b =>
      show EH _ _ ((okR c b (t a b)).bind _) _
      unfold okR
      by_cases k : okEq c b = true
      · rw [if_pos k]
        obtain ⟨x, h1, h2⟩ := ha
        obtain ⟨y, h3, h4⟩ := hb
        have hx : settle x = .val (.inst c ns (gs a)) := h2.settle
        have hy : cont y env = some b := h4.cont env
        have k1 : AK [.rd, .rd] (aown c fa fb) env (R.ok (a, b)) (fun p => [.fz (eI c ns gs p.1), .fz p.2]) false := by
          refine ⟨[settle x, settle y], [.hd (eI c ns gs a), .hd b], ?_, ⟨?_, rfl, rfl, rfl, rfl⟩, fun _ => rfl⟩
          · simp only [aown, h1, h3, Res.bind_ok, hx, x_cont1, hy, k, and_self, if_true]
          · simp only [prep, prep_hd (.inl rfl) h2, prep_hd (.inl rfl) h4]
        have := h_call (c := D.bl) (t := fun p : α × D => t p.1 p.2) (vr := fun r => .fz (.bl r)) (f := fn) k1 (fun p => hf p.1 p.2) (hn := fun h => nomatch h)
        simp only [R.bind_ok] at this
        cases q : t a b with
        | no => trivial
        | ok r =>
          rw [q] at this
          obtain ⟨z, h5, h6⟩ := this
          rcases h6 with rfl | ⟨o, rfl, h7⟩
          · refine ⟨.val (.bl (if neg = true then !r else r)), ?_, .inl rfl⟩
            simp only [oeq, h5, Res.bind_ok]
          · cases o <;> cases h7
      · rw [if_neg k]; trivial
end
end PL

/-! TL: comprehensions with two sources; star calls. -/
namespace PL
open PySem L2
section
variable {δ ι β : Type} {it it1 : FI} {tg tg1 : FG} {tt tt1 : FT} {fe : FE} {env : En} {ed : δ → D} {ei : ι → D}
def jnR (f : δ → R (List β)) : List δ → R (List β)
  | [] => .ok []
  | d :: ds => (f d).bind fun a => (jnR f ds).bind fun b => .ok (a ++ b)
noncomputable def lcR2 (ds : List δ) (t : δ → R Bool) (i1 : δ → R (List ι)) (t1 : δ → ι → R Bool) (f : δ → ι → R β) : R (List β) :=
  (jnR (fun d => (t d).bind fun b => if b = true then (i1 d).bind fun is => colR (t1 d) (f d) is else .ok []) ds).bind fun l => chk (l.length ≤ 16777216) (.ok l)
theorem lcL2_col {vs vs1 : List Nat} {C : En} {C1 Ci : δ → En} {C2 : δ → ι → En} {t : δ → R Bool} {i1 : δ → R (List ι)} {t1 : δ → ι → R Bool} {f : δ → ι → R β} {cb : β → D} (h1 : ∀ d, tg (ed d) C = .ok (C1 d)) (h2 : ∀ d, TP tt (C1 d) (t d))
    (hi : ∀ d, IT it1 (C1 d) (i1 d) ei) (k0 : ∀ d, clr (C1 d) vs1 = Ci d) (k1 : ∀ d i, tg1 (ei i) (Ci d) = .ok (C2 d i)) (k2 : ∀ d i, TP tt1 (C2 d i) (t1 d i)) (k3 : ∀ d i, EH fe (C2 d i) (f d i) cb) (k4 : ∀ d i, clr (C2 d i) vs1 = Ci d) (h4 : ∀ d, clr (C1 d) vs = C) (h5 : ∀ d, clr (Ci d) vs = C) :
    ∀ (ds : List δ) (acc : List D) (l : List β), jnR (fun d => (t d).bind fun b => if b = true then (i1 d).bind fun is => colR (t1 d) (f d) is else .ok []) ds = .ok l → acc.length + l.length ≤ sizeLine →
      lcL2 tg tt it1 tg1 tt1 fe vs vs1 (ds.map ed) acc C = .ok (acc ++ l.map cb, C)
  | [], acc, l, h, _ => by cases h; simp [lcL2]
  | d :: ds, acc, l, h, hl => by
    simp only [jnR] at h
    have q2 := h2 d
    have q3 := hi d
    cases ct : t d with
    | no => rw [ct] at h; cases h
    | ok b =>
      rw [ct] at h q2
      have q2' : tt (C1 d) = .ok (b, C1 d) := q2
      cases b with
      | true =>
        have h : (((i1 d).bind fun is => colR (t1 d) (f d) is).bind fun a => (jnR (fun d => (t d).bind fun b => if b = true then (i1 d).bind fun is => colR (t1 d) (f d) is else .ok []) ds).bind fun b => .ok (a ++ b)) = .ok l := h
        cases ci : i1 d with
        | no => rw [ci] at h; cases h
        | ok is =>
          rw [ci] at h q3
          have q3' : it1 (C1 d) = .ok (is.map ei, C1 d) := q3
          have h : ((colR (t1 d) (f d) is).bind fun a => (jnR (fun d => (t d).bind fun b => if b = true then (i1 d).bind fun is => colR (t1 d) (f d) is else .ok []) ds).bind fun b => .ok (a ++ b)) = .ok l := h
          cases cc : colR (t1 d) (f d) is with
          | no => rw [cc] at h; cases h
          | ok a =>
            rw [cc] at h
            have h : ((jnR (fun d => (t d).bind fun b => if b = true then (i1 d).bind fun is => colR (t1 d) (f d) is else .ok []) ds).bind fun b => .ok (a ++ b)) = .ok l := h
            cases cr : jnR (fun d => (t d).bind fun b => if b = true then (i1 d).bind fun is => colR (t1 d) (f d) is else .ok []) ds with
            | no => rw [cr] at h; cases h
            | ok l' =>
              rw [cr] at h; cases h
              rw [List.length_append] at hl
              simp only [List.map_cons, lcL2, h1, Res.bin, q2', if_true, q3', k0]
              rw [lcL_col (k1 d) (k2 d) (k3 d) (k4 d) is acc a cc (by omega)]
              simp only [h5]
              rw [lcL2_col h1 h2 hi k0 k1 k2 k3 k4 h4 h5 ds (acc ++ a.map cb) l' cr (by rw [List.length_append, List.length_map]; omega)]
              simp
      | false =>
        have h : ((jnR (fun d => (t d).bind fun b => if b = true then (i1 d).bind fun is => colR (t1 d) (f d) is else .ok []) ds).bind fun b => .ok ([] ++ b)) = .ok l := h
        cases cr : jnR (fun d => (t d).bind fun b => if b = true then (i1 d).bind fun is => colR (t1 d) (f d) is else .ok []) ds with
        | no => rw [cr] at h; cases h
        | ok l' =>
          rw [cr] at h; cases h
          simp only [List.map_cons, lcL2, h1, Res.bin, q2', Bool.false_eq_true, if_false, h4]
          exact lcL2_col h1 h2 hi k0 k1 k2 k3 k4 h4 h5 ds acc l' cr hl
theorem n_lc2 {vs vs1 : List Nat} {C : En} {C1 Ci : δ → En} {C2 : δ → ι → En} {t : δ → R Bool} {i1 : δ → R (List ι)} {t1 : δ → ι → R Bool} {f : δ → ι → R β} {cb : β → D} {o : R (List δ)} (hit : IT it env o ed) (hp : plainS env vs = true) (h0 : clr env vs = C)
    (h1 : ∀ d, tg (ed d) C = .ok (C1 d)) (h2 : ∀ d, TP tt (C1 d) (t d))
    (hi : ∀ d, IT it1 (C1 d) (i1 d) ei) (k0 : ∀ d, clr (C1 d) vs1 = Ci d) (k1 : ∀ d i, tg1 (ei i) (Ci d) = .ok (C2 d i)) (k2 : ∀ d i, TP tt1 (C2 d i) (t1 d i)) (k3 : ∀ d i, EH fe (C2 d i) (f d i) cb) (k4 : ∀ d i, clr (C2 d i) vs1 = Ci d) (h4 : ∀ d, clr (C1 d) vs = C) (h5 : ∀ d, clr (Ci d) vs = C)
    (h6 : rst env C vs = env) : EN (vlc2 it tg tt it1 tg1 tt1 fe vs vs1) env (o.bind fun ds => lcR2 ds t i1 t1 f) (oL cb) := by
  cases o with
  | ok ds =>
    have hi' : it env = .ok (ds.map ed, env) := hit
    show EN _ _ (lcR2 ds t i1 t1 f) _
    cases c : lcR2 ds t i1 t1 f with
    | ok l =>
      unfold lcR2 at c
      cases c2 : jnR (fun d => (t d).bind fun b => if b = true then (i1 d).bind fun is => colR (t1 d) (f d) is else .ok []) ds with
      | no => rw [c2] at c; cases c
      | ok l' =>
      rw [c2] at c
      obtain ⟨h7, h8⟩ := chk_ok c
      cases h8
      show vlc2 it tg tt it1 tg1 tt1 fe vs vs1 env = _
      simp only [vlc2, hi', Res.bind_ok, hp, if_true, h0]
      rw [lcL2_col h1 h2 hi k0 k1 k2 k3 k4 h4 h5 ds [] l c2 (by rw [sl_eq]; simpa using h7)]
      simp only [Res.bin, h6, List.nil_append]
    | no => trivial
  | no => trivial
end

/-! a list unpacked -/
section
variable {α : Type} {fe : FE} {env : En} {o : R (List α)} {e : α → D}
def unl2 : List α → R (α × α)
  | [a, b] => .ok (a, b)
  | _ => .no
theorem EH.unl2 (h : EH fe env o (eL e)) : EH fe env (o.bind unl2) (fun t => D.lst [e t.1, e t.2]) := by
  cases o with
  | ok l =>
    obtain ⟨x, h1, h2⟩ := h
    show EH _ _ (unl2 l) _
    cases c : unl2 l with
    | ok t =>
      unfold unl2 at c
      split at c
      · cases c; exact ⟨x, h1, h2⟩
      · cases c
    | no => trivial
  | no => trivial
def unl3 : List α → R (α × α × α)
  | [a, b, c] => .ok (a, b, c)
  | _ => .no
theorem EH.unl3 (h : EH fe env o (eL e)) : EH fe env (o.bind unl3) (fun t => D.lst [e t.1, e t.2.1, e t.2.2]) := by
  cases o with
  | ok l =>
    obtain ⟨x, h1, h2⟩ := h
    show EH _ _ (unl3 l) _
    cases c : unl3 l with
    | ok t =>
      unfold unl3 at c
      split at c
      · cases c; exact ⟨x, h1, h2⟩
      · cases c
    | no => trivial
  | no => trivial
def unl4 : List α → R (α × α × α × α)
  | [a, b, c, d] => .ok (a, b, c, d)
  | _ => .no
theorem EH.unl4 (h : EH fe env o (eL e)) : EH fe env (o.bind unl4) (fun t => D.lst [e t.1, e t.2.1, e t.2.2.1, e t.2.2.2]) := by
  cases o with
  | ok l =>
    obtain ⟨x, h1, h2⟩ := h
    show EH _ _ (unl4 l) _
    cases c : unl4 l with
    | ok t =>
      unfold unl4 at c
      split at c
      · cases c; exact ⟨x, h1, h2⟩
      · cases c
    | no => trivial
  | no => trivial
def unl5 : List α → R (α × α × α × α × α)
  | [a, b, c, d, f] => .ok (a, b, c, d, f)
  | _ => .no
theorem EH.unl5 (h : EH fe env o (eL e)) : EH fe env (o.bind unl5) (fun t => D.lst [e t.1, e t.2.1, e t.2.2.1, e t.2.2.2.1, e t.2.2.2.2]) := by
  cases o with
  | ok l =>
    obtain ⟨x, h1, h2⟩ := h
    show EH _ _ (unl5 l) _
    cases c : unl5 l with
    | ok t =>
      unfold unl5 at c
      split at c
      · cases c; exact ⟨x, h1, h2⟩
      · cases c
    | no => trivial
  | no => trivial
end

/-! a call that is handed a changed list to read -/
section
variable {S α γ : Type} {E : S → En} {s : S} {fe : FE} {ga : FA} {ca : α → D}
def AKB (ms : List Md) (ga : FA) (E : S → En) (s : S) (o : R (γ × S)) (as : γ → S → List Sl) : Prop := match o with
  | .ok r => ∃ l ps, ga (E s) = .ok (l, E r.2) ∧ PrepOk ms l (E r.2) (as r.1 r.2) ps
  | .no => True
theorem kb_nil : AKB [] anil E s (.ok ((), s)) (fun _ _ => []) := ⟨[], [], rfl, ⟨rfl, rfl, rfl, rfl, rfl⟩⟩
theorem kb_rd {m : Md} {ms : List Md} {oa : R (α × S)} {og : S → R (γ × S)} {as : γ → S → List Sl} (h : EHM fe E s oa ca) (h' : ∀ s', AKB ms ga E s' (og s') as) (hm : m = .rd ∨ m = .bw := by first | exact .inl rfl | exact .inr rfl) :
    AKB (m :: ms) (acons fe ga) E s (oa.bind fun a => (og a.2).bind fun r => .ok ((a.1, r.1), r.2)) (fun p s' => .fz (ca p.1) :: as p.2 s') := by
  cases oa with
  | ok a =>
    obtain ⟨x, h1, h2⟩ := h
    have h'' := h' a.2
    cases c : og a.2 with
    | ok r =>
      rw [c] at h''
      obtain ⟨l, ps, h3, p⟩ := h''
      simp only [R.bind_ok, c]
      exact ⟨settle x :: l, .hd (ca a.1) :: ps, by simp only [acons, h1, Res.bind_ok, h3], ⟨by simp only [prep, prep1_hd hm h2, p.pr], by simp only [slsOf, Pa.sl, p.sl], p.mt, by simp only [List.length_cons, p.ln], p.fl⟩⟩
    | no => simp only [R.bind_ok, c, R.bind_no]; trivial
  | no => trivial
theorem kb_bw {i : Nat} {ms : List Md} {om : S → O} {cs : S → D} {og : R (γ × S)} {as : γ → S → List Sl} (h' : AKB ms ga E s og as) (h : ∀ s, slotO (E s) i = some (om s) := by intro _; rfl) (hf : ∀ s, flatO (om s) = true := by intro _; rfl) (h2 : ∀ s, (om s).toD = cs s := by intro _; rfl) :
    AKB (.bw :: ms) (acons (rdv i) ga) E s og (fun p s' => .fz (cs s') :: as p s') := by
  cases og with
  | ok r =>
    obtain ⟨l, ps, h3, p⟩ := h'
    have e1 : ∀ s, rdv i (E s) = .ok (.slot i, E s) := fun s => by
      have h := h s
      unfold slotO at h
      unfold rdv
      split at h <;> simp_all
    refine ⟨.slot i :: l, .bo i :: ps, by simp only [acons, e1, Res.bind_ok, h3, PL.settle], ⟨by simp only [prep, prep1, h, p.pr], by simp only [slsOf, Pa.sl, h, Option.map_some, p.sl, h2], p.mt, by simp only [List.length_cons, p.ln], ?_⟩⟩
    show (bslots (.bo i :: ps)).all _ = true
    simp only [bslots, List.all_cons, h, hf, p.fl, Bool.and_self]
  | no => trivial
theorem hmb_call {ρ : Type} {ms : List Md} {f : FFn} {og : R (γ × S)} {as : γ → S → List Sl} {t : γ → S → R ρ} {vr : ρ → Sl} {c : ρ → D} (h : AKB ms ga E s og as) (hf : ∀ r s', F0 f (as r s') (t r s') vr) (hn : ∀ r, noL (c r) = true) (hv : ∀ r, vr r = .fz (c r) := by intro _; rfl) :
    EHM (callF ms f ga) E s (og.bind fun r => (t r.1 r.2).bind fun q => .ok (q, r.2)) c := by
  cases og with
  | ok r =>
    obtain ⟨l, ps, h1, p⟩ := h
    have q := hf r.1 r.2
    cases ct : t r.1 r.2 with
    | ok z =>
      rw [ct] at q
      have q' : f (as r.1 r.2) = .ok (.fz (c z)) ((as r.1 r.2).map fun _ => none) := by rw [← hv]; exact q
      simp only [R.bind_ok, ct]
      have hc : clean ps (E r.2) (.fz (c z)) ((as r.1 r.2).map fun _ => none) = true := by
        unfold clean
        simp only [Bool.or_eq_true, Bool.and_eq_true]
        exact .inr ⟨⟨p.fl, hn z⟩, allNone _⟩
      have ho : okPa ps = true := by unfold okPa; rw [p.mt]; simp
      refine ⟨_, ?_, .inl rfl⟩
      simp only [callF, h1, Res.bind_ok, p.pr, p.sl, ho, if_true, q', hc, applyO_none ps _ (E r.2) p.mt p.ln]
      rfl
    | no => simp only [R.bind_ok, ct, R.bind_no]; trivial
  | no => trivial
end
end PL

/-! TL: max with a default; pieces and sums of tuples of known length. -/
namespace PL
open PySem L2
section
variable {fa : FE} {env : En}
theorem h_maxD {d : Int} {o : R (List Int)} (h : EC fa env o (eL D.int)) : EH (cbn (cMaxD d) (acons fa anil)) env (o.bind fun a => .ok (maxDl d a)) .int := h_cbn (ac1 h) _ fun a => by
  show cMaxD d [.lst (a.map D.int)] = _
  simp only [cMaxD, intsOf_map, Option.map_some]
theorem h_tupP {α : Type} {c : α → D} {o : R α} (h : EC fa env o c) (ht : ∀ a, ∃ ds, c a = .tup ds := by intro _; exact ⟨_, rfl⟩) : EH (cbn cTuple (acons fa anil)) env (o.bind fun a => .ok a) c := h_cbn (ac1 h) _ fun a => by
  obtain ⟨ds, e⟩ := ht a
  show cTuple [c a] = some (.val (c a))
  rw [e]; rfl
end
section
variable {α S : Type} {fe : FE} {env : En} {E : S → En} {s : S} {e : α → D}
def unl1 : List α → R α
  | [a] => .ok a
  | _ => .no
theorem EH.unT1 {o : R (List α)} (h : EH fe env o (eT e)) : EH fe env (o.bind PL.unl1) (fun t => D.tup [e t]) := by
  cases o with
  | ok l =>
    obtain ⟨x, h1, h2⟩ := h
    show EH _ _ (PL.unl1 l) _
    cases c : PL.unl1 l with
    | ok t =>
      unfold PL.unl1 at c
      split at c
      · cases c; exact ⟨x, h1, h2⟩
      · cases c
    | no => trivial
  | no => trivial
theorem EHM.unT1 {o : R (List α × S)} (h : EHM fe E s o (eT e)) : EHM fe E s (o.bind fun p => (PL.unl1 p.1).bind fun t => .ok (t, p.2)) (fun t => D.tup [e t]) := by
  cases o with
  | ok l =>
    obtain ⟨x, h1, h2⟩ := h
    obtain ⟨l, s'⟩ := l
    show EHM _ _ _ ((PL.unl1 l).bind fun t => .ok (t, s')) _
    cases c : PL.unl1 l with
    | ok t =>
      unfold PL.unl1 at c
      split at c
      · cases c; exact ⟨x, h1, h2⟩
      · cases c
    | no => trivial
  | no => trivial
theorem EH.unT2 {o : R (List α)} (h : EH fe env o (eT e)) : EH fe env (o.bind PL.unl2) (fun t => D.tup [e t.1, e t.2]) := by
  cases o with
  | ok l =>
    obtain ⟨x, h1, h2⟩ := h
    show EH _ _ (PL.unl2 l) _
    cases c : PL.unl2 l with
    | ok t =>
      unfold PL.unl2 at c
      split at c
      · cases c; exact ⟨x, h1, h2⟩
      · cases c
    | no => trivial
  | no => trivial
theorem EHM.unT2 {o : R (List α × S)} (h : EHM fe E s o (eT e)) : EHM fe E s (o.bind fun p => (PL.unl2 p.1).bind fun t => .ok (t, p.2)) (fun t => D.tup [e t.1, e t.2]) := by
  cases o with
  | ok l =>
    obtain ⟨x, h1, h2⟩ := h
    obtain ⟨l, s'⟩ := l
    show EHM _ _ _ ((PL.unl2 l).bind fun t => .ok (t, s')) _
    cases c : PL.unl2 l with
    | ok t =>
      unfold PL.unl2 at c
      split at c
      · cases c; exact ⟨x, h1, h2⟩
      · cases c
    | no => trivial
  | no => trivial
theorem EH.unT3 {o : R (List α)} (h : EH fe env o (eT e)) : EH fe env (o.bind PL.unl3) (fun t => D.tup [e t.1, e t.2.1, e t.2.2]) := by
  cases o with
  | ok l =>
    obtain ⟨x, h1, h2⟩ := h
    show EH _ _ (PL.unl3 l) _
    cases c : PL.unl3 l with
    | ok t =>
      unfold PL.unl3 at c
      split at c
      · cases c; exact ⟨x, h1, h2⟩
      · cases c
    | no => trivial
  | no => trivial
theorem EHM.unT3 {o : R (List α × S)} (h : EHM fe E s o (eT e)) : EHM fe E s (o.bind fun p => (PL.unl3 p.1).bind fun t => .ok (t, p.2)) (fun t => D.tup [e t.1, e t.2.1, e t.2.2]) := by
  cases o with
  | ok l =>
    obtain ⟨x, h1, h2⟩ := h
    obtain ⟨l, s'⟩ := l
    show EHM _ _ _ ((PL.unl3 l).bind fun t => .ok (t, s')) _
    cases c : PL.unl3 l with
    | ok t =>
      unfold PL.unl3 at c
      split at c
      · cases c; exact ⟨x, h1, h2⟩
      · cases c
    | no => trivial
  | no => trivial
theorem EH.unT4 {o : R (List α)} (h : EH fe env o (eT e)) : EH fe env (o.bind PL.unl4) (fun t => D.tup [e t.1, e t.2.1, e t.2.2.1, e t.2.2.2]) := by
  cases o with
  | ok l =>
    obtain ⟨x, h1, h2⟩ := h
    show EH _ _ (PL.unl4 l) _
    cases c : PL.unl4 l with
    | ok t =>
      unfold PL.unl4 at c
      split at c
      · cases c; exact ⟨x, h1, h2⟩
      · cases c
    | no => trivial
  | no => trivial
theorem EHM.unT4 {o : R (List α × S)} (h : EHM fe E s o (eT e)) : EHM fe E s (o.bind fun p => (PL.unl4 p.1).bind fun t => .ok (t, p.2)) (fun t => D.tup [e t.1, e t.2.1, e t.2.2.1, e t.2.2.2]) := by
  cases o with
  | ok l =>
    obtain ⟨x, h1, h2⟩ := h
    obtain ⟨l, s'⟩ := l
    show EHM _ _ _ ((PL.unl4 l).bind fun t => .ok (t, s')) _
    cases c : PL.unl4 l with
    | ok t =>
      unfold PL.unl4 at c
      split at c
      · cases c; exact ⟨x, h1, h2⟩
      · cases c
    | no => trivial
  | no => trivial
theorem EH.unT5 {o : R (List α)} (h : EH fe env o (eT e)) : EH fe env (o.bind PL.unl5) (fun t => D.tup [e t.1, e t.2.1, e t.2.2.1, e t.2.2.2.1, e t.2.2.2.2]) := by
  cases o with
  | ok l =>
    obtain ⟨x, h1, h2⟩ := h
    show EH _ _ (PL.unl5 l) _
    cases c : PL.unl5 l with
    | ok t =>
      unfold PL.unl5 at c
      split at c
      · cases c; exact ⟨x, h1, h2⟩
      · cases c
    | no => trivial
  | no => trivial
theorem EHM.unT5 {o : R (List α × S)} (h : EHM fe E s o (eT e)) : EHM fe E s (o.bind fun p => (PL.unl5 p.1).bind fun t => .ok (t, p.2)) (fun t => D.tup [e t.1, e t.2.1, e t.2.2.1, e t.2.2.2.1, e t.2.2.2.2]) := by
  cases o with
  | ok l =>
    obtain ⟨x, h1, h2⟩ := h
    obtain ⟨l, s'⟩ := l
    show EHM _ _ _ ((PL.unl5 l).bind fun t => .ok (t, s')) _
    cases c : PL.unl5 l with
    | ok t =>
      unfold PL.unl5 at c
      split at c
      · cases c; exact ⟨x, h1, h2⟩
      · cases c
    | no => trivial
  | no => trivial
end
section
variable {S γ ρ : Type} {E : S → En} {s : S} {ga : FA} {c : Str} {ms : List Md}
/-- an instance made of arguments that change slots -/
theorem nm_mkF {fn : FFn} {og : R (γ × S)} {as : γ → S → List Sl} {pz : List (Option Nat)} {t : γ → S → R ρ} {vr : ρ → Sl} {mr : γ → S → ρ → List (Option O)} {cz : ρ → O} (h : AKM ms ga E s og as pz) (hf : ∀ r s', F1 fn (.mu (.inst c [] []) :: as r s') (t r s') vr (mr r s'))
    (hv : ∀ r, vr r = .fz .non := by intro _; rfl) (hm : ∀ r s' z, mr r s' z = some (cz z) :: (as r s').map fun _ => none := by intro _ _ _; rfl) (hz : pz.filterMap id = [] := by rfl)
    (ha : ∀ r s' e, apz pz ((as r s').map fun _ => none) e = some e := by intro _ _ _; rfl) : ENM (mkF c ms fn ga) E s (og.bind fun r => (t r.1 r.2).bind fun z => .ok (z, r.2)) cz := by
  cases og with
  | no => trivial
  | ok r =>
    obtain ⟨l, ps, h1, p⟩ := h
    have q := hf r.1 r.2
    show ENM _ _ _ ((t r.1 r.2).bind fun z => .ok (z, r.2)) _
    cases ct : t r.1 r.2 with
    | no => trivial
    | ok z =>
      rw [ct] at q
      have q' : fn (.mu (.inst c [] []) :: as r.1 r.2) = .ok (.fz .non) (some (cz z) :: (as r.1 r.2).map fun _ => none) := by rw [← hm, ← hv]; exact q
      show mkF c ms fn ga (E s) = _
      have pm : mslots ps = [] := by rw [p.mt, hz]
      have s1 : slotO (E r.2 ++ [some (.ow (.inst c [] []))]) (E r.2).length = some (.inst c [] []) := by
        unfold slotO; simp
      have s2 : slsOf (E r.2 ++ [some (.ow (.inst c [] []))]) (.mt (E r.2).length :: ps) = some (.mu (.inst c [] []) :: as r.1 r.2) := by
        simp only [slsOf, Pa.sl, s1, Option.map_some, slsOf_ext p.sl]
      have ho : okPa (.mt (E r.2).length :: ps) = true := by
        unfold okPa
        simp only [mslots, bslots, pm, p.bs]
        simp
      have hcl : clean (.mt (E r.2).length :: ps) (E r.2 ++ [some (.ow (.inst c [] []))]) (.fz .non) (some (cz z) :: (as r.1 r.2).map fun _ => none) = true := by
        unfold clean
        simp only [bslots, p.bs]; rfl
      have hap : applyO (.mt (E r.2).length :: ps) (some (cz z) :: (as r.1 r.2).map fun _ => none) (E r.2 ++ [some (.ow (.inst c [] []))]) = some (E r.2 ++ [some (.ow (cz z))]) := by
        simp only [applyO]
        rw [p.ap, ha]
        unfold setO
        simp
      have hg : (E r.2 ++ [some (Sl.ow (cz z))])[(E r.2).length]? = some (some (.ow (cz z))) := by simp
      have ht : (E r.2 ++ [some (Sl.ow (cz z))]).take (E r.2).length = E r.2 := by simp
      simp only [mkF, h1, Res.bind_ok, p.pr, s2, ho, if_true, q', hcl, hap, hg, ht]
end
end PL

/-! TL: texts split, read, gone through. -/
namespace PL
open PySem L2
section
variable {α β γ : Type} {fa fb : FE} {ga : FA} {env : En} {ca : α → D}
theorem n_pmt {cz : γ → O} {oa : R α} {ob : R β} {ok : D → Bool} {g : D → List D → Option Arg} {xs : β → List D} (ha : EH fa env oa ca) (hk : ∀ a, ok (ca a) = true) (hb : AC ga env ob xs) (r : α → β → R γ) (h : ∀ a b, match r a b with | .ok z => g (ca a) (xs b) = some (.new (cz z)) | .no => True) :
    EN (pmt ok g fa ga) env (oa.bind fun a => ob.bind fun b => r a b) cz := by
  cases oa with
  | no => trivial
  | ok a =>
    obtain ⟨x, h1, h2⟩ := ha
    cases ob with
    | no => trivial
    | ok b =>
      obtain ⟨l, h3, h4⟩ := hb
      show EN _ _ (r a b) _
      have := h a b
      cases c : r a b with
      | no => trivial
      | ok z =>
        rw [c] at this
        have this : g (ca a) (xs b) = some (.new (cz z)) := this
        show pmt ok g fa ga env = _
        simp only [pmt, h1, Res.bind_ok, h2.settle, hk, if_true, h3, h4, Option.bind_some, this]
noncomputable def splitR (a b : Str) : R (List Str) := chk ((b.length == 0) = false ∧ a.length + 2 ≤ 16777216) (.ok (Txt.split a b))
theorem n_split {o u : R Str} (h : EH fa env o .str) (h' : EC fb env u .str) : EN (pmt isStr pSplit fa (acons fb anil)) env (o.bind fun a => u.bind fun b => splitR a b) (oL .str) := n_pmt h (fun _ => rfl) (ac1 h') _ fun a b => chk_m fun h => by
  show pSplit (.str a) [.str b] = _
  simp only [pSplit]
  rw [if_pos h]
def intS (a : Str) : R Int := if a.length ≤ 640 then (match PySem.intText? a with
  | some n => .ok n
  | none => .no) else .no
theorem h_intS {o : R Str} (h : EC fa env o .str) : EH (cbn cIntS (acons fa anil)) env (o.bind intS) .int := h_cbn (ac1 h) intS fun a => by
  unfold intS
  by_cases c : a.length ≤ 640
  · rw [if_pos c]
    cases e : PySem.intText? a with
    | none => trivial
    | some n =>
      show cIntS [.str a] = _
      simp only [cIntS, if_pos c, e, Option.map_some]
  · rw [if_neg c]; trivial
def inSR (x z : Str) : R Bool := match x.cps.toList with
  | [c] => .ok (decide (c ∈ z.cps.toList))
  | _ => .no
theorem h_inS {o u : R Str} (h : EC fa env o .str) (h' : EC fb env u .str) : EH (bop gInS fa fb) env (o.bind fun a => u.bind fun b => inSR a b) .bl := h_bop h h' inSR fun a b => by
  unfold inSR
  cases e : a.cps.toList with
  | nil => trivial
  | cons c r =>
    cases r with
    | nil =>
      show gInS (.str a) (.str b) = _
      simp only [gInS, e]
    | cons _ _ => trivial
theorem i_Str {o : R Str} (h : EC fa env o .str) : IT (itStr fa) env (o.bind fun x => .ok (signs x)) .str := by
  cases o with
  | no => trivial
  | ok a =>
    obtain ⟨x, h1, h2⟩ := h
    show itStr fa env = _
    simp only [itStr, h1, Res.bind_ok, h2]
end
/-! range down -/
def rngDn (i j : Int) : List Int := (List.range (i - j).toNat).map fun (m : Nat) => i + (m : Int) * (-1)
noncomputable def rngDR (i j c : Int) : R (List Int) := chk (c = -1 ∧ Rk i ∧ Rk j) (.ok (rngDn i j))
theorem i_rD {fa fb fc : FE} {env : En} {o u w : R Int} (h : EC fa env o .int) (h' : EC fb env u .int) (h'' : EC fc env w .int) : IT (itRngD (acons fa (acons fb (acons fc anil)))) env ((o.bind fun a => (u.bind fun b => w.bind fun c => .ok (b, c)).bind fun q => .ok (a, q)).bind fun p => rngDR p.1 p.2.1 p.2.2) .int := by
  have h := ac_cons h (ac2 h' h'')
  cases c0 : (o.bind fun a => (u.bind fun b => w.bind fun c => R.ok (b, c)).bind fun q => R.ok (a, q)) with
  | ok a =>
    rw [c0] at h
    obtain ⟨l, h1, h2⟩ := h
    show IT _ _ (rngDR a.1 a.2.1 a.2.2) _
    cases c : rngDR a.1 a.2.1 a.2.2 with
    | ok ds =>
      obtain ⟨h3, h4⟩ := chk_ok c
      cases h4
      show itRngD _ env = _
      have q : a.2.2 = -1 ∧ -(2 ^ 62) ≤ a.1 ∧ a.1 < 2 ^ 62 ∧ -(2 ^ 62) ≤ a.2.1 ∧ a.2.1 < 2 ^ 62 := ⟨h3.1, h3.2.1.1, h3.2.1.2, h3.2.2.1, h3.2.2.2⟩
      simp only [itRngD, h1, Res.bind_ok, h2]
      rw [if_pos q]
      unfold ddown rngDn
      rw [List.map_map]; rfl
    | no => trivial
  | no => trivial
/-! what is known not to be None -/
theorem c_nar {α ω : Type} {g : FS} {I : ω → RS → Prop} {x : Option α} {k : α → R ω} (E : Option α → En) (E' : α → En) (hk : ∀ a, CB g (E' a) (k a) I) (e : ∀ a, E (some a) = E' a := by intro _; rfl) : CB g (E x) ((unO x).bind k) I := by
  cases x with
  | none => trivial
  | some a => rw [e]; exact hk a
/-! an instance made of what is borrowed -/
section
variable {γ ρ : Type} {env : En} {ga : FA} {c : Str} {ms : List Md}
theorem slotO_ext {e : En} {y : Option Sl} {j : Nat} {o : O} (h : slotO e j = some o) : j < e.length ∧ slotO (e ++ [y]) j = some o := by
  unfold slotO at h ⊢
  cases c2 : e[j]? with
  | none => rw [c2] at h; cases h
  | some z =>
    have hj := (List.getElem?_eq_some_iff.mp c2).1
    rw [List.getElem?_append_left hj, c2]; rw [c2] at h; exact ⟨hj, h⟩
theorem n_mkB {fn : FFn} {og : R γ} {as : γ → List Sl} {t : γ → R ρ} {vr : ρ → Sl} {mr : γ → ρ → List (Option O)} {cz : ρ → O} (h : AK ms ga env og as true) (hf : ∀ r, F1 fn (.mu (.inst c [] []) :: as r) (t r) vr (mr r)) (hn : ∀ z, noLO (cz z) = true)
    (hv : ∀ r, vr r = .fz .non := by intro _; rfl) (hm : ∀ r z, mr r z = some (cz z) :: (as r).map fun _ => none := by intro _ _; rfl) : EN (mkF c ms fn ga) env (og.bind t) cz := by
  cases og with
  | no => trivial
  | ok r =>
    obtain ⟨l, ps, h1, p, _⟩ := h
    have q := hf r
    show EN _ _ (t r) _
    cases ct : t r with
    | no => trivial
    | ok z =>
      rw [ct] at q
      have q' : fn (.mu (.inst c [] []) :: as r) = .ok (.fz .non) (some (cz z) :: (as r).map fun _ => none) := by rw [← hm, ← hv]; exact q
      show mkF c ms fn ga env = _
      have s1 : slotO (env ++ [some (.ow (.inst c [] []))]) env.length = some (.inst c [] []) := by
        unfold slotO; simp
      have s2 : slsOf (env ++ [some (.ow (.inst c [] []))]) (.mt env.length :: ps) = some (.mu (.inst c [] []) :: as r) := by
        simp only [slsOf, Pa.sl, s1, Option.map_some, slsOf_ext p.sl]
      have bs : ∀ j ∈ bslots ps, ∃ o, slotO env j = some o ∧ flatO o = true := fun j hj => by
        have := List.all_eq_true.mp p.fl j hj
        cases e : slotO env j with
        | none => rw [e] at this; cases this
        | some o => rw [e] at this; exact ⟨o, rfl, this⟩
      have ho : okPa (.mt env.length :: ps) = true := by
        unfold okPa
        simp only [mslots, bslots, p.mt]
        simp only [List.nodup_cons, List.not_mem_nil, not_false_eq_true, List.nodup_nil, and_self, decide_true, Bool.true_and]
        refine List.all_eq_true.mpr fun j hj => ?_
        obtain ⟨o, ho, _⟩ := bs j hj
        have := (slotO_ext (y := none) ho).1
        simp
        omega
      have hcl : clean (.mt env.length :: ps) (env ++ [some (.ow (.inst c [] []))]) (.fz .non) (some (cz z) :: (as r).map fun _ => none) = true := by
        unfold clean
        simp only [Bool.or_eq_true, Bool.and_eq_true]
        refine .inr ⟨⟨?_, rfl⟩, ?_⟩
        · refine List.all_eq_true.mpr fun j hj => ?_
          obtain ⟨o, ho, hf⟩ := bs j hj
          rw [(slotO_ext ho).2]; exact hf
        · rw [List.all_cons, Bool.and_eq_true]
          exact ⟨hn z, allNone _⟩
      have hap : applyO (.mt env.length :: ps) (some (cz z) :: (as r).map fun _ => none) (env ++ [some (.ow (.inst c [] []))]) = some (env ++ [some (.ow (cz z))]) := by
        simp only [applyO]
        rw [applyO_none ps (as r) _ p.mt p.ln]
        unfold setO
        simp
      have hg : (env ++ [some (Sl.ow (cz z))])[env.length]? = some (some (.ow (cz z))) := by simp
      have ht : (env ++ [some (Sl.ow (cz z))]).take env.length = env := by simp
      simp only [mkF, h1, Res.bind_ok, p.pr, s2, ho, if_true, q', hcl, hap, hg, ht]
end
end PL

/-! mirrors -/
namespace Mi
open PySem L2 PL
/-- _law_feed: slots 0 script, 1 k, 2 cell, 3 digits, 4 state -/
def m__law_feed : FS := (sseq (sadj [.fz 2] (sasg 2 (vif (tst (bop gLt (rdv 1) (cbn cLen (acons (rdv 0) anil)))) (bop gIx (rdv 0) (rdv 1)) (bop gAdd (bop gMul (kst (.int 83)) (rdv 1)) (kst (.int 29))))))
  (sseq (sadj [.fz 3] (sasg 3 (cbn cMax2 (acons (kst (.int 0)) (acons (bop gSub (cbn cAbs (acons (rdv 2) anil)) (bop gPow (kst (.int 10)) (kst (.int 18)))) anil)))))
  (sseq (sadj [.fz 4] (sasg 4 (bop gMod (bop gAdd (bop gAdd (bop gMul (rdv 2) (kst (.int 6364136223846793005))) (bop gMul (kst (.int 7919)) (rdv 1))) (kst (.int 1442695040888963407))) (kst (.int 2305843009213693951)))))
  (sseq (sret (dsp (fun ds => .new (.lst ds)) (acons (rdv 3) (acons (rdv 4) anil))))
  RS.nx))))
def f__law_feed : FFn := runF 5 m__law_feed
/-- _law_take: slots 0 feed, 1 many, 2 digit -/
def m__law_take : FS := (sseq (sif (tst (bop gGt (bop gIx (rdv 0) (kst (.int 0))) (kst (.int 0)))) (sseq (sadj [.fz 2] (sasg 2 (bop gMod (bop gIx (rdv 0) (kst (.int 0))) (rdv 1))))
  (sseq (sset 0 (bop gDiv (bop gIx (rdv 0) (kst (.int 0))) (rdv 1)) (kst (.int 0)))
  (sseq (sretF (rdv 2))
  RS.nx))) RS.nx)
  (sseq (sset 0 (bop gMod (bop gAdd (bop gMul (bop gIx (rdv 0) (kst (.int 1))) (kst (.int 6364136223846793005))) (kst (.int 1442695040888963407))) (kst (.int 2305843009213693951))) (kst (.int 1)))
  (sseq (sretF (bop gMod (bop gDiv (bop gIx (rdv 0) (kst (.int 1))) (kst (.int 65536))) (rdv 1)))
  RS.nx)))
def f__law_take : FFn := runF 3 m__law_take
/-- _law_pick: slots 0 feed, 1 some -/
def m__law_pick : FS := (sseq (sretF (bop gIx (rdv 1) (callF [.mt, .rd] f__law_take (acons (rdv 0) (acons (cbn cLen (acons (rdv 1) anil)) anil)))))
  RS.nx)
def f__law_pick : FFn := runF 2 m__law_pick
/-- _law_interval: slots 0 feed, 1 most, 2 low -/
def m__law_interval : FS := (sseq (sadj [.fz 2] (sasg 2 (callF [.mt, .rd] f__law_take (acons (rdv 0) (acons (rdv 1) anil)))))
  (sseq (sretF (dsp (fun ds => .val (.tup ds)) (acons (rdv 2) (acons (bop gAdd (bop gAdd (rdv 2) (kst (.int 1))) (callF [.mt, .rd] f__law_take (acons (rdv 0) (acons (bop gSub (rdv 1) (rdv 2)) anil)))) anil))))
  RS.nx))
def f__law_interval : FFn := runF 3 m__law_interval
/-- _law_many: slots 0 feed, 1 found, 2 step, 3 turn, 4 low, 5 high -/
def m__law_many_1 : FS := (sadj [.no 3, .no 4, .no 5] (sseq (sasgT (tgTup (tgCons (bindD 4) (tgCons (bindD 5) tgNil))) (callF [.mt, .rd] f__law_interval (acons (rdv 0) (acons (kst (.int 40)) anil))))
  (sseq (sexp (mcall 1 gApp (acons (dsp (fun ds => .val (.tup ds)) (acons (bop gMul (bop gSub (rdv 4) (kst (.int 20))) (rdv 2)) (acons (bop gMul (bop gSub (rdv 5) (kst (.int 20))) (rdv 2)) (acons (callF [.mt, .rd] f__law_take (acons (rdv 0) (acons (kst (.int 1000)) anil))) anil)))) anil)))
  RS.nx)))
def m__law_many : FS := (sseq (sadj [.fz 2] (spar [1, 2] [(dsp (fun ds => .new (.lst ds)) (acons (dsp (fun ds => .val (.tup ds)) (acons (uop gNeg (bop gPow (kst (.int 10)) (kst (.int 9)))) (acons (bop gPow (kst (.int 10)) (kst (.int 9))) (acons (kst (.int 5)) anil)))) anil)), (callF [.mt, .rd] f__law_pick (acons (rdv 0) (acons (dsp (fun ds => .new (.lst ds)) (acons (kst (.int 1)) (acons (kst (.int 7)) (acons (bop gPow (kst (.int 10)) (kst (.int 7))) anil)))) anil)))]))
  (sseq (sfor (itRng1 (acons (kst (.int 60)) anil)) (bindD 3) m__law_many_1)
  (sseq (sret (rdv 1))
  RS.nx)))
def f__law_many : FFn := runF 6 m__law_many
/-- Table.__init__: slots 0 self, 1 entries, 2 entry -/
def m_Table___init___1 : FE := (cbn cTuple (acons (rdv 2) anil))
def m_Table___init__ : FS := (sseq (sfldC "Table" 0 "entries" (cbn cTuple (acons (vlc (itSeq (rdv 1)) (bindD 2) tyes m_Table___init___1 [2]) anil)))
  RS.nx)
def f_Table___init__ : FFn := runF 3 m_Table___init__
/-- Table.__str__: slots 0 self, 1 entry, 2 number -/
def m_Table___str___1 : FE := (cbn cStr (acons (rdv 2) anil))
def m_Table___str___2 : FE := (pmt isStr pJoin (kst (.str " ")) (acons (vlc (itSeq (rdv 1)) (bindD 2) tyes m_Table___str___1 [2]) anil))
def m_Table___str__ : FS := (sseq (sretF (pmt isStr pJoin (kst (.str "\n")) (acons (vlc (itSeq (fld "Table" "entries" (rdv 0))) (bindD 1) tyes m_Table___str___2 [1]) anil)))
  RS.nx)
def f_Table___str__ : FFn := runF 3 m_Table___str__
/-- Table.amount: slots 0 self, 1 low, 2 high, 3 start, 4 end, 5 amount -/
def m_Table_amount_1 : FT := (tand (tst (bop gLe (rdv 1) (rdv 3))) (tst (bop gLe (rdv 4) (rdv 2))))
def m_Table_amount_2 : FE := (rdv 5)
def m_Table_amount : FS := (sseq (sretF (cbn (cMaxD 0) (acons (vlc (itSeq (fld "Table" "entries" (rdv 0))) (tgTup (tgCons (bindD 3) (tgCons (bindD 4) (tgCons (bindD 5) tgNil)))) m_Table_amount_1 m_Table_amount_2 [3, 4, 5]) anil)))
  RS.nx)
def f_Table_amount : FFn := runF 6 m_Table_amount
/-- _law_amount: slots 0 entries, 1 low, 2 high, 3 found, 4 start, 5 end, 6 amount -/
def m__law_amount_1 : FS := (sadj [.no 4, .no 5, .no 6] (sseq (sif (tand (tst (bop gLe (rdv 1) (rdv 4))) (tand (tst (bop gLe (rdv 5) (rdv 2))) (tst (bop gGt (rdv 6) (rdv 3))))) (sseq (sadj [.fz 3] (sasg 3 (rdv 6)))
  RS.nx) RS.nx)
  RS.nx))
def m__law_amount : FS := (sseq (sadj [.fz 3] (sasg 3 (kst (.int 0))))
  (sseq (sfor (itSeq (rdv 0)) (tgTup (tgCons (bindD 4) (tgCons (bindD 5) (tgCons (bindD 6) tgNil)))) m__law_amount_1)
  (sseq (sretF (rdv 3))
  RS.nx)))
def f__law_amount : FFn := runF 7 m__law_amount
/-- Table.wear: slots 0 self, 1 ranges, 2 low, 3 high -/
def m_Table_wear_1 : FE := (callF [.rd, .rd, .rd] f_Table_amount (aself "Table" "amount" (rdv 0) (acons (rdv 2) (acons (rdv 3) anil))))
def m_Table_wear : FS := (sseq (sretF (cbn cSum (acons (vlc (itSeq (rdv 1)) (tgTup (tgCons (bindD 2) (tgCons (bindD 3) tgNil))) tyes m_Table_wear_1 [2, 3]) anil)))
  RS.nx)
def f_Table_wear : FFn := runF 4 m_Table_wear
/-- _law_wear: slots 0 entries, 1 ranges, 2 low, 3 high -/
def m__law_wear_1 : FE := (callF [.rd, .rd, .rd] f__law_amount (acons (rdv 0) (acons (rdv 2) (acons (rdv 3) anil))))
def m__law_wear : FS := (sseq (sretF (cbn cSum (acons (vlc (itSeq (rdv 1)) (tgTup (tgCons (bindD 2) (tgCons (bindD 3) tgNil))) tyes m__law_wear_1 [2, 3]) anil)))
  RS.nx)
def f__law_wear : FFn := runF 4 m__law_wear
/-- Table.__eq__: slots 0 self, 1 other -/
def m_Table___eq__ : FS := (sseq (sretF (vand (isiC "Table" (rdv 1)) (bop gEq (fld "Table" "entries" (rdv 0)) (fld "Table" "entries" (rdv 1)))))
  RS.nx)
def f_Table___eq__ : FFn := runF 2 m_Table___eq__
/-- _law_right: slots 0 feed, 1 table, 2 entries, 3 text, 4 entry, 5 number, 6 ranges, 7 turn, 8 low, 9 high, 10 some, 11 seen -/
def m__law_right_3_1 : FE := (cbn cStr (acons (rdv 5) anil))
def m__law_right_3_2 : FE := (pmt isStr pJoin (kst (.str " ")) (acons (vlc (itSeq (rdv 4)) (bindD 5) tyes m__law_right_3_1 [5]) anil))
def m__law_right_3_3 : FE := (vsl (rdv 4) onone (osome (kst (.int 2))))
def m__law_right_3_4 : FE := (bop gIx (rdv 4) (kst (.int 2)))
def m__law_right_3_5 : FS := (sadj [.no 10, .no 11] (sseq (sadj [.fz 11] (sasg 11 (cbn cRepr (acons (rdv 10) anil))))
  (sseq (sif (tor (tst (bop gNe (cbn cRepr (acons (callF [.rd, .rd] f_Table_wear (aself "Table" "wear" (rdv 1) (acons (rdv 10) anil))) anil)) (cbn cRepr (acons (callF [.rd, .rd] f__law_wear (acons (rdv 2) (acons (rdv 10) anil))) anil)))) (tst (bop gNe (cbn cRepr (acons (rdv 10) anil)) (rdv 11)))) (sseq (sretF (kst (.bl false)))
  RS.nx) RS.nx)
  RS.nx)))
def m__law_right_3_6 : FS := (sadj [.no 8, .no 9] (sseq (sif (tst (bop gNe (cbn cRepr (acons (callF [.rd, .rd, .rd] f_Table_amount (aself "Table" "amount" (rdv 1) (acons (rdv 8) (acons (rdv 9) anil)))) anil)) (cbn cRepr (acons (callF [.rd, .rd, .rd] f__law_amount (acons (rdv 2) (acons (rdv 8) (acons (rdv 9) anil)))) anil)))) (sseq (sretF (kst (.bl false)))
  RS.nx) RS.nx)
  RS.nx))
def m__law_right_3_7 : FS := (sadj [.no 7] (sseq (sexp (mcall 6 gApp (acons (callF [.mt, .rd] f__law_interval (acons (rdv 0) (acons (kst (.int 12)) anil))) anil)))
  RS.nx))
def m__law_right_3 : FS := (sseq (sadj [.fz 3] (sasg 3 (pmt isStr pJoin (kst (.str "\n")) (acons (vlc (itSeq (rdv 2)) (bindD 4) tyes m__law_right_3_2 [4]) anil))))
  (sseq (sif (tor (tnot (trt (isiC "Table" (rdv 1)))) (tor (tst (bop gNe (cbn cRepr (acons (fld "Table" "entries" (rdv 1)) anil)) (cbn cRepr (acons (cbn cTuple (acons (rdv 2) anil)) anil)))) (tst (bop gNe (ostr "Table" f_Table___str__ (rdv 1)) (rdv 3))))) (sseq (sretF (kst (.bl false)))
  RS.nx) RS.nx)
  (sseq (sasg 6 (vlc (itSeq (rdv 2)) (bindD 4) tyes m__law_right_3_3 [4]))
  (sseq (sfor (itRng1 (acons (callF [.mt, .rd] f__law_take (acons (rdv 0) (acons (kst (.int 8)) anil))) anil)) (bindD 7) m__law_right_3_7)
  (sseq (spre [.fz 6] (sfor (itSeq (rdv 6)) (tgTup (tgCons (bindD 8) (tgCons (bindD 9) tgNil))) m__law_right_3_6))
  (sseq (sfor (itSeq (dsp (fun ds => .val (.tup ds)) (acons (rdv 6) (acons (cbn cTuple (acons (bop gAdd (rdv 6) (rdv 6)) anil)) (acons (dsp (fun ds => .new (.lst ds)) anil) (acons (uop gRev (rdv 6)) anil)))))) (bindD 10) m__law_right_3_5)
  (sseq (sif (tst (bop gNe (callF [.rd, .rd, .rd] f_Table_amount (aself "Table" "amount" (rdv 1) (acons (uop gNeg (bop gPow (kst (.int 10)) (kst (.int 9)))) (acons (bop gPow (kst (.int 10)) (kst (.int 9))) anil)))) (cbn cMaxL (acons (bop gAdd (dsp (fun ds => .new (.lst ds)) (acons (kst (.int 0)) anil)) (vlc (itSeq (rdv 2)) (bindD 4) tyes m__law_right_3_4 [4])) anil)))) (sseq (sretF (kst (.bl false)))
  RS.nx) RS.nx)
  (sseq (sretF (vand (bop gEq (cbn cRepr (acons (fld "Table" "entries" (rdv 1)) anil)) (cbn cRepr (acons (cbn cTuple (acons (rdv 2) anil)) anil))) (vand (bop gEq (ostr "Table" f_Table___str__ (rdv 1)) (rdv 3)) (oeq "Table" false f_Table___eq__ (rdv 1) (mkF "Table" [.rd] f_Table___init__ (acons (rdv 2) anil))))))
  RS.nx))))))))
def f__law_right_3 : FFn := runF 12 m__law_right_3
/-- read_number: slots 0 word, 1 digits, 2 digit -/
def m_read_number_1 : FE := (bop gInS (rdv 2) (kst (.str "0123456789")))
def m_read_number : FS := (sseq (sadj [.fz 1] (sasg 1 (vif (tst (bop gEq (vsl (rdv 0) onone (osome (kst (.int 1)))) (kst (.str "-")))) (vsl (rdv 0) (osome (kst (.int 1))) onone) (rdv 0))))
  (sseq (sif (tor (tnot (tst (vch gLe gLe (kst (.int 1)) (cbn cLen (acons (rdv 1) anil)) (cbn cLen (acons (cbn cStr (acons (kst (.int 1000000000)) anil)) anil))))) (tnot (trt (cbn cAll (acons (vlc (itStr (rdv 1)) (bindD 2) tyes m_read_number_1 [2]) anil))))) (sseq (sretF (kst .non))
  RS.nx) RS.nx)
  (sseq (sif (tor (tst (bop gNe (cbn cStr (acons (cbn cIntS (acons (rdv 0) anil)) anil)) (rdv 0))) (tnot (tst (vch gLe gLe (uop gNeg (kst (.int 1000000000))) (cbn cIntS (acons (rdv 0) anil)) (kst (.int 1000000000)))))) (sseq (sretF (kst .non))
  RS.nx) RS.nx)
  (sseq (sretF (cbn cIntS (acons (rdv 0) anil)))
  RS.nx))))
def f_read_number : FFn := runF 3 m_read_number
/-- read_entry: slots 0 words, 1 low, 2 high, 3 amount, 4 word -/
def m_read_entry_1 : FE := (callF [.rd] f_read_number (acons (rdv 4) anil))
def m_read_entry : FS := (sseq (sif (tst (bop gNe (cbn cLen (acons (rdv 0) anil)) (kst (.int 3)))) (sseq (sretF (kst .non))
  RS.nx) RS.nx)
  (sseq (sasgT (tgUnl (tgCons (bindD 1) (tgCons (bindD 2) (tgCons (bindD 3) tgNil)))) (vlc (itSeq (rdv 0)) (bindD 4) tyes m_read_entry_1 [4]))
  (sseq (sif (tor (tst (bop gIs (rdv 1) (kst .non))) (tor (tst (bop gIs (rdv 2) (kst .non))) (tor (tst (bop gIs (rdv 3) (kst .non))) (tor (tst (bop gGe (rdv 1) (rdv 2))) (tnot (tst (vch gLe gLe (kst (.int 0)) (rdv 3) (kst (.int 1000000))))))))) (sseq (sretF (kst .non))
  RS.nx) RS.nx)
  (sseq (sretF (dsp (fun ds => .val (.tup ds)) (acons (rdv 1) (acons (rdv 2) (acons (rdv 3) anil)))))
  RS.nx))))
def f_read_entry : FFn := runF 5 m_read_entry
/-- Table.parse: slots 0 cls, 1 text, 2 entries, 3 number, 4 row, 5 entry -/
def m_Table_parse_1 : FS := (sadj [.no 3, .no 4, .no 5] (sseq (sadj [.fz 5] (sasg 5 (callF [.rd] f_read_entry (acons (pmt isStr pSplit (rdv 4) (acons (kst (.str " ")) anil)) anil))))
  (sseq (sif (tst (bop gIs (rdv 5) (kst .non))) (sseq (fun _ => RS.no)
  RS.nx) RS.nx)
  (sseq (sexp (mcall 2 gApp (acons (rdv 5) anil)))
  RS.nx))))
def m_Table_parse : FS := (sseq (sasg 2 (dsp (fun ds => .new (.lst ds)) anil))
  (sseq (sfor (itEnum (acons (vif (tst (bop gNe (rdv 1) (kst (.str "")))) (pmt isStr pSplit (rdv 1) (acons (kst (.str "\n")) anil)) (dsp (fun ds => .new (.lst ds)) anil)) anil)) (tgTup (tgCons (bindD 3) (tgCons (bindD 4) tgNil))) m_Table_parse_1)
  (sseq (spre [.fz 2] (sretF (mkL 0 "Table" [.rd] f_Table___init__ (acons (rdv 2) anil))))
  RS.nx)))
def f_Table_parse : FFn := runF 6 m_Table_parse
/-- _law_entries: slots 0 feed, 1 most, 2 found, 3 turn, 4 low, 5 high -/
def m__law_entries_1 : FS := (sadj [.no 3, .no 4, .no 5] (sseq (sasgT (tgTup (tgCons (bindD 4) (tgCons (bindD 5) tgNil))) (callF [.mt, .rd] f__law_interval (acons (rdv 0) (acons (rdv 1) anil))))
  (sseq (sif (tand (tst (bop gNe (rdv 2) (dsp (fun ds => .new (.lst ds)) anil))) (tst (bop gEq (callF [.mt, .rd] f__law_take (acons (rdv 0) (acons (kst (.int 4)) anil))) (kst (.int 0))))) (sadj [] (sseq (sasgT (tgTup (tgCons (bindD 4) (tgCons (bindD 5) tgNil))) (vsl (bop gIx (rdv 2) (uop gNeg (kst (.int 1)))) onone (osome (kst (.int 2)))))
  RS.nx)) (sadj [] RS.nx))
  (sseq (sexp (mcall 2 gApp (acons (dsp (fun ds => .val (.tup ds)) (acons (rdv 4) (acons (rdv 5) (acons (callF [.mt, .rd] f__law_pick (acons (rdv 0) (acons (dsp (fun ds => .new (.lst ds)) (acons (kst (.int 0)) (acons (kst (.int 1)) (acons (kst (.int 2)) (acons (kst (.int 5)) (acons (bop gPow (kst (.int 10)) (kst (.int 6))) (acons (callF [.mt, .rd] f__law_take (acons (rdv 0) (acons (kst (.int 50)) anil))) anil))))))) anil))) anil)))) anil)))
  RS.nx))))
def m__law_entries : FS := (sseq (sasg 2 (dsp (fun ds => .new (.lst ds)) anil))
  (sseq (sfor (itRng1 (acons (callF [.mt, .rd] f__law_take (acons (rdv 0) (acons (kst (.int 7)) anil))) anil)) (bindD 3) m__law_entries_1)
  (sseq (sret (rdv 2))
  RS.nx)))
def f__law_entries : FFn := runF 6 m__law_entries
/-- law: slots 0 script, 1 k, 2 feed, 3 made, 4 many, 5 turn, 6 entries, 7 mine, 8 some, 9 table, 10 one, 11 other, 12 same, 13 thing -/
def m_law_9_1 : FS := (sadj [.no 9] (sseq (sif (tor (tnot (trt (callF [.mt, .rd, .rd] f__law_right_3 (acons (rdv 2) (acons (rdv 9) (acons (rdv 6) anil)))))) (tst (oeq "Table" true f_Table___eq__ (rdv 9) (bop gIx (rdv 8) (kst (.int 0)))))) (sseq (sretF (kst (.bl false)))
  RS.nx) RS.nx)
  RS.nx))
def m_law_9_2 : FS := (sadj [.no 13] (sseq (sif (tor (tst (oeq "Table" false f_Table___eq__ (rdv 10) (rdv 13))) (tnot (tst (oeq "Table" true f_Table___eq__ (rdv 10) (rdv 13))))) (sseq (sretF (kst (.bl false)))
  RS.nx) RS.nx)
  RS.nx))
def m_law_9_3 : FS := (sadj [.no 11, .no 12] (sseq (sadj [.fz 12] (sasg 12 (bop gEq (ostr "Table" f_Table___str__ (rdv 10)) (ostr "Table" f_Table___str__ (rdv 11)))))
  (sseq (sif (tor (tst (bop gNe (oeq "Table" false f_Table___eq__ (rdv 10) (rdv 11)) (rdv 12))) (tst (bop gEq (oeq "Table" true f_Table___eq__ (rdv 10) (rdv 11)) (rdv 12)))) (sseq (sretF (kst (.bl false)))
  RS.nx) RS.nx)
  RS.nx)))
def m_law_9_4 : FS := (sadj [.no 10] (sseq (sfor (itSeq (rdv 3)) (bindD 11) m_law_9_3)
  (sseq (sfor (itSeq (dsp (fun ds => .new (.lst ds)) (acons (fld "Table" "entries" (rdv 10)) (acons (ostr "Table" f_Table___str__ (rdv 10)) (acons (kst .non) (acons (kst (.int 0)) (acons (dsp (fun ds => .new (.lst ds)) anil) anil))))))) (bindD 13) m_law_9_2)
  RS.nx)))
def m_law_9_5 : FS := (sadj [.no 5, .no 6, .no 7, .no 8] (sseq (sadj [.fz 6] (sasg 6 (callF [.mt, .rd] f__law_entries (acons (rdv 2) (acons (kst (.int 10)) anil)))))
  (sseq (sasg 7 (cbn cList (acons (rdv 6) anil)))
  (sseq (sadj [.fz 8] (sasg 8 (dsp (fun ds => .new (.lst ds)) (acons (mkF "Table" [.bw] f_Table___init__ (acons (rdv 7) anil)) (acons (mkF "Table" [.rd] f_Table___init__ (acons (cbn cTuple (acons (rdv 6) anil)) anil)) (acons (callF (.rd :: [.rd]) f_Table_parse (acons (kst (.fn "Table")) (acons (ostr "Table" f_Table___str__ (mkF "Table" [.rd] f_Table___init__ (acons (rdv 6) anil))) anil))) anil))))))
  (sseq (sexp (mcall 7 gApp (acons (dsp (fun ds => .val (.tup ds)) (acons (kst (.int 0)) (acons (kst (.int 1)) (acons (kst (.int 99)) anil)))) anil)))
  (sseq (sfor (itSeq (rdv 8)) (bindD 9) m_law_9_1)
  (sseq (sadj [.fz 3] (sasg 3 (bop gAdd (bop gAdd (rdv 3) (rdv 8)) (dsp (fun ds => .new (.lst ds)) (acons (mkF "Table" [.rd] f_Table___init__ (acons (uop gRev (rdv 6)) anil)) (acons (mkF "Table" [.rd] f_Table___init__ (acons (vsl (rdv 6) (osome (kst (.int 1))) onone) anil)) anil))))))
  RS.nx)))))))
def m_law_9_6 : FS := (sadj [.no 1, .no 2, .no 3, .no 4] (sseq (sasg 2 (callF [.rd, .rd] f__law_feed (acons (rdv 0) (acons (rdv 1) anil))))
  (sseq (sadj [.fz 3, .fz 4] (spar [3, 4] [(dsp (fun ds => .new (.lst ds)) anil), (callF [.mt] f__law_many (acons (rdv 2) anil))]))
  (sseq (sif (tor (tnot (trt (callF [.mt, .rd, .rd] f__law_right_3 (acons (rdv 2) (acons (mkF "Table" [.rd] f_Table___init__ (acons (rdv 4) anil)) (acons (rdv 4) anil)))))) (tst (oeq "Table" true f_Table___eq__ (callF (.rd :: [.rd]) f_Table_parse (acons (kst (.fn "Table")) (acons (ostr "Table" f_Table___str__ (mkF "Table" [.rd] f_Table___init__ (acons (rdv 4) anil))) anil))) (mkF "Table" [.rd] f_Table___init__ (acons (rdv 4) anil))))) (sseq (sretF (kst (.bl false)))
  RS.nx) RS.nx)
  (sseq (sfor (itRng1 (acons (kst (.int 4)) anil)) (bindD 5) m_law_9_5)
  (sseq (sfor (itSeq (rdv 3)) (bindD 10) m_law_9_4)
  RS.nx))))))
def m_law_9 : FS := (sseq (sfor (itRng1 (acons (cbn cMax2 (acons (kst (.int 2)) (acons (cbn cMin2 (acons (kst (.int 5)) (acons (cbn cLen (acons (rdv 0) anil)) anil))) anil))) anil)) (bindD 1) m_law_9_6)
  (sseq (sretF (kst (.bl true)))
  RS.nx))
def f_law_9 : FFn := runF 14 m_law_9
end Mi

/-! typed -/
namespace Ty
open PySem L2 PL
/-- _law_feed -/
noncomputable def t__law_feed (script_ : List Int) (k_ : Int) : R (List (Int)) := ((if (decide (k_ < (script_.length : Int))) = true then (ixR script_ k_) else ((mulR (83 : Int) k_).bind fun a1 => R.ok (a1 + (29 : Int)))).bind fun (cell_2 : Int) => ((R.ok (max (0 : Int) ((cell_2.natAbs : Int) - (1000000000000000000 : Int)))).bind fun (digits_3 : Int) => (((((mulR cell_2 (6364136223846793005 : Int)).bind fun a4 => ((mulR (7919 : Int) k_).bind fun a5 => R.ok (a4 + a5))).bind fun a6 => R.ok (a6 + (1442695040888963407 : Int))).bind fun a7 => (modR a7 (2305843009213693951 : Int))).bind fun (state_8 : Int) => R.ok [digits_3, state_8])))
theorem c__law_feed (script_ : List Int) (k_ : Int) : F0 Mi.f__law_feed [.fz (D.scr script_), .fz (D.int k_)] (t__law_feed script_ k_) (fun (r : List (Int)) => .ow ((oL D.int) r)) := by
  have h : F0 Mi.f__law_feed [.fz (D.scr script_), .fz (D.int k_)] _ (fun (r : List (Int)) => .ow ((oL D.int) r)) := f_mk0 (n := 5) (m := Mi.m__law_feed) (vr := (fun (r : List (Int)) => .ow ((oL D.int) r))) [some (.fz (D.scr script_)), some (.fz (D.int k_)), none, none, none] (c_asg (c := D.int) (fun (cell_2 : Int) => [some (.fz (D.scr script_)), some (.fz (D.int k_)), some (.fz (D.int cell_2)), none, none]) (h_if (t_tst (h_lt (h_v (ca := D.int)).c (h_lenX (h_v (ca := D.scr)).c).c)) (h_ixX (h_v (ca := D.scr)).c (h_v (ca := D.int)).c) (h_add (h_mul (h_kst (ca := D.int) (a := 83)).c (h_v (ca := D.int)).c).c (h_kst (ca := D.int) (a := 29)).c)) (fun cell_2 => (c_asg (c := D.int) (fun (digits_3 : Int) => [some (.fz (D.scr script_)), some (.fz (D.int k_)), some (.fz (D.int cell_2)), some (.fz (D.int digits_3)), none]) (h_max (h_kst (ca := D.int) (a := 0)).c (h_sub (h_abs (h_v (ca := D.int)).c).c (h_lit (ca := D.int) (a := 1000000000000000000) (d := D.int (1000000000000000000)) (fun _ => rfl)).c).c) (fun digits_3 => (c_asg (c := D.int) (fun (state_8 : Int) => [some (.fz (D.scr script_)), some (.fz (D.int k_)), some (.fz (D.int cell_2)), some (.fz (D.int digits_3)), some (.fz (D.int state_8))]) (h_mod (h_add (h_add (h_mul (h_v (ca := D.int)).c (h_kst (ca := D.int) (a := 6364136223846793005)).c).c (h_mul (h_kst (ca := D.int) (a := 7919)).c (h_v (ca := D.int)).c).c).c (h_kst (ca := D.int) (a := 1442695040888963407)).c).c (h_kst (ca := D.int) (a := 2305843009213693951)).c) (fun state_8 => (c_retN (w := fun (a9 : List (Int)) => a9) (EN.as (c' := oL D.int) (n_dsp (cz := fun p : (Int) × (Int) × Unit => O.lst [D.int p.1, D.int p.2.1]) (ah_cons (h_v (ca := D.int)) (ah_cons (h_v (ca := D.int)) ah_nil)) 0) (fun p => [p.1, p.2.1])) (fun _ => ⟨_, rfl, rfl⟩))))))))
  exact h
/-- _law_take -/
noncomputable def t__law_take (feed_ : List (Int)) (many_ : Int) : R ((Int) × (List (Int))) := (((ixR feed_ (0 : Int)).bind fun a1 => R.ok (decide ((0 : Int) < a1))).bind fun a17 => (if a17 = true then (((ixR feed_ (0 : Int)).bind fun a2 => (modR a2 many_)).bind fun (digit_3 : Int) => (((ixR feed_ (0 : Int)).bind fun a4 => (divR a4 many_)).bind fun a7 => ((setR feed_ (0 : Int) a7).bind fun (feed_5 : List (Int)) => R.ok (digit_3, feed_5)))) else (((((ixR feed_ (1 : Int)).bind fun a8 => (mulR a8 (6364136223846793005 : Int))).bind fun a9 => R.ok (a9 + (1442695040888963407 : Int))).bind fun a10 => (modR a10 (2305843009213693951 : Int))).bind fun a16 => ((setR feed_ (1 : Int) a16).bind fun (feed_11 : List (Int)) => ((((ixR feed_11 (1 : Int)).bind fun a12 => (divR a12 (65536 : Int))).bind fun a13 => (modR a13 many_)).bind fun a15 => R.ok (a15, feed_11))))))
theorem c__law_take (feed_ : List (Int)) (many_ : Int) : F1 Mi.f__law_take [.mu ((oL D.int) feed_), .fz (D.int many_)] (t__law_take feed_ many_) (fun (r : (Int) × (List (Int))) => .fz (D.int r.1)) (fun (r : (Int) × (List (Int))) => [some ((oL D.int) r.2), none]) := by
  have h : F1 Mi.f__law_take [.mu ((oL D.int) feed_), .fz (D.int many_)] _ (fun (r : (Int) × (List (Int))) => .fz (D.int r.1)) (fun (r : (Int) × (List (Int))) => [some ((oL D.int) r.2), none]) := f_mk (n := 3) (m := Mi.m__law_take) (vr := (fun (r : (Int) × (List (Int))) => .fz (D.int r.1))) (mr := (fun (r : (Int) × (List (Int))) => [some ((oL D.int) r.2), none])) [some (.mu ((oL D.int) feed_)), some (.fz (D.int many_)), none] (c_if (t_tst (h_gt (h_ixL (c_m (ca := (eL D.int))) (h_kst (ca := D.int) (a := 0)).c).c (h_kst (ca := D.int) (a := 0)).c)) (c_assoc (c_asg (c := D.int) (fun (digit_3 : Int) => [some (.mu ((oL D.int) feed_)), some (.fz (D.int many_)), some (.fz (D.int digit_3))]) (h_mod (h_ixL (c_m (ca := (eL D.int))) (h_kst (ca := D.int) (a := 0)).c).c (h_v (ca := D.int)).c) (fun digit_3 => (c_assoc (c_setix (c := D.int) (l := feed_) (fun (feed_5 : List (Int)) => [some (.mu ((oL D.int) feed_5)), some (.fz (D.int many_)), some (.fz (D.int digit_3))]) (h_div (h_ixL (c_m (ca := (eL D.int))) (h_kst (ca := D.int) (a := 0)).c).c (h_v (ca := D.int)).c) (h_kst (ca := D.int) (a := 0)).c (fun feed_5 => (c_assoc (c_ret (c := D.int) (w := fun (a6 : Int) => (a6, feed_5)) (h_v (ca := D.int)) (fun _ => ⟨_, rfl, rfl⟩))))))))) (c_nxg (c_setix (c := D.int) (l := feed_) (fun (feed_11 : List (Int)) => [some (.mu ((oL D.int) feed_11)), some (.fz (D.int many_)), none]) (h_mod (h_add (h_mul (h_ixL (c_m (ca := (eL D.int))) (h_kst (ca := D.int) (a := 1)).c).c (h_kst (ca := D.int) (a := 6364136223846793005)).c).c (h_kst (ca := D.int) (a := 1442695040888963407)).c).c (h_kst (ca := D.int) (a := 2305843009213693951)).c) (h_kst (ca := D.int) (a := 1)).c (fun feed_11 => (c_ret (c := D.int) (w := fun (a14 : Int) => (a14, feed_11)) (h_mod (h_div (h_ixL (c_m (ca := (eL D.int))) (h_kst (ca := D.int) (a := 1)).c).c (h_kst (ca := D.int) (a := 65536)).c).c (h_v (ca := D.int)).c) (fun _ => ⟨_, rfl, rfl⟩))))))
  exact h
/-- _law_pick -/
noncomputable def t__law_pick (feed_ : List (Int)) (some_ : List (Int)) : R ((Int) × (List (Int))) := ((((t__law_take feed_ (some_.length : Int)).bind fun q2 => R.ok (q2.1, q2.2)).bind fun a4 => ((ixR some_ a4.1).bind fun z3 => R.ok (z3, a4.2))).bind fun a6 => R.ok (a6.1, a6.2))
theorem c__law_pick (feed_ : List (Int)) (some_ : List (Int)) : F1 Mi.f__law_pick [.mu ((oL D.int) feed_), .fz ((eL D.int) some_)] (t__law_pick feed_ some_) (fun (r : (Int) × (List (Int))) => .fz (D.int r.1)) (fun (r : (Int) × (List (Int))) => [some ((oL D.int) r.2), none]) := by
  have h : F1 Mi.f__law_pick [.mu ((oL D.int) feed_), .fz ((eL D.int) some_)] _ (fun (r : (Int) × (List (Int))) => .fz (D.int r.1)) (fun (r : (Int) × (List (Int))) => [some ((oL D.int) r.2), none]) := f_mk (n := 2) (m := Mi.m__law_pick) (vr := (fun (r : (Int) × (List (Int))) => .fz (D.int r.1))) (mr := (fun (r : (Int) × (List (Int))) => [some ((oL D.int) r.2), none])) [some (.mu ((oL D.int) feed_)), some (.fz ((eL D.int) some_))] (c_retM (E := (fun (s1 : List (Int)) => [some (.mu ((oL D.int) s1)), some (.fz ((eL D.int) some_))])) (s := feed_) (c := D.int) (w := (fun (a5 : Int) (s1 : List (Int)) => (a5, s1))) (hm_ixL (h_v (ca := (eL D.int))).m (fun _ => (hm_call (c := D.int) (t := fun (p : (Int) × Unit) (s : List (Int)) => t__law_take s p.1) (km_mt (om := fun s => (oL D.int) s) (by intro _; rfl) (km_rd (h_lenL (h_v (ca := (eL D.int))).c).m (fun _ => km_nil))) (fun s m => m) (fun p s => c__law_take s p.1)).c)) (fun _ _ => ⟨_, rfl, rfl⟩))
  exact h
/-- _law_interval -/
noncomputable def t__law_interval (feed_ : List (Int)) (most_ : Int) : R (((Int) × (Int)) × (List (Int))) := (((t__law_take feed_ most_).bind fun q1 => R.ok (q1.1, q1.2)).bind fun q4 => (fun (low_2 : Int) (s3 : List (Int)) => (((((((t__law_take s3 (most_ - low_2)).bind fun q6 => R.ok (q6.1, q6.2)).bind fun a7 => R.ok (((low_2 + (1 : Int)) + a7.1), a7.2)).bind fun a8 => R.ok ((a8.1, ()), a8.2)).bind fun a9 => R.ok ((low_2, a9.1), a9.2)).bind fun a10 => R.ok ((a10.1.1, a10.1.2.1), a10.2)).bind fun a12 => R.ok (a12.1, a12.2))) q4.1 q4.2)
theorem c__law_interval (feed_ : List (Int)) (most_ : Int) : F1 Mi.f__law_interval [.mu ((oL D.int) feed_), .fz (D.int most_)] (t__law_interval feed_ most_) (fun (r : ((Int) × (Int)) × (List (Int))) => .fz ((e2 D.int D.int) r.1)) (fun (r : ((Int) × (Int)) × (List (Int))) => [some ((oL D.int) r.2), none]) := by
  have h : F1 Mi.f__law_interval [.mu ((oL D.int) feed_), .fz (D.int most_)] _ (fun (r : ((Int) × (Int)) × (List (Int))) => .fz ((e2 D.int D.int) r.1)) (fun (r : ((Int) × (Int)) × (List (Int))) => [some ((oL D.int) r.2), none]) := f_mk (n := 3) (m := Mi.m__law_interval) (vr := (fun (r : ((Int) × (Int)) × (List (Int))) => .fz ((e2 D.int D.int) r.1))) (mr := (fun (r : ((Int) × (Int)) × (List (Int))) => [some ((oL D.int) r.2), none])) [some (.mu ((oL D.int) feed_)), some (.fz (D.int most_)), none] (c_asgM (E := (fun (s3 : List (Int)) => [some (.mu ((oL D.int) s3)), some (.fz (D.int most_)), none])) (s := feed_) (c := D.int) (fun (low_2 : Int) (s3 : List (Int)) => [some (.mu ((oL D.int) s3)), some (.fz (D.int most_)), some (.fz (D.int low_2))]) (hm_call (c := D.int) (t := fun (p : (Int) × Unit) (s : List (Int)) => t__law_take s p.1) (km_mt (om := fun s => (oL D.int) s) (by intro _; rfl) (km_rd (h_v (ca := D.int)).m (fun _ => km_nil))) (fun s m => m) (fun p s => c__law_take s p.1)) (fun low_2 s3 => (c_retM (E := (fun (s5 : List (Int)) => [some (.mu ((oL D.int) s5)), some (.fz (D.int most_)), some (.fz (D.int low_2))])) (s := s3) (c := (e2 D.int D.int)) (w := (fun (a11 : (Int) × (Int)) (s5 : List (Int)) => (a11, s5))) (EHM.as (c' := (e2 D.int D.int)) (hm_dsp (cz := fun p : (Int) × (Int) × Unit => D.tup [D.int p.1, D.int p.2.1]) (ahm_cons (h_v (ca := D.int)).m (fun _ => (ahm_cons (hm_add (h_add (h_v (ca := D.int)).c (h_kst (ca := D.int) (a := 1)).c).m (fun _ => (hm_call (c := D.int) (t := fun (p : (Int) × Unit) (s : List (Int)) => t__law_take s p.1) (km_mt (om := fun s => (oL D.int) s) (by intro _; rfl) (km_rd (h_sub (h_v (ca := D.int)).c (h_v (ca := D.int)).c).m (fun _ => km_nil))) (fun s m => m) (fun p s => c__law_take s p.1)).c)) (fun _ => ahm_nil)))) 0) (fun p => (p.1, p.2.1))) (fun _ _ => ⟨_, rfl, rfl⟩))))
  exact h
/-- _law_many -/
noncomputable def t__law_many (feed_ : List (Int)) : R ((List ((Int) × (Int) × (Int))) × (List (Int))) := (((t__law_pick feed_ [(1 : Int), (7 : Int), (10000000 : Int)]).bind fun q25 => R.ok (q25.1, q25.2)).bind fun a26 => ((fun (found_1 : List ((Int) × (Int) × (Int))) (step_2 : Int) (s3 : List (Int)) => (((rngR 0 (60 : Int)).bind fun a24 => (foldR (fun (d7 : Int) (s6 : (List (Int)) × (List ((Int) × (Int) × (Int)))) => (((t__law_interval s6.1 (40 : Int)).bind fun q8 => R.ok (q8.1, q8.2)).bind fun q11 => (fun (u9 : (Int) × (Int)) (s10 : List (Int)) => (((((mulR (u9.1 - (20 : Int)) step_2).bind fun a13 => R.ok (a13, s10)).bind fun a14 => ((((mulR (u9.2 - (20 : Int)) step_2).bind fun a15 => R.ok (a15, a14.2)).bind fun a16 => ((((t__law_take a16.2 (1000 : Int)).bind fun q17 => R.ok (q17.1, q17.2)).bind fun a18 => R.ok ((a18.1, ()), a18.2)).bind fun a19 => R.ok ((a16.1, a19.1), a19.2))).bind fun a20 => R.ok ((a14.1, a20.1), a20.2))).bind fun a21 => R.ok ((a21.1.1, a21.1.2.1, a21.1.2.2.1), a21.2)).bind fun q23 => (appR ((fun (s22 : List (Int)) => s6.2) q23.2) q23.1).bind fun (found_12 : List ((Int) × (Int) × (Int))) => (fun (s22 : List (Int)) => R.ok (s22, found_12)) q23.2)) q11.1 q11.2)) a24 (s3, found_1))).bind fun (s6 : (List (Int)) × (List ((Int) × (Int) × (Int)))) => R.ok (s6.2, s6.1))) [((-1000000000 : Int), (1000000000 : Int), (5 : Int))] a26.1 a26.2))
theorem c__law_many_b1 (step_2 : Int) (s6 : (List (Int)) × (List ((Int) × (Int) × (Int)))) (d7 : Int) : CB (sseq (sasgT (tgTup (tgCons (bindD 4) (tgCons (bindD 5) tgNil))) (callF [.mt, .rd] Mi.f__law_interval (acons (rdv 0) (acons (kst (.int 40)) anil))))
  (sseq (sexp (mcall 1 gApp (acons (dsp (fun ds => .val (.tup ds)) (acons (bop gMul (bop gSub (rdv 4) (kst (.int 20))) (rdv 2)) (acons (bop gMul (bop gSub (rdv 5) (kst (.int 20))) (rdv 2)) (acons (callF [.mt, .rd] Mi.f__law_take (acons (rdv 0) (acons (kst (.int 1000)) anil))) anil)))) anil)))
  RS.nx)) [some (.mu ((oL D.int) s6.1)), some (.ow ((oL (e3 D.int D.int D.int)) s6.2)), some (.fz (D.int step_2)), some (.fz (D.int d7)), none, none] ((((t__law_interval s6.1 (40 : Int)).bind fun q8 => R.ok (q8.1, q8.2)).bind fun q11 => (fun (u9 : (Int) × (Int)) (s10 : List (Int)) => (((((mulR (u9.1 - (20 : Int)) step_2).bind fun a13 => R.ok (a13, s10)).bind fun a14 => ((((mulR (u9.2 - (20 : Int)) step_2).bind fun a15 => R.ok (a15, a14.2)).bind fun a16 => ((((t__law_take a16.2 (1000 : Int)).bind fun q17 => R.ok (q17.1, q17.2)).bind fun a18 => R.ok ((a18.1, ()), a18.2)).bind fun a19 => R.ok ((a16.1, a19.1), a19.2))).bind fun a20 => R.ok ((a14.1, a20.1), a20.2))).bind fun a21 => R.ok ((a21.1.1, a21.1.2.1, a21.1.2.2.1), a21.2)).bind fun q23 => (appR ((fun (s22 : List (Int)) => s6.2) q23.2) q23.1).bind fun (found_12 : List ((Int) × (Int) × (Int))) => (fun (s22 : List (Int)) => R.ok (s22, found_12)) q23.2)) q11.1 q11.2)) (ILp [.no 3, .no 4, .no 5] (fun (sI_2 : (List (Int)) × (List ((Int) × (Int) × (Int)))) => [some (.mu ((oL D.int) sI_2.1)), some (.ow ((oL (e3 D.int D.int D.int)) sI_2.2)), some (.fz (D.int step_2)), none, none, none])) := by
  have h : CB (sseq (sasgT (tgTup (tgCons (bindD 4) (tgCons (bindD 5) tgNil))) (callF [.mt, .rd] Mi.f__law_interval (acons (rdv 0) (acons (kst (.int 40)) anil))))
  (sseq (sexp (mcall 1 gApp (acons (dsp (fun ds => .val (.tup ds)) (acons (bop gMul (bop gSub (rdv 4) (kst (.int 20))) (rdv 2)) (acons (bop gMul (bop gSub (rdv 5) (kst (.int 20))) (rdv 2)) (acons (callF [.mt, .rd] Mi.f__law_take (acons (rdv 0) (acons (kst (.int 1000)) anil))) anil)))) anil)))
  RS.nx)) [some (.mu ((oL D.int) s6.1)), some (.ow ((oL (e3 D.int D.int D.int)) s6.2)), some (.fz (D.int step_2)), some (.fz (D.int d7)), none, none] _ (ILp [.no 3, .no 4, .no 5] (fun (sI_2 : (List (Int)) × (List ((Int) × (Int) × (Int)))) => [some (.mu ((oL D.int) sI_2.1)), some (.ow ((oL (e3 D.int D.int D.int)) sI_2.2)), some (.fz (D.int step_2)), none, none, none])) := (c_asgTM (E := (fun (s10 : List (Int)) => [some (.mu ((oL D.int) s10)), some (.ow ((oL (e3 D.int D.int D.int)) s6.2)), some (.fz (D.int step_2)), some (.fz (D.int d7)), none, none])) (s := s6.1) (c := (e2 D.int D.int)) (fun (u9 : (Int) × (Int)) (s10 : List (Int)) => [some (.mu ((oL D.int) s10)), some (.ow ((oL (e3 D.int D.int D.int)) s6.2)), some (.fz (D.int step_2)), some (.fz (D.int d7)), some (.fz (D.int u9.1)), some (.fz (D.int u9.2))]) (hm_call (c := (e2 D.int D.int)) (t := fun (p : (Int) × Unit) (s : List (Int)) => t__law_interval s p.1) (km_mt (om := fun s => (oL D.int) s) (by intro _; rfl) (km_rd (h_kst (ca := D.int) (a := 40)).m (fun _ => km_nil))) (fun s m => m) (fun p s => c__law_interval s p.1)) (fun u9 s10 => (c_appM (E := (fun (s22 : List (Int)) => [some (.mu ((oL D.int) s22)), some (.ow ((oL (e3 D.int D.int D.int)) s6.2)), some (.fz (D.int step_2)), some (.fz (D.int d7)), some (.fz (D.int u9.1)), some (.fz (D.int u9.2))])) (s := s10) (c := (e3 D.int D.int D.int)) (ls := fun (s22 : List (Int)) => s6.2) (fun (found_12 : List ((Int) × (Int) × (Int))) (s22 : List (Int)) => [some (.mu ((oL D.int) s22)), some (.ow ((oL (e3 D.int D.int D.int)) found_12)), some (.fz (D.int step_2)), some (.fz (D.int d7)), some (.fz (D.int u9.1)), some (.fz (D.int u9.2))]) (EHM.as (c' := (e3 D.int D.int D.int)) (hm_dsp (cz := fun p : (Int) × (Int) × (Int) × Unit => D.tup [D.int p.1, D.int p.2.1, D.int p.2.2.1]) (ahm_cons (h_mul (h_sub (h_v (ca := D.int)).c (h_kst (ca := D.int) (a := 20)).c).c (h_v (ca := D.int)).c).m (fun _ => (ahm_cons (h_mul (h_sub (h_v (ca := D.int)).c (h_kst (ca := D.int) (a := 20)).c).c (h_v (ca := D.int)).c).m (fun _ => (ahm_cons (hm_call (c := D.int) (t := fun (p : (Int) × Unit) (s : List (Int)) => t__law_take s p.1) (km_mt (om := fun s => (oL D.int) s) (by intro _; rfl) (km_rd (h_kst (ca := D.int) (a := 1000)).m (fun _ => km_nil))) (fun s m => m) (fun p s => c__law_take s p.1)) (fun _ => ahm_nil)))))) 0) (fun p => (p.1, p.2.1, p.2.2.1))) (fun found_12 s22 => (c_nx (w := (s22, found_12)) ⟨_, .inl rfl, adjR rfl⟩)))))
  exact h
theorem c__law_many (feed_ : List (Int)) : F1 Mi.f__law_many [.mu ((oL D.int) feed_)] (t__law_many feed_) (fun (r : (List ((Int) × (Int) × (Int))) × (List (Int))) => .ow ((oL (e3 D.int D.int D.int)) r.1)) (fun (r : (List ((Int) × (Int) × (Int))) × (List (Int))) => [some ((oL D.int) r.2)]) := by
  have h : F1 Mi.f__law_many [.mu ((oL D.int) feed_)] _ (fun (r : (List ((Int) × (Int) × (Int))) × (List (Int))) => .ow ((oL (e3 D.int D.int D.int)) r.1)) (fun (r : (List ((Int) × (Int) × (Int))) × (List (Int))) => [some ((oL D.int) r.2)]) := f_mk (n := 6) (m := Mi.m__law_many) (vr := (fun (r : (List ((Int) × (Int) × (Int))) × (List (Int))) => .ow ((oL (e3 D.int D.int D.int)) r.1))) (mr := (fun (r : (List ((Int) × (Int) × (Int))) × (List (Int))) => [some ((oL D.int) r.2)])) [some (.mu ((oL D.int) feed_)), none, none, none, none, none] (c_par2 (E := (fun (s3 : List (Int)) => [some (.mu ((oL D.int) s3)), none, none, none, none, none])) (s := feed_) (c1 := fun z => .ow ((oL (e3 D.int D.int D.int)) z)) (c2 := fun z => .fz (D.int z)) (fun (found_1 : List ((Int) × (Int) × (Int))) (step_2 : Int) s3 => [some (.mu ((oL D.int) s3)), some (.ow ((oL (e3 D.int D.int D.int)) found_1)), some (.fz (D.int step_2)), none, none, none]) (EN.as (c' := oL (e3 D.int D.int D.int)) (n_dsp (cz := fun p : ((Int) × (Int) × (Int)) × Unit => O.lst [(e3 D.int D.int D.int) p.1]) (ah_cons (EH.as (c' := (e3 D.int D.int D.int)) (h_dsp (cz := fun p : (Int) × (Int) × (Int) × Unit => D.tup [D.int p.1, D.int p.2.1, D.int p.2.2.1]) (ah_cons (h_lit (ca := D.int) (a := -1000000000) (d := D.int (-1000000000)) (fun _ => rfl)) (ah_cons (h_lit (ca := D.int) (a := 1000000000) (d := D.int (1000000000)) (fun _ => rfl)) (ah_cons (h_kst (ca := D.int) (a := 5)) ah_nil))) 0) (fun p => (p.1, p.2.1, p.2.2.1))) ah_nil) 0) (fun p => [p.1])).m.pm (fun _ => (hm_call (c := D.int) (t := fun (p : (List (Int)) × Unit) (s : List (Int)) => t__law_pick s p.1) (km_mt (om := fun s => (oL D.int) s) (by intro _; rfl) (km_rd (EN.as (c' := oL D.int) (n_dsp (cz := fun p : (Int) × (Int) × (Int) × Unit => O.lst [D.int p.1, D.int p.2.1, D.int p.2.2.1]) (ah_cons (h_kst (ca := D.int) (a := 1)) (ah_cons (h_kst (ca := D.int) (a := 7)) (ah_cons (h_lit (ca := D.int) (a := 10000000) (d := D.int (10000000)) (fun _ => rfl)) ah_nil))) 0) (fun p => [p.1, p.2.1, p.2.2.1])).m.h (fun _ => km_nil))) (fun s m => m) (fun p s => c__law_pick s p.1)).pm) (fun found_1 step_2 s3 => (c_for (ed := D.int) (s0 := (s3, found_1)) (E1 := (fun (d7 : Int) (s6 : (List (Int)) × (List ((Int) × (Int) × (Int)))) => [some (.mu ((oL D.int) s6.1)), some (.ow ((oL (e3 D.int D.int D.int)) s6.2)), some (.fz (D.int step_2)), some (.fz (D.int d7)), none, none])) (fun (s6 : (List (Int)) × (List ((Int) × (Int) × (Int)))) => [some (.mu ((oL D.int) s6.1)), some (.ow ((oL (e3 D.int D.int D.int)) s6.2)), some (.fz (D.int step_2)), none, none, none]) (i_r1 (h_kst (ca := D.int) (a := 60)).c) (fun d7 s6 => (c__law_many_b1 step_2 s6 d7)) (fun s6 => (c_retO (o := (oL (e3 D.int D.int D.int)) s6.2) (w := (s6.2, s6.1)) [some (.mu ((oL D.int) s6.1)), none, some (.fz (D.int step_2)), none, none, none] (hI := ⟨_, rfl, rfl⟩))))))
  exact h
/-- Table.__init__ -/
noncomputable def t_Table___init__ (self_ : Unit) (entries_ : List ((Int) × (Int) × (Int))) : R ((Unit) × ((List ((Int) × (Int) × (Int))))) := (((lcR entries_ (fun (d1 : (Int) × (Int) × (Int)) => (R.ok true)) (fun d1 => (R.ok d1))).bind fun a2 => R.ok a2).bind fun (entries_3 : List ((Int) × (Int) × (Int))) => R.ok ((), entries_3))
theorem c_Table___init__ (self_ : Unit) (entries_ : List ((Int) × (Int) × (Int))) : F1 Mi.f_Table___init__ [.mu ((oI "Table" [] (fun (p : Unit) => [])) self_), .fz ((eL (e3 D.int D.int D.int)) entries_)] (t_Table___init__ self_ entries_) (fun (r : (Unit) × ((List ((Int) × (Int) × (Int))))) => .fz (eN r.1)) (fun (r : (Unit) × ((List ((Int) × (Int) × (Int))))) => [some ((oI "Table" ["entries"] (fun (p : (List ((Int) × (Int) × (Int)))) => [(eT (e3 D.int D.int D.int)) p])) r.2), none]) := by
  have h : F1 Mi.f_Table___init__ [.mu ((oI "Table" [] (fun (p : Unit) => [])) self_), .fz ((eL (e3 D.int D.int D.int)) entries_)] _ (fun (r : (Unit) × ((List ((Int) × (Int) × (Int))))) => .fz (eN r.1)) (fun (r : (Unit) × ((List ((Int) × (Int) × (Int))))) => [some ((oI "Table" ["entries"] (fun (p : (List ((Int) × (Int) × (Int)))) => [(eT (e3 D.int D.int D.int)) p])) r.2), none]) := f_mkn (n := 3) (m := Mi.m_Table___init__) (vr := (fun (r : (Unit) × ((List ((Int) × (Int) × (Int))))) => .fz (eN r.1))) (mr := (fun (r : (Unit) × ((List ((Int) × (Int) × (Int))))) => [some ((oI "Table" ["entries"] (fun (p : (List ((Int) × (Int) × (Int)))) => [(eT (e3 D.int D.int D.int)) p])) r.2), none])) [some (.mu ((oI "Table" [] (fun (p : Unit) => [])) self_)), some (.fz ((eL (e3 D.int D.int D.int)) entries_)), none] (c_fld (ca := (eT (e3 D.int D.int D.int))) (fun (entries_3 : List ((Int) × (Int) × (Int))) => [some (.mu ((oI "Table" ["entries"] (fun (p : (List ((Int) × (Int) × (Int)))) => [(eT (e3 D.int D.int D.int)) p])) entries_3)), some (.fz ((eL (e3 D.int D.int D.int)) entries_)), none]) (h_tupL (n_lc (ed := (e3 D.int D.int D.int)) (cb := (e3 D.int D.int D.int)) (C := [some (.mu ((oI "Table" [] (fun (p : Unit) => [])) self_)), some (.fz ((eL (e3 D.int D.int D.int)) entries_)), none]) (C1 := fun (d1 : (Int) × (Int) × (Int)) => [some (.mu ((oI "Table" [] (fun (p : Unit) => [])) self_)), some (.fz ((eL (e3 D.int D.int D.int)) entries_)), some (.fz ((e3 D.int D.int D.int) d1))]) (i_L (h_v (ca := (eL (e3 D.int D.int D.int))))) (by rfl) (by rfl) (by intro _; rfl) (fun d1 => tp_yes) (fun d1 => (h_tupP (c := (e3 D.int D.int D.int)) (h_v (ca := (e3 D.int D.int D.int))).c)) (by intro _; rfl) (by rfl)).h.c) (fun entries_3 => (c_nx (w := ((), entries_3)) ⟨_, .inr ⟨rfl, rfl⟩, rfl⟩)))
  exact h
/-- Table.__str__ -/
noncomputable def t_Table___str__ (self_ : (List ((Int) × (Int) × (Int)))) : R (Str) := (((lcR self_ (fun (d2 : (Int) × (Int) × (Int)) => (R.ok true)) (fun d2 => ((lcR [d2.1, d2.2.1, d2.2.2] (fun (d4 : Int) => (R.ok true)) (fun d4 => (strR d4))).bind fun a5 => (joinR (" " : Str) a5)))).bind fun a6 => (joinR ("\n" : Str) a6)).bind fun a8 => R.ok a8)
theorem c_Table___str__ (self_ : (List ((Int) × (Int) × (Int)))) : F0 Mi.f_Table___str__ [.fz ((eI "Table" ["entries"] (fun (p : (List ((Int) × (Int) × (Int)))) => [(eT (e3 D.int D.int D.int)) p])) self_)] (t_Table___str__ self_) (fun (r : Str) => .fz (D.str r)) := by
  have h : F0 Mi.f_Table___str__ [.fz ((eI "Table" ["entries"] (fun (p : (List ((Int) × (Int) × (Int)))) => [(eT (e3 D.int D.int D.int)) p])) self_)] _ (fun (r : Str) => .fz (D.str r)) := f_mk0 (n := 3) (m := Mi.m_Table___str__) (vr := (fun (r : Str) => .fz (D.str r))) [some (.fz ((eI "Table" ["entries"] (fun (p : (List ((Int) × (Int) × (Int)))) => [(eT (e3 D.int D.int D.int)) p])) self_)), none, none] (c_ret (c := D.str) (w := fun (a7 : Str) => a7) (h_join (h_kst (ca := D.str) (a := "\n")) (n_lc (ed := (e3 D.int D.int D.int)) (cb := D.str) (C := [some (.fz ((eI "Table" ["entries"] (fun (p : (List ((Int) × (Int) × (Int)))) => [(eT (e3 D.int D.int D.int)) p])) self_)), none, none]) (C1 := fun (d2 : (Int) × (Int) × (Int)) => [some (.fz ((eI "Table" ["entries"] (fun (p : (List ((Int) × (Int) × (Int)))) => [(eT (e3 D.int D.int D.int)) p])) self_)), some (.fz ((e3 D.int D.int D.int) d2)), none]) (i_T (h_fld (cb := (eT (e3 D.int D.int D.int))) (h_v (ca := (eI "Table" ["entries"] (fun (p : (List ((Int) × (Int) × (Int)))) => [(eT (e3 D.int D.int D.int)) p])))).c (fun (a1 : (List ((Int) × (Int) × (Int)))) => a1))) (by rfl) (by rfl) (by intro _; rfl) (fun d2 => tp_yes) (fun d2 => (h_join (h_kst (ca := D.str) (a := " ")) (n_lc (ed := D.int) (cb := D.str) (C := [some (.fz ((eI "Table" ["entries"] (fun (p : (List ((Int) × (Int) × (Int)))) => [(eT (e3 D.int D.int D.int)) p])) self_)), some (.fz ((e3 D.int D.int D.int) d2)), none]) (C1 := fun (d4 : Int) => [some (.fz ((eI "Table" ["entries"] (fun (p : (List ((Int) × (Int) × (Int)))) => [(eT (e3 D.int D.int D.int)) p])) self_)), some (.fz ((e3 D.int D.int D.int) d2)), some (.fz (D.int d4))]) (i_T (EH.as (c' := (eT D.int)) (h_v (ca := (e3 D.int D.int D.int))) (fun (a3 : (Int) × (Int) × (Int)) => [a3.1, a3.2.1, a3.2.2]))) (by rfl) (by rfl) (by intro _; rfl) (fun d4 => tp_yes) (fun d4 => (h_strI (h_v (ca := D.int)).c)) (by intro _; rfl) (by rfl)).h.c)) (by intro _; rfl) (by rfl)).h.c) (fun _ => ⟨_, rfl, rfl⟩))
  exact h
/-- Table.amount -/
noncomputable def t_Table_amount (self_ : (List ((Int) × (Int) × (Int)))) (low_ : Int) (high_ : Int) : R (Int) := (((lcR self_ (fun (d2 : (Int) × (Int) × (Int)) => (if (decide (low_ ≤ d2.1)) = true then (R.ok (decide (d2.2.1 ≤ high_))) else R.ok false)) (fun d2 => (R.ok d2.2.2))).bind fun a3 => R.ok (maxDl 0 a3)).bind fun a5 => R.ok a5)
theorem c_Table_amount (self_ : (List ((Int) × (Int) × (Int)))) (low_ : Int) (high_ : Int) : F0 Mi.f_Table_amount [.fz ((eI "Table" ["entries"] (fun (p : (List ((Int) × (Int) × (Int)))) => [(eT (e3 D.int D.int D.int)) p])) self_), .fz (D.int low_), .fz (D.int high_)] (t_Table_amount self_ low_ high_) (fun (r : Int) => .fz (D.int r)) := by
  have h : F0 Mi.f_Table_amount [.fz ((eI "Table" ["entries"] (fun (p : (List ((Int) × (Int) × (Int)))) => [(eT (e3 D.int D.int D.int)) p])) self_), .fz (D.int low_), .fz (D.int high_)] _ (fun (r : Int) => .fz (D.int r)) := f_mk0 (n := 6) (m := Mi.m_Table_amount) (vr := (fun (r : Int) => .fz (D.int r))) [some (.fz ((eI "Table" ["entries"] (fun (p : (List ((Int) × (Int) × (Int)))) => [(eT (e3 D.int D.int D.int)) p])) self_)), some (.fz (D.int low_)), some (.fz (D.int high_)), none, none, none] (c_ret (c := D.int) (w := fun (a4 : Int) => a4) (h_maxD (d := 0) (n_lc (ed := (e3 D.int D.int D.int)) (cb := D.int) (C := [some (.fz ((eI "Table" ["entries"] (fun (p : (List ((Int) × (Int) × (Int)))) => [(eT (e3 D.int D.int D.int)) p])) self_)), some (.fz (D.int low_)), some (.fz (D.int high_)), none, none, none]) (C1 := fun (d2 : (Int) × (Int) × (Int)) => [some (.fz ((eI "Table" ["entries"] (fun (p : (List ((Int) × (Int) × (Int)))) => [(eT (e3 D.int D.int D.int)) p])) self_)), some (.fz (D.int low_)), some (.fz (D.int high_)), some (.fz (D.int d2.1)), some (.fz (D.int d2.2.1)), some (.fz (D.int d2.2.2))]) (i_T (h_fld (cb := (eT (e3 D.int D.int D.int))) (h_v (ca := (eI "Table" ["entries"] (fun (p : (List ((Int) × (Int) × (Int)))) => [(eT (e3 D.int D.int D.int)) p])))).c (fun (a1 : (List ((Int) × (Int) × (Int)))) => a1))) (by rfl) (by rfl) (by intro _; rfl) (fun d2 => (t_and (t_tst (h_le (h_v (ca := D.int)).c (h_v (ca := D.int)).c)) (t_tst (h_le (h_v (ca := D.int)).c (h_v (ca := D.int)).c)))) (fun d2 => (h_v (ca := D.int))) (by intro _; rfl) (by rfl)).h.c) (fun _ => ⟨_, rfl, rfl⟩))
  exact h
/-- _law_amount -/
noncomputable def t__law_amount (entries_ : List ((Int) × (Int) × (Int))) (low_ : Int) (high_ : Int) : R (Int) := ((R.ok (0 : Int)).bind fun (found_1 : Int) => ((foldR (fun (d3 : (Int) × (Int) × (Int)) (s2 : Int) => ((if (decide (low_ ≤ d3.1)) = true then (if (decide (d3.2.1 ≤ high_)) = true then (R.ok (decide (s2 < d3.2.2))) else R.ok false) else R.ok false).bind fun a5 => (if a5 = true then ((R.ok d3.2.2).bind fun (found_4 : Int) => R.ok found_4) else R.ok s2))) entries_ found_1).bind fun (s2 : Int) => R.ok s2))
theorem c__law_amount_b1 (entries_ : List ((Int) × (Int) × (Int))) (low_ : Int) (high_ : Int) (s2 : Int) (d3 : (Int) × (Int) × (Int)) : CB (sseq (sif (tand (tst (bop gLe (rdv 1) (rdv 4))) (tand (tst (bop gLe (rdv 5) (rdv 2))) (tst (bop gGt (rdv 6) (rdv 3))))) (sseq (sadj [.fz 3] (sasg 3 (rdv 6)))
  RS.nx) RS.nx)
  RS.nx) [some (.fz ((eL (e3 D.int D.int D.int)) entries_)), some (.fz (D.int low_)), some (.fz (D.int high_)), some (.fz (D.int s2)), some (.fz (D.int d3.1)), some (.fz (D.int d3.2.1)), some (.fz (D.int d3.2.2))] (((if (decide (low_ ≤ d3.1)) = true then (if (decide (d3.2.1 ≤ high_)) = true then (R.ok (decide (s2 < d3.2.2))) else R.ok false) else R.ok false).bind fun a5 => (if a5 = true then ((R.ok d3.2.2).bind fun (found_4 : Int) => R.ok found_4) else R.ok s2))) (ILp [.no 4, .no 5, .no 6] (fun (sI_2 : Int) => [some (.fz ((eL (e3 D.int D.int D.int)) entries_)), some (.fz (D.int low_)), some (.fz (D.int high_)), some (.fz (D.int sI_2)), none, none, none])) := by
  have h : CB (sseq (sif (tand (tst (bop gLe (rdv 1) (rdv 4))) (tand (tst (bop gLe (rdv 5) (rdv 2))) (tst (bop gGt (rdv 6) (rdv 3))))) (sseq (sadj [.fz 3] (sasg 3 (rdv 6)))
  RS.nx) RS.nx)
  RS.nx) [some (.fz ((eL (e3 D.int D.int D.int)) entries_)), some (.fz (D.int low_)), some (.fz (D.int high_)), some (.fz (D.int s2)), some (.fz (D.int d3.1)), some (.fz (D.int d3.2.1)), some (.fz (D.int d3.2.2))] _ (ILp [.no 4, .no 5, .no 6] (fun (sI_2 : Int) => [some (.fz ((eL (e3 D.int D.int D.int)) entries_)), some (.fz (D.int low_)), some (.fz (D.int high_)), some (.fz (D.int sI_2)), none, none, none])) := (c_if (t_and (t_tst (h_le (h_v (ca := D.int)).c (h_v (ca := D.int)).c)) (t_and (t_tst (h_le (h_v (ca := D.int)).c (h_v (ca := D.int)).c)) (t_tst (h_gt (h_v (ca := D.int)).c (h_v (ca := D.int)).c)))) (c_assoc (c_asg (c := D.int) (fun (found_4 : Int) => [some (.fz ((eL (e3 D.int D.int D.int)) entries_)), some (.fz (D.int low_)), some (.fz (D.int high_)), some (.fz (D.int found_4)), some (.fz (D.int d3.1)), some (.fz (D.int d3.2.1)), some (.fz (D.int d3.2.2))]) (h_v (ca := D.int)) (fun found_4 => (c_nxg (c_nx (w := found_4) ⟨_, .inl rfl, adjR rfl⟩))))) (c_nxg (c_nx (w := s2) ⟨_, .inl rfl, adjR rfl⟩)))
  exact h
theorem c__law_amount (entries_ : List ((Int) × (Int) × (Int))) (low_ : Int) (high_ : Int) : F0 Mi.f__law_amount [.fz ((eL (e3 D.int D.int D.int)) entries_), .fz (D.int low_), .fz (D.int high_)] (t__law_amount entries_ low_ high_) (fun (r : Int) => .fz (D.int r)) := by
  have h : F0 Mi.f__law_amount [.fz ((eL (e3 D.int D.int D.int)) entries_), .fz (D.int low_), .fz (D.int high_)] _ (fun (r : Int) => .fz (D.int r)) := f_mk0 (n := 7) (m := Mi.m__law_amount) (vr := (fun (r : Int) => .fz (D.int r))) [some (.fz ((eL (e3 D.int D.int D.int)) entries_)), some (.fz (D.int low_)), some (.fz (D.int high_)), none, none, none, none] (c_asg (c := D.int) (fun (found_1 : Int) => [some (.fz ((eL (e3 D.int D.int D.int)) entries_)), some (.fz (D.int low_)), some (.fz (D.int high_)), some (.fz (D.int found_1)), none, none, none]) (h_kst (ca := D.int) (a := 0)) (fun found_1 => (c_for (ed := (e3 D.int D.int D.int)) (s0 := found_1) (E1 := (fun (d3 : (Int) × (Int) × (Int)) (s2 : Int) => [some (.fz ((eL (e3 D.int D.int D.int)) entries_)), some (.fz (D.int low_)), some (.fz (D.int high_)), some (.fz (D.int s2)), some (.fz (D.int d3.1)), some (.fz (D.int d3.2.1)), some (.fz (D.int d3.2.2))])) (fun (s2 : Int) => [some (.fz ((eL (e3 D.int D.int D.int)) entries_)), some (.fz (D.int low_)), some (.fz (D.int high_)), some (.fz (D.int s2)), none, none, none]) (i_L (h_v (ca := (eL (e3 D.int D.int D.int))))) (fun d3 s2 => (c__law_amount_b1 entries_ low_ high_ s2 d3)) (fun s2 => (c_ret (c := D.int) (w := fun (a6 : Int) => a6) (h_v (ca := D.int)) (fun _ => ⟨_, rfl, rfl⟩))))))
  exact h
/-- Table.wear -/
noncomputable def t_Table_wear_2 (self_ : (List ((Int) × (Int) × (Int)))) (ranges_ : Bool × List ((Int) × (Int))) : R (Int) := (((lcR (ranges_).2 (fun (d1 : (Int) × (Int)) => (R.ok true)) (fun d1 => (t_Table_amount self_ d1.1 d1.2))).bind fun a2 => R.ok (a2.sum)).bind fun a4 => R.ok a4)
theorem c_Table_wear_3 (self_ : (List ((Int) × (Int) × (Int)))) (ranges_ : Bool × List ((Int) × (Int))) : F0 Mi.f_Table_wear [.fz ((eI "Table" ["entries"] (fun (p : (List ((Int) × (Int) × (Int)))) => [(eT (e3 D.int D.int D.int)) p])) self_), .fz ((eS (e2 D.int D.int)) ranges_)] (t_Table_wear_2 self_ ranges_) (fun (r : Int) => .fz (D.int r)) := by
  have h : F0 Mi.f_Table_wear [.fz ((eI "Table" ["entries"] (fun (p : (List ((Int) × (Int) × (Int)))) => [(eT (e3 D.int D.int D.int)) p])) self_), .fz ((eS (e2 D.int D.int)) ranges_)] _ (fun (r : Int) => .fz (D.int r)) := f_mk0 (n := 4) (m := Mi.m_Table_wear) (vr := (fun (r : Int) => .fz (D.int r))) [some (.fz ((eI "Table" ["entries"] (fun (p : (List ((Int) × (Int) × (Int)))) => [(eT (e3 D.int D.int D.int)) p])) self_)), some (.fz ((eS (e2 D.int D.int)) ranges_)), none, none] (c_ret (c := D.int) (w := fun (a3 : Int) => a3) (h_sum (n_lc (ed := (e2 D.int D.int)) (cb := D.int) (C := [some (.fz ((eI "Table" ["entries"] (fun (p : (List ((Int) × (Int) × (Int)))) => [(eT (e3 D.int D.int D.int)) p])) self_)), some (.fz ((eS (e2 D.int D.int)) ranges_)), none, none]) (C1 := fun (d1 : (Int) × (Int)) => [some (.fz ((eI "Table" ["entries"] (fun (p : (List ((Int) × (Int) × (Int)))) => [(eT (e3 D.int D.int D.int)) p])) self_)), some (.fz ((eS (e2 D.int D.int)) ranges_)), some (.fz (D.int d1.1)), some (.fz (D.int d1.2))]) (i_S (h_v (ca := (eS (e2 D.int D.int))))) (by rfl) (by rfl) (by intro _; rfl) (fun d1 => tp_yes) (fun d1 => (h_call (c := D.int) (t := fun p : ((List ((Int) × (Int) × (Int)))) × (Int) × (Int) × Unit => t_Table_amount p.1 p.2.1 p.2.2.1) (k_self (h_v (ca := (eI "Table" ["entries"] (fun (p : (List ((Int) × (Int) × (Int)))) => [(eT (e3 D.int D.int D.int)) p])))) (k_rd (h_v (ca := D.int)) (k_rd (h_v (ca := D.int)) k_nil))) (fun p => c_Table_amount p.1 p.2.1 p.2.2.1) (hn := (fun h => nomatch h)))) (by intro _; rfl) (by rfl)).h.c) (fun _ => ⟨_, rfl, rfl⟩))
  exact h
/-- _law_wear -/
noncomputable def t__law_wear (entries_ : List ((Int) × (Int) × (Int))) (ranges_ : Bool × List ((Int) × (Int))) : R (Int) := (((lcR (ranges_).2 (fun (d1 : (Int) × (Int)) => (R.ok true)) (fun d1 => (t__law_amount entries_ d1.1 d1.2))).bind fun a2 => R.ok (a2.sum)).bind fun a4 => R.ok a4)
theorem c__law_wear (entries_ : List ((Int) × (Int) × (Int))) (ranges_ : Bool × List ((Int) × (Int))) : F0 Mi.f__law_wear [.fz ((eL (e3 D.int D.int D.int)) entries_), .fz ((eS (e2 D.int D.int)) ranges_)] (t__law_wear entries_ ranges_) (fun (r : Int) => .fz (D.int r)) := by
  have h : F0 Mi.f__law_wear [.fz ((eL (e3 D.int D.int D.int)) entries_), .fz ((eS (e2 D.int D.int)) ranges_)] _ (fun (r : Int) => .fz (D.int r)) := f_mk0 (n := 4) (m := Mi.m__law_wear) (vr := (fun (r : Int) => .fz (D.int r))) [some (.fz ((eL (e3 D.int D.int D.int)) entries_)), some (.fz ((eS (e2 D.int D.int)) ranges_)), none, none] (c_ret (c := D.int) (w := fun (a3 : Int) => a3) (h_sum (n_lc (ed := (e2 D.int D.int)) (cb := D.int) (C := [some (.fz ((eL (e3 D.int D.int D.int)) entries_)), some (.fz ((eS (e2 D.int D.int)) ranges_)), none, none]) (C1 := fun (d1 : (Int) × (Int)) => [some (.fz ((eL (e3 D.int D.int D.int)) entries_)), some (.fz ((eS (e2 D.int D.int)) ranges_)), some (.fz (D.int d1.1)), some (.fz (D.int d1.2))]) (i_S (h_v (ca := (eS (e2 D.int D.int))))) (by rfl) (by rfl) (by intro _; rfl) (fun d1 => tp_yes) (fun d1 => (h_call (c := D.int) (t := fun p : (List ((Int) × (Int) × (Int))) × (Int) × (Int) × Unit => t__law_amount p.1 p.2.1 p.2.2.1) (k_rd (h_v (ca := (eL (e3 D.int D.int D.int)))) (k_rd (h_v (ca := D.int)) (k_rd (h_v (ca := D.int)) k_nil))) (fun p => c__law_amount p.1 p.2.1 p.2.2.1) (hn :=  (fun h => nomatch h)))) (by intro _; rfl) (by rfl)).h.c) (fun _ => ⟨_, rfl, rfl⟩))
  exact h
/-- Table.__eq__ -/
noncomputable def t_Table___eq__ (self_ : (List ((Int) × (Int) × (Int)))) (other_ : (List ((Int) × (Int) × (Int)))) : R (Bool) := ((if true = true then (eqR ((eT (e3 D.int D.int D.int)) self_) ((eT (e3 D.int D.int D.int)) other_)) else R.ok false).bind fun a4 => R.ok a4)
theorem c_Table___eq__ (self_ : (List ((Int) × (Int) × (Int)))) (other_ : (List ((Int) × (Int) × (Int)))) : F0 Mi.f_Table___eq__ [.fz ((eI "Table" ["entries"] (fun (p : (List ((Int) × (Int) × (Int)))) => [(eT (e3 D.int D.int D.int)) p])) self_), .fz ((eI "Table" ["entries"] (fun (p : (List ((Int) × (Int) × (Int)))) => [(eT (e3 D.int D.int D.int)) p])) other_)] (t_Table___eq__ self_ other_) (fun (r : Bool) => .fz (D.bl r)) := by
  have h : F0 Mi.f_Table___eq__ [.fz ((eI "Table" ["entries"] (fun (p : (List ((Int) × (Int) × (Int)))) => [(eT (e3 D.int D.int D.int)) p])) self_), .fz ((eI "Table" ["entries"] (fun (p : (List ((Int) × (Int) × (Int)))) => [(eT (e3 D.int D.int D.int)) p])) other_)] _ (fun (r : Bool) => .fz (D.bl r)) := f_mk0 (n := 2) (m := Mi.m_Table___eq__) (vr := (fun (r : Bool) => .fz (D.bl r))) [some (.fz ((eI "Table" ["entries"] (fun (p : (List ((Int) × (Int) × (Int)))) => [(eT (e3 D.int D.int D.int)) p])) self_)), some (.fz ((eI "Table" ["entries"] (fun (p : (List ((Int) × (Int) × (Int)))) => [(eT (e3 D.int D.int D.int)) p])) other_))] (c_ret (c := D.bl) (w := fun (a3 : Bool) => a3) (h_and (h_isiC (h_v (ca := (eI "Table" ["entries"] (fun (p : (List ((Int) × (Int) × (Int)))) => [(eT (e3 D.int D.int D.int)) p])))).c true) (h_eq (h_fld (cb := (eT (e3 D.int D.int D.int))) (h_v (ca := (eI "Table" ["entries"] (fun (p : (List ((Int) × (Int) × (Int)))) => [(eT (e3 D.int D.int D.int)) p])))).c (fun (a1 : (List ((Int) × (Int) × (Int)))) => a1)).c (h_fld (cb := (eT (e3 D.int D.int D.int))) (h_v (ca := (eI "Table" ["entries"] (fun (p : (List ((Int) × (Int) × (Int)))) => [(eT (e3 D.int D.int D.int)) p])))).c (fun (a2 : (List ((Int) × (Int) × (Int)))) => a2)).c (fun a b => by rfl))) (fun _ => ⟨_, rfl, rfl⟩))
  exact h
/-- _law_right -/
noncomputable def t__law_right_3 (feed_ : List (Int)) (table_ : (List ((Int) × (Int) × (Int)))) (entries_ : List ((Int) × (Int) × (Int))) : R ((Bool) × (List (Int))) := (((lcR entries_ (fun (d1 : (Int) × (Int) × (Int)) => (R.ok true)) (fun d1 => ((lcR [d1.1, d1.2.1, d1.2.2] (fun (d3 : Int) => (R.ok true)) (fun d3 => (strR d3))).bind fun a4 => (joinR (" " : Str) a4)))).bind fun a5 => (joinR ("\n" : Str) a5)).bind fun (text_6 : Str) => ((if (!true) = true then R.ok true else (((reprR ((eT (e3 D.int D.int D.int)) table_)).bind fun a8 => ((reprR ((eT (e3 D.int D.int D.int)) entries_)).bind fun a9 => R.ok (!decide (a8 = a9)))).bind fun a12 => (if a12 = true then R.ok true else ((t_Table___str__ table_).bind fun a11 => R.ok (!decide (a11 = text_6)))))).bind fun a90 => (if a90 = true then R.ok (false, feed_) else ((lcR entries_ (fun (d14 : (Int) × (Int) × (Int)) => (R.ok true)) (fun d14 => ((R.ok (cut [d14.1, d14.2.1, d14.2.2] none (some (2 : Int)))).bind unl2))).bind fun (ranges_16 : List ((Int) × (Int))) => (((((t__law_take feed_ (8 : Int)).bind fun q28 => R.ok (q28.1, q28.2)).bind fun a29 => R.ok ((a29.1, ()), a29.2)).bind fun a30 => (rngR 0 a30.1.1).bind fun z31 => R.ok (z31, a30.2)).bind fun a89 => (fun (a89l : List (Int)) (s17 : List (Int)) => (foldR (fun (d23 : Int) (s22 : (List (Int)) × (List ((Int) × (Int)))) => (((t__law_interval s22.1 (12 : Int)).bind fun q25 => R.ok (q25.1, q25.2)).bind fun q27 => (appR ((fun (s26 : List (Int)) => s22.2) q27.2) q27.1).bind fun (ranges_24 : List ((Int) × (Int))) => (fun (s26 : List (Int)) => R.ok (s26, ranges_24)) q27.2)) a89l (s17, ranges_16)).bind fun (s22 : (List (Int)) × (List ((Int) × (Int)))) => ((loopR (ρ := (Bool) × (List (Int))) (fun (d33 : (Int) × (Int)) (s32 : Unit) => ((((t_Table_amount table_ d33.1 d33.2).bind fun a34 => (reprR (D.int a34))).bind fun a36 => (((t__law_amount entries_ d33.1 d33.2).bind fun a35 => (reprR (D.int a35))).bind fun a37 => R.ok (!decide (a36 = a37)))).bind fun a39 => (if a39 = true then R.ok (Otc.rt (false, s22.1)) else R.ok (Otc.go ())))) s22.2 ()).bind fun o87 => o87.to (fun r88 => R.ok r88) (fun (s32 : Unit) => ((((((((catR s22.2 s22.2).bind fun a57 => R.ok a57).bind fun a58 => R.ok (a58, (([] : List ((Int) × (Int))), ((s22.2.reverse), ())))).bind fun a59 => R.ok (s22.2, a59)).bind fun a60 => R.ok (a60.1, a60.2.1, a60.2.2.1, a60.2.2.2.1)).bind fun a62 => R.ok [(false, a62.1), (true, a62.2.1), (false, a62.2.2.1), (false, a62.2.2.2)]).bind fun a84 => (loopR (ρ := (Bool) × (List (Int))) (fun (d47 : Bool × List ((Int) × (Int))) (s46 : Unit) => ((reprR ((eS (e2 D.int D.int)) d47)).bind fun (seen_48 : Str) => (((((t_Table_wear_2 table_ d47).bind fun a49 => (reprR (D.int a49))).bind fun a51 => (((t__law_wear entries_ d47).bind fun a50 => (reprR (D.int a50))).bind fun a52 => R.ok (!decide (a51 = a52)))).bind fun a54 => (if a54 = true then R.ok true else ((reprR ((eS (e2 D.int D.int)) d47)).bind fun a53 => R.ok (!decide (a53 = seen_48))))).bind fun a56 => (if a56 = true then R.ok (Otc.rt (false, s22.1)) else R.ok (Otc.go ()))))) a84 ())).bind fun o85 => o85.to (fun r86 => R.ok r86) (fun (s46 : Unit) => (((t_Table_amount table_ (-1000000000 : Int) (1000000000 : Int)).bind fun a66 => ((((lcR entries_ (fun (d63 : (Int) × (Int) × (Int)) => (R.ok true)) (fun d63 => (R.ok d63.2.2))).bind fun a64 => (catR [(0 : Int)] a64)).bind fun a65 => (maxR a65)).bind fun a67 => R.ok (!decide (a66 = a67)))).bind fun a83 => (if a83 = true then R.ok (false, s22.1) else ((((reprR ((eT (e3 D.int D.int D.int)) table_)).bind fun a70 => ((reprR ((eT (e3 D.int D.int D.int)) entries_)).bind fun a71 => R.ok (decide (a70 = a71)))).bind fun a80 => (if a80 = true then (((t_Table___str__ table_).bind fun a73 => R.ok (decide (a73 = text_6))).bind fun a79 => (if a79 = true then ((((t_Table___init__ () entries_).bind fun z74 => R.ok z74.2).bind fun a78 => R.ok (table_, a78)).bind fun a77 => t_Table___eq__ a77.1 a77.2) else R.ok false)) else R.ok false)).bind fun a82 => R.ok (a82, s22.1))))))))) a89.1 a89.2)))))
theorem c__law_right_3_b1 (table_ : (List ((Int) × (Int) × (Int)))) (entries_ : List ((Int) × (Int) × (Int))) (text_6 : Str) (s22 : (List (Int)) × (List ((Int) × (Int)))) (d23 : Int) : CB (sseq (sexp (mcall 6 gApp (acons (callF [.mt, .rd] Mi.f__law_interval (acons (rdv 0) (acons (kst (.int 12)) anil))) anil)))
  RS.nx) [some (.mu ((oL D.int) s22.1)), some (.fz ((eI "Table" ["entries"] (fun (p : (List ((Int) × (Int) × (Int)))) => [(eT (e3 D.int D.int D.int)) p])) table_)), some (.fz ((eL (e3 D.int D.int D.int)) entries_)), some (.fz (D.str text_6)), none, none, some (.ow ((oL (e2 D.int D.int)) s22.2)), some (.fz (D.int d23)), none, none, none, none] ((((t__law_interval s22.1 (12 : Int)).bind fun q25 => R.ok (q25.1, q25.2)).bind fun q27 => (appR ((fun (s26 : List (Int)) => s22.2) q27.2) q27.1).bind fun (ranges_24 : List ((Int) × (Int))) => (fun (s26 : List (Int)) => R.ok (s26, ranges_24)) q27.2)) (ILp [.no 7] (fun (sI_4 : (List (Int)) × (List ((Int) × (Int)))) => [some (.mu ((oL D.int) sI_4.1)), some (.fz ((eI "Table" ["entries"] (fun (p : (List ((Int) × (Int) × (Int)))) => [(eT (e3 D.int D.int D.int)) p])) table_)), some (.fz ((eL (e3 D.int D.int D.int)) entries_)), some (.fz (D.str text_6)), none, none, some (.ow ((oL (e2 D.int D.int)) sI_4.2)), none, none, none, none, none])) := by
  have h : CB (sseq (sexp (mcall 6 gApp (acons (callF [.mt, .rd] Mi.f__law_interval (acons (rdv 0) (acons (kst (.int 12)) anil))) anil)))
  RS.nx) [some (.mu ((oL D.int) s22.1)), some (.fz ((eI "Table" ["entries"] (fun (p : (List ((Int) × (Int) × (Int)))) => [(eT (e3 D.int D.int D.int)) p])) table_)), some (.fz ((eL (e3 D.int D.int D.int)) entries_)), some (.fz (D.str text_6)), none, none, some (.ow ((oL (e2 D.int D.int)) s22.2)), some (.fz (D.int d23)), none, none, none, none] _ (ILp [.no 7] (fun (sI_4 : (List (Int)) × (List ((Int) × (Int)))) => [some (.mu ((oL D.int) sI_4.1)), some (.fz ((eI "Table" ["entries"] (fun (p : (List ((Int) × (Int) × (Int)))) => [(eT (e3 D.int D.int D.int)) p])) table_)), some (.fz ((eL (e3 D.int D.int D.int)) entries_)), some (.fz (D.str text_6)), none, none, some (.ow ((oL (e2 D.int D.int)) sI_4.2)), none, none, none, none, none])) := (c_appM (E := (fun (s26 : List (Int)) => [some (.mu ((oL D.int) s26)), some (.fz ((eI "Table" ["entries"] (fun (p : (List ((Int) × (Int) × (Int)))) => [(eT (e3 D.int D.int D.int)) p])) table_)), some (.fz ((eL (e3 D.int D.int D.int)) entries_)), some (.fz (D.str text_6)), none, none, some (.ow ((oL (e2 D.int D.int)) s22.2)), some (.fz (D.int d23)), none, none, none, none])) (s := s22.1) (c := (e2 D.int D.int)) (ls := fun (s26 : List (Int)) => s22.2) (fun (ranges_24 : List ((Int) × (Int))) (s26 : List (Int)) => [some (.mu ((oL D.int) s26)), some (.fz ((eI "Table" ["entries"] (fun (p : (List ((Int) × (Int) × (Int)))) => [(eT (e3 D.int D.int D.int)) p])) table_)), some (.fz ((eL (e3 D.int D.int D.int)) entries_)), some (.fz (D.str text_6)), none, none, some (.ow ((oL (e2 D.int D.int)) ranges_24)), some (.fz (D.int d23)), none, none, none, none]) (hm_call (c := (e2 D.int D.int)) (t := fun (p : (Int) × Unit) (s : List (Int)) => t__law_interval s p.1) (km_mt (om := fun s => (oL D.int) s) (by intro _; rfl) (km_rd (h_kst (ca := D.int) (a := 12)).m (fun _ => km_nil))) (fun s m => m) (fun p s => c__law_interval s p.1)) (fun ranges_24 s26 => (c_nx (w := (s26, ranges_24)) ⟨_, .inl rfl, adjR rfl⟩)))
  exact h
theorem c__law_right_3_b2 (s22 : (List (Int)) × (List ((Int) × (Int)))) (table_ : (List ((Int) × (Int) × (Int)))) (entries_ : List ((Int) × (Int) × (Int))) (text_6 : Str) (feed_ : List (Int)) (d33 : (Int) × (Int)) : CB (sseq (sif (tst (bop gNe (cbn cRepr (acons (callF [.rd, .rd, .rd] Mi.f_Table_amount (aself "Table" "amount" (rdv 1) (acons (rdv 8) (acons (rdv 9) anil)))) anil)) (cbn cRepr (acons (callF [.rd, .rd, .rd] Mi.f__law_amount (acons (rdv 2) (acons (rdv 8) (acons (rdv 9) anil)))) anil)))) (sseq (sretF (kst (.bl false)))
  RS.nx) RS.nx)
  RS.nx) [some (.mu ((oL D.int) s22.1)), some (.fz ((eI "Table" ["entries"] (fun (p : (List ((Int) × (Int) × (Int)))) => [(eT (e3 D.int D.int D.int)) p])) table_)), some (.fz ((eL (e3 D.int D.int D.int)) entries_)), some (.fz (D.str text_6)), none, none, some (.fz ((eL (e2 D.int D.int)) s22.2)), none, some (.fz (D.int d33.1)), some (.fz (D.int d33.2)), none, none] (((((t_Table_amount table_ d33.1 d33.2).bind fun a34 => (reprR (D.int a34))).bind fun a36 => (((t__law_amount entries_ d33.1 d33.2).bind fun a35 => (reprR (D.int a35))).bind fun a37 => R.ok (!decide (a36 = a37)))).bind fun a39 => (if a39 = true then R.ok (Otc.rt (false, s22.1)) else R.ok (Otc.go ())))) (IOut [.no 8, .no 9] (fun (sI_5 : Unit) => [some (.mu ((oL D.int) s22.1)), some (.fz ((eI "Table" ["entries"] (fun (p : (List ((Int) × (Int) × (Int)))) => [(eT (e3 D.int D.int D.int)) p])) table_)), some (.fz ((eL (e3 D.int D.int D.int)) entries_)), some (.fz (D.str text_6)), none, none, some (.fz ((eL (e2 D.int D.int)) s22.2)), none, none, none, none, none]) (fun (r : (Bool) × (List (Int))) => .fz (D.bl r.1)) (fun (r : (Bool) × (List (Int))) e => muts [.mu ((oL D.int) feed_), .fz ((eI "Table" ["entries"] (fun (p : (List ((Int) × (Int) × (Int)))) => [(eT (e3 D.int D.int D.int)) p])) table_), .fz ((eL (e3 D.int D.int D.int)) entries_)] e = (fun (r : (Bool) × (List (Int))) => [some ((oL D.int) r.2), none, none]) r)) := by
  have h : CB (sseq (sif (tst (bop gNe (cbn cRepr (acons (callF [.rd, .rd, .rd] Mi.f_Table_amount (aself "Table" "amount" (rdv 1) (acons (rdv 8) (acons (rdv 9) anil)))) anil)) (cbn cRepr (acons (callF [.rd, .rd, .rd] Mi.f__law_amount (acons (rdv 2) (acons (rdv 8) (acons (rdv 9) anil)))) anil)))) (sseq (sretF (kst (.bl false)))
  RS.nx) RS.nx)
  RS.nx) [some (.mu ((oL D.int) s22.1)), some (.fz ((eI "Table" ["entries"] (fun (p : (List ((Int) × (Int) × (Int)))) => [(eT (e3 D.int D.int D.int)) p])) table_)), some (.fz ((eL (e3 D.int D.int D.int)) entries_)), some (.fz (D.str text_6)), none, none, some (.fz ((eL (e2 D.int D.int)) s22.2)), none, some (.fz (D.int d33.1)), some (.fz (D.int d33.2)), none, none] _ (IOut [.no 8, .no 9] (fun (sI_5 : Unit) => [some (.mu ((oL D.int) s22.1)), some (.fz ((eI "Table" ["entries"] (fun (p : (List ((Int) × (Int) × (Int)))) => [(eT (e3 D.int D.int D.int)) p])) table_)), some (.fz ((eL (e3 D.int D.int D.int)) entries_)), some (.fz (D.str text_6)), none, none, some (.fz ((eL (e2 D.int D.int)) s22.2)), none, none, none, none, none]) (fun (r : (Bool) × (List (Int))) => .fz (D.bl r.1)) (fun (r : (Bool) × (List (Int))) e => muts [.mu ((oL D.int) feed_), .fz ((eI "Table" ["entries"] (fun (p : (List ((Int) × (Int) × (Int)))) => [(eT (e3 D.int D.int D.int)) p])) table_), .fz ((eL (e3 D.int D.int D.int)) entries_)] e = (fun (r : (Bool) × (List (Int))) => [some ((oL D.int) r.2), none, none]) r)) := (c_if (t_tst (h_neS (h_repr (h_call (c := D.int) (t := fun p : ((List ((Int) × (Int) × (Int)))) × (Int) × (Int) × Unit => t_Table_amount p.1 p.2.1 p.2.2.1) (k_self (h_v (ca := (eI "Table" ["entries"] (fun (p : (List ((Int) × (Int) × (Int)))) => [(eT (e3 D.int D.int D.int)) p])))) (k_rd (h_v (ca := D.int)) (k_rd (h_v (ca := D.int)) k_nil))) (fun p => c_Table_amount p.1 p.2.1 p.2.2.1) (hn := (fun h => nomatch h))).c).c (h_repr (h_call (c := D.int) (t := fun p : (List ((Int) × (Int) × (Int))) × (Int) × (Int) × Unit => t__law_amount p.1 p.2.1 p.2.2.1) (k_rd (h_v (ca := (eL (e3 D.int D.int D.int)))) (k_rd (h_v (ca := D.int)) (k_rd (h_v (ca := D.int)) k_nil))) (fun p => c__law_amount p.1 p.2.1 p.2.2.1) (hn :=  (fun h => nomatch h))).c).c)) (c_assoc (c_ret (c := D.bl) (w := fun (a38 : Bool) => (Otc.rt (a38, s22.1))) (h_kst (ca := D.bl) (a := false)) (fun _ => ⟨_, rfl, rfl⟩))) (c_nxg (c_nx (w := (Otc.go ())) ⟨_, .inl rfl, adjR rfl⟩)))
  exact h
theorem c__law_right_3_b3 (s22 : (List (Int)) × (List ((Int) × (Int)))) (table_ : (List ((Int) × (Int) × (Int)))) (entries_ : List ((Int) × (Int) × (Int))) (text_6 : Str) (feed_ : List (Int)) (d47 : Bool × List ((Int) × (Int))) : CB (sseq (sadj [.fz 11] (sasg 11 (cbn cRepr (acons (rdv 10) anil))))
  (sseq (sif (tor (tst (bop gNe (cbn cRepr (acons (callF [.rd, .rd] Mi.f_Table_wear (aself "Table" "wear" (rdv 1) (acons (rdv 10) anil))) anil)) (cbn cRepr (acons (callF [.rd, .rd] Mi.f__law_wear (acons (rdv 2) (acons (rdv 10) anil))) anil)))) (tst (bop gNe (cbn cRepr (acons (rdv 10) anil)) (rdv 11)))) (sseq (sretF (kst (.bl false)))
  RS.nx) RS.nx)
  RS.nx)) [some (.mu ((oL D.int) s22.1)), some (.fz ((eI "Table" ["entries"] (fun (p : (List ((Int) × (Int) × (Int)))) => [(eT (e3 D.int D.int D.int)) p])) table_)), some (.fz ((eL (e3 D.int D.int D.int)) entries_)), some (.fz (D.str text_6)), none, none, some (.fz ((eL (e2 D.int D.int)) s22.2)), none, none, none, some (.fz ((eS (e2 D.int D.int)) d47)), none] (((reprR ((eS (e2 D.int D.int)) d47)).bind fun (seen_48 : Str) => (((((t_Table_wear_2 table_ d47).bind fun a49 => (reprR (D.int a49))).bind fun a51 => (((t__law_wear entries_ d47).bind fun a50 => (reprR (D.int a50))).bind fun a52 => R.ok (!decide (a51 = a52)))).bind fun a54 => (if a54 = true then R.ok true else ((reprR ((eS (e2 D.int D.int)) d47)).bind fun a53 => R.ok (!decide (a53 = seen_48))))).bind fun a56 => (if a56 = true then R.ok (Otc.rt (false, s22.1)) else R.ok (Otc.go ()))))) (IOut [.no 10, .no 11] (fun (sI_6 : Unit) => [some (.mu ((oL D.int) s22.1)), some (.fz ((eI "Table" ["entries"] (fun (p : (List ((Int) × (Int) × (Int)))) => [(eT (e3 D.int D.int D.int)) p])) table_)), some (.fz ((eL (e3 D.int D.int D.int)) entries_)), some (.fz (D.str text_6)), none, none, some (.fz ((eL (e2 D.int D.int)) s22.2)), none, none, none, none, none]) (fun (r : (Bool) × (List (Int))) => .fz (D.bl r.1)) (fun (r : (Bool) × (List (Int))) e => muts [.mu ((oL D.int) feed_), .fz ((eI "Table" ["entries"] (fun (p : (List ((Int) × (Int) × (Int)))) => [(eT (e3 D.int D.int D.int)) p])) table_), .fz ((eL (e3 D.int D.int D.int)) entries_)] e = (fun (r : (Bool) × (List (Int))) => [some ((oL D.int) r.2), none, none]) r)) := by
  have h : CB (sseq (sadj [.fz 11] (sasg 11 (cbn cRepr (acons (rdv 10) anil))))
  (sseq (sif (tor (tst (bop gNe (cbn cRepr (acons (callF [.rd, .rd] Mi.f_Table_wear (aself "Table" "wear" (rdv 1) (acons (rdv 10) anil))) anil)) (cbn cRepr (acons (callF [.rd, .rd] Mi.f__law_wear (acons (rdv 2) (acons (rdv 10) anil))) anil)))) (tst (bop gNe (cbn cRepr (acons (rdv 10) anil)) (rdv 11)))) (sseq (sretF (kst (.bl false)))
  RS.nx) RS.nx)
  RS.nx)) [some (.mu ((oL D.int) s22.1)), some (.fz ((eI "Table" ["entries"] (fun (p : (List ((Int) × (Int) × (Int)))) => [(eT (e3 D.int D.int D.int)) p])) table_)), some (.fz ((eL (e3 D.int D.int D.int)) entries_)), some (.fz (D.str text_6)), none, none, some (.fz ((eL (e2 D.int D.int)) s22.2)), none, none, none, some (.fz ((eS (e2 D.int D.int)) d47)), none] _ (IOut [.no 10, .no 11] (fun (sI_6 : Unit) => [some (.mu ((oL D.int) s22.1)), some (.fz ((eI "Table" ["entries"] (fun (p : (List ((Int) × (Int) × (Int)))) => [(eT (e3 D.int D.int D.int)) p])) table_)), some (.fz ((eL (e3 D.int D.int D.int)) entries_)), some (.fz (D.str text_6)), none, none, some (.fz ((eL (e2 D.int D.int)) s22.2)), none, none, none, none, none]) (fun (r : (Bool) × (List (Int))) => .fz (D.bl r.1)) (fun (r : (Bool) × (List (Int))) e => muts [.mu ((oL D.int) feed_), .fz ((eI "Table" ["entries"] (fun (p : (List ((Int) × (Int) × (Int)))) => [(eT (e3 D.int D.int D.int)) p])) table_), .fz ((eL (e3 D.int D.int D.int)) entries_)] e = (fun (r : (Bool) × (List (Int))) => [some ((oL D.int) r.2), none, none]) r)) := (c_asg (c := D.str) (fun (seen_48 : Str) => [some (.mu ((oL D.int) s22.1)), some (.fz ((eI "Table" ["entries"] (fun (p : (List ((Int) × (Int) × (Int)))) => [(eT (e3 D.int D.int D.int)) p])) table_)), some (.fz ((eL (e3 D.int D.int D.int)) entries_)), some (.fz (D.str text_6)), none, none, some (.fz ((eL (e2 D.int D.int)) s22.2)), none, none, none, some (.fz ((eS (e2 D.int D.int)) d47)), some (.fz (D.str seen_48))]) (h_repr (h_v (ca := (eS (e2 D.int D.int)))).c) (fun seen_48 => (c_if (t_or (t_tst (h_neS (h_repr (h_call (c := D.int) (t := fun p : ((List ((Int) × (Int) × (Int)))) × (Bool × List ((Int) × (Int))) × Unit => t_Table_wear_2 p.1 p.2.1) (k_self (h_v (ca := (eI "Table" ["entries"] (fun (p : (List ((Int) × (Int) × (Int)))) => [(eT (e3 D.int D.int D.int)) p])))) (k_rd (h_v (ca := (eS (e2 D.int D.int)))) k_nil)) (fun p => c_Table_wear_3 p.1 p.2.1) (hn := (fun h => nomatch h))).c).c (h_repr (h_call (c := D.int) (t := fun p : (List ((Int) × (Int) × (Int))) × (Bool × List ((Int) × (Int))) × Unit => t__law_wear p.1 p.2.1) (k_rd (h_v (ca := (eL (e3 D.int D.int D.int)))) (k_rd (h_v (ca := (eS (e2 D.int D.int)))) k_nil)) (fun p => c__law_wear p.1 p.2.1) (hn :=  (fun h => nomatch h))).c).c)) (t_tst (h_neS (h_repr (h_v (ca := (eS (e2 D.int D.int)))).c).c (h_v (ca := D.str)).c))) (c_assoc (c_ret (c := D.bl) (w := fun (a55 : Bool) => (Otc.rt (a55, s22.1))) (h_kst (ca := D.bl) (a := false)) (fun _ => ⟨_, rfl, rfl⟩))) (c_nxg (c_nx (w := (Otc.go ())) ⟨_, .inl rfl, adjR rfl⟩)))))
  exact h
theorem c__law_right_3 (feed_ : List (Int)) (table_ : (List ((Int) × (Int) × (Int)))) (entries_ : List ((Int) × (Int) × (Int))) : F1 Mi.f__law_right_3 [.mu ((oL D.int) feed_), .fz ((eI "Table" ["entries"] (fun (p : (List ((Int) × (Int) × (Int)))) => [(eT (e3 D.int D.int D.int)) p])) table_), .fz ((eL (e3 D.int D.int D.int)) entries_)] (t__law_right_3 feed_ table_ entries_) (fun (r : (Bool) × (List (Int))) => .fz (D.bl r.1)) (fun (r : (Bool) × (List (Int))) => [some ((oL D.int) r.2), none, none]) := by
  have h : F1 Mi.f__law_right_3 [.mu ((oL D.int) feed_), .fz ((eI "Table" ["entries"] (fun (p : (List ((Int) × (Int) × (Int)))) => [(eT (e3 D.int D.int D.int)) p])) table_), .fz ((eL (e3 D.int D.int D.int)) entries_)] _ (fun (r : (Bool) × (List (Int))) => .fz (D.bl r.1)) (fun (r : (Bool) × (List (Int))) => [some ((oL D.int) r.2), none, none]) := f_mk (n := 12) (m := Mi.m__law_right_3) (vr := (fun (r : (Bool) × (List (Int))) => .fz (D.bl r.1))) (mr := (fun (r : (Bool) × (List (Int))) => [some ((oL D.int) r.2), none, none])) [some (.mu ((oL D.int) feed_)), some (.fz ((eI "Table" ["entries"] (fun (p : (List ((Int) × (Int) × (Int)))) => [(eT (e3 D.int D.int D.int)) p])) table_)), some (.fz ((eL (e3 D.int D.int D.int)) entries_)), none, none, none, none, none, none, none, none, none] (c_asg (c := D.str) (fun (text_6 : Str) => [some (.mu ((oL D.int) feed_)), some (.fz ((eI "Table" ["entries"] (fun (p : (List ((Int) × (Int) × (Int)))) => [(eT (e3 D.int D.int D.int)) p])) table_)), some (.fz ((eL (e3 D.int D.int D.int)) entries_)), some (.fz (D.str text_6)), none, none, none, none, none, none, none, none]) (h_join (h_kst (ca := D.str) (a := "\n")) (n_lc (ed := (e3 D.int D.int D.int)) (cb := D.str) (C := [some (.mu ((oL D.int) feed_)), some (.fz ((eI "Table" ["entries"] (fun (p : (List ((Int) × (Int) × (Int)))) => [(eT (e3 D.int D.int D.int)) p])) table_)), some (.fz ((eL (e3 D.int D.int D.int)) entries_)), none, none, none, none, none, none, none, none, none]) (C1 := fun (d1 : (Int) × (Int) × (Int)) => [some (.mu ((oL D.int) feed_)), some (.fz ((eI "Table" ["entries"] (fun (p : (List ((Int) × (Int) × (Int)))) => [(eT (e3 D.int D.int D.int)) p])) table_)), some (.fz ((eL (e3 D.int D.int D.int)) entries_)), none, some (.fz ((e3 D.int D.int D.int) d1)), none, none, none, none, none, none, none]) (i_L (h_v (ca := (eL (e3 D.int D.int D.int))))) (by rfl) (by rfl) (by intro _; rfl) (fun d1 => tp_yes) (fun d1 => (h_join (h_kst (ca := D.str) (a := " ")) (n_lc (ed := D.int) (cb := D.str) (C := [some (.mu ((oL D.int) feed_)), some (.fz ((eI "Table" ["entries"] (fun (p : (List ((Int) × (Int) × (Int)))) => [(eT (e3 D.int D.int D.int)) p])) table_)), some (.fz ((eL (e3 D.int D.int D.int)) entries_)), none, some (.fz ((e3 D.int D.int D.int) d1)), none, none, none, none, none, none, none]) (C1 := fun (d3 : Int) => [some (.mu ((oL D.int) feed_)), some (.fz ((eI "Table" ["entries"] (fun (p : (List ((Int) × (Int) × (Int)))) => [(eT (e3 D.int D.int D.int)) p])) table_)), some (.fz ((eL (e3 D.int D.int D.int)) entries_)), none, some (.fz ((e3 D.int D.int D.int) d1)), some (.fz (D.int d3)), none, none, none, none, none, none]) (i_T (EH.as (c' := (eT D.int)) (h_v (ca := (e3 D.int D.int D.int))) (fun (a2 : (Int) × (Int) × (Int)) => [a2.1, a2.2.1, a2.2.2]))) (by rfl) (by rfl) (by intro _; rfl) (fun d3 => tp_yes) (fun d3 => (h_strI (h_v (ca := D.int)).c)) (by intro _; rfl) (by rfl)).h.c)) (by intro _; rfl) (by rfl)).h.c) (fun text_6 => (c_if (t_or (t_not (t_bl (h_isiC (h_v (ca := (eI "Table" ["entries"] (fun (p : (List ((Int) × (Int) × (Int)))) => [(eT (e3 D.int D.int D.int)) p])))).c true).c)) (t_or (t_tst (h_neS (h_repr (h_fld (cb := (eT (e3 D.int D.int D.int))) (h_v (ca := (eI "Table" ["entries"] (fun (p : (List ((Int) × (Int) × (Int)))) => [(eT (e3 D.int D.int D.int)) p])))).c (fun (a7 : (List ((Int) × (Int) × (Int)))) => a7)).c).c (h_repr (h_tupL (h_v (ca := (eL (e3 D.int D.int D.int)))).c).c).c)) (t_tst (h_neS (h_strInst (gs := (fun (p : (List ((Int) × (Int) × (Int)))) => [(eT (e3 D.int D.int D.int)) p])) (t := fun (a10 : (List ((Int) × (Int) × (Int)))) => t_Table___str__ a10) (h_v (ca := (eI "Table" ["entries"] (fun (p : (List ((Int) × (Int) × (Int)))) => [(eT (e3 D.int D.int D.int)) p])))) (fun a10 => c_Table___str__ a10)).c (h_v (ca := D.str)).c)))) (c_assoc (c_ret (c := D.bl) (w := fun (a13 : Bool) => (a13, feed_)) (h_kst (ca := D.bl) (a := false)) (fun _ => ⟨_, rfl, rfl⟩))) (c_nxg (c_asgN (fun (ranges_16 : List ((Int) × (Int))) => [some (.mu ((oL D.int) feed_)), some (.fz ((eI "Table" ["entries"] (fun (p : (List ((Int) × (Int) × (Int)))) => [(eT (e3 D.int D.int D.int)) p])) table_)), some (.fz ((eL (e3 D.int D.int D.int)) entries_)), some (.fz (D.str text_6)), none, none, some (.ow ((oL (e2 D.int D.int)) ranges_16)), none, none, none, none, none]) (n_lc (ed := (e3 D.int D.int D.int)) (cb := (e2 D.int D.int)) (C := [some (.mu ((oL D.int) feed_)), some (.fz ((eI "Table" ["entries"] (fun (p : (List ((Int) × (Int) × (Int)))) => [(eT (e3 D.int D.int D.int)) p])) table_)), some (.fz ((eL (e3 D.int D.int D.int)) entries_)), some (.fz (D.str text_6)), none, none, none, none, none, none, none, none]) (C1 := fun (d14 : (Int) × (Int) × (Int)) => [some (.mu ((oL D.int) feed_)), some (.fz ((eI "Table" ["entries"] (fun (p : (List ((Int) × (Int) × (Int)))) => [(eT (e3 D.int D.int D.int)) p])) table_)), some (.fz ((eL (e3 D.int D.int D.int)) entries_)), some (.fz (D.str text_6)), some (.fz ((e3 D.int D.int D.int) d14)), none, none, none, none, none, none, none]) (i_L (h_v (ca := (eL (e3 D.int D.int D.int))))) (by rfl) (by rfl) (by intro _; rfl) (fun d14 => tp_yes) (fun d14 => (EH.unT2 (e := D.int) (h_slT (EH.as (c' := (eT D.int)) (h_v (ca := (e3 D.int D.int D.int))) (fun (a15 : (Int) × (Int) × (Int)) => [a15.1, a15.2.1, a15.2.2])).c o_none (o_some (h_kst (ca := D.int) (a := 2)).c)))) (by intro _; rfl) (by rfl)) (fun ranges_16 => (c_forI (ed := D.int) (E := (fun (s17 : List (Int)) => [some (.mu ((oL D.int) s17)), some (.fz ((eI "Table" ["entries"] (fun (p : (List ((Int) × (Int) × (Int)))) => [(eT (e3 D.int D.int D.int)) p])) table_)), some (.fz ((eL (e3 D.int D.int D.int)) entries_)), some (.fz (D.str text_6)), none, none, some (.ow ((oL (e2 D.int D.int)) ranges_16)), none, none, none, none, none])) (s := feed_) (E1 := (fun (s17 : List (Int)) (d23 : Int) (s22 : (List (Int)) × (List ((Int) × (Int)))) => [some (.mu ((oL D.int) s22.1)), some (.fz ((eI "Table" ["entries"] (fun (p : (List ((Int) × (Int) × (Int)))) => [(eT (e3 D.int D.int D.int)) p])) table_)), some (.fz ((eL (e3 D.int D.int D.int)) entries_)), some (.fz (D.str text_6)), none, none, some (.ow ((oL (e2 D.int D.int)) s22.2)), some (.fz (D.int d23)), none, none, none, none])) (fun (s17 : List (Int)) (s22 : (List (Int)) × (List ((Int) × (Int)))) => [some (.mu ((oL D.int) s22.1)), some (.fz ((eI "Table" ["entries"] (fun (p : (List ((Int) × (Int) × (Int)))) => [(eT (e3 D.int D.int D.int)) p])) table_)), some (.fz ((eL (e3 D.int D.int D.int)) entries_)), some (.fz (D.str text_6)), none, none, some (.ow ((oL (e2 D.int D.int)) s22.2)), none, none, none, none, none]) (fun (s17 : List (Int)) => (s17, ranges_16)) (im_r1 (ahm_cons (hm_call (c := D.int) (t := fun (p : (Int) × Unit) (s : List (Int)) => t__law_take s p.1) (km_mt (om := fun s => (oL D.int) s) (by intro _; rfl) (km_rd (h_kst (ca := D.int) (a := 8)).m (fun _ => km_nil))) (fun s m => m) (fun p s => c__law_take s p.1)) (fun _ => ahm_nil))) (by intro _; rfl) (fun s17 d23 s22 => (c__law_right_3_b1 table_ entries_ text_6 s22 d23)) (fun s17 s22 => (c_pre [some (.mu ((oL D.int) s22.1)), some (.fz ((eI "Table" ["entries"] (fun (p : (List ((Int) × (Int) × (Int)))) => [(eT (e3 D.int D.int D.int)) p])) table_)), some (.fz ((eL (e3 D.int D.int D.int)) entries_)), some (.fz (D.str text_6)), none, none, some (.fz ((eL (e2 D.int D.int)) s22.2)), none, none, none, none, none] (c_forO (ed := (e2 D.int D.int)) (s0 := ()) (E1 := (fun (d33 : (Int) × (Int)) (s32 : Unit) => [some (.mu ((oL D.int) s22.1)), some (.fz ((eI "Table" ["entries"] (fun (p : (List ((Int) × (Int) × (Int)))) => [(eT (e3 D.int D.int D.int)) p])) table_)), some (.fz ((eL (e3 D.int D.int D.int)) entries_)), some (.fz (D.str text_6)), none, none, some (.fz ((eL (e2 D.int D.int)) s22.2)), none, some (.fz (D.int d33.1)), some (.fz (D.int d33.2)), none, none])) (vr := (fun (r : (Bool) × (List (Int))) => .fz (D.bl r.1))) (M := (fun (r : (Bool) × (List (Int))) e => muts [.mu ((oL D.int) feed_), .fz ((eI "Table" ["entries"] (fun (p : (List ((Int) × (Int) × (Int)))) => [(eT (e3 D.int D.int D.int)) p])) table_), .fz ((eL (e3 D.int D.int D.int)) entries_)] e = (fun (r : (Bool) × (List (Int))) => [some ((oL D.int) r.2), none, none]) r)) (kr := fun (r88 : (Bool) × (List (Int))) => R.ok r88) (fun (s32 : Unit) => [some (.mu ((oL D.int) s22.1)), some (.fz ((eI "Table" ["entries"] (fun (p : (List ((Int) × (Int) × (Int)))) => [(eT (e3 D.int D.int D.int)) p])) table_)), some (.fz ((eL (e3 D.int D.int D.int)) entries_)), some (.fz (D.str text_6)), none, none, some (.fz ((eL (e2 D.int D.int)) s22.2)), none, none, none, none, none]) (i_L (h_v (ca := (eL (e2 D.int D.int))))) (fun d33 s32 => (c__law_right_3_b2 s22 table_ entries_ text_6 feed_ d33)) (fun s32 => (c_forO (ed := (eS (e2 D.int D.int))) (s0 := ()) (E1 := (fun (d47 : Bool × List ((Int) × (Int))) (s46 : Unit) => [some (.mu ((oL D.int) s22.1)), some (.fz ((eI "Table" ["entries"] (fun (p : (List ((Int) × (Int) × (Int)))) => [(eT (e3 D.int D.int D.int)) p])) table_)), some (.fz ((eL (e3 D.int D.int D.int)) entries_)), some (.fz (D.str text_6)), none, none, some (.fz ((eL (e2 D.int D.int)) s22.2)), none, none, none, some (.fz ((eS (e2 D.int D.int)) d47)), none])) (vr := (fun (r : (Bool) × (List (Int))) => .fz (D.bl r.1))) (M := (fun (r : (Bool) × (List (Int))) e => muts [.mu ((oL D.int) feed_), .fz ((eI "Table" ["entries"] (fun (p : (List ((Int) × (Int) × (Int)))) => [(eT (e3 D.int D.int D.int)) p])) table_), .fz ((eL (e3 D.int D.int D.int)) entries_)] e = (fun (r : (Bool) × (List (Int))) => [some ((oL D.int) r.2), none, none]) r)) (kr := fun (r86 : (Bool) × (List (Int))) => R.ok r86) (fun (s46 : Unit) => [some (.mu ((oL D.int) s22.1)), some (.fz ((eI "Table" ["entries"] (fun (p : (List ((Int) × (Int) × (Int)))) => [(eT (e3 D.int D.int D.int)) p])) table_)), some (.fz ((eL (e3 D.int D.int D.int)) entries_)), some (.fz (D.str text_6)), none, none, some (.fz ((eL (e2 D.int D.int)) s22.2)), none, none, none, none, none]) (i_T (EH.as (c' := (eT (eS (e2 D.int D.int)))) (EH.as (c' := (e4 (eL (e2 D.int D.int)) (eT (e2 D.int D.int)) (eL (e2 D.int D.int)) (eL (e2 D.int D.int)))) (h_dsp (cz := fun p : (List ((Int) × (Int))) × (List ((Int) × (Int))) × (List ((Int) × (Int))) × (List ((Int) × (Int))) × Unit => D.tup [(eL (e2 D.int D.int)) p.1, (eT (e2 D.int D.int)) p.2.1, (eL (e2 D.int D.int)) p.2.2.1, (eL (e2 D.int D.int)) p.2.2.2.1]) (ah_cons (h_v (ca := (eL (e2 D.int D.int)))) (ah_cons (h_tupL (n_cat (h_v (ca := (eL (e2 D.int D.int)))).c (h_v (ca := (eL (e2 D.int D.int)))).c).h.c) (ah_cons (EN.as (c' := oL (e2 D.int D.int)) (n_dsp (cz := fun p : Unit => O.lst []) ah_nil 0) (fun p => [])).h (ah_cons (n_rev (h_v (ca := (eL (e2 D.int D.int)))).c).h ah_nil)))) 0) (fun p => (p.1, p.2.1, p.2.2.1, p.2.2.2.1))) (fun (a61 : (List ((Int) × (Int))) × (List ((Int) × (Int))) × (List ((Int) × (Int))) × (List ((Int) × (Int)))) => [(false, a61.1), (true, a61.2.1), (false, a61.2.2.1), (false, a61.2.2.2)]))) (fun d47 s46 => (c__law_right_3_b3 s22 table_ entries_ text_6 feed_ d47)) (fun s46 => (c_if (t_tst (h_neI (h_call (c := D.int) (t := fun p : ((List ((Int) × (Int) × (Int)))) × (Int) × (Int) × Unit => t_Table_amount p.1 p.2.1 p.2.2.1) (k_self (h_v (ca := (eI "Table" ["entries"] (fun (p : (List ((Int) × (Int) × (Int)))) => [(eT (e3 D.int D.int D.int)) p])))) (k_rd (h_lit (ca := D.int) (a := -1000000000) (d := D.int (-1000000000)) (fun _ => rfl)) (k_rd (h_lit (ca := D.int) (a := 1000000000) (d := D.int (1000000000)) (fun _ => rfl)) k_nil))) (fun p => c_Table_amount p.1 p.2.1 p.2.2.1) (hn := (fun h => nomatch h))).c (h_maxL (n_cat (EN.as (c' := oL D.int) (n_dsp (cz := fun p : (Int) × Unit => O.lst [D.int p.1]) (ah_cons (h_kst (ca := D.int) (a := 0)) ah_nil) 0) (fun p => [p.1])).h.c (n_lc (ed := (e3 D.int D.int D.int)) (cb := D.int) (C := [some (.mu ((oL D.int) s22.1)), some (.fz ((eI "Table" ["entries"] (fun (p : (List ((Int) × (Int) × (Int)))) => [(eT (e3 D.int D.int D.int)) p])) table_)), some (.fz ((eL (e3 D.int D.int D.int)) entries_)), some (.fz (D.str text_6)), none, none, some (.fz ((eL (e2 D.int D.int)) s22.2)), none, none, none, none, none]) (C1 := fun (d63 : (Int) × (Int) × (Int)) => [some (.mu ((oL D.int) s22.1)), some (.fz ((eI "Table" ["entries"] (fun (p : (List ((Int) × (Int) × (Int)))) => [(eT (e3 D.int D.int D.int)) p])) table_)), some (.fz ((eL (e3 D.int D.int D.int)) entries_)), some (.fz (D.str text_6)), some (.fz ((e3 D.int D.int D.int) d63)), none, some (.fz ((eL (e2 D.int D.int)) s22.2)), none, none, none, none, none]) (i_L (h_v (ca := (eL (e3 D.int D.int D.int))))) (by rfl) (by rfl) (by intro _; rfl) (fun d63 => tp_yes) (fun d63 => (h_ixP (cz := D.int) (h_v (ca := (e3 D.int D.int D.int))).c (fun (p : (Int) × (Int) × (Int)) => p.2.2))) (by intro _; rfl) (by rfl)).h.c).h.c).c)) (c_assoc (c_ret (c := D.bl) (w := fun (a68 : Bool) => (a68, s22.1)) (h_kst (ca := D.bl) (a := false)) (fun _ => ⟨_, rfl, rfl⟩))) (c_nxg (c_ret (c := D.bl) (w := fun (a81 : Bool) => (a81, s22.1)) (h_and (h_eqS (h_repr (h_fld (cb := (eT (e3 D.int D.int D.int))) (h_v (ca := (eI "Table" ["entries"] (fun (p : (List ((Int) × (Int) × (Int)))) => [(eT (e3 D.int D.int D.int)) p])))).c (fun (a69 : (List ((Int) × (Int) × (Int)))) => a69)).c).c (h_repr (h_tupL (h_v (ca := (eL (e3 D.int D.int D.int)))).c).c).c) (h_and (h_eqS (h_strInst (gs := (fun (p : (List ((Int) × (Int) × (Int)))) => [(eT (e3 D.int D.int D.int)) p])) (t := fun (a72 : (List ((Int) × (Int) × (Int)))) => t_Table___str__ a72) (h_v (ca := (eI "Table" ["entries"] (fun (p : (List ((Int) × (Int) × (Int)))) => [(eT (e3 D.int D.int D.int)) p])))) (fun a72 => c_Table___str__ a72)).c (h_v (ca := D.str)).c) (h_own (gs := (fun (p : (List ((Int) × (Int) × (Int)))) => [(eT (e3 D.int D.int D.int)) p])) (t := fun (a75 : (List ((Int) × (Int) × (Int)))) (a76 : (List ((Int) × (Int) × (Int)))) => t_Table___eq__ a75 a76) (h_v (ca := (eI "Table" ["entries"] (fun (p : (List ((Int) × (Int) × (Int)))) => [(eT (e3 D.int D.int D.int)) p])))) (EN.as (c' := (oI "Table" ["entries"] (fun (p : (List ((Int) × (Int) × (Int)))) => [(eT (e3 D.int D.int D.int)) p]))) (n_mkF (c := "Table") (t := fun p : (List ((Int) × (Int) × (Int))) × Unit => t_Table___init__ () p.1) (cz := fun (z74 : (Unit) × ((List ((Int) × (Int) × (Int))))) => (oI "Table" ["entries"] (fun (p : (List ((Int) × (Int) × (Int)))) => [(eT (e3 D.int D.int D.int)) p])) z74.2) (k_rd (h_v (ca := (eL (e3 D.int D.int D.int)))) k_nil) (fun p => c_Table___init__ () p.1)) (fun (z74 : (Unit) × ((List ((Int) × (Int) × (Int))))) => z74.2)).h (fun a75 a76 => c_Table___eq__ a75 a76) (by intro _; rfl)))) (fun _ => ⟨_, rfl, rfl⟩))))) (fun r e h => ⟨e, rfl, h⟩))) (fun r e h => ⟨e, rfl, h⟩)))))))))))
  exact h
/-- read_number -/
noncomputable def t_read_number (word_ : Str) : R (Option (Int)) := ((((slS word_ none (some (1 : Int))).bind fun a1 => R.ok (decide (a1 = ("-" : Str)))).bind fun a2 => (if a2 = true then (slS word_ (some (1 : Int)) none) else (R.ok word_))).bind fun (digits_3 : Str) => (((((lenS digits_3).bind fun a5 => (if (decide ((1 : Int) ≤ a5)) = true then (((strR (1000000000 : Int)).bind fun a4 => (lenS a4)).bind fun a6 => R.ok (decide (a5 ≤ a6))) else R.ok false)).bind fun a7 => R.ok (!a7)).bind fun a12 => (if a12 = true then R.ok true else ((((lcR (signs digits_3) (fun (d8 : Str) => (R.ok true)) (fun d8 => (inSR d8 ("0123456789" : Str)))).bind fun a9 => R.ok (a9.all id)).bind fun a10 => R.ok a10).bind fun a11 => R.ok (!a11)))).bind fun a27 => (if a27 = true then R.ok (none : Option (Int)) else (((((intS word_).bind fun a15 => (strR a15)).bind fun a16 => R.ok (!decide (a16 = word_))).bind fun a19 => (if a19 = true then R.ok true else (((intS word_).bind fun a17 => (if (decide ((-(1000000000 : Int)) ≤ a17)) = true then R.ok (decide (a17 ≤ (1000000000 : Int))) else R.ok false)).bind fun a18 => R.ok (!a18)))).bind fun a26 => (if a26 = true then R.ok (none : Option (Int)) else (((intS word_).bind fun a24 => R.ok (some a24)).bind fun a25 => R.ok a25))))))
theorem c_read_number (word_ : Str) : F0 Mi.f_read_number [.fz (D.str word_)] (t_read_number word_) (fun (r : Option (Int)) => .fz ((eO D.int) r)) := by
  have h : F0 Mi.f_read_number [.fz (D.str word_)] _ (fun (r : Option (Int)) => .fz ((eO D.int) r)) := f_mk0 (n := 3) (m := Mi.m_read_number) (vr := (fun (r : Option (Int)) => .fz ((eO D.int) r))) [some (.fz (D.str word_)), none, none] (c_asg (c := D.str) (fun (digits_3 : Str) => [some (.fz (D.str word_)), some (.fz (D.str digits_3)), none]) (h_if (t_tst (h_eqS (h_slS (h_v (ca := D.str)).c o_none (o_some (h_kst (ca := D.int) (a := 1)).c)).c (h_kst (ca := D.str) (a := "-")).c)) (h_slS (h_v (ca := D.str)).c (o_some (h_kst (ca := D.int) (a := 1)).c) o_none) (h_v (ca := D.str))) (fun digits_3 => (c_if (t_or (t_not (t_tst (h_ch (h_kst (ca := D.int) (a := 1)).c (h_lenS (h_v (ca := D.str)).c).c (h_lenS (h_strI (h_kst (ca := D.int) (a := 1000000000)).c).c).c (fun a b => (decide (a ≤ b))) (fun a b => (decide (a ≤ b))) (fun _ _ => rfl) (fun _ _ => rfl)))) (t_not (t_bl (h_all (n_lc (ed := D.str) (cb := D.bl) (C := [some (.fz (D.str word_)), some (.fz (D.str digits_3)), none]) (C1 := fun (d8 : Str) => [some (.fz (D.str word_)), some (.fz (D.str digits_3)), some (.fz (D.str d8))]) (i_Str (h_v (ca := D.str)).c) (by rfl) (by rfl) (by intro _; rfl) (fun d8 => tp_yes) (fun d8 => (h_inS (h_v (ca := D.str)).c (h_kst (ca := D.str) (a := "0123456789")).c)) (by intro _; rfl) (by rfl)).h.c).c))) (c_assoc (c_ret (c := (eO D.int)) (w := fun (a13 : Option (Int)) => a13) (EH.as (c' := (eO D.int)) (h_kst (ca := eN) (a := ())) (fun (a14 : Unit) => (none : Option (Int)))) (fun _ => ⟨_, rfl, rfl⟩))) (c_nxg (c_if (t_or (t_tst (h_neS (h_strI (h_intS (h_v (ca := D.str)).c).c).c (h_v (ca := D.str)).c)) (t_not (t_tst (h_ch (h_neg (h_kst (ca := D.int) (a := 1000000000)).c).c (h_intS (h_v (ca := D.str)).c).c (h_kst (ca := D.int) (a := 1000000000)).c (fun a b => (decide (a ≤ b))) (fun a b => (decide (a ≤ b))) (fun _ _ => rfl) (fun _ _ => rfl))))) (c_assoc (c_ret (c := (eO D.int)) (w := fun (a20 : Option (Int)) => a20) (EH.as (c' := (eO D.int)) (h_kst (ca := eN) (a := ())) (fun (a21 : Unit) => (none : Option (Int)))) (fun _ => ⟨_, rfl, rfl⟩))) (c_nxg (c_ret (c := (eO D.int)) (w := fun (a22 : Option (Int)) => a22) (EH.as (c' := (eO D.int)) (h_intS (h_v (ca := D.str)).c) (fun (a23 : Int) => (some a23))) (fun _ => ⟨_, rfl, rfl⟩))))))))
  exact h
/-- read_entry -/
noncomputable def t_read_entry (words_ : List (Str)) : R (Option ((Int) × (Int) × (Int))) := (if (!decide ((words_.length : Int) = (3 : Int))) = true then R.ok (none : Option ((Int) × (Int) × (Int))) else (((lcR words_ (fun (d3 : Str) => (R.ok true)) (fun d3 => (t_read_number d3))).bind fun a4 => (unl3 a4)).bind fun (u5 : (Option (Int)) × (Option (Int)) × (Option (Int))) => ((if (PL.isNon ((eO D.int) u5.1)) = true then R.ok true else (if (PL.isNon ((eO D.int) u5.2.1)) = true then R.ok true else (if (PL.isNon ((eO D.int) u5.2.2)) = true then R.ok true else (((unO u5.1).bind fun a6 => ((unO u5.2.1).bind fun a7 => R.ok (decide (a7 ≤ a6)))).bind fun a10 => (if a10 = true then R.ok true else (((unO u5.2.2).bind fun a8 => (if (decide ((0 : Int) ≤ a8)) = true then R.ok (decide (a8 ≤ (1000000 : Int))) else R.ok false)).bind fun a9 => R.ok (!a9))))))).bind fun a21 => (if a21 = true then R.ok (none : Option ((Int) × (Int) × (Int))) else ((unO u5.1).bind fun (a14 : Int) => ((unO u5.2.1).bind fun (a16 : Int) => ((unO u5.2.2).bind fun (a18 : Int) => R.ok (some (a14, a16, a18)))))))))
theorem c_read_entry (words_ : List (Str)) : F0 Mi.f_read_entry [.fz ((eL D.str) words_)] (t_read_entry words_) (fun (r : Option ((Int) × (Int) × (Int))) => .fz ((eO (e3 D.int D.int D.int)) r)) := by
  have h : F0 Mi.f_read_entry [.fz ((eL D.str) words_)] _ (fun (r : Option ((Int) × (Int) × (Int))) => .fz ((eO (e3 D.int D.int D.int)) r)) := f_mk0 (n := 5) (m := Mi.m_read_entry) (vr := (fun (r : Option ((Int) × (Int) × (Int))) => .fz ((eO (e3 D.int D.int D.int)) r))) [some (.fz ((eL D.str) words_)), none, none, none, none] (c_if (t_tst (h_neI (h_lenL (h_v (ca := (eL D.str))).c).c (h_kst (ca := D.int) (a := 3)).c)) (c_assoc (c_ret (c := (eO (e3 D.int D.int D.int))) (w := fun (a1 : Option ((Int) × (Int) × (Int))) => a1) (EH.as (c' := (eO (e3 D.int D.int D.int))) (h_kst (ca := eN) (a := ())) (fun (a2 : Unit) => (none : Option ((Int) × (Int) × (Int))))) (fun _ => ⟨_, rfl, rfl⟩))) (c_nxg (c_asgT (c := (fun t : (Option (Int)) × (Option (Int)) × (Option (Int)) => D.lst [(eO D.int) t.1, (eO D.int) t.2.1, (eO D.int) t.2.2])) (fun (u5 : (Option (Int)) × (Option (Int)) × (Option (Int))) => [some (.fz ((eL D.str) words_)), some (.fz ((eO D.int) u5.1)), some (.fz ((eO D.int) u5.2.1)), some (.fz ((eO D.int) u5.2.2)), none]) (EH.unl3 (n_lc (ed := D.str) (cb := (eO D.int)) (C := [some (.fz ((eL D.str) words_)), none, none, none, none]) (C1 := fun (d3 : Str) => [some (.fz ((eL D.str) words_)), none, none, none, some (.fz (D.str d3))]) (i_L (h_v (ca := (eL D.str)))) (by rfl) (by rfl) (by intro _; rfl) (fun d3 => tp_yes) (fun d3 => (h_call (c := (eO D.int)) (t := fun p : (Str) × Unit => t_read_number p.1) (k_rd (h_v (ca := D.str)) k_nil) (fun p => c_read_number p.1) (hn :=  (fun h => nomatch h)))) (by intro _; rfl) (by rfl)).h) (fun u5 => (c_if (t_or (t_tst (h_is (h_v (ca := (eO D.int))).c (h_kst (ca := eN) (a := ())).c)) (t_or (t_tst (h_is (h_v (ca := (eO D.int))).c (h_kst (ca := eN) (a := ())).c)) (t_or (t_tst (h_is (h_v (ca := (eO D.int))).c (h_kst (ca := eN) (a := ())).c)) (t_or (t_tst (h_ge (h_v (ca := (eO D.int))).un.c (h_v (ca := (eO D.int))).un.c)) (t_not (t_tst (h_ch (h_kst (ca := D.int) (a := 0)).c (h_v (ca := (eO D.int))).un.c (h_kst (ca := D.int) (a := 1000000)).c (fun a b => (decide (a ≤ b))) (fun a b => (decide (a ≤ b))) (fun _ _ => rfl) (fun _ _ => rfl)))))))) (c_assoc (c_ret (c := (eO (e3 D.int D.int D.int))) (w := fun (a11 : Option ((Int) × (Int) × (Int))) => a11) (EH.as (c' := (eO (e3 D.int D.int D.int))) (h_kst (ca := eN) (a := ())) (fun (a12 : Unit) => (none : Option ((Int) × (Int) × (Int))))) (fun _ => ⟨_, rfl, rfl⟩))) (c_nxg (c_nar (fun (o13 : Option (Int)) => [some (.fz ((eL D.str) words_)), some (.fz ((eO D.int) o13)), some (.fz ((eO D.int) u5.2.1)), some (.fz ((eO D.int) u5.2.2)), none]) (fun (a14 : Int) => [some (.fz ((eL D.str) words_)), some (.fz (D.int a14)), some (.fz ((eO D.int) u5.2.1)), some (.fz ((eO D.int) u5.2.2)), none]) (fun a14 => (c_nar (fun (o15 : Option (Int)) => [some (.fz ((eL D.str) words_)), some (.fz (D.int a14)), some (.fz ((eO D.int) o15)), some (.fz ((eO D.int) u5.2.2)), none]) (fun (a16 : Int) => [some (.fz ((eL D.str) words_)), some (.fz (D.int a14)), some (.fz (D.int a16)), some (.fz ((eO D.int) u5.2.2)), none]) (fun a16 => (c_nar (fun (o17 : Option (Int)) => [some (.fz ((eL D.str) words_)), some (.fz (D.int a14)), some (.fz (D.int a16)), some (.fz ((eO D.int) o17)), none]) (fun (a18 : Int) => [some (.fz ((eL D.str) words_)), some (.fz (D.int a14)), some (.fz (D.int a16)), some (.fz (D.int a18)), none]) (fun a18 => (c_ret (c := (eO (e3 D.int D.int D.int))) (w := fun (a19 : Option ((Int) × (Int) × (Int))) => a19) (EH.as (c' := (eO (e3 D.int D.int D.int))) (EH.as (c' := (e3 D.int D.int D.int)) (h_dsp (cz := fun p : (Int) × (Int) × (Int) × Unit => D.tup [D.int p.1, D.int p.2.1, D.int p.2.2.1]) (ah_cons (h_v (ca := D.int)) (ah_cons (h_v (ca := D.int)) (ah_cons (h_v (ca := D.int)) ah_nil))) 0) (fun p => (p.1, p.2.1, p.2.2.1))) (fun (a20 : (Int) × (Int) × (Int)) => (some a20))) (fun _ => ⟨_, rfl, rfl⟩))))))))))))))
  exact h
/-- Table.parse -/
noncomputable def t_Table_parse (cls_ : Unit) (text_ : Str) : R ((List ((Int) × (Int) × (Int)))) := ((R.ok ([] : List ((Int) × (Int) × (Int)))).bind fun (entries_1 : List ((Int) × (Int) × (Int))) => ((((if (!decide (text_ = ("" : Str))) = true then (splitR text_ ("\n" : Str)) else (R.ok ([] : List (Str)))).bind fun a11 => R.ok (enm a11)).bind fun a15 => (loopR (ρ := (List ((Int) × (Int) × (Int)))) (fun (d4 : (Int) × (Str)) (s3 : List ((Int) × (Int) × (Int))) => ((((splitR d4.2 (" " : Str)).bind fun a5 => R.ok (a5, ())).bind fun a6 => (t_read_entry a6.1)).bind fun (entry_7 : Option ((Int) × (Int) × (Int))) => (if (PL.isNon ((eO (e3 D.int D.int D.int)) entry_7)) = true then R.no else ((unO entry_7).bind fun (a9 : (Int) × (Int) × (Int)) => ((appR s3 a9).bind fun (entries_10 : List ((Int) × (Int) × (Int))) => R.ok (Otc.go entries_10)))))) a15 entries_1)).bind fun o16 => o16.to (fun r17 => R.ok r17) (fun (s3 : List ((Int) × (Int) × (Int))) => (((t_Table___init__ () s3).bind fun z12 => R.ok z12.2).bind fun a14 => R.ok a14))))
theorem c_Table_parse_b1 (cls_ : Unit) (text_ : Str) (s3 : List ((Int) × (Int) × (Int))) (d4 : (Int) × (Str)) : CB (sseq (sadj [.fz 5] (sasg 5 (callF [.rd] Mi.f_read_entry (acons (pmt isStr pSplit (rdv 4) (acons (kst (.str " ")) anil)) anil))))
  (sseq (sif (tst (bop gIs (rdv 5) (kst .non))) (sseq (fun _ => RS.no)
  RS.nx) RS.nx)
  (sseq (sexp (mcall 2 gApp (acons (rdv 5) anil)))
  RS.nx))) [some (.fz ((eF "Table") cls_)), some (.fz (D.str text_)), some (.ow ((oL (e3 D.int D.int D.int)) s3)), some (.fz (D.int d4.1)), some (.fz (D.str d4.2)), none] (((((splitR d4.2 (" " : Str)).bind fun a5 => R.ok (a5, ())).bind fun a6 => (t_read_entry a6.1)).bind fun (entry_7 : Option ((Int) × (Int) × (Int))) => (if (PL.isNon ((eO (e3 D.int D.int D.int)) entry_7)) = true then R.no else ((unO entry_7).bind fun (a9 : (Int) × (Int) × (Int)) => ((appR s3 a9).bind fun (entries_10 : List ((Int) × (Int) × (Int))) => R.ok (Otc.go entries_10)))))) (IOut [.no 3, .no 4, .no 5] (fun (sI_2 : List ((Int) × (Int) × (Int))) => [some (.fz ((eF "Table") cls_)), some (.fz (D.str text_)), some (.ow ((oL (e3 D.int D.int D.int)) sI_2)), none, none, none]) (fun (r : (List ((Int) × (Int) × (Int)))) => .fz ((eI "Table" ["entries"] (fun (p : (List ((Int) × (Int) × (Int)))) => [(eT (e3 D.int D.int D.int)) p])) r)) (fun (r : (List ((Int) × (Int) × (Int)))) e => muts [.fz ((eF "Table") cls_), .fz (D.str text_)] e = (fun (_ : (List ((Int) × (Int) × (Int)))) => ([.fz ((eF "Table") cls_), .fz (D.str text_)] : List Sl).map fun _ => none) r)) := by
  have h : CB (sseq (sadj [.fz 5] (sasg 5 (callF [.rd] Mi.f_read_entry (acons (pmt isStr pSplit (rdv 4) (acons (kst (.str " ")) anil)) anil))))
  (sseq (sif (tst (bop gIs (rdv 5) (kst .non))) (sseq (fun _ => RS.no)
  RS.nx) RS.nx)
  (sseq (sexp (mcall 2 gApp (acons (rdv 5) anil)))
  RS.nx))) [some (.fz ((eF "Table") cls_)), some (.fz (D.str text_)), some (.ow ((oL (e3 D.int D.int D.int)) s3)), some (.fz (D.int d4.1)), some (.fz (D.str d4.2)), none] _ (IOut [.no 3, .no 4, .no 5] (fun (sI_2 : List ((Int) × (Int) × (Int))) => [some (.fz ((eF "Table") cls_)), some (.fz (D.str text_)), some (.ow ((oL (e3 D.int D.int D.int)) sI_2)), none, none, none]) (fun (r : (List ((Int) × (Int) × (Int)))) => .fz ((eI "Table" ["entries"] (fun (p : (List ((Int) × (Int) × (Int)))) => [(eT (e3 D.int D.int D.int)) p])) r)) (fun (r : (List ((Int) × (Int) × (Int)))) e => muts [.fz ((eF "Table") cls_), .fz (D.str text_)] e = (fun (_ : (List ((Int) × (Int) × (Int)))) => ([.fz ((eF "Table") cls_), .fz (D.str text_)] : List Sl).map fun _ => none) r)) := (c_asg (c := (eO (e3 D.int D.int D.int))) (fun (entry_7 : Option ((Int) × (Int) × (Int))) => [some (.fz ((eF "Table") cls_)), some (.fz (D.str text_)), some (.ow ((oL (e3 D.int D.int D.int)) s3)), some (.fz (D.int d4.1)), some (.fz (D.str d4.2)), some (.fz ((eO (e3 D.int D.int D.int)) entry_7))]) (h_call (c := (eO (e3 D.int D.int D.int))) (t := fun p : (List (Str)) × Unit => t_read_entry p.1) (k_rd (n_split (h_v (ca := D.str)) (h_kst (ca := D.str) (a := " ")).c).h k_nil) (fun p => c_read_entry p.1) (hn :=  (fun h => nomatch h))) (fun entry_7 => (c_if (t_tst (h_is (h_v (ca := (eO (e3 D.int D.int D.int)))).c (h_kst (ca := eN) (a := ())).c)) (c_assoc c_no) (c_nxg (c_nar (fun (o8 : Option ((Int) × (Int) × (Int))) => [some (.fz ((eF "Table") cls_)), some (.fz (D.str text_)), some (.ow ((oL (e3 D.int D.int D.int)) s3)), some (.fz (D.int d4.1)), some (.fz (D.str d4.2)), some (.fz ((eO (e3 D.int D.int D.int)) o8))]) (fun (a9 : (Int) × (Int) × (Int)) => [some (.fz ((eF "Table") cls_)), some (.fz (D.str text_)), some (.ow ((oL (e3 D.int D.int D.int)) s3)), some (.fz (D.int d4.1)), some (.fz (D.str d4.2)), some (.fz ((e3 D.int D.int D.int) a9))]) (fun a9 => (c_app (c := (e3 D.int D.int D.int)) (l := s3) (fun (entries_10 : List ((Int) × (Int) × (Int))) => [some (.fz ((eF "Table") cls_)), some (.fz (D.str text_)), some (.ow ((oL (e3 D.int D.int D.int)) entries_10)), some (.fz (D.int d4.1)), some (.fz (D.str d4.2)), some (.fz ((e3 D.int D.int D.int) a9))]) (h_v (ca := (e3 D.int D.int D.int))) (fun entries_10 => (c_nx (w := (Otc.go entries_10)) ⟨_, .inl rfl, adjR rfl⟩)))))))))
  exact h
theorem c_Table_parse (cls_ : Unit) (text_ : Str) : F0 Mi.f_Table_parse [.fz ((eF "Table") cls_), .fz (D.str text_)] (t_Table_parse cls_ text_) (fun (r : (List ((Int) × (Int) × (Int)))) => .fz ((eI "Table" ["entries"] (fun (p : (List ((Int) × (Int) × (Int)))) => [(eT (e3 D.int D.int D.int)) p])) r)) := by
  have h : F0 Mi.f_Table_parse [.fz ((eF "Table") cls_), .fz (D.str text_)] _ (fun (r : (List ((Int) × (Int) × (Int)))) => .fz ((eI "Table" ["entries"] (fun (p : (List ((Int) × (Int) × (Int)))) => [(eT (e3 D.int D.int D.int)) p])) r)) := f_mk0 (n := 6) (m := Mi.m_Table_parse) (vr := (fun (r : (List ((Int) × (Int) × (Int)))) => .fz ((eI "Table" ["entries"] (fun (p : (List ((Int) × (Int) × (Int)))) => [(eT (e3 D.int D.int D.int)) p])) r))) [some (.fz ((eF "Table") cls_)), some (.fz (D.str text_)), none, none, none, none] (c_asgN (fun (entries_1 : List ((Int) × (Int) × (Int))) => [some (.fz ((eF "Table") cls_)), some (.fz (D.str text_)), some (.ow ((oL (e3 D.int D.int D.int)) entries_1)), none, none, none]) (EN.as (c' := oL (e3 D.int D.int D.int)) (n_dsp (cz := fun p : Unit => O.lst []) ah_nil 0) (fun p => [])) (fun entries_1 => (c_forO (ed := (e2 D.int D.str)) (s0 := entries_1) (E1 := (fun (d4 : (Int) × (Str)) (s3 : List ((Int) × (Int) × (Int))) => [some (.fz ((eF "Table") cls_)), some (.fz (D.str text_)), some (.ow ((oL (e3 D.int D.int D.int)) s3)), some (.fz (D.int d4.1)), some (.fz (D.str d4.2)), none])) (vr := (fun (r : (List ((Int) × (Int) × (Int)))) => .fz ((eI "Table" ["entries"] (fun (p : (List ((Int) × (Int) × (Int)))) => [(eT (e3 D.int D.int D.int)) p])) r))) (M := (fun (r : (List ((Int) × (Int) × (Int)))) e => muts [.fz ((eF "Table") cls_), .fz (D.str text_)] e = (fun (_ : (List ((Int) × (Int) × (Int)))) => ([.fz ((eF "Table") cls_), .fz (D.str text_)] : List Sl).map fun _ => none) r)) (kr := fun (r17 : (List ((Int) × (Int) × (Int)))) => R.ok r17) (fun (s3 : List ((Int) × (Int) × (Int))) => [some (.fz ((eF "Table") cls_)), some (.fz (D.str text_)), some (.ow ((oL (e3 D.int D.int D.int)) s3)), none, none, none]) (i_enum (n_if (t_tst (h_neS (h_v (ca := D.str)).c (h_kst (ca := D.str) (a := "")).c)) (n_split (h_v (ca := D.str)) (h_kst (ca := D.str) (a := "\n")).c) (EN.as (c' := oL D.str) (n_dsp (cz := fun p : Unit => O.lst []) ah_nil 0) (fun p => []))).h) (fun d4 s3 => (c_Table_parse_b1 cls_ text_ s3 d4)) (fun s3 => (c_pre [some (.fz ((eF "Table") cls_)), some (.fz (D.str text_)), some (.fz ((eL (e3 D.int D.int D.int)) s3)), none, none, none] (c_ret (c := (eI "Table" ["entries"] (fun (p : (List ((Int) × (Int) × (Int)))) => [(eT (e3 D.int D.int D.int)) p]))) (w := fun (a13 : (List ((Int) × (Int) × (Int)))) => a13) (EN.as (c' := (oI "Table" ["entries"] (fun (p : (List ((Int) × (Int) × (Int)))) => [(eT (e3 D.int D.int D.int)) p]))) (n_mkL (j := 0) (c := "Table") (t := fun p : (List ((Int) × (Int) × (Int))) × Unit => t_Table___init__ () p.1) (cz := fun (z12 : (Unit) × ((List ((Int) × (Int) × (Int))))) => (oI "Table" ["entries"] (fun (p : (List ((Int) × (Int) × (Int)))) => [(eT (e3 D.int D.int D.int)) p])) z12.2) (k_rd (h_v (ca := (eL (e3 D.int D.int D.int)))) k_nil) (fun p => c_Table___init__ () p.1)) (fun (z12 : (Unit) × ((List ((Int) × (Int) × (Int))))) => z12.2)).h (fun _ => ⟨_, rfl, rfl⟩)))) (fun r e h => ⟨e, rfl, h⟩))))
  exact h
/-- _law_entries -/
noncomputable def t__law_entries_2 (feed_ : List (Int)) (most_ : Int) : R ((List ((Int) × (Int) × (Int))) × (List (Int))) := ((R.ok ([] : List ((Int) × (Int) × (Int)))).bind fun (found_1 : List ((Int) × (Int) × (Int))) => (((((t__law_take feed_ (7 : Int)).bind fun q55 => R.ok (q55.1, q55.2)).bind fun a56 => R.ok ((a56.1, ()), a56.2)).bind fun a57 => (rngR 0 a57.1.1).bind fun z58 => R.ok (z58, a57.2)).bind fun a59 => (fun (a59l : List (Int)) (s2 : List (Int)) => (foldR (fun (d8 : Int) (s7 : (List (Int)) × (List ((Int) × (Int) × (Int)))) => (((t__law_interval s7.1 most_).bind fun q9 => R.ok (q9.1, q9.2)).bind fun q12 => (fun (u10 : (Int) × (Int)) (s11 : List (Int)) => (((((neR ((eL (e3 D.int D.int D.int)) s7.2) ((eL (e3 D.int D.int D.int)) ([] : List ((Int) × (Int) × (Int))))).bind fun a13 => R.ok (a13, s11)).bind fun a14 => (if a14.1 = true then (((t__law_take a14.2 (4 : Int)).bind fun q15 => R.ok (q15.1, q15.2)).bind fun a16 => R.ok ((decide (a16.1 = (0 : Int))), a16.2)) else R.ok (false, a14.2))).bind fun q18 => if q18.1 = true then (fun (s17 : List (Int)) => (((((((ixR s7.2 (-1 : Int)).bind fun a25 => R.ok [a25.1, a25.2.1, a25.2.2]).bind fun a26 => R.ok (cut a26 none (some (2 : Int))))).bind unl2).bind fun (u27 : (Int) × (Int)) => R.ok (s17, u27.1, u27.2)) : R ((List (Int)) × (Int) × (Int)))) q18.2 else (fun (s17 : List (Int)) => (R.ok (s17, u10.1, u10.2) : R ((List (Int)) × (Int) × (Int)))) q18.2).bind fun (s23 : (List (Int)) × (Int) × (Int)) => ((((((((((((((((t__law_take s23.1 (50 : Int)).bind fun q38 => R.ok (q38.1, q38.2)).bind fun a39 => R.ok ((a39.1, ()), a39.2)).bind fun a40 => R.ok (((1000000 : Int), a40.1), a40.2)).bind fun a41 => R.ok (((5 : Int), a41.1), a41.2)).bind fun a42 => R.ok (((2 : Int), a42.1), a42.2)).bind fun a43 => R.ok (((1 : Int), a43.1), a43.2)).bind fun a44 => R.ok (((0 : Int), a44.1), a44.2)).bind fun a45 => R.ok ([a45.1.1, a45.1.2.1, a45.1.2.2.1, a45.1.2.2.2.1, a45.1.2.2.2.2.1, a45.1.2.2.2.2.2.1], a45.2)).bind fun a46 => R.ok ((a46.1, ()), a46.2)).bind fun a47 => ((t__law_pick a47.2 a47.1.1).bind fun q48 => R.ok (q48.1, q48.2))).bind fun a49 => R.ok ((a49.1, ()), a49.2)).bind fun a50 => R.ok ((s23.2.2, a50.1), a50.2)).bind fun a51 => R.ok ((s23.2.1, a51.1), a51.2)).bind fun a52 => R.ok ((a52.1.1, a52.1.2.1, a52.1.2.2.1), a52.2)).bind fun q54 => (appR ((fun (s53 : List (Int)) => s7.2) q54.2) q54.1).bind fun (found_28 : List ((Int) × (Int) × (Int))) => (fun (s53 : List (Int)) => R.ok (s53, found_28)) q54.2))) q12.1 q12.2)) a59l (s2, found_1)).bind fun (s7 : (List (Int)) × (List ((Int) × (Int) × (Int)))) => R.ok (s7.2, s7.1)) a59.1 a59.2))
theorem c__law_entries_b1 (most_ : Int) (s7 : (List (Int)) × (List ((Int) × (Int) × (Int)))) (d8 : Int) : CB (sseq (sasgT (tgTup (tgCons (bindD 4) (tgCons (bindD 5) tgNil))) (callF [.mt, .rd] Mi.f__law_interval (acons (rdv 0) (acons (rdv 1) anil))))
  (sseq (sif (tand (tst (bop gNe (rdv 2) (dsp (fun ds => .new (.lst ds)) anil))) (tst (bop gEq (callF [.mt, .rd] Mi.f__law_take (acons (rdv 0) (acons (kst (.int 4)) anil))) (kst (.int 0))))) (sadj [] (sseq (sasgT (tgTup (tgCons (bindD 4) (tgCons (bindD 5) tgNil))) (vsl (bop gIx (rdv 2) (uop gNeg (kst (.int 1)))) onone (osome (kst (.int 2)))))
  RS.nx)) (sadj [] RS.nx))
  (sseq (sexp (mcall 2 gApp (acons (dsp (fun ds => .val (.tup ds)) (acons (rdv 4) (acons (rdv 5) (acons (callF [.mt, .rd] Mi.f__law_pick (acons (rdv 0) (acons (dsp (fun ds => .new (.lst ds)) (acons (kst (.int 0)) (acons (kst (.int 1)) (acons (kst (.int 2)) (acons (kst (.int 5)) (acons (bop gPow (kst (.int 10)) (kst (.int 6))) (acons (callF [.mt, .rd] Mi.f__law_take (acons (rdv 0) (acons (kst (.int 50)) anil))) anil))))))) anil))) anil)))) anil)))
  RS.nx))) [some (.mu ((oL D.int) s7.1)), some (.fz (D.int most_)), some (.ow ((oL (e3 D.int D.int D.int)) s7.2)), some (.fz (D.int d8)), none, none] ((((t__law_interval s7.1 most_).bind fun q9 => R.ok (q9.1, q9.2)).bind fun q12 => (fun (u10 : (Int) × (Int)) (s11 : List (Int)) => (((((neR ((eL (e3 D.int D.int D.int)) s7.2) ((eL (e3 D.int D.int D.int)) ([] : List ((Int) × (Int) × (Int))))).bind fun a13 => R.ok (a13, s11)).bind fun a14 => (if a14.1 = true then (((t__law_take a14.2 (4 : Int)).bind fun q15 => R.ok (q15.1, q15.2)).bind fun a16 => R.ok ((decide (a16.1 = (0 : Int))), a16.2)) else R.ok (false, a14.2))).bind fun q18 => if q18.1 = true then (fun (s17 : List (Int)) => (((((((ixR s7.2 (-1 : Int)).bind fun a25 => R.ok [a25.1, a25.2.1, a25.2.2]).bind fun a26 => R.ok (cut a26 none (some (2 : Int))))).bind unl2).bind fun (u27 : (Int) × (Int)) => R.ok (s17, u27.1, u27.2)) : R ((List (Int)) × (Int) × (Int)))) q18.2 else (fun (s17 : List (Int)) => (R.ok (s17, u10.1, u10.2) : R ((List (Int)) × (Int) × (Int)))) q18.2).bind fun (s23 : (List (Int)) × (Int) × (Int)) => ((((((((((((((((t__law_take s23.1 (50 : Int)).bind fun q38 => R.ok (q38.1, q38.2)).bind fun a39 => R.ok ((a39.1, ()), a39.2)).bind fun a40 => R.ok (((1000000 : Int), a40.1), a40.2)).bind fun a41 => R.ok (((5 : Int), a41.1), a41.2)).bind fun a42 => R.ok (((2 : Int), a42.1), a42.2)).bind fun a43 => R.ok (((1 : Int), a43.1), a43.2)).bind fun a44 => R.ok (((0 : Int), a44.1), a44.2)).bind fun a45 => R.ok ([a45.1.1, a45.1.2.1, a45.1.2.2.1, a45.1.2.2.2.1, a45.1.2.2.2.2.1, a45.1.2.2.2.2.2.1], a45.2)).bind fun a46 => R.ok ((a46.1, ()), a46.2)).bind fun a47 => ((t__law_pick a47.2 a47.1.1).bind fun q48 => R.ok (q48.1, q48.2))).bind fun a49 => R.ok ((a49.1, ()), a49.2)).bind fun a50 => R.ok ((s23.2.2, a50.1), a50.2)).bind fun a51 => R.ok ((s23.2.1, a51.1), a51.2)).bind fun a52 => R.ok ((a52.1.1, a52.1.2.1, a52.1.2.2.1), a52.2)).bind fun q54 => (appR ((fun (s53 : List (Int)) => s7.2) q54.2) q54.1).bind fun (found_28 : List ((Int) × (Int) × (Int))) => (fun (s53 : List (Int)) => R.ok (s53, found_28)) q54.2))) q12.1 q12.2)) (ILp [.no 3, .no 4, .no 5] (fun (sI_2 : (List (Int)) × (List ((Int) × (Int) × (Int)))) => [some (.mu ((oL D.int) sI_2.1)), some (.fz (D.int most_)), some (.ow ((oL (e3 D.int D.int D.int)) sI_2.2)), none, none, none])) := by
  have h : CB (sseq (sasgT (tgTup (tgCons (bindD 4) (tgCons (bindD 5) tgNil))) (callF [.mt, .rd] Mi.f__law_interval (acons (rdv 0) (acons (rdv 1) anil))))
  (sseq (sif (tand (tst (bop gNe (rdv 2) (dsp (fun ds => .new (.lst ds)) anil))) (tst (bop gEq (callF [.mt, .rd] Mi.f__law_take (acons (rdv 0) (acons (kst (.int 4)) anil))) (kst (.int 0))))) (sadj [] (sseq (sasgT (tgTup (tgCons (bindD 4) (tgCons (bindD 5) tgNil))) (vsl (bop gIx (rdv 2) (uop gNeg (kst (.int 1)))) onone (osome (kst (.int 2)))))
  RS.nx)) (sadj [] RS.nx))
  (sseq (sexp (mcall 2 gApp (acons (dsp (fun ds => .val (.tup ds)) (acons (rdv 4) (acons (rdv 5) (acons (callF [.mt, .rd] Mi.f__law_pick (acons (rdv 0) (acons (dsp (fun ds => .new (.lst ds)) (acons (kst (.int 0)) (acons (kst (.int 1)) (acons (kst (.int 2)) (acons (kst (.int 5)) (acons (bop gPow (kst (.int 10)) (kst (.int 6))) (acons (callF [.mt, .rd] Mi.f__law_take (acons (rdv 0) (acons (kst (.int 50)) anil))) anil))))))) anil))) anil)))) anil)))
  RS.nx))) [some (.mu ((oL D.int) s7.1)), some (.fz (D.int most_)), some (.ow ((oL (e3 D.int D.int D.int)) s7.2)), some (.fz (D.int d8)), none, none] _ (ILp [.no 3, .no 4, .no 5] (fun (sI_2 : (List (Int)) × (List ((Int) × (Int) × (Int)))) => [some (.mu ((oL D.int) sI_2.1)), some (.fz (D.int most_)), some (.ow ((oL (e3 D.int D.int D.int)) sI_2.2)), none, none, none])) := (c_asgTM (E := (fun (s11 : List (Int)) => [some (.mu ((oL D.int) s11)), some (.fz (D.int most_)), some (.ow ((oL (e3 D.int D.int D.int)) s7.2)), some (.fz (D.int d8)), none, none])) (s := s7.1) (c := (e2 D.int D.int)) (fun (u10 : (Int) × (Int)) (s11 : List (Int)) => [some (.mu ((oL D.int) s11)), some (.fz (D.int most_)), some (.ow ((oL (e3 D.int D.int D.int)) s7.2)), some (.fz (D.int d8)), some (.fz (D.int u10.1)), some (.fz (D.int u10.2))]) (hm_call (c := (e2 D.int D.int)) (t := fun (p : (Int) × Unit) (s : List (Int)) => t__law_interval s p.1) (km_mt (om := fun s => (oL D.int) s) (by intro _; rfl) (km_rd (h_v (ca := D.int)).m (fun _ => km_nil))) (fun s m => m) (fun p s => c__law_interval s p.1)) (fun u10 s11 => (c_ifJM (E := fun (s17 : List (Int)) => [some (.mu ((oL D.int) s17)), some (.fz (D.int most_)), some (.ow ((oL (e3 D.int D.int D.int)) s7.2)), some (.fz (D.int d8)), some (.fz (D.int u10.1)), some (.fz (D.int u10.2))]) (s := s11) (fun (s23 : (List (Int)) × (Int) × (Int)) => [some (.mu ((oL D.int) s23.1)), some (.fz (D.int most_)), some (.ow ((oL (e3 D.int D.int D.int)) s7.2)), some (.fz (D.int d8)), some (.fz (D.int s23.2.1)), some (.fz (D.int s23.2.2))]) (tm_and (t_tst (h_ne (c_o (ca := (eL (e3 D.int D.int D.int)))) (EN.as (c' := oL (e3 D.int D.int D.int)) (n_dsp (cz := fun p : Unit => O.lst []) ah_nil 0) (fun p => [])).h.c (fun a b => by rfl))).m (fun _ => (tm_tst (hm_eqI (hm_call (c := D.int) (t := fun (p : (Int) × Unit) (s : List (Int)) => t__law_take s p.1) (km_mt (om := fun s => (oL D.int) s) (by intro _; rfl) (km_rd (h_kst (ca := D.int) (a := 4)).m (fun _ => km_nil))) (fun s m => m) (fun p s => c__law_take s p.1)) (fun _ => (h_kst (ca := D.int) (a := 0)).m.c))))) (fun s17 => (c_asgT (c := (e2 D.int D.int)) (fun (u27 : (Int) × (Int)) => [some (.mu ((oL D.int) s17)), some (.fz (D.int most_)), some (.ow ((oL (e3 D.int D.int D.int)) s7.2)), some (.fz (D.int d8)), some (.fz (D.int u27.1)), some (.fz (D.int u27.2))]) (EH.unT2 (e := D.int) (h_slT (EH.as (c' := (eT D.int)) (h_ixL (c_o (ca := (eL (e3 D.int D.int D.int)))) (h_lit (ca := D.int) (a := -1) (d := D.int (-1)) (fun _ => rfl)).c) (fun (a24 : (Int) × (Int) × (Int)) => [a24.1, a24.2.1, a24.2.2])).c o_none (o_some (h_kst (ca := D.int) (a := 2)).c))) (fun u27 => (c_nx (w := (s17, u27.1, u27.2)) ⟨_, rfl, adjR rfl⟩)))) (fun s17 => (c_nx (w := (s17, u10.1, u10.2)) ⟨_, rfl, adjR rfl⟩)) (fun s23 => (c_appM (E := (fun (s53 : List (Int)) => [some (.mu ((oL D.int) s53)), some (.fz (D.int most_)), some (.ow ((oL (e3 D.int D.int D.int)) s7.2)), some (.fz (D.int d8)), some (.fz (D.int s23.2.1)), some (.fz (D.int s23.2.2))])) (s := s23.1) (c := (e3 D.int D.int D.int)) (ls := fun (s53 : List (Int)) => s7.2) (fun (found_28 : List ((Int) × (Int) × (Int))) (s53 : List (Int)) => [some (.mu ((oL D.int) s53)), some (.fz (D.int most_)), some (.ow ((oL (e3 D.int D.int D.int)) found_28)), some (.fz (D.int d8)), some (.fz (D.int s23.2.1)), some (.fz (D.int s23.2.2))]) (EHM.as (c' := (e3 D.int D.int D.int)) (hm_dsp (cz := fun p : (Int) × (Int) × (Int) × Unit => D.tup [D.int p.1, D.int p.2.1, D.int p.2.2.1]) (ahm_cons (h_v (ca := D.int)).m (fun _ => (ahm_cons (h_v (ca := D.int)).m (fun _ => (ahm_cons (hm_call (c := D.int) (t := fun (p : (List (Int)) × Unit) (s : List (Int)) => t__law_pick s p.1) (km_mt (om := fun s => (oL D.int) s) (by intro _; rfl) (km_rd (ENM.as (c' := oL D.int) (nm_dsp (cz := fun p : (Int) × (Int) × (Int) × (Int) × (Int) × (Int) × Unit => O.lst [D.int p.1, D.int p.2.1, D.int p.2.2.1, D.int p.2.2.2.1, D.int p.2.2.2.2.1, D.int p.2.2.2.2.2.1]) (ahm_cons (h_kst (ca := D.int) (a := 0)).m (fun _ => (ahm_cons (h_kst (ca := D.int) (a := 1)).m (fun _ => (ahm_cons (h_kst (ca := D.int) (a := 2)).m (fun _ => (ahm_cons (h_kst (ca := D.int) (a := 5)).m (fun _ => (ahm_cons (h_lit (ca := D.int) (a := 1000000) (d := D.int (1000000)) (fun _ => rfl)).m (fun _ => (ahm_cons (hm_call (c := D.int) (t := fun (p : (Int) × Unit) (s : List (Int)) => t__law_take s p.1) (km_mt (om := fun s => (oL D.int) s) (by intro _; rfl) (km_rd (h_kst (ca := D.int) (a := 50)).m (fun _ => km_nil))) (fun s m => m) (fun p s => c__law_take s p.1)) (fun _ => ahm_nil)))))))))))) 0) (fun p => [p.1, p.2.1, p.2.2.1, p.2.2.2.1, p.2.2.2.2.1, p.2.2.2.2.2.1])).h (fun _ => km_nil))) (fun s m => m) (fun p s => c__law_pick s p.1)) (fun _ => ahm_nil)))))) 0) (fun p => (p.1, p.2.1, p.2.2.1))) (fun found_28 s53 => (c_nx (w := (s53, found_28)) ⟨_, .inl rfl, adjR rfl⟩)))))))
  exact h
theorem c__law_entries (feed_ : List (Int)) (most_ : Int) : F1 Mi.f__law_entries [.mu ((oL D.int) feed_), .fz (D.int most_)] (t__law_entries_2 feed_ most_) (fun (r : (List ((Int) × (Int) × (Int))) × (List (Int))) => .ow ((oL (e3 D.int D.int D.int)) r.1)) (fun (r : (List ((Int) × (Int) × (Int))) × (List (Int))) => [some ((oL D.int) r.2), none]) := by
  have h : F1 Mi.f__law_entries [.mu ((oL D.int) feed_), .fz (D.int most_)] _ (fun (r : (List ((Int) × (Int) × (Int))) × (List (Int))) => .ow ((oL (e3 D.int D.int D.int)) r.1)) (fun (r : (List ((Int) × (Int) × (Int))) × (List (Int))) => [some ((oL D.int) r.2), none]) := f_mk (n := 6) (m := Mi.m__law_entries) (vr := (fun (r : (List ((Int) × (Int) × (Int))) × (List (Int))) => .ow ((oL (e3 D.int D.int D.int)) r.1))) (mr := (fun (r : (List ((Int) × (Int) × (Int))) × (List (Int))) => [some ((oL D.int) r.2), none])) [some (.mu ((oL D.int) feed_)), some (.fz (D.int most_)), none, none, none, none] (c_asgN (fun (found_1 : List ((Int) × (Int) × (Int))) => [some (.mu ((oL D.int) feed_)), some (.fz (D.int most_)), some (.ow ((oL (e3 D.int D.int D.int)) found_1)), none, none, none]) (EN.as (c' := oL (e3 D.int D.int D.int)) (n_dsp (cz := fun p : Unit => O.lst []) ah_nil 0) (fun p => [])) (fun found_1 => (c_forI (ed := D.int) (E := (fun (s2 : List (Int)) => [some (.mu ((oL D.int) s2)), some (.fz (D.int most_)), some (.ow ((oL (e3 D.int D.int D.int)) found_1)), none, none, none])) (s := feed_) (E1 := (fun (s2 : List (Int)) (d8 : Int) (s7 : (List (Int)) × (List ((Int) × (Int) × (Int)))) => [some (.mu ((oL D.int) s7.1)), some (.fz (D.int most_)), some (.ow ((oL (e3 D.int D.int D.int)) s7.2)), some (.fz (D.int d8)), none, none])) (fun (s2 : List (Int)) (s7 : (List (Int)) × (List ((Int) × (Int) × (Int)))) => [some (.mu ((oL D.int) s7.1)), some (.fz (D.int most_)), some (.ow ((oL (e3 D.int D.int D.int)) s7.2)), none, none, none]) (fun (s2 : List (Int)) => (s2, found_1)) (im_r1 (ahm_cons (hm_call (c := D.int) (t := fun (p : (Int) × Unit) (s : List (Int)) => t__law_take s p.1) (km_mt (om := fun s => (oL D.int) s) (by intro _; rfl) (km_rd (h_kst (ca := D.int) (a := 7)).m (fun _ => km_nil))) (fun s m => m) (fun p s => c__law_take s p.1)) (fun _ => ahm_nil))) (by intro _; rfl) (fun s2 d8 s7 => (c__law_entries_b1 most_ s7 d8)) (fun s2 s7 => (c_retO (o := (oL (e3 D.int D.int D.int)) s7.2) (w := (s7.2, s7.1)) [some (.mu ((oL D.int) s7.1)), some (.fz (D.int most_)), none, none, none, none] (hI := ⟨_, rfl, rfl⟩))))))
  exact h
/-- Table.__init__ -/
theorem c_Table___init___2 (self_ : Unit) (entries_ : List ((Int) × (Int) × (Int))) : F1 Mi.f_Table___init__ [.mu ((oI "Table" [] (fun (p : Unit) => [])) self_), .fz ((eT (e3 D.int D.int D.int)) entries_)] (t_Table___init__ self_ entries_) (fun (r : (Unit) × ((List ((Int) × (Int) × (Int))))) => .fz (eN r.1)) (fun (r : (Unit) × ((List ((Int) × (Int) × (Int))))) => [some ((oI "Table" ["entries"] (fun (p : (List ((Int) × (Int) × (Int)))) => [(eT (e3 D.int D.int D.int)) p])) r.2), none]) := by
  have h : F1 Mi.f_Table___init__ [.mu ((oI "Table" [] (fun (p : Unit) => [])) self_), .fz ((eT (e3 D.int D.int D.int)) entries_)] _ (fun (r : (Unit) × ((List ((Int) × (Int) × (Int))))) => .fz (eN r.1)) (fun (r : (Unit) × ((List ((Int) × (Int) × (Int))))) => [some ((oI "Table" ["entries"] (fun (p : (List ((Int) × (Int) × (Int)))) => [(eT (e3 D.int D.int D.int)) p])) r.2), none]) := f_mkn (n := 3) (m := Mi.m_Table___init__) (vr := (fun (r : (Unit) × ((List ((Int) × (Int) × (Int))))) => .fz (eN r.1))) (mr := (fun (r : (Unit) × ((List ((Int) × (Int) × (Int))))) => [some ((oI "Table" ["entries"] (fun (p : (List ((Int) × (Int) × (Int)))) => [(eT (e3 D.int D.int D.int)) p])) r.2), none])) [some (.mu ((oI "Table" [] (fun (p : Unit) => [])) self_)), some (.fz ((eT (e3 D.int D.int D.int)) entries_)), none] (c_fld (ca := (eT (e3 D.int D.int D.int))) (fun (entries_3 : List ((Int) × (Int) × (Int))) => [some (.mu ((oI "Table" ["entries"] (fun (p : (List ((Int) × (Int) × (Int)))) => [(eT (e3 D.int D.int D.int)) p])) entries_3)), some (.fz ((eT (e3 D.int D.int D.int)) entries_)), none]) (h_tupL (n_lc (ed := (e3 D.int D.int D.int)) (cb := (e3 D.int D.int D.int)) (C := [some (.mu ((oI "Table" [] (fun (p : Unit) => [])) self_)), some (.fz ((eT (e3 D.int D.int D.int)) entries_)), none]) (C1 := fun (d1 : (Int) × (Int) × (Int)) => [some (.mu ((oI "Table" [] (fun (p : Unit) => [])) self_)), some (.fz ((eT (e3 D.int D.int D.int)) entries_)), some (.fz ((e3 D.int D.int D.int) d1))]) (i_T (h_v (ca := (eT (e3 D.int D.int D.int))))) (by rfl) (by rfl) (by intro _; rfl) (fun d1 => tp_yes) (fun d1 => (h_tupP (c := (e3 D.int D.int D.int)) (h_v (ca := (e3 D.int D.int D.int))).c)) (by intro _; rfl) (by rfl)).h.c) (fun entries_3 => (c_nx (w := ((), entries_3)) ⟨_, .inr ⟨rfl, rfl⟩, rfl⟩)))
  exact h
/-- Table.__eq__ -/
noncomputable def t_Table___eq___2 (self_ : (List ((Int) × (Int) × (Int)))) (other_ : D) : R (Bool) := (((isiR "Table" other_).bind fun a3 => (if a3 = true then ((fldR "Table" "entries" other_).bind fun a2 => (eqR ((eT (e3 D.int D.int D.int)) self_) (eD a2))) else R.ok false)).bind fun a5 => R.ok a5)
theorem c_Table___eq___2 (self_ : (List ((Int) × (Int) × (Int)))) (other_ : D) : F0 Mi.f_Table___eq__ [.fz ((eI "Table" ["entries"] (fun (p : (List ((Int) × (Int) × (Int)))) => [(eT (e3 D.int D.int D.int)) p])) self_), .fz (eD other_)] (t_Table___eq___2 self_ other_) (fun (r : Bool) => .fz (D.bl r)) := by
  have h : F0 Mi.f_Table___eq__ [.fz ((eI "Table" ["entries"] (fun (p : (List ((Int) × (Int) × (Int)))) => [(eT (e3 D.int D.int D.int)) p])) self_), .fz (eD other_)] _ (fun (r : Bool) => .fz (D.bl r)) := f_mk0 (n := 2) (m := Mi.m_Table___eq__) (vr := (fun (r : Bool) => .fz (D.bl r))) [some (.fz ((eI "Table" ["entries"] (fun (p : (List ((Int) × (Int) × (Int)))) => [(eT (e3 D.int D.int D.int)) p])) self_)), some (.fz (eD other_))] (c_ret (c := D.bl) (w := fun (a4 : Bool) => a4) (h_and (h_isiCD (h_v (ca := eD)).c) (h_eq (h_fld (cb := (eT (e3 D.int D.int D.int))) (h_v (ca := (eI "Table" ["entries"] (fun (p : (List ((Int) × (Int) × (Int)))) => [(eT (e3 D.int D.int D.int)) p])))).c (fun (a1 : (List ((Int) × (Int) × (Int)))) => a1)).c (h_fldD (h_v (ca := eD)).c).c (fun a b => by rfl))) (fun _ => ⟨_, rfl, rfl⟩))
  exact h
/-- law -/
noncomputable def t_law_11 (script_ : List Int) : R (Bool) := (((rngR 0 (max (2 : Int) (min (5 : Int) (script_.length : Int)))).bind fun a150 => (loopR (ρ := Bool) (fun (d2 : Int) (s1 : Unit) => ((t__law_feed script_ d2).bind fun (feed_3 : List (Int)) => (((t__law_many feed_3).bind fun q147 => R.ok (q147.1, q147.2)).bind fun a148 => ((fun (made_4 : List ((List ((Int) × (Int) × (Int))))) (many_5 : List ((Int) × (Int) × (Int))) (s6 : List (Int)) => ((((((((t_Table___init__ () many_5).bind fun z12 => R.ok z12.2).bind fun a13 => R.ok (a13, s6)).bind fun a14 => R.ok ((a14.1, (many_5, ())), a14.2)).bind fun a15 => ((t__law_right_3 a15.2 a15.1.1 a15.1.2.1).bind fun q16 => R.ok (q16.1, q16.2))).bind fun a17 => R.ok (!a17.1, a17.2)).bind fun a18 => (if a18.1 = true then R.ok (true, a18.2) else ((((((((((t_Table___init__ () many_5).bind fun z19 => R.ok z19.2).bind fun a21 => (t_Table___str__ a21)).bind fun a22 => R.ok (a22, ())).bind fun a23 => R.ok ((), a23)).bind fun a24 => (t_Table_parse a24.1 a24.2.1)).bind fun a29 => (((t_Table___init__ () many_5).bind fun z25 => R.ok z25.2).bind fun a30 => R.ok (a29, a30))).bind fun a28 => t_Table___eq__ a28.1 a28.2).bind fun z31 => R.ok (!z31)).bind fun a32 => R.ok (a32, a18.2)))).bind fun q34 => if q34.1 = true then (fun (s33 : List (Int)) => R.ok (Otc.rt false)) q34.2 else (fun (s33 : List (Int)) => (((rngR 0 (4 : Int)).bind fun a144 => (loopR (ρ := Bool) (fun (d37 : Int) (s36 : (List (Int)) × (List ((List ((Int) × (Int) × (Int)))))) => (((t__law_entries_2 s36.1 (10 : Int)).bind fun q38 => R.ok (q38.1, q38.2)).bind fun q41 => (fun (entries_39 : List ((Int) × (Int) × (Int))) (s40 : List (Int)) => ((R.ok entries_39).bind fun (mine_42 : List ((Int) × (Int) × (Int))) => (((((t_Table___init__ () mine_42).bind fun z43 => R.ok z43.2).bind fun a54 => ((((t_Table___init__ () entries_39).bind fun z44 => R.ok z44.2).bind fun a52 => ((((((((t_Table___init__ () entries_39).bind fun z45 => R.ok z45.2).bind fun a47 => (t_Table___str__ a47)).bind fun a48 => R.ok (a48, ())).bind fun a49 => R.ok ((), a49)).bind fun a50 => (t_Table_parse a50.1 a50.2.1)).bind fun a51 => R.ok (a51, ())).bind fun a53 => R.ok (a52, a53))).bind fun a55 => R.ok (a54, a55))).bind fun a56 => R.ok [a56.1, a56.2.1, a56.2.2.1]).bind fun (some_57 : List ((List ((Int) × (Int) × (Int))))) => ((appR mine_42 ((0 : Int), (1 : Int), (99 : Int))).bind fun (mine_58 : List ((Int) × (Int) × (Int))) => ((loopR (ρ := Bool) (fun (d60 : (List ((Int) × (Int) × (Int)))) (s59 : List (Int)) => (((((t__law_right_3 s59 d60 entries_39).bind fun q61 => R.ok (q61.1, q61.2)).bind fun a62 => R.ok (!a62.1, a62.2)).bind fun a63 => (if a63.1 = true then R.ok (true, a63.2) else (((((ixR some_57 (0 : Int)).bind fun a67 => R.ok (d60, a67)).bind fun a66 => t_Table___eq__ a66.1 a66.2).bind fun z68 => R.ok (!z68)).bind fun a69 => R.ok (a69, a63.2)))).bind fun q71 => if q71.1 = true then (fun (s70 : List (Int)) => R.ok (Otc.rt false)) q71.2 else (fun (s70 : List (Int)) => R.ok (Otc.go s70)) q71.2)) some_57 s40).bind fun o82 => o82.to (fun r83 => R.ok (Otc.rt r83)) (fun (s59 : List (Int)) => (((catR s36.2 some_57).bind fun a79 => (((((t_Table___init__ () (entries_39.reverse)).bind fun z73 => R.ok z73.2).bind fun a76 => ((((t_Table___init__ () (cut entries_39 (some (1 : Int)) none)).bind fun z74 => R.ok z74.2).bind fun a75 => R.ok (a75, ())).bind fun a77 => R.ok (a76, a77))).bind fun a78 => R.ok [a78.1, a78.2.1]).bind fun a80 => (catR a79 a80))).bind fun (made_81 : List ((List ((Int) × (Int) × (Int))))) => R.ok (Otc.go (s59, made_81))))))))) q41.1 q41.2)) a144 (s33, made_4))).bind fun o145 => o145.to (fun r146 => R.ok (Otc.rt r146)) (fun (s36 : (List (Int)) × (List ((List ((Int) × (Int) × (Int)))))) => ((loopR (ρ := Bool) (fun (d85 : (List ((Int) × (Int) × (Int)))) (s84 : Unit) => ((loopR (ρ := Bool) (fun (d87 : (List ((Int) × (Int) × (Int)))) (s86 : Unit) => (((t_Table___str__ d85).bind fun a90 => ((t_Table___str__ d87).bind fun a91 => R.ok (decide (a90 = a91)))).bind fun (same_92 : Bool) => ((((t_Table___eq__ d85 d87).bind fun a95 => (neR (D.bl a95) (D.bl same_92))).bind fun a100 => (if a100 = true then R.ok true else (((t_Table___eq__ d85 d87).bind fun z98 => R.ok (!z98)).bind fun a99 => (eqR (D.bl a99) (D.bl same_92))))).bind fun a102 => (if a102 = true then R.ok (Otc.rt false) else R.ok (Otc.go ()))))) s36.2 ()).bind fun o140 => o140.to (fun r141 => R.ok (Otc.rt r141)) (fun (s86 : Unit) => (((((((t_Table___str__ d85).bind fun a130 => R.ok (D.str a130)).bind fun a134 => R.ok (a134, ((eN ()), ((D.int (0 : Int)), (((eL (e3 D.int D.int D.int)) ([] : List ((Int) × (Int) × (Int)))), ()))))).bind fun a135 => R.ok (((eT (e3 D.int D.int D.int)) d85), a135)).bind fun a136 => R.ok [a136.1, a136.2.1, a136.2.2.1, a136.2.2.2.1, a136.2.2.2.2.1]).bind fun a137 => (loopR (ρ := Bool) (fun (d115 : D) (s114 : Unit) => ((((okR "Table" d115 (t_Table___eq___2 d85 d115)).bind fun z118 => R.ok (if false = true then !z118 else z118)).bind fun a123 => (if a123 = true then R.ok true else (((okR "Table" d115 (t_Table___eq___2 d85 d115)).bind fun z121 => R.ok (if true = true then !z121 else z121)).bind fun a122 => R.ok (!a122)))).bind fun a125 => (if a125 = true then R.ok (Otc.rt false) else R.ok (Otc.go ())))) a137 ())).bind fun o138 => o138.to (fun r139 => R.ok (Otc.rt r139)) (fun (s114 : Unit) => R.ok (Otc.go ())))))) s36.2 ()).bind fun o142 => o142.to (fun r143 => R.ok (Otc.rt r143)) (fun (s84 : Unit) => R.ok (Otc.go ())))))) q34.2)) ([] : List ((List ((Int) × (Int) × (Int))))) a148.1 a148.2)))) a150 ())).bind fun o151 => o151.to (fun r152 => R.ok r152) (fun (s1 : Unit) => R.ok true))
theorem c_law_9_b1 (script_ : List Int) (d2 : Int) (s36 : (List (Int)) × (List ((List ((Int) × (Int) × (Int)))))) (many_5 : List ((Int) × (Int) × (Int))) (d37 : Int) (entries_39 : List ((Int) × (Int) × (Int))) (mine_58 : List ((Int) × (Int) × (Int))) (some_57 : List ((List ((Int) × (Int) × (Int))))) (s59 : List (Int)) (d60 : (List ((Int) × (Int) × (Int)))) : CB (sseq (sif (tor (tnot (trt (callF [.mt, .rd, .rd] Mi.f__law_right_3 (acons (rdv 2) (acons (rdv 9) (acons (rdv 6) anil)))))) (tst (oeq "Table" true Mi.f_Table___eq__ (rdv 9) (bop gIx (rdv 8) (kst (.int 0)))))) (sseq (sretF (kst (.bl false)))
  RS.nx) RS.nx)
  RS.nx) [some (.fz (D.scr script_)), some (.fz (D.int d2)), some (.ow ((oL D.int) s59)), some (.fz ((eL (eI "Table" ["entries"] (fun (p : (List ((Int) × (Int) × (Int)))) => [(eT (e3 D.int D.int D.int)) p]))) s36.2)), some (.fz ((eL (e3 D.int D.int D.int)) many_5)), some (.fz (D.int d37)), some (.fz ((eL (e3 D.int D.int D.int)) entries_39)), some (.ow ((oL (e3 D.int D.int D.int)) mine_58)), some (.fz ((eL (eI "Table" ["entries"] (fun (p : (List ((Int) × (Int) × (Int)))) => [(eT (e3 D.int D.int D.int)) p]))) some_57)), some (.fz ((eI "Table" ["entries"] (fun (p : (List ((Int) × (Int) × (Int)))) => [(eT (e3 D.int D.int D.int)) p])) d60)), none, none, none, none] ((((((t__law_right_3 s59 d60 entries_39).bind fun q61 => R.ok (q61.1, q61.2)).bind fun a62 => R.ok (!a62.1, a62.2)).bind fun a63 => (if a63.1 = true then R.ok (true, a63.2) else (((((ixR some_57 (0 : Int)).bind fun a67 => R.ok (d60, a67)).bind fun a66 => t_Table___eq__ a66.1 a66.2).bind fun z68 => R.ok (!z68)).bind fun a69 => R.ok (a69, a63.2)))).bind fun q71 => if q71.1 = true then (fun (s70 : List (Int)) => R.ok (Otc.rt false)) q71.2 else (fun (s70 : List (Int)) => R.ok (Otc.go s70)) q71.2)) (IOut [.no 9] (fun (sI_9 : List (Int)) => [some (.fz (D.scr script_)), some (.fz (D.int d2)), some (.ow ((oL D.int) sI_9)), some (.fz ((eL (eI "Table" ["entries"] (fun (p : (List ((Int) × (Int) × (Int)))) => [(eT (e3 D.int D.int D.int)) p]))) s36.2)), some (.fz ((eL (e3 D.int D.int D.int)) many_5)), some (.fz (D.int d37)), some (.fz ((eL (e3 D.int D.int D.int)) entries_39)), some (.ow ((oL (e3 D.int D.int D.int)) mine_58)), some (.fz ((eL (eI "Table" ["entries"] (fun (p : (List ((Int) × (Int) × (Int)))) => [(eT (e3 D.int D.int D.int)) p]))) some_57)), none, none, none, none, none]) (fun (r : Bool) => .fz (D.bl r)) (fun (r : Bool) e => muts [.fz (D.scr script_)] e = (fun (_ : Bool) => ([.fz (D.scr script_)] : List Sl).map fun _ => none) r)) := by
  have h : CB (sseq (sif (tor (tnot (trt (callF [.mt, .rd, .rd] Mi.f__law_right_3 (acons (rdv 2) (acons (rdv 9) (acons (rdv 6) anil)))))) (tst (oeq "Table" true Mi.f_Table___eq__ (rdv 9) (bop gIx (rdv 8) (kst (.int 0)))))) (sseq (sretF (kst (.bl false)))
  RS.nx) RS.nx)
  RS.nx) [some (.fz (D.scr script_)), some (.fz (D.int d2)), some (.ow ((oL D.int) s59)), some (.fz ((eL (eI "Table" ["entries"] (fun (p : (List ((Int) × (Int) × (Int)))) => [(eT (e3 D.int D.int D.int)) p]))) s36.2)), some (.fz ((eL (e3 D.int D.int D.int)) many_5)), some (.fz (D.int d37)), some (.fz ((eL (e3 D.int D.int D.int)) entries_39)), some (.ow ((oL (e3 D.int D.int D.int)) mine_58)), some (.fz ((eL (eI "Table" ["entries"] (fun (p : (List ((Int) × (Int) × (Int)))) => [(eT (e3 D.int D.int D.int)) p]))) some_57)), some (.fz ((eI "Table" ["entries"] (fun (p : (List ((Int) × (Int) × (Int)))) => [(eT (e3 D.int D.int D.int)) p])) d60)), none, none, none, none] _ (IOut [.no 9] (fun (sI_9 : List (Int)) => [some (.fz (D.scr script_)), some (.fz (D.int d2)), some (.ow ((oL D.int) sI_9)), some (.fz ((eL (eI "Table" ["entries"] (fun (p : (List ((Int) × (Int) × (Int)))) => [(eT (e3 D.int D.int D.int)) p]))) s36.2)), some (.fz ((eL (e3 D.int D.int D.int)) many_5)), some (.fz (D.int d37)), some (.fz ((eL (e3 D.int D.int D.int)) entries_39)), some (.ow ((oL (e3 D.int D.int D.int)) mine_58)), some (.fz ((eL (eI "Table" ["entries"] (fun (p : (List ((Int) × (Int) × (Int)))) => [(eT (e3 D.int D.int D.int)) p]))) some_57)), none, none, none, none, none]) (fun (r : Bool) => .fz (D.bl r)) (fun (r : Bool) e => muts [.fz (D.scr script_)] e = (fun (_ : Bool) => ([.fz (D.scr script_)] : List Sl).map fun _ => none) r)) := (c_ifM (E := fun (s70 : List (Int)) => [some (.fz (D.scr script_)), some (.fz (D.int d2)), some (.ow ((oL D.int) s70)), some (.fz ((eL (eI "Table" ["entries"] (fun (p : (List ((Int) × (Int) × (Int)))) => [(eT (e3 D.int D.int D.int)) p]))) s36.2)), some (.fz ((eL (e3 D.int D.int D.int)) many_5)), some (.fz (D.int d37)), some (.fz ((eL (e3 D.int D.int D.int)) entries_39)), some (.ow ((oL (e3 D.int D.int D.int)) mine_58)), some (.fz ((eL (eI "Table" ["entries"] (fun (p : (List ((Int) × (Int) × (Int)))) => [(eT (e3 D.int D.int D.int)) p]))) some_57)), some (.fz ((eI "Table" ["entries"] (fun (p : (List ((Int) × (Int) × (Int)))) => [(eT (e3 D.int D.int D.int)) p])) d60)), none, none, none, none]) (s := s59) (tm_or (tm_not (tm_bl (hm_call (c := D.bl) (t := fun (p : ((List ((Int) × (Int) × (Int)))) × (List ((Int) × (Int) × (Int))) × Unit) (s : List (Int)) => t__law_right_3 s p.1 p.2.1) (km_mt (om := fun s => (oL D.int) s) (by intro _; rfl) (km_rd (h_v (ca := (eI "Table" ["entries"] (fun (p : (List ((Int) × (Int) × (Int)))) => [(eT (e3 D.int D.int D.int)) p])))).m (fun _ => (km_rd (h_v (ca := (eL (e3 D.int D.int D.int)))).m (fun _ => km_nil))))) (fun s m => m) (fun p s => c__law_right_3 s p.1 p.2.1)).c)) (fun _ => (t_tst (h_ownN (gs := (fun (p : (List ((Int) × (Int) × (Int)))) => [(eT (e3 D.int D.int D.int)) p])) (t := fun (a64 : (List ((Int) × (Int) × (Int)))) (a65 : (List ((Int) × (Int) × (Int)))) => t_Table___eq__ a64 a65) (h_v (ca := (eI "Table" ["entries"] (fun (p : (List ((Int) × (Int) × (Int)))) => [(eT (e3 D.int D.int D.int)) p])))) (h_ixL (h_v (ca := (eL (eI "Table" ["entries"] (fun (p : (List ((Int) × (Int) × (Int)))) => [(eT (e3 D.int D.int D.int)) p]))))).c (h_kst (ca := D.int) (a := 0)).c) (fun a64 a65 => c_Table___eq__ a64 a65) (by intro _; rfl))).m)) (fun s70 => (c_assoc (c_ret (c := D.bl) (w := fun (a72 : Bool) => (Otc.rt a72)) (h_kst (ca := D.bl) (a := false)) (fun _ => ⟨_, rfl, rfl⟩)))) (fun s70 => (c_nxg (c_nx (w := (Otc.go s70)) ⟨_, .inl rfl, adjR rfl⟩))))
  exact h
theorem c_law_9_b2 (script_ : List Int) (d2 : Int) (s40 : List (Int)) (s36 : (List (Int)) × (List ((List ((Int) × (Int) × (Int)))))) (many_5 : List ((Int) × (Int) × (Int))) (d37 : Int) (entries_39 : List ((Int) × (Int) × (Int))) (mine_58 : List ((Int) × (Int) × (Int))) (some_57 : List ((List ((Int) × (Int) × (Int))))) : CB (sseq (sfor (itSeq (rdv 8)) (bindD 9) Mi.m_law_9_1)
  (sseq (sadj [.fz 3] (sasg 3 (bop gAdd (bop gAdd (rdv 3) (rdv 8)) (dsp (fun ds => .new (.lst ds)) (acons (mkF "Table" [.rd] Mi.f_Table___init__ (acons (uop gRev (rdv 6)) anil)) (acons (mkF "Table" [.rd] Mi.f_Table___init__ (acons (vsl (rdv 6) (osome (kst (.int 1))) onone) anil)) anil))))))
  RS.nx)) [some (.fz (D.scr script_)), some (.fz (D.int d2)), some (.ow ((oL D.int) s40)), some (.fz ((eL (eI "Table" ["entries"] (fun (p : (List ((Int) × (Int) × (Int)))) => [(eT (e3 D.int D.int D.int)) p]))) s36.2)), some (.fz ((eL (e3 D.int D.int D.int)) many_5)), some (.fz (D.int d37)), some (.fz ((eL (e3 D.int D.int D.int)) entries_39)), some (.ow ((oL (e3 D.int D.int D.int)) mine_58)), some (.fz ((eL (eI "Table" ["entries"] (fun (p : (List ((Int) × (Int) × (Int)))) => [(eT (e3 D.int D.int D.int)) p]))) some_57)), none, none, none, none, none] (((loopR (ρ := Bool) (fun (d60 : (List ((Int) × (Int) × (Int)))) (s59 : List (Int)) => (((((t__law_right_3 s59 d60 entries_39).bind fun q61 => R.ok (q61.1, q61.2)).bind fun a62 => R.ok (!a62.1, a62.2)).bind fun a63 => (if a63.1 = true then R.ok (true, a63.2) else (((((ixR some_57 (0 : Int)).bind fun a67 => R.ok (d60, a67)).bind fun a66 => t_Table___eq__ a66.1 a66.2).bind fun z68 => R.ok (!z68)).bind fun a69 => R.ok (a69, a63.2)))).bind fun q71 => if q71.1 = true then (fun (s70 : List (Int)) => R.ok (Otc.rt false)) q71.2 else (fun (s70 : List (Int)) => R.ok (Otc.go s70)) q71.2)) some_57 s40).bind fun o82 => o82.to (fun r83 => R.ok (Otc.rt r83)) (fun (s59 : List (Int)) => (((catR s36.2 some_57).bind fun a79 => (((((t_Table___init__ () (entries_39.reverse)).bind fun z73 => R.ok z73.2).bind fun a76 => ((((t_Table___init__ () (cut entries_39 (some (1 : Int)) none)).bind fun z74 => R.ok z74.2).bind fun a75 => R.ok (a75, ())).bind fun a77 => R.ok (a76, a77))).bind fun a78 => R.ok [a78.1, a78.2.1]).bind fun a80 => (catR a79 a80))).bind fun (made_81 : List ((List ((Int) × (Int) × (Int))))) => R.ok (Otc.go (s59, made_81)))))) (IOut [.no 5, .no 6, .no 7, .no 8] (fun (sI_8 : (List (Int)) × (List ((List ((Int) × (Int) × (Int)))))) => [some (.fz (D.scr script_)), some (.fz (D.int d2)), some (.ow ((oL D.int) sI_8.1)), some (.fz ((eL (eI "Table" ["entries"] (fun (p : (List ((Int) × (Int) × (Int)))) => [(eT (e3 D.int D.int D.int)) p]))) sI_8.2)), some (.fz ((eL (e3 D.int D.int D.int)) many_5)), none, none, none, none, none, none, none, none, none]) (fun (r : Bool) => .fz (D.bl r)) (fun (r : Bool) e => muts [.fz (D.scr script_)] e = (fun (_ : Bool) => ([.fz (D.scr script_)] : List Sl).map fun _ => none) r)) := by
  have h : CB (sseq (sfor (itSeq (rdv 8)) (bindD 9) Mi.m_law_9_1)
  (sseq (sadj [.fz 3] (sasg 3 (bop gAdd (bop gAdd (rdv 3) (rdv 8)) (dsp (fun ds => .new (.lst ds)) (acons (mkF "Table" [.rd] Mi.f_Table___init__ (acons (uop gRev (rdv 6)) anil)) (acons (mkF "Table" [.rd] Mi.f_Table___init__ (acons (vsl (rdv 6) (osome (kst (.int 1))) onone) anil)) anil))))))
  RS.nx)) [some (.fz (D.scr script_)), some (.fz (D.int d2)), some (.ow ((oL D.int) s40)), some (.fz ((eL (eI "Table" ["entries"] (fun (p : (List ((Int) × (Int) × (Int)))) => [(eT (e3 D.int D.int D.int)) p]))) s36.2)), some (.fz ((eL (e3 D.int D.int D.int)) many_5)), some (.fz (D.int d37)), some (.fz ((eL (e3 D.int D.int D.int)) entries_39)), some (.ow ((oL (e3 D.int D.int D.int)) mine_58)), some (.fz ((eL (eI "Table" ["entries"] (fun (p : (List ((Int) × (Int) × (Int)))) => [(eT (e3 D.int D.int D.int)) p]))) some_57)), none, none, none, none, none] _ (IOut [.no 5, .no 6, .no 7, .no 8] (fun (sI_8 : (List (Int)) × (List ((List ((Int) × (Int) × (Int)))))) => [some (.fz (D.scr script_)), some (.fz (D.int d2)), some (.ow ((oL D.int) sI_8.1)), some (.fz ((eL (eI "Table" ["entries"] (fun (p : (List ((Int) × (Int) × (Int)))) => [(eT (e3 D.int D.int D.int)) p]))) sI_8.2)), some (.fz ((eL (e3 D.int D.int D.int)) many_5)), none, none, none, none, none, none, none, none, none]) (fun (r : Bool) => .fz (D.bl r)) (fun (r : Bool) e => muts [.fz (D.scr script_)] e = (fun (_ : Bool) => ([.fz (D.scr script_)] : List Sl).map fun _ => none) r)) := (c_forO (ed := (eI "Table" ["entries"] (fun (p : (List ((Int) × (Int) × (Int)))) => [(eT (e3 D.int D.int D.int)) p]))) (s0 := s40) (E1 := (fun (d60 : (List ((Int) × (Int) × (Int)))) (s59 : List (Int)) => [some (.fz (D.scr script_)), some (.fz (D.int d2)), some (.ow ((oL D.int) s59)), some (.fz ((eL (eI "Table" ["entries"] (fun (p : (List ((Int) × (Int) × (Int)))) => [(eT (e3 D.int D.int D.int)) p]))) s36.2)), some (.fz ((eL (e3 D.int D.int D.int)) many_5)), some (.fz (D.int d37)), some (.fz ((eL (e3 D.int D.int D.int)) entries_39)), some (.ow ((oL (e3 D.int D.int D.int)) mine_58)), some (.fz ((eL (eI "Table" ["entries"] (fun (p : (List ((Int) × (Int) × (Int)))) => [(eT (e3 D.int D.int D.int)) p]))) some_57)), some (.fz ((eI "Table" ["entries"] (fun (p : (List ((Int) × (Int) × (Int)))) => [(eT (e3 D.int D.int D.int)) p])) d60)), none, none, none, none])) (vr := (fun (r : Bool) => .fz (D.bl r))) (M := (fun (r : Bool) e => muts [.fz (D.scr script_)] e = (fun (_ : Bool) => ([.fz (D.scr script_)] : List Sl).map fun _ => none) r)) (kr := fun (r83 : Bool) => R.ok (Otc.rt r83)) (fun (s59 : List (Int)) => [some (.fz (D.scr script_)), some (.fz (D.int d2)), some (.ow ((oL D.int) s59)), some (.fz ((eL (eI "Table" ["entries"] (fun (p : (List ((Int) × (Int) × (Int)))) => [(eT (e3 D.int D.int D.int)) p]))) s36.2)), some (.fz ((eL (e3 D.int D.int D.int)) many_5)), some (.fz (D.int d37)), some (.fz ((eL (e3 D.int D.int D.int)) entries_39)), some (.ow ((oL (e3 D.int D.int D.int)) mine_58)), some (.fz ((eL (eI "Table" ["entries"] (fun (p : (List ((Int) × (Int) × (Int)))) => [(eT (e3 D.int D.int D.int)) p]))) some_57)), none, none, none, none, none]) (i_L (h_v (ca := (eL (eI "Table" ["entries"] (fun (p : (List ((Int) × (Int) × (Int)))) => [(eT (e3 D.int D.int D.int)) p])))))) (fun d60 s59 => (c_law_9_b1 script_ d2 s36 many_5 d37 entries_39 mine_58 some_57 s59 d60)) (fun s59 => (c_asg (c := (eL (eI "Table" ["entries"] (fun (p : (List ((Int) × (Int) × (Int)))) => [(eT (e3 D.int D.int D.int)) p])))) (fun (made_81 : List ((List ((Int) × (Int) × (Int))))) => [some (.fz (D.scr script_)), some (.fz (D.int d2)), some (.ow ((oL D.int) s59)), some (.fz ((eL (eI "Table" ["entries"] (fun (p : (List ((Int) × (Int) × (Int)))) => [(eT (e3 D.int D.int D.int)) p]))) made_81)), some (.fz ((eL (e3 D.int D.int D.int)) many_5)), some (.fz (D.int d37)), some (.fz ((eL (e3 D.int D.int D.int)) entries_39)), some (.ow ((oL (e3 D.int D.int D.int)) mine_58)), some (.fz ((eL (eI "Table" ["entries"] (fun (p : (List ((Int) × (Int) × (Int)))) => [(eT (e3 D.int D.int D.int)) p]))) some_57)), none, none, none, none, none]) (n_cat (n_cat (h_v (ca := (eL (eI "Table" ["entries"] (fun (p : (List ((Int) × (Int) × (Int)))) => [(eT (e3 D.int D.int D.int)) p]))))).c (h_v (ca := (eL (eI "Table" ["entries"] (fun (p : (List ((Int) × (Int) × (Int)))) => [(eT (e3 D.int D.int D.int)) p]))))).c).h.c (EN.as (c' := oL (eI "Table" ["entries"] (fun (p : (List ((Int) × (Int) × (Int)))) => [(eT (e3 D.int D.int D.int)) p]))) (n_dsp (cz := fun p : ((List ((Int) × (Int) × (Int)))) × ((List ((Int) × (Int) × (Int)))) × Unit => O.lst [(eI "Table" ["entries"] (fun (p : (List ((Int) × (Int) × (Int)))) => [(eT (e3 D.int D.int D.int)) p])) p.1, (eI "Table" ["entries"] (fun (p : (List ((Int) × (Int) × (Int)))) => [(eT (e3 D.int D.int D.int)) p])) p.2.1]) (ah_cons (EN.as (c' := (oI "Table" ["entries"] (fun (p : (List ((Int) × (Int) × (Int)))) => [(eT (e3 D.int D.int D.int)) p]))) (n_mkF (c := "Table") (t := fun p : (List ((Int) × (Int) × (Int))) × Unit => t_Table___init__ () p.1) (cz := fun (z73 : (Unit) × ((List ((Int) × (Int) × (Int))))) => (oI "Table" ["entries"] (fun (p : (List ((Int) × (Int) × (Int)))) => [(eT (e3 D.int D.int D.int)) p])) z73.2) (k_rd (n_rev (h_v (ca := (eL (e3 D.int D.int D.int)))).c).h k_nil) (fun p => c_Table___init__ () p.1)) (fun (z73 : (Unit) × ((List ((Int) × (Int) × (Int))))) => z73.2)).h (ah_cons (EN.as (c' := (oI "Table" ["entries"] (fun (p : (List ((Int) × (Int) × (Int)))) => [(eT (e3 D.int D.int D.int)) p]))) (n_mkF (c := "Table") (t := fun p : (List ((Int) × (Int) × (Int))) × Unit => t_Table___init__ () p.1) (cz := fun (z74 : (Unit) × ((List ((Int) × (Int) × (Int))))) => (oI "Table" ["entries"] (fun (p : (List ((Int) × (Int) × (Int)))) => [(eT (e3 D.int D.int D.int)) p])) z74.2) (k_rd (n_sl (h_v (ca := (eL (e3 D.int D.int D.int)))).c (o_some (h_kst (ca := D.int) (a := 1)).c) o_none).h k_nil) (fun p => c_Table___init__ () p.1)) (fun (z74 : (Unit) × ((List ((Int) × (Int) × (Int))))) => z74.2)).h ah_nil)) 0) (fun p => [p.1, p.2.1])).h.c).h (fun made_81 => (c_nx (w := (Otc.go (s59, made_81))) ⟨_, .inl rfl, adjR rfl⟩)))) (fun r e h => ⟨e, rfl, h⟩))
  exact h
theorem c_law_9_b3 (script_ : List Int) (d2 : Int) (many_5 : List ((Int) × (Int) × (Int))) (s36 : (List (Int)) × (List ((List ((Int) × (Int) × (Int)))))) (d37 : Int) : CB (sseq (sadj [.fz 6] (sasg 6 (callF [.mt, .rd] Mi.f__law_entries (acons (rdv 2) (acons (kst (.int 10)) anil)))))
  (sseq (sasg 7 (cbn cList (acons (rdv 6) anil)))
  (sseq (sadj [.fz 8] (sasg 8 (dsp (fun ds => .new (.lst ds)) (acons (mkF "Table" [.bw] Mi.f_Table___init__ (acons (rdv 7) anil)) (acons (mkF "Table" [.rd] Mi.f_Table___init__ (acons (cbn cTuple (acons (rdv 6) anil)) anil)) (acons (callF (.rd :: [.rd]) Mi.f_Table_parse (acons (kst (.fn "Table")) (acons (ostr "Table" Mi.f_Table___str__ (mkF "Table" [.rd] Mi.f_Table___init__ (acons (rdv 6) anil))) anil))) anil))))))
  (sseq (sexp (mcall 7 gApp (acons (dsp (fun ds => .val (.tup ds)) (acons (kst (.int 0)) (acons (kst (.int 1)) (acons (kst (.int 99)) anil)))) anil)))
  (sseq (sfor (itSeq (rdv 8)) (bindD 9) Mi.m_law_9_1)
  (sseq (sadj [.fz 3] (sasg 3 (bop gAdd (bop gAdd (rdv 3) (rdv 8)) (dsp (fun ds => .new (.lst ds)) (acons (mkF "Table" [.rd] Mi.f_Table___init__ (acons (uop gRev (rdv 6)) anil)) (acons (mkF "Table" [.rd] Mi.f_Table___init__ (acons (vsl (rdv 6) (osome (kst (.int 1))) onone) anil)) anil))))))
  RS.nx)))))) [some (.fz (D.scr script_)), some (.fz (D.int d2)), some (.ow ((oL D.int) s36.1)), some (.fz ((eL (eI "Table" ["entries"] (fun (p : (List ((Int) × (Int) × (Int)))) => [(eT (e3 D.int D.int D.int)) p]))) s36.2)), some (.fz ((eL (e3 D.int D.int D.int)) many_5)), some (.fz (D.int d37)), none, none, none, none, none, none, none, none] ((((t__law_entries_2 s36.1 (10 : Int)).bind fun q38 => R.ok (q38.1, q38.2)).bind fun q41 => (fun (entries_39 : List ((Int) × (Int) × (Int))) (s40 : List (Int)) => ((R.ok entries_39).bind fun (mine_42 : List ((Int) × (Int) × (Int))) => (((((t_Table___init__ () mine_42).bind fun z43 => R.ok z43.2).bind fun a54 => ((((t_Table___init__ () entries_39).bind fun z44 => R.ok z44.2).bind fun a52 => ((((((((t_Table___init__ () entries_39).bind fun z45 => R.ok z45.2).bind fun a47 => (t_Table___str__ a47)).bind fun a48 => R.ok (a48, ())).bind fun a49 => R.ok ((), a49)).bind fun a50 => (t_Table_parse a50.1 a50.2.1)).bind fun a51 => R.ok (a51, ())).bind fun a53 => R.ok (a52, a53))).bind fun a55 => R.ok (a54, a55))).bind fun a56 => R.ok [a56.1, a56.2.1, a56.2.2.1]).bind fun (some_57 : List ((List ((Int) × (Int) × (Int))))) => ((appR mine_42 ((0 : Int), (1 : Int), (99 : Int))).bind fun (mine_58 : List ((Int) × (Int) × (Int))) => ((loopR (ρ := Bool) (fun (d60 : (List ((Int) × (Int) × (Int)))) (s59 : List (Int)) => (((((t__law_right_3 s59 d60 entries_39).bind fun q61 => R.ok (q61.1, q61.2)).bind fun a62 => R.ok (!a62.1, a62.2)).bind fun a63 => (if a63.1 = true then R.ok (true, a63.2) else (((((ixR some_57 (0 : Int)).bind fun a67 => R.ok (d60, a67)).bind fun a66 => t_Table___eq__ a66.1 a66.2).bind fun z68 => R.ok (!z68)).bind fun a69 => R.ok (a69, a63.2)))).bind fun q71 => if q71.1 = true then (fun (s70 : List (Int)) => R.ok (Otc.rt false)) q71.2 else (fun (s70 : List (Int)) => R.ok (Otc.go s70)) q71.2)) some_57 s40).bind fun o82 => o82.to (fun r83 => R.ok (Otc.rt r83)) (fun (s59 : List (Int)) => (((catR s36.2 some_57).bind fun a79 => (((((t_Table___init__ () (entries_39.reverse)).bind fun z73 => R.ok z73.2).bind fun a76 => ((((t_Table___init__ () (cut entries_39 (some (1 : Int)) none)).bind fun z74 => R.ok z74.2).bind fun a75 => R.ok (a75, ())).bind fun a77 => R.ok (a76, a77))).bind fun a78 => R.ok [a78.1, a78.2.1]).bind fun a80 => (catR a79 a80))).bind fun (made_81 : List ((List ((Int) × (Int) × (Int))))) => R.ok (Otc.go (s59, made_81))))))))) q41.1 q41.2)) (IOut [.no 5, .no 6, .no 7, .no 8] (fun (sI_8 : (List (Int)) × (List ((List ((Int) × (Int) × (Int)))))) => [some (.fz (D.scr script_)), some (.fz (D.int d2)), some (.ow ((oL D.int) sI_8.1)), some (.fz ((eL (eI "Table" ["entries"] (fun (p : (List ((Int) × (Int) × (Int)))) => [(eT (e3 D.int D.int D.int)) p]))) sI_8.2)), some (.fz ((eL (e3 D.int D.int D.int)) many_5)), none, none, none, none, none, none, none, none, none]) (fun (r : Bool) => .fz (D.bl r)) (fun (r : Bool) e => muts [.fz (D.scr script_)] e = (fun (_ : Bool) => ([.fz (D.scr script_)] : List Sl).map fun _ => none) r)) := by
  have h : CB (sseq (sadj [.fz 6] (sasg 6 (callF [.mt, .rd] Mi.f__law_entries (acons (rdv 2) (acons (kst (.int 10)) anil)))))
  (sseq (sasg 7 (cbn cList (acons (rdv 6) anil)))
  (sseq (sadj [.fz 8] (sasg 8 (dsp (fun ds => .new (.lst ds)) (acons (mkF "Table" [.bw] Mi.f_Table___init__ (acons (rdv 7) anil)) (acons (mkF "Table" [.rd] Mi.f_Table___init__ (acons (cbn cTuple (acons (rdv 6) anil)) anil)) (acons (callF (.rd :: [.rd]) Mi.f_Table_parse (acons (kst (.fn "Table")) (acons (ostr "Table" Mi.f_Table___str__ (mkF "Table" [.rd] Mi.f_Table___init__ (acons (rdv 6) anil))) anil))) anil))))))
  (sseq (sexp (mcall 7 gApp (acons (dsp (fun ds => .val (.tup ds)) (acons (kst (.int 0)) (acons (kst (.int 1)) (acons (kst (.int 99)) anil)))) anil)))
  (sseq (sfor (itSeq (rdv 8)) (bindD 9) Mi.m_law_9_1)
  (sseq (sadj [.fz 3] (sasg 3 (bop gAdd (bop gAdd (rdv 3) (rdv 8)) (dsp (fun ds => .new (.lst ds)) (acons (mkF "Table" [.rd] Mi.f_Table___init__ (acons (uop gRev (rdv 6)) anil)) (acons (mkF "Table" [.rd] Mi.f_Table___init__ (acons (vsl (rdv 6) (osome (kst (.int 1))) onone) anil)) anil))))))
  RS.nx)))))) [some (.fz (D.scr script_)), some (.fz (D.int d2)), some (.ow ((oL D.int) s36.1)), some (.fz ((eL (eI "Table" ["entries"] (fun (p : (List ((Int) × (Int) × (Int)))) => [(eT (e3 D.int D.int D.int)) p]))) s36.2)), some (.fz ((eL (e3 D.int D.int D.int)) many_5)), some (.fz (D.int d37)), none, none, none, none, none, none, none, none] _ (IOut [.no 5, .no 6, .no 7, .no 8] (fun (sI_8 : (List (Int)) × (List ((List ((Int) × (Int) × (Int)))))) => [some (.fz (D.scr script_)), some (.fz (D.int d2)), some (.ow ((oL D.int) sI_8.1)), some (.fz ((eL (eI "Table" ["entries"] (fun (p : (List ((Int) × (Int) × (Int)))) => [(eT (e3 D.int D.int D.int)) p]))) sI_8.2)), some (.fz ((eL (e3 D.int D.int D.int)) many_5)), none, none, none, none, none, none, none, none, none]) (fun (r : Bool) => .fz (D.bl r)) (fun (r : Bool) e => muts [.fz (D.scr script_)] e = (fun (_ : Bool) => ([.fz (D.scr script_)] : List Sl).map fun _ => none) r)) := (c_asgM (E := (fun (s40 : List (Int)) => [some (.fz (D.scr script_)), some (.fz (D.int d2)), some (.ow ((oL D.int) s40)), some (.fz ((eL (eI "Table" ["entries"] (fun (p : (List ((Int) × (Int) × (Int)))) => [(eT (e3 D.int D.int D.int)) p]))) s36.2)), some (.fz ((eL (e3 D.int D.int D.int)) many_5)), some (.fz (D.int d37)), none, none, none, none, none, none, none, none])) (s := s36.1) (c := (eL (e3 D.int D.int D.int))) (fun (entries_39 : List ((Int) × (Int) × (Int))) (s40 : List (Int)) => [some (.fz (D.scr script_)), some (.fz (D.int d2)), some (.ow ((oL D.int) s40)), some (.fz ((eL (eI "Table" ["entries"] (fun (p : (List ((Int) × (Int) × (Int)))) => [(eT (e3 D.int D.int D.int)) p]))) s36.2)), some (.fz ((eL (e3 D.int D.int D.int)) many_5)), some (.fz (D.int d37)), some (.fz ((eL (e3 D.int D.int D.int)) entries_39)), none, none, none, none, none, none, none]) (nm_call (c := (oL (e3 D.int D.int D.int))) (t := fun (p : (Int) × Unit) (s : List (Int)) => t__law_entries_2 s p.1) (km_mt (om := fun s => (oL D.int) s) (by intro _; rfl) (km_rd (h_kst (ca := D.int) (a := 10)).m (fun _ => km_nil))) (fun s m => m) (fun p s => c__law_entries s p.1)).h (fun entries_39 s40 => (c_asgN (fun (mine_42 : List ((Int) × (Int) × (Int))) => [some (.fz (D.scr script_)), some (.fz (D.int d2)), some (.ow ((oL D.int) s40)), some (.fz ((eL (eI "Table" ["entries"] (fun (p : (List ((Int) × (Int) × (Int)))) => [(eT (e3 D.int D.int D.int)) p]))) s36.2)), some (.fz ((eL (e3 D.int D.int D.int)) many_5)), some (.fz (D.int d37)), some (.fz ((eL (e3 D.int D.int D.int)) entries_39)), some (.ow ((oL (e3 D.int D.int D.int)) mine_42)), none, none, none, none, none, none]) (n_listL (h_v (ca := (eL (e3 D.int D.int D.int)))).c) (fun mine_42 => (c_asg (c := (eL (eI "Table" ["entries"] (fun (p : (List ((Int) × (Int) × (Int)))) => [(eT (e3 D.int D.int D.int)) p])))) (fun (some_57 : List ((List ((Int) × (Int) × (Int))))) => [some (.fz (D.scr script_)), some (.fz (D.int d2)), some (.ow ((oL D.int) s40)), some (.fz ((eL (eI "Table" ["entries"] (fun (p : (List ((Int) × (Int) × (Int)))) => [(eT (e3 D.int D.int D.int)) p]))) s36.2)), some (.fz ((eL (e3 D.int D.int D.int)) many_5)), some (.fz (D.int d37)), some (.fz ((eL (e3 D.int D.int D.int)) entries_39)), some (.ow ((oL (e3 D.int D.int D.int)) mine_42)), some (.fz ((eL (eI "Table" ["entries"] (fun (p : (List ((Int) × (Int) × (Int)))) => [(eT (e3 D.int D.int D.int)) p]))) some_57)), none, none, none, none, none]) (EN.as (c' := oL (eI "Table" ["entries"] (fun (p : (List ((Int) × (Int) × (Int)))) => [(eT (e3 D.int D.int D.int)) p]))) (n_dsp (cz := fun p : ((List ((Int) × (Int) × (Int)))) × ((List ((Int) × (Int) × (Int)))) × ((List ((Int) × (Int) × (Int)))) × Unit => O.lst [(eI "Table" ["entries"] (fun (p : (List ((Int) × (Int) × (Int)))) => [(eT (e3 D.int D.int D.int)) p])) p.1, (eI "Table" ["entries"] (fun (p : (List ((Int) × (Int) × (Int)))) => [(eT (e3 D.int D.int D.int)) p])) p.2.1, (eI "Table" ["entries"] (fun (p : (List ((Int) × (Int) × (Int)))) => [(eT (e3 D.int D.int D.int)) p])) p.2.2.1]) (ah_cons (EN.as (c' := (oI "Table" ["entries"] (fun (p : (List ((Int) × (Int) × (Int)))) => [(eT (e3 D.int D.int D.int)) p]))) (n_mkB (c := "Table") (t := fun p : (List ((Int) × (Int) × (Int))) × Unit => t_Table___init__ () p.1) (cz := fun (z43 : (Unit) × ((List ((Int) × (Int) × (Int))))) => (oI "Table" ["entries"] (fun (p : (List ((Int) × (Int) × (Int)))) => [(eT (e3 D.int D.int D.int)) p])) z43.2) (k_bw (ca := (eL (e3 D.int D.int D.int))) (h' := k_nil)) (fun p => c_Table___init__ () p.1) (fun _ => by simp [noLO, oI, noL, noL.noLs, noLs_map])) (fun (z43 : (Unit) × ((List ((Int) × (Int) × (Int))))) => z43.2)).h (ah_cons (EN.as (c' := (oI "Table" ["entries"] (fun (p : (List ((Int) × (Int) × (Int)))) => [(eT (e3 D.int D.int D.int)) p]))) (n_mkF (c := "Table") (t := fun p : (List ((Int) × (Int) × (Int))) × Unit => t_Table___init__ () p.1) (cz := fun (z44 : (Unit) × ((List ((Int) × (Int) × (Int))))) => (oI "Table" ["entries"] (fun (p : (List ((Int) × (Int) × (Int)))) => [(eT (e3 D.int D.int D.int)) p])) z44.2) (k_rd (h_tupL (h_v (ca := (eL (e3 D.int D.int D.int)))).c) k_nil) (fun p => c_Table___init___2 () p.1)) (fun (z44 : (Unit) × ((List ((Int) × (Int) × (Int))))) => z44.2)).h (ah_cons (h_call (c := (eI "Table" ["entries"] (fun (p : (List ((Int) × (Int) × (Int)))) => [(eT (e3 D.int D.int D.int)) p]))) (t := fun p : (Unit) × (Str) × Unit => t_Table_parse p.1 p.2.1) (k_rd (h_kst (ca := eF "Table") (a := ())) (k_rd (h_strInst (gs := (fun (p : (List ((Int) × (Int) × (Int)))) => [(eT (e3 D.int D.int D.int)) p])) (t := fun (a46 : (List ((Int) × (Int) × (Int)))) => t_Table___str__ a46) (EN.as (c' := (oI "Table" ["entries"] (fun (p : (List ((Int) × (Int) × (Int)))) => [(eT (e3 D.int D.int D.int)) p]))) (n_mkF (c := "Table") (t := fun p : (List ((Int) × (Int) × (Int))) × Unit => t_Table___init__ () p.1) (cz := fun (z45 : (Unit) × ((List ((Int) × (Int) × (Int))))) => (oI "Table" ["entries"] (fun (p : (List ((Int) × (Int) × (Int)))) => [(eT (e3 D.int D.int D.int)) p])) z45.2) (k_rd (h_v (ca := (eL (e3 D.int D.int D.int)))) k_nil) (fun p => c_Table___init__ () p.1)) (fun (z45 : (Unit) × ((List ((Int) × (Int) × (Int))))) => z45.2)).h (fun a46 => c_Table___str__ a46)) k_nil)) (fun p => c_Table_parse p.1 p.2.1) (hn := (fun h => nomatch h))) ah_nil))) 0) (fun p => [p.1, p.2.1, p.2.2.1])).h (fun some_57 => (c_app (c := (e3 D.int D.int D.int)) (l := mine_42) (fun (mine_58 : List ((Int) × (Int) × (Int))) => [some (.fz (D.scr script_)), some (.fz (D.int d2)), some (.ow ((oL D.int) s40)), some (.fz ((eL (eI "Table" ["entries"] (fun (p : (List ((Int) × (Int) × (Int)))) => [(eT (e3 D.int D.int D.int)) p]))) s36.2)), some (.fz ((eL (e3 D.int D.int D.int)) many_5)), some (.fz (D.int d37)), some (.fz ((eL (e3 D.int D.int D.int)) entries_39)), some (.ow ((oL (e3 D.int D.int D.int)) mine_58)), some (.fz ((eL (eI "Table" ["entries"] (fun (p : (List ((Int) × (Int) × (Int)))) => [(eT (e3 D.int D.int D.int)) p]))) some_57)), none, none, none, none, none]) (EH.as (c' := (e3 D.int D.int D.int)) (h_dsp (cz := fun p : (Int) × (Int) × (Int) × Unit => D.tup [D.int p.1, D.int p.2.1, D.int p.2.2.1]) (ah_cons (h_kst (ca := D.int) (a := 0)) (ah_cons (h_kst (ca := D.int) (a := 1)) (ah_cons (h_kst (ca := D.int) (a := 99)) ah_nil))) 0) (fun p => (p.1, p.2.1, p.2.2.1))) (fun mine_58 => (c_law_9_b2 script_ d2 s40 s36 many_5 d37 entries_39 mine_58 some_57)))))))))
  exact h
theorem c_law_9_b4 (script_ : List Int) (d2 : Int) (s36 : (List (Int)) × (List ((List ((Int) × (Int) × (Int)))))) (many_5 : List ((Int) × (Int) × (Int))) (d85 : (List ((Int) × (Int) × (Int)))) (d87 : (List ((Int) × (Int) × (Int)))) : CB (sseq (sadj [.fz 12] (sasg 12 (bop gEq (ostr "Table" Mi.f_Table___str__ (rdv 10)) (ostr "Table" Mi.f_Table___str__ (rdv 11)))))
  (sseq (sif (tor (tst (bop gNe (oeq "Table" false Mi.f_Table___eq__ (rdv 10) (rdv 11)) (rdv 12))) (tst (bop gEq (oeq "Table" true Mi.f_Table___eq__ (rdv 10) (rdv 11)) (rdv 12)))) (sseq (sretF (kst (.bl false)))
  RS.nx) RS.nx)
  RS.nx)) [some (.fz (D.scr script_)), some (.fz (D.int d2)), some (.ow ((oL D.int) s36.1)), some (.fz ((eL (eI "Table" ["entries"] (fun (p : (List ((Int) × (Int) × (Int)))) => [(eT (e3 D.int D.int D.int)) p]))) s36.2)), some (.fz ((eL (e3 D.int D.int D.int)) many_5)), none, none, none, none, none, some (.fz ((eI "Table" ["entries"] (fun (p : (List ((Int) × (Int) × (Int)))) => [(eT (e3 D.int D.int D.int)) p])) d85)), some (.fz ((eI "Table" ["entries"] (fun (p : (List ((Int) × (Int) × (Int)))) => [(eT (e3 D.int D.int D.int)) p])) d87)), none, none] ((((t_Table___str__ d85).bind fun a90 => ((t_Table___str__ d87).bind fun a91 => R.ok (decide (a90 = a91)))).bind fun (same_92 : Bool) => ((((t_Table___eq__ d85 d87).bind fun a95 => (neR (D.bl a95) (D.bl same_92))).bind fun a100 => (if a100 = true then R.ok true else (((t_Table___eq__ d85 d87).bind fun z98 => R.ok (!z98)).bind fun a99 => (eqR (D.bl a99) (D.bl same_92))))).bind fun a102 => (if a102 = true then R.ok (Otc.rt false) else R.ok (Otc.go ()))))) (IOut [.no 11, .no 12] (fun (sI_11 : Unit) => [some (.fz (D.scr script_)), some (.fz (D.int d2)), some (.ow ((oL D.int) s36.1)), some (.fz ((eL (eI "Table" ["entries"] (fun (p : (List ((Int) × (Int) × (Int)))) => [(eT (e3 D.int D.int D.int)) p]))) s36.2)), some (.fz ((eL (e3 D.int D.int D.int)) many_5)), none, none, none, none, none, some (.fz ((eI "Table" ["entries"] (fun (p : (List ((Int) × (Int) × (Int)))) => [(eT (e3 D.int D.int D.int)) p])) d85)), none, none, none]) (fun (r : Bool) => .fz (D.bl r)) (fun (r : Bool) e => muts [.fz (D.scr script_)] e = (fun (_ : Bool) => ([.fz (D.scr script_)] : List Sl).map fun _ => none) r)) := by
  have h : CB (sseq (sadj [.fz 12] (sasg 12 (bop gEq (ostr "Table" Mi.f_Table___str__ (rdv 10)) (ostr "Table" Mi.f_Table___str__ (rdv 11)))))
  (sseq (sif (tor (tst (bop gNe (oeq "Table" false Mi.f_Table___eq__ (rdv 10) (rdv 11)) (rdv 12))) (tst (bop gEq (oeq "Table" true Mi.f_Table___eq__ (rdv 10) (rdv 11)) (rdv 12)))) (sseq (sretF (kst (.bl false)))
  RS.nx) RS.nx)
  RS.nx)) [some (.fz (D.scr script_)), some (.fz (D.int d2)), some (.ow ((oL D.int) s36.1)), some (.fz ((eL (eI "Table" ["entries"] (fun (p : (List ((Int) × (Int) × (Int)))) => [(eT (e3 D.int D.int D.int)) p]))) s36.2)), some (.fz ((eL (e3 D.int D.int D.int)) many_5)), none, none, none, none, none, some (.fz ((eI "Table" ["entries"] (fun (p : (List ((Int) × (Int) × (Int)))) => [(eT (e3 D.int D.int D.int)) p])) d85)), some (.fz ((eI "Table" ["entries"] (fun (p : (List ((Int) × (Int) × (Int)))) => [(eT (e3 D.int D.int D.int)) p])) d87)), none, none] _ (IOut [.no 11, .no 12] (fun (sI_11 : Unit) => [some (.fz (D.scr script_)), some (.fz (D.int d2)), some (.ow ((oL D.int) s36.1)), some (.fz ((eL (eI "Table" ["entries"] (fun (p : (List ((Int) × (Int) × (Int)))) => [(eT (e3 D.int D.int D.int)) p]))) s36.2)), some (.fz ((eL (e3 D.int D.int D.int)) many_5)), none, none, none, none, none, some (.fz ((eI "Table" ["entries"] (fun (p : (List ((Int) × (Int) × (Int)))) => [(eT (e3 D.int D.int D.int)) p])) d85)), none, none, none]) (fun (r : Bool) => .fz (D.bl r)) (fun (r : Bool) e => muts [.fz (D.scr script_)] e = (fun (_ : Bool) => ([.fz (D.scr script_)] : List Sl).map fun _ => none) r)) := (c_asg (c := D.bl) (fun (same_92 : Bool) => [some (.fz (D.scr script_)), some (.fz (D.int d2)), some (.ow ((oL D.int) s36.1)), some (.fz ((eL (eI "Table" ["entries"] (fun (p : (List ((Int) × (Int) × (Int)))) => [(eT (e3 D.int D.int D.int)) p]))) s36.2)), some (.fz ((eL (e3 D.int D.int D.int)) many_5)), none, none, none, none, none, some (.fz ((eI "Table" ["entries"] (fun (p : (List ((Int) × (Int) × (Int)))) => [(eT (e3 D.int D.int D.int)) p])) d85)), some (.fz ((eI "Table" ["entries"] (fun (p : (List ((Int) × (Int) × (Int)))) => [(eT (e3 D.int D.int D.int)) p])) d87)), some (.fz (D.bl same_92)), none]) (h_eqS (h_strInst (gs := (fun (p : (List ((Int) × (Int) × (Int)))) => [(eT (e3 D.int D.int D.int)) p])) (t := fun (a88 : (List ((Int) × (Int) × (Int)))) => t_Table___str__ a88) (h_v (ca := (eI "Table" ["entries"] (fun (p : (List ((Int) × (Int) × (Int)))) => [(eT (e3 D.int D.int D.int)) p])))) (fun a88 => c_Table___str__ a88)).c (h_strInst (gs := (fun (p : (List ((Int) × (Int) × (Int)))) => [(eT (e3 D.int D.int D.int)) p])) (t := fun (a89 : (List ((Int) × (Int) × (Int)))) => t_Table___str__ a89) (h_v (ca := (eI "Table" ["entries"] (fun (p : (List ((Int) × (Int) × (Int)))) => [(eT (e3 D.int D.int D.int)) p])))) (fun a89 => c_Table___str__ a89)).c) (fun same_92 => (c_if (t_or (t_tst (h_ne (h_own (gs := (fun (p : (List ((Int) × (Int) × (Int)))) => [(eT (e3 D.int D.int D.int)) p])) (t := fun (a93 : (List ((Int) × (Int) × (Int)))) (a94 : (List ((Int) × (Int) × (Int)))) => t_Table___eq__ a93 a94) (h_v (ca := (eI "Table" ["entries"] (fun (p : (List ((Int) × (Int) × (Int)))) => [(eT (e3 D.int D.int D.int)) p])))) (h_v (ca := (eI "Table" ["entries"] (fun (p : (List ((Int) × (Int) × (Int)))) => [(eT (e3 D.int D.int D.int)) p])))) (fun a93 a94 => c_Table___eq__ a93 a94) (by intro _; rfl)).c (h_v (ca := D.bl)).c (fun a b => by rfl))) (t_tst (h_eq (h_ownN (gs := (fun (p : (List ((Int) × (Int) × (Int)))) => [(eT (e3 D.int D.int D.int)) p])) (t := fun (a96 : (List ((Int) × (Int) × (Int)))) (a97 : (List ((Int) × (Int) × (Int)))) => t_Table___eq__ a96 a97) (h_v (ca := (eI "Table" ["entries"] (fun (p : (List ((Int) × (Int) × (Int)))) => [(eT (e3 D.int D.int D.int)) p])))) (h_v (ca := (eI "Table" ["entries"] (fun (p : (List ((Int) × (Int) × (Int)))) => [(eT (e3 D.int D.int D.int)) p])))) (fun a96 a97 => c_Table___eq__ a96 a97) (by intro _; rfl)).c (h_v (ca := D.bl)).c (fun a b => by rfl)))) (c_assoc (c_ret (c := D.bl) (w := fun (a101 : Bool) => (Otc.rt a101)) (h_kst (ca := D.bl) (a := false)) (fun _ => ⟨_, rfl, rfl⟩))) (c_nxg (c_nx (w := (Otc.go ())) ⟨_, .inl rfl, adjR rfl⟩)))))
  exact h
theorem c_law_9_b5 (script_ : List Int) (d2 : Int) (s36 : (List (Int)) × (List ((List ((Int) × (Int) × (Int)))))) (many_5 : List ((Int) × (Int) × (Int))) (d85 : (List ((Int) × (Int) × (Int)))) (d115 : D) : CB (sseq (sif (tor (tst (oeq "Table" false Mi.f_Table___eq__ (rdv 10) (rdv 13))) (tnot (tst (oeq "Table" true Mi.f_Table___eq__ (rdv 10) (rdv 13))))) (sseq (sretF (kst (.bl false)))
  RS.nx) RS.nx)
  RS.nx) [some (.fz (D.scr script_)), some (.fz (D.int d2)), some (.ow ((oL D.int) s36.1)), some (.fz ((eL (eI "Table" ["entries"] (fun (p : (List ((Int) × (Int) × (Int)))) => [(eT (e3 D.int D.int D.int)) p]))) s36.2)), some (.fz ((eL (e3 D.int D.int D.int)) many_5)), none, none, none, none, none, some (.fz ((eI "Table" ["entries"] (fun (p : (List ((Int) × (Int) × (Int)))) => [(eT (e3 D.int D.int D.int)) p])) d85)), none, none, some (.fz (eD d115))] (((((okR "Table" d115 (t_Table___eq___2 d85 d115)).bind fun z118 => R.ok (if false = true then !z118 else z118)).bind fun a123 => (if a123 = true then R.ok true else (((okR "Table" d115 (t_Table___eq___2 d85 d115)).bind fun z121 => R.ok (if true = true then !z121 else z121)).bind fun a122 => R.ok (!a122)))).bind fun a125 => (if a125 = true then R.ok (Otc.rt false) else R.ok (Otc.go ())))) (IOut [.no 13] (fun (sI_12 : Unit) => [some (.fz (D.scr script_)), some (.fz (D.int d2)), some (.ow ((oL D.int) s36.1)), some (.fz ((eL (eI "Table" ["entries"] (fun (p : (List ((Int) × (Int) × (Int)))) => [(eT (e3 D.int D.int D.int)) p]))) s36.2)), some (.fz ((eL (e3 D.int D.int D.int)) many_5)), none, none, none, none, none, some (.fz ((eI "Table" ["entries"] (fun (p : (List ((Int) × (Int) × (Int)))) => [(eT (e3 D.int D.int D.int)) p])) d85)), none, none, none]) (fun (r : Bool) => .fz (D.bl r)) (fun (r : Bool) e => muts [.fz (D.scr script_)] e = (fun (_ : Bool) => ([.fz (D.scr script_)] : List Sl).map fun _ => none) r)) := by
  have h : CB (sseq (sif (tor (tst (oeq "Table" false Mi.f_Table___eq__ (rdv 10) (rdv 13))) (tnot (tst (oeq "Table" true Mi.f_Table___eq__ (rdv 10) (rdv 13))))) (sseq (sretF (kst (.bl false)))
  RS.nx) RS.nx)
  RS.nx) [some (.fz (D.scr script_)), some (.fz (D.int d2)), some (.ow ((oL D.int) s36.1)), some (.fz ((eL (eI "Table" ["entries"] (fun (p : (List ((Int) × (Int) × (Int)))) => [(eT (e3 D.int D.int D.int)) p]))) s36.2)), some (.fz ((eL (e3 D.int D.int D.int)) many_5)), none, none, none, none, none, some (.fz ((eI "Table" ["entries"] (fun (p : (List ((Int) × (Int) × (Int)))) => [(eT (e3 D.int D.int D.int)) p])) d85)), none, none, some (.fz (eD d115))] _ (IOut [.no 13] (fun (sI_12 : Unit) => [some (.fz (D.scr script_)), some (.fz (D.int d2)), some (.ow ((oL D.int) s36.1)), some (.fz ((eL (eI "Table" ["entries"] (fun (p : (List ((Int) × (Int) × (Int)))) => [(eT (e3 D.int D.int D.int)) p]))) s36.2)), some (.fz ((eL (e3 D.int D.int D.int)) many_5)), none, none, none, none, none, some (.fz ((eI "Table" ["entries"] (fun (p : (List ((Int) × (Int) × (Int)))) => [(eT (e3 D.int D.int D.int)) p])) d85)), none, none, none]) (fun (r : Bool) => .fz (D.bl r)) (fun (r : Bool) e => muts [.fz (D.scr script_)] e = (fun (_ : Bool) => ([.fz (D.scr script_)] : List Sl).map fun _ => none) r)) := (c_if (t_or (t_tst (h_ownD (gs := (fun (p : (List ((Int) × (Int) × (Int)))) => [(eT (e3 D.int D.int D.int)) p])) (t := fun (a116 : (List ((Int) × (Int) × (Int)))) (a117 : D) => t_Table___eq___2 a116 a117) false (h_v (ca := (eI "Table" ["entries"] (fun (p : (List ((Int) × (Int) × (Int)))) => [(eT (e3 D.int D.int D.int)) p])))) (h_v (ca := eD)) (fun a116 a117 => c_Table___eq___2 a116 a117))) (t_not (t_tst (h_ownD (gs := (fun (p : (List ((Int) × (Int) × (Int)))) => [(eT (e3 D.int D.int D.int)) p])) (t := fun (a119 : (List ((Int) × (Int) × (Int)))) (a120 : D) => t_Table___eq___2 a119 a120) true (h_v (ca := (eI "Table" ["entries"] (fun (p : (List ((Int) × (Int) × (Int)))) => [(eT (e3 D.int D.int D.int)) p])))) (h_v (ca := eD)) (fun a119 a120 => c_Table___eq___2 a119 a120))))) (c_assoc (c_ret (c := D.bl) (w := fun (a124 : Bool) => (Otc.rt a124)) (h_kst (ca := D.bl) (a := false)) (fun _ => ⟨_, rfl, rfl⟩))) (c_nxg (c_nx (w := (Otc.go ())) ⟨_, .inl rfl, adjR rfl⟩)))
  exact h
theorem c_law_9_b6 (script_ : List Int) (d2 : Int) (s36 : (List (Int)) × (List ((List ((Int) × (Int) × (Int)))))) (many_5 : List ((Int) × (Int) × (Int))) (d85 : (List ((Int) × (Int) × (Int)))) : CB (sseq (sfor (itSeq (rdv 3)) (bindD 11) Mi.m_law_9_3)
  (sseq (sfor (itSeq (dsp (fun ds => .new (.lst ds)) (acons (fld "Table" "entries" (rdv 10)) (acons (ostr "Table" Mi.f_Table___str__ (rdv 10)) (acons (kst .non) (acons (kst (.int 0)) (acons (dsp (fun ds => .new (.lst ds)) anil) anil))))))) (bindD 13) Mi.m_law_9_2)
  RS.nx)) [some (.fz (D.scr script_)), some (.fz (D.int d2)), some (.ow ((oL D.int) s36.1)), some (.fz ((eL (eI "Table" ["entries"] (fun (p : (List ((Int) × (Int) × (Int)))) => [(eT (e3 D.int D.int D.int)) p]))) s36.2)), some (.fz ((eL (e3 D.int D.int D.int)) many_5)), none, none, none, none, none, some (.fz ((eI "Table" ["entries"] (fun (p : (List ((Int) × (Int) × (Int)))) => [(eT (e3 D.int D.int D.int)) p])) d85)), none, none, none] (((loopR (ρ := Bool) (fun (d87 : (List ((Int) × (Int) × (Int)))) (s86 : Unit) => (((t_Table___str__ d85).bind fun a90 => ((t_Table___str__ d87).bind fun a91 => R.ok (decide (a90 = a91)))).bind fun (same_92 : Bool) => ((((t_Table___eq__ d85 d87).bind fun a95 => (neR (D.bl a95) (D.bl same_92))).bind fun a100 => (if a100 = true then R.ok true else (((t_Table___eq__ d85 d87).bind fun z98 => R.ok (!z98)).bind fun a99 => (eqR (D.bl a99) (D.bl same_92))))).bind fun a102 => (if a102 = true then R.ok (Otc.rt false) else R.ok (Otc.go ()))))) s36.2 ()).bind fun o140 => o140.to (fun r141 => R.ok (Otc.rt r141)) (fun (s86 : Unit) => (((((((t_Table___str__ d85).bind fun a130 => R.ok (D.str a130)).bind fun a134 => R.ok (a134, ((eN ()), ((D.int (0 : Int)), (((eL (e3 D.int D.int D.int)) ([] : List ((Int) × (Int) × (Int)))), ()))))).bind fun a135 => R.ok (((eT (e3 D.int D.int D.int)) d85), a135)).bind fun a136 => R.ok [a136.1, a136.2.1, a136.2.2.1, a136.2.2.2.1, a136.2.2.2.2.1]).bind fun a137 => (loopR (ρ := Bool) (fun (d115 : D) (s114 : Unit) => ((((okR "Table" d115 (t_Table___eq___2 d85 d115)).bind fun z118 => R.ok (if false = true then !z118 else z118)).bind fun a123 => (if a123 = true then R.ok true else (((okR "Table" d115 (t_Table___eq___2 d85 d115)).bind fun z121 => R.ok (if true = true then !z121 else z121)).bind fun a122 => R.ok (!a122)))).bind fun a125 => (if a125 = true then R.ok (Otc.rt false) else R.ok (Otc.go ())))) a137 ())).bind fun o138 => o138.to (fun r139 => R.ok (Otc.rt r139)) (fun (s114 : Unit) => R.ok (Otc.go ())))))) (IOut [.no 10] (fun (sI_10 : Unit) => [some (.fz (D.scr script_)), some (.fz (D.int d2)), some (.ow ((oL D.int) s36.1)), some (.fz ((eL (eI "Table" ["entries"] (fun (p : (List ((Int) × (Int) × (Int)))) => [(eT (e3 D.int D.int D.int)) p]))) s36.2)), some (.fz ((eL (e3 D.int D.int D.int)) many_5)), none, none, none, none, none, none, none, none, none]) (fun (r : Bool) => .fz (D.bl r)) (fun (r : Bool) e => muts [.fz (D.scr script_)] e = (fun (_ : Bool) => ([.fz (D.scr script_)] : List Sl).map fun _ => none) r)) := by
  have h : CB (sseq (sfor (itSeq (rdv 3)) (bindD 11) Mi.m_law_9_3)
  (sseq (sfor (itSeq (dsp (fun ds => .new (.lst ds)) (acons (fld "Table" "entries" (rdv 10)) (acons (ostr "Table" Mi.f_Table___str__ (rdv 10)) (acons (kst .non) (acons (kst (.int 0)) (acons (dsp (fun ds => .new (.lst ds)) anil) anil))))))) (bindD 13) Mi.m_law_9_2)
  RS.nx)) [some (.fz (D.scr script_)), some (.fz (D.int d2)), some (.ow ((oL D.int) s36.1)), some (.fz ((eL (eI "Table" ["entries"] (fun (p : (List ((Int) × (Int) × (Int)))) => [(eT (e3 D.int D.int D.int)) p]))) s36.2)), some (.fz ((eL (e3 D.int D.int D.int)) many_5)), none, none, none, none, none, some (.fz ((eI "Table" ["entries"] (fun (p : (List ((Int) × (Int) × (Int)))) => [(eT (e3 D.int D.int D.int)) p])) d85)), none, none, none] _ (IOut [.no 10] (fun (sI_10 : Unit) => [some (.fz (D.scr script_)), some (.fz (D.int d2)), some (.ow ((oL D.int) s36.1)), some (.fz ((eL (eI "Table" ["entries"] (fun (p : (List ((Int) × (Int) × (Int)))) => [(eT (e3 D.int D.int D.int)) p]))) s36.2)), some (.fz ((eL (e3 D.int D.int D.int)) many_5)), none, none, none, none, none, none, none, none, none]) (fun (r : Bool) => .fz (D.bl r)) (fun (r : Bool) e => muts [.fz (D.scr script_)] e = (fun (_ : Bool) => ([.fz (D.scr script_)] : List Sl).map fun _ => none) r)) := (c_forO (ed := (eI "Table" ["entries"] (fun (p : (List ((Int) × (Int) × (Int)))) => [(eT (e3 D.int D.int D.int)) p]))) (s0 := ()) (E1 := (fun (d87 : (List ((Int) × (Int) × (Int)))) (s86 : Unit) => [some (.fz (D.scr script_)), some (.fz (D.int d2)), some (.ow ((oL D.int) s36.1)), some (.fz ((eL (eI "Table" ["entries"] (fun (p : (List ((Int) × (Int) × (Int)))) => [(eT (e3 D.int D.int D.int)) p]))) s36.2)), some (.fz ((eL (e3 D.int D.int D.int)) many_5)), none, none, none, none, none, some (.fz ((eI "Table" ["entries"] (fun (p : (List ((Int) × (Int) × (Int)))) => [(eT (e3 D.int D.int D.int)) p])) d85)), some (.fz ((eI "Table" ["entries"] (fun (p : (List ((Int) × (Int) × (Int)))) => [(eT (e3 D.int D.int D.int)) p])) d87)), none, none])) (vr := (fun (r : Bool) => .fz (D.bl r))) (M := (fun (r : Bool) e => muts [.fz (D.scr script_)] e = (fun (_ : Bool) => ([.fz (D.scr script_)] : List Sl).map fun _ => none) r)) (kr := fun (r141 : Bool) => R.ok (Otc.rt r141)) (fun (s86 : Unit) => [some (.fz (D.scr script_)), some (.fz (D.int d2)), some (.ow ((oL D.int) s36.1)), some (.fz ((eL (eI "Table" ["entries"] (fun (p : (List ((Int) × (Int) × (Int)))) => [(eT (e3 D.int D.int D.int)) p]))) s36.2)), some (.fz ((eL (e3 D.int D.int D.int)) many_5)), none, none, none, none, none, some (.fz ((eI "Table" ["entries"] (fun (p : (List ((Int) × (Int) × (Int)))) => [(eT (e3 D.int D.int D.int)) p])) d85)), none, none, none]) (i_L (h_v (ca := (eL (eI "Table" ["entries"] (fun (p : (List ((Int) × (Int) × (Int)))) => [(eT (e3 D.int D.int D.int)) p])))))) (fun d87 s86 => (c_law_9_b4 script_ d2 s36 many_5 d85 d87)) (fun s86 => (c_forO (ed := eD) (s0 := ()) (E1 := (fun (d115 : D) (s114 : Unit) => [some (.fz (D.scr script_)), some (.fz (D.int d2)), some (.ow ((oL D.int) s36.1)), some (.fz ((eL (eI "Table" ["entries"] (fun (p : (List ((Int) × (Int) × (Int)))) => [(eT (e3 D.int D.int D.int)) p]))) s36.2)), some (.fz ((eL (e3 D.int D.int D.int)) many_5)), none, none, none, none, none, some (.fz ((eI "Table" ["entries"] (fun (p : (List ((Int) × (Int) × (Int)))) => [(eT (e3 D.int D.int D.int)) p])) d85)), none, none, some (.fz (eD d115))])) (vr := (fun (r : Bool) => .fz (D.bl r))) (M := (fun (r : Bool) e => muts [.fz (D.scr script_)] e = (fun (_ : Bool) => ([.fz (D.scr script_)] : List Sl).map fun _ => none) r)) (kr := fun (r139 : Bool) => R.ok (Otc.rt r139)) (fun (s114 : Unit) => [some (.fz (D.scr script_)), some (.fz (D.int d2)), some (.ow ((oL D.int) s36.1)), some (.fz ((eL (eI "Table" ["entries"] (fun (p : (List ((Int) × (Int) × (Int)))) => [(eT (e3 D.int D.int D.int)) p]))) s36.2)), some (.fz ((eL (e3 D.int D.int D.int)) many_5)), none, none, none, none, none, some (.fz ((eI "Table" ["entries"] (fun (p : (List ((Int) × (Int) × (Int)))) => [(eT (e3 D.int D.int D.int)) p])) d85)), none, none, none]) (i_L (EN.as (c' := oL eD) (n_dsp (cz := fun p : (D) × (D) × (D) × (D) × (D) × Unit => O.lst [eD p.1, eD p.2.1, eD p.2.2.1, eD p.2.2.2.1, eD p.2.2.2.2.1]) (ah_cons (EH.as (c' := eD) (h_fld (cb := (eT (e3 D.int D.int D.int))) (h_v (ca := (eI "Table" ["entries"] (fun (p : (List ((Int) × (Int) × (Int)))) => [(eT (e3 D.int D.int D.int)) p])))).c (fun (a126 : (List ((Int) × (Int) × (Int)))) => a126)) (fun (a128 : List ((Int) × (Int) × (Int))) => ((eT (e3 D.int D.int D.int)) a128))) (ah_cons (EH.as (c' := eD) (h_strInst (gs := (fun (p : (List ((Int) × (Int) × (Int)))) => [(eT (e3 D.int D.int D.int)) p])) (t := fun (a127 : (List ((Int) × (Int) × (Int)))) => t_Table___str__ a127) (h_v (ca := (eI "Table" ["entries"] (fun (p : (List ((Int) × (Int) × (Int)))) => [(eT (e3 D.int D.int D.int)) p])))) (fun a127 => c_Table___str__ a127)) (fun (a129 : Str) => (D.str a129))) (ah_cons (EH.as (c' := eD) (h_kst (ca := eN) (a := ())) (fun (a131 : Unit) => (eN a131))) (ah_cons (EH.as (c' := eD) (h_kst (ca := D.int) (a := 0)) (fun (a132 : Int) => (D.int a132))) (ah_cons (EH.as (c' := eD) (EN.as (c' := oL (e3 D.int D.int D.int)) (n_dsp (cz := fun p : Unit => O.lst []) ah_nil 0) (fun p => [])).h (fun (a133 : List ((Int) × (Int) × (Int))) => ((eL (e3 D.int D.int D.int)) a133))) ah_nil))))) 0) (fun p => [p.1, p.2.1, p.2.2.1, p.2.2.2.1, p.2.2.2.2.1])).h) (fun d115 s114 => (c_law_9_b5 script_ d2 s36 many_5 d85 d115)) (fun s114 => (c_nx (w := (Otc.go ())) ⟨_, .inl rfl, adjR rfl⟩)) (fun r e h => ⟨e, rfl, h⟩))) (fun r e h => ⟨e, rfl, h⟩))
  exact h
theorem c_law_9_b7 (script_ : List Int) (d2 : Int) : CB (sseq (sasg 2 (callF [.rd, .rd] Mi.f__law_feed (acons (rdv 0) (acons (rdv 1) anil))))
  (sseq (sadj [.fz 3, .fz 4] (spar [3, 4] [(dsp (fun ds => .new (.lst ds)) anil), (callF [.mt] Mi.f__law_many (acons (rdv 2) anil))]))
  (sseq (sif (tor (tnot (trt (callF [.mt, .rd, .rd] Mi.f__law_right_3 (acons (rdv 2) (acons (mkF "Table" [.rd] Mi.f_Table___init__ (acons (rdv 4) anil)) (acons (rdv 4) anil)))))) (tst (oeq "Table" true Mi.f_Table___eq__ (callF (.rd :: [.rd]) Mi.f_Table_parse (acons (kst (.fn "Table")) (acons (ostr "Table" Mi.f_Table___str__ (mkF "Table" [.rd] Mi.f_Table___init__ (acons (rdv 4) anil))) anil))) (mkF "Table" [.rd] Mi.f_Table___init__ (acons (rdv 4) anil))))) (sseq (sretF (kst (.bl false)))
  RS.nx) RS.nx)
  (sseq (sfor (itRng1 (acons (kst (.int 4)) anil)) (bindD 5) Mi.m_law_9_5)
  (sseq (sfor (itSeq (rdv 3)) (bindD 10) Mi.m_law_9_4)
  RS.nx))))) [some (.fz (D.scr script_)), some (.fz (D.int d2)), none, none, none, none, none, none, none, none, none, none, none, none] (((t__law_feed script_ d2).bind fun (feed_3 : List (Int)) => (((t__law_many feed_3).bind fun q147 => R.ok (q147.1, q147.2)).bind fun a148 => ((fun (made_4 : List ((List ((Int) × (Int) × (Int))))) (many_5 : List ((Int) × (Int) × (Int))) (s6 : List (Int)) => ((((((((t_Table___init__ () many_5).bind fun z12 => R.ok z12.2).bind fun a13 => R.ok (a13, s6)).bind fun a14 => R.ok ((a14.1, (many_5, ())), a14.2)).bind fun a15 => ((t__law_right_3 a15.2 a15.1.1 a15.1.2.1).bind fun q16 => R.ok (q16.1, q16.2))).bind fun a17 => R.ok (!a17.1, a17.2)).bind fun a18 => (if a18.1 = true then R.ok (true, a18.2) else ((((((((((t_Table___init__ () many_5).bind fun z19 => R.ok z19.2).bind fun a21 => (t_Table___str__ a21)).bind fun a22 => R.ok (a22, ())).bind fun a23 => R.ok ((), a23)).bind fun a24 => (t_Table_parse a24.1 a24.2.1)).bind fun a29 => (((t_Table___init__ () many_5).bind fun z25 => R.ok z25.2).bind fun a30 => R.ok (a29, a30))).bind fun a28 => t_Table___eq__ a28.1 a28.2).bind fun z31 => R.ok (!z31)).bind fun a32 => R.ok (a32, a18.2)))).bind fun q34 => if q34.1 = true then (fun (s33 : List (Int)) => R.ok (Otc.rt false)) q34.2 else (fun (s33 : List (Int)) => (((rngR 0 (4 : Int)).bind fun a144 => (loopR (ρ := Bool) (fun (d37 : Int) (s36 : (List (Int)) × (List ((List ((Int) × (Int) × (Int)))))) => (((t__law_entries_2 s36.1 (10 : Int)).bind fun q38 => R.ok (q38.1, q38.2)).bind fun q41 => (fun (entries_39 : List ((Int) × (Int) × (Int))) (s40 : List (Int)) => ((R.ok entries_39).bind fun (mine_42 : List ((Int) × (Int) × (Int))) => (((((t_Table___init__ () mine_42).bind fun z43 => R.ok z43.2).bind fun a54 => ((((t_Table___init__ () entries_39).bind fun z44 => R.ok z44.2).bind fun a52 => ((((((((t_Table___init__ () entries_39).bind fun z45 => R.ok z45.2).bind fun a47 => (t_Table___str__ a47)).bind fun a48 => R.ok (a48, ())).bind fun a49 => R.ok ((), a49)).bind fun a50 => (t_Table_parse a50.1 a50.2.1)).bind fun a51 => R.ok (a51, ())).bind fun a53 => R.ok (a52, a53))).bind fun a55 => R.ok (a54, a55))).bind fun a56 => R.ok [a56.1, a56.2.1, a56.2.2.1]).bind fun (some_57 : List ((List ((Int) × (Int) × (Int))))) => ((appR mine_42 ((0 : Int), (1 : Int), (99 : Int))).bind fun (mine_58 : List ((Int) × (Int) × (Int))) => ((loopR (ρ := Bool) (fun (d60 : (List ((Int) × (Int) × (Int)))) (s59 : List (Int)) => (((((t__law_right_3 s59 d60 entries_39).bind fun q61 => R.ok (q61.1, q61.2)).bind fun a62 => R.ok (!a62.1, a62.2)).bind fun a63 => (if a63.1 = true then R.ok (true, a63.2) else (((((ixR some_57 (0 : Int)).bind fun a67 => R.ok (d60, a67)).bind fun a66 => t_Table___eq__ a66.1 a66.2).bind fun z68 => R.ok (!z68)).bind fun a69 => R.ok (a69, a63.2)))).bind fun q71 => if q71.1 = true then (fun (s70 : List (Int)) => R.ok (Otc.rt false)) q71.2 else (fun (s70 : List (Int)) => R.ok (Otc.go s70)) q71.2)) some_57 s40).bind fun o82 => o82.to (fun r83 => R.ok (Otc.rt r83)) (fun (s59 : List (Int)) => (((catR s36.2 some_57).bind fun a79 => (((((t_Table___init__ () (entries_39.reverse)).bind fun z73 => R.ok z73.2).bind fun a76 => ((((t_Table___init__ () (cut entries_39 (some (1 : Int)) none)).bind fun z74 => R.ok z74.2).bind fun a75 => R.ok (a75, ())).bind fun a77 => R.ok (a76, a77))).bind fun a78 => R.ok [a78.1, a78.2.1]).bind fun a80 => (catR a79 a80))).bind fun (made_81 : List ((List ((Int) × (Int) × (Int))))) => R.ok (Otc.go (s59, made_81))))))))) q41.1 q41.2)) a144 (s33, made_4))).bind fun o145 => o145.to (fun r146 => R.ok (Otc.rt r146)) (fun (s36 : (List (Int)) × (List ((List ((Int) × (Int) × (Int)))))) => ((loopR (ρ := Bool) (fun (d85 : (List ((Int) × (Int) × (Int)))) (s84 : Unit) => ((loopR (ρ := Bool) (fun (d87 : (List ((Int) × (Int) × (Int)))) (s86 : Unit) => (((t_Table___str__ d85).bind fun a90 => ((t_Table___str__ d87).bind fun a91 => R.ok (decide (a90 = a91)))).bind fun (same_92 : Bool) => ((((t_Table___eq__ d85 d87).bind fun a95 => (neR (D.bl a95) (D.bl same_92))).bind fun a100 => (if a100 = true then R.ok true else (((t_Table___eq__ d85 d87).bind fun z98 => R.ok (!z98)).bind fun a99 => (eqR (D.bl a99) (D.bl same_92))))).bind fun a102 => (if a102 = true then R.ok (Otc.rt false) else R.ok (Otc.go ()))))) s36.2 ()).bind fun o140 => o140.to (fun r141 => R.ok (Otc.rt r141)) (fun (s86 : Unit) => (((((((t_Table___str__ d85).bind fun a130 => R.ok (D.str a130)).bind fun a134 => R.ok (a134, ((eN ()), ((D.int (0 : Int)), (((eL (e3 D.int D.int D.int)) ([] : List ((Int) × (Int) × (Int)))), ()))))).bind fun a135 => R.ok (((eT (e3 D.int D.int D.int)) d85), a135)).bind fun a136 => R.ok [a136.1, a136.2.1, a136.2.2.1, a136.2.2.2.1, a136.2.2.2.2.1]).bind fun a137 => (loopR (ρ := Bool) (fun (d115 : D) (s114 : Unit) => ((((okR "Table" d115 (t_Table___eq___2 d85 d115)).bind fun z118 => R.ok (if false = true then !z118 else z118)).bind fun a123 => (if a123 = true then R.ok true else (((okR "Table" d115 (t_Table___eq___2 d85 d115)).bind fun z121 => R.ok (if true = true then !z121 else z121)).bind fun a122 => R.ok (!a122)))).bind fun a125 => (if a125 = true then R.ok (Otc.rt false) else R.ok (Otc.go ())))) a137 ())).bind fun o138 => o138.to (fun r139 => R.ok (Otc.rt r139)) (fun (s114 : Unit) => R.ok (Otc.go ())))))) s36.2 ()).bind fun o142 => o142.to (fun r143 => R.ok (Otc.rt r143)) (fun (s84 : Unit) => R.ok (Otc.go ())))))) q34.2)) ([] : List ((List ((Int) × (Int) × (Int))))) a148.1 a148.2)))) (IOut [.no 1, .no 2, .no 3, .no 4] (fun (sI_7 : Unit) => [some (.fz (D.scr script_)), none, none, none, none, none, none, none, none, none, none, none, none, none]) (fun (r : Bool) => .fz (D.bl r)) (fun (r : Bool) e => muts [.fz (D.scr script_)] e = (fun (_ : Bool) => ([.fz (D.scr script_)] : List Sl).map fun _ => none) r)) := by
  have h : CB (sseq (sasg 2 (callF [.rd, .rd] Mi.f__law_feed (acons (rdv 0) (acons (rdv 1) anil))))
  (sseq (sadj [.fz 3, .fz 4] (spar [3, 4] [(dsp (fun ds => .new (.lst ds)) anil), (callF [.mt] Mi.f__law_many (acons (rdv 2) anil))]))
  (sseq (sif (tor (tnot (trt (callF [.mt, .rd, .rd] Mi.f__law_right_3 (acons (rdv 2) (acons (mkF "Table" [.rd] Mi.f_Table___init__ (acons (rdv 4) anil)) (acons (rdv 4) anil)))))) (tst (oeq "Table" true Mi.f_Table___eq__ (callF (.rd :: [.rd]) Mi.f_Table_parse (acons (kst (.fn "Table")) (acons (ostr "Table" Mi.f_Table___str__ (mkF "Table" [.rd] Mi.f_Table___init__ (acons (rdv 4) anil))) anil))) (mkF "Table" [.rd] Mi.f_Table___init__ (acons (rdv 4) anil))))) (sseq (sretF (kst (.bl false)))
  RS.nx) RS.nx)
  (sseq (sfor (itRng1 (acons (kst (.int 4)) anil)) (bindD 5) Mi.m_law_9_5)
  (sseq (sfor (itSeq (rdv 3)) (bindD 10) Mi.m_law_9_4)
  RS.nx))))) [some (.fz (D.scr script_)), some (.fz (D.int d2)), none, none, none, none, none, none, none, none, none, none, none, none] _ (IOut [.no 1, .no 2, .no 3, .no 4] (fun (sI_7 : Unit) => [some (.fz (D.scr script_)), none, none, none, none, none, none, none, none, none, none, none, none, none]) (fun (r : Bool) => .fz (D.bl r)) (fun (r : Bool) e => muts [.fz (D.scr script_)] e = (fun (_ : Bool) => ([.fz (D.scr script_)] : List Sl).map fun _ => none) r)) := (c_asgN (fun (feed_3 : List (Int)) => [some (.fz (D.scr script_)), some (.fz (D.int d2)), some (.ow ((oL D.int) feed_3)), none, none, none, none, none, none, none, none, none, none, none]) (n_call (c := (oL D.int)) (t := fun p : (List Int) × (Int) × Unit => t__law_feed p.1 p.2.1) (k_rd (h_v (ca := D.scr)) (k_rd (h_v (ca := D.int)) k_nil)) (fun p => c__law_feed p.1 p.2.1) (hn :=  (fun h => nomatch h))) (fun feed_3 => (c_par2 (E := (fun (s6 : List (Int)) => [some (.fz (D.scr script_)), some (.fz (D.int d2)), some (.ow ((oL D.int) s6)), none, none, none, none, none, none, none, none, none, none, none])) (s := feed_3) (c1 := fun z => .fz ((eL (eI "Table" ["entries"] (fun (p : (List ((Int) × (Int) × (Int)))) => [(eT (e3 D.int D.int D.int)) p]))) z)) (c2 := fun z => .fz ((eL (e3 D.int D.int D.int)) z)) (fun (made_4 : List ((List ((Int) × (Int) × (Int))))) (many_5 : List ((Int) × (Int) × (Int))) s6 => [some (.fz (D.scr script_)), some (.fz (D.int d2)), some (.ow ((oL D.int) s6)), some (.fz ((eL (eI "Table" ["entries"] (fun (p : (List ((Int) × (Int) × (Int)))) => [(eT (e3 D.int D.int D.int)) p]))) made_4)), some (.fz ((eL (e3 D.int D.int D.int)) many_5)), none, none, none, none, none, none, none, none, none]) (EN.as (c' := oL (eI "Table" ["entries"] (fun (p : (List ((Int) × (Int) × (Int)))) => [(eT (e3 D.int D.int D.int)) p]))) (n_dsp (cz := fun p : Unit => O.lst []) ah_nil 0) (fun p => [])).m.h.pm (fun _ => (nm_call (c := (oL (e3 D.int D.int D.int))) (t := fun (p : Unit) (s : List (Int)) => t__law_many s) (km_mt (om := fun s => (oL D.int) s) (by intro _; rfl) km_nil) (fun s m => m) (fun p s => c__law_many s)).h.pm) (fun made_4 many_5 s6 => (c_ifM (E := fun (s33 : List (Int)) => [some (.fz (D.scr script_)), some (.fz (D.int d2)), some (.ow ((oL D.int) s33)), some (.fz ((eL (eI "Table" ["entries"] (fun (p : (List ((Int) × (Int) × (Int)))) => [(eT (e3 D.int D.int D.int)) p]))) made_4)), some (.fz ((eL (e3 D.int D.int D.int)) many_5)), none, none, none, none, none, none, none, none, none]) (s := s6) (tm_or (tm_not (tm_bl (hm_call (c := D.bl) (t := fun (p : ((List ((Int) × (Int) × (Int)))) × (List ((Int) × (Int) × (Int))) × Unit) (s : List (Int)) => t__law_right_3 s p.1 p.2.1) (km_mt (om := fun s => (oL D.int) s) (by intro _; rfl) (km_rd (EN.as (c' := (oI "Table" ["entries"] (fun (p : (List ((Int) × (Int) × (Int)))) => [(eT (e3 D.int D.int D.int)) p]))) (n_mkF (c := "Table") (t := fun p : (List ((Int) × (Int) × (Int))) × Unit => t_Table___init__ () p.1) (cz := fun (z12 : (Unit) × ((List ((Int) × (Int) × (Int))))) => (oI "Table" ["entries"] (fun (p : (List ((Int) × (Int) × (Int)))) => [(eT (e3 D.int D.int D.int)) p])) z12.2) (k_rd (h_v (ca := (eL (e3 D.int D.int D.int)))) k_nil) (fun p => c_Table___init__ () p.1)) (fun (z12 : (Unit) × ((List ((Int) × (Int) × (Int))))) => z12.2)).m.h (fun _ => (km_rd (h_v (ca := (eL (e3 D.int D.int D.int)))).m (fun _ => km_nil))))) (fun s m => m) (fun p s => c__law_right_3 s p.1 p.2.1)).c)) (fun _ => (t_tst (h_ownN (gs := (fun (p : (List ((Int) × (Int) × (Int)))) => [(eT (e3 D.int D.int D.int)) p])) (t := fun (a26 : (List ((Int) × (Int) × (Int)))) (a27 : (List ((Int) × (Int) × (Int)))) => t_Table___eq__ a26 a27) (h_call (c := (eI "Table" ["entries"] (fun (p : (List ((Int) × (Int) × (Int)))) => [(eT (e3 D.int D.int D.int)) p]))) (t := fun p : (Unit) × (Str) × Unit => t_Table_parse p.1 p.2.1) (k_rd (h_kst (ca := eF "Table") (a := ())) (k_rd (h_strInst (gs := (fun (p : (List ((Int) × (Int) × (Int)))) => [(eT (e3 D.int D.int D.int)) p])) (t := fun (a20 : (List ((Int) × (Int) × (Int)))) => t_Table___str__ a20) (EN.as (c' := (oI "Table" ["entries"] (fun (p : (List ((Int) × (Int) × (Int)))) => [(eT (e3 D.int D.int D.int)) p]))) (n_mkF (c := "Table") (t := fun p : (List ((Int) × (Int) × (Int))) × Unit => t_Table___init__ () p.1) (cz := fun (z19 : (Unit) × ((List ((Int) × (Int) × (Int))))) => (oI "Table" ["entries"] (fun (p : (List ((Int) × (Int) × (Int)))) => [(eT (e3 D.int D.int D.int)) p])) z19.2) (k_rd (h_v (ca := (eL (e3 D.int D.int D.int)))) k_nil) (fun p => c_Table___init__ () p.1)) (fun (z19 : (Unit) × ((List ((Int) × (Int) × (Int))))) => z19.2)).h (fun a20 => c_Table___str__ a20)) k_nil)) (fun p => c_Table_parse p.1 p.2.1) (hn := (fun h => nomatch h))) (EN.as (c' := (oI "Table" ["entries"] (fun (p : (List ((Int) × (Int) × (Int)))) => [(eT (e3 D.int D.int D.int)) p]))) (n_mkF (c := "Table") (t := fun p : (List ((Int) × (Int) × (Int))) × Unit => t_Table___init__ () p.1) (cz := fun (z25 : (Unit) × ((List ((Int) × (Int) × (Int))))) => (oI "Table" ["entries"] (fun (p : (List ((Int) × (Int) × (Int)))) => [(eT (e3 D.int D.int D.int)) p])) z25.2) (k_rd (h_v (ca := (eL (e3 D.int D.int D.int)))) k_nil) (fun p => c_Table___init__ () p.1)) (fun (z25 : (Unit) × ((List ((Int) × (Int) × (Int))))) => z25.2)).h (fun a26 a27 => c_Table___eq__ a26 a27) (by intro _; rfl))).m)) (fun s33 => (c_assoc (c_ret (c := D.bl) (w := fun (a35 : Bool) => (Otc.rt a35)) (h_kst (ca := D.bl) (a := false)) (fun _ => ⟨_, rfl, rfl⟩)))) (fun s33 => (c_nxg (c_forO (ed := D.int) (s0 := (s33, made_4)) (E1 := (fun (d37 : Int) (s36 : (List (Int)) × (List ((List ((Int) × (Int) × (Int)))))) => [some (.fz (D.scr script_)), some (.fz (D.int d2)), some (.ow ((oL D.int) s36.1)), some (.fz ((eL (eI "Table" ["entries"] (fun (p : (List ((Int) × (Int) × (Int)))) => [(eT (e3 D.int D.int D.int)) p]))) s36.2)), some (.fz ((eL (e3 D.int D.int D.int)) many_5)), some (.fz (D.int d37)), none, none, none, none, none, none, none, none])) (vr := (fun (r : Bool) => .fz (D.bl r))) (M := (fun (r : Bool) e => muts [.fz (D.scr script_)] e = (fun (_ : Bool) => ([.fz (D.scr script_)] : List Sl).map fun _ => none) r)) (kr := fun (r146 : Bool) => R.ok (Otc.rt r146)) (fun (s36 : (List (Int)) × (List ((List ((Int) × (Int) × (Int)))))) => [some (.fz (D.scr script_)), some (.fz (D.int d2)), some (.ow ((oL D.int) s36.1)), some (.fz ((eL (eI "Table" ["entries"] (fun (p : (List ((Int) × (Int) × (Int)))) => [(eT (e3 D.int D.int D.int)) p]))) s36.2)), some (.fz ((eL (e3 D.int D.int D.int)) many_5)), none, none, none, none, none, none, none, none, none]) (i_r1 (h_kst (ca := D.int) (a := 4)).c) (fun d37 s36 => (c_law_9_b3 script_ d2 many_5 s36 d37)) (fun s36 => (c_forO (ed := (eI "Table" ["entries"] (fun (p : (List ((Int) × (Int) × (Int)))) => [(eT (e3 D.int D.int D.int)) p]))) (s0 := ()) (E1 := (fun (d85 : (List ((Int) × (Int) × (Int)))) (s84 : Unit) => [some (.fz (D.scr script_)), some (.fz (D.int d2)), some (.ow ((oL D.int) s36.1)), some (.fz ((eL (eI "Table" ["entries"] (fun (p : (List ((Int) × (Int) × (Int)))) => [(eT (e3 D.int D.int D.int)) p]))) s36.2)), some (.fz ((eL (e3 D.int D.int D.int)) many_5)), none, none, none, none, none, some (.fz ((eI "Table" ["entries"] (fun (p : (List ((Int) × (Int) × (Int)))) => [(eT (e3 D.int D.int D.int)) p])) d85)), none, none, none])) (vr := (fun (r : Bool) => .fz (D.bl r))) (M := (fun (r : Bool) e => muts [.fz (D.scr script_)] e = (fun (_ : Bool) => ([.fz (D.scr script_)] : List Sl).map fun _ => none) r)) (kr := fun (r143 : Bool) => R.ok (Otc.rt r143)) (fun (s84 : Unit) => [some (.fz (D.scr script_)), some (.fz (D.int d2)), some (.ow ((oL D.int) s36.1)), some (.fz ((eL (eI "Table" ["entries"] (fun (p : (List ((Int) × (Int) × (Int)))) => [(eT (e3 D.int D.int D.int)) p]))) s36.2)), some (.fz ((eL (e3 D.int D.int D.int)) many_5)), none, none, none, none, none, none, none, none, none]) (i_L (h_v (ca := (eL (eI "Table" ["entries"] (fun (p : (List ((Int) × (Int) × (Int)))) => [(eT (e3 D.int D.int D.int)) p])))))) (fun d85 s84 => (c_law_9_b6 script_ d2 s36 many_5 d85)) (fun s84 => (c_nx (w := (Otc.go ())) ⟨_, .inl rfl, adjR rfl⟩)) (fun r e h => ⟨e, rfl, h⟩))) (fun r e h => ⟨e, rfl, h⟩)))))))))
  exact h
theorem c_law_9 (script_ : List Int) : F0 Mi.f_law_9 [.fz (D.scr script_)] (t_law_11 script_) (fun (r : Bool) => .fz (D.bl r)) := by
  have h : F0 Mi.f_law_9 [.fz (D.scr script_)] _ (fun (r : Bool) => .fz (D.bl r)) := f_mk0 (n := 14) (m := Mi.m_law_9) (vr := (fun (r : Bool) => .fz (D.bl r))) [some (.fz (D.scr script_)), none, none, none, none, none, none, none, none, none, none, none, none, none] (c_forO (ed := D.int) (s0 := ()) (E1 := (fun (d2 : Int) (s1 : Unit) => [some (.fz (D.scr script_)), some (.fz (D.int d2)), none, none, none, none, none, none, none, none, none, none, none, none])) (vr := (fun (r : Bool) => .fz (D.bl r))) (M := (fun (r : Bool) e => muts [.fz (D.scr script_)] e = (fun (_ : Bool) => ([.fz (D.scr script_)] : List Sl).map fun _ => none) r)) (kr := fun (r152 : Bool) => R.ok r152) (fun (s1 : Unit) => [some (.fz (D.scr script_)), none, none, none, none, none, none, none, none, none, none, none, none, none]) (i_r1 (h_max (h_kst (ca := D.int) (a := 2)).c (h_min (h_kst (ca := D.int) (a := 5)).c (h_lenX (h_v (ca := D.scr)).c).c).c).c) (fun d2 s1 => (c_law_9_b7 script_ d2)) (fun s1 => (c_ret (c := D.bl) (w := fun (a149 : Bool) => a149) (h_kst (ca := D.bl) (a := true)) (fun _ => ⟨_, rfl, rfl⟩))) (fun r e h => ⟨e, rfl, h⟩))
  exact h
end Ty

/-! draws (the laws k01 to k09, k50, k52, k80 to k91) -/
namespace Dr
open PySem L2 PL Ty
abbrev Fd (f : List Int) : Prop := f.length = 2
theorem tk_ok {f : List Int} {m : Int} (hf : Fd f) (h : 0 < m) (h2 : m < 18446744073709551616) : ∃ v f', t__law_take f m = .ok (v, f') ∧ Fd f' ∧ 0 ≤ v ∧ v < m := by
  match f, hf with
  | [a, b], _ =>
    by_cases c : 0 < a
    · exact ⟨a % m, [a / m, b], by simp [t__law_take, c, modR_ok h, divR_ok h h2, setR_0], rfl, Int.emod_nonneg _ (by omega), Int.emod_lt_of_pos _ h⟩
    · exact ⟨_, _, by simp [t__law_take, c, mulR_r, modR_ok, modR_ok h, divR_ok, setR_1]; exact ⟨rfl, rfl⟩, rfl, Int.emod_nonneg _ (by omega), Int.emod_lt_of_pos _ h⟩
theorem pk_ok {f : List Int} {l : List Int} (hf : Fd f) (h : 0 < l.length) (h2 : l.length ≤ 100000) : ∃ v f', t__law_pick f l = .ok (v, f') ∧ Fd f' ∧ v ∈ l := by
  obtain ⟨i, f', e, hf', i0, i1⟩ := tk_ok (m := (l.length : Int)) hf (by omega) (by omega)
  obtain ⟨v, e2, hv⟩ := ixR_ok l i i0 i1
  exact ⟨v, f', by simp [t__law_pick, e, e2], hf', hv⟩
theorem fd_ok (ns : List Int) {k : Int} (h0 : 0 ≤ k) : ∃ f, t__law_feed ns k = .ok f ∧ Fd f := by
  have e7 : ∀ a, mulR a (6364136223846793005 : Int) = .ok (a * 6364136223846793005) := fun a => mulR_r (by decide) (by decide)
  have e8 : mulR (7919 : Int) k = .ok (7919 * k) := mulR_l (by decide) (by decide)
  have e9 : mulR (83 : Int) k = .ok (83 * k) := mulR_l (by decide) (by decide)
  have e6 : ∀ a, modR a (2305843009213693951 : Int) = .ok (a % 2305843009213693951) := fun a => modR_ok (by decide)
  by_cases c : k < (ns.length : Int)
  · obtain ⟨v, e, _⟩ := ixR_ok ns k h0 c
    exact ⟨_, by simp only [t__law_feed, c, decide_true, if_true, e, R.bind_ok, e7, e8, e6]; rfl, rfl⟩
  · exact ⟨_, by simp only [t__law_feed, c, decide_false, if_false, Bool.false_eq_true, e9, R.bind_ok, e7, e8, e6]; rfl, rfl⟩
end Dr

/-! tables: amounts, wear -/
namespace Tab
open PySem L2 PL Ty Dr
abbrev En3 := Int × Int × Int
abbrev isIn (p : Int × Int) (e : En3) : Bool := decide (p.1 ≤ e.1) && decide (e.2.1 ≤ p.2)
/-- the amount of a range -/
def am (T : List En3) (p : Int × Int) : Int := maxDl 0 ((T.filter (isIn p)).map (·.2.2))
def Ge (T : List En3) : Prop := ∀ e ∈ T, 0 ≤ e.2.2 ∧ e.1 < e.2.1
theorem maxDl_lt {l : List Int} {k : Int} (h : 0 ≤ k) : k < maxDl 0 l ↔ ∃ a ∈ l, k < a := by
  unfold maxDl
  by_cases c : l = []
  · subst c; simp; omega
  · rw [if_neg c]
    obtain ⟨m1, m2⟩ := maxL_mem c
    exact ⟨fun q => ⟨_, m1, q⟩, fun ⟨a, ha, q⟩ => by have := m2 a ha; omega⟩
theorem am_lt {T : List En3} {p : Int × Int} {k : Int} (h : 0 ≤ k) : k < am T p ↔ ∃ e ∈ T, (p.1 ≤ e.1 ∧ e.2.1 ≤ p.2) ∧ k < e.2.2 := by
  unfold am
  rw [maxDl_lt h]
  constructor
  · rintro ⟨a, ha, q⟩
    obtain ⟨e, he, rfl⟩ := List.mem_map.mp ha
    obtain ⟨h1, h2⟩ := List.mem_filter.mp he
    simp only [isIn, Bool.and_eq_true, decide_eq_true_eq] at h2
    exact ⟨e, h1, h2, q⟩
  · rintro ⟨e, he, h2, q⟩
    exact ⟨e.2.2, List.mem_map.mpr ⟨e, List.mem_filter.mpr ⟨he, by simp only [isIn, Bool.and_eq_true, decide_eq_true_eq]; exact h2⟩, rfl⟩, q⟩
theorem am_0 {T : List En3} (g : Ge T) (p : Int × Int) : 0 ≤ am T p := by
  unfold am maxDl
  split
  · exact Int.le_refl _
  · rename_i c
    obtain ⟨m1, _⟩ := maxL_mem c
    obtain ⟨e, he, h⟩ := List.mem_map.mp m1
    rw [← h]; exact (g e (List.mem_filter.mp he).1).1
/-- two amounts by the entries that lie above each bound -/
theorem am_le {T T' : List En3} (g : Ge T) (g' : Ge T') {p p' : Int × Int} (h : ∀ k, 0 ≤ k → (∃ e ∈ T, (p.1 ≤ e.1 ∧ e.2.1 ≤ p.2) ∧ k < e.2.2) → ∃ e ∈ T', (p'.1 ≤ e.1 ∧ e.2.1 ≤ p'.2) ∧ k < e.2.2) : am T p ≤ am T' p' := by
  apply Classical.byContradiction
  intro n
  have n0 := am_0 g' p'
  have := (am_lt n0).mpr (h (am T' p') n0 ((am_lt n0).mp (by omega)))
  omega
theorem am_mono {T : List En3} (g : Ge T) {o i : Int × Int} (h1 : o.1 ≤ i.1) (h2 : i.2 ≤ o.2) : am T i ≤ am T o :=
  am_le g g fun k _ ⟨e, he, h, q⟩ => ⟨e, he, ⟨by omega, by omega⟩, q⟩
theorem am_more {T : List En3} (g : Ge T) {e : En3} (ge : 0 ≤ e.2.2 ∧ e.1 < e.2.1) (p : Int × Int) : am (T ++ [e]) p = if p.1 ≤ e.1 ∧ e.2.1 ≤ p.2 then max (am T p) e.2.2 else am T p := by
  have g' : Ge (T ++ [e]) := fun x hx => by
    rcases List.mem_append.mp hx with hx | hx
    · exact g x hx
    · rw [List.mem_singleton] at hx; subst hx; exact ge
  have n0 := am_0 g p
  have n1 := am_0 g' p
  have up : am T p ≤ am (T ++ [e]) p := am_le g g' fun k _ ⟨x, hx, h, q⟩ => ⟨x, List.mem_append_left _ hx, h, q⟩
  split
  · rename_i c
    apply Int.le_antisymm
    · apply Classical.byContradiction
      intro n
      obtain ⟨x, hx, h, q⟩ := (am_lt (T := T ++ [e]) (p := p) (k := max (am T p) e.2.2) (by omega)).mp (by omega)
      rcases List.mem_append.mp hx with hx | hx
      · have := (am_lt (T := T) (p := p) (k := max (am T p) e.2.2) (by omega)).mpr ⟨x, hx, h, q⟩
        omega
      · rw [List.mem_singleton] at hx; subst hx; omega
    · have : e.2.2 ≤ am (T ++ [e]) p := by
        apply Classical.byContradiction
        intro n
        have := (am_lt (T := T ++ [e]) (p := p) n1).mpr ⟨e, by simp, c, by omega⟩
        omega
      omega
  · rename_i c
    refine Int.le_antisymm ?_ up
    refine am_le g' g fun k _ ⟨x, hx, h, q⟩ => ?_
    rcases List.mem_append.mp hx with hx | hx
    · exact ⟨x, hx, h, q⟩
    · rw [List.mem_singleton] at hx; subst hx; exact absurd h c
theorem am_idle {T : List En3} (g : Ge T) {e : En3} (ge : e.2.2 = 0 ∧ e.1 < e.2.1) (p : Int × Int) : am (T.reverse ++ T ++ [e]) p = am T p := by
  have g' : Ge (T.reverse ++ T ++ [e]) := fun x hx => by
    simp only [List.mem_append, List.mem_reverse, List.mem_singleton] at hx
    rcases hx with (hx | hx) | hx
    · exact g x hx
    · exact g x hx
    · subst hx; exact ⟨by omega, ge.2⟩
  apply Int.le_antisymm
  · refine am_le g' g fun k h0 ⟨x, hx, h, q⟩ => ?_
    simp only [List.mem_append, List.mem_reverse, List.mem_singleton] at hx
    rcases hx with (hx | hx) | hx
    · exact ⟨x, hx, h, q⟩
    · exact ⟨x, hx, h, q⟩
    · subst hx; omega
  · exact am_le g g' fun k _ ⟨x, hx, h, q⟩ => ⟨x, by simp [hx], h, q⟩
theorem table_ok {T : List En3} (hl : T.length ≤ 1000000) : t_Table___init__ () T = .ok ((), T) := by
  unfold t_Table___init__
  rw [lcR_map (fun d => d) (fun _ => rfl) (fun _ _ => rfl) (by omega), List.map_id']
  rfl
theorem amount_ok {T : List En3} (hl : T.length ≤ 1000000) (lo hi : Int) : t_Table_amount T lo hi = .ok (am T (lo, hi)) := by
  unfold t_Table_amount
  rw [lcR_eq (isIn (lo, hi)) (fun e => e.2.2) (fun d _ => ⟨by
    by_cases c : lo ≤ d.1 <;> simp [isIn, c], fun _ => rfl⟩) (by omega)]
  rfl
theorem sum_nat {T : List En3} (g : Ge T) : ∀ rs : List (Int × Int), (rs.map (am T)).sum = ((rs.map fun p => (am T p).toNat).sum : Nat)
  | [] => rfl
  | p :: rs => by
    have := am_0 g p
    simp only [List.map_cons, List.sum_cons, sum_nat g rs]
    omega
theorem interval_ok {f : List Int} {m : Int} (hf : Fd f) (h : 0 < m) (h2 : m < 1000) : ∃ p f', t__law_interval f m = .ok (p, f') ∧ Fd f' ∧ p.1 < p.2 ∧ 0 ≤ p.1 ∧ p.2 ≤ m := by
  obtain ⟨a, f1, e1, h1, a0, a1⟩ := tk_ok (m := m) hf h (by omega)
  obtain ⟨b, f2, e2, h3, b0, b1⟩ := tk_ok (m := m - a) h1 (by omega) (by omega)
  refine ⟨(a, a + 1 + b), f2, ?_, h3, by show a < a + 1 + b; omega, a0, by show a + 1 + b ≤ m; omega⟩
  unfold t__law_interval
  simp only [e1, e2, R.bind_ok]
theorem ixR_m {α : Type} {l : List α} (h : l ≠ []) : ∃ a ∈ l, ixR l (-1) = .ok a := by
  have hp := List.length_pos_iff.mpr h
  have hn : ixN l.length (-1) = some (l.length - 1) := by
    obtain ⟨n, e⟩ : ∃ n, l.length = n + 1 := ⟨l.length - 1, by omega⟩
    unfold ixN
    rw [e]
    simp
    omega
  refine ⟨l[l.length - 1]'(by omega), List.getElem_mem _, ?_⟩
  unfold ixR atI
  rw [hn]
  show (match l[l.length - 1]? with
    | some a => R.ok a
    | none => R.no) = _
  rw [List.getElem?_eq_getElem (by omega)]
end Tab

/-! the laws' own entries -/
namespace Tab
open PySem L2 PL Ty Dr
theorem foldR_iex {ω τ δ σ : Type} {b : δ → σ → R σ} {ds : List δ} {s : σ} {k : σ → R ω} {g : τ → ω} {Q : τ → Prop} (I : Nat → σ → Prop) (h : I 0 s) (H : ∀ j d s, ds[j]? = some d → I j s → ∃ s', b d s = .ok s' ∧ I (j + 1) s') (hk : ∀ s', I ds.length s' → ∃ t, k s' = .ok (g t) ∧ Q t) : ∃ t, (foldR b ds s).bind k = .ok (g t) ∧ Q t := by
  obtain ⟨s', h1, h2⟩ := foldR_inv I ds 0 s h fun j d s hj hs => by rw [Nat.zero_add] at hs ⊢; exact H j d s hj hs
  rw [Nat.zero_add] at h2
  rw [h1]; exact hk s' h2
theorem ne3 (a b : List En3) : neR (eL (PL.e3 D.int D.int D.int) a) (eL (PL.e3 D.int D.int D.int) b) = .ok (!decide (a = b)) := (gd_L (gd_3 (gd_int (k := 0)) gd_int gd_int)).ne (by decide) a b
/-- the entries are small -/
def Sm3 (T : List En3) : Prop := ∀ e ∈ T, 0 ≤ e.1 ∧ e.1 < e.2.1 ∧ e.2.1 ≤ 10 ∧ 0 ≤ e.2.2 ∧ e.2.2 ≤ 1000000
theorem entries_ok2 {f : List Int} (hf : Fd f) : ∃ t : List En3 × List Int, t__law_entries_2 f 10 = .ok t ∧ Fd t.2 ∧ Sm3 t.1 ∧ t.1.length ≤ 6 := by
  obtain ⟨n, f1, e1, h1, n0, n1⟩ := tk_ok (m := 7) hf (by decide) (by decide)
  unfold t__law_entries_2
  simp only [e1, R.bind_ok]
  rw [rngR_ok (by decide) (by decide) (by omega) (by omega)]
  simp only [R.bind_ok]
  refine foldR_iex (g := fun t : List En3 × List Int => t) (Q := fun t => Fd t.2 ∧ Sm3 t.1 ∧ t.1.length ≤ 6) (fun j st => Fd st.1 ∧ Sm3 st.2 ∧ st.2.length = j) ⟨h1, ⟨fun _ h => (nomatch h), rfl⟩⟩ ?_ ?_
  · rintro j d ⟨f, found⟩ hj ⟨i1, i2, i3⟩
    simp only at i1 i2 i3
    have hj1 := (List.getElem?_eq_some_iff.mp hj).1
    rw [rng_len] at hj1
    obtain ⟨p, f2, e2, h2, p1, p0, p2⟩ := interval_ok (m := 10) i1 (by decide) (by decide)
    -- the range may be the last one's
    have key : ∃ q : Int × Int, ∃ f3, ((((neR ((eL (PL.e3 D.int D.int D.int)) found) ((eL (PL.e3 D.int D.int D.int)) ([] : List ((Int) × (Int) × (Int))))).bind fun a13 => R.ok (a13, f2)).bind fun a14 => (if a14.1 = true then (((t__law_take a14.2 (4 : Int)).bind fun q15 => R.ok (q15.1, q15.2)).bind fun a16 => R.ok ((decide (a16.1 = (0 : Int))), a16.2)) else R.ok (false, a14.2))).bind fun q18 => if q18.1 = true then (fun (s17 : List (Int)) => (((((((ixR found (-1 : Int)).bind fun a25 => R.ok [a25.1, a25.2.1, a25.2.2]).bind fun a26 => R.ok (cut a26 none (some (2 : Int))))).bind unl2).bind fun (u27 : (Int) × (Int)) => R.ok (s17, u27.1, u27.2)) : R ((List (Int)) × (Int) × (Int)))) q18.2 else (fun (s17 : List (Int)) => (R.ok (s17, p.1, p.2) : R ((List (Int)) × (Int) × (Int)))) q18.2) = .ok (f3, q.1, q.2) ∧ Fd f3 ∧ 0 ≤ q.1 ∧ q.1 < q.2 ∧ q.2 ≤ 10 := by
      rw [ne3]
      by_cases c : found = []
      · exact ⟨p, f2, by simp [c], h2, p0, p1, p2⟩
      · obtain ⟨v, f3, e3, h3, v0, v1⟩ := tk_ok (m := 4) h2 (by decide) (by decide)
        by_cases v2 : v = 0
        · obtain ⟨e, he, hx⟩ := ixR_m c
          refine ⟨(e.1, e.2.1), f3, ?_, h3, (i2 e he).1, (i2 e he).2.1, (i2 e he).2.2.1⟩
          have cc : cut [e.1, e.2.1, e.2.2] none (some (2 : Int)) = [e.1, e.2.1] := rfl
          simp only [c, decide_false, Bool.not_false, R.bind_ok, if_true, e3, v2, decide_true, hx, cc, unl2]
        · exact ⟨p, f3, by simp [c, e3, v2], h3, p0, p1, p2⟩
    obtain ⟨q, f3, e3, h3, q0, q1, q2⟩ := key
    obtain ⟨v, f4, e4, h4, v0, v1⟩ := tk_ok (m := 50) h3 (by decide) (by decide)
    obtain ⟨u, f5, e5, h5, hu⟩ := pk_ok (l := [0, 1, 2, 5, 1000000, v]) h4 (by simp) (by simp)
    refine ⟨(f5, found ++ [(q.1, q.2, u)]), ?_, h5, fun e he => ?_, by show (found ++ [_]).length = _; rw [List.length_append, i3]; rfl⟩
    · simp only [e2, R.bind_ok] at e3 ⊢
      rw [e3]
      simp only [R.bind_ok, e4, e5]
      rw [appR_ok (by omega)]
      rfl
    · rcases List.mem_append.mp he with he | he
      · exact i2 e he
      · rw [List.mem_singleton] at he; subst he
        simp only [List.mem_cons, List.not_mem_nil, or_false] at hu
        refine ⟨q0, q1, q2, ?_, ?_⟩
        · show 0 ≤ u; omega
        · show u ≤ 1000000; omega
  · rintro ⟨f', T⟩ ⟨i1, i2, i3⟩
    rw [rng_len] at i3
    simp only at i1 i2 i3
    exact ⟨(T, f'), rfl, i1, i2, by show T.length ≤ 6; omega⟩
theorem entries_ok {f : List Int} (hf : Fd f) : ∃ t : List En3 × List Int, t__law_entries_2 f 10 = .ok t ∧ Fd t.2 ∧ Ge t.1 ∧ t.1.length ≤ 6 := by
  obtain ⟨t, h1, h2, h3, h4⟩ := entries_ok2 hf
  exact ⟨t, h1, h2, fun e he => ⟨(h3 e he).2.2.2.1, (h3 e he).2.1⟩, h4⟩
end Tab

/-! whole numbers as texts, read again -/
namespace Num
open PySem L2 PL Ty
abbrev ns (i : Int) : Str := Str.ofString (toString i)
abbrev cs (x : Str) : List Nat := x.cps.toList
theorem str_ext {x y : Str} (h : cs x = cs y) : x = y := by
  have : x.cps = y.cps := Array.toList_inj.mp h
  cases x; cases y; simp only at this; rw [this]
theorem len_cs (x : Str) : x.length = (cs x).length := (Array.length_toList).symm
abbrev dg (n : Nat) : List Nat := (Nat.toDigits 10 n).map Char.toNat
theorem cs_nat (n : Nat) : cs (ns (n : Int)) = dg n := PySem.W.KIN.signs_num n
theorem digs (n : Nat) : PySem.NumText.AllDigits (dg n) := by
  intro c hc
  obtain ⟨ch, hch, e⟩ := List.mem_map.mp hc
  have h := Nat.isDigit_of_mem_toDigits (by decide) (by decide) hch
  rw [← e]
  unfold Char.isDigit at h
  rw [Bool.and_eq_true, decide_eq_true_eq, decide_eq_true_eq] at h
  exact ⟨h.1, h.2⟩
theorem cs_neg (n : Nat) : cs (ns (-((n + 1 : Nat) : Int))) = 45 :: dg (n + 1) := by
  show (Str.ofString (toString (Int.negSucc n))).cps.toList = _
  rw [PyProof.Rows.signs_ofString]
  show ("-" ++ Nat.repr (n + 1)).toList.map Char.toNat = _
  rw [String.toList_append, List.map_append, Nat.toList_repr]
  rfl
theorem dg_ne (n : Nat) : dg n ≠ [] := fun e => Nat.toDigits_ne_nil (List.map_eq_nil_iff.mp e)
theorem nslen {i : Int} (h : i.natAbs ≤ 1000000000) : (ns i).length ≤ 11 := by
  have := PySem.int_text_length_le10 (a := i) (k := 10) (by decide) (by omega)
  show (Str.ofString (toString i)).length ≤ 11
  rw [PySem.ofString_length]; omega
theorem strR_ns {i : Int} (h : i.natAbs ≤ 1000000000) : strR i = .ok (ns i) := by
  refine chk_of ?_ _
  by_cases z : i.natAbs = 0
  · rw [z]; decide
  · exact Nat.lt_of_lt_of_le ((Nat.log2_lt z).mpr (show i.natAbs < 2 ^ 63 by omega)) (by decide)
theorem split_i (i : Int) : (∃ n : Nat, i = (n : Int)) ∨ ∃ n : Nat, i = -((n + 1 : Nat) : Int) := by
  by_cases h : 0 ≤ i
  · exact .inl ⟨i.toNat, by omega⟩
  · exact .inr ⟨(-i).toNat - 1, by omega⟩
theorem intS_ns {i : Int} (h : i.natAbs ≤ 1000000000) : intS (ns i) = .ok i := by
  have hl := nslen h
  unfold intS
  rw [if_pos (by omega)]
  have : PySem.intText? (ns i) = some i := by
    rcases split_i i with ⟨n, rfl⟩ | ⟨n, rfl⟩
    · exact PySem.W.KIN.num_reads (by omega) (by omega)
    · rw [PySem.intText_neg (cs_neg n) (digs (n + 1)) (dg_ne _) (by omega), PySem.W.KIN.val_back]
  rw [this]
theorem dg_len {n : Nat} (h : n ≤ 1000000000) : 1 ≤ (dg n).length ∧ (dg n).length ≤ 10 := by
  have h1 : (dg n).length ≠ 0 := fun e => dg_ne n (List.length_eq_zero_iff.mp e)
  have h2 := PySem.int_text_length_le10 (a := (n : Int)) (k := 10) (by decide) (by omega)
  have h3 : (ns (n : Int)).length ≤ 11 := nslen (by omega)
  have e := len_cs (ns (n : Int))
  rw [cs_nat] at e
  refine ⟨by omega, ?_⟩
  have k : (ns (n : Int)).length ≤ 10 := PySem.W.KT.len_num (n := (n : Int)) (by omega) (by omega)
  have e : (ns (n : Int)).length = (dg n).length := e
  omega
/-- signs of digits are digits -/
theorem dig_in {c : Nat} (h : 48 ≤ c ∧ c ≤ 57) : inSR ⟨#[c]⟩ "0123456789" = .ok true := by
  have e : cs ("0123456789" : Str) = [48, 49, 50, 51, 52, 53, 54, 55, 56, 57] := by decide +kernel
  show R.ok (decide (c ∈ cs ("0123456789" : Str))) = _
  rw [e]
  have : c ∈ [48, 49, 50, 51, 52, 53, 54, 55, 56, 57] := by simp; omega
  rw [decide_eq_true this]
theorem all_in {x : Str} (h : PySem.NumText.AllDigits (cs x)) (hl : x.length ≤ 1000) : (lcR (signs x) (fun (_ : Str) => (R.ok true)) (fun d8 => (inSR d8 ("0123456789" : Str)))) = .ok ((signs x).map fun _ => true) := by
  refine lcR_map (fun _ => true) (fun _ => rfl) (fun d hd => ?_) ?_
  · obtain ⟨c, hc, rfl⟩ := List.mem_map.mp hd
    exact dig_in (h c hc)
  · unfold signs
    rw [List.length_map, ← len_cs]; omega
theorem lenS_ok {x : Str} (h : x.length ≤ 1000) : lenS x = .ok (x.length : Int) := chk_of (by omega) _
theorem slS_ok {x : Str} (h : x.length ≤ 1000) (u v : Option Int) : slS x u v = .ok (cutS x u v) := chk_of (by omega) _
theorem all_map (l : List Str) : ((l.map fun _ => true).all id) = true := by
  rw [List.all_map]; simp
theorem most_ok : strR (1000000000 : Int) = .ok "1000000000" := by
  rw [strR_ns (by decide)]
  congr 1
theorem read_ok {i : Int} (h : i.natAbs ≤ 1000000000) : t_read_number (ns i) = .ok (some i) := by
  have hl := nslen h
  have m1 : ("1000000000" : Str).length = 10 := by decide +kernel
  have lm : lenS "1000000000" = .ok 10 := by rw [lenS_ok (by rw [m1]; decide), m1]; rfl
  -- the digits
  have key : ∃ x : Str, (((slS (ns i) none (some (1 : Int))).bind fun a1 => R.ok (decide (a1 = ("-" : Str)))).bind fun a2 => (if a2 = true then (slS (ns i) (some (1 : Int)) none) else (R.ok (ns i)))) = .ok x ∧ PySem.NumText.AllDigits (cs x) ∧ 1 ≤ x.length ∧ x.length ≤ 10 := by
    rw [slS_ok (by omega), R.bind_ok, R.bind_ok]
    have hm : cs ("-" : Str) = [45] := by decide +kernel
    rcases split_i i with ⟨n, e⟩ | ⟨n, e⟩
    · refine ⟨ns i, ?_, ?_⟩
      · have : ¬ cutS (ns i) none (some 1) = "-" := fun q => by
          have q := congrArg cs q
          rw [hm] at q
          have q2 : (cs (ns i)).take 1 = [45] := by
            have e3 : cs (cutS (ns i) none (some 1)) = (cs (ns i)).take (min 1 (ns i).length) := by
              unfold cutS HT.sIx
              simp [List.drop_zero]
            rw [e3] at q
            rw [← q]
            have : 1 ≤ (ns i).length := by
              rw [len_cs, e, cs_nat]; exact (dg_len (n := n) (by omega)).1
            rw [Nat.min_eq_left this]
          rw [e, cs_nat] at q2
          have d := digs n
          cases h' : dg n with
          | nil => rw [h'] at q2; cases q2
          | cons c r =>
            rw [h'] at q2 d
            simp at q2
            have := d c (by simp)
            omega
        rw [decide_eq_false this]; rfl
      · rw [len_cs, e, cs_nat]
        exact ⟨digs n, dg_len (by omega)⟩
    · have c1 : cutS (ns i) none (some 1) = "-" := by
        apply str_ext
        rw [hm]
        have e3 : cs (cutS (ns i) none (some 1)) = (cs (ns i)).take (min 1 (ns i).length) := by
          unfold cutS HT.sIx
          simp [List.drop_zero]
        rw [e3, len_cs, e, cs_neg]
        simp
      have c2 : cs (cutS (ns i) (some 1) none) = dg (n + 1) := by
        have e3 : cs (cutS (ns i) (some 1) none) = ((cs (ns i)).drop (min 1 (ns i).length)).take ((ns i).length - min 1 (ns i).length) := by
          unfold cutS HT.sIx
          simp
        rw [e3, len_cs, e, cs_neg]
        have l : (45 :: dg (n + 1)).length = (dg (n + 1)).length + 1 := rfl
        rw [l, Nat.min_eq_left (by omega)]
        show List.take _ (dg (n + 1)) = _
        exact List.take_of_length_le (by omega)
      refine ⟨cutS (ns i) (some 1) none, ?_, ?_⟩
      · rw [decide_eq_true c1, slS_ok (by omega)]; rfl
      · rw [len_cs, c2]
        exact ⟨digs _, dg_len (by omega)⟩
  obtain ⟨x, ex, hd, l1, l2⟩ := key
  unfold t_read_number
  rw [ex, R.bind_ok, lenS_ok (by omega)]
  have d1 : decide ((1 : Int) ≤ (x.length : Int)) = true := decide_eq_true (by omega)
  have d2 : decide ((x.length : Int) ≤ 10) = true := decide_eq_true (by omega)
  have nt : (!true) = false := rfl
  simp only [R.bind_ok, d1, if_true, most_ok, lm, d2, nt, Bool.false_eq_true, if_false]
  rw [all_in hd (by omega)]
  have d3 : decide (-1000000000 ≤ i) = true := decide_eq_true (by omega)
  have d4 : decide (i ≤ 1000000000) = true := decide_eq_true (by omega)
  simp only [R.bind_ok, all_map, nt, Bool.false_eq_true, if_false, intS_ns h, strR_ns h, decide_true, Bool.not_true, d3, d4, if_true]
end Num

/-! tables as texts, read again -/
namespace Num
open PySem L2 PL Ty Tab
theorem slen2 (a b : Str) : (a ++ b).length = a.length + b.length := by
  show (a.cps ++ b.cps).size = a.cps.size + b.cps.size
  exact Array.size_append
theorem cs_app (a b : Str) : cs (a ++ b) = cs a ++ cs b := by
  show (a.cps ++ b.cps).toList = _
  exact Array.toList_append
theorem jlen2 (a : Str) : ∀ ys : List Str, (Txt.join a ys).length ≤ (ys.map (·.length)).sum + ys.length * a.length := by
  intro ys
  rw [TL.join_eq]
  induction ys with
  | nil => exact Nat.zero_le _
  | cons x ys ih =>
    match ys, ih with
    | [], _ => simp [Str.join]
    | z :: r, ih =>
      show (x ++ a ++ Str.join a (z :: r)).length ≤ _
      rw [slen2, slen2]
      simp only [List.map_cons, List.sum_cons, List.length_cons, Nat.succ_mul] at ih ⊢
      omega
theorem jmem {a : Str} {c : Nat} : ∀ {ys : List Str}, c ∈ cs (Txt.join a ys) → c ∈ cs a ∨ ∃ y ∈ ys, c ∈ cs y := by
  intro ys
  rw [TL.join_eq]
  induction ys with
  | nil => intro h; exact absurd h (by show c ∉ cs Str.empty; simp [Str.empty])
  | cons x ys ih =>
    intro h
    match ys, ih, h with
    | [], _, h => exact .inr ⟨x, by simp, h⟩
    | z :: r, ih, h =>
      have h : c ∈ cs (x ++ a ++ Str.join a (z :: r)) := h
      rw [cs_app, cs_app, List.mem_append, List.mem_append] at h
      rcases h with (h | h) | h
      · exact .inr ⟨x, by simp, h⟩
      · exact .inl h
      · rcases ih h with h | ⟨y, hy, h⟩
        · exact .inl h
        · exact .inr ⟨y, List.mem_cons_of_mem _ hy, h⟩
/-- an entry that a table may have -/
def Ok (e : En3) : Prop := e.1.natAbs ≤ 1000000000 ∧ e.2.1.natAbs ≤ 1000000000 ∧ e.1 < e.2.1 ∧ 0 ≤ e.2.2 ∧ e.2.2 ≤ 1000000
def et (e : En3) : Str := Txt.join " " [ns e.1, ns e.2.1, ns e.2.2]
def tx (T : List En3) : Str := Txt.join "\n" (T.map et)
theorem ok_c {e : En3} (h : Ok e) : e.2.2.natAbs ≤ 1000000000 := by have := h.2.2.2; omega
theorem sp1 : (" " : Str).length = 1 := rfl
theorem nl1 : ("\n" : Str).length = 1 := rfl
theorem et_len {e : En3} (h : Ok e) : (et e).length ≤ 40 := by
  have l := jlen2 " " [ns e.1, ns e.2.1, ns e.2.2]
  have a := nslen h.1
  have b := nslen h.2.1
  have c := nslen (ok_c h)
  rw [sp1] at l
  simp only [List.map_cons, List.map_nil, List.sum_cons, List.sum_nil, List.length_cons, List.length_nil] at l
  show (Txt.join " " [ns e.1, ns e.2.1, ns e.2.2]).length ≤ 40
  omega
theorem et_ok {e : En3} (h : Ok e) : ((lcR [e.1, e.2.1, e.2.2] (fun (d4 : Int) => (R.ok true)) (fun d4 => (strR d4))).bind fun a5 => (joinR (" " : Str) a5)) = .ok (et e) := by
  rw [lcR_map ns (fun _ => rfl) (fun d hd => ?_) (by simp)]
  · have a := nslen h.1
    have b := nslen h.2.1
    have c := nslen (ok_c h)
    exact chk_of (by
      rw [sp1]
      simp only [List.map_cons, List.map_nil, List.sum_cons, List.sum_nil, List.length_cons, List.length_nil]
      omega) _
  · simp only [List.mem_cons, List.not_mem_nil, or_false] at hd
    rcases hd with rfl | rfl | rfl
    · exact strR_ns h.1
    · exact strR_ns h.2.1
    · exact strR_ns (ok_c h)
theorem tx_sum : ∀ T : List En3, (∀ e ∈ T, Ok e) → ((T.map et).map (·.length)).sum ≤ T.length * 40
  | [], _ => by simp
  | e :: T, h => by
    have := tx_sum T fun x hx => h x (List.mem_cons_of_mem _ hx)
    have := et_len (h e List.mem_cons_self)
    simp only [List.map_cons, List.sum_cons, List.length_cons, Nat.succ_mul]
    omega
theorem tx_len {T : List En3} (h : ∀ e ∈ T, Ok e) : (tx T).length ≤ T.length * 41 := by
  have l := jlen2 "\n" (T.map et)
  have s := tx_sum T h
  rw [nl1, List.length_map] at l
  show (Txt.join "\n" (T.map et)).length ≤ _
  omega
theorem txR_ok {T : List En3} (h : ∀ e ∈ T, Ok e) (hl : T.length ≤ 1000) : ((lcR T (fun (d2 : En3) => (R.ok true)) (fun d2 => ((lcR [d2.1, d2.2.1, d2.2.2] (fun (d4 : Int) => (R.ok true)) (fun d4 => (strR d4))).bind fun a5 => (joinR (" " : Str) a5)))).bind fun a6 => (joinR ("\n" : Str) a6)) = .ok (tx T) := by
  rw [lcR_map et (fun _ => rfl) (fun d hd => et_ok (h d hd)) (by omega)]
  have s := tx_sum T h
  exact chk_of (by rw [nl1, List.length_map]; omega) _
theorem tstr_ok {T : List En3} (h : ∀ e ∈ T, Ok e) (hl : T.length ≤ 1000) : t_Table___str__ T = .ok (tx T) := by
  unfold t_Table___str__
  rw [txR_ok h hl]; rfl
theorem et_split (e : En3) : Txt.split (et e) " " = [ns e.1, ns e.2.1, ns e.2.2] := by
  refine TL.split_join (s := 32) (S := []) (by decide +kernel) (by decide +kernel) (by simp) fun p hp => ?_
  simp only [List.mem_cons, List.not_mem_nil, or_false] at hp
  rcases hp with rfl | rfl | rfl <;> exact PyProof.Rows.int_text_free' 32 ⟨by decide, by decide⟩ _
theorem et_nl (e : En3) : 10 ∉ cs (et e) := fun h => by
  have hs : cs (" " : Str) = [32] := by decide +kernel
  rcases jmem h with h | ⟨y, hy, h⟩
  · rw [hs] at h; simp at h
  · simp only [List.mem_cons, List.not_mem_nil, or_false] at hy
    rcases hy with rfl | rfl | rfl <;> exact PyProof.Rows.int_text_free' 10 ⟨by decide, by decide⟩ _ h
theorem tx_split {T : List En3} (h : T ≠ []) : Txt.split (tx T) "\n" = T.map et := by
  refine TL.split_join (s := 10) (S := []) (by decide +kernel) (by decide +kernel) (by simpa using h) fun p hp => ?_
  obtain ⟨e, _, rfl⟩ := List.mem_map.mp hp
  exact et_nl e
theorem tx_ne {T : List En3} (h : T ≠ []) : tx T ≠ "" := fun e => by
  have s := tx_split h
  rw [e] at s
  have s0 : Txt.split "" "\n" = [("" : Str)] := by decide +kernel
  rw [s0] at s
  match T, h, s with
  | x :: T, _, s =>
    simp only [List.map_cons, List.cons.injEq] at s
    have s2 := et_split x
    rw [← s.1] at s2
    have s3 : Txt.split "" " " = [("" : Str)] := by decide +kernel
    rw [s3] at s2
    have := congrArg List.length s2
    simp at this
theorem read_entry_ok {e : En3} (h : Ok e) : t_read_entry [ns e.1, ns e.2.1, ns e.2.2] = .ok (some e) := by
  have nt : (!true) = false := rfl
  have lc : lcR [ns e.1, ns e.2.1, ns e.2.2] (fun (d3 : Str) => (R.ok true)) (fun d3 => (t_read_number d3)) = .ok [some e.1, some e.2.1, some e.2.2] := by
    unfold lcR
    simp only [colR, R.bind_ok, if_true, read_ok h.1, read_ok h.2.1, read_ok (ok_c h)]
    exact chk_of (by simp) _
  have d1 : decide (e.2.1 ≤ e.1) = false := decide_eq_false (by have := h.2.2.1; omega)
  have d2 : decide ((0 : Int) ≤ e.2.2) = true := decide_eq_true h.2.2.2.1
  have d3 : decide (e.2.2 ≤ 1000000) = true := decide_eq_true h.2.2.2.2
  have n1 : ∀ i : Int, PL.isNon (eO D.int (some i)) = false := fun _ => rfl
  have l3 : decide ((([ns e.1, ns e.2.1, ns e.2.2] : List Str).length : Int) = 3) = true := by simp
  unfold t_read_entry
  rw [l3]
  simp only [nt, Bool.false_eq_true, if_false, lc, R.bind_ok, unl3, n1, unO, d1, d2, d3, if_true]
theorem parse_loop {b : Int × Str → List En3 → R (Otc (List En3) (List En3))} (hb : ∀ i e acc, Ok e → acc.length < 10000 → b (i, et e) acc = .ok (.go (acc ++ [e]))) : ∀ (T : List En3) (k : Nat) (acc : List En3), (∀ e ∈ T, Ok e) → acc.length + T.length ≤ 10000 →
    loopR b (((T.map et).zipIdx k).map fun p => ((p.2 : Int), p.1)) acc = .ok (.go (acc ++ T))
  | [], k, acc, _, _ => by simp [loopR]
  | e :: T, k, acc, h, hl => by
    simp only [List.length_cons] at hl
    simp only [List.map_cons, List.zipIdx_cons, loopR]
    rw [hb _ e acc (h e List.mem_cons_self) (by omega)]
    simp only [R.bind_ok]
    rw [parse_loop hb T (k + 1) (acc ++ [e]) (fun x hx => h x (List.mem_cons_of_mem _ hx)) (by simp; omega)]
    simp
theorem parse_ok {T : List En3} (h : ∀ e ∈ T, Ok e) (hl : T.length ≤ 1000) : t_Table_parse () (tx T) = .ok T := by
  have nt : (!true) = false := rfl
  have nf : (!false) = true := rfl
  unfold t_Table_parse
  have rows : ((if (!decide (tx T = ("" : Str))) = true then (splitR (tx T) ("\n" : Str)) else (R.ok ([] : List (Str)))).bind fun a11 => R.ok (enm a11)) = .ok (enm (T.map et)) := by
    by_cases c : T = []
    · subst c
      have : tx [] = "" := by decide +kernel
      rw [this]; rfl
    · have d : decide (tx T = ("" : Str)) = false := decide_eq_false (tx_ne c)
      have l := tx_len h
      rw [d, nf, if_pos rfl]
      have : splitR (tx T) "\n" = .ok (Txt.split (tx T) "\n") := chk_of ⟨by decide, by omega⟩ _
      rw [this, tx_split c]; rfl
  rw [R.bind_ok, rows, R.bind_ok]
  have lp := parse_loop (b := fun (d4 : (Int) × (Str)) (s3 : List ((Int) × (Int) × (Int))) => ((((splitR d4.2 (" " : Str)).bind fun a5 => R.ok (a5, ())).bind fun a6 => (t_read_entry a6.1)).bind fun (entry_7 : Option ((Int) × (Int) × (Int))) => (if (PL.isNon ((eO (PL.e3 D.int D.int D.int)) entry_7)) = true then R.no else ((unO entry_7).bind fun (a9 : (Int) × (Int) × (Int)) => ((appR s3 a9).bind fun (entries_10 : List ((Int) × (Int) × (Int))) => R.ok (Otc.go entries_10)))))) (fun i e acc he ha => by
    have l := et_len he
    have : splitR (et e) " " = .ok (Txt.split (et e) " ") := chk_of ⟨by decide, by omega⟩ _
    have n1 : PL.isNon (eO (PL.e3 D.int D.int D.int) (some e)) = false := rfl
    simp only [this, et_split, R.bind_ok, read_entry_ok he, n1, Bool.false_eq_true, if_false, unO]
    rw [appR_ok (by omega)]; rfl) T 0 [] h (by simp; omega)
  rw [List.nil_append] at lp
  unfold enm
  rw [lp]
  simp only [R.bind_ok, Otc.to_go, table_ok (T := T) (by omega)]
theorem tx_inj {T T' : List En3} (h : ∀ e ∈ T, Ok e) (h' : ∀ e ∈ T', Ok e) (hl : T.length ≤ 1000) (hl' : T'.length ≤ 1000) (e : tx T = tx T') : T = T' := by
  have a := parse_ok h hl
  have b := parse_ok h' hl'
  rw [e, b] at a
  exact (R.ok.inj a).symm
end Num

/-! law k50 -/
namespace K50
open PySem L2 PL Ty Dr Tab Num
theorem ge_of {T : List En3} (h : ∀ e ∈ T, Num.Ok e) : Ge T := fun e he => ⟨(h e he).2.2.2.1, (h e he).2.2.1⟩
theorem sm_of {T : List En3} (h : Sm3 T) : ∀ e ∈ T, Num.Ok e := fun e he => by
  obtain ⟨a, b, c, d, f⟩ := h e he
  exact ⟨by omega, by omega, b, d, f⟩
/-- the law's own amount -/
def stp (p : Int × Int) (s : Int) (e : En3) : Int := if (p.1 ≤ e.1 ∧ e.2.1 ≤ p.2) ∧ s < e.2.2 then e.2.2 else s
theorem stp_lt (p : Int × Int) {k : Int} : ∀ (T : List En3) (s : Int), k < T.foldl (stp p) s ↔ k < s ∨ ∃ e ∈ T, (p.1 ≤ e.1 ∧ e.2.1 ≤ p.2) ∧ k < e.2.2
  | [], s => by simp
  | e :: T, s => by
    rw [List.foldl_cons, stp_lt p T]
    unfold stp
    constructor
    · rintro (h | ⟨x, hx, h⟩)
      · split at h
        · rename_i c; exact .inr ⟨e, List.mem_cons_self, c.1, h⟩
        · exact .inl h
      · exact .inr ⟨x, List.mem_cons_of_mem _ hx, h⟩
    · rintro (h | ⟨x, hx, h1, h2⟩)
      · left; split <;> omega
      · rcases List.mem_cons.mp hx with rfl | hx
        · left
          split
          · exact h2
          · rename_i c; have : ¬ s < x.2.2 := fun q => c ⟨h1, q⟩
            omega
        · exact .inr ⟨x, hx, h1, h2⟩
theorem stp_am {T : List En3} (g : Ge T) (p : Int × Int) : T.foldl (stp p) 0 = am T p := by
  have n1 := am_0 g p
  have n2 : 0 ≤ T.foldl (stp p) 0 := by
    apply Classical.byContradiction
    intro n
    have := (stp_lt p (k := T.foldl (stp p) 0) T 0).mpr (.inl (by omega))
    omega
  apply Int.le_antisymm
  · apply Classical.byContradiction
    intro n
    have := (stp_lt p (k := am T p) T 0).mp (by omega)
    rcases this with h | h
    · omega
    · have := (am_lt (T := T) (p := p) n1).mpr h; omega
  · apply Classical.byContradiction
    intro n
    have h := (am_lt (T := T) (p := p) n2).mp (by omega)
    have := (stp_lt p (k := T.foldl (stp p) 0) T 0).mpr (.inr h)
    omega
theorem lamount_ok {T : List En3} (g : Ge T) (lo hi : Int) : t__law_amount T lo hi = .ok (am T (lo, hi)) := by
  have key : ∀ (T : List En3) (s : Int), foldR (fun (d3 : (Int) × (Int) × (Int)) (s2 : Int) => ((if (decide (lo ≤ d3.1)) = true then (if (decide (d3.2.1 ≤ hi)) = true then (R.ok (decide (s2 < d3.2.2))) else R.ok false) else R.ok false).bind fun a5 => (if a5 = true then R.ok d3.2.2 else R.ok s2))) T s = .ok (T.foldl (stp (lo, hi)) s) := by
    intro T
    induction T with
    | nil => intro s; rfl
    | cons e T ih =>
      intro s
      rw [foldR, List.foldl_cons]
      have : ((if (decide (lo ≤ e.1)) = true then (if (decide (e.2.1 ≤ hi)) = true then (R.ok (decide (s < e.2.2))) else R.ok false) else R.ok false).bind fun a5 => (if a5 = true then R.ok e.2.2 else R.ok s)) = R.ok (stp (lo, hi) s e) := by
        unfold stp
        by_cases c1 : lo ≤ e.1 <;> by_cases c2 : e.2.1 ≤ hi <;> by_cases c3 : s < e.2.2 <;> simp [c1, c2, c3]
      rw [this, R.bind_ok]
      exact ih _
  unfold t__law_amount
  simp only [R.bind_ok]
  rw [key T 0, stp_am g]
  rfl
theorem wear2_ok {T : List En3} (hl : T.length ≤ 1000000) {b : Bool} {rs : List (Int × Int)} (h2 : rs.length ≤ 1000000) : t_Table_wear_2 T (b, rs) = .ok (rs.map (am T)).sum := by
  unfold t_Table_wear_2
  rw [lcR_map (am T) (fun _ => rfl) (fun d _ => amount_ok hl d.1 d.2) (by show rs.length ≤ _; omega)]
  rfl
theorem lwear_ok {T : List En3} (g : Ge T) {b : Bool} {rs : List (Int × Int)} (h2 : rs.length ≤ 1000000) : t__law_wear T (b, rs) = .ok (rs.map (am T)).sum := by
  unfold t__law_wear
  rw [lcR_map (am T) (fun _ => rfl) (fun d _ => lamount_ok g d.1 d.2) (by show rs.length ≤ _; omega)]
  rfl
theorem am_small {T : List En3} (h : ∀ e ∈ T, Num.Ok e) (p : Int × Int) : 0 ≤ am T p ∧ am T p ≤ 1000000 := by
  have n := am_0 (ge_of h) p
  refine ⟨n, ?_⟩
  apply Classical.byContradiction
  intro q
  obtain ⟨e, he, _, k⟩ := (am_lt (T := T) (p := p) (k := 1000000) (by decide)).mp (by omega)
  have := (h e he).2.2.2.2
  omega
theorem sum_small {T : List En3} (h : ∀ e ∈ T, Num.Ok e) : ∀ rs : List (Int × Int), 0 ≤ (rs.map (am T)).sum ∧ (rs.map (am T)).sum ≤ rs.length * 1000000
  | [] => by simp
  | p :: rs => by
    have := sum_small h rs
    have := am_small h p
    simp only [List.map_cons, List.sum_cons, List.length_cons]
    omega
theorem rep_T {T : List En3} (h : ∀ e ∈ T, Num.Ok e) (hl : T.length ≤ 1000) : ∃ z, reprR (eT (PL.e3 D.int D.int D.int) T) = .ok z := by
  have r : Rp 2 300000 (eT (PL.e3 D.int D.int D.int) T) := .tup (m := 195) (fun d hd => by
    obtain ⟨e, he, rfl⟩ := List.mem_map.mp hd
    have o := h e he
    exact .tup (m := 64) (fun d hd => by
      simp only [List.mem_cons, List.not_mem_nil, or_false] at hd
      rcases hd with rfl | rfl | rfl
      · exact .int 0 (by have := o.1; omega) (Nat.le_refl _)
      · exact .int 0 (by have := o.2.1; omega) (Nat.le_refl _)
      · exact .int 0 (by have := o.2.2.2; omega) (Nat.le_refl _)) (by simp)) (by simp; omega)
  exact ⟨_, reprR_ok r (by decide) (by decide)⟩
theorem rep_S {b : Bool} {rs : List (Int × Int)} (h : ∀ p ∈ rs, p.1.natAbs ≤ 1000000000 ∧ p.2.natAbs ≤ 1000000000) (hl : rs.length ≤ 1000) : ∃ z, reprR (eS (PL.e2 D.int D.int) (b, rs)) = .ok z := by
  cases b with
  | false => exact ⟨_, reprR_ok (rp_prs 0 (n := 131000) (fun p hp => by have := h p hp; omega) (by show rs.length * 131 ≤ 131000; omega)) (by decide) (by decide)⟩
  | true => exact ⟨_, reprR_ok (rp_prsT 0 (n := 131000) (fun p hp => by have := h p hp; omega) (by show rs.length * 131 ≤ 131000; omega)) (by decide) (by decide)⟩
theorem eqT3 (a b : List En3) : eqR (eT (PL.e3 D.int D.int D.int) a) (eT (PL.e3 D.int D.int D.int) b) = .ok (decide (a = b)) := (gd_T (gd_3 (gd_int (k := 0)) gd_int gd_int)).eq (by decide) a b
theorem teq_ok (a b : List En3) : t_Table___eq__ a b = .ok (decide (a = b)) := by
  unfold t_Table___eq__
  simp only [if_true, eqT3, R.bind_ok]
theorem most_am {T : List En3} (h : ∀ e ∈ T, Num.Ok e) : maxR ([0] ++ T.map (·.2.2)) = .ok (am T (-1000000000, 1000000000)) := by
  have ne : [0] ++ T.map (·.2.2) ≠ ([] : List Int) := by simp
  refine (chk_of ne _).trans ?_
  congr 1
  obtain ⟨m1, m2⟩ := maxL_mem ne
  have n := am_small h (-1000000000, 1000000000)
  apply Int.le_antisymm
  · rcases List.mem_append.mp m1 with q | q
    · rw [List.mem_singleton] at q; rw [q]; exact n.1
    · obtain ⟨e, he, q⟩ := List.mem_map.mp q
      rw [← q]
      apply Classical.byContradiction
      intro c
      have := (am_lt (T := T) (p := (-1000000000, 1000000000)) n.1).mpr ⟨e, he, by have := h e he; unfold Num.Ok at this; simp only; omega, by omega⟩
      omega
  · apply Classical.byContradiction
    intro c
    have c0 : (0 : Int) ≤ maxL ([0] ++ T.map (·.2.2)) := m2 0 (by simp)
    obtain ⟨e, he, _, q⟩ := (am_lt (T := T) (p := (-1000000000, 1000000000)) c0).mp (by omega)
    have := m2 e.2.2 (List.mem_append_right _ (List.mem_map.mpr ⟨e, he, rfl⟩))
    omega
theorem right_ok {f : List Int} {T : List En3} (hf : Fd f) (h : ∀ e ∈ T, Num.Ok e) (hl : T.length ≤ 100) : ∃ f', t__law_right_3 f T T = .ok (true, f') ∧ Fd f' := by
  have g := ge_of h
  have et := txR_ok h (by omega)
  have es := tstr_ok h (by omega)
  obtain ⟨z, ez⟩ := rep_T h (by omega)
  obtain ⟨n, f1, e1, h1, n0, n1⟩ := tk_ok (m := 8) hf (by decide) (by decide)
  have nt : (!true) = false := rfl
  have cc : ∀ a b c : Int, cut [a, b, c] none (some (2 : Int)) = [a, b] := fun _ _ _ => rfl
  have u2 : ∀ a b : Int, unl2 [a, b] = .ok (a, b) := fun _ _ => rfl
  have er : lcR T (fun (_ : En3) => (R.ok true)) (fun (d14 : En3) => unl2 (cut [d14.1, d14.2.1, d14.2.2] none (some (2 : Int)))) = .ok (T.map (fun (e : En3) => (e.1, e.2.1))) := lcR_map (fun (e : En3) => (e.1, e.2.1)) (fun _ => rfl) (fun (d : En3) _ => rfl) (by omega)
  unfold t__law_right_3
  rw [et]
  simp only [R.bind_ok, nt, Bool.false_eq_true, if_false, ez, decide_true, Bool.not_true, es, er, e1]
  rw [rngR_ok (by decide) (by decide) (by omega) (by omega)]
  simp only [R.bind_ok]
  refine foldR_iex (g := fun f : List Int => (true, f)) (Q := Fd) (fun j st => Fd st.1 ∧ st.2.length = T.length + j ∧ ∀ p ∈ st.2, p.1.natAbs ≤ 1000000000 ∧ p.2.natAbs ≤ 1000000000) ⟨h1, by simp, fun p hp => ?_⟩ ?_ ?_
  · obtain ⟨e, he, rfl⟩ := List.mem_map.mp hp
    exact ⟨(h e he).1, (h e he).2.1⟩
  · rintro j d ⟨f, rs⟩ hj ⟨i1, i2, i3⟩
    simp only at i1 i2 i3
    have hj1 := (List.getElem?_eq_some_iff.mp hj).1
    rw [rng_len] at hj1
    obtain ⟨p, f2, e2, h2, p1, p0, p2⟩ := interval_ok (m := 12) i1 (by decide) (by decide)
    refine ⟨(f2, rs ++ [p]), ?_, h2, by simp; omega, fun q hq => ?_⟩
    · simp only [e2, R.bind_ok]
      rw [appR_ok (by omega)]; rfl
    · rcases List.mem_append.mp hq with hq | hq
      · exact i3 q hq
      · rw [List.mem_singleton] at hq; subst hq; omega
  · rintro ⟨f, rs⟩ ⟨i1, i2, i3⟩
    rw [rng_len] at i2
    simp only at i1 i2 i3
    refine ⟨f, ?_, i1⟩
    have aT := fun lo hi => amount_ok (T := T) (by omega) lo hi
    have lT := fun lo hi => lamount_ok g lo hi
    have rI : ∀ p, reprR (D.int (am T p)) = .ok (shw (.int (am T p))) := fun p => reprR_int (by have := am_small h p; omega)
    rw [loopR_u]
    · have cr : catR rs rs = .ok (rs ++ rs) := catR_ok (by omega)
      have mx := most_am h
      have ml : lcR T (fun (_ : En3) => (R.ok true)) (fun (d63 : En3) => (R.ok d63.2.2)) = .ok (T.map (·.2.2)) := lcR_map (fun (e : En3) => e.2.2) (fun _ => rfl) (fun (_ : En3) _ => rfl) (by omega)
      have ca : catR [(0 : Int)] (T.map (·.2.2)) = .ok ([0] ++ T.map (·.2.2)) := catR_ok (by simp; omega)
      simp only [R.bind_ok, Otc.to_go, cr]
      rw [loopR_u]
      · simp only [R.bind_ok, Otc.to_go, aT, ml, ca, mx, decide_true, Bool.not_true, Bool.false_eq_true, if_false, ez, if_true, es, table_ok (T := T) (by omega), teq_ok]
      · intro d hd
        have sd : d.2.length ≤ 1000 ∧ ∀ p ∈ d.2, p.1.natAbs ≤ 1000000000 ∧ p.2.natAbs ≤ 1000000000 := by
          simp only [List.mem_cons, List.not_mem_nil, or_false] at hd
          rcases hd with rfl | rfl | rfl | rfl
          · exact ⟨by show rs.length ≤ _; omega, i3⟩
          · refine ⟨by show (rs ++ rs).length ≤ _; rw [List.length_append]; omega, fun p hp => ?_⟩
            rcases List.mem_append.mp hp with hp | hp <;> exact i3 p hp
          · exact ⟨by simp, fun p hp => nomatch hp⟩
          · exact ⟨by show rs.reverse.length ≤ _; rw [List.length_reverse]; omega, fun p hp => i3 p (List.mem_reverse.mp hp)⟩
        obtain ⟨b, qs⟩ := d
        have sd1 : qs.length ≤ 1000 := sd.1
        obtain ⟨y, ey⟩ := rep_S (b := b) sd.2 sd.1
        have w1 := wear2_ok (T := T) (by omega) (b := b) (rs := qs) (by omega)
        have w2 := lwear_ok g (b := b) (rs := qs) (by omega)
        have ri : reprR (D.int ((qs.map (am T)).sum)) = .ok (shw (.int ((qs.map (am T)).sum))) := reprR_int (by have := sum_small h qs; omega)
        simp only [ey, R.bind_ok, w1, w2, ri, decide_true, Bool.not_true, Bool.false_eq_true, if_false]
    · intro p hp
      simp only [aT, lT, R.bind_ok, rI, decide_true, Bool.not_true, Bool.false_eq_true, if_false]
theorem many_ok {f : List Int} (hf : Fd f) : ∃ t : List En3 × List Int, t__law_many f = .ok t ∧ Fd t.2 ∧ (∀ e ∈ t.1, Num.Ok e) ∧ t.1.length ≤ 100 := by
  obtain ⟨step, f1, e1, h1, hs⟩ := pk_ok (l := [1, 7, 10000000]) hf (by simp) (by simp)
  have hs : step = 1 ∨ step = 7 ∨ step = 10000000 := by simpa using hs
  unfold t__law_many
  simp only [e1, R.bind_ok]
  rw [rngR_ok (by decide) (by decide) (by decide) (by decide)]
  simp only [R.bind_ok]
  refine foldR_iex (g := fun t : List En3 × List Int => t) (Q := fun t => Fd t.2 ∧ (∀ e ∈ t.1, Num.Ok e) ∧ t.1.length ≤ 100) (fun j st => Fd st.1 ∧ (∀ e ∈ st.2, Num.Ok e) ∧ st.2.length = 1 + j) ⟨h1, ⟨fun e he => ?_, rfl⟩⟩ ?_ ?_
  · have he : e = ((-1000000000 : Int), (1000000000 : Int), (5 : Int)) := by simpa using he
    subst he
    exact ⟨by decide, by decide, by decide, by decide, by decide⟩
  · rintro j d ⟨f, T⟩ hj ⟨i1, i2, i3⟩
    simp only at i1 i2 i3
    have hj1 := (List.getElem?_eq_some_iff.mp hj).1
    rw [rng_len] at hj1
    obtain ⟨p, f2, e2, h2, p1, p0, p2⟩ := interval_ok (m := 40) i1 (by decide) (by decide)
    obtain ⟨v, f3, e3, h3, v0, v1⟩ := tk_ok (m := 1000) h2 (by decide) (by decide)
    have m1 : mulR (p.1 - 20) step = .ok ((p.1 - 20) * step) := by rcases hs with rfl | rfl | rfl <;> exact mulR_r (by decide) (by decide)
    have m2 : mulR (p.2 - 20) step = .ok ((p.2 - 20) * step) := by rcases hs with rfl | rfl | rfl <;> exact mulR_r (by decide) (by decide)
    refine ⟨(f3, T ++ [((p.1 - 20) * step, (p.2 - 20) * step, v)]), ?_, h3, fun e he => ?_, by simp; omega⟩
    · simp only [e2, R.bind_ok, m1, m2, e3]
      rw [appR_ok (by omega)]; rfl
    · rcases List.mem_append.mp he with he | he
      · exact i2 e he
      · rw [List.mem_singleton] at he; subst he
        unfold Num.Ok
        simp only
        rcases hs with rfl | rfl | rfl <;> omega
  · rintro ⟨f', T⟩ ⟨i1, i2, i3⟩
    rw [rng_len] at i3
    simp only at i1 i2 i3
    have : ((60 : Int) - 0).toNat = 60 := rfl
    exact ⟨(T, f'), rfl, i1, i2, by show T.length ≤ 100; omega⟩
theorem loopR_inv {δ σ ρ : Type} {b : δ → σ → R (Otc σ ρ)} (I : Nat → σ → Prop) : ∀ (ds : List δ) (i : Nat) (s : σ), I i s → (∀ j d s, ds[j]? = some d → I (i + j) s → ∃ s', b d s = .ok (.go s') ∧ I (i + j + 1) s') → ∃ s', loopR b ds s = .ok (.go s') ∧ I (i + ds.length) s'
  | [], i, s, h, _ => ⟨s, rfl, h⟩
  | d :: ds, i, s, h, H => by
    obtain ⟨s1, h1, h2⟩ := H 0 d s rfl h
    obtain ⟨s', h3, h4⟩ := loopR_inv I ds (i + 1) s1 h2 fun j d s hj hs => by
      have := H (j + 1) d s (by simpa using hj) (by rw [show i + (j + 1) = i + 1 + j by omega]; exact hs)
      rw [show i + (j + 1) + 1 = i + 1 + j + 1 by omega] at this
      exact this
    refine ⟨s', ?_, by rw [List.length_cons, show i + (ds.length + 1) = i + 1 + ds.length by omega]; exact h4⟩
    rw [loopR, h1]
    exact h3
theorem loopR_iex {ω δ σ ρ : Type} {b : δ → σ → R (Otc σ ρ)} {ds : List δ} {s : σ} {k : Otc σ ρ → R ω} {w : ω} (I : Nat → σ → Prop) (h : I 0 s) (H : ∀ j d s, ds[j]? = some d → I j s → ∃ s', b d s = .ok (.go s') ∧ I (j + 1) s') (hk : ∀ s', I ds.length s' → k (.go s') = .ok w) : (loopR b ds s).bind k = .ok w := by
  obtain ⟨s', h1, h2⟩ := loopR_inv I ds 0 s h fun j d s hj hs => by rw [Nat.zero_add] at hs ⊢; exact H j d s hj hs
  rw [Nat.zero_add] at h2
  rw [h1]; exact hk s' h2
def Gt (T : List En3) : Prop := (∀ e ∈ T, Num.Ok e) ∧ T.length ≤ 100
theorem law_ok (ns : List Int) (hn : ns.length ≤ 63) : t_law_11 ns = .ok true := by
  have nt : (!true) = false := rfl
  unfold t_law_11
  rw [rngR_ok (by omega) (by omega) (by omega) (by omega), R.bind_ok]
  rw [loopR_u]
  · rfl
  intro d hd
  obtain ⟨d0, d1⟩ := rng_mem.mp hd
  obtain ⟨f0, e0, h0⟩ := fd_ok ns d0
  obtain ⟨⟨M, f1⟩, e1, h1, mo, ml⟩ := many_ok h0
  simp only at h1 mo ml
  obtain ⟨f2, e2, h2⟩ := right_ok h1 mo ml
  have tab : ∀ T : List En3, T.length ≤ 100 → t_Table___init__ () T = .ok ((), T) := fun T h => table_ok (by omega)
  have ps : ∀ T : List En3, Gt T → t_Table_parse () (tx T) = .ok T := fun T h => parse_ok h.1 (by have := h.2; omega)
  have st : ∀ T : List En3, Gt T → t_Table___str__ T = .ok (tx T) := fun T h => tstr_ok h.1 (by have := h.2; omega)
  simp only [e0, e1, R.bind_ok, tab M ml, e2, nt, Bool.false_eq_true, if_false, st M ⟨mo, ml⟩, ps M ⟨mo, ml⟩, teq_ok, decide_true]
  rw [rngR_ok (by decide) (by decide) (by decide) (by decide)]
  simp only [R.bind_ok]
  refine loopR_iex (fun i s => Fd s.1 ∧ s.2.length ≤ 5 * i ∧ ∀ T ∈ s.2, Gt T) ⟨h2, by simp, fun _ h => nomatch h⟩ ?_ ?_
  · rintro j d ⟨f, made⟩ hj ⟨i1, i2, i3⟩
    simp only at i1 i2 i3
    have hj2 := (List.getElem?_eq_some_iff.mp hj).1
    rw [rng_len] at hj2
    obtain ⟨⟨E, g1⟩, q1, hg1, se, le⟩ := entries_ok2 i1
    simp only at hg1 se le
    have so := sm_of se
    have ge : Gt E := ⟨so, by omega⟩
    simp only [q1, R.bind_ok, tab E (by omega), st E ge, ps E ge]
    rw [appR_ok (by omega)]
    simp only [R.bind_ok]
    have ct := cut_sub E (some (1 : Int)) none
    have gc : Gt (cut E (some (1 : Int)) none) := ⟨fun e he => so e (ct.subset he), by have := ct.length_le; omega⟩
    have gr : Gt E.reverse := ⟨fun e he => so e (List.mem_reverse.mp he), by rw [List.length_reverse]; omega⟩
    refine loopR_ex (g := fun t : List Int × List (List En3) => Otc.go t) (Q := fun s' => Fd s'.1 ∧ s'.2.length ≤ 5 * (j + 1) ∧ ∀ T ∈ s'.2, Gt T) (fun f : List Int => Fd f) hg1 (fun d hd s hs => ?_) (fun g2 hg2 => ?_)
    · have hd : d = E := by simpa using hd
      subst hd
      obtain ⟨g, q, hg⟩ := right_ok hs so (by omega)
      refine ⟨g, ?_, hg⟩
      have ix : ixR [d, d, d] (0 : Int) = .ok d := rfl
      simp only [q, R.bind_ok, nt, Bool.false_eq_true, if_false, ix, teq_ok, decide_true]
    refine ⟨(g2, made ++ [E, E, E] ++ [E.reverse, cut E (some (1 : Int)) none]), ?_, hg2, by simp; omega, fun T hT => ?_⟩
    · simp only [R.bind_ok, Otc.to_go]
      rw [catR_ok (by simp; omega)]
      simp only [R.bind_ok, tab E.reverse gr.2, tab _ gc.2]
      rw [catR_ok (by simp; omega)]
      rfl
    · rcases List.mem_append.mp hT with hT | hT
      · rcases List.mem_append.mp hT with hT | hT
        · exact i3 T hT
        · have hT : T = E := by simpa using hT
          rw [hT]; exact ge
      · simp only [List.mem_cons, List.not_mem_nil, or_false] at hT
        rcases hT with rfl | rfl
        · exact gr
        · exact gc
  · rintro ⟨f, made⟩ ⟨i1, i2, i3⟩
    simp only at i1 i2 i3
    rw [rng_len] at i2
    simp only [Otc.to_go]
    have eqB : ∀ a b : Bool, eqR (D.bl a) (D.bl b) = .ok (decide (a = b)) := fun a b => (gd_bl (k := 0)).eq (by decide) a b
    have neB : ∀ a b : Bool, neR (D.bl a) (D.bl b) = .ok (!decide (a = b)) := fun a b => (gd_bl (k := 0)).ne (by decide) a b
    rw [loopR_u]
    · rfl
    intro x hx
    have gx := i3 x hx
    rw [loopR_u]
    · simp only [R.bind_ok, Otc.to_go, st x gx]
      rw [loopR_u]
      · rfl
      intro t ht
      have ct : okEq "Table" t = true ∧ isiR "Table" t = .ok false := by
        simp only [List.mem_cons, List.not_mem_nil, or_false] at ht
        rcases ht with rfl | rfl | rfl | rfl | rfl <;> exact ⟨rfl, rfl⟩
      have e2 : t_Table___eq___2 x t = .ok false := by
        unfold t_Table___eq___2
        simp only [ct.2, R.bind_ok, Bool.false_eq_true, if_false]
      rw [okR_ok ct.1, e2]
      rfl
    · intro y hy
      have gy := i3 y hy
      have hd : decide (tx x = tx y) = decide (x = y) := by
        rw [Bool.eq_iff_iff, decide_eq_true_iff, decide_eq_true_iff]
        exact ⟨fun h => tx_inj gx.1 gy.1 (by have := gx.2; omega) (by have := gy.2; omega) h, fun h => by rw [h]⟩
      simp only [st x gx, st y gy, teq_ok, R.bind_ok, hd, eqB, neB]
      generalize decide (x = y) = b
      cases b <;> rfl
end K50

/-! the walk -/
namespace Wk
open PySem PySem.Spec PyProof.Rows L2 PL Mi
def topS (i : Nat) : Stmt := PySem.Challenge.pw_wearswings_k50_tables.main.body.getD i (.Pass ⟨0, 0, 0, 0⟩)
abbrev s__law_feed : Stmt := topS 12
theorem sc__law_feed : FnScope ["script", "k", "cell", "digits", "state"] ["script", "k"] (defScope s__law_feed) := ⟨rfl, rfl, rfl, by decide +kernel, rfl, by decide +kernel, by decide +kernel⟩
abbrev s__law_take : Stmt := topS 13
theorem sc__law_take : FnScope ["feed", "many", "digit"] ["feed", "many"] (defScope s__law_take) := ⟨rfl, rfl, rfl, by decide +kernel, rfl, by decide +kernel, by decide +kernel⟩
abbrev s__law_pick : Stmt := topS 14
theorem sc__law_pick : FnScope ["feed", "some"] ["feed", "some"] (defScope s__law_pick) := ⟨rfl, rfl, rfl, by decide +kernel, rfl, by decide +kernel, by decide +kernel⟩
abbrev s__law_interval : Stmt := topS 15
theorem sc__law_interval : FnScope ["feed", "most", "low"] ["feed", "most"] (defScope s__law_interval) := ⟨rfl, rfl, rfl, by decide +kernel, rfl, by decide +kernel, by decide +kernel⟩
abbrev s__law_many : Stmt := topS 20
theorem sc__law_many : FnScope ["feed", "found", "step", "turn", "low", "high"] ["feed"] (defScope s__law_many) := ⟨rfl, rfl, rfl, by decide +kernel, rfl, by decide +kernel, by decide +kernel⟩
abbrev s_Table___init__ : Stmt := inClass (topS 10) 0
theorem sc_Table___init__ : FnScope ["self", "entries", "entry"] ["self", "entries"] (defScope s_Table___init__) := ⟨rfl, rfl, rfl, by decide +kernel, rfl, by decide +kernel, by decide +kernel⟩
abbrev s_Table___str__ : Stmt := inClass (topS 10) 2
theorem sc_Table___str__ : FnScope ["self", "entry", "number"] ["self"] (defScope s_Table___str__) := ⟨rfl, rfl, rfl, by decide +kernel, rfl, by decide +kernel, by decide +kernel⟩
abbrev s_Table_amount : Stmt := inClass (topS 10) 4
theorem sc_Table_amount : FnScope ["self", "low", "high", "start", "end", "amount"] ["self", "low", "high"] (defScope s_Table_amount) := ⟨rfl, rfl, rfl, by decide +kernel, rfl, by decide +kernel, by decide +kernel⟩
abbrev s__law_amount : Stmt := topS 17
theorem sc__law_amount : FnScope ["entries", "low", "high", "found", "start", "end", "amount"] ["entries", "low", "high"] (defScope s__law_amount) := ⟨rfl, rfl, rfl, by decide +kernel, rfl, by decide +kernel, by decide +kernel⟩
abbrev s_Table_wear : Stmt := inClass (topS 10) 5
theorem sc_Table_wear : FnScope ["self", "ranges", "low", "high"] ["self", "ranges"] (defScope s_Table_wear) := ⟨rfl, rfl, rfl, by decide +kernel, rfl, by decide +kernel, by decide +kernel⟩
abbrev s__law_wear : Stmt := topS 18
theorem sc__law_wear : FnScope ["entries", "ranges", "low", "high"] ["entries", "ranges"] (defScope s__law_wear) := ⟨rfl, rfl, rfl, by decide +kernel, rfl, by decide +kernel, by decide +kernel⟩
abbrev s_Table___eq__ : Stmt := inClass (topS 10) 3
theorem sc_Table___eq__ : FnScope ["self", "other"] ["self", "other"] (defScope s_Table___eq__) := ⟨rfl, rfl, rfl, by decide +kernel, rfl, by decide +kernel, by decide +kernel⟩
abbrev s__law_right : Stmt := topS 19
theorem sc__law_right : FnScope ["feed", "table", "entries", "text", "entry", "number", "ranges", "turn", "low", "high", "some", "seen"] ["feed", "table", "entries"] (defScope s__law_right) := ⟨rfl, rfl, rfl, by decide +kernel, rfl, by decide +kernel, by decide +kernel⟩
abbrev s_read_number : Stmt := topS 6
theorem sc_read_number : FnScope ["word", "digits", "digit"] ["word"] (defScope s_read_number) := ⟨rfl, rfl, rfl, by decide +kernel, rfl, by decide +kernel, by decide +kernel⟩
abbrev s_read_entry : Stmt := topS 9
theorem sc_read_entry : FnScope ["words", "low", "high", "amount", "word"] ["words"] (defScope s_read_entry) := ⟨rfl, rfl, rfl, by decide +kernel, rfl, by decide +kernel, by decide +kernel⟩
abbrev s_Table_parse : Stmt := inClass (topS 10) 1
theorem sc_Table_parse : FnScope ["cls", "text", "entries", "number", "row", "entry"] ["cls", "text"] (defScope s_Table_parse) := ⟨rfl, rfl, rfl, by decide +kernel, rfl, by decide +kernel, by decide +kernel⟩
abbrev s__law_entries : Stmt := topS 16
theorem sc__law_entries : FnScope ["feed", "most", "found", "turn", "low", "high"] ["feed", "most"] (defScope s__law_entries) := ⟨rfl, rfl, rfl, by decide +kernel, rfl, by decide +kernel, by decide +kernel⟩
abbrev s_law : Stmt := topS 21
theorem sc_law : FnScope ["script", "k", "feed", "made", "many", "turn", "entries", "mine", "some", "table", "one", "other", "same", "thing"] ["script"] (defScope s_law) := ⟨rfl, rfl, rfl, by decide +kernel, rfl, by decide +kernel, by decide +kernel⟩
structure Facts (K : PySem.W.Frag) (mg : Str → Option Value) where
  a__law_feed : Addr
  d__law_feed : FuncData
  F__law_feed : Fun K "_law_feed" "_law_feed" s__law_feed a__law_feed d__law_feed
  B__law_feed : Binds K d__law_feed ["script", "k"] []
  g__law_feed : mg "_law_feed" = some (.ref a__law_feed)
  a__law_take : Addr
  d__law_take : FuncData
  F__law_take : Fun K "_law_take" "_law_take" s__law_take a__law_take d__law_take
  B__law_take : Binds K d__law_take ["feed", "many"] []
  g__law_take : mg "_law_take" = some (.ref a__law_take)
  a__law_pick : Addr
  d__law_pick : FuncData
  F__law_pick : Fun K "_law_pick" "_law_pick" s__law_pick a__law_pick d__law_pick
  B__law_pick : Binds K d__law_pick ["feed", "some"] []
  g__law_pick : mg "_law_pick" = some (.ref a__law_pick)
  a__law_interval : Addr
  d__law_interval : FuncData
  F__law_interval : Fun K "_law_interval" "_law_interval" s__law_interval a__law_interval d__law_interval
  B__law_interval : Binds K d__law_interval ["feed", "most"] []
  g__law_interval : mg "_law_interval" = some (.ref a__law_interval)
  a__law_many : Addr
  d__law_many : FuncData
  F__law_many : Fun K "_law_many" "_law_many" s__law_many a__law_many d__law_many
  B__law_many : Binds K d__law_many ["feed"] []
  g__law_many : mg "_law_many" = some (.ref a__law_many)
  a_Table___init__ : Addr
  d_Table___init__ : FuncData
  F_Table___init__ : Fun K "__init__" "Table.__init__" s_Table___init__ a_Table___init__ d_Table___init__
  B_Table___init__ : Binds K d_Table___init__ ["self", "entries"] []
  a_Table___str__ : Addr
  d_Table___str__ : FuncData
  F_Table___str__ : Fun K "__str__" "Table.__str__" s_Table___str__ a_Table___str__ d_Table___str__
  B_Table___str__ : Binds K d_Table___str__ ["self"] []
  a_Table_amount : Addr
  d_Table_amount : FuncData
  F_Table_amount : Fun K "amount" "Table.amount" s_Table_amount a_Table_amount d_Table_amount
  B_Table_amount : Binds K d_Table_amount ["self", "low", "high"] []
  a__law_amount : Addr
  d__law_amount : FuncData
  F__law_amount : Fun K "_law_amount" "_law_amount" s__law_amount a__law_amount d__law_amount
  B__law_amount : Binds K d__law_amount ["entries", "low", "high"] []
  g__law_amount : mg "_law_amount" = some (.ref a__law_amount)
  a_Table_wear : Addr
  d_Table_wear : FuncData
  F_Table_wear : Fun K "wear" "Table.wear" s_Table_wear a_Table_wear d_Table_wear
  B_Table_wear : Binds K d_Table_wear ["self", "ranges"] []
  a__law_wear : Addr
  d__law_wear : FuncData
  F__law_wear : Fun K "_law_wear" "_law_wear" s__law_wear a__law_wear d__law_wear
  B__law_wear : Binds K d__law_wear ["entries", "ranges"] []
  g__law_wear : mg "_law_wear" = some (.ref a__law_wear)
  a_Table___eq__ : Addr
  d_Table___eq__ : FuncData
  F_Table___eq__ : Fun K "__eq__" "Table.__eq__" s_Table___eq__ a_Table___eq__ d_Table___eq__
  B_Table___eq__ : Binds K d_Table___eq__ ["self", "other"] []
  a__law_right : Addr
  d__law_right : FuncData
  F__law_right : Fun K "_law_right" "_law_right" s__law_right a__law_right d__law_right
  B__law_right : Binds K d__law_right ["feed", "table", "entries"] []
  g__law_right : mg "_law_right" = some (.ref a__law_right)
  a_read_number : Addr
  d_read_number : FuncData
  F_read_number : Fun K "read_number" "read_number" s_read_number a_read_number d_read_number
  B_read_number : Binds K d_read_number ["word"] []
  g_read_number : mg "read_number" = some (.ref a_read_number)
  a_read_entry : Addr
  d_read_entry : FuncData
  F_read_entry : Fun K "read_entry" "read_entry" s_read_entry a_read_entry d_read_entry
  B_read_entry : Binds K d_read_entry ["words"] []
  g_read_entry : mg "read_entry" = some (.ref a_read_entry)
  a_Table_parse : Addr
  d_Table_parse : FuncData
  F_Table_parse : Fun K "parse" "Table.parse" s_Table_parse a_Table_parse d_Table_parse
  B_Table_parse : Binds K d_Table_parse ["cls", "text"] []
  a__law_entries : Addr
  d__law_entries : FuncData
  F__law_entries : Fun K "_law_entries" "_law_entries" s__law_entries a__law_entries d__law_entries
  B__law_entries : Binds K d__law_entries ["feed", "most"] []
  g__law_entries : mg "_law_entries" = some (.ref a__law_entries)
  a_law : Addr
  d_law : FuncData
  F_law : Fun K "law" "law" s_law a_law d_law
  B_law : Binds K d_law ["script"] []
  g_law : mg "law" = some (.ref a_law)
  A_Table : Addr
  cm_Table : mg "Table" = some (.ref A_Table)
  cc_Table : Cls K A_Table
  na_Table_entries : NoAttr K A_Table "entries"
  M_Table : Mk K A_Table a_Table___init__
  rd_Table : PySem.W.readsIn K A_Table (.type "type") = true
  ga_Table : PySem.W.specialIn K (.ref A_Table) "__getattribute__" = some (some (.builtin "type.__getattribute__"))
  E_Table : OwnEq K A_Table a_Table___eq__
  J_Table : IsC K A_Table
  S_Table : OwnStr K A_Table a_Table___str__
  f_Table___str__ : PySem.W.findIn K (.ref A_Table) "__str__" = some (some (.ref a_Table___str__))
  i_Table___str__ : PySem.W.isFn K (.ref a_Table___str__) = true
  f_Table_amount : PySem.W.findIn K (.ref A_Table) "amount" = some (some (.ref a_Table_amount))
  i_Table_amount : PySem.W.isFn K (.ref a_Table_amount) = true
  f_Table_wear : PySem.W.findIn K (.ref A_Table) "wear" = some (some (.ref a_Table_wear))
  i_Table_wear : PySem.W.isFn K (.ref a_Table_wear) = true
  f_Table___eq__ : PySem.W.findIn K (.ref A_Table) "__eq__" = some (some (.ref a_Table___eq__))
  i_Table___eq__ : PySem.W.isFn K (.ref a_Table___eq__) = true
  p_Table_parse : Addr
  rest_Table_parse : List Value
  b_Table_parse : PySem.W.findCls K (.ref A_Table) (.type "type") "parse" = some (.get (.builtin "classmethod.__get__") (.ref p_Table_parse) .none (.ref A_Table))
  r_Table_parse : PySem.W.recIn K p_Table_parse "classmethod" = some (.ref a_Table_parse :: rest_Table_parse)
  j_Table_parse : PySem.W.fnIn K a_Table_parse = true
  t_DIGITS : Tok
  c_DIGITS : mg "DIGITS" = some (.str "0123456789" t_DIGITS)
  t_MAX_AMOUNT : Tok
  c_MAX_AMOUNT : mg "MAX_AMOUNT" = some (.int 1000000 t_MAX_AMOUNT)
  t_MOST : Tok
  c_MOST : mg "MOST" = some (.int 1000000000 t_MOST)
  z_abs : mg "abs" = none
  z_all : mg "all" = none
  z_enumerate : mg "enumerate" = none
  z_int : mg "int" = none
  z_isinstance : mg "isinstance" = none
  z_len : mg "len" = none
  z_list : mg "list" = none
  z_max : mg "max" = none
  z_min : mg "min" = none
  z_range : mg "range" = none
  z_repr : mg "repr" = none
  z_str : mg "str" = none
  z_sum : mg "sum" = none
  z_tuple : mg "tuple" = none
section
variable {P : Program} {w : World} {K : PySem.W.Frag} {mg : Str → Option Value} {base : Heap}
theorem ok__law_feed (T : Facts K mg) : FnOk P w K mg base CX0 1 T.a__law_feed T.d__law_feed ["script", "k"] (Prom ⟨K, mg⟩ 2 f__law_feed) :=
  fun_ok (N := ["script", "k", "cell", "digits", "state"]) (ps := ["script", "k"]) (np := 2) (k := 0) (g := m__law_feed) T.F__law_feed sc__law_feed rfl fun cdv A outer s H E hr =>
  (bx_cons (sx_adj [.fz 2] (sx_asg 2 sc__law_feed.nd (ex_if (tx_cmp op_lt bok_lt (ex_v 1) (ex_callB call_len cok_len (by rfl) T.z_len boot_len (ax_cons (ex_v 0) ax_nil)) (nomark _)) (ex_ix (ex_v 0) (ex_v 1)) (ex_add (ex_mul ex_int (ex_v 1)) ex_int))))
  (bx_cons (sx_adj [.fz 3] (sx_asg 3 sc__law_feed.nd (ex_callB (call_max2 rfl) cok_max2 (by rfl) T.z_max boot_max (ax_cons ex_int (ax_cons (ex_sub (ex_callB call_abs cok_abs (by rfl) T.z_abs boot_abs (ax_cons (ex_v 2) ax_nil)) (ex_pow ex_int ex_int)) ax_nil)))))
  (bx_cons (sx_adj [.fz 4] (sx_asg 4 sc__law_feed.nd (ex_mod (ex_add (ex_add (ex_mul (ex_v 2) ex_int) (ex_mul ex_int (ex_v 1))) ex_int) ex_int)))
  (bx_cons (sx_ret (ex_lst (ax_cons (ex_v 3) (ax_cons (ex_v 4) ax_nil))))
  bx_nil))))
theorem ok__law_take (T : Facts K mg) : FnOk P w K mg base CX0 1 T.a__law_take T.d__law_take ["feed", "many"] (Prom ⟨K, mg⟩ 2 f__law_take) :=
  fun_ok (N := ["feed", "many", "digit"]) (ps := ["feed", "many"]) (np := 2) (k := 0) (g := m__law_take) T.F__law_take sc__law_take rfl fun cdv A outer s H E hr =>
  (bx_cons (sx_if (tx_cmp op_gt bok_gt (ex_ix (ex_v 0) ex_int) ex_int (nomark _)) (bx_cons (sx_adj [.fz 2] (sx_asg 2 sc__law_take.nd (ex_mod (ex_ix (ex_v 0) ex_int) (ex_v 1))))
  (bx_cons (sx_setix 0 (ex_div (ex_ix (ex_v 0) ex_int) (ex_v 1)) ex_int)
  (bx_cons (sx_retF (ex_v 2))
  bx_nil))) bx_nil)
  (bx_cons (sx_setix 0 (ex_mod (ex_add (ex_mul (ex_ix (ex_v 0) ex_int) ex_int) ex_int) ex_int) ex_int)
  (bx_cons (sx_retF (ex_mod (ex_div (ex_ix (ex_v 0) ex_int) ex_int) (ex_v 1)))
  bx_nil)))
theorem ok__law_pick (T : Facts K mg) : FnOk P w K mg base CX0 2 T.a__law_pick T.d__law_pick ["feed", "some"] (Prom ⟨K, mg⟩ 2 f__law_pick) :=
  fun_ok (N := ["feed", "some"]) (ps := ["feed", "some"]) (np := 2) (k := 1) (g := m__law_pick) T.F__law_pick sc__law_pick rfl fun cdv A outer s H E hr =>
  (bx_cons (sx_retF (ex_ix (ex_v 1) (ex_call (ms := [.mt, .rd]) (ok__law_take T) rfl (hr.mono (by decide)) (by rfl) T.g__law_take T.F__law_take.kp T.B__law_take (ax_cons (ex_v 0) (ax_cons (ex_callB call_len cok_len (by rfl) T.z_len boot_len (ax_cons (ex_v 1) ax_nil)) ax_nil)))))
  bx_nil)
theorem ok__law_interval (T : Facts K mg) : FnOk P w K mg base CX0 2 T.a__law_interval T.d__law_interval ["feed", "most"] (Prom ⟨K, mg⟩ 2 f__law_interval) :=
  fun_ok (N := ["feed", "most", "low"]) (ps := ["feed", "most"]) (np := 2) (k := 1) (g := m__law_interval) T.F__law_interval sc__law_interval rfl fun cdv A outer s H E hr =>
  (bx_cons (sx_adj [.fz 2] (sx_asg 2 sc__law_interval.nd (ex_call (ms := [.mt, .rd]) (ok__law_take T) rfl (hr.mono (by decide)) (by rfl) T.g__law_take T.F__law_take.kp T.B__law_take (ax_cons (ex_v 0) (ax_cons (ex_v 1) ax_nil)))))
  (bx_cons (sx_retF (ex_tup (ax_cons (ex_v 2) (ax_cons (ex_add (ex_add (ex_v 2) ex_int) (ex_call (ms := [.mt, .rd]) (ok__law_take T) rfl (hr.mono (by decide)) (by rfl) T.g__law_take T.F__law_take.kp T.B__law_take (ax_cons (ex_v 0) (ax_cons (ex_sub (ex_v 1) (ex_v 2)) ax_nil)))) ax_nil))))
  bx_nil))
theorem ok__law_many (T : Facts K mg) : FnOk P w K mg base CX0 3 T.a__law_many T.d__law_many ["feed"] (Prom ⟨K, mg⟩ 1 f__law_many) :=
  fun_ok (N := ["feed", "found", "step", "turn", "low", "high"]) (ps := ["feed"]) (np := 1) (k := 2) (g := m__law_many) T.F__law_many sc__law_many rfl fun cdv A outer s H E hr =>
  (bx_cons (sx_adj [.fz 2] (sx_par2 1 2 rfl sc__law_many.nd (ux_cons W0.keep (ex_lst (ax_cons (ex_tup (ax_cons (ex_neg (ex_pow ex_int ex_int)) (ax_cons (ex_pow ex_int ex_int) (ax_cons ex_int ax_nil)))) ax_nil)) (ux_cons W0.keep (ex_call (ms := [.mt, .rd]) (ok__law_pick T) rfl (hr.mono (by decide)) (by rfl) T.g__law_pick T.F__law_pick.kp T.B__law_pick (ax_cons (ex_v 0) (ax_cons (ex_lst (ax_cons ex_int (ax_cons ex_int (ax_cons (ex_pow ex_int ex_int) ax_nil)))) ax_nil))) ux_nil)) (by rfl)))
  (bx_cons (sx_for PassesOwn.never rfl (ix_rng1 (by rfl) T.z_range (ax_cons ex_int ax_nil)) (gx_name 3 sc__law_many.nd) (bx_adj [.no 3, .no 4, .no 5] (bx_cons (sx_asgT (ex_call (ms := [.mt, .rd]) (ok__law_interval T) rfl (hr.mono (by decide)) (by rfl) T.g__law_interval T.F__law_interval.kp T.B__law_interval (ax_cons (ex_v 0) (ax_cons ex_int ax_nil))) (gx_tup rfl (gx_cons (gx_name 4 sc__law_many.nd) (gx_cons (gx_name 5 sc__law_many.nd) gx_nil)) (hl := (tg_len (tg_len tg_len0)))) (tgTup_nx (tgCons_nx bindD_nx (tgCons_nx bindD_nx tgNil_nx))))
  (bx_cons (sx_exp (ex_mth 1 mok_app PySem.F.slot_list_append PySem.F.type_list_append mt_append (ax_cons (ex_tup (ax_cons (ex_mul (ex_sub (ex_v 4) ex_int) (ex_v 2)) (ax_cons (ex_mul (ex_sub (ex_v 5) ex_int) (ex_v 2)) (ax_cons (ex_call (ms := [.mt, .rd]) (ok__law_take T) rfl (hr.mono (by decide)) (by rfl) T.g__law_take T.F__law_take.kp T.B__law_take (ax_cons (ex_v 0) (ax_cons ex_int ax_nil))) ax_nil)))) ax_nil)))
  bx_nil))) bindD_nx)
  (bx_cons (sx_ret (ex_v 1))
  bx_nil)))
theorem ok_Table___init__ (T : Facts K mg) : FnOk P w K mg base CX0 1 T.a_Table___init__ T.d_Table___init__ ["self", "entries"] (Prom ⟨K, mg⟩ 2 f_Table___init__) :=
  fun_ok (N := ["self", "entries", "entry"]) (ps := ["self", "entries"]) (np := 2) (k := 0) (g := m_Table___init__) T.F_Table___init__ sc_Table___init__ rfl fun cdv A outer s H E hr =>
  (bx_cons (sx_fldC 0 ⟨T.cm_Table, T.cc_Table⟩ T.na_Table_entries (ex_callTy call_tuple_of cok_tuple (by rfl) T.z_tuple boot_tuple (ax_cons (ex_lc (own := [("entry", 2)]) rfl sc_Table___init__.nd (ix_seq' (ex_v 1)) (blkOk_by (N := ["self", "entries", "entry"]) (sc := defScope s_Table___init__) (by decide +kernel)) (fun _ _ _ _ _ => (gx_name 2 sc_Table___init__.nd)) (fun _ _ _ _ _ => tsx_nil) (fun _ _ _ _ _ => (ex_callTy call_tuple_of cok_tuple (by rfl) T.z_tuple boot_tuple (ax_cons (ex_v 2) ax_nil))) (by decide)) ax_nil)))
  bx_nil)
theorem ok_Table___str__ (T : Facts K mg) : FnOk P w K mg base CX0 1 T.a_Table___str__ T.d_Table___str__ ["self"] (Prom ⟨K, mg⟩ 1 f_Table___str__) :=
  fun_ok (N := ["self", "entry", "number"]) (ps := ["self"]) (np := 1) (k := 0) (g := m_Table___str__) T.F_Table___str__ sc_Table___str__ rfl fun cdv A outer s H E hr =>
  (bx_cons (sx_retF (ex_pm PySem.F.plainAttrs_str pok_join ty_str PySem.F.slot_str_join PySem.F.type_str_join mt_join ex_str (ax_cons (ex_lc (own := [("entry", 1)]) rfl sc_Table___str__.nd (ix_seq' (ex_fld ⟨T.cm_Table, T.cc_Table⟩ T.na_Table_entries (ex_v 0))) (blkOk_by (N := ["self", "entry", "number"]) (sc := defScope s_Table___str__) (by decide +kernel)) (fun _ _ _ _ _ => (gx_name 1 sc_Table___str__.nd)) (fun _ _ _ _ _ => tsx_nil) (fun _ _ _ _ _ => (ex_pm PySem.F.plainAttrs_str pok_join ty_str PySem.F.slot_str_join PySem.F.type_str_join mt_join ex_str (ax_cons (ex_lc (own := [("number", 2)]) rfl sc_Table___str__.nd (ix_seq' (ex_v 1)) (by dsimp only [Cx.blk, compEnvC, cxOf, Cx.nox]; exact blkOk_by (by kernel_rfl)) (fun _ _ _ _ _ => (gx_name 2 sc_Table___str__.nd)) (fun _ _ _ _ _ => tsx_nil) (fun _ _ _ _ _ => (ex_callTy call_str_int cok_str (by rfl) T.z_str boot_str (ax_cons (ex_v 2) ax_nil))) (by decide)) ax_nil))) (by decide)) ax_nil)))
  bx_nil)
theorem ok_Table_amount (T : Facts K mg) : FnOk P w K mg base CX0 1 T.a_Table_amount T.d_Table_amount ["self", "low", "high"] (Prom ⟨K, mg⟩ 3 f_Table_amount) :=
  fun_ok (N := ["self", "low", "high", "start", "end", "amount"]) (ps := ["self", "low", "high"]) (np := 3) (k := 0) (g := m_Table_amount) T.F_Table_amount sc_Table_amount rfl fun cdv A outer s H E hr =>
  (bx_cons (sx_retF (ex_maxD (d := 0) rfl (by rfl) T.z_max boot_max (ax_cons (ex_lc (own := [("start", 3), ("end", 4), ("amount", 5)]) rfl sc_Table_amount.nd (ix_seq' (ex_fld ⟨T.cm_Table, T.cc_Table⟩ T.na_Table_entries (ex_v 0))) (blkOk_by (N := ["self", "low", "high", "start", "end", "amount"]) (sc := defScope s_Table_amount) (by decide +kernel)) (fun _ _ _ _ _ => (gx_tup rfl (gx_cons (gx_name 3 sc_Table_amount.nd) (gx_cons (gx_name 4 sc_Table_amount.nd) (gx_cons (gx_name 5 sc_Table_amount.nd) gx_nil))) (hl := (tg_len (tg_len (tg_len tg_len0)))))) (fun _ _ _ _ _ => (tsx_one (tx_w (wx_and (tx_cmp op_le bok_le (ex_v 1) (ex_v 3) (nomark _)) (wx_and1 (tx_cmp op_le bok_le (ex_v 4) (ex_v 2) (nomark _))))))) (fun _ _ _ _ _ => (ex_v 5)) (by decide)) ax_nil)))
  bx_nil)
theorem ok__law_amount (T : Facts K mg) : FnOk P w K mg base CX0 1 T.a__law_amount T.d__law_amount ["entries", "low", "high"] (Prom ⟨K, mg⟩ 3 f__law_amount) :=
  fun_ok (N := ["entries", "low", "high", "found", "start", "end", "amount"]) (ps := ["entries", "low", "high"]) (np := 3) (k := 0) (g := m__law_amount) T.F__law_amount sc__law_amount rfl fun cdv A outer s H E hr =>
  (bx_cons (sx_adj [.fz 3] (sx_asg 3 sc__law_amount.nd ex_int))
  (bx_cons (sx_for PassesOwn.never rfl (ix_seq' (ex_v 0)) (gx_tup rfl (gx_cons (gx_name 4 sc__law_amount.nd) (gx_cons (gx_name 5 sc__law_amount.nd) (gx_cons (gx_name 6 sc__law_amount.nd) gx_nil))) (hl := (tg_len (tg_len (tg_len tg_len0))))) (bx_adj [.no 4, .no 5, .no 6] (bx_cons (sx_if (tx_w (wx_and (tx_cmp op_le bok_le (ex_v 1) (ex_v 4) (nomark _)) (wx_and (tx_cmp op_le bok_le (ex_v 5) (ex_v 2) (nomark _)) (wx_and1 (tx_cmp op_gt bok_gt (ex_v 6) (ex_v 3) (nomark _)))))) (bx_cons (sx_adj [.fz 3] (sx_asg 3 sc__law_amount.nd (ex_v 6)))
  bx_nil) bx_nil)
  bx_nil)) (tgTup_nx (tgCons_nx bindD_nx (tgCons_nx bindD_nx (tgCons_nx bindD_nx tgNil_nx)))))
  (bx_cons (sx_retF (ex_v 3))
  bx_nil)))
theorem ok_Table_wear (T : Facts K mg) : FnOk P w K mg base CX0 2 T.a_Table_wear T.d_Table_wear ["self", "ranges"] (Prom ⟨K, mg⟩ 2 f_Table_wear) :=
  fun_ok (N := ["self", "ranges", "low", "high"]) (ps := ["self", "ranges"]) (np := 2) (k := 1) (g := m_Table_wear) T.F_Table_wear sc_Table_wear rfl fun cdv A outer s H E hr =>
  (bx_cons (sx_retF (ex_callB (cr_sum rfl) cok_sum (by rfl) T.z_sum boot_sum (ax_cons (ex_lc (own := [("low", 2), ("high", 3)]) rfl sc_Table_wear.nd (ix_seq' (ex_v 1)) (blkOk_by (N := ["self", "ranges", "low", "high"]) (sc := defScope s_Table_wear) (by decide +kernel)) (fun _ _ _ _ _ => (gx_tup rfl (gx_cons (gx_name 2 sc_Table_wear.nd) (gx_cons (gx_name 3 sc_Table_wear.nd) gx_nil)) (hl := (tg_len (tg_len tg_len0))))) (fun _ _ _ _ _ => tsx_nil) (fun _ _ _ _ _ => (ex_meth (ms := [.rd, .rd, .rd]) ⟨T.cm_Table, T.cc_Table⟩ ⟨T.f_Table_amount, T.i_Table_amount, T.F_Table_amount.kp⟩ (ok_Table_amount T) T.B_Table_amount rfl (hr.mono (by decide)) (ex_v 0) (ax_cons (ex_v 2) (ax_cons (ex_v 3) ax_nil)))) (by decide)) ax_nil)))
  bx_nil)
theorem ok__law_wear (T : Facts K mg) : FnOk P w K mg base CX0 2 T.a__law_wear T.d__law_wear ["entries", "ranges"] (Prom ⟨K, mg⟩ 2 f__law_wear) :=
  fun_ok (N := ["entries", "ranges", "low", "high"]) (ps := ["entries", "ranges"]) (np := 2) (k := 1) (g := m__law_wear) T.F__law_wear sc__law_wear rfl fun cdv A outer s H E hr =>
  (bx_cons (sx_retF (ex_callB (cr_sum rfl) cok_sum (by rfl) T.z_sum boot_sum (ax_cons (ex_lc (own := [("low", 2), ("high", 3)]) rfl sc__law_wear.nd (ix_seq' (ex_v 1)) (blkOk_by (N := ["entries", "ranges", "low", "high"]) (sc := defScope s__law_wear) (by decide +kernel)) (fun _ _ _ _ _ => (gx_tup rfl (gx_cons (gx_name 2 sc__law_wear.nd) (gx_cons (gx_name 3 sc__law_wear.nd) gx_nil)) (hl := (tg_len (tg_len tg_len0))))) (fun _ _ _ _ _ => tsx_nil) (fun _ _ _ _ _ => (ex_call (ms := [.rd, .rd, .rd]) (ok__law_amount T) rfl (hr.mono (by decide)) (by rfl) T.g__law_amount T.F__law_amount.kp T.B__law_amount (ax_cons (ex_v 0) (ax_cons (ex_v 2) (ax_cons (ex_v 3) ax_nil))))) (by decide)) ax_nil)))
  bx_nil)
theorem ok_Table___eq__ (T : Facts K mg) : FnOk P w K mg base CX0 1 T.a_Table___eq__ T.d_Table___eq__ ["self", "other"] (Prom ⟨K, mg⟩ 2 f_Table___eq__) :=
  fun_ok (N := ["self", "other"]) (ps := ["self", "other"]) (np := 2) (k := 0) (g := m_Table___eq__) T.F_Table___eq__ sc_Table___eq__ rfl fun cdv A outer s H E hr =>
  (bx_cons (sx_retF (ex_and (ex_isiC ⟨T.cm_Table, T.cc_Table⟩ T.J_Table (by rfl) T.z_isinstance (by rfl) (ex_v 1)) (ex_one (ex_cmp (op_eq.or (op_eqD (hr.units))) bok_eq (ex_fld ⟨T.cm_Table, T.cc_Table⟩ T.na_Table_entries (ex_v 0)) (ex_fld ⟨T.cm_Table, T.cc_Table⟩ T.na_Table_entries (ex_v 1)) (nomark _)))))
  bx_nil)
theorem ok__law_right (T : Facts K mg) : GnOk P w K mg base 4 T.a__law_right T.d__law_right ["feed", "table", "entries"] (Prom ⟨K, mg⟩ 3 f__law_right_3) :=
  gn_ok (N := ["feed", "table", "entries", "text", "entry", "number", "ranges", "turn", "low", "high", "some", "seen"]) (ps := ["feed", "table", "entries"]) (np := 3) (k := 3) (g := m__law_right_3) T.F__law_right sc__law_right rfl fun cdv A outer s H hg hr =>
  (bx_cons (sx_adj [.fz 3] (sx_asg 3 sc__law_right.nd (ex_pm PySem.F.plainAttrs_str pok_join ty_str PySem.F.slot_str_join PySem.F.type_str_join mt_join ex_str (ax_cons (ex_lc (own := [("entry", 4)]) rfl sc__law_right.nd (ix_seq' (ex_v 2)) (blkOk_by (N := ["feed", "table", "entries", "text", "entry", "number", "ranges", "turn", "low", "high", "some", "seen"]) (sc := defScope s__law_right) (by decide +kernel)) (fun _ _ _ _ _ => (gx_name 4 sc__law_right.nd)) (fun _ _ _ _ _ => tsx_nil) (fun _ _ _ _ _ => (ex_pm PySem.F.plainAttrs_str pok_join ty_str PySem.F.slot_str_join PySem.F.type_str_join mt_join ex_str (ax_cons (ex_lc (own := [("number", 5)]) rfl sc__law_right.nd (ix_seq' (ex_v 4)) (by dsimp only [Cx.blk, compEnvC, cxOf, Cx.nox]; exact blkOk_by (by kernel_rfl)) (fun _ _ _ _ _ => (gx_name 5 sc__law_right.nd)) (fun _ _ _ _ _ => tsx_nil) (fun _ _ _ _ _ => (ex_callTy call_str_int cok_str (by rfl) T.z_str boot_str (ax_cons (ex_v 5) ax_nil))) (by decide)) ax_nil))) (by decide)) ax_nil))))
  (bx_cons (sx_if (tx_w (wx_or (tx_not (tx_tru (ex_isiC ⟨T.cm_Table, T.cc_Table⟩ T.J_Table (by rfl) T.z_isinstance (by rfl) (ex_v 1)))) (wx_or (tx_cmp (op_ne.or (op_neD (hr.units))) bok_ne (ex_callB (call_reprD hg (hr.units)) cok_repr (by rfl) T.z_repr boot_repr (ax_cons (ex_fld ⟨T.cm_Table, T.cc_Table⟩ T.na_Table_entries (ex_v 1)) ax_nil)) (ex_callB (call_reprD hg (hr.units)) cok_repr (by rfl) T.z_repr boot_repr (ax_cons (ex_callTy call_tuple_of cok_tuple (by rfl) T.z_tuple boot_tuple (ax_cons (ex_v 2) ax_nil)) ax_nil)) (nomark _)) (wx_or1 (tx_cmp (op_ne.or (op_neD (hr.units))) bok_ne (ex_strI ⟨T.cm_Table, T.cc_Table⟩ T.S_Table (ok_Table___str__ T) T.B_Table___str__ (hr.mono (by decide)) (by rfl) T.z_str (ex_v 1)) (ex_v 3) (nomark _)))))) (bx_cons (sx_retF ex_bl)
  bx_nil) bx_nil)
  (bx_cons ((sx_setLc 6 (own := [("entry", 4)]) rfl sc__law_right.nd (sw_true rfl rfl rfl (by decide +kernel)) (ix_seq' (ex_v 2)) (blkOk_by (N := ["feed", "table", "entries", "text", "entry", "number", "ranges", "turn", "low", "high", "some", "seen"]) (sc := defScope s__law_right) (by decide +kernel)) (fun _ _ _ _ _ => (gx_name 4 sc__law_right.nd)) (fun _ _ _ _ _ => tsx_nil) (fun _ _ _ _ _ => (ex_slice (ex_v 4) ox_none (ox_some ex_int))) (by decide)))
  (bx_cons (sx_for PassesOwn.never rfl (ix_rng1 (by rfl) T.z_range (ax_cons (ex_call (ms := [.mt, .rd]) (ok__law_take T) rfl (hr.mono (by decide)) (by rfl) T.g__law_take T.F__law_take.kp T.B__law_take (ax_cons (ex_v 0) (ax_cons ex_int ax_nil))) ax_nil)) (gx_name 7 sc__law_right.nd) (bx_adj [.no 7] (bx_cons (sx_exp (ex_mth 6 mok_app PySem.F.slot_list_append PySem.F.type_list_append mt_append (ax_cons (ex_call (ms := [.mt, .rd]) (ok__law_interval T) rfl (hr.mono (by decide)) (by rfl) T.g__law_interval T.F__law_interval.kp T.B__law_interval (ax_cons (ex_v 0) (ax_cons ex_int ax_nil))) ax_nil)))
  bx_nil)) bindD_nx)
  (bx_cons (sx_pre [.fz 6] (sx_for PassesOwn.never rfl (ix_seq' (ex_v 6)) (gx_tup rfl (gx_cons (gx_name 8 sc__law_right.nd) (gx_cons (gx_name 9 sc__law_right.nd) gx_nil)) (hl := (tg_len (tg_len tg_len0)))) (bx_adj [.no 8, .no 9] (bx_cons (sx_if (tx_cmp (op_ne.or (op_neD (hr.units))) bok_ne (ex_callB (call_reprD hg (hr.units)) cok_repr (by rfl) T.z_repr boot_repr (ax_cons (ex_meth (ms := [.rd, .rd, .rd]) ⟨T.cm_Table, T.cc_Table⟩ ⟨T.f_Table_amount, T.i_Table_amount, T.F_Table_amount.kp⟩ (ok_Table_amount T) T.B_Table_amount rfl (hr.mono (by decide)) (ex_v 1) (ax_cons (ex_v 8) (ax_cons (ex_v 9) ax_nil))) ax_nil)) (ex_callB (call_reprD hg (hr.units)) cok_repr (by rfl) T.z_repr boot_repr (ax_cons (ex_call (ms := [.rd, .rd, .rd]) (ok__law_amount T) rfl (hr.mono (by decide)) (by rfl) T.g__law_amount T.F__law_amount.kp T.B__law_amount (ax_cons (ex_v 2) (ax_cons (ex_v 8) (ax_cons (ex_v 9) ax_nil)))) ax_nil)) (nomark _)) (bx_cons (sx_retF ex_bl)
  bx_nil) bx_nil)
  bx_nil)) (tgTup_nx (tgCons_nx bindD_nx (tgCons_nx bindD_nx tgNil_nx)))))
  (bx_cons (sx_for PassesOwn.never rfl (ix_seq' (ex_tup (ax_cons (ex_v 6) (ax_cons (ex_callTy call_tuple_of cok_tuple (by rfl) T.z_tuple boot_tuple (ax_cons (ex_add (ex_v 6) (ex_v 6)) ax_nil)) (ax_cons (ex_lst ax_nil) (ax_cons (ex_revL (ex_v 6)) ax_nil)))))) (gx_name 10 sc__law_right.nd) (bx_adj [.no 10, .no 11] (bx_cons (sx_adj [.fz 11] (sx_asg 11 sc__law_right.nd (ex_callB (call_reprD hg (hr.units)) cok_repr (by rfl) T.z_repr boot_repr (ax_cons (ex_v 10) ax_nil))))
  (bx_cons (sx_if (tx_w (wx_or (tx_cmp (op_ne.or (op_neD (hr.units))) bok_ne (ex_callB (call_reprD hg (hr.units)) cok_repr (by rfl) T.z_repr boot_repr (ax_cons (ex_meth (ms := [.rd, .rd]) ⟨T.cm_Table, T.cc_Table⟩ ⟨T.f_Table_wear, T.i_Table_wear, T.F_Table_wear.kp⟩ (ok_Table_wear T) T.B_Table_wear rfl (hr.mono (by decide)) (ex_v 1) (ax_cons (ex_v 10) ax_nil)) ax_nil)) (ex_callB (call_reprD hg (hr.units)) cok_repr (by rfl) T.z_repr boot_repr (ax_cons (ex_call (ms := [.rd, .rd]) (ok__law_wear T) rfl (hr.mono (by decide)) (by rfl) T.g__law_wear T.F__law_wear.kp T.B__law_wear (ax_cons (ex_v 2) (ax_cons (ex_v 10) ax_nil))) ax_nil)) (nomark _)) (wx_or1 (tx_cmp (op_ne.or (op_neD (hr.units))) bok_ne (ex_callB (call_reprD hg (hr.units)) cok_repr (by rfl) T.z_repr boot_repr (ax_cons (ex_v 10) ax_nil)) (ex_v 11) (nomark _))))) (bx_cons (sx_retF ex_bl)
  bx_nil) bx_nil)
  bx_nil))) bindD_nx)
  (bx_cons (sx_if (tx_cmp (op_ne.or (op_neD (hr.units))) bok_ne (ex_meth (ms := [.rd, .rd, .rd]) ⟨T.cm_Table, T.cc_Table⟩ ⟨T.f_Table_amount, T.i_Table_amount, T.F_Table_amount.kp⟩ (ok_Table_amount T) T.B_Table_amount rfl (hr.mono (by decide)) (ex_v 1) (ax_cons (ex_neg (ex_pow ex_int ex_int)) (ax_cons (ex_pow ex_int ex_int) ax_nil))) (ex_callB (cr_max rfl) cok_maxL (by rfl) T.z_max boot_max (ax_cons (ex_add (ex_lst (ax_cons ex_int ax_nil)) (ex_lc (own := [("entry", 4)]) rfl sc__law_right.nd (ix_seq' (ex_v 2)) (blkOk_by (N := ["feed", "table", "entries", "text", "entry", "number", "ranges", "turn", "low", "high", "some", "seen"]) (sc := defScope s__law_right) (by decide +kernel)) (fun _ _ _ _ _ => (gx_name 4 sc__law_right.nd)) (fun _ _ _ _ _ => tsx_nil) (fun _ _ _ _ _ => (ex_ix (ex_v 4) ex_int)) (by decide))) ax_nil)) (nomark _)) (bx_cons (sx_retF ex_bl)
  bx_nil) bx_nil)
  (bx_cons (sx_retF (ex_and (ex_cmp (op_eq.or (op_eqD (hr.units))) bok_eq (ex_callB (call_reprD hg (hr.units)) cok_repr (by rfl) T.z_repr boot_repr (ax_cons (ex_fld ⟨T.cm_Table, T.cc_Table⟩ T.na_Table_entries (ex_v 1)) ax_nil)) (ex_callB (call_reprD hg (hr.units)) cok_repr (by rfl) T.z_repr boot_repr (ax_cons (ex_callTy call_tuple_of cok_tuple (by rfl) T.z_tuple boot_tuple (ax_cons (ex_v 2) ax_nil)) ax_nil)) (nomark _)) (ex_and (ex_cmp (op_eq.or (op_eqD (hr.units))) bok_eq (ex_strI ⟨T.cm_Table, T.cc_Table⟩ T.S_Table (ok_Table___str__ T) T.B_Table___str__ (hr.mono (by decide)) (by rfl) T.z_str (ex_v 1)) (ex_v 3) (nomark _)) (ex_one (ex_own ⟨T.cm_Table, T.cc_Table⟩ T.E_Table (ok_Table___eq__ T) T.B_Table___eq__ (hr.mono (by decide)) (ex_v 1) (ex_make (ms := [.rd]) T.M_Table (ok_Table___init__ T) rfl (hr.mono (by decide)) (by rfl) T.cm_Table T.B_Table___init__ (ax_cons (ex_v 2) ax_nil)))))))
  bx_nil))))))))
theorem ok_read_number (T : Facts K mg) : FnOk P w K mg base CX0 3 T.a_read_number T.d_read_number ["word"] (Prom ⟨K, mg⟩ 1 f_read_number) :=
  fun_ok (N := ["word", "digits", "digit"]) (ps := ["word"]) (np := 1) (k := 2) (g := m_read_number) T.F_read_number sc_read_number rfl fun cdv A outer s H E hr =>
  (bx_cons (sx_adj [.fz 1] (sx_asg 1 sc_read_number.nd (ex_if (tx_cmp (op_eq.or (op_eqD (hr.units))) bok_eq (ex_slice (ex_v 0) ox_none (ox_some ex_int)) ex_str (nomark _)) (ex_slice (ex_v 0) (ox_some ex_int) ox_none) (ex_v 0))))
  (bx_cons (sx_if (tx_w (wx_or (tx_not (tx_chain op_le bok_le op_le bok_le ex_int (ex_callB call_len cok_len (by rfl) T.z_len boot_len (ax_cons (ex_v 1) ax_nil)) (ex_callB call_len cok_len (by rfl) T.z_len boot_len (ax_cons (ex_callTy call_str_int cok_str (by rfl) T.z_str boot_str (ax_cons (ex_gint (by rfl) T.c_MOST) ax_nil)) ax_nil)))) (wx_or1 (tx_not (tx_tru (ex_callB (cr_all rfl) cok_all (by rfl) T.z_all boot_all (ax_cons (ex_lc (own := [("digit", 2)]) rfl sc_read_number.nd (ix_str (ex_v 1)) (blkOk_by (N := ["word", "digits", "digit"]) (sc := defScope s_read_number) (by decide +kernel)) (fun _ _ _ _ _ => (gx_name 2 sc_read_number.nd)) (fun _ _ _ _ _ => tsx_nil) (fun _ _ _ _ _ => (ex_cmp op_in_sign bok_inS (ex_v 2) (ex_gstr (by rfl) T.c_DIGITS) (by rfl))) (by decide)) ax_nil))))))) (bx_cons (sx_retF ex_non)
  bx_nil) bx_nil)
  (bx_cons (sx_if (tx_w (wx_or (tx_cmp (op_ne.or (op_neD (hr.units))) bok_ne (ex_callTy call_str_int cok_str (by rfl) T.z_str boot_str (ax_cons (ex_callTy call_int_str cok_intS (by rfl) T.z_int boot_int (ax_cons (ex_v 0) ax_nil)) ax_nil)) (ex_v 0) (nomark _)) (wx_or1 (tx_not (tx_chain op_le bok_le op_le bok_le (ex_neg (ex_gint (by rfl) T.c_MOST)) (ex_callTy call_int_str cok_intS (by rfl) T.z_int boot_int (ax_cons (ex_v 0) ax_nil)) (ex_gint (by rfl) T.c_MOST)))))) (bx_cons (sx_retF ex_non)
  bx_nil) bx_nil)
  (bx_cons (sx_retF (ex_callTy call_int_str cok_intS (by rfl) T.z_int boot_int (ax_cons (ex_v 0) ax_nil)))
  bx_nil))))
theorem ok_read_entry (T : Facts K mg) : FnOk P w K mg base CX0 4 T.a_read_entry T.d_read_entry ["words"] (Prom ⟨K, mg⟩ 1 f_read_entry) :=
  fun_ok (N := ["words", "low", "high", "amount", "word"]) (ps := ["words"]) (np := 1) (k := 3) (g := m_read_entry) T.F_read_entry sc_read_entry rfl fun cdv A outer s H E hr =>
  (bx_cons (sx_if (tx_cmp (op_ne.or (op_neD (hr.units))) bok_ne (ex_callB call_len cok_len (by rfl) T.z_len boot_len (ax_cons (ex_v 0) ax_nil)) ex_int (nomark _)) (bx_cons (sx_retF ex_non)
  bx_nil) bx_nil)
  (bx_cons (sx_asgT (ex_lc (own := [("word", 4)]) rfl sc_read_entry.nd (ix_seq' (ex_v 0)) (blkOk_by (N := ["words", "low", "high", "amount", "word"]) (sc := defScope s_read_entry) (by decide +kernel)) (fun _ _ _ _ _ => (gx_name 4 sc_read_entry.nd)) (fun _ _ _ _ _ => tsx_nil) (fun _ _ _ _ _ => (ex_call (ms := [.rd]) (ok_read_number T) rfl (hr.mono (by decide)) (by rfl) T.g_read_number T.F_read_number.kp T.B_read_number (ax_cons (ex_v 4) ax_nil))) (by decide)) (gx_unl rfl (gx_cons (gx_name 1 sc_read_entry.nd) (gx_cons (gx_name 2 sc_read_entry.nd) (gx_cons (gx_name 3 sc_read_entry.nd) gx_nil))) (hl := (tg_len (tg_len (tg_len tg_len0))))) (tgUnl_nx (tgCons_nx bindD_nx (tgCons_nx bindD_nx (tgCons_nx bindD_nx tgNil_nx)))))
  (bx_cons (sx_if (tx_w (wx_or (tx_cmp op_isN bok_is (ex_v 1) ex_non (nomark _)) (wx_or (tx_cmp op_isN bok_is (ex_v 2) ex_non (nomark _)) (wx_or (tx_cmp op_isN bok_is (ex_v 3) ex_non (nomark _)) (wx_or (tx_cmp op_ge bok_ge (ex_v 1) (ex_v 2) (nomark _)) (wx_or1 (tx_not (tx_chain op_le bok_le op_le bok_le ex_int (ex_v 3) (ex_gint (by rfl) T.c_MAX_AMOUNT))))))))) (bx_cons (sx_retF ex_non)
  bx_nil) bx_nil)
  (bx_cons (sx_retF (ex_tup (ax_cons (ex_v 1) (ax_cons (ex_v 2) (ax_cons (ex_v 3) ax_nil)))))
  bx_nil))))
theorem ok_Table_parse (T : Facts K mg) : FnOk P w K mg base CX0 5 T.a_Table_parse T.d_Table_parse ["cls", "text"] (Prom ⟨K, mg⟩ 2 f_Table_parse) :=
  fun_ok (N := ["cls", "text", "entries", "number", "row", "entry"]) (ps := ["cls", "text"]) (np := 2) (k := 4) (g := m_Table_parse) T.F_Table_parse sc_Table_parse rfl fun cdv A outer s H E hr =>
  (bx_cons (sx_asg 2 sc_Table_parse.nd (ex_lst ax_nil))
  (bx_cons (sx_for PassesOwn.never rfl (ix_enum (by rfl) T.z_enumerate (ax_cons (ex_if (tx_cmp (op_ne.or (op_neD (hr.units))) bok_ne (ex_v 1) ex_str (nomark _)) (ex_pm PySem.F.plainAttrs_str pok_split ty_str PySem.F.slot_str_split PySem.F.type_str_split mt_split (ex_v 1) (ax_cons ex_str ax_nil)) (ex_lst ax_nil)) ax_nil)) (gx_tup rfl (gx_cons (gx_name 3 sc_Table_parse.nd) (gx_cons (gx_name 4 sc_Table_parse.nd) gx_nil)) (hl := (tg_len (tg_len tg_len0)))) (bx_adj [.no 3, .no 4, .no 5] (bx_cons (sx_adj [.fz 5] (sx_asg 5 sc_Table_parse.nd (ex_call (ms := [.rd]) (ok_read_entry T) rfl (hr.mono (by decide)) (by rfl) T.g_read_entry T.F_read_entry.kp T.B_read_entry (ax_cons (ex_pm PySem.F.plainAttrs_str pok_split ty_str PySem.F.slot_str_split PySem.F.type_str_split mt_split (ex_v 4) (ax_cons ex_str ax_nil)) ax_nil))))
  (bx_cons (sx_if (tx_cmp op_isN bok_is (ex_v 5) ex_non (nomark _)) (bx_cons sx_never
  bx_nil) bx_nil)
  (bx_cons (sx_exp (ex_mth 2 mok_app PySem.F.slot_list_append PySem.F.type_list_append mt_append (ax_cons (ex_v 5) ax_nil)))
  bx_nil)))) (tgTup_nx (tgCons_nx bindD_nx (tgCons_nx bindD_nx tgNil_nx))))
  (bx_cons (sx_pre [.fz 2] (sx_retF (ex_makeL (ms := [.rd]) 0 T.M_Table (ok_Table___init__ T) rfl (hr.mono (by decide)) T.cm_Table T.B_Table___init__ (ax_cons (ex_v 2) ax_nil))))
  bx_nil)))
theorem ok__law_entries (T : Facts K mg) : FnOk P w K mg base CX0 3 T.a__law_entries T.d__law_entries ["feed", "most"] (Prom ⟨K, mg⟩ 2 f__law_entries) :=
  fun_ok (N := ["feed", "most", "found", "turn", "low", "high"]) (ps := ["feed", "most"]) (np := 2) (k := 2) (g := m__law_entries) T.F__law_entries sc__law_entries rfl fun cdv A outer s H E hr =>
  (bx_cons (sx_asg 2 sc__law_entries.nd (ex_lst ax_nil))
  (bx_cons (sx_for PassesOwn.never rfl (ix_rng1 (by rfl) T.z_range (ax_cons (ex_call (ms := [.mt, .rd]) (ok__law_take T) rfl (hr.mono (by decide)) (by rfl) T.g__law_take T.F__law_take.kp T.B__law_take (ax_cons (ex_v 0) (ax_cons ex_int ax_nil))) ax_nil)) (gx_name 3 sc__law_entries.nd) (bx_adj [.no 3, .no 4, .no 5] (bx_cons (sx_asgT (ex_call (ms := [.mt, .rd]) (ok__law_interval T) rfl (hr.mono (by decide)) (by rfl) T.g__law_interval T.F__law_interval.kp T.B__law_interval (ax_cons (ex_v 0) (ax_cons (ex_v 1) ax_nil))) (gx_tup rfl (gx_cons (gx_name 4 sc__law_entries.nd) (gx_cons (gx_name 5 sc__law_entries.nd) gx_nil)) (hl := (tg_len (tg_len tg_len0)))) (tgTup_nx (tgCons_nx bindD_nx (tgCons_nx bindD_nx tgNil_nx))))
  (bx_cons (sx_if (tx_w (wx_and (tx_cmp (op_ne.or (op_neD (hr.units))) bok_ne (ex_v 2) (ex_lst ax_nil) (nomark _)) (wx_and1 (tx_cmp (op_eq.or (op_eqD (hr.units))) bok_eq (ex_call (ms := [.mt, .rd]) (ok__law_take T) rfl (hr.mono (by decide)) (by rfl) T.g__law_take T.F__law_take.kp T.B__law_take (ax_cons (ex_v 0) (ax_cons ex_int ax_nil))) ex_int (nomark _))))) (bx_adj [] (bx_cons (sx_asgT (ex_slice (ex_ix (ex_v 2) (ex_neg ex_int)) ox_none (ox_some ex_int)) (gx_tup rfl (gx_cons (gx_name 4 sc__law_entries.nd) (gx_cons (gx_name 5 sc__law_entries.nd) gx_nil)) (hl := (tg_len (tg_len tg_len0)))) (tgTup_nx (tgCons_nx bindD_nx (tgCons_nx bindD_nx tgNil_nx))))
  bx_nil)) (bx_adj [] bx_nil))
  (bx_cons (sx_exp (ex_mth 2 mok_app PySem.F.slot_list_append PySem.F.type_list_append mt_append (ax_cons (ex_tup (ax_cons (ex_v 4) (ax_cons (ex_v 5) (ax_cons (ex_call (ms := [.mt, .rd]) (ok__law_pick T) rfl (hr.mono (by decide)) (by rfl) T.g__law_pick T.F__law_pick.kp T.B__law_pick (ax_cons (ex_v 0) (ax_cons (ex_lst (ax_cons ex_int (ax_cons ex_int (ax_cons ex_int (ax_cons ex_int (ax_cons (ex_pow ex_int ex_int) (ax_cons (ex_call (ms := [.mt, .rd]) (ok__law_take T) rfl (hr.mono (by decide)) (by rfl) T.g__law_take T.F__law_take.kp T.B__law_take (ax_cons (ex_v 0) (ax_cons ex_int ax_nil))) ax_nil))))))) ax_nil))) ax_nil)))) ax_nil)))
  bx_nil)))) bindD_nx)
  (bx_cons (sx_ret (ex_v 2))
  bx_nil)))
theorem ok_law (T : Facts K mg) : GnOk P w K mg base 6 T.a_law T.d_law ["script"] (Prom ⟨K, mg⟩ 1 f_law_9) :=
  gn_ok (N := ["script", "k", "feed", "made", "many", "turn", "entries", "mine", "some", "table", "one", "other", "same", "thing"]) (ps := ["script"]) (np := 1) (k := 5) (g := m_law_9) T.F_law sc_law rfl fun cdv A outer s H hg hr =>
  (bx_cons (sx_for PassesOwn.never rfl (ix_rng1 (by rfl) T.z_range (ax_cons (ex_callB (call_max2 rfl) cok_max2 (by rfl) T.z_max boot_max (ax_cons ex_int (ax_cons (ex_callB (call_min2 rfl) cok_min2 (by rfl) T.z_min boot_min (ax_cons ex_int (ax_cons (ex_callB call_len cok_len (by rfl) T.z_len boot_len (ax_cons (ex_v 0) ax_nil)) ax_nil))) ax_nil))) ax_nil)) (gx_name 1 sc_law.nd) (bx_adj [.no 1, .no 2, .no 3, .no 4] (bx_cons (sx_asg 2 sc_law.nd (ex_call (ms := [.rd, .rd]) (ok__law_feed T) rfl (hr.mono (by decide)) (by rfl) T.g__law_feed T.F__law_feed.kp T.B__law_feed (ax_cons (ex_v 0) (ax_cons (ex_v 1) ax_nil))))
  (bx_cons (sx_adj [.fz 3, .fz 4] (sx_par2 3 4 rfl sc_law.nd (ux_cons W0.keep (ex_lst ax_nil) (ux_cons W0.keep (ex_call (ms := [.mt]) (ok__law_many T) rfl (hr.mono (by decide)) (by rfl) T.g__law_many T.F__law_many.kp T.B__law_many (ax_cons (ex_v 2) ax_nil)) ux_nil)) (by rfl)))
  (bx_cons (sx_if (tx_w (wx_or (tx_not (tx_tru (ex_gcall hg (ms := [.mt, .rd, .rd]) (ok__law_right T) rfl (hr.mono (by decide)) (by rfl) T.g__law_right T.F__law_right.kp T.B__law_right (ax_cons (ex_v 2) (ax_cons (ex_make (ms := [.rd]) T.M_Table (ok_Table___init__ T) rfl (hr.mono (by decide)) (by rfl) T.cm_Table T.B_Table___init__ (ax_cons (ex_v 4) ax_nil)) (ax_cons (ex_v 4) ax_nil)))))) (wx_or1 (tx_ownN ⟨T.cm_Table, T.cc_Table⟩ T.E_Table (ok_Table___eq__ T) T.B_Table___eq__ (hr.mono (by decide)) (ex_cm (ms := [.rd]) T.cm_Table (by rfl) ⟨T.rd_Table, T.ga_Table⟩ ⟨T.b_Table_parse, ⟨_, T.r_Table_parse⟩, T.j_Table_parse⟩ (ok_Table_parse T) T.B_Table_parse rfl (hr.mono (by decide)) (ax_cons (ex_strI ⟨T.cm_Table, T.cc_Table⟩ T.S_Table (ok_Table___str__ T) T.B_Table___str__ (hr.mono (by decide)) (by rfl) T.z_str (ex_make (ms := [.rd]) T.M_Table (ok_Table___init__ T) rfl (hr.mono (by decide)) (by rfl) T.cm_Table T.B_Table___init__ (ax_cons (ex_v 4) ax_nil))) ax_nil)) (ex_make (ms := [.rd]) T.M_Table (ok_Table___init__ T) rfl (hr.mono (by decide)) (by rfl) T.cm_Table T.B_Table___init__ (ax_cons (ex_v 4) ax_nil)))))) (bx_cons (sx_retF ex_bl)
  bx_nil) bx_nil)
  (bx_cons (sx_for PassesOwn.never rfl (ix_rng1 (by rfl) T.z_range (ax_cons ex_int ax_nil)) (gx_name 5 sc_law.nd) (bx_adj [.no 5, .no 6, .no 7, .no 8] (bx_cons (sx_adj [.fz 6] (sx_asg 6 sc_law.nd (ex_call (ms := [.mt, .rd]) (ok__law_entries T) rfl (hr.mono (by decide)) (by rfl) T.g__law_entries T.F__law_entries.kp T.B__law_entries (ax_cons (ex_v 2) (ax_cons ex_int ax_nil)))))
  (bx_cons (sx_asg 7 sc_law.nd (ex_callTy call_list_of cok_list (by rfl) T.z_list boot_list (ax_cons (ex_v 6) ax_nil)))
  (bx_cons (sx_adj [.fz 8] (sx_asg 8 sc_law.nd (ex_lst (ax_cons (ex_make (ms := [.bw]) T.M_Table (ok_Table___init__ T) rfl (hr.mono (by decide)) (by rfl) T.cm_Table T.B_Table___init__ (ax_cons (ex_v 7) ax_nil)) (ax_cons (ex_make (ms := [.rd]) T.M_Table (ok_Table___init__ T) rfl (hr.mono (by decide)) (by rfl) T.cm_Table T.B_Table___init__ (ax_cons (ex_callTy call_tuple_of cok_tuple (by rfl) T.z_tuple boot_tuple (ax_cons (ex_v 6) ax_nil)) ax_nil)) (ax_cons (ex_cm (ms := [.rd]) T.cm_Table (by rfl) ⟨T.rd_Table, T.ga_Table⟩ ⟨T.b_Table_parse, ⟨_, T.r_Table_parse⟩, T.j_Table_parse⟩ (ok_Table_parse T) T.B_Table_parse rfl (hr.mono (by decide)) (ax_cons (ex_strI ⟨T.cm_Table, T.cc_Table⟩ T.S_Table (ok_Table___str__ T) T.B_Table___str__ (hr.mono (by decide)) (by rfl) T.z_str (ex_make (ms := [.rd]) T.M_Table (ok_Table___init__ T) rfl (hr.mono (by decide)) (by rfl) T.cm_Table T.B_Table___init__ (ax_cons (ex_v 6) ax_nil))) ax_nil)) ax_nil))))))
  (bx_cons (sx_exp (ex_mth 7 mok_app PySem.F.slot_list_append PySem.F.type_list_append mt_append (ax_cons (ex_tup (ax_cons ex_int (ax_cons ex_int (ax_cons ex_int ax_nil)))) ax_nil)))
  (bx_cons (sx_for PassesOwn.never rfl (ix_seq' (ex_v 8)) (gx_name 9 sc_law.nd) (bx_adj [.no 9] (bx_cons (sx_if (tx_w (wx_or (tx_not (tx_tru (ex_gcall hg (ms := [.mt, .rd, .rd]) (ok__law_right T) rfl (hr.mono (by decide)) (by rfl) T.g__law_right T.F__law_right.kp T.B__law_right (ax_cons (ex_v 2) (ax_cons (ex_v 9) (ax_cons (ex_v 6) ax_nil)))))) (wx_or1 (tx_ownN ⟨T.cm_Table, T.cc_Table⟩ T.E_Table (ok_Table___eq__ T) T.B_Table___eq__ (hr.mono (by decide)) (ex_v 9) (ex_ix (ex_v 8) ex_int))))) (bx_cons (sx_retF ex_bl)
  bx_nil) bx_nil)
  bx_nil)) bindD_nx)
  (bx_cons (sx_adj [.fz 3] (sx_asg 3 sc_law.nd (ex_add (ex_add (ex_v 3) (ex_v 8)) (ex_lst (ax_cons (ex_make (ms := [.rd]) T.M_Table (ok_Table___init__ T) rfl (hr.mono (by decide)) (by rfl) T.cm_Table T.B_Table___init__ (ax_cons (ex_revL (ex_v 6)) ax_nil)) (ax_cons (ex_make (ms := [.rd]) T.M_Table (ok_Table___init__ T) rfl (hr.mono (by decide)) (by rfl) T.cm_Table T.B_Table___init__ (ax_cons (ex_slice (ex_v 6) (ox_some ex_int) ox_none) ax_nil)) ax_nil))))))
  bx_nil))))))) bindD_nx)
  (bx_cons (sx_for PassesOwn.never rfl (ix_seq' (ex_v 3)) (gx_name 10 sc_law.nd) (bx_adj [.no 10] (bx_cons (sx_for PassesOwn.never rfl (ix_seq' (ex_v 3)) (gx_name 11 sc_law.nd) (bx_adj [.no 11, .no 12] (bx_cons (sx_adj [.fz 12] (sx_asg 12 sc_law.nd (ex_cmp (op_eq.or (op_eqD (hr.units))) bok_eq (ex_strI ⟨T.cm_Table, T.cc_Table⟩ T.S_Table (ok_Table___str__ T) T.B_Table___str__ (hr.mono (by decide)) (by rfl) T.z_str (ex_v 10)) (ex_strI ⟨T.cm_Table, T.cc_Table⟩ T.S_Table (ok_Table___str__ T) T.B_Table___str__ (hr.mono (by decide)) (by rfl) T.z_str (ex_v 11)) (nomark _))))
  (bx_cons (sx_if (tx_w (wx_or (tx_cmp (op_ne.or (op_neD (hr.units))) bok_ne (ex_own ⟨T.cm_Table, T.cc_Table⟩ T.E_Table (ok_Table___eq__ T) T.B_Table___eq__ (hr.mono (by decide)) (ex_v 10) (ex_v 11)) (ex_v 12) (nomark _)) (wx_or1 (tx_cmp (op_eq.or (op_eqD (hr.units))) bok_eq (ex_ownN ⟨T.cm_Table, T.cc_Table⟩ T.E_Table (ok_Table___eq__ T) T.B_Table___eq__ (hr.mono (by decide)) (ex_v 10) (ex_v 11)) (ex_v 12) (nomark _))))) (bx_cons (sx_retF ex_bl)
  bx_nil) bx_nil)
  bx_nil))) bindD_nx)
  (bx_cons (sx_for PassesOwn.never rfl (ix_seq' (ex_lst (ax_cons (ex_fld ⟨T.cm_Table, T.cc_Table⟩ T.na_Table_entries (ex_v 10)) (ax_cons (ex_strI ⟨T.cm_Table, T.cc_Table⟩ T.S_Table (ok_Table___str__ T) T.B_Table___str__ (hr.mono (by decide)) (by rfl) T.z_str (ex_v 10)) (ax_cons ex_non (ax_cons ex_int (ax_cons (ex_lst ax_nil) ax_nil))))))) (gx_name 13 sc_law.nd) (bx_adj [.no 13] (bx_cons (sx_if (tx_w (wx_or (tx_own ⟨T.cm_Table, T.cc_Table⟩ T.E_Table (ok_Table___eq__ T) T.B_Table___eq__ (hr.mono (by decide)) (ex_v 10) (ex_v 13)) (wx_or1 (tx_not (tx_ownN ⟨T.cm_Table, T.cc_Table⟩ T.E_Table (ok_Table___eq__ T) T.B_Table___eq__ (hr.mono (by decide)) (ex_v 10) (ex_v 13)))))) (bx_cons (sx_retF ex_bl)
  bx_nil) bx_nil)
  bx_nil)) bindD_nx)
  bx_nil))) bindD_nx)
  bx_nil)))))) bindD_nx)
  (bx_cons (sx_retF ex_bl)
  bx_nil))
end
theorem all_mk {w : World} {K : PySem.W.Frag} {h : Heap} {mg : Str → Option Value} (X : K.In h) (G : h.Ns mainGlobals mg)
    {a__law_feed : Addr} {od__law_feed an__law_feed : Option Addr} {sl__law_feed : Array (Option Value)} {oc__law_feed kV__law_feed dc__law_feed pm__law_feed cd__law_feed ct__law_feed : Value}
    (n__law_feed : PySem.W.nsIn K mainGlobals "_law_feed" = some (some (.ref a__law_feed))) (l__law_feed : K.lookup a__law_feed = some ⟨oc__law_feed, od__law_feed, .func (PySem.W.fnOf "_law_feed" "_law_feed" (defArgs s__law_feed) (defBody s__law_feed) (defScope s__law_feed) .none kV__law_feed dc__law_feed pm__law_feed an__law_feed cd__law_feed ct__law_feed), sl__law_feed⟩) (q__law_feed : PySem.W.codeIn K cd__law_feed "_law_feed" = true) (k__law_feed : PySem.W.keepIn K (.ref a__law_feed) = true)
    {a__law_take : Addr} {od__law_take an__law_take : Option Addr} {sl__law_take : Array (Option Value)} {oc__law_take kV__law_take dc__law_take pm__law_take cd__law_take ct__law_take : Value}
    (n__law_take : PySem.W.nsIn K mainGlobals "_law_take" = some (some (.ref a__law_take))) (l__law_take : K.lookup a__law_take = some ⟨oc__law_take, od__law_take, .func (PySem.W.fnOf "_law_take" "_law_take" (defArgs s__law_take) (defBody s__law_take) (defScope s__law_take) .none kV__law_take dc__law_take pm__law_take an__law_take cd__law_take ct__law_take), sl__law_take⟩) (q__law_take : PySem.W.codeIn K cd__law_take "_law_take" = true) (k__law_take : PySem.W.keepIn K (.ref a__law_take) = true)
    {a__law_pick : Addr} {od__law_pick an__law_pick : Option Addr} {sl__law_pick : Array (Option Value)} {oc__law_pick kV__law_pick dc__law_pick pm__law_pick cd__law_pick ct__law_pick : Value}
    (n__law_pick : PySem.W.nsIn K mainGlobals "_law_pick" = some (some (.ref a__law_pick))) (l__law_pick : K.lookup a__law_pick = some ⟨oc__law_pick, od__law_pick, .func (PySem.W.fnOf "_law_pick" "_law_pick" (defArgs s__law_pick) (defBody s__law_pick) (defScope s__law_pick) .none kV__law_pick dc__law_pick pm__law_pick an__law_pick cd__law_pick ct__law_pick), sl__law_pick⟩) (q__law_pick : PySem.W.codeIn K cd__law_pick "_law_pick" = true) (k__law_pick : PySem.W.keepIn K (.ref a__law_pick) = true)
    {a__law_interval : Addr} {od__law_interval an__law_interval : Option Addr} {sl__law_interval : Array (Option Value)} {oc__law_interval kV__law_interval dc__law_interval pm__law_interval cd__law_interval ct__law_interval : Value}
    (n__law_interval : PySem.W.nsIn K mainGlobals "_law_interval" = some (some (.ref a__law_interval))) (l__law_interval : K.lookup a__law_interval = some ⟨oc__law_interval, od__law_interval, .func (PySem.W.fnOf "_law_interval" "_law_interval" (defArgs s__law_interval) (defBody s__law_interval) (defScope s__law_interval) .none kV__law_interval dc__law_interval pm__law_interval an__law_interval cd__law_interval ct__law_interval), sl__law_interval⟩) (q__law_interval : PySem.W.codeIn K cd__law_interval "_law_interval" = true) (k__law_interval : PySem.W.keepIn K (.ref a__law_interval) = true)
    {a__law_many : Addr} {od__law_many an__law_many : Option Addr} {sl__law_many : Array (Option Value)} {oc__law_many kV__law_many dc__law_many pm__law_many cd__law_many ct__law_many : Value}
    (n__law_many : PySem.W.nsIn K mainGlobals "_law_many" = some (some (.ref a__law_many))) (l__law_many : K.lookup a__law_many = some ⟨oc__law_many, od__law_many, .func (PySem.W.fnOf "_law_many" "_law_many" (defArgs s__law_many) (defBody s__law_many) (defScope s__law_many) .none kV__law_many dc__law_many pm__law_many an__law_many cd__law_many ct__law_many), sl__law_many⟩) (q__law_many : PySem.W.codeIn K cd__law_many "_law_many" = true) (k__law_many : PySem.W.keepIn K (.ref a__law_many) = true)
    {a__law_amount : Addr} {od__law_amount an__law_amount : Option Addr} {sl__law_amount : Array (Option Value)} {oc__law_amount kV__law_amount dc__law_amount pm__law_amount cd__law_amount ct__law_amount : Value}
    (n__law_amount : PySem.W.nsIn K mainGlobals "_law_amount" = some (some (.ref a__law_amount))) (l__law_amount : K.lookup a__law_amount = some ⟨oc__law_amount, od__law_amount, .func (PySem.W.fnOf "_law_amount" "_law_amount" (defArgs s__law_amount) (defBody s__law_amount) (defScope s__law_amount) .none kV__law_amount dc__law_amount pm__law_amount an__law_amount cd__law_amount ct__law_amount), sl__law_amount⟩) (q__law_amount : PySem.W.codeIn K cd__law_amount "_law_amount" = true) (k__law_amount : PySem.W.keepIn K (.ref a__law_amount) = true)
    {a__law_wear : Addr} {od__law_wear an__law_wear : Option Addr} {sl__law_wear : Array (Option Value)} {oc__law_wear kV__law_wear dc__law_wear pm__law_wear cd__law_wear ct__law_wear : Value}
    (n__law_wear : PySem.W.nsIn K mainGlobals "_law_wear" = some (some (.ref a__law_wear))) (l__law_wear : K.lookup a__law_wear = some ⟨oc__law_wear, od__law_wear, .func (PySem.W.fnOf "_law_wear" "_law_wear" (defArgs s__law_wear) (defBody s__law_wear) (defScope s__law_wear) .none kV__law_wear dc__law_wear pm__law_wear an__law_wear cd__law_wear ct__law_wear), sl__law_wear⟩) (q__law_wear : PySem.W.codeIn K cd__law_wear "_law_wear" = true) (k__law_wear : PySem.W.keepIn K (.ref a__law_wear) = true)
    {a__law_right : Addr} {od__law_right an__law_right : Option Addr} {sl__law_right : Array (Option Value)} {oc__law_right kV__law_right dc__law_right pm__law_right cd__law_right ct__law_right : Value}
    (n__law_right : PySem.W.nsIn K mainGlobals "_law_right" = some (some (.ref a__law_right))) (l__law_right : K.lookup a__law_right = some ⟨oc__law_right, od__law_right, .func (PySem.W.fnOf "_law_right" "_law_right" (defArgs s__law_right) (defBody s__law_right) (defScope s__law_right) .none kV__law_right dc__law_right pm__law_right an__law_right cd__law_right ct__law_right), sl__law_right⟩) (q__law_right : PySem.W.codeIn K cd__law_right "_law_right" = true) (k__law_right : PySem.W.keepIn K (.ref a__law_right) = true)
    {a_read_number : Addr} {od_read_number an_read_number : Option Addr} {sl_read_number : Array (Option Value)} {oc_read_number kV_read_number dc_read_number pm_read_number cd_read_number ct_read_number : Value}
    (n_read_number : PySem.W.nsIn K mainGlobals "read_number" = some (some (.ref a_read_number))) (l_read_number : K.lookup a_read_number = some ⟨oc_read_number, od_read_number, .func (PySem.W.fnOf "read_number" "read_number" (defArgs s_read_number) (defBody s_read_number) (defScope s_read_number) .none kV_read_number dc_read_number pm_read_number an_read_number cd_read_number ct_read_number), sl_read_number⟩) (q_read_number : PySem.W.codeIn K cd_read_number "read_number" = true) (k_read_number : PySem.W.keepIn K (.ref a_read_number) = true)
    {a_read_entry : Addr} {od_read_entry an_read_entry : Option Addr} {sl_read_entry : Array (Option Value)} {oc_read_entry kV_read_entry dc_read_entry pm_read_entry cd_read_entry ct_read_entry : Value}
    (n_read_entry : PySem.W.nsIn K mainGlobals "read_entry" = some (some (.ref a_read_entry))) (l_read_entry : K.lookup a_read_entry = some ⟨oc_read_entry, od_read_entry, .func (PySem.W.fnOf "read_entry" "read_entry" (defArgs s_read_entry) (defBody s_read_entry) (defScope s_read_entry) .none kV_read_entry dc_read_entry pm_read_entry an_read_entry cd_read_entry ct_read_entry), sl_read_entry⟩) (q_read_entry : PySem.W.codeIn K cd_read_entry "read_entry" = true) (k_read_entry : PySem.W.keepIn K (.ref a_read_entry) = true)
    {a__law_entries : Addr} {od__law_entries an__law_entries : Option Addr} {sl__law_entries : Array (Option Value)} {oc__law_entries kV__law_entries dc__law_entries pm__law_entries cd__law_entries ct__law_entries : Value}
    (n__law_entries : PySem.W.nsIn K mainGlobals "_law_entries" = some (some (.ref a__law_entries))) (l__law_entries : K.lookup a__law_entries = some ⟨oc__law_entries, od__law_entries, .func (PySem.W.fnOf "_law_entries" "_law_entries" (defArgs s__law_entries) (defBody s__law_entries) (defScope s__law_entries) .none kV__law_entries dc__law_entries pm__law_entries an__law_entries cd__law_entries ct__law_entries), sl__law_entries⟩) (q__law_entries : PySem.W.codeIn K cd__law_entries "_law_entries" = true) (k__law_entries : PySem.W.keepIn K (.ref a__law_entries) = true)
    {a_law : Addr} {od_law an_law : Option Addr} {sl_law : Array (Option Value)} {oc_law kV_law dc_law pm_law cd_law ct_law : Value}
    (n_law : PySem.W.nsIn K mainGlobals "law" = some (some (.ref a_law))) (l_law : K.lookup a_law = some ⟨oc_law, od_law, .func (PySem.W.fnOf "law" "law" (defArgs s_law) (defBody s_law) (defScope s_law) .none kV_law dc_law pm_law an_law cd_law ct_law), sl_law⟩) (q_law : PySem.W.codeIn K cd_law "law" = true) (k_law : PySem.W.keepIn K (.ref a_law) = true)
    {A_Table : Addr} (aC_Table : PySem.W.nsIn K mainGlobals "Table" = some (some (.ref A_Table))) (pg_Table : PySem.W.plainGet K A_Table Str.empty = true) (hd_Table : PySem.W.hasDictIn K A_Table = true) (po_Table : PySem.W.plainOver K A_Table = true) (sa_Table : PySem.W.findIn K (.ref A_Table) "__setattr__" = some (some (.builtin "object.__setattr__")))
    {a_Table___init__ : Addr}
    (f_Table___init__ : PySem.W.findIn K (.ref A_Table) "__init__" = some (some (.ref a_Table___init__))) (i_Table___init__ : PySem.W.isFn K (.ref a_Table___init__) = true)
    {od_Table___init__ an_Table___init__ : Option Addr} {sl_Table___init__ : Array (Option Value)} {oc_Table___init__ kV_Table___init__ dc_Table___init__ pm_Table___init__ cd_Table___init__ ct_Table___init__ : Value}
    (l_Table___init__ : K.lookup a_Table___init__ = some ⟨oc_Table___init__, od_Table___init__, .func (PySem.W.fnOf "__init__" "Table.__init__" (defArgs s_Table___init__) (defBody s_Table___init__) (defScope s_Table___init__) .none kV_Table___init__ dc_Table___init__ pm_Table___init__ an_Table___init__ cd_Table___init__ ct_Table___init__), sl_Table___init__⟩) (q_Table___init__ : PySem.W.codeIn K cd_Table___init__ "Table.__init__" = true) (k_Table___init__ : PySem.W.keepIn K (.ref a_Table___init__) = true)
    {a_Table___str__ : Addr}
    (f_Table___str__ : PySem.W.findIn K (.ref A_Table) "__str__" = some (some (.ref a_Table___str__))) (i_Table___str__ : PySem.W.isFn K (.ref a_Table___str__) = true)
    {od_Table___str__ an_Table___str__ : Option Addr} {sl_Table___str__ : Array (Option Value)} {oc_Table___str__ kV_Table___str__ dc_Table___str__ pm_Table___str__ cd_Table___str__ ct_Table___str__ : Value}
    (l_Table___str__ : K.lookup a_Table___str__ = some ⟨oc_Table___str__, od_Table___str__, .func (PySem.W.fnOf "__str__" "Table.__str__" (defArgs s_Table___str__) (defBody s_Table___str__) (defScope s_Table___str__) .none kV_Table___str__ dc_Table___str__ pm_Table___str__ an_Table___str__ cd_Table___str__ ct_Table___str__), sl_Table___str__⟩) (q_Table___str__ : PySem.W.codeIn K cd_Table___str__ "Table.__str__" = true) (k_Table___str__ : PySem.W.keepIn K (.ref a_Table___str__) = true)
    {a_Table_amount : Addr}
    (f_Table_amount : PySem.W.findIn K (.ref A_Table) "amount" = some (some (.ref a_Table_amount))) (i_Table_amount : PySem.W.isFn K (.ref a_Table_amount) = true)
    {od_Table_amount an_Table_amount : Option Addr} {sl_Table_amount : Array (Option Value)} {oc_Table_amount kV_Table_amount dc_Table_amount pm_Table_amount cd_Table_amount ct_Table_amount : Value}
    (l_Table_amount : K.lookup a_Table_amount = some ⟨oc_Table_amount, od_Table_amount, .func (PySem.W.fnOf "amount" "Table.amount" (defArgs s_Table_amount) (defBody s_Table_amount) (defScope s_Table_amount) .none kV_Table_amount dc_Table_amount pm_Table_amount an_Table_amount cd_Table_amount ct_Table_amount), sl_Table_amount⟩) (q_Table_amount : PySem.W.codeIn K cd_Table_amount "Table.amount" = true) (k_Table_amount : PySem.W.keepIn K (.ref a_Table_amount) = true)
    {a_Table_wear : Addr}
    (f_Table_wear : PySem.W.findIn K (.ref A_Table) "wear" = some (some (.ref a_Table_wear))) (i_Table_wear : PySem.W.isFn K (.ref a_Table_wear) = true)
    {od_Table_wear an_Table_wear : Option Addr} {sl_Table_wear : Array (Option Value)} {oc_Table_wear kV_Table_wear dc_Table_wear pm_Table_wear cd_Table_wear ct_Table_wear : Value}
    (l_Table_wear : K.lookup a_Table_wear = some ⟨oc_Table_wear, od_Table_wear, .func (PySem.W.fnOf "wear" "Table.wear" (defArgs s_Table_wear) (defBody s_Table_wear) (defScope s_Table_wear) .none kV_Table_wear dc_Table_wear pm_Table_wear an_Table_wear cd_Table_wear ct_Table_wear), sl_Table_wear⟩) (q_Table_wear : PySem.W.codeIn K cd_Table_wear "Table.wear" = true) (k_Table_wear : PySem.W.keepIn K (.ref a_Table_wear) = true)
    {a_Table___eq__ : Addr}
    (f_Table___eq__ : PySem.W.findIn K (.ref A_Table) "__eq__" = some (some (.ref a_Table___eq__))) (i_Table___eq__ : PySem.W.isFn K (.ref a_Table___eq__) = true)
    {od_Table___eq__ an_Table___eq__ : Option Addr} {sl_Table___eq__ : Array (Option Value)} {oc_Table___eq__ kV_Table___eq__ dc_Table___eq__ pm_Table___eq__ cd_Table___eq__ ct_Table___eq__ : Value}
    (l_Table___eq__ : K.lookup a_Table___eq__ = some ⟨oc_Table___eq__, od_Table___eq__, .func (PySem.W.fnOf "__eq__" "Table.__eq__" (defArgs s_Table___eq__) (defBody s_Table___eq__) (defScope s_Table___eq__) .none kV_Table___eq__ dc_Table___eq__ pm_Table___eq__ an_Table___eq__ cd_Table___eq__ ct_Table___eq__), sl_Table___eq__⟩) (q_Table___eq__ : PySem.W.codeIn K cd_Table___eq__ "Table.__eq__" = true) (k_Table___eq__ : PySem.W.keepIn K (.ref a_Table___eq__) = true)
    {a_Table_parse : Addr}
    {p_Table_parse : Addr} {rest_Table_parse : List Value} (b_Table_parse : PySem.W.findCls K (.ref A_Table) (.type "type") "parse" = some (.get (.builtin "classmethod.__get__") (.ref p_Table_parse) .none (.ref A_Table))) (r_Table_parse : PySem.W.recIn K p_Table_parse "classmethod" = some (.ref a_Table_parse :: rest_Table_parse)) (j_Table_parse : PySem.W.fnIn K a_Table_parse = true)
    {od_Table_parse an_Table_parse : Option Addr} {sl_Table_parse : Array (Option Value)} {oc_Table_parse kV_Table_parse dc_Table_parse pm_Table_parse cd_Table_parse ct_Table_parse : Value}
    (l_Table_parse : K.lookup a_Table_parse = some ⟨oc_Table_parse, od_Table_parse, .func (PySem.W.fnOf "parse" "Table.parse" (defArgs s_Table_parse) (defBody s_Table_parse) (defScope s_Table_parse) .none kV_Table_parse dc_Table_parse pm_Table_parse an_Table_parse cd_Table_parse ct_Table_parse), sl_Table_parse⟩) (q_Table_parse : PySem.W.codeIn K cd_Table_parse "Table.parse" = true) (k_Table_parse : PySem.W.keepIn K (.ref a_Table_parse) = true)
    (na_Table_entries : PySem.W.findIn K (.ref A_Table) "entries" = some none)
    (mk_Table : PySem.W.makesIn K A_Table = true) (kc_Table : PySem.W.keepIn K (.ref A_Table) = true)
    (rd_Table : PySem.W.readsIn K A_Table (.type "type") = true) (ga_Table : PySem.W.specialIn K (.ref A_Table) "__getattribute__" = some (some (.builtin "type.__getattribute__")))
    (e1_Table : PySem.W.findIn K (.ref A_Table) "__eq__" = some (some (.ref a_Table___eq__))) (e2_Table : PySem.W.isFn K (.ref a_Table___eq__) = true) (e3_Table : PySem.W.findIn K (.ref A_Table) "__ne__" = some (some (.builtin "object.__ne__"))) (e4_Table : PySem.W.mroIn K A_Table (.type "object") = some true)
    (j1_Table : PySem.W.findIn K (.ref A_Table) "__class__" = some (some (.builtin "object.__class__"))) (j2_Table : PySem.W.specialIn K (.builtin "object.__class__") "__get__" = some (some (.builtin "getset_descriptor.__get__"))) (j3_Table : PySem.W.takesIn K (.builtin "object.__class__") = some true) (j4_Table : PySem.W.mroIn K A_Table (.type "object") = some true) (j5_Table : PySem.W.isClsIn K A_Table = true) (j6_Table : PySem.W.typeIn K (.ref A_Table) = some (.type "type"))
    (s1_Table : PySem.W.findIn K (.ref A_Table) "__str__" = some (some (.ref a_Table___str__))) (s2_Table : PySem.W.isFn K (.ref a_Table___str__) = true)
    {t_DIGITS : Tok} (c_DIGITS : PySem.W.nsIn K mainGlobals "DIGITS" = some (some (.str "0123456789" t_DIGITS)))
    {t_MAX_AMOUNT : Tok} (c_MAX_AMOUNT : PySem.W.nsIn K mainGlobals "MAX_AMOUNT" = some (some (.int 1000000 t_MAX_AMOUNT)))
    {t_MOST : Tok} (c_MOST : PySem.W.nsIn K mainGlobals "MOST" = some (some (.int 1000000000 t_MOST)))
    (z_abs : PySem.W.nsIn K mainGlobals "abs" = some none)
    (z_all : PySem.W.nsIn K mainGlobals "all" = some none)
    (z_enumerate : PySem.W.nsIn K mainGlobals "enumerate" = some none)
    (z_int : PySem.W.nsIn K mainGlobals "int" = some none)
    (z_isinstance : PySem.W.nsIn K mainGlobals "isinstance" = some none)
    (z_len : PySem.W.nsIn K mainGlobals "len" = some none)
    (z_list : PySem.W.nsIn K mainGlobals "list" = some none)
    (z_max : PySem.W.nsIn K mainGlobals "max" = some none)
    (z_min : PySem.W.nsIn K mainGlobals "min" = some none)
    (z_range : PySem.W.nsIn K mainGlobals "range" = some none)
    (z_repr : PySem.W.nsIn K mainGlobals "repr" = some none)
    (z_str : PySem.W.nsIn K mainGlobals "str" = some none)
    (z_sum : PySem.W.nsIn K mainGlobals "sum" = some none)
    (z_tuple : PySem.W.nsIn K mainGlobals "tuple" = some none)
    {fa : Addr} (hfa : mg "law" = some (.ref fa)) : ∃ T : Facts K mg, T.a_law = fa ∧ ∀ (s : Shared) (v : Value), BindsTo s T.d_law ⟨[v], []⟩ [("script", v)] := by
  have e := hfa.symm.trans (PySem.W.mg_of X G n_law)
  cases e
  have F__law_feed := fun_mk (st := s__law_feed) l__law_feed q__law_feed k__law_feed
  have B__law_feed := F__law_feed.binds (ps := ["script", "k"]) fun _ _ _ _ _ _ us hl => match us, hl with | [_, _], _ => rfl
  have F__law_take := fun_mk (st := s__law_take) l__law_take q__law_take k__law_take
  have B__law_take := F__law_take.binds (ps := ["feed", "many"]) fun _ _ _ _ _ _ us hl => match us, hl with | [_, _], _ => rfl
  have F__law_pick := fun_mk (st := s__law_pick) l__law_pick q__law_pick k__law_pick
  have B__law_pick := F__law_pick.binds (ps := ["feed", "some"]) fun _ _ _ _ _ _ us hl => match us, hl with | [_, _], _ => rfl
  have F__law_interval := fun_mk (st := s__law_interval) l__law_interval q__law_interval k__law_interval
  have B__law_interval := F__law_interval.binds (ps := ["feed", "most"]) fun _ _ _ _ _ _ us hl => match us, hl with | [_, _], _ => rfl
  have F__law_many := fun_mk (st := s__law_many) l__law_many q__law_many k__law_many
  have B__law_many := F__law_many.binds (ps := ["feed"]) fun _ _ _ _ _ _ us hl => match us, hl with | [_], _ => rfl
  have F__law_amount := fun_mk (st := s__law_amount) l__law_amount q__law_amount k__law_amount
  have B__law_amount := F__law_amount.binds (ps := ["entries", "low", "high"]) fun _ _ _ _ _ _ us hl => match us, hl with | [_, _, _], _ => rfl
  have F__law_wear := fun_mk (st := s__law_wear) l__law_wear q__law_wear k__law_wear
  have B__law_wear := F__law_wear.binds (ps := ["entries", "ranges"]) fun _ _ _ _ _ _ us hl => match us, hl with | [_, _], _ => rfl
  have F__law_right := fun_mk (st := s__law_right) l__law_right q__law_right k__law_right
  have B__law_right := F__law_right.binds (ps := ["feed", "table", "entries"]) fun _ _ _ _ _ _ us hl => match us, hl with | [_, _, _], _ => rfl
  have F_read_number := fun_mk (st := s_read_number) l_read_number q_read_number k_read_number
  have B_read_number := F_read_number.binds (ps := ["word"]) fun _ _ _ _ _ _ us hl => match us, hl with | [_], _ => rfl
  have F_read_entry := fun_mk (st := s_read_entry) l_read_entry q_read_entry k_read_entry
  have B_read_entry := F_read_entry.binds (ps := ["words"]) fun _ _ _ _ _ _ us hl => match us, hl with | [_], _ => rfl
  have F__law_entries := fun_mk (st := s__law_entries) l__law_entries q__law_entries k__law_entries
  have B__law_entries := F__law_entries.binds (ps := ["feed", "most"]) fun _ _ _ _ _ _ us hl => match us, hl with | [_, _], _ => rfl
  have F_law := fun_mk (st := s_law) l_law q_law k_law
  have B_law := F_law.binds (ps := ["script"]) fun _ _ _ _ _ _ us hl => match us, hl with | [_], _ => rfl
  have F_Table___init__ := fun_mk (st := s_Table___init__) l_Table___init__ q_Table___init__ k_Table___init__
  have B_Table___init__ := F_Table___init__.binds (ps := ["self", "entries"]) fun _ _ _ _ _ _ us hl => match us, hl with | [_, _], _ => rfl
  have F_Table___str__ := fun_mk (st := s_Table___str__) l_Table___str__ q_Table___str__ k_Table___str__
  have B_Table___str__ := F_Table___str__.binds (ps := ["self"]) fun _ _ _ _ _ _ us hl => match us, hl with | [_], _ => rfl
  have F_Table_amount := fun_mk (st := s_Table_amount) l_Table_amount q_Table_amount k_Table_amount
  have B_Table_amount := F_Table_amount.binds (ps := ["self", "low", "high"]) fun _ _ _ _ _ _ us hl => match us, hl with | [_, _, _], _ => rfl
  have F_Table_wear := fun_mk (st := s_Table_wear) l_Table_wear q_Table_wear k_Table_wear
  have B_Table_wear := F_Table_wear.binds (ps := ["self", "ranges"]) fun _ _ _ _ _ _ us hl => match us, hl with | [_, _], _ => rfl
  have F_Table___eq__ := fun_mk (st := s_Table___eq__) l_Table___eq__ q_Table___eq__ k_Table___eq__
  have B_Table___eq__ := F_Table___eq__.binds (ps := ["self", "other"]) fun _ _ _ _ _ _ us hl => match us, hl with | [_, _], _ => rfl
  have F_Table_parse := fun_mk (st := s_Table_parse) l_Table_parse q_Table_parse k_Table_parse
  have B_Table_parse := F_Table_parse.binds (ps := ["cls", "text"]) fun _ _ _ _ _ _ us hl => match us, hl with | [_, _], _ => rfl
  exact ⟨⟨a__law_feed, _, F__law_feed, B__law_feed, PySem.W.mg_of X G n__law_feed,
    a__law_take, _, F__law_take, B__law_take, PySem.W.mg_of X G n__law_take,
    a__law_pick, _, F__law_pick, B__law_pick, PySem.W.mg_of X G n__law_pick,
    a__law_interval, _, F__law_interval, B__law_interval, PySem.W.mg_of X G n__law_interval,
    a__law_many, _, F__law_many, B__law_many, PySem.W.mg_of X G n__law_many,
    a_Table___init__, _, F_Table___init__, B_Table___init__,
    a_Table___str__, _, F_Table___str__, B_Table___str__,
    a_Table_amount, _, F_Table_amount, B_Table_amount,
    a__law_amount, _, F__law_amount, B__law_amount, PySem.W.mg_of X G n__law_amount,
    a_Table_wear, _, F_Table_wear, B_Table_wear,
    a__law_wear, _, F__law_wear, B__law_wear, PySem.W.mg_of X G n__law_wear,
    a_Table___eq__, _, F_Table___eq__, B_Table___eq__,
    a__law_right, _, F__law_right, B__law_right, PySem.W.mg_of X G n__law_right,
    a_read_number, _, F_read_number, B_read_number, PySem.W.mg_of X G n_read_number,
    a_read_entry, _, F_read_entry, B_read_entry, PySem.W.mg_of X G n_read_entry,
    a_Table_parse, _, F_Table_parse, B_Table_parse,
    a__law_entries, _, F__law_entries, B__law_entries, PySem.W.mg_of X G n__law_entries,
    a_law, _, F_law, B_law, PySem.W.mg_of X G n_law,
    A_Table, PySem.W.mg_of X G aC_Table, ⟨pg_Table, hd_Table, po_Table, sa_Table⟩,
    na_Table_entries,
    ⟨mk_Table, f_Table___init__, i_Table___init__, kc_Table⟩,
    rd_Table, ga_Table,
    ⟨e1_Table, e2_Table, e3_Table, e4_Table⟩,
    ⟨j1_Table, j2_Table, j3_Table, j4_Table, j5_Table, j6_Table⟩,
    ⟨s1_Table, s2_Table⟩,
    f_Table___str__, i_Table___str__,
    f_Table_amount, i_Table_amount,
    f_Table_wear, i_Table_wear,
    f_Table___eq__, i_Table___eq__,
    p_Table_parse, rest_Table_parse, b_Table_parse, r_Table_parse, j_Table_parse,
    _, PySem.W.mg_of X G c_DIGITS,
    _, PySem.W.mg_of X G c_MAX_AMOUNT,
    _, PySem.W.mg_of X G c_MOST,
    PySem.W.mg_none_of X G z_abs,
    PySem.W.mg_none_of X G z_all,
    PySem.W.mg_none_of X G z_enumerate,
    PySem.W.mg_none_of X G z_int,
    PySem.W.mg_none_of X G z_isinstance,
    PySem.W.mg_none_of X G z_len,
    PySem.W.mg_none_of X G z_list,
    PySem.W.mg_none_of X G z_max,
    PySem.W.mg_none_of X G z_min,
    PySem.W.mg_none_of X G z_range,
    PySem.W.mg_none_of X G z_repr,
    PySem.W.mg_none_of X G z_str,
    PySem.W.mg_none_of X G z_sum,
    PySem.W.mg_none_of X G z_tuple⟩, rfl, fun s v => .of_eq rfl⟩
end Wk

open PySem PySem.W PyProof.Rows
theorem law_typed : ∀ ns : List Int, ns.length ≤ 63 → ∃ ms, Mi.f_law_9 [.fz (.scr ns)] = .ok (.fz (.bl true)) ms := fun ns hn => by
  have h := Ty.c_law_9 ns
  rw [K50.law_ok ns hn] at h
  exact ⟨_, h⟩
set_option maxHeartbeats 0 in
theorem PySem.Challenge.cw_wearswings_k50_tables_holds : PySem.Challenge.rw_wearswings_k50_tables.Holds := by
  w_on; o_law; k_head; (case hw => w_witness2)
  k_fill
  refine PL.law_done (l := PySem.Challenge.rw_wearswings_k50_tables) (n := 63) (k := 6) (x := "script") (fn := Mi.f_law_9) rfl (by decide) rfl ⟨rfl, by decide, by decide⟩ (fun w h Y => PySem.W.kIn_of Y) ?F law_typed
  case F =>
    intro w mg fa h KX G hmg
    obtain ⟨T, e1, e2⟩ : ∃ T : Wk.Facts _ mg, T.a_law = fa ∧ ∀ (s : PySem.Shared) (v : PySem.Value), BindsTo s T.d_law ⟨[v], []⟩ [("script", v)] := by
      refine' Wk.all_mk (w := w) KX G ?n__law_feed ?l__law_feed ?q__law_feed ?k__law_feed ?n__law_take ?l__law_take ?q__law_take ?k__law_take ?n__law_pick ?l__law_pick ?q__law_pick ?k__law_pick ?n__law_interval ?l__law_interval ?q__law_interval ?k__law_interval ?n__law_many ?l__law_many ?q__law_many ?k__law_many ?n__law_amount ?l__law_amount ?q__law_amount ?k__law_amount ?n__law_wear ?l__law_wear ?q__law_wear ?k__law_wear ?n__law_right ?l__law_right ?q__law_right ?k__law_right ?n_read_number ?l_read_number ?q_read_number ?k_read_number ?n_read_entry ?l_read_entry ?q_read_entry ?k_read_entry ?n__law_entries ?l__law_entries ?q__law_entries ?k__law_entries ?n_law ?l_law ?q_law ?k_law ?aC_Table ?pg_Table ?hd_Table ?po_Table ?sa_Table ?f_Table___init__ ?i_Table___init__ ?l_Table___init__ ?q_Table___init__ ?k_Table___init__ ?f_Table___str__ ?i_Table___str__ ?l_Table___str__ ?q_Table___str__ ?k_Table___str__ ?f_Table_amount ?i_Table_amount ?l_Table_amount ?q_Table_amount ?k_Table_amount ?f_Table_wear ?i_Table_wear ?l_Table_wear ?q_Table_wear ?k_Table_wear ?f_Table___eq__ ?i_Table___eq__ ?l_Table___eq__ ?q_Table___eq__ ?k_Table___eq__ ?b_Table_parse ?r_Table_parse ?j_Table_parse ?l_Table_parse ?q_Table_parse ?k_Table_parse ?na_Table_entries ?mk_Table ?kc_Table ?rd_Table ?ga_Table ?e1_Table ?e2_Table ?e3_Table ?e4_Table ?j1_Table ?j2_Table ?j3_Table ?j4_Table ?j5_Table ?j6_Table ?s1_Table ?s2_Table ?c_DIGITS ?c_MAX_AMOUNT ?c_MOST ?z_abs ?z_all ?z_enumerate ?z_int ?z_isinstance ?z_len ?z_list ?z_max ?z_min ?z_range ?z_repr ?z_str ?z_sum ?z_tuple hmg
      (case n__law_feed => k_is); (case l__law_feed => k_is); (case q__law_feed => k_is); (case k__law_feed => k_is); (case n__law_take => k_is); (case l__law_take => k_is); (case q__law_take => k_is); (case k__law_take => k_is); (case n__law_pick => k_is); (case l__law_pick => k_is); (case q__law_pick => k_is); (case k__law_pick => k_is); (case n__law_interval => k_is); (case l__law_interval => k_is); (case q__law_interval => k_is); (case k__law_interval => k_is); (case n__law_many => k_is); (case l__law_many => k_is); (case q__law_many => k_is); (case k__law_many => k_is); (case n__law_amount => k_is); (case l__law_amount => k_is); (case q__law_amount => k_is); (case k__law_amount => k_is); (case n__law_wear => k_is); (case l__law_wear => k_is); (case q__law_wear => k_is); (case k__law_wear => k_is); (case n__law_right => k_is); (case l__law_right => k_is); (case q__law_right => k_is); (case k__law_right => k_is); (case n_read_number => k_is); (case l_read_number => k_is); (case q_read_number => k_is); (case k_read_number => k_is); (case n_read_entry => k_is); (case l_read_entry => k_is); (case q_read_entry => k_is); (case k_read_entry => k_is); (case n__law_entries => k_is); (case l__law_entries => k_is); (case q__law_entries => k_is); (case k__law_entries => k_is); (case n_law => k_is); (case l_law => k_is); (case q_law => k_is); (case k_law => k_is); (case aC_Table => k_is); (case pg_Table => k_is); (case hd_Table => k_is); (case po_Table => k_is); (case sa_Table => k_is); (case f_Table___init__ => k_is); (case i_Table___init__ => k_is); (case l_Table___init__ => k_is); (case q_Table___init__ => k_is); (case k_Table___init__ => k_is); (case f_Table___str__ => k_is); (case i_Table___str__ => k_is); (case l_Table___str__ => k_is); (case q_Table___str__ => k_is); (case k_Table___str__ => k_is); (case f_Table_amount => k_is); (case i_Table_amount => k_is); (case l_Table_amount => k_is); (case q_Table_amount => k_is); (case k_Table_amount => k_is); (case f_Table_wear => k_is); (case i_Table_wear => k_is); (case l_Table_wear => k_is); (case q_Table_wear => k_is); (case k_Table_wear => k_is); (case f_Table___eq__ => k_is); (case i_Table___eq__ => k_is); (case l_Table___eq__ => k_is); (case q_Table___eq__ => k_is); (case k_Table___eq__ => k_is); (case b_Table_parse => k_is); (case r_Table_parse => k_is); (case j_Table_parse => k_is); (case l_Table_parse => k_is); (case q_Table_parse => k_is); (case k_Table_parse => k_is); (case na_Table_entries => k_is); (case mk_Table => k_is); (case kc_Table => k_is); (case rd_Table => k_is); (case ga_Table => k_is); (case e1_Table => k_is); (case e2_Table => k_is); (case e3_Table => k_is); (case e4_Table => k_is); (case j1_Table => k_is); (case j2_Table => k_is); (case j3_Table => k_is); (case j4_Table => k_is); (case j5_Table => k_is); (case j6_Table => k_is); (case s1_Table => k_is); (case s2_Table => k_is); (case c_DIGITS => k_is); (case c_MAX_AMOUNT => k_is); (case c_MOST => k_is); (case z_abs => k_is); (case z_all => k_is); (case z_enumerate => k_is); (case z_int => k_is); (case z_isinstance => k_is); (case z_len => k_is); (case z_list => k_is); (case z_max => k_is); (case z_min => k_is); (case z_range => k_is); (case z_repr => k_is); (case z_str => k_is); (case z_sum => k_is); (case z_tuple => k_is)
    subst e1
    exact ⟨T.d_law, e2, fun base _ _ => Wk.ok_law T⟩
